/- The statement FnExactTakeOf holds: plain functions, certificates, laws. Conditions: none. -/
import Derived.Test.YtnfikhfcblcmpaaL2
import Derived.Test.YtnfikhfcblcmpaaFnExactTakeOfP0
set_option linter.all false
section
open Go.Proofs
namespace Go.Ab.T
set_option linter.unusedVariables false
set_option maxRecDepth 100000
noncomputable def I89 : Info := { body := (Try.f89.body).getD .skip, nt := 95, results := [.tmp 2], keep := [0, 2, 4, 52, 88, 92, 94, 104, 124, 142, 162, 180, 3], live := [], modes := [(1, [(3, .take, false), (9, .take, false), (13, .take, false)]), (3, [(3, .take, false), (8, .take, false), (12, .take, false)]), (9, [(3, .take, false)]), (11, [(3, .take, false)]), (13, [(3, .take, false)]), (15, [(3, .take, false)])], ext := [], lnt := [], casts := [], fcast := [] }
theorem fk89 : FnOk Try.prog 89 Try.f89 I89 := ⟨Try.func89, by kernel_rfl, by kernel_rfl, by kernel_rfl, by kernel_rfl⟩
theorem p89_e_0 (a0 : Val) : run tt (AbsCalls Try.prog) I89 3000 false [.code I89.body] ⟨(zBi 0 (xAu a0)), [true, true, true], [], []⟩ = some (.done (xAq false) [(((Val.kind a0) : Int) != 3) = true, (decide (((List.length (Val.list a0) : Int) : Int) > 0)) = true, true = true]) := by kernel_rfl
theorem p89_e_1 (a0 : Val) : run tt (AbsCalls Try.prog) I89 3000 false [.code I89.body] ⟨(zBi 0 (xAu a0)), [true, false, true, true], [], []⟩ = some (.done (xAq false) [(((Val.kind a0) : Int) != 3) = true, (decide (((List.length (Val.list a0) : Int) : Int) > 0)) = false, (((Val.kind a0) : Int) != 5) = true, (decide (((IntKind.i64.wrap ((List.length (Val.columns a0) : Int) + (List.length (Val.rows a0) : Int))) : Int) > 0)) = true]) := by kernel_rfl
theorem p89_e_2 (a0 : Val) : run tt (AbsCalls Try.prog) I89 3000 false [.code I89.body] ⟨(zBi 0 (xAu a0)), [true, false, true, false, true, true, true], [], []⟩ = some (.done (xAq false) [(((Val.kind a0) : Int) != 3) = true, (decide (((List.length (Val.list a0) : Int) : Int) > 0)) = false, (((Val.kind a0) : Int) != 5) = true, (decide (((IntKind.i64.wrap ((List.length (Val.columns a0) : Int) + (List.length (Val.rows a0) : Int))) : Int) > 0)) = false, (((Val.kind a0) : Int) != 2) = true, (!(((Val.text a0) : Str) == [])) = true, true = true]) := by kernel_rfl
theorem p89_e_3 (a0 : Val) : run tt (AbsCalls Try.prog) I89 3000 false [.code I89.body] ⟨(zBi 0 (xAu a0)), [true, false, true, false, true, false, true, true], [], []⟩ = some (.done (xAq false) [(((Val.kind a0) : Int) != 3) = true, (decide (((List.length (Val.list a0) : Int) : Int) > 0)) = false, (((Val.kind a0) : Int) != 5) = true, (decide (((IntKind.i64.wrap ((List.length (Val.columns a0) : Int) + (List.length (Val.rows a0) : Int))) : Int) > 0)) = false, (((Val.kind a0) : Int) != 2) = true, (!(((Val.text a0) : Str) == [])) = false, (((Val.kind a0) : Int) != 4) = true, (((Val.step a0) : Int) != 0) = true]) := by kernel_rfl
theorem p89_e_4 (a0 : Val) (r1 : Bool) : run tt (AbsCalls Try.prog) I89 3000 false [.code I89.body] ⟨(zBi 0 (xAu a0)), [true, false, true, false, true, false, true, false, true], [xA2 r1], []⟩ = some (.done (xAq r1) [(((Val.kind a0) : Int) != 3) = true, (decide (((List.length (Val.list a0) : Int) : Int) > 0)) = false, (((Val.kind a0) : Int) != 5) = true, (decide (((IntKind.i64.wrap ((List.length (Val.columns a0) : Int) + (List.length (Val.rows a0) : Int))) : Int) > 0)) = false, (((Val.kind a0) : Int) != 2) = true, (!(((Val.text a0) : Str) == [])) = false, (((Val.kind a0) : Int) != 4) = true, (((Val.step a0) : Int) != 0) = false, (((Val.kind a0) : Int) == 1) = true, AbC 49 (xCa (Val.n a0)) (xA2 r1)]) := by kernel_rfl
theorem p89_e_5 (a0 : Val) (r1 : Bool) : run tt (AbsCalls Try.prog) I89 3000 false [.code I89.body] ⟨(zBi 0 (xAu a0)), [true, false, true, false, true, false, true, false, false, false, false, false, false, true], [xCd r1], []⟩ = some (.done (xAq r1) [(((Val.kind a0) : Int) != 3) = true, (decide (((List.length (Val.list a0) : Int) : Int) > 0)) = false, (((Val.kind a0) : Int) != 5) = true, (decide (((IntKind.i64.wrap ((List.length (Val.columns a0) : Int) + (List.length (Val.rows a0) : Int))) : Int) > 0)) = false, (((Val.kind a0) : Int) != 2) = true, (!(((Val.text a0) : Str) == [])) = false, (((Val.kind a0) : Int) != 4) = true, (((Val.step a0) : Int) != 0) = false, (((Val.kind a0) : Int) == 1) = false, (((Val.kind a0) : Int) == 2) = false, (((Val.kind a0) : Int) == 3) = false, (((Val.kind a0) : Int) == 4) = false, (((Val.kind a0) : Int) == 5) = false, (((Val.kind a0) : Int) == 6) = true, AbC 54 (xDU (Val.n a0) 1 8) (xCd r1)]) := by kernel_rfl
theorem p89_e_6 (a0 : Val) : run tt (AbsCalls Try.prog) I89 3000 false [.code I89.body] ⟨(zBi 0 (xAu a0)), [true, false, true, false, true, false, true, false, false, false, false, false, false, false], [], []⟩ = some (.done (xAq false) [(((Val.kind a0) : Int) != 3) = true, (decide (((List.length (Val.list a0) : Int) : Int) > 0)) = false, (((Val.kind a0) : Int) != 5) = true, (decide (((IntKind.i64.wrap ((List.length (Val.columns a0) : Int) + (List.length (Val.rows a0) : Int))) : Int) > 0)) = false, (((Val.kind a0) : Int) != 2) = true, (!(((Val.text a0) : Str) == [])) = false, (((Val.kind a0) : Int) != 4) = true, (((Val.step a0) : Int) != 0) = false, (((Val.kind a0) : Int) == 1) = false, (((Val.kind a0) : Int) == 2) = false, (((Val.kind a0) : Int) == 3) = false, (((Val.kind a0) : Int) == 4) = false, (((Val.kind a0) : Int) == 5) = false, (((Val.kind a0) : Int) == 6) = false]) := by kernel_rfl
theorem p89_e_7 (a0 : Val) (r1 r2 : Bool) : run tt (AbsCalls Try.prog) I89 3000 false [.code I89.body] ⟨(zBi 0 (xAu a0)), [true, false, true, false, true, false, false, false, false, false, false, true, true], [xA2 r1, xA2 r2], []⟩ = some (.done (xAq r2) [(((Val.kind a0) : Int) != 3) = true, (decide (((List.length (Val.list a0) : Int) : Int) > 0)) = false, (((Val.kind a0) : Int) != 5) = true, (decide (((IntKind.i64.wrap ((List.length (Val.columns a0) : Int) + (List.length (Val.rows a0) : Int))) : Int) > 0)) = false, (((Val.kind a0) : Int) != 2) = true, (!(((Val.text a0) : Str) == [])) = false, (((Val.kind a0) : Int) != 4) = false, false = false, (((Val.kind a0) : Int) == 1) = false, (((Val.kind a0) : Int) == 2) = false, (((Val.kind a0) : Int) == 3) = false, (((Val.kind a0) : Int) == 4) = true, AbC 49 (xCa (Val.n a0)) (xA2 r1), r1 = true, AbC 49 (xCa (Val.step a0)) (xA2 r2)]) := by kernel_rfl
theorem p89_e_8 (a0 : Val) (r1 : Bool) : run tt (AbsCalls Try.prog) I89 3000 false [.code I89.body] ⟨(zBi 0 (xAu a0)), [true, false, true, false, true, false, false, false, false, false, false, true, false], [xA2 r1], []⟩ = some (.done (xAq false) [(((Val.kind a0) : Int) != 3) = true, (decide (((List.length (Val.list a0) : Int) : Int) > 0)) = false, (((Val.kind a0) : Int) != 5) = true, (decide (((IntKind.i64.wrap ((List.length (Val.columns a0) : Int) + (List.length (Val.rows a0) : Int))) : Int) > 0)) = false, (((Val.kind a0) : Int) != 2) = true, (!(((Val.text a0) : Str) == [])) = false, (((Val.kind a0) : Int) != 4) = false, false = false, (((Val.kind a0) : Int) == 1) = false, (((Val.kind a0) : Int) == 2) = false, (((Val.kind a0) : Int) == 3) = false, (((Val.kind a0) : Int) == 4) = true, AbC 49 (xCa (Val.n a0)) (xA2 r1), r1 = false]) := by kernel_rfl
theorem p89_e_9 (a0 : Val) : run tt (AbsCalls Try.prog) I89 3000 false [.code I89.body] ⟨(zBi 0 (xAu a0)), [true, false, true, false, false, false, true, true], [], []⟩ = some (.done (xAq false) [(((Val.kind a0) : Int) != 3) = true, (decide (((List.length (Val.list a0) : Int) : Int) > 0)) = false, (((Val.kind a0) : Int) != 5) = true, (decide (((IntKind.i64.wrap ((List.length (Val.columns a0) : Int) + (List.length (Val.rows a0) : Int))) : Int) > 0)) = false, (((Val.kind a0) : Int) != 2) = false, false = false, (((Val.kind a0) : Int) != 4) = true, (((Val.step a0) : Int) != 0) = true]) := by kernel_rfl
theorem p89_e_10 (a0 : Val) (r1 : Bool) : run tt (AbsCalls Try.prog) I89 3000 false [.code I89.body] ⟨(zBi 0 (xAu a0)), [true, false, true, false, false, false, true, false, false, true, true], [xB4 r1], []⟩ = some (.done (xAq r1) [(((Val.kind a0) : Int) != 3) = true, (decide (((List.length (Val.list a0) : Int) : Int) > 0)) = false, (((Val.kind a0) : Int) != 5) = true, (decide (((IntKind.i64.wrap ((List.length (Val.columns a0) : Int) + (List.length (Val.rows a0) : Int))) : Int) > 0)) = false, (((Val.kind a0) : Int) != 2) = false, false = false, (((Val.kind a0) : Int) != 4) = true, (((Val.step a0) : Int) != 0) = false, (((Val.kind a0) : Int) == 1) = false, (((Val.kind a0) : Int) == 2) = true, (((Val.n a0) : Int) == 0) = true, AbC 103 (xEZ (Val.text a0)) (xB4 r1)]) := by kernel_rfl
theorem p89_e_11 (a0 : Val) : run tt (AbsCalls Try.prog) I89 3000 false [.code I89.body] ⟨(zBi 0 (xAu a0)), [true, false, true, false, false, false, true, false, false, true, false], [], []⟩ = some (.done (xAq false) [(((Val.kind a0) : Int) != 3) = true, (decide (((List.length (Val.list a0) : Int) : Int) > 0)) = false, (((Val.kind a0) : Int) != 5) = true, (decide (((IntKind.i64.wrap ((List.length (Val.columns a0) : Int) + (List.length (Val.rows a0) : Int))) : Int) > 0)) = false, (((Val.kind a0) : Int) != 2) = false, false = false, (((Val.kind a0) : Int) != 4) = true, (((Val.step a0) : Int) != 0) = false, (((Val.kind a0) : Int) == 1) = false, (((Val.kind a0) : Int) == 2) = true, (((Val.n a0) : Int) == 0) = false]) := by kernel_rfl
theorem p89_e_12 (a0 : Val) : run tt (AbsCalls Try.prog) I89 3000 false [.code I89.body] ⟨(zBi 0 (xAu a0)), [true, false, false, false, true, true, true], [], []⟩ = some (.done (xAq false) [(((Val.kind a0) : Int) != 3) = true, (decide (((List.length (Val.list a0) : Int) : Int) > 0)) = false, (((Val.kind a0) : Int) != 5) = false, false = false, (((Val.kind a0) : Int) != 2) = true, (!(((Val.text a0) : Str) == [])) = true, true = true]) := by kernel_rfl
theorem p89_e_13 (a0 : Val) : run tt (AbsCalls Try.prog) I89 3000 false [.code I89.body] ⟨(zBi 0 (xAu a0)), [true, false, false, false, true, false, true, true], [], []⟩ = some (.done (xAq false) [(((Val.kind a0) : Int) != 3) = true, (decide (((List.length (Val.list a0) : Int) : Int) > 0)) = false, (((Val.kind a0) : Int) != 5) = false, false = false, (((Val.kind a0) : Int) != 2) = true, (!(((Val.text a0) : Str) == [])) = false, (((Val.kind a0) : Int) != 4) = true, (((Val.step a0) : Int) != 0) = true]) := by kernel_rfl
theorem p89_e_14 (a0 : Val) (r1 : Bool) : run tt (AbsCalls Try.prog) I89 3000 false [.code I89.body] ⟨(zBi 0 (xAu a0)), [true, false, false, false, true, false, true, false, false, false, false, false, true, true], [xBU r1], []⟩ = some (.done (xAq r1) [(((Val.kind a0) : Int) != 3) = true, (decide (((List.length (Val.list a0) : Int) : Int) > 0)) = false, (((Val.kind a0) : Int) != 5) = false, false = false, (((Val.kind a0) : Int) != 2) = true, (!(((Val.text a0) : Str) == [])) = false, (((Val.kind a0) : Int) != 4) = true, (((Val.step a0) : Int) != 0) = false, (((Val.kind a0) : Int) == 1) = false, (((Val.kind a0) : Int) == 2) = false, (((Val.kind a0) : Int) == 3) = false, (((Val.kind a0) : Int) == 4) = false, (((Val.kind a0) : Int) == 5) = true, (((Val.n a0) : Int) == 0) = true, AbC 105 (xEQ a0) (xBU r1)]) := by kernel_rfl
theorem p89_e_15 (a0 : Val) : run tt (AbsCalls Try.prog) I89 3000 false [.code I89.body] ⟨(zBi 0 (xAu a0)), [true, false, false, false, true, false, true, false, false, false, false, false, true, false], [], []⟩ = some (.done (xAq false) [(((Val.kind a0) : Int) != 3) = true, (decide (((List.length (Val.list a0) : Int) : Int) > 0)) = false, (((Val.kind a0) : Int) != 5) = false, false = false, (((Val.kind a0) : Int) != 2) = true, (!(((Val.text a0) : Str) == [])) = false, (((Val.kind a0) : Int) != 4) = true, (((Val.step a0) : Int) != 0) = false, (((Val.kind a0) : Int) == 1) = false, (((Val.kind a0) : Int) == 2) = false, (((Val.kind a0) : Int) == 3) = false, (((Val.kind a0) : Int) == 4) = false, (((Val.kind a0) : Int) == 5) = true, (((Val.n a0) : Int) == 0) = false]) := by kernel_rfl
theorem p89_e_16 (a0 : Val) : run tt (AbsCalls Try.prog) I89 3000 false [.code I89.body] ⟨(zBi 0 (xAu a0)), [false, false, true, true], [], []⟩ = some (.done (xAq false) [(((Val.kind a0) : Int) != 3) = false, false = false, (((Val.kind a0) : Int) != 5) = true, (decide (((IntKind.i64.wrap ((List.length (Val.columns a0) : Int) + (List.length (Val.rows a0) : Int))) : Int) > 0)) = true]) := by kernel_rfl
theorem p89_e_17 (a0 : Val) : run tt (AbsCalls Try.prog) I89 3000 false [.code I89.body] ⟨(zBi 0 (xAu a0)), [false, false, true, false, true, true, true], [], []⟩ = some (.done (xAq false) [(((Val.kind a0) : Int) != 3) = false, false = false, (((Val.kind a0) : Int) != 5) = true, (decide (((IntKind.i64.wrap ((List.length (Val.columns a0) : Int) + (List.length (Val.rows a0) : Int))) : Int) > 0)) = false, (((Val.kind a0) : Int) != 2) = true, (!(((Val.text a0) : Str) == [])) = true, true = true]) := by kernel_rfl
theorem p89_e_18 (a0 : Val) : run tt (AbsCalls Try.prog) I89 3000 false [.code I89.body] ⟨(zBi 0 (xAu a0)), [false, false, true, false, true, false, true, true], [], []⟩ = some (.done (xAq false) [(((Val.kind a0) : Int) != 3) = false, false = false, (((Val.kind a0) : Int) != 5) = true, (decide (((IntKind.i64.wrap ((List.length (Val.columns a0) : Int) + (List.length (Val.rows a0) : Int))) : Int) > 0)) = false, (((Val.kind a0) : Int) != 2) = true, (!(((Val.text a0) : Str) == [])) = false, (((Val.kind a0) : Int) != 4) = true, (((Val.step a0) : Int) != 0) = true]) := by kernel_rfl
theorem p89_e_19 (a0 : Val) (r1 : Bool) : run tt (AbsCalls Try.prog) I89 3000 false [.code I89.body] ⟨(zBi 0 (xAu a0)), [false, false, true, false, true, false, true, false, false, false, true, true], [xBL r1], []⟩ = some (.done (xAq r1) [(((Val.kind a0) : Int) != 3) = false, false = false, (((Val.kind a0) : Int) != 5) = true, (decide (((IntKind.i64.wrap ((List.length (Val.columns a0) : Int) + (List.length (Val.rows a0) : Int))) : Int) > 0)) = false, (((Val.kind a0) : Int) != 2) = true, (!(((Val.text a0) : Str) == [])) = false, (((Val.kind a0) : Int) != 4) = true, (((Val.step a0) : Int) != 0) = false, (((Val.kind a0) : Int) == 1) = false, (((Val.kind a0) : Int) == 2) = false, (((Val.kind a0) : Int) == 3) = true, (((Val.n a0) : Int) == 0) = true, AbC 104 (xCU a0) (xBL r1)]) := by kernel_rfl
theorem p89_e_20 (a0 : Val) : run tt (AbsCalls Try.prog) I89 3000 false [.code I89.body] ⟨(zBi 0 (xAu a0)), [false, false, true, false, true, false, true, false, false, false, true, false], [], []⟩ = some (.done (xAq false) [(((Val.kind a0) : Int) != 3) = false, false = false, (((Val.kind a0) : Int) != 5) = true, (decide (((IntKind.i64.wrap ((List.length (Val.columns a0) : Int) + (List.length (Val.rows a0) : Int))) : Int) > 0)) = false, (((Val.kind a0) : Int) != 2) = true, (!(((Val.text a0) : Str) == [])) = false, (((Val.kind a0) : Int) != 4) = true, (((Val.step a0) : Int) != 0) = false, (((Val.kind a0) : Int) == 1) = false, (((Val.kind a0) : Int) == 2) = false, (((Val.kind a0) : Int) == 3) = true, (((Val.n a0) : Int) == 0) = false]) := by kernel_rfl
theorem c89_e {N : Nat} {rc_spec_IsValidValue : Val → Option (Bool)} (hrc_spec_IsValidValue : ∀ a0 r, rc_spec_IsValidValue a0 = some r → AbC 89 (xAu a0) (xAq r)) {rc_spec_l3List : Val → Option (Bool)} (hrc_spec_l3List : ∀ a0 r, rc_spec_l3List a0 = some r → AbC 104 (xCU a0) (xBL r)) : ∀ a0 r, xCt N rc_spec_IsValidValue rc_spec_l3List a0 = some r → Reach Try.prog Try.f89 I89 [.code I89.body] (zBi 0 (xAu a0)) (xAq r) := by
 intro a0 r h
 unfold xCt at h
 rcases cond_inv h with ⟨h0, h⟩ | ⟨h0, h⟩
 ·rcases cond_inv h with ⟨h1, h⟩ | ⟨h1, h⟩
  ·obtain rfl := Option.some.inj h
   exact Reach.done ttok mix fk89 (p89_e_0 a0) (obs_cons h0 (obs_cons h1 (obs_cons rfl obs_nil)))
  ·rcases cond_inv h with ⟨h2, h⟩ | ⟨h2, h⟩
   ·rcases cond_inv h with ⟨h3, h⟩ | ⟨h3, h⟩
    ·obtain rfl := Option.some.inj h
     exact Reach.done ttok mix fk89 (p89_e_1 a0) (obs_cons h0 (obs_cons h1 (obs_cons h2 (obs_cons h3 obs_nil))))
    ·rcases cond_inv h with ⟨h4, h⟩ | ⟨h4, h⟩
     ·rcases cond_inv h with ⟨h5, h⟩ | ⟨h5, h⟩
      ·obtain rfl := Option.some.inj h
       exact Reach.done ttok mix fk89 (p89_e_2 a0) (obs_cons h0 (obs_cons h1 (obs_cons h2 (obs_cons h3 (obs_cons h4 (obs_cons h5 (obs_cons rfl obs_nil)))))))
      ·rcases cond_inv h with ⟨h6, h⟩ | ⟨h6, h⟩
       ·rcases cond_inv h with ⟨h7, h⟩ | ⟨h7, h⟩
        ·obtain rfl := Option.some.inj h
         exact Reach.done ttok mix fk89 (p89_e_3 a0) (obs_cons h0 (obs_cons h1 (obs_cons h2 (obs_cons h3 (obs_cons h4 (obs_cons h5 (obs_cons h6 (obs_cons h7 obs_nil))))))))
        ·rcases cond_inv h with ⟨h8, h⟩ | ⟨h8, h⟩
         ·obtain ⟨r1, h9, h⟩ := bind_inv h
          obtain rfl := Option.some.inj h
          exact Reach.done ttok mix fk89 (p89_e_4 a0 r1) (obs_cons h0 (obs_cons h1 (obs_cons h2 (obs_cons h3 (obs_cons h4 (obs_cons h5 (obs_cons h6 (obs_cons h7 (obs_cons h8 (obs_cons (xC9 h9) obs_nil))))))))))
         ·rcases cond_inv h with ⟨h13, h⟩ | ⟨h13, h⟩
          ·obtain ⟨r1, h14, h⟩ := bind_inv h
           obtain rfl := Option.some.inj h
           exact Reach.done ttok mix fk89 (p89_e_5 a0 r1) (obs_cons h0 (obs_cons h1 (obs_cons h2 (obs_cons h3 (obs_cons h4 (obs_cons h5 (obs_cons h6 (obs_cons h7 (obs_cons h8 (obs_cons (of_not h4) (obs_cons (of_not h0) (obs_cons (of_not h6) (obs_cons (of_not h2) (obs_cons h13 (obs_cons (xF3 h14) obs_nil)))))))))))))))
          ·obtain rfl := Option.some.inj h
           exact Reach.done ttok mix fk89 (p89_e_6 a0) (obs_cons h0 (obs_cons h1 (obs_cons h2 (obs_cons h3 (obs_cons h4 (obs_cons h5 (obs_cons h6 (obs_cons h7 (obs_cons h8 (obs_cons (of_not h4) (obs_cons (of_not h0) (obs_cons (of_not h6) (obs_cons (of_not h2) (obs_cons h13 obs_nil))))))))))))))
       ·obtain ⟨r1, h12, h⟩ := bind_inv h
        rcases cond_inv h with ⟨h13, h⟩ | ⟨h13, h⟩
        ·obtain ⟨r2, h14, h⟩ := bind_inv h
         obtain rfl := Option.some.inj h
         exact Reach.done ttok mix fk89 (p89_e_7 a0 r1 r2) (obs_cons h0 (obs_cons h1 (obs_cons h2 (obs_cons h3 (obs_cons h4 (obs_cons h5 (obs_cons h6 (obs_cons rfl (obs_cons (eq_ne (of_not h6) rfl) (obs_cons (of_not h4) (obs_cons (of_not h0) (obs_cons (of_not h6) (obs_cons (xC9 h12) (obs_cons h13 (obs_cons (xC9 h14) obs_nil)))))))))))))))
        ·obtain rfl := Option.some.inj h
         exact Reach.done ttok mix fk89 (p89_e_8 a0 r1) (obs_cons h0 (obs_cons h1 (obs_cons h2 (obs_cons h3 (obs_cons h4 (obs_cons h5 (obs_cons h6 (obs_cons rfl (obs_cons (eq_ne (of_not h6) rfl) (obs_cons (of_not h4) (obs_cons (of_not h0) (obs_cons (of_not h6) (obs_cons (xC9 h12) (obs_cons h13 obs_nil))))))))))))))
     ·rcases cond_inv h with ⟨h7, h⟩ | ⟨h7, h⟩
      ·obtain rfl := Option.some.inj h
       exact Reach.done ttok mix fk89 (p89_e_9 a0) (obs_cons h0 (obs_cons h1 (obs_cons h2 (obs_cons h3 (obs_cons h4 (obs_cons rfl (obs_cons (not_of (eq_ne (of_not h4) rfl)) (obs_cons h7 obs_nil))))))))
      ·rcases cond_inv h with ⟨h10, h⟩ | ⟨h10, h⟩
       ·obtain ⟨r1, h11, h⟩ := bind_inv h
        obtain rfl := Option.some.inj h
        exact Reach.done ttok mix fk89 (p89_e_10 a0 r1) (obs_cons h0 (obs_cons h1 (obs_cons h2 (obs_cons h3 (obs_cons h4 (obs_cons rfl (obs_cons (not_of (eq_ne (of_not h4) rfl)) (obs_cons h7 (obs_cons (eq_ne (of_not h4) rfl) (obs_cons (of_not h4) (obs_cons h10 (obs_cons (xIq h11) obs_nil))))))))))))
       ·obtain rfl := Option.some.inj h
        exact Reach.done ttok mix fk89 (p89_e_11 a0) (obs_cons h0 (obs_cons h1 (obs_cons h2 (obs_cons h3 (obs_cons h4 (obs_cons rfl (obs_cons (not_of (eq_ne (of_not h4) rfl)) (obs_cons h7 (obs_cons (eq_ne (of_not h4) rfl) (obs_cons (of_not h4) (obs_cons h10 obs_nil)))))))))))
   ·rcases cond_inv h with ⟨h5, h⟩ | ⟨h5, h⟩
    ·obtain rfl := Option.some.inj h
     exact Reach.done ttok mix fk89 (p89_e_12 a0) (obs_cons h0 (obs_cons h1 (obs_cons h2 (obs_cons rfl (obs_cons (not_of (eq_ne (of_not h2) rfl)) (obs_cons h5 (obs_cons rfl obs_nil)))))))
    ·rcases cond_inv h with ⟨h7, h⟩ | ⟨h7, h⟩
     ·obtain rfl := Option.some.inj h
      exact Reach.done ttok mix fk89 (p89_e_13 a0) (obs_cons h0 (obs_cons h1 (obs_cons h2 (obs_cons rfl (obs_cons (not_of (eq_ne (of_not h2) rfl)) (obs_cons h5 (obs_cons (not_of (eq_ne (of_not h2) rfl)) (obs_cons h7 obs_nil))))))))
     ·rcases cond_inv h with ⟨h13, h⟩ | ⟨h13, h⟩
      ·obtain ⟨r1, h14, h⟩ := bind_inv h
       obtain rfl := Option.some.inj h
       exact Reach.done ttok mix fk89 (p89_e_14 a0 r1) (obs_cons h0 (obs_cons h1 (obs_cons h2 (obs_cons rfl (obs_cons (not_of (eq_ne (of_not h2) rfl)) (obs_cons h5 (obs_cons (not_of (eq_ne (of_not h2) rfl)) (obs_cons h7 (obs_cons (eq_ne (of_not h2) rfl) (obs_cons (eq_ne (of_not h2) rfl) (obs_cons (of_not h0) (obs_cons (eq_ne (of_not h2) rfl) (obs_cons (of_not h2) (obs_cons h13 (obs_cons (spec_l3Table_ok h14) obs_nil)))))))))))))))
      ·obtain rfl := Option.some.inj h
       exact Reach.done ttok mix fk89 (p89_e_15 a0) (obs_cons h0 (obs_cons h1 (obs_cons h2 (obs_cons rfl (obs_cons (not_of (eq_ne (of_not h2) rfl)) (obs_cons h5 (obs_cons (not_of (eq_ne (of_not h2) rfl)) (obs_cons h7 (obs_cons (eq_ne (of_not h2) rfl) (obs_cons (eq_ne (of_not h2) rfl) (obs_cons (of_not h0) (obs_cons (eq_ne (of_not h2) rfl) (obs_cons (of_not h2) (obs_cons h13 obs_nil))))))))))))))
 ·rcases cond_inv h with ⟨h3, h⟩ | ⟨h3, h⟩
  ·obtain rfl := Option.some.inj h
   exact Reach.done ttok mix fk89 (p89_e_16 a0) (obs_cons h0 (obs_cons rfl (obs_cons (not_of (eq_ne (of_not h0) rfl)) (obs_cons h3 obs_nil))))
  ·rcases cond_inv h with ⟨h5, h⟩ | ⟨h5, h⟩
   ·obtain rfl := Option.some.inj h
    exact Reach.done ttok mix fk89 (p89_e_17 a0) (obs_cons h0 (obs_cons rfl (obs_cons (not_of (eq_ne (of_not h0) rfl)) (obs_cons h3 (obs_cons (not_of (eq_ne (of_not h0) rfl)) (obs_cons h5 (obs_cons rfl obs_nil)))))))
   ·rcases cond_inv h with ⟨h7, h⟩ | ⟨h7, h⟩
    ·obtain rfl := Option.some.inj h
     exact Reach.done ttok mix fk89 (p89_e_18 a0) (obs_cons h0 (obs_cons rfl (obs_cons (not_of (eq_ne (of_not h0) rfl)) (obs_cons h3 (obs_cons (not_of (eq_ne (of_not h0) rfl)) (obs_cons h5 (obs_cons (not_of (eq_ne (of_not h0) rfl)) (obs_cons h7 obs_nil))))))))
    ·rcases cond_inv h with ⟨h11, h⟩ | ⟨h11, h⟩
     ·obtain ⟨r1, h12, h⟩ := bind_inv h
      obtain rfl := Option.some.inj h
      exact Reach.done ttok mix fk89 (p89_e_19 a0 r1) (obs_cons h0 (obs_cons rfl (obs_cons (not_of (eq_ne (of_not h0) rfl)) (obs_cons h3 (obs_cons (not_of (eq_ne (of_not h0) rfl)) (obs_cons h5 (obs_cons (not_of (eq_ne (of_not h0) rfl)) (obs_cons h7 (obs_cons (eq_ne (of_not h0) rfl) (obs_cons (eq_ne (of_not h0) rfl) (obs_cons (of_not h0) (obs_cons h11 (obs_cons (hrc_spec_l3List _ _ h12) obs_nil)))))))))))))
     ·obtain rfl := Option.some.inj h
      exact Reach.done ttok mix fk89 (p89_e_20 a0) (obs_cons h0 (obs_cons rfl (obs_cons (not_of (eq_ne (of_not h0) rfl)) (obs_cons h3 (obs_cons (not_of (eq_ne (of_not h0) rfl)) (obs_cons h5 (obs_cons (not_of (eq_ne (of_not h0) rfl)) (obs_cons h7 (obs_cons (eq_ne (of_not h0) rfl) (obs_cons (eq_ne (of_not h0) rfl) (obs_cons (of_not h0) (obs_cons h11 obs_nil))))))))))))
theorem xHh {N : Nat} {rc_spec_IsValidValue : Val → Option (Bool)} (hrc_spec_IsValidValue : ∀ a0 r, rc_spec_IsValidValue a0 = some r → AbC 89 (xAu a0) (xAq r)) {rc_spec_l3List : Val → Option (Bool)} (hrc_spec_l3List : ∀ a0 r, rc_spec_l3List a0 = some r → AbC 104 (xCU a0) (xBL r)) {a0 : Val} {r : Bool} (h : xCt N rc_spec_IsValidValue rc_spec_l3List a0 = some r) : AbC 89 (xAu a0) (xAq r) :=
 AbsCalls.of_reach fk89 rfl rfl (Nat.le_of_ble_eq_true rfl) (c89_e hrc_spec_IsValidValue hrc_spec_l3List a0 r h)
noncomputable def I104 : Info := { body := (Try.f104.body).getD .skip, nt := 36, results := [.tmp 2], keep := [0, 2, 4, 6, 16, 52, 3], live := [(2, [2, 6, 3])], modes := [(4, [(7, .take, false)]), (6, [(4, .take, false)])], ext := [], lnt := [], casts := [], fcast := [] }
theorem fk104 : FnOk Try.prog 104 Try.f104 I104 := ⟨Try.func104, by kernel_rfl, by kernel_rfl, by kernel_rfl, by kernel_rfl⟩
def S104_2 (x3 : Int) (b1 : Val) : St := [(2, .v false [.ptr 1 0]), (6, .v false [.int .i64 x3]), (3, .v true [.int .i64 (Val.kind b1), .int .i64 (Val.n b1), .int .i64 (Val.step b1), .str (Val.text b1), .sl .ro .val (Val.list b1), .sl .ro .str (Val.columns b1), .sl .ro .row (Val.rows b1)])]
theorem p104_2_0 (x3 : Int) (b1 : Val) (r1 : Bool) : run tt (AbsCalls Try.prog) I104 3000 true (stkAt 2 I104.body) ⟨(S104_2 x3 b1), [true, true, true], [xBT r1], []⟩ = some (.done (xBL false) [(decide ((x3 : Int) < (List.length (Val.list b1) : Int))) = true, (0 : Int) ≤ x3 ∧ x3 < (List.length (Val.list b1)), AbC 117 (xCO (List.getD (Val.list b1) (Int.toNat x3) Ty.val.dflt)) (xBT r1), (!r1) = true, true = true]) := by kernel_rfl
theorem p104_2_1 (x3 : Int) (b1 : Val) (r1 r2 : Bool) : run tt (AbsCalls Try.prog) I104 3000 true (stkAt 2 I104.body) ⟨(S104_2 x3 b1), [true, false, true], [xBT r1, xAq r2], []⟩ = some (.done (xBL false) [(decide ((x3 : Int) < (List.length (Val.list b1) : Int))) = true, (0 : Int) ≤ x3 ∧ x3 < (List.length (Val.list b1)), AbC 117 (xCO (List.getD (Val.list b1) (Int.toNat x3) Ty.val.dflt)) (xBT r1), (!r1) = false, (0 : Int) ≤ x3 ∧ x3 < (List.length (Val.list b1)), AbC 89 (xAu (List.getD (Val.list b1) (Int.toNat x3) Ty.val.dflt)) (xAq r2), (!r2) = true]) := by kernel_rfl
theorem p104_2_2 (x3 : Int) (b1 : Val) (r1 r2 : Bool) : run tt (AbsCalls Try.prog) I104 3000 true (stkAt 2 I104.body) ⟨(S104_2 x3 b1), [true, false, false], [xBT r1, xAq r2], []⟩ = some (.stop (stkAt 2 I104.body) (S104_2 (IntKind.i64.wrap (x3 + 1)) b1) [(decide ((x3 : Int) < (List.length (Val.list b1) : Int))) = true, (0 : Int) ≤ x3 ∧ x3 < (List.length (Val.list b1)), AbC 117 (xCO (List.getD (Val.list b1) (Int.toNat x3) Ty.val.dflt)) (xBT r1), (!r1) = false, (0 : Int) ≤ x3 ∧ x3 < (List.length (Val.list b1)), AbC 89 (xAu (List.getD (Val.list b1) (Int.toNat x3) Ty.val.dflt)) (xAq r2), (!r2) = false]) := by kernel_rfl
theorem p104_2_3 (x3 : Int) (b1 : Val) (r1 : Int) : run tt (AbsCalls Try.prog) I104 3000 true (stkAt 2 I104.body) ⟨(S104_2 x3 b1), [false, true], [xBS r1], []⟩ = some (.done (xBL (decide ((r1 : Int) ≤ 3))) [(decide ((x3 : Int) < (List.length (Val.list b1) : Int))) = false, (decide (((List.length (Val.list b1) : Int) : Int) ≤ 8)) = true, AbC 118 (xCv b1) (xBS r1)]) := by kernel_rfl
theorem p104_2_4 (x3 : Int) (b1 : Val) : run tt (AbsCalls Try.prog) I104 3000 true (stkAt 2 I104.body) ⟨(S104_2 x3 b1), [false, false], [], []⟩ = some (.done (xBL false) [(decide ((x3 : Int) < (List.length (Val.list b1) : Int))) = false, (decide (((List.length (Val.list b1) : Int) : Int) ≤ 8)) = false]) := by kernel_rfl
theorem p104_e_5 (a0 : Val) : run tt (AbsCalls Try.prog) I104 3000 false [.code I104.body] ⟨(zBi 0 (xCU a0)), [], [], []⟩ = some (.stop (stkAt 2 I104.body) (S104_2 0 a0) []) := by kernel_rfl
theorem c104_2 {N : Nat} {rc_spec_IsValidValue : Val → Option (Bool)} (hrc_spec_IsValidValue : ∀ a0 r, rc_spec_IsValidValue a0 = some r → AbC 89 (xAu a0) (xAq r)) {rc_spec_l3List : Val → Option (Bool)} (hrc_spec_l3List : ∀ a0 r, rc_spec_l3List a0 = some r → AbC 104 (xCU a0) (xBL r)) : ∀ n x3 b1 r, xDq N rc_spec_IsValidValue rc_spec_l3List n x3 b1 = some r → Reach Try.prog Try.f104 I104 (stkAt 2 I104.body) (S104_2 x3 b1) (xBL r) := by
 intro n
 induction n with
 | zero => intro x3 b1 r h; have h' : (none : Option (Bool)) = some r := h; cases h'
 | succ n ih =>
  intro x3 b1 r h
  rw [xDq] at h
  rcases cond_inv h with ⟨h0, h⟩ | ⟨h0, h⟩
  ·obtain ⟨h1, h⟩ := ite_inv h
   obtain ⟨r1, h2, h⟩ := bind_inv h
   rcases cond_inv h with ⟨h3, h⟩ | ⟨h3, h⟩
   ·obtain rfl := Option.some.inj h
    exact Reach.done ttok mix fk104 (p104_2_0 x3 b1 r1) (obs_cons h0 (obs_cons h1 (obs_cons (xGr h2) (obs_cons h3 (obs_cons rfl obs_nil)))))
   ·obtain ⟨r2, h5, h⟩ := bind_inv h
    rcases cond_inv h with ⟨h6, h⟩ | ⟨h6, h⟩
    ·obtain rfl := Option.some.inj h
     exact Reach.done ttok mix fk104 (p104_2_1 x3 b1 r1 r2) (obs_cons h0 (obs_cons h1 (obs_cons (xGr h2) (obs_cons h3 (obs_cons h1 (obs_cons (hrc_spec_IsValidValue _ _ h5) (obs_cons h6 obs_nil)))))))
    ·exact Reach.stop ttok mix fk104 (p104_2_2 x3 b1 r1 r2) (obs_cons h0 (obs_cons h1 (obs_cons (xGr h2) (obs_cons h3 (obs_cons h1 (obs_cons (hrc_spec_IsValidValue _ _ h5) (obs_cons h6 obs_nil))))))) (ih _ _ _ h)
  ·rcases cond_inv h with ⟨h1, h⟩ | ⟨h1, h⟩
   ·obtain ⟨r1, h2, h⟩ := bind_inv h
    obtain rfl := Option.some.inj h
    exact Reach.done ttok mix fk104 (p104_2_3 x3 b1 r1) (obs_cons h0 (obs_cons h1 (obs_cons (spec_DepthOf_ok h2) obs_nil)))
   ·obtain rfl := Option.some.inj h
    exact Reach.done ttok mix fk104 (p104_2_4 x3 b1) (obs_cons h0 (obs_cons h1 obs_nil))
theorem c104_e {N : Nat} {rc_spec_IsValidValue : Val → Option (Bool)} (hrc_spec_IsValidValue : ∀ a0 r, rc_spec_IsValidValue a0 = some r → AbC 89 (xAu a0) (xAq r)) {rc_spec_l3List : Val → Option (Bool)} (hrc_spec_l3List : ∀ a0 r, rc_spec_l3List a0 = some r → AbC 104 (xCU a0) (xBL r)) : ∀ a0 r, xFZ N rc_spec_IsValidValue rc_spec_l3List a0 = some r → Reach Try.prog Try.f104 I104 [.code I104.body] (zBi 0 (xCU a0)) (xBL r) := by
 intro a0 r h
 unfold xFZ at h
 exact Reach.stop ttok mix fk104 (p104_e_5 a0) obs_nil (c104_2 hrc_spec_IsValidValue hrc_spec_l3List  _ _ _ _ h)
theorem xIu {N : Nat} {rc_spec_IsValidValue : Val → Option (Bool)} (hrc_spec_IsValidValue : ∀ a0 r, rc_spec_IsValidValue a0 = some r → AbC 89 (xAu a0) (xAq r)) {rc_spec_l3List : Val → Option (Bool)} (hrc_spec_l3List : ∀ a0 r, rc_spec_l3List a0 = some r → AbC 104 (xCU a0) (xBL r)) {a0 : Val} {r : Bool} (h : xFZ N rc_spec_IsValidValue rc_spec_l3List a0 = some r) : AbC 104 (xCU a0) (xBL r) :=
 AbsCalls.of_reach fk104 rfl rfl (Nat.le_of_ble_eq_true rfl) (c104_e hrc_spec_IsValidValue hrc_spec_l3List a0 r h)
theorem xHo {N : Nat} : ∀ d, (∀ a0 r, (xAG N d).c_spec_IsValidValue a0 = some r → AbC 89 (xAu a0) (xAq r)) ∧ (∀ a0 r, (xAG N d).c_spec_l3List a0 = some r → AbC 104 (xCU a0) (xBL r)) := by
 intro d
 induction d with
 | zero =>
  refine ⟨?_, ?_⟩ <;> (intros; rename_i h; cases h)
 | succ d ih =>
  obtain ⟨ih0, ih1⟩ := ih
  refine ⟨?_, ?_⟩
  ·intro _ r h; exact xHh (N := N) ih0 ih1 h
  ·intro _ r h; exact xIu (N := N) ih0 ih1 h
theorem xFM {N : Nat} {a0 : Val} {r : Bool} (h : xGp N a0 = some r) : AbC 89 (xAu a0) (xAq r) := (xHo N).1 _ r h
noncomputable def I27 : Info := { body := (Try.f27.body).getD .skip, nt := 5, results := [.cell 2 31], keep := [0, 4, 5], live := [], modes := [], ext := [], lnt := [], casts := [], fcast := [] }
theorem fk27 : FnOk Try.prog 27 Try.f27 I27 := ⟨Try.func27, by kernel_rfl, by kernel_rfl, by kernel_rfl, by kernel_rfl⟩
theorem p27_e_0 (a0 : Int) : run tt (AbsCalls Try.prog) I27 3000 false [.code I27.body] ⟨(zBi 0 (xBH a0)), [], [], []⟩ = some (.done (xAO (Val.mk 6 a0 0 [] [] [] [])) []) := by kernel_rfl
theorem c27_e {N : Nat} : ∀ a0 r, xA6 N a0 = some r → Reach Try.prog Try.f27 I27 [.code I27.body] (zBi 0 (xBH a0)) (xAO r) := by
 intro a0 r h
 unfold xA6 at h
 obtain rfl := Option.some.inj h
 exact Reach.done ttok mix fk27 (p27_e_0 a0) obs_nil
theorem xCq {N : Nat} {a0 : Int} {r : Val} (h : xA6 N  a0 = some r) : AbC 27 (xBH a0) (xAO r) :=
 AbsCalls.of_reach fk27 rfl rfl (Nat.le_of_ble_eq_true rfl) (c27_e a0 r h)
noncomputable def I63 : Info := { body := (Try.f63.body).getD .skip, nt := 31, results := [.cell 2 31, .tmp 3], keep := [0, 4, 6, 8, 16, 32, 46, 5], live := [(2, [0, 4, 8, 5])], modes := [], ext := [], lnt := [], casts := [], fcast := [] }
theorem fk63 : FnOk Try.prog 63 Try.f63 I63 := ⟨Try.func63, by kernel_rfl, by kernel_rfl, by kernel_rfl, by kernel_rfl⟩
def S63_2 (x0 : List Val) (x4 : Int) (b2 : Val) : St := [(0, .v false [.sl .ro .val x0]), (4, .v false [.ptr 2 0]), (8, .v false [.int .i64 x4]), (5, .v true [.int .i64 (Val.kind b2), .int .i64 (Val.n b2), .int .i64 (Val.step b2), .str (Val.text b2), .sl .own .val (Val.list b2), .sl .own .str (Val.columns b2), .sl .own .row (Val.rows b2)])]
theorem p63_2_0 (x0 : List Val) (x4 : Int) (b2 : Val) (r1 : Bool) (r2 : Val) : run tt (AbsCalls Try.prog) I63 3000 true (stkAt 2 I63.body) ⟨(S63_2 x0 x4 b2), [true, true], [xAq r1, xAO r2], []⟩ = some (.done (xBo (r2, true)) [(decide ((x4 : Int) < (List.length x0 : Int))) = true, (0 : Int) ≤ x4 ∧ x4 < (List.length x0), AbC 89 (xAu (List.getD x0 (Int.toNat x4) Ty.val.dflt)) (xAq r1), (!r1) = true, AbC 27 (xBH 4) (xAO r2)]) := by kernel_rfl
theorem p63_2_1 (x0 : List Val) (x4 : Int) (b2 : Val) (r1 : Bool) (r2 : Val) : run tt (AbsCalls Try.prog) I63 3000 true (stkAt 2 I63.body) ⟨(S63_2 x0 x4 b2), [true, false, true], [xAq r1, xAO r2], []⟩ = some (.done (xBo (r2, true)) [(decide ((x4 : Int) < (List.length x0 : Int))) = true, (0 : Int) ≤ x4 ∧ x4 < (List.length x0), AbC 89 (xAu (List.getD x0 (Int.toNat x4) Ty.val.dflt)) (xAq r1), (!r1) = false, (0 : Int) ≤ x4 ∧ x4 < (List.length x0), (((Val.kind (List.getD x0 (Int.toNat x4) Ty.val.dflt)) : Int) == 6) = true, (0 : Int) ≤ x4 ∧ x4 < (List.length x0), AbC 27 (xBH (Val.n (List.getD x0 (Int.toNat x4) Ty.val.dflt))) (xAO r2)]) := by kernel_rfl
theorem p63_2_2 (x0 : List Val) (x4 : Int) (b2 : Val) (r1 : Bool) : run tt (AbsCalls Try.prog) I63 3000 true (stkAt 2 I63.body) ⟨(S63_2 x0 x4 b2), [true, false, false], [xAq r1], []⟩ = some (.stop (stkAt 2 I63.body) (S63_2 x0 (IntKind.i64.wrap (x4 + 1)) b2) [(decide ((x4 : Int) < (List.length x0 : Int))) = true, (0 : Int) ≤ x4 ∧ x4 < (List.length x0), AbC 89 (xAu (List.getD x0 (Int.toNat x4) Ty.val.dflt)) (xAq r1), (!r1) = false, (0 : Int) ≤ x4 ∧ x4 < (List.length x0), (((Val.kind (List.getD x0 (Int.toNat x4) Ty.val.dflt)) : Int) == 6) = false]) := by kernel_rfl
theorem p63_2_3 (x0 : List Val) (x4 : Int) (b2 : Val) : run tt (AbsCalls Try.prog) I63 3000 true (stkAt 2 I63.body) ⟨(S63_2 x0 x4 b2), [false], [], []⟩ = some (.done (xBo ((Val.mk 0 0 0 [] [] [] []), false)) [(decide ((x4 : Int) < (List.length x0 : Int))) = false]) := by kernel_rfl
theorem p63_e_4 (a0 : List Val) : run tt (AbsCalls Try.prog) I63 3000 false [.code I63.body] ⟨(zBi 0 (xDx a0)), [], [], []⟩ = some (.stop (stkAt 2 I63.body) (S63_2 a0 0 (Val.mk 0 0 0 [] [] [] [])) []) := by kernel_rfl
theorem c63_2 {N : Nat} : ∀ n x0 x4 b2 r, xC3 N n x0 x4 b2 = some r → Reach Try.prog Try.f63 I63 (stkAt 2 I63.body) (S63_2 x0 x4 b2) (xBo r) := by
 intro n
 induction n with
 | zero => intro x0 x4 b2 r h; have h' : (none : Option (Val × Bool)) = some r := h; cases h'
 | succ n ih =>
  intro x0 x4 b2 r h
  rw [xC3] at h
  rcases cond_inv h with ⟨h0, h⟩ | ⟨h0, h⟩
  ·obtain ⟨h1, h⟩ := ite_inv h
   obtain ⟨r1, h2, h⟩ := bind_inv h
   rcases cond_inv h with ⟨h3, h⟩ | ⟨h3, h⟩
   ·obtain ⟨r2, h4, h⟩ := bind_inv h
    obtain rfl := Option.some.inj h
    exact Reach.done ttok mix fk63 (p63_2_0 x0 x4 b2 r1 r2) (obs_cons h0 (obs_cons h1 (obs_cons (xFM h2) (obs_cons h3 (obs_cons (xCq h4) obs_nil)))))
   ·rcases cond_inv h with ⟨h5, h⟩ | ⟨h5, h⟩
    ·obtain ⟨r2, h7, h⟩ := bind_inv h
     obtain rfl := Option.some.inj h
     exact Reach.done ttok mix fk63 (p63_2_1 x0 x4 b2 r1 r2) (obs_cons h0 (obs_cons h1 (obs_cons (xFM h2) (obs_cons h3 (obs_cons h1 (obs_cons h5 (obs_cons h1 (obs_cons (xCq h7) obs_nil))))))))
    ·exact Reach.stop ttok mix fk63 (p63_2_2 x0 x4 b2 r1) (obs_cons h0 (obs_cons h1 (obs_cons (xFM h2) (obs_cons h3 (obs_cons h1 (obs_cons h5 obs_nil)))))) (ih _ _ _ _ h)
  ·obtain rfl := Option.some.inj h
   exact Reach.done ttok mix fk63 (p63_2_3 x0 x4 b2) (obs_cons h0 obs_nil)
theorem c63_e {N : Nat} : ∀ a0 r, xGF N a0 = some r → Reach Try.prog Try.f63 I63 [.code I63.body] (zBi 0 (xDx a0)) (xBo r) := by
 intro a0 r h
 unfold xGF at h
 exact Reach.stop ttok mix fk63 (p63_e_4 a0) obs_nil (c63_2   _ _ _ _ _ h)
theorem xFz {N : Nat} {a0 : List Val} {r : Val × Bool} (h : xGF N  a0 = some r) : AbC 63 (xDx a0) (xBo r) :=
 AbsCalls.of_reach fk63 rfl rfl (Nat.le_of_ble_eq_true rfl) (c63_e a0 r h)
noncomputable def I26 : Info := { body := (Try.f26.body).getD .skip, nt := 32, results := [.cell 4 31, .tmp 5], keep := [0, 2, 4, 6, 8, 10, 12, 14, 30, 58, 5, 7, 9, 13], live := [], modes := [(1, [(4, .take, false)]), (2, [(0, .take, false)]), (3, [(0, .take, false)]), (4, [(3, .take, false), (7, .take, false)])], ext := [], lnt := [], casts := [], fcast := [] }
theorem fk26 : FnOk Try.prog 26 Try.f26 I26 := ⟨Try.func26, by kernel_rfl, by kernel_rfl, by kernel_rfl, by kernel_rfl⟩
theorem p26_e_0 (a0 a1 : Val) (r1 : Val × Bool) : run tt (AbsCalls Try.prog) I26 3000 false [.code I26.body] ⟨(zBi 0 (xBM a0 a1)), [true], [xBo r1], []⟩ = some (.done (xA0 (r1.1, true)) [AbC 63 (xDx [(Val.re a0), (Val.re a1)]) (xBo r1), r1.2 = true]) := by kernel_rfl
theorem p26_e_1 (a0 a1 : Val) (r1 : Val × Bool) (r2 : Val) : run tt (AbsCalls Try.prog) I26 3000 false [.code I26.body] ⟨(zBi 0 (xBM a0 a1)), [false, true, true], [xBo r1, xAO r2], []⟩ = some (.done (xA0 (r2, true)) [AbC 63 (xDx [(Val.re a0), (Val.re a1)]) (xBo r1), r1.2 = false, (((Val.kind a0) : Int) != 1) = true, true = true, AbC 27 (xBH 4) (xAO r2)]) := by kernel_rfl
theorem p26_e_2 (a0 a1 : Val) (r1 : Val × Bool) (r2 : Val) : run tt (AbsCalls Try.prog) I26 3000 false [.code I26.body] ⟨(zBi 0 (xBM a0 a1)), [false, false, true, true], [xBo r1, xAO r2], []⟩ = some (.done (xA0 (r2, true)) [AbC 63 (xDx [(Val.re a0), (Val.re a1)]) (xBo r1), r1.2 = false, (((Val.kind a0) : Int) != 1) = false, (((Val.kind a1) : Int) != 3) = true, (((Val.kind a1) : Int) != 4) = true, AbC 27 (xBH 4) (xAO r2)]) := by kernel_rfl
theorem p26_e_3 (a0 a1 : Val) (r1 : Val × Bool) : run tt (AbsCalls Try.prog) I26 3000 false [.code I26.body] ⟨(zBi 0 (xBM a0 a1)), [false, false, true, false], [xBo r1], []⟩ = some (.done (xA0 ((Val.mk 0 0 0 [] [] [] []), false)) [AbC 63 (xDx [(Val.re a0), (Val.re a1)]) (xBo r1), r1.2 = false, (((Val.kind a0) : Int) != 1) = false, (((Val.kind a1) : Int) != 3) = true, (((Val.kind a1) : Int) != 4) = false]) := by kernel_rfl
theorem p26_e_4 (a0 a1 : Val) (r1 : Val × Bool) : run tt (AbsCalls Try.prog) I26 3000 false [.code I26.body] ⟨(zBi 0 (xBM a0 a1)), [false, false, false, false], [xBo r1], []⟩ = some (.done (xA0 ((Val.mk 0 0 0 [] [] [] []), false)) [AbC 63 (xDx [(Val.re a0), (Val.re a1)]) (xBo r1), r1.2 = false, (((Val.kind a0) : Int) != 1) = false, (((Val.kind a1) : Int) != 3) = false, false = false]) := by kernel_rfl
theorem c26_e {N : Nat} : ∀ a0 a1 r, xF0 N a0 a1 = some r → Reach Try.prog Try.f26 I26 [.code I26.body] (zBi 0 (xBM a0 a1)) (xA0 r) := by
 intro a0 a1 r h
 unfold xF0 at h
 obtain ⟨r1, h0, h⟩ := bind_inv h
 rcases cond_inv h with ⟨h1, h⟩ | ⟨h1, h⟩
 ·obtain rfl := Option.some.inj h
  exact Reach.done ttok mix fk26 (p26_e_0 a0 a1 r1) (obs_cons (xFz h0) (obs_cons h1 obs_nil))
 ·rcases cond_inv h with ⟨h2, h⟩ | ⟨h2, h⟩
  ·obtain ⟨r2, h4, h⟩ := bind_inv h
   obtain rfl := Option.some.inj h
   exact Reach.done ttok mix fk26 (p26_e_1 a0 a1 r1 r2) (obs_cons (xFz h0) (obs_cons h1 (obs_cons h2 (obs_cons rfl (obs_cons (xCq h4) obs_nil)))))
  ·rcases cond_inv h with ⟨h3, h⟩ | ⟨h3, h⟩
   ·rcases cond_inv h with ⟨h4, h⟩ | ⟨h4, h⟩
    ·obtain ⟨r2, h5, h⟩ := bind_inv h
     obtain rfl := Option.some.inj h
     exact Reach.done ttok mix fk26 (p26_e_2 a0 a1 r1 r2) (obs_cons (xFz h0) (obs_cons h1 (obs_cons h2 (obs_cons h3 (obs_cons h4 (obs_cons (xCq h5) obs_nil))))))
    ·obtain rfl := Option.some.inj h
     exact Reach.done ttok mix fk26 (p26_e_3 a0 a1 r1) (obs_cons (xFz h0) (obs_cons h1 (obs_cons h2 (obs_cons h3 (obs_cons h4 obs_nil)))))
   ·obtain rfl := Option.some.inj h
    exact Reach.done ttok mix fk26 (p26_e_4 a0 a1 r1) (obs_cons (xFz h0) (obs_cons h1 (obs_cons h2 (obs_cons h3 (obs_cons rfl obs_nil)))))
theorem xDW {N : Nat} {a0 : Val} {a1 : Val} {r : Val × Bool} (h : xF0 N  a0 a1 = some r) : AbC 26 (xBM a0 a1) (xA0 r) :=
 AbsCalls.of_reach fk26 rfl rfl (Nat.le_of_ble_eq_true rfl) (c26_e a0 a1 r h)
noncomputable def I74 : Info := { body := (Try.f74.body).getD .skip, nt := 12, results := [.cell 2 62], keep := [0, 2, 4, 3, 5], live := [], modes := [], ext := [], lnt := [], casts := [], fcast := [] }
theorem fk74 : FnOk Try.prog 74 Try.f74 I74 := ⟨Try.func74, by kernel_rfl, by kernel_rfl, by kernel_rfl, by kernel_rfl⟩
theorem p74_e_0 (a0 : Rowd) : run tt (AbsCalls Try.prog) I74 3000 false [.code I74.body] ⟨(zBi 0 (xGM a0)), [], [], []⟩ = some (.done (xGe (Rowd.mk ([] ++ (Rowd.cells a0)) ([] ++ (Rowd.frm a0)))) [0 + List.length (Rowd.cells a0) ≤ Lim, 0 + List.length (Rowd.frm a0) ≤ Lim]) := by kernel_rfl
theorem c74_e {N : Nat} : ∀ a0 r, xGR N a0 = some r → Reach Try.prog Try.f74 I74 [.code I74.body] (zBi 0 (xGM a0)) (xGe r) := by
 intro a0 r h
 unfold xGR at h
 obtain ⟨h0, h⟩ := ite_inv h
 obtain ⟨h1, h⟩ := ite_inv h
 obtain rfl := Option.some.inj h
 exact Reach.done ttok mix fk74 (p74_e_0 a0) (obs_cons h0 (obs_cons h1 obs_nil))
theorem spec_l3Row_ok {N : Nat} {a0 : Rowd} {r : Rowd} (h : xGR N  a0 = some r) : AbC 74 (xGM a0) (xGe r) :=
 AbsCalls.of_reach fk74 rfl rfl (Nat.le_of_ble_eq_true rfl) (c74_e a0 r h)
noncomputable def I28 : Info := { body := (Try.f28.body).getD .skip, nt := 56, results := [.cell 2 31], keep := [0, 2, 4, 6, 8, 10, 46, 82, 3, 5, 7], live := [(3, [2, 4, 6, 8, 3, 5, 7]), (7, [2, 4, 6, 10, 3, 5, 7])], modes := [(5, [(1, .take, false), (9, .take, false)]), (9, [(1, .take, false), (9, .take, false)]), (10, [(0, .take, false)])], ext := [], lnt := [], casts := [], fcast := [] }
theorem fk28 : FnOk Try.prog 28 Try.f28 I28 := ⟨Try.func28, by kernel_rfl, by kernel_rfl, by kernel_rfl, by kernel_rfl⟩
def S28_3 (x4 : Int) (b1 b2 b3 : Val) : St := [(2, .v false [.ptr 1 0]), (4, .v false [.ptr 2 0]), (6, .v false [.ptr 3 0]), (8, .v false [.int .i64 x4]), (3, .v true [.int .i64 (Val.kind b1), .int .i64 (Val.n b1), .int .i64 (Val.step b1), .str (Val.text b1), .sl .ro .val (Val.list b1), .sl .ro .str (Val.columns b1), .sl .ro .row (Val.rows b1)]), (5, .v true [.int .i64 (Val.kind b2), .int .i64 (Val.n b2), .int .i64 (Val.step b2), .str (Val.text b2), .sl .own .val (Val.list b2), .sl .own .str (Val.columns b2), .sl .own .row (Val.rows b2)]), (7, .v true [.int .i64 (Val.kind b3), .int .i64 (Val.n b3), .int .i64 (Val.step b3), .str (Val.text b3), .sl .own .val (Val.list b3), .sl .own .str (Val.columns b3), .sl .own .row (Val.rows b3)])]
def S28_7 (x5 : Int) (b1 b2 b3 : Val) : St := [(2, .v false [.ptr 1 0]), (4, .v false [.ptr 2 0]), (6, .v false [.ptr 3 0]), (10, .v false [.int .i64 x5]), (3, .v true [.int .i64 (Val.kind b1), .int .i64 (Val.n b1), .int .i64 (Val.step b1), .str (Val.text b1), .sl .ro .val (Val.list b1), .sl .ro .str (Val.columns b1), .sl .ro .row (Val.rows b1)]), (5, .v true [.int .i64 (Val.kind b2), .int .i64 (Val.n b2), .int .i64 (Val.step b2), .str (Val.text b2), .sl .own .val (Val.list b2), .sl .own .str (Val.columns b2), .sl .own .row (Val.rows b2)]), (7, .v true [.int .i64 (Val.kind b3), .int .i64 (Val.n b3), .int .i64 (Val.step b3), .str (Val.text b3), .sl .own .val (Val.list b3), .sl .own .str (Val.columns b3), .sl .own .row (Val.rows b3)])]
theorem p28_7_0 (x5 : Int) (b1 b2 b3 : Val) (r1 : Rowd) : run tt (AbsCalls Try.prog) I28 3000 true (stkAt 7 I28.body) ⟨(S28_7 x5 b1 b2 b3), [true], [xGe r1], []⟩ = some (.stop (stkAt 7 I28.body) (S28_7 (IntKind.i64.wrap (x5 + 1)) b1 b2 (Val.mk (Val.kind b3) (Val.n b3) (Val.step b3) (Val.text b3) (Val.list b3) (Val.columns b3) ((Val.rows b3) ++ [r1]))) [(decide ((x5 : Int) < (List.length (Val.rows b1) : Int))) = true, (0 : Int) ≤ x5 ∧ x5 < (List.length (Val.rows b1)), AbC 74 (xGM (List.getD (Val.rows b1) (Int.toNat x5) Ty.row.dflt)) (xGe r1), List.length (Val.rows b3) + List.length [r1] ≤ Lim]) := by kernel_rfl
theorem p28_7_1 (x5 : Int) (b1 b2 b3 : Val) : run tt (AbsCalls Try.prog) I28 3000 true (stkAt 7 I28.body) ⟨(S28_7 x5 b1 b2 b3), [false], [], []⟩ = some (.done (xBK b3) [(decide ((x5 : Int) < (List.length (Val.rows b1) : Int))) = false]) := by kernel_rfl
theorem p28_3_2 (x4 : Int) (b1 b2 b3 r1 : Val) : run tt (AbsCalls Try.prog) I28 3000 true (stkAt 3 I28.body) ⟨(S28_3 x4 b1 b2 b3), [true], [xBK r1], []⟩ = some (.stop (stkAt 3 I28.body) (S28_3 (IntKind.i64.wrap (x4 + 1)) b1 b2 (Val.mk (Val.kind b3) (Val.n b3) (Val.step b3) (Val.text b3) ((Val.list b3) ++ [(Val.re r1)]) (Val.columns b3) (Val.rows b3))) [(decide ((x4 : Int) < (List.length (Val.list b1) : Int))) = true, (0 : Int) ≤ x4 ∧ x4 < (List.length (Val.list b1)), AbC 28 (xCw (List.getD (Val.list b1) (Int.toNat x4) Ty.val.dflt)) (xBK r1), List.length (Val.list b3) + List.length [(Val.re r1)] ≤ Lim]) := by kernel_rfl
theorem p28_3_3 (x4 : Int) (b1 b2 b3 : Val) : run tt (AbsCalls Try.prog) I28 3000 true (stkAt 3 I28.body) ⟨(S28_3 x4 b1 b2 b3), [false], [], []⟩ = some (.stop (stkAt 7 I28.body) (S28_7 0 b1 b2 b3) [(decide ((x4 : Int) < (List.length (Val.list b1) : Int))) = false]) := by kernel_rfl
theorem p28_e_4 (a0 : Val) : run tt (AbsCalls Try.prog) I28 3000 false [.code I28.body] ⟨(zBi 0 (xCw a0)), [], [], []⟩ = some (.stop (stkAt 3 I28.body) (S28_3 0 a0 (Val.mk 0 0 0 [] [] [] []) (Val.mk (Val.kind a0) (Val.n a0) (Val.step a0) (Val.text a0) [] ([] ++ (Val.columns a0)) [])) [0 + List.length (Val.columns a0) ≤ Lim]) := by kernel_rfl
theorem c28_7 {N : Nat} {rc_spec_l3Copy : Val → Option (Val)} (hrc_spec_l3Copy : ∀ a0 r, rc_spec_l3Copy a0 = some r → AbC 28 (xCw a0) (xBK r)) : ∀ n x5 b1 b2 b3 r, xDV N rc_spec_l3Copy n x5 b1 b2 b3 = some r → Reach Try.prog Try.f28 I28 (stkAt 7 I28.body) (S28_7 x5 b1 b2 b3) (xBK r) := by
 intro n
 induction n with
 | zero => intro x5 b1 b2 b3 r h; have h' : (none : Option (Val)) = some r := h; cases h'
 | succ n ih =>
  intro x5 b1 b2 b3 r h
  rw [xDV] at h
  rcases cond_inv h with ⟨h0, h⟩ | ⟨h0, h⟩
  ·obtain ⟨h1, h⟩ := ite_inv h
   obtain ⟨r1, h2, h⟩ := bind_inv h
   obtain ⟨h3, h⟩ := ite_inv h
   exact Reach.stop ttok mix fk28 (p28_7_0 x5 b1 b2 b3 r1) (obs_cons h0 (obs_cons h1 (obs_cons (spec_l3Row_ok h2) (obs_cons h3 obs_nil)))) (ih _ _ _ _ _ h)
  ·obtain rfl := Option.some.inj h
   exact Reach.done ttok mix fk28 (p28_7_1 x5 b1 b2 b3) (obs_cons h0 obs_nil)
theorem c28_3 {N : Nat} {rc_spec_l3Copy : Val → Option (Val)} (hrc_spec_l3Copy : ∀ a0 r, rc_spec_l3Copy a0 = some r → AbC 28 (xCw a0) (xBK r)) : ∀ n x4 b1 b2 b3 r, xEB N rc_spec_l3Copy n x4 b1 b2 b3 = some r → Reach Try.prog Try.f28 I28 (stkAt 3 I28.body) (S28_3 x4 b1 b2 b3) (xBK r) := by
 intro n
 induction n with
 | zero => intro x4 b1 b2 b3 r h; have h' : (none : Option (Val)) = some r := h; cases h'
 | succ n ih =>
  intro x4 b1 b2 b3 r h
  rw [xEB] at h
  rcases cond_inv h with ⟨h0, h⟩ | ⟨h0, h⟩
  ·obtain ⟨h1, h⟩ := ite_inv h
   obtain ⟨r1, h2, h⟩ := bind_inv h
   obtain ⟨h3, h⟩ := ite_inv h
   exact Reach.stop ttok mix fk28 (p28_3_2 x4 b1 b2 b3 r1) (obs_cons h0 (obs_cons h1 (obs_cons (hrc_spec_l3Copy _ _ h2) (obs_cons h3 obs_nil)))) (ih _ _ _ _ _ h)
  ·exact Reach.stop ttok mix fk28 (p28_3_3 x4 b1 b2 b3) (obs_cons h0 obs_nil) (c28_7 hrc_spec_l3Copy  _ _ _ _ _ _ h)
theorem c28_e {N : Nat} {rc_spec_l3Copy : Val → Option (Val)} (hrc_spec_l3Copy : ∀ a0 r, rc_spec_l3Copy a0 = some r → AbC 28 (xCw a0) (xBK r)) : ∀ a0 r, xEl N rc_spec_l3Copy a0 = some r → Reach Try.prog Try.f28 I28 [.code I28.body] (zBi 0 (xCw a0)) (xBK r) := by
 intro a0 r h
 unfold xEl at h
 obtain ⟨h0, h⟩ := ite_inv h
 exact Reach.stop ttok mix fk28 (p28_e_4 a0) (obs_cons h0 obs_nil) (c28_3 hrc_spec_l3Copy  _ _ _ _ _ _ h)
theorem xIt {N : Nat} {rc_spec_l3Copy : Val → Option (Val)} (hrc_spec_l3Copy : ∀ a0 r, rc_spec_l3Copy a0 = some r → AbC 28 (xCw a0) (xBK r)) {a0 : Val} {r : Val} (h : xEl N rc_spec_l3Copy a0 = some r) : AbC 28 (xCw a0) (xBK r) :=
 AbsCalls.of_reach fk28 rfl rfl (Nat.le_of_ble_eq_true rfl) (c28_e hrc_spec_l3Copy a0 r h)
theorem spec_l3Copy_fix_ok {N : Nat} : ∀ d, (∀ a0 r, xEf N d a0 = some r → AbC 28 (xCw a0) (xBK r)) := by
 intro d
 induction d with
 | zero => intro _ r h; have h' : (none : Option (Val)) = some r := h; cases h'
 | succ d ih => intro _ r h; exact xIt (N := N) ih h
theorem spec_l3Copy_ok {N : Nat} {a0 : Val} {r : Val} (h : xIs N a0 = some r) : AbC 28 (xCw a0) (xBK r) := spec_l3Copy_fix_ok N _ r h
noncomputable def I55 : Info := { body := (Try.f55.body).getD .skip, nt := 5, results := [.cell 2 31], keep := [0, 4, 5], live := [], modes := [], ext := [], lnt := [], casts := [], fcast := [] }
theorem fk55 : FnOk Try.prog 55 Try.f55 I55 := ⟨Try.func55, by kernel_rfl, by kernel_rfl, by kernel_rfl, by kernel_rfl⟩
theorem p55_e_0 (a0 : Int) : run tt (AbsCalls Try.prog) I55 3000 false [.code I55.body] ⟨(zBi 0 (xCj a0)), [], [], []⟩ = some (.done (xBg (Val.mk 1 a0 0 [] [] [] [])) []) := by kernel_rfl
theorem c55_e {N : Nat} : ∀ a0 r, xCA N a0 = some r → Reach Try.prog Try.f55 I55 [.code I55.body] (zBi 0 (xCj a0)) (xBg r) := by
 intro a0 r h
 unfold xCA at h
 obtain rfl := Option.some.inj h
 exact Reach.done ttok mix fk55 (p55_e_0 a0) obs_nil
theorem xEd {N : Nat} {a0 : Int} {r : Val} (h : xCA N  a0 = some r) : AbC 55 (xCj a0) (xBg r) :=
 AbsCalls.of_reach fk55 rfl rfl (Nat.le_of_ble_eq_true rfl) (c55_e a0 r h)
noncomputable def I29 : Info := { body := (Try.f29.body).getD .skip, nt := 9, results := [.cell 2 31], keep := [0, 4, 10, 5], live := [], modes := [], ext := [], lnt := [], casts := [], fcast := [] }
theorem fk29 : FnOk Try.prog 29 Try.f29 I29 := ⟨Try.func29, by kernel_rfl, by kernel_rfl, by kernel_rfl, by kernel_rfl⟩
theorem p29_e_0 (a0 : Int) (r1 : Bool) (r2 : Val) : run tt (AbsCalls Try.prog) I29 3000 false [.code I29.body] ⟨(zBi 0 (xDv a0)), [true], [xA2 r1, xAO r2], []⟩ = some (.done (xCN r2) [AbC 49 (xCa a0) (xA2 r1), (!r1) = true, AbC 27 (xBH 5) (xAO r2)]) := by kernel_rfl
theorem p29_e_1 (a0 : Int) (r1 : Bool) (r2 : Val) : run tt (AbsCalls Try.prog) I29 3000 false [.code I29.body] ⟨(zBi 0 (xDv a0)), [false], [xA2 r1, xBg r2], []⟩ = some (.done (xCN r2) [AbC 49 (xCa a0) (xA2 r1), (!r1) = false, AbC 55 (xCj a0) (xBg r2)]) := by kernel_rfl
theorem c29_e {N : Nat} : ∀ a0 r, xDC N a0 = some r → Reach Try.prog Try.f29 I29 [.code I29.body] (zBi 0 (xDv a0)) (xCN r) := by
 intro a0 r h
 unfold xDC at h
 obtain ⟨r1, h0, h⟩ := bind_inv h
 rcases cond_inv h with ⟨h1, h⟩ | ⟨h1, h⟩
 ·obtain ⟨r2, h2, h⟩ := bind_inv h
  obtain rfl := Option.some.inj h
  exact Reach.done ttok mix fk29 (p29_e_0 a0 r1 r2) (obs_cons (xC9 h0) (obs_cons h1 (obs_cons (xCq h2) obs_nil)))
 ·obtain ⟨r2, h2, h⟩ := bind_inv h
  obtain rfl := Option.some.inj h
  exact Reach.done ttok mix fk29 (p29_e_1 a0 r1 r2) (obs_cons (xC9 h0) (obs_cons h1 (obs_cons (xEd h2) obs_nil)))
theorem xHU {N : Nat} {a0 : Int} {r : Val} (h : xDC N  a0 = some r) : AbC 29 (xDv a0) (xCN r) :=
 AbsCalls.of_reach fk29 rfl rfl (Nat.le_of_ble_eq_true rfl) (c29_e a0 r h)
noncomputable def I9 : Info := { body := (Try.f9.body).getD .skip, nt := 51, results := [.cell 4 31], keep := [0, 2, 4, 6, 8, 10, 12, 26, 60, 68, 5, 7, 9, 11], live := [], modes := [(1, [(3, .take, false)]), (2, [(0, .take, false)]), (3, [(0, .take, false)]), (4, [(3, .take, false), (7, .take, false)])], ext := [], lnt := [], casts := [], fcast := [] }
theorem fk9 : FnOk Try.prog 9 Try.f9 I9 := ⟨Try.func9, by kernel_rfl, by kernel_rfl, by kernel_rfl, by kernel_rfl⟩
theorem p9_e_0 (a0 a1 : Val) (r1 : Val × Bool) : run tt (AbsCalls Try.prog) I9 3000 false [.code I9.body] ⟨(zBi 0 (xC1 a0 a1)), [true], [xA0 r1], []⟩ = some (.done (xB5 r1.1) [AbC 26 (xBM a0 a1) (xA0 r1), r1.2 = true]) := by kernel_rfl
theorem p9_e_1 (a0 a1 : Val) (r1 : Val × Bool) (r2 : Val) : run tt (AbsCalls Try.prog) I9 3000 false [.code I9.body] ⟨(zBi 0 (xC1 a0 a1)), [false, true, true], [xA0 r1, xAO r2], []⟩ = some (.done (xB5 r2) [AbC 26 (xBM a0 a1) (xA0 r1), r1.2 = false, (decide (((Val.n a0) : Int) < 0)) = true, true = true, AbC 27 (xBH 5) (xAO r2)]) := by kernel_rfl
theorem p9_e_2 (a0 a1 : Val) (r1 : Val × Bool) (r2 : Val) : run tt (AbsCalls Try.prog) I9 3000 false [.code I9.body] ⟨(zBi 0 (xC1 a0 a1)), [false, false, true, true], [xA0 r1, xAO r2], []⟩ = some (.done (xB5 r2) [AbC 26 (xBM a0 a1) (xA0 r1), r1.2 = false, (decide (((Val.n a0) : Int) < 0)) = false, (((Val.kind a1) : Int) == 3) = true, (decide (((Val.n a0) : Int) ≥ (List.length (Val.list a1) : Int))) = true, AbC 27 (xBH 5) (xAO r2)]) := by kernel_rfl
theorem p9_e_3 (a0 a1 : Val) (r1 : Val × Bool) (r2 : Val) : run tt (AbsCalls Try.prog) I9 3000 false [.code I9.body] ⟨(zBi 0 (xC1 a0 a1)), [false, false, true, false, true], [xA0 r1, xBK r2], []⟩ = some (.done (xB5 r2) [AbC 26 (xBM a0 a1) (xA0 r1), r1.2 = false, (decide (((Val.n a0) : Int) < 0)) = false, (((Val.kind a1) : Int) == 3) = true, (decide (((Val.n a0) : Int) ≥ (List.length (Val.list a1) : Int))) = false, (((Val.kind a1) : Int) == 3) = true, (0 : Int) ≤ (Val.n a0) ∧ (Val.n a0) < (List.length (Val.list a1)), AbC 28 (xCw (List.getD (Val.list a1) (Int.toNat (Val.n a0)) Ty.val.dflt)) (xBK r2)]) := by kernel_rfl
theorem p9_e_4 (a0 a1 : Val) (r1 : Val × Bool) (r2 : Val) : run tt (AbsCalls Try.prog) I9 3000 false [.code I9.body] ⟨(zBi 0 (xC1 a0 a1)), [false, false, false, false, false], [xA0 r1, xCN r2], []⟩ = some (.done (xB5 r2) [AbC 26 (xBM a0 a1) (xA0 r1), r1.2 = false, (decide (((Val.n a0) : Int) < 0)) = false, (((Val.kind a1) : Int) == 3) = false, false = false, (((Val.kind a1) : Int) == 3) = false, AbC 29 (xDv (IntKind.i64.wrap ((Val.n a1) + (IntKind.i64.wrap ((Val.n a0) * (Val.step a1)))))) (xCN r2)]) := by kernel_rfl
theorem c9_e {N : Nat} : ∀ a0 a1 r, xDm N a0 a1 = some r → Reach Try.prog Try.f9 I9 [.code I9.body] (zBi 0 (xC1 a0 a1)) (xB5 r) := by
 intro a0 a1 r h
 unfold xDm at h
 obtain ⟨r1, h0, h⟩ := bind_inv h
 rcases cond_inv h with ⟨h1, h⟩ | ⟨h1, h⟩
 ·obtain rfl := Option.some.inj h
  exact Reach.done ttok mix fk9 (p9_e_0 a0 a1 r1) (obs_cons (xDW h0) (obs_cons h1 obs_nil))
 ·rcases cond_inv h with ⟨h2, h⟩ | ⟨h2, h⟩
  ·obtain ⟨r2, h4, h⟩ := bind_inv h
   obtain rfl := Option.some.inj h
   exact Reach.done ttok mix fk9 (p9_e_1 a0 a1 r1 r2) (obs_cons (xDW h0) (obs_cons h1 (obs_cons h2 (obs_cons rfl (obs_cons (xCq h4) obs_nil)))))
  ·rcases cond_inv h with ⟨h3, h⟩ | ⟨h3, h⟩
   ·rcases cond_inv h with ⟨h4, h⟩ | ⟨h4, h⟩
    ·obtain ⟨r2, h5, h⟩ := bind_inv h
     obtain rfl := Option.some.inj h
     exact Reach.done ttok mix fk9 (p9_e_2 a0 a1 r1 r2) (obs_cons (xDW h0) (obs_cons h1 (obs_cons h2 (obs_cons h3 (obs_cons h4 (obs_cons (xCq h5) obs_nil))))))
    ·obtain ⟨h6, h⟩ := ite_inv h
     obtain ⟨r2, h7, h⟩ := bind_inv h
     obtain rfl := Option.some.inj h
     exact Reach.done ttok mix fk9 (p9_e_3 a0 a1 r1 r2) (obs_cons (xDW h0) (obs_cons h1 (obs_cons h2 (obs_cons h3 (obs_cons h4 (obs_cons h3 (obs_cons h6 (obs_cons (spec_l3Copy_ok h7) obs_nil))))))))
   ·obtain ⟨r2, h6, h⟩ := bind_inv h
    obtain rfl := Option.some.inj h
    exact Reach.done ttok mix fk9 (p9_e_4 a0 a1 r1 r2) (obs_cons (xDW h0) (obs_cons h1 (obs_cons h2 (obs_cons h3 (obs_cons rfl (obs_cons h3 (obs_cons (xHU h6) obs_nil)))))))
theorem xGL {N : Nat} {a0 : Val} {a1 : Val} {r : Val} (h : xDm N  a0 a1 = some r) : AbC 9 (xC1 a0 a1) (xB5 r) :=
 AbsCalls.of_reach fk9 rfl rfl (Nat.le_of_ble_eq_true rfl) (c9_e a0 a1 r h)
noncomputable def I56 : Info := { body := (Try.f56.body).getD .skip, nt := 15, results := [.tmp 6], keep := [0, 2, 4, 12], live := [], modes := [(1, [(3, .take, false)])], ext := [], lnt := [], casts := [], fcast := [] }
theorem fk56 : FnOk Try.prog 56 Try.f56 I56 := ⟨Try.func56, by kernel_rfl, by kernel_rfl, by kernel_rfl, by kernel_rfl⟩
theorem p56_e_0 (a0 a1 a2 : Int) : run tt (AbsCalls Try.prog) I56 3000 false [.code I56.body] ⟨(zBi 0 (xBW a0 a1 a2)), [true], [], []⟩ = some (.done (xAT (decide ((a0 : Int) ≤ a2))) [(decide ((a1 : Int) ≤ a0)) = true]) := by kernel_rfl
theorem p56_e_1 (a0 a1 a2 : Int) : run tt (AbsCalls Try.prog) I56 3000 false [.code I56.body] ⟨(zBi 0 (xBW a0 a1 a2)), [false], [], []⟩ = some (.done (xAT false) [(decide ((a1 : Int) ≤ a0)) = false]) := by kernel_rfl
theorem c56_e {N : Nat} : ∀ a0 a1 a2 r, xD8 N a0 a1 a2 = some r → Reach Try.prog Try.f56 I56 [.code I56.body] (zBi 0 (xBW a0 a1 a2)) (xAT r) := by
 intro a0 a1 a2 r h
 unfold xD8 at h
 rcases cond_inv h with ⟨h0, h⟩ | ⟨h0, h⟩
 ·obtain rfl := Option.some.inj h
  exact Reach.done ttok mix fk56 (p56_e_0 a0 a1 a2) (obs_cons h0 obs_nil)
 ·obtain rfl := Option.some.inj h
  exact Reach.done ttok mix fk56 (p56_e_1 a0 a1 a2) (obs_cons h0 obs_nil)
theorem xCQ {N : Nat} {a0 : Int} {a1 : Int} {a2 : Int} {r : Bool} (h : xD8 N  a0 a1 a2 = some r) : AbC 56 (xBW a0 a1 a2) (xAT r) :=
 AbsCalls.of_reach fk56 rfl rfl (Nat.le_of_ble_eq_true rfl) (c56_e a0 a1 a2 r h)
noncomputable def I53 : Info := { body := (Try.f53.body).getD .skip, nt := 5, results := [.tmp 2], keep := [0, 4], live := [], modes := [], ext := [], lnt := [], casts := [], fcast := [] }
theorem fk53 : FnOk Try.prog 53 Try.f53 I53 := ⟨Try.func53, by kernel_rfl, by kernel_rfl, by kernel_rfl, by kernel_rfl⟩
theorem p53_e_0 (a0 : Int) (r1 : Bool) : run tt (AbsCalls Try.prog) I53 3000 false [.code I53.body] ⟨(zBi 0 (xB7 a0)), [], [xAT r1], []⟩ = some (.done (xA1 r1) [AbC 56 (xBW a0 (-1000000000) 1000000000) (xAT r1)]) := by kernel_rfl
theorem c53_e {N : Nat} : ∀ a0 r, xDo N a0 = some r → Reach Try.prog Try.f53 I53 [.code I53.body] (zBi 0 (xB7 a0)) (xA1 r) := by
 intro a0 r h
 unfold xDo at h
 obtain ⟨r1, h0, h⟩ := bind_inv h
 obtain rfl := Option.some.inj h
 exact Reach.done ttok mix fk53 (p53_e_0 a0 r1) (obs_cons (xCQ h0) obs_nil)
theorem xC6 {N : Nat} {a0 : Int} {r : Bool} (h : xDo N  a0 = some r) : AbC 53 (xB7 a0) (xA1 r) :=
 AbsCalls.of_reach fk53 rfl rfl (Nat.le_of_ble_eq_true rfl) (c53_e a0 r h)
noncomputable def I109 : Info := { body := (Try.f109.body).getD .skip, nt := 29, results := [.tmp 2], keep := [0, 4, 6, 14, 50], live := [(2, [0, 6])], modes := [(4, [(4, .take, false), (10, .take, false)])], ext := [], lnt := [], casts := [], fcast := [] }
theorem fk109 : FnOk Try.prog 109 Try.f109 I109 := ⟨Try.func109, by kernel_rfl, by kernel_rfl, by kernel_rfl, by kernel_rfl⟩
def S109_2 (x0 : Str) (x3 : Int) : St := [(0, .v false [.str x0]), (6, .v false [.int .i64 x3])]
theorem p109_2_0 (x0 : Str) (x3 : Int) : run tt (AbsCalls Try.prog) I109 3000 true (stkAt 2 I109.body) ⟨(S109_2 x0 x3), [true, true, true, true], [], []⟩ = some (.done (xBZ false) [(decide ((x3 : Int) < (List.length x0 : Int))) = true, (0 : Int) ≤ x3 ∧ x3 < (List.length x0), (decide ((((List.getD x0 (Int.toNat x3) 0).toNat : Int) : Int) < 32)) = true, true = true, true = true]) := by kernel_rfl
theorem p109_2_1 (x0 : Str) (x3 : Int) : run tt (AbsCalls Try.prog) I109 3000 true (stkAt 2 I109.body) ⟨(S109_2 x0 x3), [true, false, true, true], [], []⟩ = some (.done (xBZ false) [(decide ((x3 : Int) < (List.length x0 : Int))) = true, (0 : Int) ≤ x3 ∧ x3 < (List.length x0), (decide ((((List.getD x0 (Int.toNat x3) 0).toNat : Int) : Int) < 32)) = false, (0 : Int) ≤ x3 ∧ x3 < (List.length x0), (decide ((((List.getD x0 (Int.toNat x3) 0).toNat : Int) : Int) > 126)) = true, true = true]) := by kernel_rfl
theorem p109_2_2 (x0 : Str) (x3 : Int) : run tt (AbsCalls Try.prog) I109 3000 true (stkAt 2 I109.body) ⟨(S109_2 x0 x3), [true, false, false, true], [], []⟩ = some (.done (xBZ false) [(decide ((x3 : Int) < (List.length x0 : Int))) = true, (0 : Int) ≤ x3 ∧ x3 < (List.length x0), (decide ((((List.getD x0 (Int.toNat x3) 0).toNat : Int) : Int) < 32)) = false, (0 : Int) ≤ x3 ∧ x3 < (List.length x0), (decide ((((List.getD x0 (Int.toNat x3) 0).toNat : Int) : Int) > 126)) = false, (0 : Int) ≤ x3 ∧ x3 < (List.length x0), ((((List.getD x0 (Int.toNat x3) 0).toNat : Int) : Int) == 34) = true]) := by kernel_rfl
theorem p109_2_3 (x0 : Str) (x3 : Int) : run tt (AbsCalls Try.prog) I109 3000 true (stkAt 2 I109.body) ⟨(S109_2 x0 x3), [true, false, false, false], [], []⟩ = some (.stop (stkAt 2 I109.body) (S109_2 x0 (IntKind.i64.wrap (x3 + 1))) [(decide ((x3 : Int) < (List.length x0 : Int))) = true, (0 : Int) ≤ x3 ∧ x3 < (List.length x0), (decide ((((List.getD x0 (Int.toNat x3) 0).toNat : Int) : Int) < 32)) = false, (0 : Int) ≤ x3 ∧ x3 < (List.length x0), (decide ((((List.getD x0 (Int.toNat x3) 0).toNat : Int) : Int) > 126)) = false, (0 : Int) ≤ x3 ∧ x3 < (List.length x0), ((((List.getD x0 (Int.toNat x3) 0).toNat : Int) : Int) == 34) = false]) := by kernel_rfl
theorem p109_2_4 (x0 : Str) (x3 : Int) : run tt (AbsCalls Try.prog) I109 3000 true (stkAt 2 I109.body) ⟨(S109_2 x0 x3), [false], [], []⟩ = some (.done (xBZ (decide (((List.length x0 : Int) : Int) ≤ 20))) [(decide ((x3 : Int) < (List.length x0 : Int))) = false]) := by kernel_rfl
theorem p109_e_5 (a0 : Str) : run tt (AbsCalls Try.prog) I109 3000 false [.code I109.body] ⟨(zBi 0 (xES a0)), [], [], []⟩ = some (.stop (stkAt 2 I109.body) (S109_2 a0 0) []) := by kernel_rfl
theorem c109_2 {N : Nat} : ∀ n x0 x3 r, xDc N n x0 x3 = some r → Reach Try.prog Try.f109 I109 (stkAt 2 I109.body) (S109_2 x0 x3) (xBZ r) := by
 intro n
 induction n with
 | zero => intro x0 x3 r h; have h' : (none : Option (Bool)) = some r := h; cases h'
 | succ n ih =>
  intro x0 x3 r h
  rw [xDc] at h
  rcases cond_inv h with ⟨h0, h⟩ | ⟨h0, h⟩
  ·obtain ⟨h1, h⟩ := ite_inv h
   rcases cond_inv h with ⟨h2, h⟩ | ⟨h2, h⟩
   ·obtain rfl := Option.some.inj h
    exact Reach.done ttok mix fk109 (p109_2_0 x0 x3) (obs_cons h0 (obs_cons h1 (obs_cons h2 (obs_cons rfl (obs_cons rfl obs_nil)))))
   ·rcases cond_inv h with ⟨h4, h⟩ | ⟨h4, h⟩
    ·obtain rfl := Option.some.inj h
     exact Reach.done ttok mix fk109 (p109_2_1 x0 x3) (obs_cons h0 (obs_cons h1 (obs_cons h2 (obs_cons h1 (obs_cons h4 (obs_cons rfl obs_nil))))))
    ·rcases cond_inv h with ⟨h6, h⟩ | ⟨h6, h⟩
     ·obtain rfl := Option.some.inj h
      exact Reach.done ttok mix fk109 (p109_2_2 x0 x3) (obs_cons h0 (obs_cons h1 (obs_cons h2 (obs_cons h1 (obs_cons h4 (obs_cons h1 (obs_cons h6 obs_nil)))))))
     ·exact Reach.stop ttok mix fk109 (p109_2_3 x0 x3) (obs_cons h0 (obs_cons h1 (obs_cons h2 (obs_cons h1 (obs_cons h4 (obs_cons h1 (obs_cons h6 obs_nil))))))) (ih _ _ _ h)
  ·obtain rfl := Option.some.inj h
   exact Reach.done ttok mix fk109 (p109_2_4 x0 x3) (obs_cons h0 obs_nil)
theorem c109_e {N : Nat} : ∀ a0 r, xE1 N a0 = some r → Reach Try.prog Try.f109 I109 [.code I109.body] (zBi 0 (xES a0)) (xBZ r) := by
 intro a0 r h
 unfold xE1 at h
 exact Reach.stop ttok mix fk109 (p109_e_5 a0) obs_nil (c109_2   _ _ _ _ h)
theorem xIf {N : Nat} {a0 : Str} {r : Bool} (h : xE1 N  a0 = some r) : AbC 109 (xES a0) (xBZ r) :=
 AbsCalls.of_reach fk109 rfl rfl (Nat.le_of_ble_eq_true rfl) (c109_e a0 r h)
noncomputable def I87 : Info := { body := (Try.f87.body).getD .skip, nt := 42, results := [.tmp 2], keep := [0, 4, 6, 8, 16, 76], live := [(2, [0, 6])], modes := [(4, [(4, .take, false)]), (5, [(0, .take, false), (2, .take, false), (5, .take, false), (11, .take, false)])], ext := [], lnt := [], casts := [], fcast := [] }
theorem fk87 : FnOk Try.prog 87 Try.f87 I87 := ⟨Try.func87, by kernel_rfl, by kernel_rfl, by kernel_rfl, by kernel_rfl⟩
def xH9 (x0 : Str) (x3 : Int) : St := [(0, .v false [.str x0]), (6, .v false [.int .i64 x3])]
theorem p87_2_0 (x0 : Str) (x3 : Int) : run tt (AbsCalls Try.prog) I87 3000 true (stkAt 2 I87.body) ⟨(xH9 x0 x3), [true, true, true, true, true, true], [], []⟩ = some (.done (xBV false) [(decide ((x3 : Int) < (List.length x0 : Int))) = true, (0 : Int) ≤ x3 ∧ x3 < (List.length x0), (decide ((((List.getD x0 (Int.toNat x3) 0).toNat : Int) : Int) ≥ 97)) = true, (0 : Int) ≤ x3 ∧ x3 < (List.length x0), (!(decide ((((List.getD x0 (Int.toNat x3) 0).toNat : Int) : Int) ≤ 122))) = true, ((x3 : Int) == 0) = true, true = true, true = true]) := by kernel_rfl
theorem p87_2_1 (x0 : Str) (x3 : Int) : run tt (AbsCalls Try.prog) I87 3000 true (stkAt 2 I87.body) ⟨(xH9 x0 x3), [true, true, true, false, true, true], [], []⟩ = some (.done (xBV false) [(decide ((x3 : Int) < (List.length x0 : Int))) = true, (0 : Int) ≤ x3 ∧ x3 < (List.length x0), (decide ((((List.getD x0 (Int.toNat x3) 0).toNat : Int) : Int) ≥ 97)) = true, (0 : Int) ≤ x3 ∧ x3 < (List.length x0), (!(decide ((((List.getD x0 (Int.toNat x3) 0).toNat : Int) : Int) ≤ 122))) = true, ((x3 : Int) == 0) = false, (0 : Int) ≤ x3 ∧ x3 < (List.length x0), (decide ((((List.getD x0 (Int.toNat x3) 0).toNat : Int) : Int) < 48)) = true, true = true]) := by kernel_rfl
theorem p87_2_2 (x0 : Str) (x3 : Int) : run tt (AbsCalls Try.prog) I87 3000 true (stkAt 2 I87.body) ⟨(xH9 x0 x3), [true, true, true, false, false, true], [], []⟩ = some (.done (xBV false) [(decide ((x3 : Int) < (List.length x0 : Int))) = true, (0 : Int) ≤ x3 ∧ x3 < (List.length x0), (decide ((((List.getD x0 (Int.toNat x3) 0).toNat : Int) : Int) ≥ 97)) = true, (0 : Int) ≤ x3 ∧ x3 < (List.length x0), (!(decide ((((List.getD x0 (Int.toNat x3) 0).toNat : Int) : Int) ≤ 122))) = true, ((x3 : Int) == 0) = false, (0 : Int) ≤ x3 ∧ x3 < (List.length x0), (decide ((((List.getD x0 (Int.toNat x3) 0).toNat : Int) : Int) < 48)) = false, (0 : Int) ≤ x3 ∧ x3 < (List.length x0), (decide ((((List.getD x0 (Int.toNat x3) 0).toNat : Int) : Int) > 57)) = true]) := by kernel_rfl
theorem p87_2_3 (x0 : Str) (x3 : Int) : run tt (AbsCalls Try.prog) I87 3000 true (stkAt 2 I87.body) ⟨(xH9 x0 x3), [true, true, true, false, false, false], [], []⟩ = some (.stop (stkAt 2 I87.body) (xH9 x0 (IntKind.i64.wrap (x3 + 1))) [(decide ((x3 : Int) < (List.length x0 : Int))) = true, (0 : Int) ≤ x3 ∧ x3 < (List.length x0), (decide ((((List.getD x0 (Int.toNat x3) 0).toNat : Int) : Int) ≥ 97)) = true, (0 : Int) ≤ x3 ∧ x3 < (List.length x0), (!(decide ((((List.getD x0 (Int.toNat x3) 0).toNat : Int) : Int) ≤ 122))) = true, ((x3 : Int) == 0) = false, (0 : Int) ≤ x3 ∧ x3 < (List.length x0), (decide ((((List.getD x0 (Int.toNat x3) 0).toNat : Int) : Int) < 48)) = false, (0 : Int) ≤ x3 ∧ x3 < (List.length x0), (decide ((((List.getD x0 (Int.toNat x3) 0).toNat : Int) : Int) > 57)) = false]) := by kernel_rfl
theorem p87_2_4 (x0 : Str) (x3 : Int) : run tt (AbsCalls Try.prog) I87 3000 true (stkAt 2 I87.body) ⟨(xH9 x0 x3), [true, true, false, false], [], []⟩ = some (.stop (stkAt 2 I87.body) (xH9 x0 (IntKind.i64.wrap (x3 + 1))) [(decide ((x3 : Int) < (List.length x0 : Int))) = true, (0 : Int) ≤ x3 ∧ x3 < (List.length x0), (decide ((((List.getD x0 (Int.toNat x3) 0).toNat : Int) : Int) ≥ 97)) = true, (0 : Int) ≤ x3 ∧ x3 < (List.length x0), (!(decide ((((List.getD x0 (Int.toNat x3) 0).toNat : Int) : Int) ≤ 122))) = false, false = false]) := by kernel_rfl
theorem p87_2_5 (x0 : Str) (x3 : Int) : run tt (AbsCalls Try.prog) I87 3000 true (stkAt 2 I87.body) ⟨(xH9 x0 x3), [true, false, true, true, true, true], [], []⟩ = some (.done (xBV false) [(decide ((x3 : Int) < (List.length x0 : Int))) = true, (0 : Int) ≤ x3 ∧ x3 < (List.length x0), (decide ((((List.getD x0 (Int.toNat x3) 0).toNat : Int) : Int) ≥ 97)) = false, (!false) = true, ((x3 : Int) == 0) = true, true = true, true = true]) := by kernel_rfl
theorem p87_2_6 (x0 : Str) (x3 : Int) : run tt (AbsCalls Try.prog) I87 3000 true (stkAt 2 I87.body) ⟨(xH9 x0 x3), [true, false, true, false, true, true], [], []⟩ = some (.done (xBV false) [(decide ((x3 : Int) < (List.length x0 : Int))) = true, (0 : Int) ≤ x3 ∧ x3 < (List.length x0), (decide ((((List.getD x0 (Int.toNat x3) 0).toNat : Int) : Int) ≥ 97)) = false, (!false) = true, ((x3 : Int) == 0) = false, (0 : Int) ≤ x3 ∧ x3 < (List.length x0), (decide ((((List.getD x0 (Int.toNat x3) 0).toNat : Int) : Int) < 48)) = true, true = true]) := by kernel_rfl
theorem p87_2_7 (x0 : Str) (x3 : Int) : run tt (AbsCalls Try.prog) I87 3000 true (stkAt 2 I87.body) ⟨(xH9 x0 x3), [true, false, true, false, false, true], [], []⟩ = some (.done (xBV false) [(decide ((x3 : Int) < (List.length x0 : Int))) = true, (0 : Int) ≤ x3 ∧ x3 < (List.length x0), (decide ((((List.getD x0 (Int.toNat x3) 0).toNat : Int) : Int) ≥ 97)) = false, (!false) = true, ((x3 : Int) == 0) = false, (0 : Int) ≤ x3 ∧ x3 < (List.length x0), (decide ((((List.getD x0 (Int.toNat x3) 0).toNat : Int) : Int) < 48)) = false, (0 : Int) ≤ x3 ∧ x3 < (List.length x0), (decide ((((List.getD x0 (Int.toNat x3) 0).toNat : Int) : Int) > 57)) = true]) := by kernel_rfl
theorem p87_2_8 (x0 : Str) (x3 : Int) : run tt (AbsCalls Try.prog) I87 3000 true (stkAt 2 I87.body) ⟨(xH9 x0 x3), [true, false, true, false, false, false], [], []⟩ = some (.stop (stkAt 2 I87.body) (xH9 x0 (IntKind.i64.wrap (x3 + 1))) [(decide ((x3 : Int) < (List.length x0 : Int))) = true, (0 : Int) ≤ x3 ∧ x3 < (List.length x0), (decide ((((List.getD x0 (Int.toNat x3) 0).toNat : Int) : Int) ≥ 97)) = false, (!false) = true, ((x3 : Int) == 0) = false, (0 : Int) ≤ x3 ∧ x3 < (List.length x0), (decide ((((List.getD x0 (Int.toNat x3) 0).toNat : Int) : Int) < 48)) = false, (0 : Int) ≤ x3 ∧ x3 < (List.length x0), (decide ((((List.getD x0 (Int.toNat x3) 0).toNat : Int) : Int) > 57)) = false]) := by kernel_rfl
theorem p87_2_9 (x0 : Str) (x3 : Int) (r1 : Bool) : run tt (AbsCalls Try.prog) I87 3000 true (stkAt 2 I87.body) ⟨(xH9 x0 x3), [false], [xAT r1], []⟩ = some (.done (xBV r1) [(decide ((x3 : Int) < (List.length x0 : Int))) = false, AbC 56 (xBW (List.length x0 : Int) 1 8) (xAT r1)]) := by kernel_rfl
theorem p87_e_10 (a0 : Str) : run tt (AbsCalls Try.prog) I87 3000 false [.code I87.body] ⟨(zBi 0 (xFO a0)), [], [], []⟩ = some (.stop (stkAt 2 I87.body) (xH9 a0 0) []) := by kernel_rfl
theorem c87_2 {N : Nat} : ∀ n x0 x3 r, xCP N n x0 x3 = some r → Reach Try.prog Try.f87 I87 (stkAt 2 I87.body) (xH9 x0 x3) (xBV r) := by
 intro n
 induction n with
 | zero => intro x0 x3 r h; have h' : (none : Option (Bool)) = some r := h; cases h'
 | succ n ih =>
  intro x0 x3 r h
  rw [xCP] at h
  rcases cond_inv h with ⟨h0, h⟩ | ⟨h0, h⟩
  ·obtain ⟨h1, h⟩ := ite_inv h
   rcases cond_inv h with ⟨h2, h⟩ | ⟨h2, h⟩
   ·rcases cond_inv h with ⟨h4, h⟩ | ⟨h4, h⟩
    ·rcases cond_inv h with ⟨h5, h⟩ | ⟨h5, h⟩
     ·obtain rfl := Option.some.inj h
      exact Reach.done ttok mix fk87 (p87_2_0 x0 x3) (obs_cons h0 (obs_cons h1 (obs_cons h2 (obs_cons h1 (obs_cons h4 (obs_cons h5 (obs_cons rfl (obs_cons rfl obs_nil))))))))
     ·rcases cond_inv h with ⟨h7, h⟩ | ⟨h7, h⟩
      ·obtain rfl := Option.some.inj h
       exact Reach.done ttok mix fk87 (p87_2_1 x0 x3) (obs_cons h0 (obs_cons h1 (obs_cons h2 (obs_cons h1 (obs_cons h4 (obs_cons h5 (obs_cons h1 (obs_cons h7 (obs_cons rfl obs_nil)))))))))
      ·rcases cond_inv h with ⟨h9, h⟩ | ⟨h9, h⟩
       ·obtain rfl := Option.some.inj h
        exact Reach.done ttok mix fk87 (p87_2_2 x0 x3) (obs_cons h0 (obs_cons h1 (obs_cons h2 (obs_cons h1 (obs_cons h4 (obs_cons h5 (obs_cons h1 (obs_cons h7 (obs_cons h1 (obs_cons h9 obs_nil))))))))))
       ·exact Reach.stop ttok mix fk87 (p87_2_3 x0 x3) (obs_cons h0 (obs_cons h1 (obs_cons h2 (obs_cons h1 (obs_cons h4 (obs_cons h5 (obs_cons h1 (obs_cons h7 (obs_cons h1 (obs_cons h9 obs_nil)))))))))) (ih _ _ _ h)
    ·exact Reach.stop ttok mix fk87 (p87_2_4 x0 x3) (obs_cons h0 (obs_cons h1 (obs_cons h2 (obs_cons h1 (obs_cons h4 (obs_cons rfl obs_nil)))))) (ih _ _ _ h)
   ·rcases cond_inv h with ⟨h4, h⟩ | ⟨h4, h⟩
    ·obtain rfl := Option.some.inj h
     exact Reach.done ttok mix fk87 (p87_2_5 x0 x3) (obs_cons h0 (obs_cons h1 (obs_cons h2 (obs_cons rfl (obs_cons h4 (obs_cons rfl (obs_cons rfl obs_nil)))))))
    ·rcases cond_inv h with ⟨h6, h⟩ | ⟨h6, h⟩
     ·obtain rfl := Option.some.inj h
      exact Reach.done ttok mix fk87 (p87_2_6 x0 x3) (obs_cons h0 (obs_cons h1 (obs_cons h2 (obs_cons rfl (obs_cons h4 (obs_cons h1 (obs_cons h6 (obs_cons rfl obs_nil))))))))
     ·rcases cond_inv h with ⟨h8, h⟩ | ⟨h8, h⟩
      ·obtain rfl := Option.some.inj h
       exact Reach.done ttok mix fk87 (p87_2_7 x0 x3) (obs_cons h0 (obs_cons h1 (obs_cons h2 (obs_cons rfl (obs_cons h4 (obs_cons h1 (obs_cons h6 (obs_cons h1 (obs_cons h8 obs_nil)))))))))
      ·exact Reach.stop ttok mix fk87 (p87_2_8 x0 x3) (obs_cons h0 (obs_cons h1 (obs_cons h2 (obs_cons rfl (obs_cons h4 (obs_cons h1 (obs_cons h6 (obs_cons h1 (obs_cons h8 obs_nil))))))))) (ih _ _ _ h)
  ·obtain ⟨r1, h1, h⟩ := bind_inv h
   obtain rfl := Option.some.inj h
   exact Reach.done ttok mix fk87 (p87_2_9 x0 x3 r1) (obs_cons h0 (obs_cons (xCQ h1) obs_nil))
theorem c87_e {N : Nat} : ∀ a0 r, xGW N a0 = some r → Reach Try.prog Try.f87 I87 [.code I87.body] (zBi 0 (xFO a0)) (xBV r) := by
 intro a0 r h
 unfold xGW at h
 exact Reach.stop ttok mix fk87 (p87_e_10 a0) obs_nil (c87_2   _ _ _ _ h)
theorem xH6 {N : Nat} {a0 : Str} {r : Bool} (h : xGW N  a0 = some r) : AbC 87 (xFO a0) (xBV r) :=
 AbsCalls.of_reach fk87 rfl rfl (Nat.le_of_ble_eq_true rfl) (c87_e a0 r h)
noncomputable def I102 : Info := { body := (Try.f102.body).getD .skip, nt := 26, results := [.tmp 2], keep := [0, 4, 6, 8, 12, 24, 40, 48], live := [], modes := [], ext := [], lnt := [], casts := [], fcast := [] }
theorem xHr : FnOk Try.prog 102 Try.f102 I102 := ⟨Try.func102, by kernel_rfl, by kernel_rfl, by kernel_rfl, by kernel_rfl⟩
theorem p102_e_0 (a0 : Str) : run tt (AbsCalls Try.prog) I102 3000 false [.code I102.body] ⟨(zBi 0 (xAF a0)), [true], [], []⟩ = some (.done (xAD 0) [((a0 : Str) == [99, 108, 111, 99, 107]) = true]) := by kernel_rfl
theorem p102_e_1 (a0 : Str) : run tt (AbsCalls Try.prog) I102 3000 false [.code I102.body] ⟨(zBi 0 (xAF a0)), [false, true, true], [], []⟩ = some (.done (xAD 1) [((a0 : Str) == [99, 108, 111, 99, 107]) = false, ((a0 : Str) == [108, 101, 110]) = true, ((a0 : Str) == [108, 101, 110]) = true]) := by kernel_rfl
theorem p102_e_2 (a0 : Str) : run tt (AbsCalls Try.prog) I102 3000 false [.code I102.body] ⟨(zBi 0 (xAF a0)), [false, false, true, true], [], []⟩ = some (.done (xAD 1) [((a0 : Str) == [99, 108, 111, 99, 107]) = false, ((a0 : Str) == [108, 101, 110]) = false, ((a0 : Str) == [115, 117, 109]) = true, ((a0 : Str) == [115, 117, 109]) = true]) := by kernel_rfl
theorem p102_e_3 (a0 : Str) : run tt (AbsCalls Try.prog) I102 3000 false [.code I102.body] ⟨(zBi 0 (xAF a0)), [false, false, false, true, true], [], []⟩ = some (.done (xAD 1) [((a0 : Str) == [99, 108, 111, 99, 107]) = false, ((a0 : Str) == [108, 101, 110]) = false, ((a0 : Str) == [115, 117, 109]) = false, ((a0 : Str) == [114, 111, 119, 115]) = true, ((a0 : Str) == [114, 111, 119, 115]) = true]) := by kernel_rfl
theorem p102_e_4 (a0 : Str) : run tt (AbsCalls Try.prog) I102 3000 false [.code I102.body] ⟨(zBi 0 (xAF a0)), [false, false, false, false, true, true], [], []⟩ = some (.done (xAD 1) [((a0 : Str) == [99, 108, 111, 99, 107]) = false, ((a0 : Str) == [108, 101, 110]) = false, ((a0 : Str) == [115, 117, 109]) = false, ((a0 : Str) == [114, 111, 119, 115]) = false, ((a0 : Str) == [99, 104, 97, 110, 99, 101]) = true, ((a0 : Str) == [99, 104, 97, 110, 99, 101]) = true]) := by kernel_rfl
theorem p102_e_5 (a0 : Str) : run tt (AbsCalls Try.prog) I102 3000 false [.code I102.body] ⟨(zBi 0 (xAF a0)), [false, false, false, false, false, true], [], []⟩ = some (.done (xAD 1) [((a0 : Str) == [99, 108, 111, 99, 107]) = false, ((a0 : Str) == [108, 101, 110]) = false, ((a0 : Str) == [115, 117, 109]) = false, ((a0 : Str) == [114, 111, 119, 115]) = false, ((a0 : Str) == [99, 104, 97, 110, 99, 101]) = false, ((a0 : Str) == [102, 105, 108, 101]) = true]) := by kernel_rfl
theorem p102_e_6 (a0 : Str) : run tt (AbsCalls Try.prog) I102 3000 false [.code I102.body] ⟨(zBi 0 (xAF a0)), [false, false, false, false, false, false, true, true], [], []⟩ = some (.done (xAD 2) [((a0 : Str) == [99, 108, 111, 99, 107]) = false, ((a0 : Str) == [108, 101, 110]) = false, ((a0 : Str) == [115, 117, 109]) = false, ((a0 : Str) == [114, 111, 119, 115]) = false, ((a0 : Str) == [99, 104, 97, 110, 99, 101]) = false, ((a0 : Str) == [102, 105, 108, 101]) = false, ((a0 : Str) == [116, 97, 107, 101]) = true, ((a0 : Str) == [116, 97, 107, 101]) = true]) := by kernel_rfl
theorem p102_e_7 (a0 : Str) : run tt (AbsCalls Try.prog) I102 3000 false [.code I102.body] ⟨(zBi 0 (xAF a0)), [false, false, false, false, false, false, false, true, true], [], []⟩ = some (.done (xAD 2) [((a0 : Str) == [99, 108, 111, 99, 107]) = false, ((a0 : Str) == [108, 101, 110]) = false, ((a0 : Str) == [115, 117, 109]) = false, ((a0 : Str) == [114, 111, 119, 115]) = false, ((a0 : Str) == [99, 104, 97, 110, 99, 101]) = false, ((a0 : Str) == [102, 105, 108, 101]) = false, ((a0 : Str) == [116, 97, 107, 101]) = false, ((a0 : Str) == [115, 107, 105, 112]) = true, ((a0 : Str) == [115, 107, 105, 112]) = true]) := by kernel_rfl
theorem p102_e_8 (a0 : Str) : run tt (AbsCalls Try.prog) I102 3000 false [.code I102.body] ⟨(zBi 0 (xAF a0)), [false, false, false, false, false, false, false, false, true, true], [], []⟩ = some (.done (xAD 2) [((a0 : Str) == [99, 108, 111, 99, 107]) = false, ((a0 : Str) == [108, 101, 110]) = false, ((a0 : Str) == [115, 117, 109]) = false, ((a0 : Str) == [114, 111, 119, 115]) = false, ((a0 : Str) == [99, 104, 97, 110, 99, 101]) = false, ((a0 : Str) == [102, 105, 108, 101]) = false, ((a0 : Str) == [116, 97, 107, 101]) = false, ((a0 : Str) == [115, 107, 105, 112]) = false, ((a0 : Str) == [114, 97, 110, 103, 101]) = true, ((a0 : Str) == [114, 97, 110, 103, 101]) = true]) := by kernel_rfl
theorem p102_e_9 (a0 : Str) : run tt (AbsCalls Try.prog) I102 3000 false [.code I102.body] ⟨(zBi 0 (xAF a0)), [false, false, false, false, false, false, false, false, false, true, true], [], []⟩ = some (.done (xAD 2) [((a0 : Str) == [99, 108, 111, 99, 107]) = false, ((a0 : Str) == [108, 101, 110]) = false, ((a0 : Str) == [115, 117, 109]) = false, ((a0 : Str) == [114, 111, 119, 115]) = false, ((a0 : Str) == [99, 104, 97, 110, 99, 101]) = false, ((a0 : Str) == [102, 105, 108, 101]) = false, ((a0 : Str) == [116, 97, 107, 101]) = false, ((a0 : Str) == [115, 107, 105, 112]) = false, ((a0 : Str) == [114, 97, 110, 103, 101]) = false, ((a0 : Str) == [110, 116, 104]) = true, ((a0 : Str) == [110, 116, 104]) = true]) := by kernel_rfl
theorem p102_e_10 (a0 : Str) : run tt (AbsCalls Try.prog) I102 3000 false [.code I102.body] ⟨(zBi 0 (xAF a0)), [false, false, false, false, false, false, false, false, false, false, true, true], [], []⟩ = some (.done (xAD 2) [((a0 : Str) == [99, 108, 111, 99, 107]) = false, ((a0 : Str) == [108, 101, 110]) = false, ((a0 : Str) == [115, 117, 109]) = false, ((a0 : Str) == [114, 111, 119, 115]) = false, ((a0 : Str) == [99, 104, 97, 110, 99, 101]) = false, ((a0 : Str) == [102, 105, 108, 101]) = false, ((a0 : Str) == [116, 97, 107, 101]) = false, ((a0 : Str) == [115, 107, 105, 112]) = false, ((a0 : Str) == [114, 97, 110, 103, 101]) = false, ((a0 : Str) == [110, 116, 104]) = false, ((a0 : Str) == [107, 101, 101, 112]) = true, ((a0 : Str) == [107, 101, 101, 112]) = true]) := by kernel_rfl
theorem p102_e_11 (a0 : Str) : run tt (AbsCalls Try.prog) I102 3000 false [.code I102.body] ⟨(zBi 0 (xAF a0)), [false, false, false, false, false, false, false, false, false, false, false, true, true], [], []⟩ = some (.done (xAD 2) [((a0 : Str) == [99, 108, 111, 99, 107]) = false, ((a0 : Str) == [108, 101, 110]) = false, ((a0 : Str) == [115, 117, 109]) = false, ((a0 : Str) == [114, 111, 119, 115]) = false, ((a0 : Str) == [99, 104, 97, 110, 99, 101]) = false, ((a0 : Str) == [102, 105, 108, 101]) = false, ((a0 : Str) == [116, 97, 107, 101]) = false, ((a0 : Str) == [115, 107, 105, 112]) = false, ((a0 : Str) == [114, 97, 110, 103, 101]) = false, ((a0 : Str) == [110, 116, 104]) = false, ((a0 : Str) == [107, 101, 101, 112]) = false, ((a0 : Str) == [99, 111, 108, 117, 109, 110]) = true, ((a0 : Str) == [99, 111, 108, 117, 109, 110]) = true]) := by kernel_rfl
theorem p102_e_12 (a0 : Str) : run tt (AbsCalls Try.prog) I102 3000 false [.code I102.body] ⟨(zBi 0 (xAF a0)), [false, false, false, false, false, false, false, false, false, false, false, false, true], [], []⟩ = some (.done (xAD 2) [((a0 : Str) == [99, 108, 111, 99, 107]) = false, ((a0 : Str) == [108, 101, 110]) = false, ((a0 : Str) == [115, 117, 109]) = false, ((a0 : Str) == [114, 111, 119, 115]) = false, ((a0 : Str) == [99, 104, 97, 110, 99, 101]) = false, ((a0 : Str) == [102, 105, 108, 101]) = false, ((a0 : Str) == [116, 97, 107, 101]) = false, ((a0 : Str) == [115, 107, 105, 112]) = false, ((a0 : Str) == [114, 97, 110, 103, 101]) = false, ((a0 : Str) == [110, 116, 104]) = false, ((a0 : Str) == [107, 101, 101, 112]) = false, ((a0 : Str) == [99, 111, 108, 117, 109, 110]) = false, ((a0 : Str) == [116, 97, 98, 108, 101]) = true]) := by kernel_rfl
theorem p102_e_13 (a0 : Str) : run tt (AbsCalls Try.prog) I102 3000 false [.code I102.body] ⟨(zBi 0 (xAF a0)), [false, false, false, false, false, false, false, false, false, false, false, false, false, true, true], [], []⟩ = some (.done (xAD 3) [((a0 : Str) == [99, 108, 111, 99, 107]) = false, ((a0 : Str) == [108, 101, 110]) = false, ((a0 : Str) == [115, 117, 109]) = false, ((a0 : Str) == [114, 111, 119, 115]) = false, ((a0 : Str) == [99, 104, 97, 110, 99, 101]) = false, ((a0 : Str) == [102, 105, 108, 101]) = false, ((a0 : Str) == [116, 97, 107, 101]) = false, ((a0 : Str) == [115, 107, 105, 112]) = false, ((a0 : Str) == [114, 97, 110, 103, 101]) = false, ((a0 : Str) == [110, 116, 104]) = false, ((a0 : Str) == [107, 101, 101, 112]) = false, ((a0 : Str) == [99, 111, 108, 117, 109, 110]) = false, ((a0 : Str) == [116, 97, 98, 108, 101]) = false, ((a0 : Str) == [119, 104, 101, 114, 101]) = true, ((a0 : Str) == [119, 104, 101, 114, 101]) = true]) := by kernel_rfl
theorem p102_e_14 (a0 : Str) : run tt (AbsCalls Try.prog) I102 3000 false [.code I102.body] ⟨(zBi 0 (xAF a0)), [false, false, false, false, false, false, false, false, false, false, false, false, false, false, true, true], [], []⟩ = some (.done (xAD 3) [((a0 : Str) == [99, 108, 111, 99, 107]) = false, ((a0 : Str) == [108, 101, 110]) = false, ((a0 : Str) == [115, 117, 109]) = false, ((a0 : Str) == [114, 111, 119, 115]) = false, ((a0 : Str) == [99, 104, 97, 110, 99, 101]) = false, ((a0 : Str) == [102, 105, 108, 101]) = false, ((a0 : Str) == [116, 97, 107, 101]) = false, ((a0 : Str) == [115, 107, 105, 112]) = false, ((a0 : Str) == [114, 97, 110, 103, 101]) = false, ((a0 : Str) == [110, 116, 104]) = false, ((a0 : Str) == [107, 101, 101, 112]) = false, ((a0 : Str) == [99, 111, 108, 117, 109, 110]) = false, ((a0 : Str) == [116, 97, 98, 108, 101]) = false, ((a0 : Str) == [119, 104, 101, 114, 101]) = false, ((a0 : Str) == [103, 114, 111, 117, 112]) = true, ((a0 : Str) == [103, 114, 111, 117, 112]) = true]) := by kernel_rfl
theorem p102_e_15 (a0 : Str) : run tt (AbsCalls Try.prog) I102 3000 false [.code I102.body] ⟨(zBi 0 (xAF a0)), [false, false, false, false, false, false, false, false, false, false, false, false, false, false, false, true], [], []⟩ = some (.done (xAD 3) [((a0 : Str) == [99, 108, 111, 99, 107]) = false, ((a0 : Str) == [108, 101, 110]) = false, ((a0 : Str) == [115, 117, 109]) = false, ((a0 : Str) == [114, 111, 119, 115]) = false, ((a0 : Str) == [99, 104, 97, 110, 99, 101]) = false, ((a0 : Str) == [102, 105, 108, 101]) = false, ((a0 : Str) == [116, 97, 107, 101]) = false, ((a0 : Str) == [115, 107, 105, 112]) = false, ((a0 : Str) == [114, 97, 110, 103, 101]) = false, ((a0 : Str) == [110, 116, 104]) = false, ((a0 : Str) == [107, 101, 101, 112]) = false, ((a0 : Str) == [99, 111, 108, 117, 109, 110]) = false, ((a0 : Str) == [116, 97, 98, 108, 101]) = false, ((a0 : Str) == [119, 104, 101, 114, 101]) = false, ((a0 : Str) == [103, 114, 111, 117, 112]) = false, ((a0 : Str) == [106, 111, 105, 110]) = true]) := by kernel_rfl
theorem p102_e_16 (a0 : Str) : run tt (AbsCalls Try.prog) I102 3000 false [.code I102.body] ⟨(zBi 0 (xAF a0)), [false, false, false, false, false, false, false, false, false, false, false, false, false, false, false, false, true], [], []⟩ = some (.done (xAD 4) [((a0 : Str) == [99, 108, 111, 99, 107]) = false, ((a0 : Str) == [108, 101, 110]) = false, ((a0 : Str) == [115, 117, 109]) = false, ((a0 : Str) == [114, 111, 119, 115]) = false, ((a0 : Str) == [99, 104, 97, 110, 99, 101]) = false, ((a0 : Str) == [102, 105, 108, 101]) = false, ((a0 : Str) == [116, 97, 107, 101]) = false, ((a0 : Str) == [115, 107, 105, 112]) = false, ((a0 : Str) == [114, 97, 110, 103, 101]) = false, ((a0 : Str) == [110, 116, 104]) = false, ((a0 : Str) == [107, 101, 101, 112]) = false, ((a0 : Str) == [99, 111, 108, 117, 109, 110]) = false, ((a0 : Str) == [116, 97, 98, 108, 101]) = false, ((a0 : Str) == [119, 104, 101, 114, 101]) = false, ((a0 : Str) == [103, 114, 111, 117, 112]) = false, ((a0 : Str) == [106, 111, 105, 110]) = false, ((a0 : Str) == [97, 100, 100]) = true]) := by kernel_rfl
theorem p102_e_17 (a0 : Str) : run tt (AbsCalls Try.prog) I102 3000 false [.code I102.body] ⟨(zBi 0 (xAF a0)), [false, false, false, false, false, false, false, false, false, false, false, false, false, false, false, false, false], [], []⟩ = some (.done (xAD (-1)) [((a0 : Str) == [99, 108, 111, 99, 107]) = false, ((a0 : Str) == [108, 101, 110]) = false, ((a0 : Str) == [115, 117, 109]) = false, ((a0 : Str) == [114, 111, 119, 115]) = false, ((a0 : Str) == [99, 104, 97, 110, 99, 101]) = false, ((a0 : Str) == [102, 105, 108, 101]) = false, ((a0 : Str) == [116, 97, 107, 101]) = false, ((a0 : Str) == [115, 107, 105, 112]) = false, ((a0 : Str) == [114, 97, 110, 103, 101]) = false, ((a0 : Str) == [110, 116, 104]) = false, ((a0 : Str) == [107, 101, 101, 112]) = false, ((a0 : Str) == [99, 111, 108, 117, 109, 110]) = false, ((a0 : Str) == [116, 97, 98, 108, 101]) = false, ((a0 : Str) == [119, 104, 101, 114, 101]) = false, ((a0 : Str) == [103, 114, 111, 117, 112]) = false, ((a0 : Str) == [106, 111, 105, 110]) = false, ((a0 : Str) == [97, 100, 100]) = false]) := by kernel_rfl
theorem c102_e {N : Nat} : ∀ a0 r, xEm N a0 = some r → Reach Try.prog Try.f102 I102 [.code I102.body] (zBi 0 (xAF a0)) (xAD r) := by
 intro a0 r h
 unfold xEm at h
 rcases cond_inv h with ⟨h0, h⟩ | ⟨h0, h⟩
 ·obtain rfl := Option.some.inj h
  exact Reach.done ttok mix xHr (p102_e_0 a0) (obs_cons h0 obs_nil)
 ·rcases cond_inv h with ⟨h1, h⟩ | ⟨h1, h⟩
  ·obtain rfl := Option.some.inj h
   exact Reach.done ttok mix xHr (p102_e_1 a0) (obs_cons h0 (obs_cons h1 (obs_cons h1 obs_nil)))
  ·rcases cond_inv h with ⟨h2, h⟩ | ⟨h2, h⟩
   ·obtain rfl := Option.some.inj h
    exact Reach.done ttok mix xHr (p102_e_2 a0) (obs_cons h0 (obs_cons h1 (obs_cons h2 (obs_cons h2 obs_nil))))
   ·rcases cond_inv h with ⟨h3, h⟩ | ⟨h3, h⟩
    ·obtain rfl := Option.some.inj h
     exact Reach.done ttok mix xHr (p102_e_3 a0) (obs_cons h0 (obs_cons h1 (obs_cons h2 (obs_cons h3 (obs_cons h3 obs_nil)))))
    ·rcases cond_inv h with ⟨h4, h⟩ | ⟨h4, h⟩
     ·obtain rfl := Option.some.inj h
      exact Reach.done ttok mix xHr (p102_e_4 a0) (obs_cons h0 (obs_cons h1 (obs_cons h2 (obs_cons h3 (obs_cons h4 (obs_cons h4 obs_nil))))))
     ·rcases cond_inv h with ⟨h5, h⟩ | ⟨h5, h⟩
      ·obtain rfl := Option.some.inj h
       exact Reach.done ttok mix xHr (p102_e_5 a0) (obs_cons h0 (obs_cons h1 (obs_cons h2 (obs_cons h3 (obs_cons h4 (obs_cons h5 obs_nil))))))
      ·rcases cond_inv h with ⟨h6, h⟩ | ⟨h6, h⟩
       ·obtain rfl := Option.some.inj h
        exact Reach.done ttok mix xHr (p102_e_6 a0) (obs_cons h0 (obs_cons h1 (obs_cons h2 (obs_cons h3 (obs_cons h4 (obs_cons h5 (obs_cons h6 (obs_cons h6 obs_nil))))))))
       ·rcases cond_inv h with ⟨h7, h⟩ | ⟨h7, h⟩
        ·obtain rfl := Option.some.inj h
         exact Reach.done ttok mix xHr (p102_e_7 a0) (obs_cons h0 (obs_cons h1 (obs_cons h2 (obs_cons h3 (obs_cons h4 (obs_cons h5 (obs_cons h6 (obs_cons h7 (obs_cons h7 obs_nil)))))))))
        ·rcases cond_inv h with ⟨h8, h⟩ | ⟨h8, h⟩
         ·obtain rfl := Option.some.inj h
          exact Reach.done ttok mix xHr (p102_e_8 a0) (obs_cons h0 (obs_cons h1 (obs_cons h2 (obs_cons h3 (obs_cons h4 (obs_cons h5 (obs_cons h6 (obs_cons h7 (obs_cons h8 (obs_cons h8 obs_nil))))))))))
         ·rcases cond_inv h with ⟨h9, h⟩ | ⟨h9, h⟩
          ·obtain rfl := Option.some.inj h
           exact Reach.done ttok mix xHr (p102_e_9 a0) (obs_cons h0 (obs_cons h1 (obs_cons h2 (obs_cons h3 (obs_cons h4 (obs_cons h5 (obs_cons h6 (obs_cons h7 (obs_cons h8 (obs_cons h9 (obs_cons h9 obs_nil)))))))))))
          ·rcases cond_inv h with ⟨h10, h⟩ | ⟨h10, h⟩
           ·obtain rfl := Option.some.inj h
            exact Reach.done ttok mix xHr (p102_e_10 a0) (obs_cons h0 (obs_cons h1 (obs_cons h2 (obs_cons h3 (obs_cons h4 (obs_cons h5 (obs_cons h6 (obs_cons h7 (obs_cons h8 (obs_cons h9 (obs_cons h10 (obs_cons h10 obs_nil))))))))))))
           ·rcases cond_inv h with ⟨h11, h⟩ | ⟨h11, h⟩
            ·obtain rfl := Option.some.inj h
             exact Reach.done ttok mix xHr (p102_e_11 a0) (obs_cons h0 (obs_cons h1 (obs_cons h2 (obs_cons h3 (obs_cons h4 (obs_cons h5 (obs_cons h6 (obs_cons h7 (obs_cons h8 (obs_cons h9 (obs_cons h10 (obs_cons h11 (obs_cons h11 obs_nil)))))))))))))
            ·rcases cond_inv h with ⟨h12, h⟩ | ⟨h12, h⟩
             ·obtain rfl := Option.some.inj h
              exact Reach.done ttok mix xHr (p102_e_12 a0) (obs_cons h0 (obs_cons h1 (obs_cons h2 (obs_cons h3 (obs_cons h4 (obs_cons h5 (obs_cons h6 (obs_cons h7 (obs_cons h8 (obs_cons h9 (obs_cons h10 (obs_cons h11 (obs_cons h12 obs_nil)))))))))))))
             ·rcases cond_inv h with ⟨h13, h⟩ | ⟨h13, h⟩
              ·obtain rfl := Option.some.inj h
               exact Reach.done ttok mix xHr (p102_e_13 a0) (obs_cons h0 (obs_cons h1 (obs_cons h2 (obs_cons h3 (obs_cons h4 (obs_cons h5 (obs_cons h6 (obs_cons h7 (obs_cons h8 (obs_cons h9 (obs_cons h10 (obs_cons h11 (obs_cons h12 (obs_cons h13 (obs_cons h13 obs_nil)))))))))))))))
              ·rcases cond_inv h with ⟨h14, h⟩ | ⟨h14, h⟩
               ·obtain rfl := Option.some.inj h
                exact Reach.done ttok mix xHr (p102_e_14 a0) (obs_cons h0 (obs_cons h1 (obs_cons h2 (obs_cons h3 (obs_cons h4 (obs_cons h5 (obs_cons h6 (obs_cons h7 (obs_cons h8 (obs_cons h9 (obs_cons h10 (obs_cons h11 (obs_cons h12 (obs_cons h13 (obs_cons h14 (obs_cons h14 obs_nil))))))))))))))))
               ·rcases cond_inv h with ⟨h15, h⟩ | ⟨h15, h⟩
                ·obtain rfl := Option.some.inj h
                 exact Reach.done ttok mix xHr (p102_e_15 a0) (obs_cons h0 (obs_cons h1 (obs_cons h2 (obs_cons h3 (obs_cons h4 (obs_cons h5 (obs_cons h6 (obs_cons h7 (obs_cons h8 (obs_cons h9 (obs_cons h10 (obs_cons h11 (obs_cons h12 (obs_cons h13 (obs_cons h14 (obs_cons h15 obs_nil))))))))))))))))
                ·rcases cond_inv h with ⟨h16, h⟩ | ⟨h16, h⟩
                 ·obtain rfl := Option.some.inj h
                  exact Reach.done ttok mix xHr (p102_e_16 a0) (obs_cons h0 (obs_cons h1 (obs_cons h2 (obs_cons h3 (obs_cons h4 (obs_cons h5 (obs_cons h6 (obs_cons h7 (obs_cons h8 (obs_cons h9 (obs_cons h10 (obs_cons h11 (obs_cons h12 (obs_cons h13 (obs_cons h14 (obs_cons h15 (obs_cons h16 obs_nil)))))))))))))))))
                 ·obtain rfl := Option.some.inj h
                  exact Reach.done ttok mix xHr (p102_e_17 a0) (obs_cons h0 (obs_cons h1 (obs_cons h2 (obs_cons h3 (obs_cons h4 (obs_cons h5 (obs_cons h6 (obs_cons h7 (obs_cons h8 (obs_cons h9 (obs_cons h10 (obs_cons h11 (obs_cons h12 (obs_cons h13 (obs_cons h14 (obs_cons h15 (obs_cons h16 obs_nil)))))))))))))))))
theorem xHL {N : Nat} {a0 : Str} {r : Int} (h : xEm N  a0 = some r) : AbC 102 (xAF a0) (xAD r) :=
 AbsCalls.of_reach xHr rfl rfl (Nat.le_of_ble_eq_true rfl) (c102_e a0 r h)
noncomputable def I88 : Info := { body := (Try.f88.body).getD .skip, nt := 15, results := [.tmp 2], keep := [0, 4, 6, 8], live := [], modes := [], ext := [], lnt := [], casts := [], fcast := [] }
theorem fk88 : FnOk Try.prog 88 Try.f88 I88 := ⟨Try.func88, by kernel_rfl, by kernel_rfl, by kernel_rfl, by kernel_rfl⟩
theorem p88_e_0 (a0 : Str) : run tt (AbsCalls Try.prog) I88 3000 false [.code I88.body] ⟨(zBi 0 (xBE a0)), [true, true], [], []⟩ = some (.done (xBr true) [((a0 : Str) == [108, 101, 116]) = true, ((a0 : Str) == [108, 101, 116]) = true]) := by kernel_rfl
theorem p88_e_1 (a0 : Str) : run tt (AbsCalls Try.prog) I88 3000 false [.code I88.body] ⟨(zBi 0 (xBE a0)), [false, true, true], [], []⟩ = some (.done (xBr true) [((a0 : Str) == [108, 101, 116]) = false, ((a0 : Str) == [105, 110]) = true, ((a0 : Str) == [105, 110]) = true]) := by kernel_rfl
theorem p88_e_2 (a0 : Str) : run tt (AbsCalls Try.prog) I88 3000 false [.code I88.body] ⟨(zBi 0 (xBE a0)), [false, false, true, true], [], []⟩ = some (.done (xBr true) [((a0 : Str) == [108, 101, 116]) = false, ((a0 : Str) == [105, 110]) = false, ((a0 : Str) == [105, 102]) = true, ((a0 : Str) == [105, 102]) = true]) := by kernel_rfl
theorem p88_e_3 (a0 : Str) : run tt (AbsCalls Try.prog) I88 3000 false [.code I88.body] ⟨(zBi 0 (xBE a0)), [false, false, false, true, true], [], []⟩ = some (.done (xBr true) [((a0 : Str) == [108, 101, 116]) = false, ((a0 : Str) == [105, 110]) = false, ((a0 : Str) == [105, 102]) = false, ((a0 : Str) == [116, 104, 101, 110]) = true, ((a0 : Str) == [116, 104, 101, 110]) = true]) := by kernel_rfl
theorem p88_e_4 (a0 : Str) : run tt (AbsCalls Try.prog) I88 3000 false [.code I88.body] ⟨(zBi 0 (xBE a0)), [false, false, false, false, true, true], [], []⟩ = some (.done (xBr true) [((a0 : Str) == [108, 101, 116]) = false, ((a0 : Str) == [105, 110]) = false, ((a0 : Str) == [105, 102]) = false, ((a0 : Str) == [116, 104, 101, 110]) = false, ((a0 : Str) == [101, 108, 115, 101]) = true, ((a0 : Str) == [101, 108, 115, 101]) = true]) := by kernel_rfl
theorem p88_e_5 (a0 : Str) : run tt (AbsCalls Try.prog) I88 3000 false [.code I88.body] ⟨(zBi 0 (xBE a0)), [false, false, false, false, false, true, true], [], []⟩ = some (.done (xBr true) [((a0 : Str) == [108, 101, 116]) = false, ((a0 : Str) == [105, 110]) = false, ((a0 : Str) == [105, 102]) = false, ((a0 : Str) == [116, 104, 101, 110]) = false, ((a0 : Str) == [101, 108, 115, 101]) = false, ((a0 : Str) == [102, 111, 114]) = true, ((a0 : Str) == [102, 111, 114]) = true]) := by kernel_rfl
theorem p88_e_6 (a0 : Str) : run tt (AbsCalls Try.prog) I88 3000 false [.code I88.body] ⟨(zBi 0 (xBE a0)), [false, false, false, false, false, false, true], [], []⟩ = some (.done (xBr true) [((a0 : Str) == [108, 101, 116]) = false, ((a0 : Str) == [105, 110]) = false, ((a0 : Str) == [105, 102]) = false, ((a0 : Str) == [116, 104, 101, 110]) = false, ((a0 : Str) == [101, 108, 115, 101]) = false, ((a0 : Str) == [102, 111, 114]) = false, ((a0 : Str) == [100, 111]) = true]) := by kernel_rfl
theorem p88_e_7 (a0 : Str) (r1 : Int) : run tt (AbsCalls Try.prog) I88 3000 false [.code I88.body] ⟨(zBi 0 (xBE a0)), [false, false, false, false, false, false, false], [xAD r1], []⟩ = some (.done (xBr (decide ((r1 : Int) ≥ 0))) [((a0 : Str) == [108, 101, 116]) = false, ((a0 : Str) == [105, 110]) = false, ((a0 : Str) == [105, 102]) = false, ((a0 : Str) == [116, 104, 101, 110]) = false, ((a0 : Str) == [101, 108, 115, 101]) = false, ((a0 : Str) == [102, 111, 114]) = false, ((a0 : Str) == [100, 111]) = false, AbC 102 (xAF a0) (xAD r1)]) := by kernel_rfl
theorem c88_e {N : Nat} : ∀ a0 r, xEG N a0 = some r → Reach Try.prog Try.f88 I88 [.code I88.body] (zBi 0 (xBE a0)) (xBr r) := by
 intro a0 r h
 unfold xEG at h
 rcases cond_inv h with ⟨h0, h⟩ | ⟨h0, h⟩
 ·obtain rfl := Option.some.inj h
  exact Reach.done ttok mix fk88 (p88_e_0 a0) (obs_cons h0 (obs_cons h0 obs_nil))
 ·rcases cond_inv h with ⟨h1, h⟩ | ⟨h1, h⟩
  ·obtain rfl := Option.some.inj h
   exact Reach.done ttok mix fk88 (p88_e_1 a0) (obs_cons h0 (obs_cons h1 (obs_cons h1 obs_nil)))
  ·rcases cond_inv h with ⟨h2, h⟩ | ⟨h2, h⟩
   ·obtain rfl := Option.some.inj h
    exact Reach.done ttok mix fk88 (p88_e_2 a0) (obs_cons h0 (obs_cons h1 (obs_cons h2 (obs_cons h2 obs_nil))))
   ·rcases cond_inv h with ⟨h3, h⟩ | ⟨h3, h⟩
    ·obtain rfl := Option.some.inj h
     exact Reach.done ttok mix fk88 (p88_e_3 a0) (obs_cons h0 (obs_cons h1 (obs_cons h2 (obs_cons h3 (obs_cons h3 obs_nil)))))
    ·rcases cond_inv h with ⟨h4, h⟩ | ⟨h4, h⟩
     ·obtain rfl := Option.some.inj h
      exact Reach.done ttok mix fk88 (p88_e_4 a0) (obs_cons h0 (obs_cons h1 (obs_cons h2 (obs_cons h3 (obs_cons h4 (obs_cons h4 obs_nil))))))
     ·rcases cond_inv h with ⟨h5, h⟩ | ⟨h5, h⟩
      ·obtain rfl := Option.some.inj h
       exact Reach.done ttok mix fk88 (p88_e_5 a0) (obs_cons h0 (obs_cons h1 (obs_cons h2 (obs_cons h3 (obs_cons h4 (obs_cons h5 (obs_cons h5 obs_nil)))))))
      ·rcases cond_inv h with ⟨h6, h⟩ | ⟨h6, h⟩
       ·obtain rfl := Option.some.inj h
        exact Reach.done ttok mix fk88 (p88_e_6 a0) (obs_cons h0 (obs_cons h1 (obs_cons h2 (obs_cons h3 (obs_cons h4 (obs_cons h5 (obs_cons h6 obs_nil)))))))
       ·obtain ⟨r1, h7, h⟩ := bind_inv h
        obtain rfl := Option.some.inj h
        exact Reach.done ttok mix fk88 (p88_e_7 a0 r1) (obs_cons h0 (obs_cons h1 (obs_cons h2 (obs_cons h3 (obs_cons h4 (obs_cons h5 (obs_cons h6 (obs_cons (xHL h7) obs_nil))))))))
theorem impl_IsReserved_ok {N : Nat} {a0 : Str} {r : Bool} (h : xEG N  a0 = some r) : AbC 88 (xBE a0) (xBr r) :=
 AbsCalls.of_reach fk88 rfl rfl (Nat.le_of_ble_eq_true rfl) (c88_e a0 r h)
noncomputable def I52 : Info := { body := (Try.f52.body).getD .skip, nt := 10, results := [.tmp 2], keep := [0, 4], live := [], modes := [(1, [(2, .take, false)])], ext := [], lnt := [], casts := [], fcast := [] }
theorem fk52 : FnOk Try.prog 52 Try.f52 I52 := ⟨Try.func52, by kernel_rfl, by kernel_rfl, by kernel_rfl, by kernel_rfl⟩
theorem p52_e_0 (a0 : Str) (r1 r2 : Bool) : run tt (AbsCalls Try.prog) I52 3000 false [.code I52.body] ⟨(zBi 0 (xDb a0)), [true], [xBV r1, xBr r2], []⟩ = some (.done (xCf (!r2)) [AbC 87 (xFO a0) (xBV r1), r1 = true, AbC 88 (xBE a0) (xBr r2)]) := by kernel_rfl
theorem p52_e_1 (a0 : Str) (r1 : Bool) : run tt (AbsCalls Try.prog) I52 3000 false [.code I52.body] ⟨(zBi 0 (xDb a0)), [false], [xBV r1], []⟩ = some (.done (xCf false) [AbC 87 (xFO a0) (xBV r1), r1 = false]) := by kernel_rfl
theorem c52_e {N : Nat} : ∀ a0 r, xEg N a0 = some r → Reach Try.prog Try.f52 I52 [.code I52.body] (zBi 0 (xDb a0)) (xCf r) := by
 intro a0 r h
 unfold xEg at h
 obtain ⟨r1, h0, h⟩ := bind_inv h
 rcases cond_inv h with ⟨h1, h⟩ | ⟨h1, h⟩
 ·obtain ⟨r2, h2, h⟩ := bind_inv h
  obtain rfl := Option.some.inj h
  exact Reach.done ttok mix fk52 (p52_e_0 a0 r1 r2) (obs_cons (xH6 h0) (obs_cons h1 (obs_cons (impl_IsReserved_ok h2) obs_nil)))
 ·obtain rfl := Option.some.inj h
  exact Reach.done ttok mix fk52 (p52_e_1 a0 r1) (obs_cons (xH6 h0) (obs_cons h1 obs_nil))
theorem xGT {N : Nat} {a0 : Str} {r : Bool} (h : xEg N  a0 = some r) : AbC 52 (xDb a0) (xCf r) :=
 AbsCalls.of_reach fk52 rfl rfl (Nat.le_of_ble_eq_true rfl) (c52_e a0 r h)
noncomputable def I86 : Info := { body := (Try.f86.body).getD .skip, nt := 19, results := [.tmp 4], keep := [0, 2, 8, 10, 12, 14, 16, 18, 20, 32], live := [(2, [2, 14, 16, 18])], modes := [(4, [(0, .take, false)]), (5, [(0, .take, false)]), (6, [(1, .take, false)])], ext := [], lnt := [], casts := [], fcast := [] }
theorem fk86 : FnOk Try.prog 86 Try.f86 I86 := ⟨Try.func86, by kernel_rfl, by kernel_rfl, by kernel_rfl, by kernel_rfl⟩
def S86_2 (x1 : Str) (x7 : List Str) (x8 x9 : Int) : St := [(2, .v false [.str x1]), (14, .v false [.sl .ro .str x7]), (16, .v false [.int .i64 x8]), (18, .v false [.int .i64 x9])]
theorem p86_2_0 (x1 : Str) (x7 : List Str) (x8 x9 : Int) : run tt (AbsCalls Try.prog) I86 3000 true (stkAt 2 I86.body) ⟨(S86_2 x1 x7 x8 x9), [true, true], [], []⟩ = some (.done (xCW x9) [(decide ((x9 : Int) < x8)) = true, (0 : Int) ≤ x9 ∧ x9 < (List.length x7), (((List.getD x7 (Int.toNat x9) Ty.str.dflt) : Str) == x1) = true]) := by kernel_rfl
theorem p86_2_1 (x1 : Str) (x7 : List Str) (x8 x9 : Int) : run tt (AbsCalls Try.prog) I86 3000 true (stkAt 2 I86.body) ⟨(S86_2 x1 x7 x8 x9), [true, false], [], []⟩ = some (.stop (stkAt 2 I86.body) (S86_2 x1 x7 x8 (IntKind.i64.wrap (x9 + 1))) [(decide ((x9 : Int) < x8)) = true, (0 : Int) ≤ x9 ∧ x9 < (List.length x7), (((List.getD x7 (Int.toNat x9) Ty.str.dflt) : Str) == x1) = false]) := by kernel_rfl
theorem p86_2_2 (x1 : Str) (x7 : List Str) (x8 x9 : Int) : run tt (AbsCalls Try.prog) I86 3000 true (stkAt 2 I86.body) ⟨(S86_2 x1 x7 x8 x9), [false], [], []⟩ = some (.done (xCW (-1)) [(decide ((x9 : Int) < x8)) = false]) := by kernel_rfl
theorem p86_e_3 (a0 : List Str) (a1 : Str) : run tt (AbsCalls Try.prog) I86 3000 false [.code I86.body] ⟨(zBi 0 (xFs a0 a1)), [], [], []⟩ = some (.stop (stkAt 2 I86.body) (S86_2 a1 a0 (List.length a0 : Int) 0) []) := by kernel_rfl
theorem c86_2 {N : Nat} : ∀ n x1 x7 x8 x9 r, xDs N n x1 x7 x8 x9 = some r → Reach Try.prog Try.f86 I86 (stkAt 2 I86.body) (S86_2 x1 x7 x8 x9) (xCW r) := by
 intro n
 induction n with
 | zero => intro x1 x7 x8 x9 r h; have h' : (none : Option (Int)) = some r := h; cases h'
 | succ n ih =>
  intro x1 x7 x8 x9 r h
  rw [xDs] at h
  rcases cond_inv h with ⟨h0, h⟩ | ⟨h0, h⟩
  ·obtain ⟨h1, h⟩ := ite_inv h
   rcases cond_inv h with ⟨h2, h⟩ | ⟨h2, h⟩
   ·obtain rfl := Option.some.inj h
    exact Reach.done ttok mix fk86 (p86_2_0 x1 x7 x8 x9) (obs_cons h0 (obs_cons h1 (obs_cons h2 obs_nil)))
   ·exact Reach.stop ttok mix fk86 (p86_2_1 x1 x7 x8 x9) (obs_cons h0 (obs_cons h1 (obs_cons h2 obs_nil))) (ih _ _ _ _ _ h)
  ·obtain rfl := Option.some.inj h
   exact Reach.done ttok mix fk86 (p86_2_2 x1 x7 x8 x9) (obs_cons h0 obs_nil)
theorem c86_e {N : Nat} : ∀ a0 a1 r, xGB N a0 a1 = some r → Reach Try.prog Try.f86 I86 [.code I86.body] (zBi 0 (xFs a0 a1)) (xCW r) := by
 intro a0 a1 r h
 unfold xGB at h
 exact Reach.stop ttok mix fk86 (p86_e_3 a0 a1) obs_nil (c86_2   _ _ _ _ _ _ h)
theorem xHM {N : Nat} {a0 : List Str} {a1 : Str} {r : Int} (h : xGB N  a0 a1 = some r) : AbC 86 (xFs a0 a1) (xCW r) :=
 AbsCalls.of_reach fk86 rfl rfl (Nat.le_of_ble_eq_true rfl) (c86_e a0 a1 r h)
noncomputable def I126 : Info := { body := (Try.f126.body).getD .skip, nt := 18, results := [.tmp 2], keep := [0, 4, 6, 8, 10, 12, 14, 16, 32], live := [(2, [0, 10, 12, 14])], modes := [(4, [(1, .take, false), (3, .take, false)]), (6, [(1, .take, false)])], ext := [], lnt := [], casts := [], fcast := [] }
theorem fk126 : FnOk Try.prog 126 Try.f126 I126 := ⟨Try.func126, by kernel_rfl, by kernel_rfl, by kernel_rfl, by kernel_rfl⟩
def S126_2 (x0 x5 : List Str) (x6 x7 : Int) : St := [(0, .v false [.sl .ro .str x0]), (10, .v false [.sl .ro .str x5]), (12, .v false [.int .i64 x6]), (14, .v false [.int .i64 x7])]
theorem p126_2_0 (x0 x5 : List Str) (x6 x7 r1 : Int) : run tt (AbsCalls Try.prog) I126 3000 true (stkAt 2 I126.body) ⟨(S126_2 x0 x5 x6 x7), [true, true], [xCW r1], []⟩ = some (.done (xCC false) [(decide ((x7 : Int) < x6)) = true, (0 : Int) ≤ x7 ∧ x7 < (List.length x5), AbC 86 (xFs x0 (List.getD x5 (Int.toNat x7) Ty.str.dflt)) (xCW r1), ((r1 : Int) != x7) = true]) := by kernel_rfl
theorem p126_2_1 (x0 x5 : List Str) (x6 x7 r1 : Int) : run tt (AbsCalls Try.prog) I126 3000 true (stkAt 2 I126.body) ⟨(S126_2 x0 x5 x6 x7), [true, false], [xCW r1], []⟩ = some (.stop (stkAt 2 I126.body) (S126_2 x0 x5 x6 (IntKind.i64.wrap (x7 + 1))) [(decide ((x7 : Int) < x6)) = true, (0 : Int) ≤ x7 ∧ x7 < (List.length x5), AbC 86 (xFs x0 (List.getD x5 (Int.toNat x7) Ty.str.dflt)) (xCW r1), ((r1 : Int) != x7) = false]) := by kernel_rfl
theorem p126_2_2 (x0 x5 : List Str) (x6 x7 : Int) : run tt (AbsCalls Try.prog) I126 3000 true (stkAt 2 I126.body) ⟨(S126_2 x0 x5 x6 x7), [false], [], []⟩ = some (.done (xCC true) [(decide ((x7 : Int) < x6)) = false]) := by kernel_rfl
theorem p126_e_3 (a0 : List Str) : run tt (AbsCalls Try.prog) I126 3000 false [.code I126.body] ⟨(zBi 0 (xER a0)), [], [], []⟩ = some (.stop (stkAt 2 I126.body) (S126_2 a0 a0 (List.length a0 : Int) 0) []) := by kernel_rfl
theorem c126_2 {N : Nat} : ∀ n x0 x5 x6 x7 r, xCe N n x0 x5 x6 x7 = some r → Reach Try.prog Try.f126 I126 (stkAt 2 I126.body) (S126_2 x0 x5 x6 x7) (xCC r) := by
 intro n
 induction n with
 | zero => intro x0 x5 x6 x7 r h; have h' : (none : Option (Bool)) = some r := h; cases h'
 | succ n ih =>
  intro x0 x5 x6 x7 r h
  rw [xCe] at h
  rcases cond_inv h with ⟨h0, h⟩ | ⟨h0, h⟩
  ·obtain ⟨h1, h⟩ := ite_inv h
   obtain ⟨r1, h2, h⟩ := bind_inv h
   rcases cond_inv h with ⟨h3, h⟩ | ⟨h3, h⟩
   ·obtain rfl := Option.some.inj h
    exact Reach.done ttok mix fk126 (p126_2_0 x0 x5 x6 x7 r1) (obs_cons h0 (obs_cons h1 (obs_cons (xHM h2) (obs_cons h3 obs_nil))))
   ·exact Reach.stop ttok mix fk126 (p126_2_1 x0 x5 x6 x7 r1) (obs_cons h0 (obs_cons h1 (obs_cons (xHM h2) (obs_cons h3 obs_nil)))) (ih _ _ _ _ _ h)
  ·obtain rfl := Option.some.inj h
   exact Reach.done ttok mix fk126 (p126_2_2 x0 x5 x6 x7) (obs_cons h0 obs_nil)
theorem c126_e {N : Nat} : ∀ a0 r, xE0 N a0 = some r → Reach Try.prog Try.f126 I126 [.code I126.body] (zBi 0 (xER a0)) (xCC r) := by
 intro a0 r h
 unfold xE0 at h
 exact Reach.stop ttok mix fk126 (p126_e_3 a0) obs_nil (c126_2   _ _ _ _ _ _ h)
theorem xIb {N : Nat} {a0 : List Str} {r : Bool} (h : xE0 N  a0 = some r) : AbC 126 (xER a0) (xCC r) :=
 AbsCalls.of_reach fk126 rfl rfl (Nat.le_of_ble_eq_true rfl) (c126_e a0 r h)
noncomputable def I121 : Info := { body := (Try.f121.body).getD .skip, nt := 22, results := [.tmp 2], keep := [0, 4, 8, 10, 12, 14, 16, 26], live := [(2, [0, 10, 12, 14])], modes := [(4, [(0, .take, false)]), (6, [(1, .take, false)]), (7, [(3, .take, false)])], ext := [], lnt := [], casts := [], fcast := [] }
theorem fk121 : FnOk Try.prog 121 Try.f121 I121 := ⟨Try.func121, by kernel_rfl, by kernel_rfl, by kernel_rfl, by kernel_rfl⟩
def S121_2 (x0 x5 : List Str) (x6 x7 : Int) : St := [(0, .v false [.sl .ro .str x0]), (10, .v false [.sl .ro .str x5]), (12, .v false [.int .i64 x6]), (14, .v false [.int .i64 x7])]
theorem p121_2_0 (x0 x5 : List Str) (x6 x7 : Int) (r1 : Bool) : run tt (AbsCalls Try.prog) I121 3000 true (stkAt 2 I121.body) ⟨(S121_2 x0 x5 x6 x7), [true, true], [xCf r1], []⟩ = some (.done (xBs false) [(decide ((x7 : Int) < x6)) = true, (0 : Int) ≤ x7 ∧ x7 < (List.length x5), AbC 52 (xDb (List.getD x5 (Int.toNat x7) Ty.str.dflt)) (xCf r1), (!r1) = true]) := by kernel_rfl
theorem p121_2_1 (x0 x5 : List Str) (x6 x7 : Int) (r1 : Bool) : run tt (AbsCalls Try.prog) I121 3000 true (stkAt 2 I121.body) ⟨(S121_2 x0 x5 x6 x7), [true, false], [xCf r1], []⟩ = some (.stop (stkAt 2 I121.body) (S121_2 x0 x5 x6 (IntKind.i64.wrap (x7 + 1))) [(decide ((x7 : Int) < x6)) = true, (0 : Int) ≤ x7 ∧ x7 < (List.length x5), AbC 52 (xDb (List.getD x5 (Int.toNat x7) Ty.str.dflt)) (xCf r1), (!r1) = false]) := by kernel_rfl
theorem p121_2_2 (x0 x5 : List Str) (x6 x7 : Int) (r1 r2 : Bool) : run tt (AbsCalls Try.prog) I121 3000 true (stkAt 2 I121.body) ⟨(S121_2 x0 x5 x6 x7), [false, true], [xAT r1, xCC r2], []⟩ = some (.done (xBs r2) [(decide ((x7 : Int) < x6)) = false, AbC 56 (xBW (List.length x0 : Int) 1 4) (xAT r1), r1 = true, AbC 126 (xER x0) (xCC r2)]) := by kernel_rfl
theorem p121_2_3 (x0 x5 : List Str) (x6 x7 : Int) (r1 : Bool) : run tt (AbsCalls Try.prog) I121 3000 true (stkAt 2 I121.body) ⟨(S121_2 x0 x5 x6 x7), [false, false], [xAT r1], []⟩ = some (.done (xBs false) [(decide ((x7 : Int) < x6)) = false, AbC 56 (xBW (List.length x0 : Int) 1 4) (xAT r1), r1 = false]) := by kernel_rfl
theorem p121_e_4 (a0 : List Str) : run tt (AbsCalls Try.prog) I121 3000 false [.code I121.body] ⟨(zBi 0 (xDy a0)), [], [], []⟩ = some (.stop (stkAt 2 I121.body) (S121_2 a0 a0 (List.length a0 : Int) 0) []) := by kernel_rfl
theorem c121_2 {N : Nat} : ∀ n x0 x5 x6 x7 r, xCX N n x0 x5 x6 x7 = some r → Reach Try.prog Try.f121 I121 (stkAt 2 I121.body) (S121_2 x0 x5 x6 x7) (xBs r) := by
 intro n
 induction n with
 | zero => intro x0 x5 x6 x7 r h; have h' : (none : Option (Bool)) = some r := h; cases h'
 | succ n ih =>
  intro x0 x5 x6 x7 r h
  rw [xCX] at h
  rcases cond_inv h with ⟨h0, h⟩ | ⟨h0, h⟩
  ·obtain ⟨h1, h⟩ := ite_inv h
   obtain ⟨r1, h2, h⟩ := bind_inv h
   rcases cond_inv h with ⟨h3, h⟩ | ⟨h3, h⟩
   ·obtain rfl := Option.some.inj h
    exact Reach.done ttok mix fk121 (p121_2_0 x0 x5 x6 x7 r1) (obs_cons h0 (obs_cons h1 (obs_cons (xGT h2) (obs_cons h3 obs_nil))))
   ·exact Reach.stop ttok mix fk121 (p121_2_1 x0 x5 x6 x7 r1) (obs_cons h0 (obs_cons h1 (obs_cons (xGT h2) (obs_cons h3 obs_nil)))) (ih _ _ _ _ _ h)
  ·obtain ⟨r1, h1, h⟩ := bind_inv h
   rcases cond_inv h with ⟨h2, h⟩ | ⟨h2, h⟩
   ·obtain ⟨r2, h3, h⟩ := bind_inv h
    obtain rfl := Option.some.inj h
    exact Reach.done ttok mix fk121 (p121_2_2 x0 x5 x6 x7 r1 r2) (obs_cons h0 (obs_cons (xCQ h1) (obs_cons h2 (obs_cons (xIb h3) obs_nil))))
   ·obtain rfl := Option.some.inj h
    exact Reach.done ttok mix fk121 (p121_2_3 x0 x5 x6 x7 r1) (obs_cons h0 (obs_cons (xCQ h1) (obs_cons h2 obs_nil)))
theorem c121_e {N : Nat} : ∀ a0 r, xFt N a0 = some r → Reach Try.prog Try.f121 I121 [.code I121.body] (zBi 0 (xDy a0)) (xBs r) := by
 intro a0 r h
 unfold xFt at h
 exact Reach.stop ttok mix fk121 (p121_e_4 a0) obs_nil (c121_2   _ _ _ _ _ _ h)
theorem xF5 {N : Nat} {a0 : List Str} {r : Bool} (h : xFt N  a0 = some r) : AbC 121 (xDy a0) (xBs r) :=
 AbsCalls.of_reach fk121 rfl rfl (Nat.le_of_ble_eq_true rfl) (c121_e a0 r h)
noncomputable def I122 : Info := { body := (Try.f122.body).getD .skip, nt := 24, results := [.tmp 4], keep := [0, 2, 4, 6, 8, 5, 7], live := [], modes := [(1, [(5, .take, false), (11, .take, false)])], ext := [], lnt := [], casts := [], fcast := [] }
theorem fk122 : FnOk Try.prog 122 Try.f122 I122 := ⟨Try.func122, by kernel_rfl, by kernel_rfl, by kernel_rfl, by kernel_rfl⟩
theorem p122_e_0 (a0 a1 : Org) : run tt (AbsCalls Try.prog) I122 3000 false [.code I122.body] ⟨(zBi 0 (xCo a0 a1)), [true], [], []⟩ = some (.done (xBP true) [(decide (((Org.cell a0) : Int) < (Org.cell a1))) = true]) := by kernel_rfl
theorem p122_e_1 (a0 a1 : Org) : run tt (AbsCalls Try.prog) I122 3000 false [.code I122.body] ⟨(zBi 0 (xCo a0 a1)), [false, true], [], []⟩ = some (.done (xBP (decide (((Org.row a0) : Int) < (Org.row a1)))) [(decide (((Org.cell a0) : Int) < (Org.cell a1))) = false, (((Org.cell a0) : Int) == (Org.cell a1)) = true]) := by kernel_rfl
theorem p122_e_2 (a0 a1 : Org) : run tt (AbsCalls Try.prog) I122 3000 false [.code I122.body] ⟨(zBi 0 (xCo a0 a1)), [false, false], [], []⟩ = some (.done (xBP false) [(decide (((Org.cell a0) : Int) < (Org.cell a1))) = false, (((Org.cell a0) : Int) == (Org.cell a1)) = false]) := by kernel_rfl
theorem c122_e {N : Nat} : ∀ a0 a1 r, xEJ N a0 a1 = some r → Reach Try.prog Try.f122 I122 [.code I122.body] (zBi 0 (xCo a0 a1)) (xBP r) := by
 intro a0 a1 r h
 unfold xEJ at h
 rcases cond_inv h with ⟨h0, h⟩ | ⟨h0, h⟩
 ·obtain rfl := Option.some.inj h
  exact Reach.done ttok mix fk122 (p122_e_0 a0 a1) (obs_cons h0 obs_nil)
 ·rcases cond_inv h with ⟨h1, h⟩ | ⟨h1, h⟩
  ·obtain rfl := Option.some.inj h
   exact Reach.done ttok mix fk122 (p122_e_1 a0 a1) (obs_cons h0 (obs_cons h1 obs_nil))
  ·obtain rfl := Option.some.inj h
   exact Reach.done ttok mix fk122 (p122_e_2 a0 a1) (obs_cons h0 (obs_cons h1 obs_nil))
theorem xGJ {N : Nat} {a0 : Org} {a1 : Org} {r : Bool} (h : xEJ N  a0 a1 = some r) : AbC 122 (xCo a0 a1) (xBP r) :=
 AbsCalls.of_reach fk122 rfl rfl (Nat.le_of_ble_eq_true rfl) (c122_e a0 a1 r h)
noncomputable def I110 : Info := { body := (Try.f110.body).getD .skip, nt := 77, results := [.tmp 2], keep := [0, 2, 4, 8, 12, 14, 16, 36, 40, 42, 44, 46, 64, 68, 70, 72, 74, 84, 90, 92, 94, 96, 148, 3, 9, 17], live := [(4, [2, 40, 42, 44, 3]), (9, [2, 8, 40, 42, 44, 68, 70, 72, 3, 9]), (15, [2, 8, 40, 42, 44, 90, 92, 94, 3, 9])], modes := [(1, [(4, .take, false)]), (11, [(0, .take, false)]), (13, [(1, .take, false)]), (17, [(3, .take, false), (8, .take, false), (11, .take, false)]), (19, [(1, .take, false)]), (20, [(1, .take, false)])], ext := [], lnt := [], casts := [], fcast := [] }
theorem xHW : FnOk Try.prog 110 Try.f110 I110 := ⟨Try.func110, by kernel_rfl, by kernel_rfl, by kernel_rfl, by kernel_rfl⟩
def S110_4 (x20 : List Rowd) (x21 x22 : Int) (b1 : Val) : St := [(2, .v false [.ptr 1 0]), (40, .v false [.sl .ro .row x20]), (42, .v false [.int .i64 x21]), (44, .v false [.int .i64 x22]), (3, .v true [.int .i64 (Val.kind b1), .int .i64 (Val.n b1), .int .i64 (Val.step b1), .str (Val.text b1), .sl .ro .val (Val.list b1), .sl .ro .str (Val.columns b1), .sl .ro .row (Val.rows b1)])]
def S110_9 (x20 : List Rowd) (x21 x22 : Int) (x34 : List Int) (x35 x36 : Int) (b1 : Val) (b4 : Rowd) : St := [(2, .v false [.ptr 1 0]), (8, .v false [.ptr 4 0]), (40, .v false [.sl .ro .row x20]), (42, .v false [.int .i64 x21]), (44, .v false [.int .i64 x22]), (68, .v false [.sl .ro .int x34]), (70, .v false [.int .i64 x35]), (72, .v false [.int .i64 x36]), (3, .v true [.int .i64 (Val.kind b1), .int .i64 (Val.n b1), .int .i64 (Val.step b1), .str (Val.text b1), .sl .ro .val (Val.list b1), .sl .ro .str (Val.columns b1), .sl .ro .row (Val.rows b1)]), (9, .v true [.sl .ro .int (Rowd.cells b4), .sl .ro .org (Rowd.frm b4)])]
def xHa (x20 : List Rowd) (x21 x22 : Int) (x45 : List Org) (x46 x47 : Int) (b1 : Val) (b4 : Rowd) : St := [(2, .v false [.ptr 1 0]), (8, .v false [.ptr 4 0]), (40, .v false [.sl .ro .row x20]), (42, .v false [.int .i64 x21]), (44, .v false [.int .i64 x22]), (90, .v false [.sl .ro .org x45]), (92, .v false [.int .i64 x46]), (94, .v false [.int .i64 x47]), (3, .v true [.int .i64 (Val.kind b1), .int .i64 (Val.n b1), .int .i64 (Val.step b1), .str (Val.text b1), .sl .ro .val (Val.list b1), .sl .ro .str (Val.columns b1), .sl .ro .row (Val.rows b1)]), (9, .v true [.sl .ro .int (Rowd.cells b4), .sl .ro .org (Rowd.frm b4)])]
theorem p110_15_0 (x20 : List Rowd) (x21 x22 : Int) (x45 : List Org) (x46 x47 : Int) (b1 : Val) (b4 : Rowd) : run tt (AbsCalls Try.prog) I110 3000 true (stkAt 15 I110.body) ⟨(xHa x20 x21 x22 x45 x46 x47 b1 b4), [true, true, true, true], [], []⟩ = some (.done (xBa false) [(decide ((x47 : Int) < x46)) = true, (0 : Int) ≤ x47 ∧ x47 < (List.length x45), (decide (((Org.cell (List.getD x45 (Int.toNat x47) Ty.org.dflt)) : Int) < 0)) = true, true = true, true = true]) := by kernel_rfl
theorem p110_15_1 (x20 : List Rowd) (x21 x22 : Int) (x45 : List Org) (x46 x47 : Int) (b1 : Val) (b4 : Rowd) : run tt (AbsCalls Try.prog) I110 3000 true (stkAt 15 I110.body) ⟨(xHa x20 x21 x22 x45 x46 x47 b1 b4), [true, false, true, true], [], []⟩ = some (.done (xBa false) [(decide ((x47 : Int) < x46)) = true, (0 : Int) ≤ x47 ∧ x47 < (List.length x45), (decide (((Org.cell (List.getD x45 (Int.toNat x47) Ty.org.dflt)) : Int) < 0)) = false, (decide (((Org.row (List.getD x45 (Int.toNat x47) Ty.org.dflt)) : Int) < 0)) = true, true = true]) := by kernel_rfl
theorem p110_15_2 (x20 : List Rowd) (x21 x22 : Int) (x45 : List Org) (x46 x47 : Int) (b1 : Val) (b4 : Rowd) (r1 : Bool) : run tt (AbsCalls Try.prog) I110 3000 true (stkAt 15 I110.body) ⟨(xHa x20 x21 x22 x45 x46 x47 b1 b4), [true, false, false, true, true], [xBP r1], []⟩ = some (.done (xBa false) [(decide ((x47 : Int) < x46)) = true, (0 : Int) ≤ x47 ∧ x47 < (List.length x45), (decide (((Org.cell (List.getD x45 (Int.toNat x47) Ty.org.dflt)) : Int) < 0)) = false, (decide (((Org.row (List.getD x45 (Int.toNat x47) Ty.org.dflt)) : Int) < 0)) = false, (decide ((x47 : Int) > 0)) = true, (0 : Int) ≤ (IntKind.i64.wrap (x47 - 1)) ∧ (IntKind.i64.wrap (x47 - 1)) < (List.length (Rowd.frm b4)), AbC 122 (xCo (List.getD (Rowd.frm b4) (Int.toNat (IntKind.i64.wrap (x47 - 1))) Ty.org.dflt) (List.getD x45 (Int.toNat x47) Ty.org.dflt)) (xBP r1), (!r1) = true]) := by kernel_rfl
theorem p110_15_3 (x20 : List Rowd) (x21 x22 : Int) (x45 : List Org) (x46 x47 : Int) (b1 : Val) (b4 : Rowd) (r1 : Bool) : run tt (AbsCalls Try.prog) I110 3000 true (stkAt 15 I110.body) ⟨(xHa x20 x21 x22 x45 x46 x47 b1 b4), [true, false, false, true, false], [xBP r1], []⟩ = some (.stop (stkAt 15 I110.body) (xHa x20 x21 x22 x45 x46 (IntKind.i64.wrap (x47 + 1)) b1 b4) [(decide ((x47 : Int) < x46)) = true, (0 : Int) ≤ x47 ∧ x47 < (List.length x45), (decide (((Org.cell (List.getD x45 (Int.toNat x47) Ty.org.dflt)) : Int) < 0)) = false, (decide (((Org.row (List.getD x45 (Int.toNat x47) Ty.org.dflt)) : Int) < 0)) = false, (decide ((x47 : Int) > 0)) = true, (0 : Int) ≤ (IntKind.i64.wrap (x47 - 1)) ∧ (IntKind.i64.wrap (x47 - 1)) < (List.length (Rowd.frm b4)), AbC 122 (xCo (List.getD (Rowd.frm b4) (Int.toNat (IntKind.i64.wrap (x47 - 1))) Ty.org.dflt) (List.getD x45 (Int.toNat x47) Ty.org.dflt)) (xBP r1), (!r1) = false]) := by kernel_rfl
theorem p110_15_4 (x20 : List Rowd) (x21 x22 : Int) (x45 : List Org) (x46 x47 : Int) (b1 : Val) (b4 : Rowd) : run tt (AbsCalls Try.prog) I110 3000 true (stkAt 15 I110.body) ⟨(xHa x20 x21 x22 x45 x46 x47 b1 b4), [true, false, false, false, false], [], []⟩ = some (.stop (stkAt 15 I110.body) (xHa x20 x21 x22 x45 x46 (IntKind.i64.wrap (x47 + 1)) b1 b4) [(decide ((x47 : Int) < x46)) = true, (0 : Int) ≤ x47 ∧ x47 < (List.length x45), (decide (((Org.cell (List.getD x45 (Int.toNat x47) Ty.org.dflt)) : Int) < 0)) = false, (decide (((Org.row (List.getD x45 (Int.toNat x47) Ty.org.dflt)) : Int) < 0)) = false, (decide ((x47 : Int) > 0)) = false, false = false]) := by kernel_rfl
theorem p110_15_5 (x20 : List Rowd) (x21 x22 : Int) (x45 : List Org) (x46 x47 : Int) (b1 : Val) (b4 : Rowd) : run tt (AbsCalls Try.prog) I110 3000 true (stkAt 15 I110.body) ⟨(xHa x20 x21 x22 x45 x46 x47 b1 b4), [false], [], []⟩ = some (.stop (stkAt 4 I110.body) (S110_4 x20 x21 (IntKind.i64.wrap (x22 + 1)) b1) [(decide ((x47 : Int) < x46)) = false]) := by kernel_rfl
theorem p110_9_6 (x20 : List Rowd) (x21 x22 : Int) (x34 : List Int) (x35 x36 : Int) (b1 : Val) (b4 : Rowd) (r1 : Bool) : run tt (AbsCalls Try.prog) I110 3000 true (stkAt 9 I110.body) ⟨(S110_9 x20 x21 x22 x34 x35 x36 b1 b4), [true, true], [xA1 r1], []⟩ = some (.done (xBa false) [(decide ((x36 : Int) < x35)) = true, (0 : Int) ≤ x36 ∧ x36 < (List.length x34), AbC 53 (xB7 (List.getD x34 (Int.toNat x36) Ty.int.dflt)) (xA1 r1), (!r1) = true]) := by kernel_rfl
theorem p110_9_7 (x20 : List Rowd) (x21 x22 : Int) (x34 : List Int) (x35 x36 : Int) (b1 : Val) (b4 : Rowd) (r1 : Bool) : run tt (AbsCalls Try.prog) I110 3000 true (stkAt 9 I110.body) ⟨(S110_9 x20 x21 x22 x34 x35 x36 b1 b4), [true, false], [xA1 r1], []⟩ = some (.stop (stkAt 9 I110.body) (S110_9 x20 x21 x22 x34 x35 (IntKind.i64.wrap (x36 + 1)) b1 b4) [(decide ((x36 : Int) < x35)) = true, (0 : Int) ≤ x36 ∧ x36 < (List.length x34), AbC 53 (xB7 (List.getD x34 (Int.toNat x36) Ty.int.dflt)) (xA1 r1), (!r1) = false]) := by kernel_rfl
theorem p110_9_8 (x20 : List Rowd) (x21 x22 : Int) (x34 : List Int) (x35 x36 : Int) (b1 : Val) (b4 : Rowd) : run tt (AbsCalls Try.prog) I110 3000 true (stkAt 9 I110.body) ⟨(S110_9 x20 x21 x22 x34 x35 x36 b1 b4), [false], [], []⟩ = some (.stop (stkAt 15 I110.body) (xHa x20 x21 x22 (Rowd.frm b4) (List.length (Rowd.frm b4) : Int) 0 b1 b4) [(decide ((x36 : Int) < x35)) = false]) := by kernel_rfl
theorem p110_4_9 (x20 : List Rowd) (x21 x22 : Int) (b1 : Val) : run tt (AbsCalls Try.prog) I110 3000 true (stkAt 4 I110.body) ⟨(S110_4 x20 x21 x22 b1), [true, true], [], []⟩ = some (.done (xBa false) [(decide ((x22 : Int) < x21)) = true, (0 : Int) ≤ x22 ∧ x22 < (List.length x20), (((List.length (Rowd.cells (List.getD x20 (Int.toNat x22) Ty.row.dflt)) : Int) : Int) != (List.length (Val.columns b1) : Int)) = true]) := by kernel_rfl
theorem p110_4_10 (x20 : List Rowd) (x21 x22 : Int) (b1 : Val) : run tt (AbsCalls Try.prog) I110 3000 true (stkAt 4 I110.body) ⟨(S110_4 x20 x21 x22 b1), [true, false], [], []⟩ = some (.stop (stkAt 9 I110.body) (S110_9 x20 x21 x22 (Rowd.cells (List.getD x20 (Int.toNat x22) Ty.row.dflt)) (List.length (Rowd.cells (List.getD x20 (Int.toNat x22) Ty.row.dflt)) : Int) 0 b1 (List.getD x20 (Int.toNat x22) Ty.row.dflt)) [(decide ((x22 : Int) < x21)) = true, (0 : Int) ≤ x22 ∧ x22 < (List.length x20), (((List.length (Rowd.cells (List.getD x20 (Int.toNat x22) Ty.row.dflt)) : Int) : Int) != (List.length (Val.columns b1) : Int)) = false]) := by kernel_rfl
theorem p110_4_11 (x20 : List Rowd) (x21 x22 : Int) (b1 : Val) : run tt (AbsCalls Try.prog) I110 3000 true (stkAt 4 I110.body) ⟨(S110_4 x20 x21 x22 b1), [false], [], []⟩ = some (.done (xBa true) [(decide ((x22 : Int) < x21)) = false]) := by kernel_rfl
theorem p110_e_12 (a0 : Val) (r1 : Bool) : run tt (AbsCalls Try.prog) I110 3000 false [.code I110.body] ⟨(zBi 0 (xD7 a0)), [true, true], [xBs r1], []⟩ = some (.done (xBa false) [AbC 121 (xDy (Val.columns a0)) (xBs r1), (!r1) = true, true = true]) := by kernel_rfl
theorem p110_e_13 (a0 : Val) (r1 : Bool) : run tt (AbsCalls Try.prog) I110 3000 false [.code I110.body] ⟨(zBi 0 (xD7 a0)), [false, true], [xBs r1], []⟩ = some (.done (xBa false) [AbC 121 (xDy (Val.columns a0)) (xBs r1), (!r1) = false, (decide (((List.length (Val.rows a0) : Int) : Int) > 12)) = true]) := by kernel_rfl
theorem p110_e_14 (a0 : Val) (r1 : Bool) : run tt (AbsCalls Try.prog) I110 3000 false [.code I110.body] ⟨(zBi 0 (xD7 a0)), [false, false], [xBs r1], []⟩ = some (.stop (stkAt 4 I110.body) (S110_4 (Val.rows a0) (List.length (Val.rows a0) : Int) 0 a0) [AbC 121 (xDy (Val.columns a0)) (xBs r1), (!r1) = false, (decide (((List.length (Val.rows a0) : Int) : Int) > 12)) = false]) := by kernel_rfl
theorem c110_15 {N : Nat} {k4 : (List Rowd) → Int → Int → Val → Option (Bool)} (hk4 : ∀ z0 z1 z2 z3 r, k4 z0 z1 z2 z3 = some r → Reach Try.prog Try.f110 I110 (stkAt 4 I110.body) (S110_4 z0 z1 z2 z3) (xBa r)) : ∀ n x20 x21 x22 x45 x46 x47 b1 b4 r, xCx N k4 n x20 x21 x22 x45 x46 x47 b1 b4 = some r → Reach Try.prog Try.f110 I110 (stkAt 15 I110.body) (xHa x20 x21 x22 x45 x46 x47 b1 b4) (xBa r) := by
 intro n
 induction n with
 | zero => intro x20 x21 x22 x45 x46 x47 b1 b4 r h; have h' : (none : Option (Bool)) = some r := h; cases h'
 | succ n ih =>
  intro x20 x21 x22 x45 x46 x47 b1 b4 r h
  rw [xCx] at h
  rcases cond_inv h with ⟨h0, h⟩ | ⟨h0, h⟩
  ·obtain ⟨h1, h⟩ := ite_inv h
   rcases cond_inv h with ⟨h2, h⟩ | ⟨h2, h⟩
   ·obtain rfl := Option.some.inj h
    exact Reach.done ttok mix xHW (p110_15_0 x20 x21 x22 x45 x46 x47 b1 b4) (obs_cons h0 (obs_cons h1 (obs_cons h2 (obs_cons rfl (obs_cons rfl obs_nil)))))
   ·rcases cond_inv h with ⟨h3, h⟩ | ⟨h3, h⟩
    ·obtain rfl := Option.some.inj h
     exact Reach.done ttok mix xHW (p110_15_1 x20 x21 x22 x45 x46 x47 b1 b4) (obs_cons h0 (obs_cons h1 (obs_cons h2 (obs_cons h3 (obs_cons rfl obs_nil)))))
    ·rcases cond_inv h with ⟨h4, h⟩ | ⟨h4, h⟩
     ·obtain ⟨h5, h⟩ := ite_inv h
      obtain ⟨r1, h6, h⟩ := bind_inv h
      rcases cond_inv h with ⟨h7, h⟩ | ⟨h7, h⟩
      ·obtain rfl := Option.some.inj h
       exact Reach.done ttok mix xHW (p110_15_2 x20 x21 x22 x45 x46 x47 b1 b4 r1) (obs_cons h0 (obs_cons h1 (obs_cons h2 (obs_cons h3 (obs_cons h4 (obs_cons h5 (obs_cons (xGJ h6) (obs_cons h7 obs_nil))))))))
      ·exact Reach.stop ttok mix xHW (p110_15_3 x20 x21 x22 x45 x46 x47 b1 b4 r1) (obs_cons h0 (obs_cons h1 (obs_cons h2 (obs_cons h3 (obs_cons h4 (obs_cons h5 (obs_cons (xGJ h6) (obs_cons h7 obs_nil)))))))) (ih _ _ _ _ _ _ _ _ _ h)
     ·exact Reach.stop ttok mix xHW (p110_15_4 x20 x21 x22 x45 x46 x47 b1 b4) (obs_cons h0 (obs_cons h1 (obs_cons h2 (obs_cons h3 (obs_cons h4 (obs_cons rfl obs_nil)))))) (ih _ _ _ _ _ _ _ _ _ h)
  ·exact Reach.stop ttok mix xHW (p110_15_5 x20 x21 x22 x45 x46 x47 b1 b4) (obs_cons h0 obs_nil) (hk4 _ _ _ _ _ h)
theorem c110_9 {N : Nat} {k4 : (List Rowd) → Int → Int → Val → Option (Bool)} (hk4 : ∀ z0 z1 z2 z3 r, k4 z0 z1 z2 z3 = some r → Reach Try.prog Try.f110 I110 (stkAt 4 I110.body) (S110_4 z0 z1 z2 z3) (xBa r)) : ∀ n x20 x21 x22 x34 x35 x36 b1 b4 r, xDu N k4 n x20 x21 x22 x34 x35 x36 b1 b4 = some r → Reach Try.prog Try.f110 I110 (stkAt 9 I110.body) (S110_9 x20 x21 x22 x34 x35 x36 b1 b4) (xBa r) := by
 intro n
 induction n with
 | zero => intro x20 x21 x22 x34 x35 x36 b1 b4 r h; have h' : (none : Option (Bool)) = some r := h; cases h'
 | succ n ih =>
  intro x20 x21 x22 x34 x35 x36 b1 b4 r h
  rw [xDu] at h
  rcases cond_inv h with ⟨h0, h⟩ | ⟨h0, h⟩
  ·obtain ⟨h1, h⟩ := ite_inv h
   obtain ⟨r1, h2, h⟩ := bind_inv h
   rcases cond_inv h with ⟨h3, h⟩ | ⟨h3, h⟩
   ·obtain rfl := Option.some.inj h
    exact Reach.done ttok mix xHW (p110_9_6 x20 x21 x22 x34 x35 x36 b1 b4 r1) (obs_cons h0 (obs_cons h1 (obs_cons (xC6 h2) (obs_cons h3 obs_nil))))
   ·exact Reach.stop ttok mix xHW (p110_9_7 x20 x21 x22 x34 x35 x36 b1 b4 r1) (obs_cons h0 (obs_cons h1 (obs_cons (xC6 h2) (obs_cons h3 obs_nil)))) (ih _ _ _ _ _ _ _ _ _ h)
  ·exact Reach.stop ttok mix xHW (p110_9_8 x20 x21 x22 x34 x35 x36 b1 b4) (obs_cons h0 obs_nil) (c110_15  hk4 _ _ _ _ _ _ _ _ _ _ h)
theorem c110_4 {N : Nat} : ∀ n x20 x21 x22 b1 r, xDt N n x20 x21 x22 b1 = some r → Reach Try.prog Try.f110 I110 (stkAt 4 I110.body) (S110_4 x20 x21 x22 b1) (xBa r) := by
 intro n
 induction n with
 | zero => intro x20 x21 x22 b1 r h; have h' : (none : Option (Bool)) = some r := h; cases h'
 | succ n ih =>
  intro x20 x21 x22 b1 r h
  rw [xDt] at h
  rcases cond_inv h with ⟨h0, h⟩ | ⟨h0, h⟩
  ·obtain ⟨h1, h⟩ := ite_inv h
   rcases cond_inv h with ⟨h2, h⟩ | ⟨h2, h⟩
   ·obtain rfl := Option.some.inj h
    exact Reach.done ttok mix xHW (p110_4_9 x20 x21 x22 b1) (obs_cons h0 (obs_cons h1 (obs_cons h2 obs_nil)))
   ·exact Reach.stop ttok mix xHW (p110_4_10 x20 x21 x22 b1) (obs_cons h0 (obs_cons h1 (obs_cons h2 obs_nil))) (c110_9  ih _ _ _ _ _ _ _ _ _ _ h)
  ·obtain rfl := Option.some.inj h
   exact Reach.done ttok mix xHW (p110_4_11 x20 x21 x22 b1) (obs_cons h0 obs_nil)
theorem c110_e {N : Nat} : ∀ a0 r, xFv N a0 = some r → Reach Try.prog Try.f110 I110 [.code I110.body] (zBi 0 (xD7 a0)) (xBa r) := by
 intro a0 r h
 unfold xFv at h
 obtain ⟨r1, h0, h⟩ := bind_inv h
 rcases cond_inv h with ⟨h1, h⟩ | ⟨h1, h⟩
 ·obtain rfl := Option.some.inj h
  exact Reach.done ttok mix xHW (p110_e_12 a0 r1) (obs_cons (xF5 h0) (obs_cons h1 (obs_cons rfl obs_nil)))
 ·rcases cond_inv h with ⟨h2, h⟩ | ⟨h2, h⟩
  ·obtain rfl := Option.some.inj h
   exact Reach.done ttok mix xHW (p110_e_13 a0 r1) (obs_cons (xF5 h0) (obs_cons h1 (obs_cons h2 obs_nil)))
  ·exact Reach.stop ttok mix xHW (p110_e_14 a0 r1) (obs_cons (xF5 h0) (obs_cons h1 (obs_cons h2 obs_nil))) (c110_4   _ _ _ _ _ _ h)
theorem xHN {N : Nat} {a0 : Val} {r : Bool} (h : xFv N  a0 = some r) : AbC 110 (xD7 a0) (xBa r) :=
 AbsCalls.of_reach xHW rfl rfl (Nat.le_of_ble_eq_true rfl) (c110_e a0 r h)
noncomputable def I111 : Info := { body := (Try.f111.body).getD .skip, nt := 20, results := [.tmp 2], keep := [0, 2, 4, 6, 10, 14, 16, 18, 20, 3, 11], live := [(3, [6, 14, 16, 18])], modes := [(6, [(1, .take, false)])], ext := [], lnt := [], casts := [], fcast := [] }
theorem fk111 : FnOk Try.prog 111 Try.f111 I111 := ⟨Try.func111, by kernel_rfl, by kernel_rfl, by kernel_rfl, by kernel_rfl⟩
def S111_3 (x3 : Int) (x7 : List Val) (x8 x9 : Int) : St := [(6, .v false [.int .i64 x3]), (14, .v false [.sl .ro .val x7]), (16, .v false [.int .i64 x8]), (18, .v false [.int .i64 x9])]
theorem p111_3_0 (x3 : Int) (x7 : List Val) (x8 x9 r1 : Int) : run tt (AbsCalls Try.prog) I111 3000 true (stkAt 3 I111.body) ⟨(S111_3 x3 x7 x8 x9), [true], [xBR r1], []⟩ = some (.stop (stkAt 3 I111.body) (S111_3 (if (r1 : Int) > x3 then r1 else x3) x7 x8 (IntKind.i64.wrap (x9 + 1))) [(decide ((x9 : Int) < x8)) = true, (0 : Int) ≤ x9 ∧ x9 < (List.length x7), AbC 111 (xCu (List.getD x7 (Int.toNat x9) Ty.val.dflt)) (xBR r1)]) := by kernel_rfl
theorem p111_3_1 (x3 : Int) (x7 : List Val) (x8 x9 : Int) : run tt (AbsCalls Try.prog) I111 3000 true (stkAt 3 I111.body) ⟨(S111_3 x3 x7 x8 x9), [false], [], []⟩ = some (.done (xBR (IntKind.i64.wrap (x3 + 1))) [(decide ((x9 : Int) < x8)) = false]) := by kernel_rfl
theorem p111_e_2 (a0 : Val) : run tt (AbsCalls Try.prog) I111 3000 false [.code I111.body] ⟨(zBi 0 (xCu a0)), [], [], []⟩ = some (.stop (stkAt 3 I111.body) (S111_3 0 (Val.list a0) (List.length (Val.list a0) : Int) 0) []) := by kernel_rfl
theorem c111_3 {N : Nat} {rc_impl_DepthOf : Val → Option (Int)} (hrc_impl_DepthOf : ∀ a0 r, rc_impl_DepthOf a0 = some r → AbC 111 (xCu a0) (xBR r)) : ∀ n x3 x7 x8 x9 r, xD5 N rc_impl_DepthOf n x3 x7 x8 x9 = some r → Reach Try.prog Try.f111 I111 (stkAt 3 I111.body) (S111_3 x3 x7 x8 x9) (xBR r) := by
 intro n
 induction n with
 | zero => intro x3 x7 x8 x9 r h; have h' : (none : Option (Int)) = some r := h; cases h'
 | succ n ih =>
  intro x3 x7 x8 x9 r h
  rw [xD5] at h
  rcases cond_inv h with ⟨h0, h⟩ | ⟨h0, h⟩
  ·obtain ⟨h1, h⟩ := ite_inv h
   obtain ⟨r1, h2, h⟩ := bind_inv h
   exact Reach.stop ttok mix fk111 (p111_3_0 x3 x7 x8 x9 r1) (obs_cons h0 (obs_cons h1 (obs_cons (hrc_impl_DepthOf _ _ h2) obs_nil))) (ih _ _ _ _ _ h)
  ·obtain rfl := Option.some.inj h
   exact Reach.done ttok mix fk111 (p111_3_1 x3 x7 x8 x9) (obs_cons h0 obs_nil)
theorem c111_e {N : Nat} {rc_impl_DepthOf : Val → Option (Int)} (hrc_impl_DepthOf : ∀ a0 r, rc_impl_DepthOf a0 = some r → AbC 111 (xCu a0) (xBR r)) : ∀ a0 r, xFA N rc_impl_DepthOf a0 = some r → Reach Try.prog Try.f111 I111 [.code I111.body] (zBi 0 (xCu a0)) (xBR r) := by
 intro a0 r h
 unfold xFA at h
 exact Reach.stop ttok mix fk111 (p111_e_2 a0) obs_nil (c111_3 hrc_impl_DepthOf  _ _ _ _ _ _ h)
theorem xHX {N : Nat} {rc_impl_DepthOf : Val → Option (Int)} (hrc_impl_DepthOf : ∀ a0 r, rc_impl_DepthOf a0 = some r → AbC 111 (xCu a0) (xBR r)) {a0 : Val} {r : Int} (h : xFA N rc_impl_DepthOf a0 = some r) : AbC 111 (xCu a0) (xBR r) :=
 AbsCalls.of_reach fk111 rfl rfl (Nat.le_of_ble_eq_true rfl) (c111_e hrc_impl_DepthOf a0 r h)
theorem xIc {N : Nat} : ∀ d, (∀ a0 r, xDD N d a0 = some r → AbC 111 (xCu a0) (xBR r)) := by
 intro d
 induction d with
 | zero => intro _ r h; have h' : (none : Option (Int)) = some r := h; cases h'
 | succ d ih => intro _ r h; exact xHX (N := N) ih h
theorem impl_DepthOf_ok {N : Nat} {a0 : Val} {r : Int} (h : xGA N a0 = some r) : AbC 111 (xCu a0) (xBR r) := xIc N _ r h
end Go.Ab.T
end
section
open Go.Proofs
namespace Go.Ab.T
set_option linter.unusedVariables false
set_option maxRecDepth 100000
noncomputable def I92 : Info := { body := (Try.f92.body).getD .skip, nt := 185, results := [.tmp 2], keep := [0, 2, 4, 6, 10, 46, 48, 84, 120, 156, 192, 242, 248, 250, 252, 254, 294, 3, 11], live := [(15, [2, 248, 250, 252, 3])], modes := [(1, [(4, .take, false), (10, .take, false)]), (4, [(1, .take, false), (6, .take, false), (11, .take, false)]), (6, [(1, .take, false), (6, .take, false), (11, .take, false)]), (8, [(1, .take, false), (6, .take, false), (11, .take, false)]), (10, [(1, .take, false), (6, .take, false), (11, .take, false)]), (12, [(3, .take, false), (8, .take, false), (13, .take, false), (19, .take, false)]), (17, [(3, .take, false), (8, .take, false), (13, .take, false)]), (19, [(1, .take, false)]), (20, [(3, .take, false), (8, .take, false), (13, .take, false), (19, .take, false), (25, .take, false), (31, .take, false)])], ext := [], lnt := [], casts := [], fcast := [] }
theorem fk92 : FnOk Try.prog 92 Try.f92 I92 := ⟨Try.func92, by kernel_rfl, by kernel_rfl, by kernel_rfl, by kernel_rfl⟩
def xFN (x124 : List Val) (x125 x126 : Int) (b1 : Val) : St := [(2, .v false [.ptr 1 0]), (248, .v false [.sl .ro .val x124]), (250, .v false [.int .i64 x125]), (252, .v false [.int .i64 x126]), (3, .v true [.int .i64 (Val.kind b1), .int .i64 (Val.n b1), .int .i64 (Val.step b1), .str (Val.text b1), .sl .ro .val (Val.list b1), .sl .ro .str (Val.columns b1), .sl .ro .row (Val.rows b1)])]
theorem p92_15_0 (x124 : List Val) (x125 x126 : Int) (b1 : Val) : run tt (AbsCalls Try.prog) I92 3000 true (stkAt 15 I92.body) ⟨(xFN x124 x125 x126 b1), [true, true, true, true, true], [], []⟩ = some (.done (xAi false) [(decide ((x126 : Int) < x125)) = true, (0 : Int) ≤ x126 ∧ x126 < (List.length x124), (((Val.kind (List.getD x124 (Int.toNat x126) Ty.val.dflt)) : Int) != 1) = true, (((Val.kind (List.getD x124 (Int.toNat x126) Ty.val.dflt)) : Int) != 2) = true, (((Val.kind (List.getD x124 (Int.toNat x126) Ty.val.dflt)) : Int) != 3) = true, true = true]) := by kernel_rfl
theorem p92_15_1 (x124 : List Val) (x125 x126 : Int) (b1 : Val) (r1 : Bool) : run tt (AbsCalls Try.prog) I92 3000 true (stkAt 15 I92.body) ⟨(xFN x124 x125 x126 b1), [true, true, true, false, true], [xAi r1], []⟩ = some (.done (xAi false) [(decide ((x126 : Int) < x125)) = true, (0 : Int) ≤ x126 ∧ x126 < (List.length x124), (((Val.kind (List.getD x124 (Int.toNat x126) Ty.val.dflt)) : Int) != 1) = true, (((Val.kind (List.getD x124 (Int.toNat x126) Ty.val.dflt)) : Int) != 2) = true, (((Val.kind (List.getD x124 (Int.toNat x126) Ty.val.dflt)) : Int) != 3) = false, AbC 92 (xAj (List.getD x124 (Int.toNat x126) Ty.val.dflt)) (xAi r1), (!r1) = true]) := by kernel_rfl
theorem p92_15_2 (x124 : List Val) (x125 x126 : Int) (b1 : Val) (r1 : Bool) : run tt (AbsCalls Try.prog) I92 3000 true (stkAt 15 I92.body) ⟨(xFN x124 x125 x126 b1), [true, true, true, false, false], [xAi r1], []⟩ = some (.stop (stkAt 15 I92.body) (xFN x124 x125 (IntKind.i64.wrap (x126 + 1)) b1) [(decide ((x126 : Int) < x125)) = true, (0 : Int) ≤ x126 ∧ x126 < (List.length x124), (((Val.kind (List.getD x124 (Int.toNat x126) Ty.val.dflt)) : Int) != 1) = true, (((Val.kind (List.getD x124 (Int.toNat x126) Ty.val.dflt)) : Int) != 2) = true, (((Val.kind (List.getD x124 (Int.toNat x126) Ty.val.dflt)) : Int) != 3) = false, AbC 92 (xAj (List.getD x124 (Int.toNat x126) Ty.val.dflt)) (xAi r1), (!r1) = false]) := by kernel_rfl
theorem p92_15_3 (x124 : List Val) (x125 x126 : Int) (b1 : Val) (r1 : Bool) : run tt (AbsCalls Try.prog) I92 3000 true (stkAt 15 I92.body) ⟨(xFN x124 x125 x126 b1), [true, true, false, false, true], [xAi r1], []⟩ = some (.done (xAi false) [(decide ((x126 : Int) < x125)) = true, (0 : Int) ≤ x126 ∧ x126 < (List.length x124), (((Val.kind (List.getD x124 (Int.toNat x126) Ty.val.dflt)) : Int) != 1) = true, (((Val.kind (List.getD x124 (Int.toNat x126) Ty.val.dflt)) : Int) != 2) = false, false = false, AbC 92 (xAj (List.getD x124 (Int.toNat x126) Ty.val.dflt)) (xAi r1), (!r1) = true]) := by kernel_rfl
theorem p92_15_4 (x124 : List Val) (x125 x126 : Int) (b1 : Val) (r1 : Bool) : run tt (AbsCalls Try.prog) I92 3000 true (stkAt 15 I92.body) ⟨(xFN x124 x125 x126 b1), [true, true, false, false, false], [xAi r1], []⟩ = some (.stop (stkAt 15 I92.body) (xFN x124 x125 (IntKind.i64.wrap (x126 + 1)) b1) [(decide ((x126 : Int) < x125)) = true, (0 : Int) ≤ x126 ∧ x126 < (List.length x124), (((Val.kind (List.getD x124 (Int.toNat x126) Ty.val.dflt)) : Int) != 1) = true, (((Val.kind (List.getD x124 (Int.toNat x126) Ty.val.dflt)) : Int) != 2) = false, false = false, AbC 92 (xAj (List.getD x124 (Int.toNat x126) Ty.val.dflt)) (xAi r1), (!r1) = false]) := by kernel_rfl
theorem p92_15_5 (x124 : List Val) (x125 x126 : Int) (b1 : Val) (r1 : Bool) : run tt (AbsCalls Try.prog) I92 3000 true (stkAt 15 I92.body) ⟨(xFN x124 x125 x126 b1), [true, false, false, false, true], [xAi r1], []⟩ = some (.done (xAi false) [(decide ((x126 : Int) < x125)) = true, (0 : Int) ≤ x126 ∧ x126 < (List.length x124), (((Val.kind (List.getD x124 (Int.toNat x126) Ty.val.dflt)) : Int) != 1) = false, false = false, false = false, AbC 92 (xAj (List.getD x124 (Int.toNat x126) Ty.val.dflt)) (xAi r1), (!r1) = true]) := by kernel_rfl
theorem p92_15_6 (x124 : List Val) (x125 x126 : Int) (b1 : Val) (r1 : Bool) : run tt (AbsCalls Try.prog) I92 3000 true (stkAt 15 I92.body) ⟨(xFN x124 x125 x126 b1), [true, false, false, false, false], [xAi r1], []⟩ = some (.stop (stkAt 15 I92.body) (xFN x124 x125 (IntKind.i64.wrap (x126 + 1)) b1) [(decide ((x126 : Int) < x125)) = true, (0 : Int) ≤ x126 ∧ x126 < (List.length x124), (((Val.kind (List.getD x124 (Int.toNat x126) Ty.val.dflt)) : Int) != 1) = false, false = false, false = false, AbC 92 (xAj (List.getD x124 (Int.toNat x126) Ty.val.dflt)) (xAi r1), (!r1) = false]) := by kernel_rfl
theorem p92_15_7 (x124 : List Val) (x125 x126 : Int) (b1 : Val) (r1 : Int) : run tt (AbsCalls Try.prog) I92 3000 true (stkAt 15 I92.body) ⟨(xFN x124 x125 x126 b1), [false, true, true, true, true, true, true], [xBR r1], []⟩ = some (.done (xAi (decide ((r1 : Int) ≤ 3))) [(decide ((x126 : Int) < x125)) = false, (((Val.n b1) : Int) == 0) = true, (((Val.step b1) : Int) == 0) = true, (((Val.text b1) : Str) == []) = true, (((List.length (Val.columns b1) : Int) : Int) == 0) = true, (((List.length (Val.rows b1) : Int) : Int) == 0) = true, (decide (((List.length (Val.list b1) : Int) : Int) ≤ 8)) = true, AbC 111 (xCu b1) (xBR r1)]) := by kernel_rfl
theorem p92_15_8 (x124 : List Val) (x125 x126 : Int) (b1 : Val) : run tt (AbsCalls Try.prog) I92 3000 true (stkAt 15 I92.body) ⟨(xFN x124 x125 x126 b1), [false, true, true, true, true, true, false], [], []⟩ = some (.done (xAi false) [(decide ((x126 : Int) < x125)) = false, (((Val.n b1) : Int) == 0) = true, (((Val.step b1) : Int) == 0) = true, (((Val.text b1) : Str) == []) = true, (((List.length (Val.columns b1) : Int) : Int) == 0) = true, (((List.length (Val.rows b1) : Int) : Int) == 0) = true, (decide (((List.length (Val.list b1) : Int) : Int) ≤ 8)) = false]) := by kernel_rfl
theorem p92_15_9 (x124 : List Val) (x125 x126 : Int) (b1 : Val) : run tt (AbsCalls Try.prog) I92 3000 true (stkAt 15 I92.body) ⟨(xFN x124 x125 x126 b1), [false, true, true, true, true, false, false], [], []⟩ = some (.done (xAi false) [(decide ((x126 : Int) < x125)) = false, (((Val.n b1) : Int) == 0) = true, (((Val.step b1) : Int) == 0) = true, (((Val.text b1) : Str) == []) = true, (((List.length (Val.columns b1) : Int) : Int) == 0) = true, (((List.length (Val.rows b1) : Int) : Int) == 0) = false, false = false]) := by kernel_rfl
theorem p92_15_10 (x124 : List Val) (x125 x126 : Int) (b1 : Val) : run tt (AbsCalls Try.prog) I92 3000 true (stkAt 15 I92.body) ⟨(xFN x124 x125 x126 b1), [false, true, true, true, false, false, false], [], []⟩ = some (.done (xAi false) [(decide ((x126 : Int) < x125)) = false, (((Val.n b1) : Int) == 0) = true, (((Val.step b1) : Int) == 0) = true, (((Val.text b1) : Str) == []) = true, (((List.length (Val.columns b1) : Int) : Int) == 0) = false, false = false, false = false]) := by kernel_rfl
theorem p92_15_11 (x124 : List Val) (x125 x126 : Int) (b1 : Val) : run tt (AbsCalls Try.prog) I92 3000 true (stkAt 15 I92.body) ⟨(xFN x124 x125 x126 b1), [false, true, true, false, false, false, false], [], []⟩ = some (.done (xAi false) [(decide ((x126 : Int) < x125)) = false, (((Val.n b1) : Int) == 0) = true, (((Val.step b1) : Int) == 0) = true, (((Val.text b1) : Str) == []) = false, false = false, false = false, false = false]) := by kernel_rfl
theorem p92_15_12 (x124 : List Val) (x125 x126 : Int) (b1 : Val) : run tt (AbsCalls Try.prog) I92 3000 true (stkAt 15 I92.body) ⟨(xFN x124 x125 x126 b1), [false, true, false, false, false, false, false], [], []⟩ = some (.done (xAi false) [(decide ((x126 : Int) < x125)) = false, (((Val.n b1) : Int) == 0) = true, (((Val.step b1) : Int) == 0) = false, false = false, false = false, false = false, false = false]) := by kernel_rfl
theorem p92_15_13 (x124 : List Val) (x125 x126 : Int) (b1 : Val) : run tt (AbsCalls Try.prog) I92 3000 true (stkAt 15 I92.body) ⟨(xFN x124 x125 x126 b1), [false, false, false, false, false, false, false], [], []⟩ = some (.done (xAi false) [(decide ((x126 : Int) < x125)) = false, (((Val.n b1) : Int) == 0) = false, false = false, false = false, false = false, false = false, false = false]) := by kernel_rfl
theorem p92_e_14 (a0 : Val) (r1 : Bool) : run tt (AbsCalls Try.prog) I92 3000 false [.code I92.body] ⟨(zBi 0 (xAj a0)), [true, true, true, true, true, true], [xA1 r1], []⟩ = some (.done (xAi r1) [(((List.length (Val.list a0) : Int) : Int) == 0) = true, (((List.length (Val.columns a0) : Int) : Int) == 0) = true, (((Val.kind a0) : Int) == 1) = true, (((List.length (Val.rows a0) : Int) : Int) == 0) = true, (((Val.step a0) : Int) == 0) = true, (((Val.text a0) : Str) == []) = true, AbC 53 (xB7 (Val.n a0)) (xA1 r1)]) := by kernel_rfl
theorem p92_e_15 (a0 : Val) : run tt (AbsCalls Try.prog) I92 3000 false [.code I92.body] ⟨(zBi 0 (xAj a0)), [true, true, true, true, true, false], [], []⟩ = some (.done (xAi false) [(((List.length (Val.list a0) : Int) : Int) == 0) = true, (((List.length (Val.columns a0) : Int) : Int) == 0) = true, (((Val.kind a0) : Int) == 1) = true, (((List.length (Val.rows a0) : Int) : Int) == 0) = true, (((Val.step a0) : Int) == 0) = true, (((Val.text a0) : Str) == []) = false]) := by kernel_rfl
theorem p92_e_16 (a0 : Val) : run tt (AbsCalls Try.prog) I92 3000 false [.code I92.body] ⟨(zBi 0 (xAj a0)), [true, true, true, true, false, false], [], []⟩ = some (.done (xAi false) [(((List.length (Val.list a0) : Int) : Int) == 0) = true, (((List.length (Val.columns a0) : Int) : Int) == 0) = true, (((Val.kind a0) : Int) == 1) = true, (((List.length (Val.rows a0) : Int) : Int) == 0) = true, (((Val.step a0) : Int) == 0) = false, false = false]) := by kernel_rfl
theorem p92_e_17 (a0 : Val) : run tt (AbsCalls Try.prog) I92 3000 false [.code I92.body] ⟨(zBi 0 (xAj a0)), [true, true, true, false, false, false], [], []⟩ = some (.done (xAi false) [(((List.length (Val.list a0) : Int) : Int) == 0) = true, (((List.length (Val.columns a0) : Int) : Int) == 0) = true, (((Val.kind a0) : Int) == 1) = true, (((List.length (Val.rows a0) : Int) : Int) == 0) = false, false = false, false = false]) := by kernel_rfl
theorem p92_e_18 (a0 : Val) (r1 : Bool) : run tt (AbsCalls Try.prog) I92 3000 false [.code I92.body] ⟨(zBi 0 (xAj a0)), [true, true, false, true, true, true, true], [xBZ r1], []⟩ = some (.done (xAi r1) [(((List.length (Val.list a0) : Int) : Int) == 0) = true, (((List.length (Val.columns a0) : Int) : Int) == 0) = true, (((Val.kind a0) : Int) == 1) = false, (((Val.kind a0) : Int) == 2) = true, (((List.length (Val.rows a0) : Int) : Int) == 0) = true, (((Val.n a0) : Int) == 0) = true, (((Val.step a0) : Int) == 0) = true, AbC 109 (xES (Val.text a0)) (xBZ r1)]) := by kernel_rfl
theorem p92_e_19 (a0 : Val) : run tt (AbsCalls Try.prog) I92 3000 false [.code I92.body] ⟨(zBi 0 (xAj a0)), [true, true, false, true, true, true, false], [], []⟩ = some (.done (xAi false) [(((List.length (Val.list a0) : Int) : Int) == 0) = true, (((List.length (Val.columns a0) : Int) : Int) == 0) = true, (((Val.kind a0) : Int) == 1) = false, (((Val.kind a0) : Int) == 2) = true, (((List.length (Val.rows a0) : Int) : Int) == 0) = true, (((Val.n a0) : Int) == 0) = true, (((Val.step a0) : Int) == 0) = false]) := by kernel_rfl
theorem p92_e_20 (a0 : Val) : run tt (AbsCalls Try.prog) I92 3000 false [.code I92.body] ⟨(zBi 0 (xAj a0)), [true, true, false, true, true, false, false], [], []⟩ = some (.done (xAi false) [(((List.length (Val.list a0) : Int) : Int) == 0) = true, (((List.length (Val.columns a0) : Int) : Int) == 0) = true, (((Val.kind a0) : Int) == 1) = false, (((Val.kind a0) : Int) == 2) = true, (((List.length (Val.rows a0) : Int) : Int) == 0) = true, (((Val.n a0) : Int) == 0) = false, false = false]) := by kernel_rfl
theorem p92_e_21 (a0 : Val) : run tt (AbsCalls Try.prog) I92 3000 false [.code I92.body] ⟨(zBi 0 (xAj a0)), [true, true, false, true, false, false, false], [], []⟩ = some (.done (xAi false) [(((List.length (Val.list a0) : Int) : Int) == 0) = true, (((List.length (Val.columns a0) : Int) : Int) == 0) = true, (((Val.kind a0) : Int) == 1) = false, (((Val.kind a0) : Int) == 2) = true, (((List.length (Val.rows a0) : Int) : Int) == 0) = false, false = false, false = false]) := by kernel_rfl
theorem p92_e_22 (a0 : Val) (r1 r2 : Bool) : run tt (AbsCalls Try.prog) I92 3000 false [.code I92.body] ⟨(zBi 0 (xAj a0)), [true, true, false, false, true, true, true, true], [xA1 r1, xA1 r2], []⟩ = some (.done (xAi r2) [(((List.length (Val.list a0) : Int) : Int) == 0) = true, (((List.length (Val.columns a0) : Int) : Int) == 0) = true, (((Val.kind a0) : Int) == 1) = false, (((Val.kind a0) : Int) == 2) = false, (((Val.kind a0) : Int) == 4) = true, (((List.length (Val.rows a0) : Int) : Int) == 0) = true, (((Val.text a0) : Str) == []) = true, AbC 53 (xB7 (Val.n a0)) (xA1 r1), r1 = true, AbC 53 (xB7 (Val.step a0)) (xA1 r2)]) := by kernel_rfl
theorem p92_e_23 (a0 : Val) (r1 : Bool) : run tt (AbsCalls Try.prog) I92 3000 false [.code I92.body] ⟨(zBi 0 (xAj a0)), [true, true, false, false, true, true, true, false], [xA1 r1], []⟩ = some (.done (xAi false) [(((List.length (Val.list a0) : Int) : Int) == 0) = true, (((List.length (Val.columns a0) : Int) : Int) == 0) = true, (((Val.kind a0) : Int) == 1) = false, (((Val.kind a0) : Int) == 2) = false, (((Val.kind a0) : Int) == 4) = true, (((List.length (Val.rows a0) : Int) : Int) == 0) = true, (((Val.text a0) : Str) == []) = true, AbC 53 (xB7 (Val.n a0)) (xA1 r1), r1 = false]) := by kernel_rfl
theorem p92_e_24 (a0 : Val) : run tt (AbsCalls Try.prog) I92 3000 false [.code I92.body] ⟨(zBi 0 (xAj a0)), [true, true, false, false, true, true, false, false], [], []⟩ = some (.done (xAi false) [(((List.length (Val.list a0) : Int) : Int) == 0) = true, (((List.length (Val.columns a0) : Int) : Int) == 0) = true, (((Val.kind a0) : Int) == 1) = false, (((Val.kind a0) : Int) == 2) = false, (((Val.kind a0) : Int) == 4) = true, (((List.length (Val.rows a0) : Int) : Int) == 0) = true, (((Val.text a0) : Str) == []) = false, false = false]) := by kernel_rfl
theorem p92_e_25 (a0 : Val) : run tt (AbsCalls Try.prog) I92 3000 false [.code I92.body] ⟨(zBi 0 (xAj a0)), [true, true, false, false, true, false, false, false], [], []⟩ = some (.done (xAi false) [(((List.length (Val.list a0) : Int) : Int) == 0) = true, (((List.length (Val.columns a0) : Int) : Int) == 0) = true, (((Val.kind a0) : Int) == 1) = false, (((Val.kind a0) : Int) == 2) = false, (((Val.kind a0) : Int) == 4) = true, (((List.length (Val.rows a0) : Int) : Int) == 0) = false, false = false, false = false]) := by kernel_rfl
theorem p92_e_26 (a0 : Val) (r1 : Bool) : run tt (AbsCalls Try.prog) I92 3000 false [.code I92.body] ⟨(zBi 0 (xAj a0)), [true, true, false, false, false, true, true, true, true], [xAT r1], []⟩ = some (.done (xAi r1) [(((List.length (Val.list a0) : Int) : Int) == 0) = true, (((List.length (Val.columns a0) : Int) : Int) == 0) = true, (((Val.kind a0) : Int) == 1) = false, (((Val.kind a0) : Int) == 2) = false, (((Val.kind a0) : Int) == 4) = false, (((Val.kind a0) : Int) == 6) = true, (((List.length (Val.rows a0) : Int) : Int) == 0) = true, (((Val.step a0) : Int) == 0) = true, (((Val.text a0) : Str) == []) = true, AbC 56 (xBW (Val.n a0) 1 8) (xAT r1)]) := by kernel_rfl
theorem p92_e_27 (a0 : Val) : run tt (AbsCalls Try.prog) I92 3000 false [.code I92.body] ⟨(zBi 0 (xAj a0)), [true, true, false, false, false, true, true, true, false], [], []⟩ = some (.done (xAi false) [(((List.length (Val.list a0) : Int) : Int) == 0) = true, (((List.length (Val.columns a0) : Int) : Int) == 0) = true, (((Val.kind a0) : Int) == 1) = false, (((Val.kind a0) : Int) == 2) = false, (((Val.kind a0) : Int) == 4) = false, (((Val.kind a0) : Int) == 6) = true, (((List.length (Val.rows a0) : Int) : Int) == 0) = true, (((Val.step a0) : Int) == 0) = true, (((Val.text a0) : Str) == []) = false]) := by kernel_rfl
theorem p92_e_28 (a0 : Val) : run tt (AbsCalls Try.prog) I92 3000 false [.code I92.body] ⟨(zBi 0 (xAj a0)), [true, true, false, false, false, true, true, false, false], [], []⟩ = some (.done (xAi false) [(((List.length (Val.list a0) : Int) : Int) == 0) = true, (((List.length (Val.columns a0) : Int) : Int) == 0) = true, (((Val.kind a0) : Int) == 1) = false, (((Val.kind a0) : Int) == 2) = false, (((Val.kind a0) : Int) == 4) = false, (((Val.kind a0) : Int) == 6) = true, (((List.length (Val.rows a0) : Int) : Int) == 0) = true, (((Val.step a0) : Int) == 0) = false, false = false]) := by kernel_rfl
theorem p92_e_29 (a0 : Val) : run tt (AbsCalls Try.prog) I92 3000 false [.code I92.body] ⟨(zBi 0 (xAj a0)), [true, true, false, false, false, true, false, false, false], [], []⟩ = some (.done (xAi false) [(((List.length (Val.list a0) : Int) : Int) == 0) = true, (((List.length (Val.columns a0) : Int) : Int) == 0) = true, (((Val.kind a0) : Int) == 1) = false, (((Val.kind a0) : Int) == 2) = false, (((Val.kind a0) : Int) == 4) = false, (((Val.kind a0) : Int) == 6) = true, (((List.length (Val.rows a0) : Int) : Int) == 0) = false, false = false, false = false]) := by kernel_rfl
theorem p92_e_30 (a0 : Val) (r1 : Bool) : run tt (AbsCalls Try.prog) I92 3000 false [.code I92.body] ⟨(zBi 0 (xAj a0)), [true, true, false, false, false, false, true, true, true, true, true], [xBa r1], []⟩ = some (.done (xAi r1) [(((List.length (Val.list a0) : Int) : Int) == 0) = true, (((List.length (Val.columns a0) : Int) : Int) == 0) = true, (((Val.kind a0) : Int) == 1) = false, (((Val.kind a0) : Int) == 2) = false, (((Val.kind a0) : Int) == 4) = false, (((Val.kind a0) : Int) == 6) = false, (((Val.kind a0) : Int) == 5) = true, (((Val.n a0) : Int) == 0) = true, (((Val.step a0) : Int) == 0) = true, (((Val.text a0) : Str) == []) = true, (((List.length (Val.list a0) : Int) : Int) == 0) = true, AbC 110 (xD7 a0) (xBa r1)]) := by kernel_rfl
theorem p92_e_31 (a0 : Val) : run tt (AbsCalls Try.prog) I92 3000 false [.code I92.body] ⟨(zBi 0 (xAj a0)), [true, true, false, false, false, false, true, true, true, false, false], [], []⟩ = some (.done (xAi false) [(((List.length (Val.list a0) : Int) : Int) == 0) = true, (((List.length (Val.columns a0) : Int) : Int) == 0) = true, (((Val.kind a0) : Int) == 1) = false, (((Val.kind a0) : Int) == 2) = false, (((Val.kind a0) : Int) == 4) = false, (((Val.kind a0) : Int) == 6) = false, (((Val.kind a0) : Int) == 5) = true, (((Val.n a0) : Int) == 0) = true, (((Val.step a0) : Int) == 0) = true, (((Val.text a0) : Str) == []) = false, false = false]) := by kernel_rfl
theorem p92_e_32 (a0 : Val) : run tt (AbsCalls Try.prog) I92 3000 false [.code I92.body] ⟨(zBi 0 (xAj a0)), [true, true, false, false, false, false, true, true, false, false, false], [], []⟩ = some (.done (xAi false) [(((List.length (Val.list a0) : Int) : Int) == 0) = true, (((List.length (Val.columns a0) : Int) : Int) == 0) = true, (((Val.kind a0) : Int) == 1) = false, (((Val.kind a0) : Int) == 2) = false, (((Val.kind a0) : Int) == 4) = false, (((Val.kind a0) : Int) == 6) = false, (((Val.kind a0) : Int) == 5) = true, (((Val.n a0) : Int) == 0) = true, (((Val.step a0) : Int) == 0) = false, false = false, false = false]) := by kernel_rfl
theorem p92_e_33 (a0 : Val) : run tt (AbsCalls Try.prog) I92 3000 false [.code I92.body] ⟨(zBi 0 (xAj a0)), [true, true, false, false, false, false, true, false, false, false, false], [], []⟩ = some (.done (xAi false) [(((List.length (Val.list a0) : Int) : Int) == 0) = true, (((List.length (Val.columns a0) : Int) : Int) == 0) = true, (((Val.kind a0) : Int) == 1) = false, (((Val.kind a0) : Int) == 2) = false, (((Val.kind a0) : Int) == 4) = false, (((Val.kind a0) : Int) == 6) = false, (((Val.kind a0) : Int) == 5) = true, (((Val.n a0) : Int) == 0) = false, false = false, false = false, false = false]) := by kernel_rfl
theorem p92_e_34 (a0 : Val) : run tt (AbsCalls Try.prog) I92 3000 false [.code I92.body] ⟨(zBi 0 (xAj a0)), [true, true, false, false, false, false, false, true], [], []⟩ = some (.stop (stkAt 15 I92.body) (xFN (Val.list a0) (List.length (Val.list a0) : Int) 0 a0) [(((List.length (Val.list a0) : Int) : Int) == 0) = true, (((List.length (Val.columns a0) : Int) : Int) == 0) = true, (((Val.kind a0) : Int) == 1) = false, (((Val.kind a0) : Int) == 2) = false, (((Val.kind a0) : Int) == 4) = false, (((Val.kind a0) : Int) == 6) = false, (((Val.kind a0) : Int) == 5) = false, (((Val.kind a0) : Int) == 3) = true]) := by kernel_rfl
theorem p92_e_35 (a0 : Val) : run tt (AbsCalls Try.prog) I92 3000 false [.code I92.body] ⟨(zBi 0 (xAj a0)), [true, true, false, false, false, false, false, false], [], []⟩ = some (.done (xAi false) [(((List.length (Val.list a0) : Int) : Int) == 0) = true, (((List.length (Val.columns a0) : Int) : Int) == 0) = true, (((Val.kind a0) : Int) == 1) = false, (((Val.kind a0) : Int) == 2) = false, (((Val.kind a0) : Int) == 4) = false, (((Val.kind a0) : Int) == 6) = false, (((Val.kind a0) : Int) == 5) = false, (((Val.kind a0) : Int) == 3) = false]) := by kernel_rfl
theorem p92_e_36 (a0 : Val) : run tt (AbsCalls Try.prog) I92 3000 false [.code I92.body] ⟨(zBi 0 (xAj a0)), [true, false, true, false, false, false], [], []⟩ = some (.done (xAi false) [(((List.length (Val.list a0) : Int) : Int) == 0) = true, (((List.length (Val.columns a0) : Int) : Int) == 0) = false, (((Val.kind a0) : Int) == 1) = true, false = false, false = false, false = false]) := by kernel_rfl
theorem p92_e_37 (a0 : Val) : run tt (AbsCalls Try.prog) I92 3000 false [.code I92.body] ⟨(zBi 0 (xAj a0)), [true, false, false, true, false, false, false], [], []⟩ = some (.done (xAi false) [(((List.length (Val.list a0) : Int) : Int) == 0) = true, (((List.length (Val.columns a0) : Int) : Int) == 0) = false, (((Val.kind a0) : Int) == 1) = false, (((Val.kind a0) : Int) == 2) = true, false = false, false = false, false = false]) := by kernel_rfl
theorem p92_e_38 (a0 : Val) : run tt (AbsCalls Try.prog) I92 3000 false [.code I92.body] ⟨(zBi 0 (xAj a0)), [true, false, false, false, true, false, false, false], [], []⟩ = some (.done (xAi false) [(((List.length (Val.list a0) : Int) : Int) == 0) = true, (((List.length (Val.columns a0) : Int) : Int) == 0) = false, (((Val.kind a0) : Int) == 1) = false, (((Val.kind a0) : Int) == 2) = false, (((Val.kind a0) : Int) == 4) = true, false = false, false = false, false = false]) := by kernel_rfl
theorem p92_e_39 (a0 : Val) : run tt (AbsCalls Try.prog) I92 3000 false [.code I92.body] ⟨(zBi 0 (xAj a0)), [true, false, false, false, false, true, false, false, false], [], []⟩ = some (.done (xAi false) [(((List.length (Val.list a0) : Int) : Int) == 0) = true, (((List.length (Val.columns a0) : Int) : Int) == 0) = false, (((Val.kind a0) : Int) == 1) = false, (((Val.kind a0) : Int) == 2) = false, (((Val.kind a0) : Int) == 4) = false, (((Val.kind a0) : Int) == 6) = true, false = false, false = false, false = false]) := by kernel_rfl
theorem p92_e_40 (a0 : Val) (r1 : Bool) : run tt (AbsCalls Try.prog) I92 3000 false [.code I92.body] ⟨(zBi 0 (xAj a0)), [true, false, false, false, false, false, true, true, true, true, true], [xBa r1], []⟩ = some (.done (xAi r1) [(((List.length (Val.list a0) : Int) : Int) == 0) = true, (((List.length (Val.columns a0) : Int) : Int) == 0) = false, (((Val.kind a0) : Int) == 1) = false, (((Val.kind a0) : Int) == 2) = false, (((Val.kind a0) : Int) == 4) = false, (((Val.kind a0) : Int) == 6) = false, (((Val.kind a0) : Int) == 5) = true, (((Val.n a0) : Int) == 0) = true, (((Val.step a0) : Int) == 0) = true, (((Val.text a0) : Str) == []) = true, (((List.length (Val.list a0) : Int) : Int) == 0) = true, AbC 110 (xD7 a0) (xBa r1)]) := by kernel_rfl
theorem p92_e_41 (a0 : Val) : run tt (AbsCalls Try.prog) I92 3000 false [.code I92.body] ⟨(zBi 0 (xAj a0)), [true, false, false, false, false, false, true, true, true, false, false], [], []⟩ = some (.done (xAi false) [(((List.length (Val.list a0) : Int) : Int) == 0) = true, (((List.length (Val.columns a0) : Int) : Int) == 0) = false, (((Val.kind a0) : Int) == 1) = false, (((Val.kind a0) : Int) == 2) = false, (((Val.kind a0) : Int) == 4) = false, (((Val.kind a0) : Int) == 6) = false, (((Val.kind a0) : Int) == 5) = true, (((Val.n a0) : Int) == 0) = true, (((Val.step a0) : Int) == 0) = true, (((Val.text a0) : Str) == []) = false, false = false]) := by kernel_rfl
theorem p92_e_42 (a0 : Val) : run tt (AbsCalls Try.prog) I92 3000 false [.code I92.body] ⟨(zBi 0 (xAj a0)), [true, false, false, false, false, false, true, true, false, false, false], [], []⟩ = some (.done (xAi false) [(((List.length (Val.list a0) : Int) : Int) == 0) = true, (((List.length (Val.columns a0) : Int) : Int) == 0) = false, (((Val.kind a0) : Int) == 1) = false, (((Val.kind a0) : Int) == 2) = false, (((Val.kind a0) : Int) == 4) = false, (((Val.kind a0) : Int) == 6) = false, (((Val.kind a0) : Int) == 5) = true, (((Val.n a0) : Int) == 0) = true, (((Val.step a0) : Int) == 0) = false, false = false, false = false]) := by kernel_rfl
theorem p92_e_43 (a0 : Val) : run tt (AbsCalls Try.prog) I92 3000 false [.code I92.body] ⟨(zBi 0 (xAj a0)), [true, false, false, false, false, false, true, false, false, false, false], [], []⟩ = some (.done (xAi false) [(((List.length (Val.list a0) : Int) : Int) == 0) = true, (((List.length (Val.columns a0) : Int) : Int) == 0) = false, (((Val.kind a0) : Int) == 1) = false, (((Val.kind a0) : Int) == 2) = false, (((Val.kind a0) : Int) == 4) = false, (((Val.kind a0) : Int) == 6) = false, (((Val.kind a0) : Int) == 5) = true, (((Val.n a0) : Int) == 0) = false, false = false, false = false, false = false]) := by kernel_rfl
theorem p92_e_44 (a0 : Val) : run tt (AbsCalls Try.prog) I92 3000 false [.code I92.body] ⟨(zBi 0 (xAj a0)), [true, false, false, false, false, false, false, true], [], []⟩ = some (.stop (stkAt 15 I92.body) (xFN (Val.list a0) (List.length (Val.list a0) : Int) 0 a0) [(((List.length (Val.list a0) : Int) : Int) == 0) = true, (((List.length (Val.columns a0) : Int) : Int) == 0) = false, (((Val.kind a0) : Int) == 1) = false, (((Val.kind a0) : Int) == 2) = false, (((Val.kind a0) : Int) == 4) = false, (((Val.kind a0) : Int) == 6) = false, (((Val.kind a0) : Int) == 5) = false, (((Val.kind a0) : Int) == 3) = true]) := by kernel_rfl
theorem p92_e_45 (a0 : Val) : run tt (AbsCalls Try.prog) I92 3000 false [.code I92.body] ⟨(zBi 0 (xAj a0)), [true, false, false, false, false, false, false, false], [], []⟩ = some (.done (xAi false) [(((List.length (Val.list a0) : Int) : Int) == 0) = true, (((List.length (Val.columns a0) : Int) : Int) == 0) = false, (((Val.kind a0) : Int) == 1) = false, (((Val.kind a0) : Int) == 2) = false, (((Val.kind a0) : Int) == 4) = false, (((Val.kind a0) : Int) == 6) = false, (((Val.kind a0) : Int) == 5) = false, (((Val.kind a0) : Int) == 3) = false]) := by kernel_rfl
theorem p92_e_46 (a0 : Val) : run tt (AbsCalls Try.prog) I92 3000 false [.code I92.body] ⟨(zBi 0 (xAj a0)), [false, false, true, false, false, false], [], []⟩ = some (.done (xAi false) [(((List.length (Val.list a0) : Int) : Int) == 0) = false, false = false, (((Val.kind a0) : Int) == 1) = true, false = false, false = false, false = false]) := by kernel_rfl
theorem p92_e_47 (a0 : Val) : run tt (AbsCalls Try.prog) I92 3000 false [.code I92.body] ⟨(zBi 0 (xAj a0)), [false, false, false, true, false, false, false], [], []⟩ = some (.done (xAi false) [(((List.length (Val.list a0) : Int) : Int) == 0) = false, false = false, (((Val.kind a0) : Int) == 1) = false, (((Val.kind a0) : Int) == 2) = true, false = false, false = false, false = false]) := by kernel_rfl
theorem p92_e_48 (a0 : Val) : run tt (AbsCalls Try.prog) I92 3000 false [.code I92.body] ⟨(zBi 0 (xAj a0)), [false, false, false, false, true, false, false, false], [], []⟩ = some (.done (xAi false) [(((List.length (Val.list a0) : Int) : Int) == 0) = false, false = false, (((Val.kind a0) : Int) == 1) = false, (((Val.kind a0) : Int) == 2) = false, (((Val.kind a0) : Int) == 4) = true, false = false, false = false, false = false]) := by kernel_rfl
theorem p92_e_49 (a0 : Val) : run tt (AbsCalls Try.prog) I92 3000 false [.code I92.body] ⟨(zBi 0 (xAj a0)), [false, false, false, false, false, true, false, false, false], [], []⟩ = some (.done (xAi false) [(((List.length (Val.list a0) : Int) : Int) == 0) = false, false = false, (((Val.kind a0) : Int) == 1) = false, (((Val.kind a0) : Int) == 2) = false, (((Val.kind a0) : Int) == 4) = false, (((Val.kind a0) : Int) == 6) = true, false = false, false = false, false = false]) := by kernel_rfl
theorem p92_e_50 (a0 : Val) : run tt (AbsCalls Try.prog) I92 3000 false [.code I92.body] ⟨(zBi 0 (xAj a0)), [false, false, false, false, false, false, true, true, true, true, false], [], []⟩ = some (.done (xAi false) [(((List.length (Val.list a0) : Int) : Int) == 0) = false, false = false, (((Val.kind a0) : Int) == 1) = false, (((Val.kind a0) : Int) == 2) = false, (((Val.kind a0) : Int) == 4) = false, (((Val.kind a0) : Int) == 6) = false, (((Val.kind a0) : Int) == 5) = true, (((Val.n a0) : Int) == 0) = true, (((Val.step a0) : Int) == 0) = true, (((Val.text a0) : Str) == []) = true, (((List.length (Val.list a0) : Int) : Int) == 0) = false]) := by kernel_rfl
theorem p92_e_51 (a0 : Val) : run tt (AbsCalls Try.prog) I92 3000 false [.code I92.body] ⟨(zBi 0 (xAj a0)), [false, false, false, false, false, false, true, true, true, false, false], [], []⟩ = some (.done (xAi false) [(((List.length (Val.list a0) : Int) : Int) == 0) = false, false = false, (((Val.kind a0) : Int) == 1) = false, (((Val.kind a0) : Int) == 2) = false, (((Val.kind a0) : Int) == 4) = false, (((Val.kind a0) : Int) == 6) = false, (((Val.kind a0) : Int) == 5) = true, (((Val.n a0) : Int) == 0) = true, (((Val.step a0) : Int) == 0) = true, (((Val.text a0) : Str) == []) = false, false = false]) := by kernel_rfl
theorem p92_e_52 (a0 : Val) : run tt (AbsCalls Try.prog) I92 3000 false [.code I92.body] ⟨(zBi 0 (xAj a0)), [false, false, false, false, false, false, true, true, false, false, false], [], []⟩ = some (.done (xAi false) [(((List.length (Val.list a0) : Int) : Int) == 0) = false, false = false, (((Val.kind a0) : Int) == 1) = false, (((Val.kind a0) : Int) == 2) = false, (((Val.kind a0) : Int) == 4) = false, (((Val.kind a0) : Int) == 6) = false, (((Val.kind a0) : Int) == 5) = true, (((Val.n a0) : Int) == 0) = true, (((Val.step a0) : Int) == 0) = false, false = false, false = false]) := by kernel_rfl
theorem p92_e_53 (a0 : Val) : run tt (AbsCalls Try.prog) I92 3000 false [.code I92.body] ⟨(zBi 0 (xAj a0)), [false, false, false, false, false, false, true, false, false, false, false], [], []⟩ = some (.done (xAi false) [(((List.length (Val.list a0) : Int) : Int) == 0) = false, false = false, (((Val.kind a0) : Int) == 1) = false, (((Val.kind a0) : Int) == 2) = false, (((Val.kind a0) : Int) == 4) = false, (((Val.kind a0) : Int) == 6) = false, (((Val.kind a0) : Int) == 5) = true, (((Val.n a0) : Int) == 0) = false, false = false, false = false, false = false]) := by kernel_rfl
theorem p92_e_54 (a0 : Val) : run tt (AbsCalls Try.prog) I92 3000 false [.code I92.body] ⟨(zBi 0 (xAj a0)), [false, false, false, false, false, false, false, true], [], []⟩ = some (.stop (stkAt 15 I92.body) (xFN (Val.list a0) (List.length (Val.list a0) : Int) 0 a0) [(((List.length (Val.list a0) : Int) : Int) == 0) = false, false = false, (((Val.kind a0) : Int) == 1) = false, (((Val.kind a0) : Int) == 2) = false, (((Val.kind a0) : Int) == 4) = false, (((Val.kind a0) : Int) == 6) = false, (((Val.kind a0) : Int) == 5) = false, (((Val.kind a0) : Int) == 3) = true]) := by kernel_rfl
theorem p92_e_55 (a0 : Val) : run tt (AbsCalls Try.prog) I92 3000 false [.code I92.body] ⟨(zBi 0 (xAj a0)), [false, false, false, false, false, false, false, false], [], []⟩ = some (.done (xAi false) [(((List.length (Val.list a0) : Int) : Int) == 0) = false, false = false, (((Val.kind a0) : Int) == 1) = false, (((Val.kind a0) : Int) == 2) = false, (((Val.kind a0) : Int) == 4) = false, (((Val.kind a0) : Int) == 6) = false, (((Val.kind a0) : Int) == 5) = false, (((Val.kind a0) : Int) == 3) = false]) := by kernel_rfl
theorem c92_15 {N : Nat} {rc_impl_IsValidValue : Val → Option (Bool)} (hrc_impl_IsValidValue : ∀ a0 r, rc_impl_IsValidValue a0 = some r → AbC 92 (xAj a0) (xAi r)) : ∀ n x124 x125 x126 b1 r, xA5 N rc_impl_IsValidValue n x124 x125 x126 b1 = some r → Reach Try.prog Try.f92 I92 (stkAt 15 I92.body) (xFN x124 x125 x126 b1) (xAi r) := by
 intro n
 induction n with
 | zero => intro x124 x125 x126 b1 r h; have h' : (none : Option (Bool)) = some r := h; cases h'
 | succ n ih =>
  intro x124 x125 x126 b1 r h
  rw [xA5] at h
  rcases cond_inv h with ⟨h0, h⟩ | ⟨h0, h⟩
  ·obtain ⟨h1, h⟩ := ite_inv h
   rcases cond_inv h with ⟨h2, h⟩ | ⟨h2, h⟩
   ·rcases cond_inv h with ⟨h3, h⟩ | ⟨h3, h⟩
    ·rcases cond_inv h with ⟨h4, h⟩ | ⟨h4, h⟩
     ·obtain rfl := Option.some.inj h
      exact Reach.done ttok mix fk92 (p92_15_0 x124 x125 x126 b1) (obs_cons h0 (obs_cons h1 (obs_cons h2 (obs_cons h3 (obs_cons h4 (obs_cons rfl obs_nil))))))
     ·obtain ⟨r1, h5, h⟩ := bind_inv h
      rcases cond_inv h with ⟨h6, h⟩ | ⟨h6, h⟩
      ·obtain rfl := Option.some.inj h
       exact Reach.done ttok mix fk92 (p92_15_1 x124 x125 x126 b1 r1) (obs_cons h0 (obs_cons h1 (obs_cons h2 (obs_cons h3 (obs_cons h4 (obs_cons (hrc_impl_IsValidValue _ _ h5) (obs_cons h6 obs_nil)))))))
      ·exact Reach.stop ttok mix fk92 (p92_15_2 x124 x125 x126 b1 r1) (obs_cons h0 (obs_cons h1 (obs_cons h2 (obs_cons h3 (obs_cons h4 (obs_cons (hrc_impl_IsValidValue _ _ h5) (obs_cons h6 obs_nil))))))) (ih _ _ _ _ _ h)
    ·obtain ⟨r1, h5, h⟩ := bind_inv h
     rcases cond_inv h with ⟨h6, h⟩ | ⟨h6, h⟩
     ·obtain rfl := Option.some.inj h
      exact Reach.done ttok mix fk92 (p92_15_3 x124 x125 x126 b1 r1) (obs_cons h0 (obs_cons h1 (obs_cons h2 (obs_cons h3 (obs_cons rfl (obs_cons (hrc_impl_IsValidValue _ _ h5) (obs_cons h6 obs_nil)))))))
     ·exact Reach.stop ttok mix fk92 (p92_15_4 x124 x125 x126 b1 r1) (obs_cons h0 (obs_cons h1 (obs_cons h2 (obs_cons h3 (obs_cons rfl (obs_cons (hrc_impl_IsValidValue _ _ h5) (obs_cons h6 obs_nil))))))) (ih _ _ _ _ _ h)
   ·obtain ⟨r1, h5, h⟩ := bind_inv h
    rcases cond_inv h with ⟨h6, h⟩ | ⟨h6, h⟩
    ·obtain rfl := Option.some.inj h
     exact Reach.done ttok mix fk92 (p92_15_5 x124 x125 x126 b1 r1) (obs_cons h0 (obs_cons h1 (obs_cons h2 (obs_cons rfl (obs_cons rfl (obs_cons (hrc_impl_IsValidValue _ _ h5) (obs_cons h6 obs_nil)))))))
    ·exact Reach.stop ttok mix fk92 (p92_15_6 x124 x125 x126 b1 r1) (obs_cons h0 (obs_cons h1 (obs_cons h2 (obs_cons rfl (obs_cons rfl (obs_cons (hrc_impl_IsValidValue _ _ h5) (obs_cons h6 obs_nil))))))) (ih _ _ _ _ _ h)
  ·rcases cond_inv h with ⟨h1, h⟩ | ⟨h1, h⟩
   ·rcases cond_inv h with ⟨h2, h⟩ | ⟨h2, h⟩
    ·rcases cond_inv h with ⟨h3, h⟩ | ⟨h3, h⟩
     ·rcases cond_inv h with ⟨h4, h⟩ | ⟨h4, h⟩
      ·rcases cond_inv h with ⟨h5, h⟩ | ⟨h5, h⟩
       ·rcases cond_inv h with ⟨h6, h⟩ | ⟨h6, h⟩
        ·obtain ⟨r1, h7, h⟩ := bind_inv h
         obtain rfl := Option.some.inj h
         exact Reach.done ttok mix fk92 (p92_15_7 x124 x125 x126 b1 r1) (obs_cons h0 (obs_cons h1 (obs_cons h2 (obs_cons h3 (obs_cons h4 (obs_cons h5 (obs_cons h6 (obs_cons (impl_DepthOf_ok h7) obs_nil))))))))
        ·obtain rfl := Option.some.inj h
         exact Reach.done ttok mix fk92 (p92_15_8 x124 x125 x126 b1) (obs_cons h0 (obs_cons h1 (obs_cons h2 (obs_cons h3 (obs_cons h4 (obs_cons h5 (obs_cons h6 obs_nil)))))))
       ·obtain rfl := Option.some.inj h
        exact Reach.done ttok mix fk92 (p92_15_9 x124 x125 x126 b1) (obs_cons h0 (obs_cons h1 (obs_cons h2 (obs_cons h3 (obs_cons h4 (obs_cons h5 (obs_cons rfl obs_nil)))))))
      ·obtain rfl := Option.some.inj h
       exact Reach.done ttok mix fk92 (p92_15_10 x124 x125 x126 b1) (obs_cons h0 (obs_cons h1 (obs_cons h2 (obs_cons h3 (obs_cons h4 (obs_cons rfl (obs_cons rfl obs_nil)))))))
     ·obtain rfl := Option.some.inj h
      exact Reach.done ttok mix fk92 (p92_15_11 x124 x125 x126 b1) (obs_cons h0 (obs_cons h1 (obs_cons h2 (obs_cons h3 (obs_cons rfl (obs_cons rfl (obs_cons rfl obs_nil)))))))
    ·obtain rfl := Option.some.inj h
     exact Reach.done ttok mix fk92 (p92_15_12 x124 x125 x126 b1) (obs_cons h0 (obs_cons h1 (obs_cons h2 (obs_cons rfl (obs_cons rfl (obs_cons rfl (obs_cons rfl obs_nil)))))))
   ·obtain rfl := Option.some.inj h
    exact Reach.done ttok mix fk92 (p92_15_13 x124 x125 x126 b1) (obs_cons h0 (obs_cons h1 (obs_cons rfl (obs_cons rfl (obs_cons rfl (obs_cons rfl (obs_cons rfl obs_nil)))))))
theorem c92_e {N : Nat} {rc_impl_IsValidValue : Val → Option (Bool)} (hrc_impl_IsValidValue : ∀ a0 r, rc_impl_IsValidValue a0 = some r → AbC 92 (xAj a0) (xAi r)) : ∀ a0 r, xCs N rc_impl_IsValidValue a0 = some r → Reach Try.prog Try.f92 I92 [.code I92.body] (zBi 0 (xAj a0)) (xAi r) := by
 intro a0 r h
 unfold xCs at h
 rcases cond_inv h with ⟨h0, h⟩ | ⟨h0, h⟩
 ·rcases cond_inv h with ⟨h1, h⟩ | ⟨h1, h⟩
  ·rcases cond_inv h with ⟨h2, h⟩ | ⟨h2, h⟩
   ·rcases cond_inv h with ⟨h3, h⟩ | ⟨h3, h⟩
    ·rcases cond_inv h with ⟨h4, h⟩ | ⟨h4, h⟩
     ·rcases cond_inv h with ⟨h5, h⟩ | ⟨h5, h⟩
      ·obtain ⟨r1, h6, h⟩ := bind_inv h
       obtain rfl := Option.some.inj h
       exact Reach.done ttok mix fk92 (p92_e_14 a0 r1) (obs_cons h0 (obs_cons h1 (obs_cons h2 (obs_cons h3 (obs_cons h4 (obs_cons h5 (obs_cons (xC6 h6) obs_nil)))))))
      ·obtain rfl := Option.some.inj h
       exact Reach.done ttok mix fk92 (p92_e_15 a0) (obs_cons h0 (obs_cons h1 (obs_cons h2 (obs_cons h3 (obs_cons h4 (obs_cons h5 obs_nil))))))
     ·obtain rfl := Option.some.inj h
      exact Reach.done ttok mix fk92 (p92_e_16 a0) (obs_cons h0 (obs_cons h1 (obs_cons h2 (obs_cons h3 (obs_cons h4 (obs_cons rfl obs_nil))))))
    ·obtain rfl := Option.some.inj h
     exact Reach.done ttok mix fk92 (p92_e_17 a0) (obs_cons h0 (obs_cons h1 (obs_cons h2 (obs_cons h3 (obs_cons rfl (obs_cons rfl obs_nil))))))
   ·rcases cond_inv h with ⟨h3, h⟩ | ⟨h3, h⟩
    ·rcases cond_inv h with ⟨h4, h⟩ | ⟨h4, h⟩
     ·rcases cond_inv h with ⟨h5, h⟩ | ⟨h5, h⟩
      ·rcases cond_inv h with ⟨h6, h⟩ | ⟨h6, h⟩
       ·obtain ⟨r1, h7, h⟩ := bind_inv h
        obtain rfl := Option.some.inj h
        exact Reach.done ttok mix fk92 (p92_e_18 a0 r1) (obs_cons h0 (obs_cons h1 (obs_cons h2 (obs_cons h3 (obs_cons h4 (obs_cons h5 (obs_cons h6 (obs_cons (xIf h7) obs_nil))))))))
       ·obtain rfl := Option.some.inj h
        exact Reach.done ttok mix fk92 (p92_e_19 a0) (obs_cons h0 (obs_cons h1 (obs_cons h2 (obs_cons h3 (obs_cons h4 (obs_cons h5 (obs_cons h6 obs_nil)))))))
      ·obtain rfl := Option.some.inj h
       exact Reach.done ttok mix fk92 (p92_e_20 a0) (obs_cons h0 (obs_cons h1 (obs_cons h2 (obs_cons h3 (obs_cons h4 (obs_cons h5 (obs_cons rfl obs_nil)))))))
     ·obtain rfl := Option.some.inj h
      exact Reach.done ttok mix fk92 (p92_e_21 a0) (obs_cons h0 (obs_cons h1 (obs_cons h2 (obs_cons h3 (obs_cons h4 (obs_cons rfl (obs_cons rfl obs_nil)))))))
    ·rcases cond_inv h with ⟨h4, h⟩ | ⟨h4, h⟩
     ·rcases cond_inv h with ⟨h5, h⟩ | ⟨h5, h⟩
      ·rcases cond_inv h with ⟨h6, h⟩ | ⟨h6, h⟩
       ·obtain ⟨r1, h7, h⟩ := bind_inv h
        rcases cond_inv h with ⟨h8, h⟩ | ⟨h8, h⟩
        ·obtain ⟨r2, h9, h⟩ := bind_inv h
         obtain rfl := Option.some.inj h
         exact Reach.done ttok mix fk92 (p92_e_22 a0 r1 r2) (obs_cons h0 (obs_cons h1 (obs_cons h2 (obs_cons h3 (obs_cons h4 (obs_cons h5 (obs_cons h6 (obs_cons (xC6 h7) (obs_cons h8 (obs_cons (xC6 h9) obs_nil))))))))))
        ·obtain rfl := Option.some.inj h
         exact Reach.done ttok mix fk92 (p92_e_23 a0 r1) (obs_cons h0 (obs_cons h1 (obs_cons h2 (obs_cons h3 (obs_cons h4 (obs_cons h5 (obs_cons h6 (obs_cons (xC6 h7) (obs_cons h8 obs_nil)))))))))
       ·obtain rfl := Option.some.inj h
        exact Reach.done ttok mix fk92 (p92_e_24 a0) (obs_cons h0 (obs_cons h1 (obs_cons h2 (obs_cons h3 (obs_cons h4 (obs_cons h5 (obs_cons h6 (obs_cons rfl obs_nil))))))))
      ·obtain rfl := Option.some.inj h
       exact Reach.done ttok mix fk92 (p92_e_25 a0) (obs_cons h0 (obs_cons h1 (obs_cons h2 (obs_cons h3 (obs_cons h4 (obs_cons h5 (obs_cons rfl (obs_cons rfl obs_nil))))))))
     ·rcases cond_inv h with ⟨h5, h⟩ | ⟨h5, h⟩
      ·rcases cond_inv h with ⟨h6, h⟩ | ⟨h6, h⟩
       ·rcases cond_inv h with ⟨h7, h⟩ | ⟨h7, h⟩
        ·rcases cond_inv h with ⟨h8, h⟩ | ⟨h8, h⟩
         ·obtain ⟨r1, h9, h⟩ := bind_inv h
          obtain rfl := Option.some.inj h
          exact Reach.done ttok mix fk92 (p92_e_26 a0 r1) (obs_cons h0 (obs_cons h1 (obs_cons h2 (obs_cons h3 (obs_cons h4 (obs_cons h5 (obs_cons h6 (obs_cons h7 (obs_cons h8 (obs_cons (xCQ h9) obs_nil))))))))))
         ·obtain rfl := Option.some.inj h
          exact Reach.done ttok mix fk92 (p92_e_27 a0) (obs_cons h0 (obs_cons h1 (obs_cons h2 (obs_cons h3 (obs_cons h4 (obs_cons h5 (obs_cons h6 (obs_cons h7 (obs_cons h8 obs_nil)))))))))
        ·obtain rfl := Option.some.inj h
         exact Reach.done ttok mix fk92 (p92_e_28 a0) (obs_cons h0 (obs_cons h1 (obs_cons h2 (obs_cons h3 (obs_cons h4 (obs_cons h5 (obs_cons h6 (obs_cons h7 (obs_cons rfl obs_nil)))))))))
       ·obtain rfl := Option.some.inj h
        exact Reach.done ttok mix fk92 (p92_e_29 a0) (obs_cons h0 (obs_cons h1 (obs_cons h2 (obs_cons h3 (obs_cons h4 (obs_cons h5 (obs_cons h6 (obs_cons rfl (obs_cons rfl obs_nil)))))))))
      ·rcases cond_inv h with ⟨h6, h⟩ | ⟨h6, h⟩
       ·rcases cond_inv h with ⟨h7, h⟩ | ⟨h7, h⟩
        ·rcases cond_inv h with ⟨h8, h⟩ | ⟨h8, h⟩
         ·rcases cond_inv h with ⟨h9, h⟩ | ⟨h9, h⟩
          ·obtain ⟨r1, h11, h⟩ := bind_inv h
           obtain rfl := Option.some.inj h
           exact Reach.done ttok mix fk92 (p92_e_30 a0 r1) (obs_cons h0 (obs_cons h1 (obs_cons h2 (obs_cons h3 (obs_cons h4 (obs_cons h5 (obs_cons h6 (obs_cons h7 (obs_cons h8 (obs_cons h9 (obs_cons h0 (obs_cons (xHN h11) obs_nil))))))))))))
          ·obtain rfl := Option.some.inj h
           exact Reach.done ttok mix fk92 (p92_e_31 a0) (obs_cons h0 (obs_cons h1 (obs_cons h2 (obs_cons h3 (obs_cons h4 (obs_cons h5 (obs_cons h6 (obs_cons h7 (obs_cons h8 (obs_cons h9 (obs_cons rfl obs_nil)))))))))))
         ·obtain rfl := Option.some.inj h
          exact Reach.done ttok mix fk92 (p92_e_32 a0) (obs_cons h0 (obs_cons h1 (obs_cons h2 (obs_cons h3 (obs_cons h4 (obs_cons h5 (obs_cons h6 (obs_cons h7 (obs_cons h8 (obs_cons rfl (obs_cons rfl obs_nil)))))))))))
        ·obtain rfl := Option.some.inj h
         exact Reach.done ttok mix fk92 (p92_e_33 a0) (obs_cons h0 (obs_cons h1 (obs_cons h2 (obs_cons h3 (obs_cons h4 (obs_cons h5 (obs_cons h6 (obs_cons h7 (obs_cons rfl (obs_cons rfl (obs_cons rfl obs_nil)))))))))))
       ·rcases cond_inv h with ⟨h7, h⟩ | ⟨h7, h⟩
        ·exact Reach.stop ttok mix fk92 (p92_e_34 a0) (obs_cons h0 (obs_cons h1 (obs_cons h2 (obs_cons h3 (obs_cons h4 (obs_cons h5 (obs_cons h6 (obs_cons h7 obs_nil)))))))) (c92_15 hrc_impl_IsValidValue  _ _ _ _ _ _ h)
        ·obtain rfl := Option.some.inj h
         exact Reach.done ttok mix fk92 (p92_e_35 a0) (obs_cons h0 (obs_cons h1 (obs_cons h2 (obs_cons h3 (obs_cons h4 (obs_cons h5 (obs_cons h6 (obs_cons h7 obs_nil))))))))
  ·rcases cond_inv h with ⟨h2, h⟩ | ⟨h2, h⟩
   ·obtain rfl := Option.some.inj h
    exact Reach.done ttok mix fk92 (p92_e_36 a0) (obs_cons h0 (obs_cons h1 (obs_cons h2 (obs_cons rfl (obs_cons rfl (obs_cons rfl obs_nil))))))
   ·rcases cond_inv h with ⟨h3, h⟩ | ⟨h3, h⟩
    ·obtain rfl := Option.some.inj h
     exact Reach.done ttok mix fk92 (p92_e_37 a0) (obs_cons h0 (obs_cons h1 (obs_cons h2 (obs_cons h3 (obs_cons rfl (obs_cons rfl (obs_cons rfl obs_nil)))))))
    ·rcases cond_inv h with ⟨h4, h⟩ | ⟨h4, h⟩
     ·obtain rfl := Option.some.inj h
      exact Reach.done ttok mix fk92 (p92_e_38 a0) (obs_cons h0 (obs_cons h1 (obs_cons h2 (obs_cons h3 (obs_cons h4 (obs_cons rfl (obs_cons rfl (obs_cons rfl obs_nil))))))))
     ·rcases cond_inv h with ⟨h5, h⟩ | ⟨h5, h⟩
      ·obtain rfl := Option.some.inj h
       exact Reach.done ttok mix fk92 (p92_e_39 a0) (obs_cons h0 (obs_cons h1 (obs_cons h2 (obs_cons h3 (obs_cons h4 (obs_cons h5 (obs_cons rfl (obs_cons rfl (obs_cons rfl obs_nil)))))))))
      ·rcases cond_inv h with ⟨h6, h⟩ | ⟨h6, h⟩
       ·rcases cond_inv h with ⟨h7, h⟩ | ⟨h7, h⟩
        ·rcases cond_inv h with ⟨h8, h⟩ | ⟨h8, h⟩
         ·rcases cond_inv h with ⟨h9, h⟩ | ⟨h9, h⟩
          ·obtain ⟨r1, h11, h⟩ := bind_inv h
           obtain rfl := Option.some.inj h
           exact Reach.done ttok mix fk92 (p92_e_40 a0 r1) (obs_cons h0 (obs_cons h1 (obs_cons h2 (obs_cons h3 (obs_cons h4 (obs_cons h5 (obs_cons h6 (obs_cons h7 (obs_cons h8 (obs_cons h9 (obs_cons h0 (obs_cons (xHN h11) obs_nil))))))))))))
          ·obtain rfl := Option.some.inj h
           exact Reach.done ttok mix fk92 (p92_e_41 a0) (obs_cons h0 (obs_cons h1 (obs_cons h2 (obs_cons h3 (obs_cons h4 (obs_cons h5 (obs_cons h6 (obs_cons h7 (obs_cons h8 (obs_cons h9 (obs_cons rfl obs_nil)))))))))))
         ·obtain rfl := Option.some.inj h
          exact Reach.done ttok mix fk92 (p92_e_42 a0) (obs_cons h0 (obs_cons h1 (obs_cons h2 (obs_cons h3 (obs_cons h4 (obs_cons h5 (obs_cons h6 (obs_cons h7 (obs_cons h8 (obs_cons rfl (obs_cons rfl obs_nil)))))))))))
        ·obtain rfl := Option.some.inj h
         exact Reach.done ttok mix fk92 (p92_e_43 a0) (obs_cons h0 (obs_cons h1 (obs_cons h2 (obs_cons h3 (obs_cons h4 (obs_cons h5 (obs_cons h6 (obs_cons h7 (obs_cons rfl (obs_cons rfl (obs_cons rfl obs_nil)))))))))))
       ·rcases cond_inv h with ⟨h7, h⟩ | ⟨h7, h⟩
        ·exact Reach.stop ttok mix fk92 (p92_e_44 a0) (obs_cons h0 (obs_cons h1 (obs_cons h2 (obs_cons h3 (obs_cons h4 (obs_cons h5 (obs_cons h6 (obs_cons h7 obs_nil)))))))) (c92_15 hrc_impl_IsValidValue  _ _ _ _ _ _ h)
        ·obtain rfl := Option.some.inj h
         exact Reach.done ttok mix fk92 (p92_e_45 a0) (obs_cons h0 (obs_cons h1 (obs_cons h2 (obs_cons h3 (obs_cons h4 (obs_cons h5 (obs_cons h6 (obs_cons h7 obs_nil))))))))
 ·rcases cond_inv h with ⟨h2, h⟩ | ⟨h2, h⟩
  ·obtain rfl := Option.some.inj h
   exact Reach.done ttok mix fk92 (p92_e_46 a0) (obs_cons h0 (obs_cons rfl (obs_cons h2 (obs_cons rfl (obs_cons rfl (obs_cons rfl obs_nil))))))
  ·rcases cond_inv h with ⟨h3, h⟩ | ⟨h3, h⟩
   ·obtain rfl := Option.some.inj h
    exact Reach.done ttok mix fk92 (p92_e_47 a0) (obs_cons h0 (obs_cons rfl (obs_cons h2 (obs_cons h3 (obs_cons rfl (obs_cons rfl (obs_cons rfl obs_nil)))))))
   ·rcases cond_inv h with ⟨h4, h⟩ | ⟨h4, h⟩
    ·obtain rfl := Option.some.inj h
     exact Reach.done ttok mix fk92 (p92_e_48 a0) (obs_cons h0 (obs_cons rfl (obs_cons h2 (obs_cons h3 (obs_cons h4 (obs_cons rfl (obs_cons rfl (obs_cons rfl obs_nil))))))))
    ·rcases cond_inv h with ⟨h5, h⟩ | ⟨h5, h⟩
     ·obtain rfl := Option.some.inj h
      exact Reach.done ttok mix fk92 (p92_e_49 a0) (obs_cons h0 (obs_cons rfl (obs_cons h2 (obs_cons h3 (obs_cons h4 (obs_cons h5 (obs_cons rfl (obs_cons rfl (obs_cons rfl obs_nil)))))))))
     ·rcases cond_inv h with ⟨h6, h⟩ | ⟨h6, h⟩
      ·rcases cond_inv h with ⟨h7, h⟩ | ⟨h7, h⟩
       ·rcases cond_inv h with ⟨h8, h⟩ | ⟨h8, h⟩
        ·rcases cond_inv h with ⟨h9, h⟩ | ⟨h9, h⟩
         ·obtain rfl := Option.some.inj h
          exact Reach.done ttok mix fk92 (p92_e_50 a0) (obs_cons h0 (obs_cons rfl (obs_cons h2 (obs_cons h3 (obs_cons h4 (obs_cons h5 (obs_cons h6 (obs_cons h7 (obs_cons h8 (obs_cons h9 (obs_cons h0 obs_nil)))))))))))
         ·obtain rfl := Option.some.inj h
          exact Reach.done ttok mix fk92 (p92_e_51 a0) (obs_cons h0 (obs_cons rfl (obs_cons h2 (obs_cons h3 (obs_cons h4 (obs_cons h5 (obs_cons h6 (obs_cons h7 (obs_cons h8 (obs_cons h9 (obs_cons rfl obs_nil)))))))))))
        ·obtain rfl := Option.some.inj h
         exact Reach.done ttok mix fk92 (p92_e_52 a0) (obs_cons h0 (obs_cons rfl (obs_cons h2 (obs_cons h3 (obs_cons h4 (obs_cons h5 (obs_cons h6 (obs_cons h7 (obs_cons h8 (obs_cons rfl (obs_cons rfl obs_nil)))))))))))
       ·obtain rfl := Option.some.inj h
        exact Reach.done ttok mix fk92 (p92_e_53 a0) (obs_cons h0 (obs_cons rfl (obs_cons h2 (obs_cons h3 (obs_cons h4 (obs_cons h5 (obs_cons h6 (obs_cons h7 (obs_cons rfl (obs_cons rfl (obs_cons rfl obs_nil)))))))))))
      ·rcases cond_inv h with ⟨h7, h⟩ | ⟨h7, h⟩
       ·exact Reach.stop ttok mix fk92 (p92_e_54 a0) (obs_cons h0 (obs_cons rfl (obs_cons h2 (obs_cons h3 (obs_cons h4 (obs_cons h5 (obs_cons h6 (obs_cons h7 obs_nil)))))))) (c92_15 hrc_impl_IsValidValue  _ _ _ _ _ _ h)
       ·obtain rfl := Option.some.inj h
        exact Reach.done ttok mix fk92 (p92_e_55 a0) (obs_cons h0 (obs_cons rfl (obs_cons h2 (obs_cons h3 (obs_cons h4 (obs_cons h5 (obs_cons h6 (obs_cons h7 obs_nil))))))))
theorem xHc {N : Nat} {rc_impl_IsValidValue : Val → Option (Bool)} (hrc_impl_IsValidValue : ∀ a0 r, rc_impl_IsValidValue a0 = some r → AbC 92 (xAj a0) (xAi r)) {a0 : Val} {r : Bool} (h : xCs N rc_impl_IsValidValue a0 = some r) : AbC 92 (xAj a0) (xAi r) :=
 AbsCalls.of_reach fk92 rfl rfl (Nat.le_of_ble_eq_true rfl) (c92_e hrc_impl_IsValidValue a0 r h)
theorem xHi {N : Nat} : ∀ d, (∀ a0 r, xBb N d a0 = some r → AbC 92 (xAj a0) (xAi r)) := by
 intro d
 induction d with
 | zero => intro _ r h; have h' : (none : Option (Bool)) = some r := h; cases h'
 | succ d ih => intro _ r h; exact xHc (N := N) ih h
theorem xFL {N : Nat} {a0 : Val} {r : Bool} (h : xGg N a0 = some r) : AbC 92 (xAj a0) (xAi r) := xHi N _ r h
noncomputable def I34 : Info := { body := (Try.f34.body).getD .skip, nt := 5, results := [.cell 2 31], keep := [0, 4, 5], live := [], modes := [], ext := [], lnt := [], casts := [], fcast := [] }
theorem fk34 : FnOk Try.prog 34 Try.f34 I34 := ⟨Try.func34, by kernel_rfl, by kernel_rfl, by kernel_rfl, by kernel_rfl⟩
theorem p34_e_0 (a0 : Int) : run tt (AbsCalls Try.prog) I34 3000 false [.code I34.body] ⟨(zBi 0 (xAW a0)), [], [], []⟩ = some (.done (xAB (Val.mk 6 a0 0 [] [] [] [])) []) := by kernel_rfl
theorem c34_e {N : Nat} : ∀ a0 r, xAZ N a0 = some r → Reach Try.prog Try.f34 I34 [.code I34.body] (zBi 0 (xAW a0)) (xAB r) := by
 intro a0 r h
 unfold xAZ at h
 obtain rfl := Option.some.inj h
 exact Reach.done ttok mix fk34 (p34_e_0 a0) obs_nil
theorem xBe {N : Nat} {a0 : Int} {r : Val} (h : xAZ N  a0 = some r) : AbC 34 (xAW a0) (xAB r) :=
 AbsCalls.of_reach fk34 rfl rfl (Nat.le_of_ble_eq_true rfl) (c34_e a0 r h)
theorem xHO {P : Program} {f : FuncId} {ags : List Arg} {r : Val × Bool × Bool} (h : AbsCalls P f ags (xBn r)) (ht : r.2.2 = true) : AbsCalls P f ags (xFw r) := by
 unfold xBn at h; rw [ht] at h; exact h
theorem xEo {P : Program} {f : FuncId} {ags : List Arg} {r : Val × Bool × Bool} (h : AbsCalls P f ags (xBn r)) (ht : r.2.2 = false) : AbsCalls P f ags (xBq r) := by
 unfold xBn at h; rw [ht] at h; exact h
theorem xEn {P : Program} {f : FuncId} {ags : List Arg} {r : Val × Bool × Bool} (h : AbsCalls P f ags (xBn r)) (ht : r.2.2 = true) (e0 : List.isEmpty (Val.list r.1) = true) (e1 : List.isEmpty (Val.columns r.1) = true) (e2 : List.isEmpty (Val.rows r.1) = true) : AbsCalls P f ags (xBG r) := by
 have h := xHO h ht
 unfold xFw at h; rw [List.isEmpty_iff.1 e0, List.isEmpty_iff.1 e1, List.isEmpty_iff.1 e2] at h; exact h
noncomputable def I68 : Info := { body := (Try.f68.body).getD .skip, nt := 22, results := [.cell 2 31, .tmp 3], keep := [0, 4, 6, 10, 12, 14, 16, 18, 28, 36, 5, 11], live := [(2, [4, 12, 14, 16, 5])], modes := [(8, [(1, .take, false)])], ext := [], lnt := [], casts := [], fcast := [] }
theorem fk68 : FnOk Try.prog 68 Try.f68 I68 := ⟨Try.func68, by kernel_rfl, by kernel_rfl, by kernel_rfl, by kernel_rfl⟩
def S68_2 (x6 : List Val) (x7 x8 : Int) (b2 : Val) : St := [(4, .v false [.ptr 2 0]), (12, .v false [.sl .ro .val x6]), (14, .v false [.int .i64 x7]), (16, .v false [.int .i64 x8]), (5, .v true [.int .i64 (Val.kind b2), .int .i64 (Val.n b2), .int .i64 (Val.step b2), .str (Val.text b2), .sl .own .val (Val.list b2), .sl .own .str (Val.columns b2), .sl .own .row (Val.rows b2)])]
theorem p68_2_0 (x6 : List Val) (x7 x8 : Int) (b2 : Val) (r1 : Bool) (r2 : Val) : run tt (AbsCalls Try.prog) I68 3000 true (stkAt 2 I68.body) ⟨(S68_2 x6 x7 x8 b2), [true, true], [xAi r1, xAB r2], []⟩ = some (.done (xBn (r2, true, false)) [(decide ((x8 : Int) < x7)) = true, (0 : Int) ≤ x8 ∧ x8 < (List.length x6), AbC 92 (xAj (List.getD x6 (Int.toNat x8) Ty.val.dflt)) (xAi r1), (!r1) = true, AbC 34 (xAW 4) (xAB r2)]) := by kernel_rfl
theorem p68_2_1 (x6 : List Val) (x7 x8 : Int) (b2 : Val) (r1 : Bool) : run tt (AbsCalls Try.prog) I68 3000 true (stkAt 2 I68.body) ⟨(S68_2 x6 x7 x8 b2), [true, false, true], [xAi r1], []⟩ = some (.done (xBn ((List.getD x6 (Int.toNat x8) Ty.val.dflt), true, true)) [(decide ((x8 : Int) < x7)) = true, (0 : Int) ≤ x8 ∧ x8 < (List.length x6), AbC 92 (xAj (List.getD x6 (Int.toNat x8) Ty.val.dflt)) (xAi r1), (!r1) = false, (((Val.kind (List.getD x6 (Int.toNat x8) Ty.val.dflt)) : Int) == 6) = true]) := by kernel_rfl
theorem p68_2_2 (x6 : List Val) (x7 x8 : Int) (b2 : Val) (r1 : Bool) : run tt (AbsCalls Try.prog) I68 3000 true (stkAt 2 I68.body) ⟨(S68_2 x6 x7 x8 b2), [true, false, false], [xAi r1], []⟩ = some (.stop (stkAt 2 I68.body) (S68_2 x6 x7 (IntKind.i64.wrap (x8 + 1)) b2) [(decide ((x8 : Int) < x7)) = true, (0 : Int) ≤ x8 ∧ x8 < (List.length x6), AbC 92 (xAj (List.getD x6 (Int.toNat x8) Ty.val.dflt)) (xAi r1), (!r1) = false, (((Val.kind (List.getD x6 (Int.toNat x8) Ty.val.dflt)) : Int) == 6) = false]) := by kernel_rfl
theorem p68_2_3 (x6 : List Val) (x7 x8 : Int) (b2 : Val) : run tt (AbsCalls Try.prog) I68 3000 true (stkAt 2 I68.body) ⟨(S68_2 x6 x7 x8 b2), [false], [], []⟩ = some (.done (xBn ((Val.mk 0 0 0 [] [] [] []), false, false)) [(decide ((x8 : Int) < x7)) = false]) := by kernel_rfl
theorem p68_e_4 (a0 : List Val) : run tt (AbsCalls Try.prog) I68 3000 false [.code I68.body] ⟨(zBi 0 (xBm a0)), [], [], []⟩ = some (.stop (stkAt 2 I68.body) (S68_2 a0 (List.length a0 : Int) 0 (Val.mk 0 0 0 [] [] [] [])) []) := by kernel_rfl
theorem c68_2 {N : Nat} : ∀ n x6 x7 x8 b2 r, xBO N n x6 x7 x8 b2 = some r → Reach Try.prog Try.f68 I68 (stkAt 2 I68.body) (S68_2 x6 x7 x8 b2) (xBn r) := by
 intro n
 induction n with
 | zero => intro x6 x7 x8 b2 r h; have h' : (none : Option (Val × Bool × Bool)) = some r := h; cases h'
 | succ n ih =>
  intro x6 x7 x8 b2 r h
  rw [xBO] at h
  rcases cond_inv h with ⟨h0, h⟩ | ⟨h0, h⟩
  ·obtain ⟨h1, h⟩ := ite_inv h
   obtain ⟨r1, h2, h⟩ := bind_inv h
   rcases cond_inv h with ⟨h3, h⟩ | ⟨h3, h⟩
   ·obtain ⟨r2, h4, h⟩ := bind_inv h
    obtain rfl := Option.some.inj h
    exact Reach.done ttok mix fk68 (p68_2_0 x6 x7 x8 b2 r1 r2) (obs_cons h0 (obs_cons h1 (obs_cons (xFL h2) (obs_cons h3 (obs_cons (xBe h4) obs_nil)))))
   ·rcases cond_inv h with ⟨h4, h⟩ | ⟨h4, h⟩
    ·obtain rfl := Option.some.inj h
     exact Reach.done ttok mix fk68 (p68_2_1 x6 x7 x8 b2 r1) (obs_cons h0 (obs_cons h1 (obs_cons (xFL h2) (obs_cons h3 (obs_cons h4 obs_nil)))))
    ·exact Reach.stop ttok mix fk68 (p68_2_2 x6 x7 x8 b2 r1) (obs_cons h0 (obs_cons h1 (obs_cons (xFL h2) (obs_cons h3 (obs_cons h4 obs_nil))))) (ih _ _ _ _ _ h)
  ·obtain rfl := Option.some.inj h
   exact Reach.done ttok mix fk68 (p68_2_3 x6 x7 x8 b2) (obs_cons h0 obs_nil)
theorem c68_e {N : Nat} : ∀ a0 r, xEI N a0 = some r → Reach Try.prog Try.f68 I68 [.code I68.body] (zBi 0 (xBm a0)) (xBn r) := by
 intro a0 r h
 unfold xEI at h
 exact Reach.stop ttok mix fk68 (p68_e_4 a0) obs_nil (c68_2   _ _ _ _ _ _ h)
theorem xCc {N : Nat} {a0 : List Val} {r : Val × Bool × Bool} (h : xEI N  a0 = some r) : AbC 68 (xBm a0) (xBn r) :=
 AbsCalls.of_reach fk68 rfl rfl (Nat.le_of_ble_eq_true rfl) (c68_e a0 r h)
theorem xBN {P : Program} {f : FuncId} {ags : List Arg} {r : Val × Bool × Bool} (h : AbsCalls P f ags (xAX r)) (ht : r.2.2 = true) : AbsCalls P f ags (xAJ r) := by
 unfold xAX at h; rw [ht] at h; exact h
theorem xBy {P : Program} {f : FuncId} {ags : List Arg} {r : Val × Bool × Bool} (h : AbsCalls P f ags (xAX r)) (ht : r.2.2 = false) : AbsCalls P f ags (xAE r) := by
 unfold xAX at h; rw [ht] at h; exact h
noncomputable def I33 : Info := { body := (Try.f33.body).getD .skip, nt := 31, results := [.cell 4 31, .tmp 5], keep := [0, 2, 4, 6, 8, 10, 12, 14, 30, 5, 7, 9, 13], live := [], modes := [(1, [(3, .take, true), (4, .take, false)]), (2, [(0, .take, false)]), (3, [(0, .take, false)]), (4, [(4, .take, false), (8, .take, false)])], ext := [], lnt := [], casts := [], fcast := [] }
theorem fk33 : FnOk Try.prog 33 Try.f33 I33 := ⟨Try.func33, by kernel_rfl, by kernel_rfl, by kernel_rfl, by kernel_rfl⟩
theorem p33_e_0 (a0 a1 : Val) (r1 : Val × Bool × Bool) : run tt (AbsCalls Try.prog) I33 3000 false [.code I33.body] ⟨(zBi 0 (xAz a0 a1)), [true], [xBG r1], []⟩ = some (.done (xAX ((Val.mk (Val.kind r1.1) (Val.n r1.1) (Val.step r1.1) (Val.text r1.1) [] [] []), true, true)) [AbC 68 (xBm [(Val.re a0), (Val.re a1)]) (xBG r1), r1.2.1 = true]) := by kernel_rfl
theorem p33_e_1 (a0 a1 : Val) (r1 : Val × Bool × Bool) (r2 : Val) : run tt (AbsCalls Try.prog) I33 3000 false [.code I33.body] ⟨(zBi 0 (xAz a0 a1)), [false, true], [xBG r1, xAB r2], []⟩ = some (.done (xAX (r2, true, false)) [AbC 68 (xBm [(Val.re a0), (Val.re a1)]) (xBG r1), r1.2.1 = false, AbC 34 (xAW 4) (xAB r2), (((Val.kind a0) : Int) != 1) = true]) := by kernel_rfl
theorem p33_e_2 (a0 a1 : Val) (r1 : Val × Bool × Bool) (r2 : Val) : run tt (AbsCalls Try.prog) I33 3000 false [.code I33.body] ⟨(zBi 0 (xAz a0 a1)), [false, false, true], [xBG r1, xAB r2], []⟩ = some (.done (xAX (r2, (((Val.kind a1) : Int) != 4), false)) [AbC 68 (xBm [(Val.re a0), (Val.re a1)]) (xBG r1), r1.2.1 = false, AbC 34 (xAW 4) (xAB r2), (((Val.kind a0) : Int) != 1) = false, (((Val.kind a1) : Int) != 3) = true]) := by kernel_rfl
theorem p33_e_3 (a0 a1 : Val) (r1 : Val × Bool × Bool) (r2 : Val) : run tt (AbsCalls Try.prog) I33 3000 false [.code I33.body] ⟨(zBi 0 (xAz a0 a1)), [false, false, false], [xBG r1, xAB r2], []⟩ = some (.done (xAX (r2, false, false)) [AbC 68 (xBm [(Val.re a0), (Val.re a1)]) (xBG r1), r1.2.1 = false, AbC 34 (xAW 4) (xAB r2), (((Val.kind a0) : Int) != 1) = false, (((Val.kind a1) : Int) != 3) = false]) := by kernel_rfl
theorem p33_e_4 (a0 a1 : Val) (r1 : Val × Bool × Bool) : run tt (AbsCalls Try.prog) I33 3000 false [.code I33.body] ⟨(zBi 0 (xAz a0 a1)), [true], [xBq r1], []⟩ = some (.done (xAX (r1.1, true, false)) [AbC 68 (xBm [(Val.re a0), (Val.re a1)]) (xBq r1), r1.2.1 = true]) := by kernel_rfl
theorem p33_e_5 (a0 a1 : Val) (r1 : Val × Bool × Bool) (r2 : Val) : run tt (AbsCalls Try.prog) I33 3000 false [.code I33.body] ⟨(zBi 0 (xAz a0 a1)), [false, true], [xBq r1, xAB r2], []⟩ = some (.done (xAX (r2, true, false)) [AbC 68 (xBm [(Val.re a0), (Val.re a1)]) (xBq r1), r1.2.1 = false, AbC 34 (xAW 4) (xAB r2), (((Val.kind a0) : Int) != 1) = true]) := by kernel_rfl
theorem p33_e_6 (a0 a1 : Val) (r1 : Val × Bool × Bool) (r2 : Val) : run tt (AbsCalls Try.prog) I33 3000 false [.code I33.body] ⟨(zBi 0 (xAz a0 a1)), [false, false, true], [xBq r1, xAB r2], []⟩ = some (.done (xAX (r2, (((Val.kind a1) : Int) != 4), false)) [AbC 68 (xBm [(Val.re a0), (Val.re a1)]) (xBq r1), r1.2.1 = false, AbC 34 (xAW 4) (xAB r2), (((Val.kind a0) : Int) != 1) = false, (((Val.kind a1) : Int) != 3) = true]) := by kernel_rfl
theorem p33_e_7 (a0 a1 : Val) (r1 : Val × Bool × Bool) (r2 : Val) : run tt (AbsCalls Try.prog) I33 3000 false [.code I33.body] ⟨(zBi 0 (xAz a0 a1)), [false, false, false], [xBq r1, xAB r2], []⟩ = some (.done (xAX (r2, false, false)) [AbC 68 (xBm [(Val.re a0), (Val.re a1)]) (xBq r1), r1.2.1 = false, AbC 34 (xAW 4) (xAB r2), (((Val.kind a0) : Int) != 1) = false, (((Val.kind a1) : Int) != 3) = false]) := by kernel_rfl
theorem c33_e {N : Nat} : ∀ a0 a1 r, xCZ N a0 a1 = some r → Reach Try.prog Try.f33 I33 [.code I33.body] (zBi 0 (xAz a0 a1)) (xAX r) := by
 intro a0 a1 r h
 unfold xCZ at h
 obtain ⟨r1, h0, h⟩ := bind_inv h
 rcases cond_inv h with ⟨h1, h⟩ | ⟨h1, h⟩
 ·obtain ⟨h2, h⟩ := ite_inv h
  obtain ⟨h3, h⟩ := ite_inv h
  obtain ⟨h4, h⟩ := ite_inv h
  rcases cond_inv h with ⟨h5, h⟩ | ⟨h5, h⟩
  ·obtain rfl := Option.some.inj h
   exact Reach.done ttok mix fk33 (p33_e_0 a0 a1 r1) (obs_cons (xEn (xCc h0) h1 h2 h3 h4) (obs_cons h5 obs_nil))
  ·obtain ⟨r2, h6, h⟩ := bind_inv h
   rcases cond_inv h with ⟨h7, h⟩ | ⟨h7, h⟩
   ·obtain rfl := Option.some.inj h
    exact Reach.done ttok mix fk33 (p33_e_1 a0 a1 r1 r2) (obs_cons (xEn (xCc h0) h1 h2 h3 h4) (obs_cons h5 (obs_cons (xBe h6) (obs_cons h7 obs_nil))))
   ·rcases cond_inv h with ⟨h8, h⟩ | ⟨h8, h⟩
    ·obtain rfl := Option.some.inj h
     exact Reach.done ttok mix fk33 (p33_e_2 a0 a1 r1 r2) (obs_cons (xEn (xCc h0) h1 h2 h3 h4) (obs_cons h5 (obs_cons (xBe h6) (obs_cons h7 (obs_cons h8 obs_nil)))))
    ·obtain rfl := Option.some.inj h
     exact Reach.done ttok mix fk33 (p33_e_3 a0 a1 r1 r2) (obs_cons (xEn (xCc h0) h1 h2 h3 h4) (obs_cons h5 (obs_cons (xBe h6) (obs_cons h7 (obs_cons h8 obs_nil)))))
 ·rcases cond_inv h with ⟨h2, h⟩ | ⟨h2, h⟩
  ·obtain rfl := Option.some.inj h
   exact Reach.done ttok mix fk33 (p33_e_4 a0 a1 r1) (obs_cons (xEo (xCc h0) h1) (obs_cons h2 obs_nil))
  ·obtain ⟨r2, h3, h⟩ := bind_inv h
   rcases cond_inv h with ⟨h4, h⟩ | ⟨h4, h⟩
   ·obtain rfl := Option.some.inj h
    exact Reach.done ttok mix fk33 (p33_e_5 a0 a1 r1 r2) (obs_cons (xEo (xCc h0) h1) (obs_cons h2 (obs_cons (xBe h3) (obs_cons h4 obs_nil))))
   ·rcases cond_inv h with ⟨h5, h⟩ | ⟨h5, h⟩
    ·obtain rfl := Option.some.inj h
     exact Reach.done ttok mix fk33 (p33_e_6 a0 a1 r1 r2) (obs_cons (xEo (xCc h0) h1) (obs_cons h2 (obs_cons (xBe h3) (obs_cons h4 (obs_cons h5 obs_nil)))))
    ·obtain rfl := Option.some.inj h
     exact Reach.done ttok mix fk33 (p33_e_7 a0 a1 r1 r2) (obs_cons (xEo (xCc h0) h1) (obs_cons h2 (obs_cons (xBe h3) (obs_cons h4 (obs_cons h5 obs_nil)))))
theorem xAL {N : Nat} {a0 : Val} {a1 : Val} {r : Val × Bool × Bool} (h : xCZ N  a0 a1 = some r) : AbC 33 (xAz a0 a1) (xAX r) :=
 AbsCalls.of_reach fk33 rfl rfl (Nat.le_of_ble_eq_true rfl) (c33_e a0 a1 r h)
noncomputable def I76 : Info := { body := (Try.f76.body).getD .skip, nt := 12, results := [.cell 2 62], keep := [0, 2, 4, 3, 5], live := [], modes := [], ext := [], lnt := [], casts := [], fcast := [] }
theorem fk76 : FnOk Try.prog 76 Try.f76 I76 := ⟨Try.func76, by kernel_rfl, by kernel_rfl, by kernel_rfl, by kernel_rfl⟩
theorem p76_e_0 (a0 : Rowd) : run tt (AbsCalls Try.prog) I76 3000 false [.code I76.body] ⟨(zBi 0 (xF6 a0)), [], [], []⟩ = some (.done (xFu (Rowd.mk ([] ++ (Rowd.cells a0)) ([] ++ (Rowd.frm a0)))) [0 + List.length (Rowd.cells a0) ≤ Lim, 0 + List.length (Rowd.frm a0) ≤ Lim]) := by kernel_rfl
theorem c76_e {N : Nat} : ∀ a0 r, xGC N a0 = some r → Reach Try.prog Try.f76 I76 [.code I76.body] (zBi 0 (xF6 a0)) (xFu r) := by
 intro a0 r h
 unfold xGC at h
 obtain ⟨h0, h⟩ := ite_inv h
 obtain ⟨h1, h⟩ := ite_inv h
 obtain rfl := Option.some.inj h
 exact Reach.done ttok mix fk76 (p76_e_0 a0) (obs_cons h0 (obs_cons h1 obs_nil))
theorem impl_copyRow_ok {N : Nat} {a0 : Rowd} {r : Rowd} (h : xGC N  a0 = some r) : AbC 76 (xF6 a0) (xFu r) :=
 AbsCalls.of_reach fk76 rfl rfl (Nat.le_of_ble_eq_true rfl) (c76_e a0 r h)
noncomputable def I35 : Info := { body := (Try.f35.body).getD .skip, nt := 33, results := [.cell 2 31], keep := [0, 2, 4, 6, 10, 36, 38, 40, 42, 3, 5, 7, 11], live := [(6, [4, 6, 36, 38, 40, 5, 7])], modes := [(8, [(1, .take, false), (5, .take, false)]), (9, [(1, .take, false)]), (10, [(0, .take, false)])], ext := [], lnt := [], casts := [], fcast := [] }
theorem fk35 : FnOk Try.prog 35 Try.f35 I35 := ⟨Try.func35, by kernel_rfl, by kernel_rfl, by kernel_rfl, by kernel_rfl⟩
def S35_6 (x18 : List Rowd) (x19 x20 : Int) (b2 b3 : Val) : St := [(4, .v false [.ptr 2 0]), (6, .v false [.ptr 3 0]), (36, .v false [.sl .ro .row x18]), (38, .v false [.int .i64 x19]), (40, .v false [.int .i64 x20]), (5, .v true [.int .i64 (Val.kind b2), .int .i64 (Val.n b2), .int .i64 (Val.step b2), .str (Val.text b2), .sl .own .val (Val.list b2), .sl .own .str (Val.columns b2), .sl .own .row (Val.rows b2)]), (7, .v true [.int .i64 (Val.kind b3), .int .i64 (Val.n b3), .int .i64 (Val.step b3), .str (Val.text b3), .sl .own .val (Val.list b3), .sl .own .str (Val.columns b3), .sl .own .row (Val.rows b3)])]
theorem p35_6_0 (x18 : List Rowd) (x19 x20 : Int) (b2 b3 : Val) (r1 : Rowd) : run tt (AbsCalls Try.prog) I35 3000 true (stkAt 6 I35.body) ⟨(S35_6 x18 x19 x20 b2 b3), [true], [xFu r1], []⟩ = some (.stop (stkAt 6 I35.body) (S35_6 x18 x19 (IntKind.i64.wrap (x20 + 1)) b2 (Val.mk (Val.kind b3) (Val.n b3) (Val.step b3) (Val.text b3) (Val.list b3) (Val.columns b3) ((Val.rows b3) ++ [r1]))) [(decide ((x20 : Int) < x19)) = true, (0 : Int) ≤ x20 ∧ x20 < (List.length x18), AbC 76 (xF6 (List.getD x18 (Int.toNat x20) Ty.row.dflt)) (xFu r1), List.length (Val.rows b3) + List.length [r1] ≤ Lim]) := by kernel_rfl
theorem p35_6_1 (x18 : List Rowd) (x19 x20 : Int) (b2 b3 : Val) : run tt (AbsCalls Try.prog) I35 3000 true (stkAt 6 I35.body) ⟨(S35_6 x18 x19 x20 b2 b3), [false], [], []⟩ = some (.done (xAY b3) [(decide ((x20 : Int) < x19)) = false]) := by kernel_rfl
theorem p35_e_2 (a0 : Val) (r1 : (List Val)) : run tt (AbsCalls Try.prog) I35 3000 false [.code I35.body] ⟨(zBi 0 (xBi a0)), [], [xA3 r1], []⟩ = some (.stop (stkAt 6 I35.body) (S35_6 (Val.rows a0) (List.length (Val.rows a0) : Int) 0 (Val.mk 0 0 0 [] [] [] []) (Val.mk (Val.kind a0) (Val.n a0) (Val.step a0) (Val.text a0) r1 ([] ++ (Val.columns a0)) [])) [AbC 70 (xBj (Val.list a0)) (xA3 r1), 0 + List.length (Val.columns a0) ≤ Lim]) := by kernel_rfl
theorem c35_6 {N : Nat} {rc_impl_copyValue : Val → Option (Val)} (hrc_impl_copyValue : ∀ a0 r, rc_impl_copyValue a0 = some r → AbC 35 (xBi a0) (xAY r)) {rc_impl_copyValues : (List Val) → Option ((List Val))} (hrc_impl_copyValues : ∀ a0 r, rc_impl_copyValues a0 = some r → AbC 70 (xBj a0) (xA3 r)) : ∀ n x18 x19 x20 b2 b3 r, xCK N rc_impl_copyValue rc_impl_copyValues n x18 x19 x20 b2 b3 = some r → Reach Try.prog Try.f35 I35 (stkAt 6 I35.body) (S35_6 x18 x19 x20 b2 b3) (xAY r) := by
 intro n
 induction n with
 | zero => intro x18 x19 x20 b2 b3 r h; have h' : (none : Option (Val)) = some r := h; cases h'
 | succ n ih =>
  intro x18 x19 x20 b2 b3 r h
  rw [xCK] at h
  rcases cond_inv h with ⟨h0, h⟩ | ⟨h0, h⟩
  ·obtain ⟨h1, h⟩ := ite_inv h
   obtain ⟨r1, h2, h⟩ := bind_inv h
   obtain ⟨h3, h⟩ := ite_inv h
   exact Reach.stop ttok mix fk35 (p35_6_0 x18 x19 x20 b2 b3 r1) (obs_cons h0 (obs_cons h1 (obs_cons (impl_copyRow_ok h2) (obs_cons h3 obs_nil)))) (ih _ _ _ _ _ _ h)
  ·obtain rfl := Option.some.inj h
   exact Reach.done ttok mix fk35 (p35_6_1 x18 x19 x20 b2 b3) (obs_cons h0 obs_nil)
theorem c35_e {N : Nat} {rc_impl_copyValue : Val → Option (Val)} (hrc_impl_copyValue : ∀ a0 r, rc_impl_copyValue a0 = some r → AbC 35 (xBi a0) (xAY r)) {rc_impl_copyValues : (List Val) → Option ((List Val))} (hrc_impl_copyValues : ∀ a0 r, rc_impl_copyValues a0 = some r → AbC 70 (xBj a0) (xA3 r)) : ∀ a0 r, xDe N rc_impl_copyValue rc_impl_copyValues a0 = some r → Reach Try.prog Try.f35 I35 [.code I35.body] (zBi 0 (xBi a0)) (xAY r) := by
 intro a0 r h
 unfold xDe at h
 obtain ⟨r1, h0, h⟩ := bind_inv h
 obtain ⟨h1, h⟩ := ite_inv h
 exact Reach.stop ttok mix fk35 (p35_e_2 a0 r1) (obs_cons (hrc_impl_copyValues _ _ h0) (obs_cons h1 obs_nil)) (c35_6 hrc_impl_copyValue hrc_impl_copyValues  _ _ _ _ _ _ _ h)
theorem xHG {N : Nat} {rc_impl_copyValue : Val → Option (Val)} (hrc_impl_copyValue : ∀ a0 r, rc_impl_copyValue a0 = some r → AbC 35 (xBi a0) (xAY r)) {rc_impl_copyValues : (List Val) → Option ((List Val))} (hrc_impl_copyValues : ∀ a0 r, rc_impl_copyValues a0 = some r → AbC 70 (xBj a0) (xA3 r)) {a0 : Val} {r : Val} (h : xDe N rc_impl_copyValue rc_impl_copyValues a0 = some r) : AbC 35 (xBi a0) (xAY r) :=
 AbsCalls.of_reach fk35 rfl rfl (Nat.le_of_ble_eq_true rfl) (c35_e hrc_impl_copyValue hrc_impl_copyValues a0 r h)
noncomputable def I70 : Info := { body := (Try.f70.body).getD .skip, nt := 20, results := [.tmp 2], keep := [0, 4, 6, 10, 14, 16, 18, 20, 11], live := [(3, [6, 14, 16, 18])], modes := [(5, [(0, .take, false), (4, .take, false)]), (6, [(1, .take, false)]), (7, [(0, .take, false)])], ext := [], lnt := [], casts := [], fcast := [] }
theorem fk70 : FnOk Try.prog 70 Try.f70 I70 := ⟨Try.func70, by kernel_rfl, by kernel_rfl, by kernel_rfl, by kernel_rfl⟩
def S70_3 (x3 x7 : List Val) (x8 x9 : Int) : St := [(6, .v false [.sl .own .val x3]), (14, .v false [.sl .ro .val x7]), (16, .v false [.int .i64 x8]), (18, .v false [.int .i64 x9])]
theorem p70_3_0 (x3 x7 : List Val) (x8 x9 : Int) (r1 : Val) : run tt (AbsCalls Try.prog) I70 3000 true (stkAt 3 I70.body) ⟨(S70_3 x3 x7 x8 x9), [true], [xAY r1], []⟩ = some (.stop (stkAt 3 I70.body) (S70_3 (x3 ++ [(Val.re r1)]) x7 x8 (IntKind.i64.wrap (x9 + 1))) [(decide ((x9 : Int) < x8)) = true, (0 : Int) ≤ x9 ∧ x9 < (List.length x7), AbC 35 (xBi (List.getD x7 (Int.toNat x9) Ty.val.dflt)) (xAY r1), List.length x3 + List.length [(Val.re r1)] ≤ Lim]) := by kernel_rfl
theorem p70_3_1 (x3 x7 : List Val) (x8 x9 : Int) : run tt (AbsCalls Try.prog) I70 3000 true (stkAt 3 I70.body) ⟨(S70_3 x3 x7 x8 x9), [false], [], []⟩ = some (.done (xA3 x3) [(decide ((x9 : Int) < x8)) = false]) := by kernel_rfl
theorem p70_e_2 (a0 : List Val) : run tt (AbsCalls Try.prog) I70 3000 false [.code I70.body] ⟨(zBi 0 (xBj a0)), [], [], []⟩ = some (.stop (stkAt 3 I70.body) (S70_3 [] a0 (List.length a0 : Int) 0) []) := by kernel_rfl
theorem c70_3 {N : Nat} {rc_impl_copyValue : Val → Option (Val)} (hrc_impl_copyValue : ∀ a0 r, rc_impl_copyValue a0 = some r → AbC 35 (xBi a0) (xAY r)) {rc_impl_copyValues : (List Val) → Option ((List Val))} (hrc_impl_copyValues : ∀ a0 r, rc_impl_copyValues a0 = some r → AbC 70 (xBj a0) (xA3 r)) : ∀ n x3 x7 x8 x9 r, xCY N rc_impl_copyValue rc_impl_copyValues n x3 x7 x8 x9 = some r → Reach Try.prog Try.f70 I70 (stkAt 3 I70.body) (S70_3 x3 x7 x8 x9) (xA3 r) := by
 intro n
 induction n with
 | zero => intro x3 x7 x8 x9 r h; have h' : (none : Option ((List Val))) = some r := h; cases h'
 | succ n ih =>
  intro x3 x7 x8 x9 r h
  rw [xCY] at h
  rcases cond_inv h with ⟨h0, h⟩ | ⟨h0, h⟩
  ·obtain ⟨h1, h⟩ := ite_inv h
   obtain ⟨r1, h2, h⟩ := bind_inv h
   obtain ⟨h3, h⟩ := ite_inv h
   exact Reach.stop ttok mix fk70 (p70_3_0 x3 x7 x8 x9 r1) (obs_cons h0 (obs_cons h1 (obs_cons (hrc_impl_copyValue _ _ h2) (obs_cons h3 obs_nil)))) (ih _ _ _ _ _ h)
  ·obtain rfl := Option.some.inj h
   exact Reach.done ttok mix fk70 (p70_3_1 x3 x7 x8 x9) (obs_cons h0 obs_nil)
theorem c70_e {N : Nat} {rc_impl_copyValue : Val → Option (Val)} (hrc_impl_copyValue : ∀ a0 r, rc_impl_copyValue a0 = some r → AbC 35 (xBi a0) (xAY r)) {rc_impl_copyValues : (List Val) → Option ((List Val))} (hrc_impl_copyValues : ∀ a0 r, rc_impl_copyValues a0 = some r → AbC 70 (xBj a0) (xA3 r)) : ∀ a0 r, xC4 N rc_impl_copyValue rc_impl_copyValues a0 = some r → Reach Try.prog Try.f70 I70 [.code I70.body] (zBi 0 (xBj a0)) (xA3 r) := by
 intro a0 r h
 unfold xC4 at h
 exact Reach.stop ttok mix fk70 (p70_e_2 a0) obs_nil (c70_3 hrc_impl_copyValue hrc_impl_copyValues  _ _ _ _ _ _ h)
theorem xHu {N : Nat} {rc_impl_copyValue : Val → Option (Val)} (hrc_impl_copyValue : ∀ a0 r, rc_impl_copyValue a0 = some r → AbC 35 (xBi a0) (xAY r)) {rc_impl_copyValues : (List Val) → Option ((List Val))} (hrc_impl_copyValues : ∀ a0 r, rc_impl_copyValues a0 = some r → AbC 70 (xBj a0) (xA3 r)) {a0 : List Val} {r : (List Val)} (h : xC4 N rc_impl_copyValue rc_impl_copyValues a0 = some r) : AbC 70 (xBj a0) (xA3 r) :=
 AbsCalls.of_reach fk70 rfl rfl (Nat.le_of_ble_eq_true rfl) (c70_e hrc_impl_copyValue hrc_impl_copyValues a0 r h)
theorem xGD {N : Nat} : ∀ d, (∀ a0 r, (xAM N d).c_impl_copyValue a0 = some r → AbC 35 (xBi a0) (xAY r)) ∧ (∀ a0 r, (xAM N d).c_impl_copyValues a0 = some r → AbC 70 (xBj a0) (xA3 r)) := by
 intro d
 induction d with
 | zero =>
  refine ⟨?_, ?_⟩ <;> (intros; rename_i h; cases h)
 | succ d ih =>
  obtain ⟨ih0, ih1⟩ := ih
  refine ⟨?_, ?_⟩
  ·intro _ r h; exact xHG (N := N) ih0 ih1 h
  ·intro _ r h; exact xHu (N := N) ih0 ih1 h
theorem xHk {N : Nat} {a0 : Val} {r : Val} (h : xGv N a0 = some r) : AbC 35 (xBi a0) (xAY r) := (xGD N).1 _ r h
theorem impl_copyValues_ok {N : Nat} {a0 : List Val} {r : (List Val)} (h : xGV N a0 = some r) : AbC 70 (xBj a0) (xA3 r) := (xGD N).2 _ r h
noncomputable def I58 : Info := { body := (Try.f58.body).getD .skip, nt := 5, results := [.cell 2 31], keep := [0, 4, 5], live := [], modes := [], ext := [], lnt := [], casts := [], fcast := [] }
theorem fk58 : FnOk Try.prog 58 Try.f58 I58 := ⟨Try.func58, by kernel_rfl, by kernel_rfl, by kernel_rfl, by kernel_rfl⟩
theorem p58_e_0 (a0 : Int) : run tt (AbsCalls Try.prog) I58 3000 false [.code I58.body] ⟨(zBi 0 (xCD a0)), [], [], []⟩ = some (.done (xBw (Val.mk 1 a0 0 [] [] [] [])) []) := by kernel_rfl
theorem c58_e {N : Nat} : ∀ a0 r, xDE N a0 = some r → Reach Try.prog Try.f58 I58 [.code I58.body] (zBi 0 (xCD a0)) (xBw r) := by
 intro a0 r h
 unfold xDE at h
 obtain rfl := Option.some.inj h
 exact Reach.done ttok mix fk58 (p58_e_0 a0) obs_nil
theorem xET {N : Nat} {a0 : Int} {r : Val} (h : xDE N  a0 = some r) : AbC 58 (xCD a0) (xBw r) :=
 AbsCalls.of_reach fk58 rfl rfl (Nat.le_of_ble_eq_true rfl) (c58_e a0 r h)
noncomputable def I36 : Info := { body := (Try.f36.body).getD .skip, nt := 9, results := [.cell 2 31], keep := [0, 4, 10, 5], live := [], modes := [], ext := [], lnt := [], casts := [], fcast := [] }
theorem fk36 : FnOk Try.prog 36 Try.f36 I36 := ⟨Try.func36, by kernel_rfl, by kernel_rfl, by kernel_rfl, by kernel_rfl⟩
theorem p36_e_0 (a0 : Int) (r1 : Bool) (r2 : Val) : run tt (AbsCalls Try.prog) I36 3000 false [.code I36.body] ⟨(zBi 0 (xCJ a0)), [true], [xA1 r1, xAB r2], []⟩ = some (.done (xBY r2) [AbC 53 (xB7 a0) (xA1 r1), (!r1) = true, AbC 34 (xAW 5) (xAB r2)]) := by kernel_rfl
theorem p36_e_1 (a0 : Int) (r1 : Bool) (r2 : Val) : run tt (AbsCalls Try.prog) I36 3000 false [.code I36.body] ⟨(zBi 0 (xCJ a0)), [false], [xA1 r1, xBw r2], []⟩ = some (.done (xBY r2) [AbC 53 (xB7 a0) (xA1 r1), (!r1) = false, AbC 58 (xCD a0) (xBw r2)]) := by kernel_rfl
theorem c36_e {N : Nat} : ∀ a0 r, xCV N a0 = some r → Reach Try.prog Try.f36 I36 [.code I36.body] (zBi 0 (xCJ a0)) (xBY r) := by
 intro a0 r h
 unfold xCV at h
 obtain ⟨r1, h0, h⟩ := bind_inv h
 rcases cond_inv h with ⟨h1, h⟩ | ⟨h1, h⟩
 ·obtain ⟨r2, h2, h⟩ := bind_inv h
  obtain rfl := Option.some.inj h
  exact Reach.done ttok mix fk36 (p36_e_0 a0 r1 r2) (obs_cons (xC6 h0) (obs_cons h1 (obs_cons (xBe h2) obs_nil)))
 ·obtain ⟨r2, h2, h⟩ := bind_inv h
  obtain rfl := Option.some.inj h
  exact Reach.done ttok mix fk36 (p36_e_1 a0 r1 r2) (obs_cons (xC6 h0) (obs_cons h1 (obs_cons (xET h2) obs_nil)))
theorem xGz {N : Nat} {a0 : Int} {r : Val} (h : xCV N  a0 = some r) : AbC 36 (xCJ a0) (xBY r) :=
 AbsCalls.of_reach fk36 rfl rfl (Nat.le_of_ble_eq_true rfl) (c36_e a0 r h)
theorem impl_NthOf_toR {P : Program} {f : FuncId} {ags : List Arg} {r : Val × Bool} (h : AbsCalls P f ags (xBF r)) (ht : r.2 = true) : AbsCalls P f ags (xHe r) := by
 unfold xBF at h; rw [ht] at h; exact h
theorem xH5 {P : Program} {f : FuncId} {ags : List Arg} {r : Val × Bool} (h : AbsCalls P f ags (xBF r)) (ht : r.2 = false) : AbsCalls P f ags (xFc r) := by
 unfold xBF at h; rw [ht] at h; exact h
theorem impl_NthOf_toE {P : Program} {f : FuncId} {ags : List Arg} {r : Val × Bool} (h : AbsCalls P f ags (xBF r)) (ht : r.2 = true) (e0 : List.isEmpty (Val.list r.1) = true) (e1 : List.isEmpty (Val.columns r.1) = true) (e2 : List.isEmpty (Val.rows r.1) = true) : AbsCalls P f ags (xHd r) := by
 have h := impl_NthOf_toR h ht
 unfold xHe at h; rw [List.isEmpty_iff.1 e0, List.isEmpty_iff.1 e1, List.isEmpty_iff.1 e2] at h; exact h
noncomputable def I11 : Info := { body := (Try.f11.body).getD .skip, nt := 53, results := [.cell 4 31], keep := [0, 2, 4, 6, 8, 10, 12, 26, 30, 66, 5, 7, 9, 11], live := [], modes := [(1, [(3, .take, false)]), (2, [(0, .take, false)]), (3, [(0, .take, false)]), (4, [(3, .take, false), (7, .take, false)])], ext := [], lnt := [], casts := [], fcast := [] }
theorem fk11 : FnOk Try.prog 11 Try.f11 I11 := ⟨Try.func11, by kernel_rfl, by kernel_rfl, by kernel_rfl, by kernel_rfl⟩
theorem p11_e_0 (a0 a1 : Val) (r1 : Val × Bool × Bool) : run tt (AbsCalls Try.prog) I11 3000 false [.code I11.body] ⟨(zBi 0 (xB0 a0 a1)), [true], [xAJ r1], []⟩ = some (.done (xBF (r1.1, true)) [AbC 33 (xAz a0 a1) (xAJ r1), r1.2.1 = true]) := by kernel_rfl
theorem p11_e_1 (a0 a1 : Val) (r1 : Val × Bool × Bool) (r2 : Val) : run tt (AbsCalls Try.prog) I11 3000 false [.code I11.body] ⟨(zBi 0 (xB0 a0 a1)), [false, true, true], [xAJ r1, xAB r2], []⟩ = some (.done (xBF (r2, false)) [AbC 33 (xAz a0 a1) (xAJ r1), r1.2.1 = false, (decide (((Val.n a0) : Int) < 0)) = true, true = true, AbC 34 (xAW 5) (xAB r2)]) := by kernel_rfl
theorem p11_e_2 (a0 a1 : Val) (r1 : Val × Bool × Bool) (r2 : Val) : run tt (AbsCalls Try.prog) I11 3000 false [.code I11.body] ⟨(zBi 0 (xB0 a0 a1)), [false, false, true, true], [xAJ r1, xAB r2], []⟩ = some (.done (xBF (r2, false)) [AbC 33 (xAz a0 a1) (xAJ r1), r1.2.1 = false, (decide (((Val.n a0) : Int) < 0)) = false, (((Val.kind a1) : Int) == 3) = true, (decide (((Val.n a0) : Int) ≥ (List.length (Val.list a1) : Int))) = true, AbC 34 (xAW 5) (xAB r2)]) := by kernel_rfl
theorem p11_e_3 (a0 a1 : Val) (r1 : Val × Bool × Bool) (r2 : Val) : run tt (AbsCalls Try.prog) I11 3000 false [.code I11.body] ⟨(zBi 0 (xB0 a0 a1)), [false, false, true, false, true], [xAJ r1, xAY r2], []⟩ = some (.done (xBF (r2, false)) [AbC 33 (xAz a0 a1) (xAJ r1), r1.2.1 = false, (decide (((Val.n a0) : Int) < 0)) = false, (((Val.kind a1) : Int) == 3) = true, (decide (((Val.n a0) : Int) ≥ (List.length (Val.list a1) : Int))) = false, (((Val.kind a1) : Int) == 3) = true, (0 : Int) ≤ (Val.n a0) ∧ (Val.n a0) < (List.length (Val.list a1)), AbC 35 (xBi (List.getD (Val.list a1) (Int.toNat (Val.n a0)) Ty.val.dflt)) (xAY r2)]) := by kernel_rfl
theorem p11_e_4 (a0 a1 : Val) (r1 : Val × Bool × Bool) (r2 : Val) : run tt (AbsCalls Try.prog) I11 3000 false [.code I11.body] ⟨(zBi 0 (xB0 a0 a1)), [false, false, false, false, false], [xAJ r1, xBY r2], []⟩ = some (.done (xBF (r2, false)) [AbC 33 (xAz a0 a1) (xAJ r1), r1.2.1 = false, (decide (((Val.n a0) : Int) < 0)) = false, (((Val.kind a1) : Int) == 3) = false, false = false, (((Val.kind a1) : Int) == 3) = false, AbC 36 (xCJ (IntKind.i64.wrap ((Val.n a1) + (IntKind.i64.wrap ((Val.n a0) * (Val.step a1)))))) (xBY r2)]) := by kernel_rfl
theorem p11_e_5 (a0 a1 : Val) (r1 : Val × Bool × Bool) : run tt (AbsCalls Try.prog) I11 3000 false [.code I11.body] ⟨(zBi 0 (xB0 a0 a1)), [true], [xAE r1], []⟩ = some (.done (xBF (r1.1, false)) [AbC 33 (xAz a0 a1) (xAE r1), r1.2.1 = true]) := by kernel_rfl
theorem p11_e_6 (a0 a1 : Val) (r1 : Val × Bool × Bool) (r2 : Val) : run tt (AbsCalls Try.prog) I11 3000 false [.code I11.body] ⟨(zBi 0 (xB0 a0 a1)), [false, true, true], [xAE r1, xAB r2], []⟩ = some (.done (xBF (r2, false)) [AbC 33 (xAz a0 a1) (xAE r1), r1.2.1 = false, (decide (((Val.n a0) : Int) < 0)) = true, true = true, AbC 34 (xAW 5) (xAB r2)]) := by kernel_rfl
theorem p11_e_7 (a0 a1 : Val) (r1 : Val × Bool × Bool) (r2 : Val) : run tt (AbsCalls Try.prog) I11 3000 false [.code I11.body] ⟨(zBi 0 (xB0 a0 a1)), [false, false, true, true], [xAE r1, xAB r2], []⟩ = some (.done (xBF (r2, false)) [AbC 33 (xAz a0 a1) (xAE r1), r1.2.1 = false, (decide (((Val.n a0) : Int) < 0)) = false, (((Val.kind a1) : Int) == 3) = true, (decide (((Val.n a0) : Int) ≥ (List.length (Val.list a1) : Int))) = true, AbC 34 (xAW 5) (xAB r2)]) := by kernel_rfl
theorem p11_e_8 (a0 a1 : Val) (r1 : Val × Bool × Bool) (r2 : Val) : run tt (AbsCalls Try.prog) I11 3000 false [.code I11.body] ⟨(zBi 0 (xB0 a0 a1)), [false, false, true, false, true], [xAE r1, xAY r2], []⟩ = some (.done (xBF (r2, false)) [AbC 33 (xAz a0 a1) (xAE r1), r1.2.1 = false, (decide (((Val.n a0) : Int) < 0)) = false, (((Val.kind a1) : Int) == 3) = true, (decide (((Val.n a0) : Int) ≥ (List.length (Val.list a1) : Int))) = false, (((Val.kind a1) : Int) == 3) = true, (0 : Int) ≤ (Val.n a0) ∧ (Val.n a0) < (List.length (Val.list a1)), AbC 35 (xBi (List.getD (Val.list a1) (Int.toNat (Val.n a0)) Ty.val.dflt)) (xAY r2)]) := by kernel_rfl
theorem p11_e_9 (a0 a1 : Val) (r1 : Val × Bool × Bool) (r2 : Val) : run tt (AbsCalls Try.prog) I11 3000 false [.code I11.body] ⟨(zBi 0 (xB0 a0 a1)), [false, false, false, false, false], [xAE r1, xBY r2], []⟩ = some (.done (xBF (r2, false)) [AbC 33 (xAz a0 a1) (xAE r1), r1.2.1 = false, (decide (((Val.n a0) : Int) < 0)) = false, (((Val.kind a1) : Int) == 3) = false, false = false, (((Val.kind a1) : Int) == 3) = false, AbC 36 (xCJ (IntKind.i64.wrap ((Val.n a1) + (IntKind.i64.wrap ((Val.n a0) * (Val.step a1)))))) (xBY r2)]) := by kernel_rfl
theorem c11_e {N : Nat} : ∀ a0 a1 r, xDX N a0 a1 = some r → Reach Try.prog Try.f11 I11 [.code I11.body] (zBi 0 (xB0 a0 a1)) (xBF r) := by
 intro a0 a1 r h
 unfold xDX at h
 obtain ⟨r1, h0, h⟩ := bind_inv h
 rcases cond_inv h with ⟨h1, h⟩ | ⟨h1, h⟩
 ·rcases cond_inv h with ⟨h2, h⟩ | ⟨h2, h⟩
  ·obtain rfl := Option.some.inj h
   exact Reach.done ttok mix fk11 (p11_e_0 a0 a1 r1) (obs_cons (xBN (xAL h0) h1) (obs_cons h2 obs_nil))
  ·rcases cond_inv h with ⟨h3, h⟩ | ⟨h3, h⟩
   ·obtain ⟨r2, h5, h⟩ := bind_inv h
    obtain rfl := Option.some.inj h
    exact Reach.done ttok mix fk11 (p11_e_1 a0 a1 r1 r2) (obs_cons (xBN (xAL h0) h1) (obs_cons h2 (obs_cons h3 (obs_cons rfl (obs_cons (xBe h5) obs_nil)))))
   ·rcases cond_inv h with ⟨h4, h⟩ | ⟨h4, h⟩
    ·rcases cond_inv h with ⟨h5, h⟩ | ⟨h5, h⟩
     ·obtain ⟨r2, h6, h⟩ := bind_inv h
      obtain rfl := Option.some.inj h
      exact Reach.done ttok mix fk11 (p11_e_2 a0 a1 r1 r2) (obs_cons (xBN (xAL h0) h1) (obs_cons h2 (obs_cons h3 (obs_cons h4 (obs_cons h5 (obs_cons (xBe h6) obs_nil))))))
     ·obtain ⟨h7, h⟩ := ite_inv h
      obtain ⟨r2, h8, h⟩ := bind_inv h
      obtain rfl := Option.some.inj h
      exact Reach.done ttok mix fk11 (p11_e_3 a0 a1 r1 r2) (obs_cons (xBN (xAL h0) h1) (obs_cons h2 (obs_cons h3 (obs_cons h4 (obs_cons h5 (obs_cons h4 (obs_cons h7 (obs_cons (xHk h8) obs_nil))))))))
    ·obtain ⟨r2, h7, h⟩ := bind_inv h
     obtain rfl := Option.some.inj h
     exact Reach.done ttok mix fk11 (p11_e_4 a0 a1 r1 r2) (obs_cons (xBN (xAL h0) h1) (obs_cons h2 (obs_cons h3 (obs_cons h4 (obs_cons rfl (obs_cons h4 (obs_cons (xGz h7) obs_nil)))))))
 ·rcases cond_inv h with ⟨h2, h⟩ | ⟨h2, h⟩
  ·obtain rfl := Option.some.inj h
   exact Reach.done ttok mix fk11 (p11_e_5 a0 a1 r1) (obs_cons (xBy (xAL h0) h1) (obs_cons h2 obs_nil))
  ·rcases cond_inv h with ⟨h3, h⟩ | ⟨h3, h⟩
   ·obtain ⟨r2, h5, h⟩ := bind_inv h
    obtain rfl := Option.some.inj h
    exact Reach.done ttok mix fk11 (p11_e_6 a0 a1 r1 r2) (obs_cons (xBy (xAL h0) h1) (obs_cons h2 (obs_cons h3 (obs_cons rfl (obs_cons (xBe h5) obs_nil)))))
   ·rcases cond_inv h with ⟨h4, h⟩ | ⟨h4, h⟩
    ·rcases cond_inv h with ⟨h5, h⟩ | ⟨h5, h⟩
     ·obtain ⟨r2, h6, h⟩ := bind_inv h
      obtain rfl := Option.some.inj h
      exact Reach.done ttok mix fk11 (p11_e_7 a0 a1 r1 r2) (obs_cons (xBy (xAL h0) h1) (obs_cons h2 (obs_cons h3 (obs_cons h4 (obs_cons h5 (obs_cons (xBe h6) obs_nil))))))
     ·obtain ⟨h7, h⟩ := ite_inv h
      obtain ⟨r2, h8, h⟩ := bind_inv h
      obtain rfl := Option.some.inj h
      exact Reach.done ttok mix fk11 (p11_e_8 a0 a1 r1 r2) (obs_cons (xBy (xAL h0) h1) (obs_cons h2 (obs_cons h3 (obs_cons h4 (obs_cons h5 (obs_cons h4 (obs_cons h7 (obs_cons (xHk h8) obs_nil))))))))
    ·obtain ⟨r2, h7, h⟩ := bind_inv h
     obtain rfl := Option.some.inj h
     exact Reach.done ttok mix fk11 (p11_e_9 a0 a1 r1 r2) (obs_cons (xBy (xAL h0) h1) (obs_cons h2 (obs_cons h3 (obs_cons h4 (obs_cons rfl (obs_cons h4 (obs_cons (xGz h7) obs_nil)))))))
theorem xHt {N : Nat} {a0 : Val} {a1 : Val} {r : Val × Bool} (h : xDX N  a0 a1 = some r) : AbC 11 (xB0 a0 a1) (xBF r) :=
 AbsCalls.of_reach fk11 rfl rfl (Nat.le_of_ble_eq_true rfl) (c11_e a0 a1 r h)
noncomputable def I38 : Info := { body := (Try.f38.body).getD .skip, nt := 26, results := [.tmp 4], keep := [0, 2, 8, 10, 20, 28, 50], live := [(4, [0, 2, 10])], modes := [], ext := [], lnt := [], casts := [], fcast := [] }
theorem fk38 : FnOk Try.prog 38 Try.f38 I38 := ⟨Try.func38, by kernel_rfl, by kernel_rfl, by kernel_rfl, by kernel_rfl⟩
def S38_4 (x0 x1 : List Str) (x5 : Int) : St := [(0, .v false [.sl .ro .str x0]), (2, .v false [.sl .ro .str x1]), (10, .v false [.int .i64 x5])]
theorem p38_4_0 (x0 x1 : List Str) (x5 : Int) : run tt (AbsCalls Try.prog) I38 3000 true (stkAt 4 I38.body) ⟨(S38_4 x0 x1 x5), [true, true], [], []⟩ = some (.done (xBA false) [(decide ((x5 : Int) < (List.length x0 : Int))) = true, (0 : Int) ≤ x5 ∧ x5 < (List.length x0), (0 : Int) ≤ x5 ∧ x5 < (List.length x1), (!(((List.getD x0 (Int.toNat x5) Ty.str.dflt) : Str) == (List.getD x1 (Int.toNat x5) Ty.str.dflt))) = true]) := by kernel_rfl
theorem p38_4_1 (x0 x1 : List Str) (x5 : Int) : run tt (AbsCalls Try.prog) I38 3000 true (stkAt 4 I38.body) ⟨(S38_4 x0 x1 x5), [true, false], [], []⟩ = some (.stop (stkAt 4 I38.body) (S38_4 x0 x1 (IntKind.i64.wrap (x5 + 1))) [(decide ((x5 : Int) < (List.length x0 : Int))) = true, (0 : Int) ≤ x5 ∧ x5 < (List.length x0), (0 : Int) ≤ x5 ∧ x5 < (List.length x1), (!(((List.getD x0 (Int.toNat x5) Ty.str.dflt) : Str) == (List.getD x1 (Int.toNat x5) Ty.str.dflt))) = false]) := by kernel_rfl
theorem p38_4_2 (x0 x1 : List Str) (x5 : Int) : run tt (AbsCalls Try.prog) I38 3000 true (stkAt 4 I38.body) ⟨(S38_4 x0 x1 x5), [false], [], []⟩ = some (.done (xBA true) [(decide ((x5 : Int) < (List.length x0 : Int))) = false]) := by kernel_rfl
theorem p38_e_3 (a0 a1 : List Str) : run tt (AbsCalls Try.prog) I38 3000 false [.code I38.body] ⟨(zBi 0 (xDg a0 a1)), [true], [], []⟩ = some (.done (xBA false) [(((List.length a0 : Int) : Int) != (List.length a1 : Int)) = true]) := by kernel_rfl
theorem p38_e_4 (a0 a1 : List Str) : run tt (AbsCalls Try.prog) I38 3000 false [.code I38.body] ⟨(zBi 0 (xDg a0 a1)), [false], [], []⟩ = some (.stop (stkAt 4 I38.body) (S38_4 a0 a1 0) [(((List.length a0 : Int) : Int) != (List.length a1 : Int)) = false]) := by kernel_rfl
theorem c38_4 {N : Nat} : ∀ n x0 x1 x5 r, xDh N n x0 x1 x5 = some r → Reach Try.prog Try.f38 I38 (stkAt 4 I38.body) (S38_4 x0 x1 x5) (xBA r) := by
 intro n
 induction n with
 | zero => intro x0 x1 x5 r h; have h' : (none : Option (Bool)) = some r := h; cases h'
 | succ n ih =>
  intro x0 x1 x5 r h
  rw [xDh] at h
  rcases cond_inv h with ⟨h0, h⟩ | ⟨h0, h⟩
  ·obtain ⟨h1, h⟩ := ite_inv h
   obtain ⟨h2, h⟩ := ite_inv h
   rcases cond_inv h with ⟨h3, h⟩ | ⟨h3, h⟩
   ·obtain rfl := Option.some.inj h
    exact Reach.done ttok mix fk38 (p38_4_0 x0 x1 x5) (obs_cons h0 (obs_cons h1 (obs_cons h2 (obs_cons h3 obs_nil))))
   ·exact Reach.stop ttok mix fk38 (p38_4_1 x0 x1 x5) (obs_cons h0 (obs_cons h1 (obs_cons h2 (obs_cons h3 obs_nil)))) (ih _ _ _ _ h)
  ·obtain rfl := Option.some.inj h
   exact Reach.done ttok mix fk38 (p38_4_2 x0 x1 x5) (obs_cons h0 obs_nil)
theorem c38_e {N : Nat} : ∀ a0 a1 r, xFf N a0 a1 = some r → Reach Try.prog Try.f38 I38 [.code I38.body] (zBi 0 (xDg a0 a1)) (xBA r) := by
 intro a0 a1 r h
 unfold xFf at h
 rcases cond_inv h with ⟨h0, h⟩ | ⟨h0, h⟩
 ·obtain rfl := Option.some.inj h
  exact Reach.done ttok mix fk38 (p38_e_3 a0 a1) (obs_cons h0 obs_nil)
 ·exact Reach.stop ttok mix fk38 (p38_e_4 a0 a1) (obs_cons h0 obs_nil) (c38_4   _ _ _ _ _ h)
theorem xGj {N : Nat} {a0 : List Str} {a1 : List Str} {r : Bool} (h : xFf N  a0 a1 = some r) : AbC 38 (xDg a0 a1) (xBA r) :=
 AbsCalls.of_reach fk38 rfl rfl (Nat.le_of_ble_eq_true rfl) (c38_e a0 a1 r h)
noncomputable def I98 : Info := { body := (Try.f98.body).getD .skip, nt := 26, results := [.tmp 4], keep := [0, 2, 8, 10, 20, 28, 50], live := [(4, [0, 2, 10])], modes := [], ext := [], lnt := [], casts := [], fcast := [] }
theorem fk98 : FnOk Try.prog 98 Try.f98 I98 := ⟨Try.func98, by kernel_rfl, by kernel_rfl, by kernel_rfl, by kernel_rfl⟩
def S98_4 (x0 x1 : List Int) (x5 : Int) : St := [(0, .v false [.sl .ro .int x0]), (2, .v false [.sl .ro .int x1]), (10, .v false [.int .i64 x5])]
theorem p98_4_0 (x0 x1 : List Int) (x5 : Int) : run tt (AbsCalls Try.prog) I98 3000 true (stkAt 4 I98.body) ⟨(S98_4 x0 x1 x5), [true, true], [], []⟩ = some (.done (xCl false) [(decide ((x5 : Int) < (List.length x0 : Int))) = true, (0 : Int) ≤ x5 ∧ x5 < (List.length x0), (0 : Int) ≤ x5 ∧ x5 < (List.length x1), (((List.getD x0 (Int.toNat x5) Ty.int.dflt) : Int) != (List.getD x1 (Int.toNat x5) Ty.int.dflt)) = true]) := by kernel_rfl
theorem p98_4_1 (x0 x1 : List Int) (x5 : Int) : run tt (AbsCalls Try.prog) I98 3000 true (stkAt 4 I98.body) ⟨(S98_4 x0 x1 x5), [true, false], [], []⟩ = some (.stop (stkAt 4 I98.body) (S98_4 x0 x1 (IntKind.i64.wrap (x5 + 1))) [(decide ((x5 : Int) < (List.length x0 : Int))) = true, (0 : Int) ≤ x5 ∧ x5 < (List.length x0), (0 : Int) ≤ x5 ∧ x5 < (List.length x1), (((List.getD x0 (Int.toNat x5) Ty.int.dflt) : Int) != (List.getD x1 (Int.toNat x5) Ty.int.dflt)) = false]) := by kernel_rfl
theorem p98_4_2 (x0 x1 : List Int) (x5 : Int) : run tt (AbsCalls Try.prog) I98 3000 true (stkAt 4 I98.body) ⟨(S98_4 x0 x1 x5), [false], [], []⟩ = some (.done (xCl true) [(decide ((x5 : Int) < (List.length x0 : Int))) = false]) := by kernel_rfl
theorem p98_e_3 (a0 a1 : List Int) : run tt (AbsCalls Try.prog) I98 3000 false [.code I98.body] ⟨(zBi 0 (xEw a0 a1)), [true], [], []⟩ = some (.done (xCl false) [(((List.length a0 : Int) : Int) != (List.length a1 : Int)) = true]) := by kernel_rfl
theorem p98_e_4 (a0 a1 : List Int) : run tt (AbsCalls Try.prog) I98 3000 false [.code I98.body] ⟨(zBi 0 (xEw a0 a1)), [false], [], []⟩ = some (.stop (stkAt 4 I98.body) (S98_4 a0 a1 0) [(((List.length a0 : Int) : Int) != (List.length a1 : Int)) = false]) := by kernel_rfl
theorem c98_4 {N : Nat} : ∀ n x0 x1 x5 r, xEx N n x0 x1 x5 = some r → Reach Try.prog Try.f98 I98 (stkAt 4 I98.body) (S98_4 x0 x1 x5) (xCl r) := by
 intro n
 induction n with
 | zero => intro x0 x1 x5 r h; have h' : (none : Option (Bool)) = some r := h; cases h'
 | succ n ih =>
  intro x0 x1 x5 r h
  rw [xEx] at h
  rcases cond_inv h with ⟨h0, h⟩ | ⟨h0, h⟩
  ·obtain ⟨h1, h⟩ := ite_inv h
   obtain ⟨h2, h⟩ := ite_inv h
   rcases cond_inv h with ⟨h3, h⟩ | ⟨h3, h⟩
   ·obtain rfl := Option.some.inj h
    exact Reach.done ttok mix fk98 (p98_4_0 x0 x1 x5) (obs_cons h0 (obs_cons h1 (obs_cons h2 (obs_cons h3 obs_nil))))
   ·exact Reach.stop ttok mix fk98 (p98_4_1 x0 x1 x5) (obs_cons h0 (obs_cons h1 (obs_cons h2 (obs_cons h3 obs_nil)))) (ih _ _ _ _ h)
  ·obtain rfl := Option.some.inj h
   exact Reach.done ttok mix fk98 (p98_4_2 x0 x1 x5) (obs_cons h0 obs_nil)
theorem c98_e {N : Nat} : ∀ a0 a1 r, xGh N a0 a1 = some r → Reach Try.prog Try.f98 I98 [.code I98.body] (zBi 0 (xEw a0 a1)) (xCl r) := by
 intro a0 a1 r h
 unfold xGh at h
 rcases cond_inv h with ⟨h0, h⟩ | ⟨h0, h⟩
 ·obtain rfl := Option.some.inj h
  exact Reach.done ttok mix fk98 (p98_e_3 a0 a1) (obs_cons h0 obs_nil)
 ·exact Reach.stop ttok mix fk98 (p98_e_4 a0 a1) (obs_cons h0 obs_nil) (c98_4   _ _ _ _ _ h)
theorem xHf {N : Nat} {a0 : List Int} {a1 : List Int} {r : Bool} (h : xGh N  a0 a1 = some r) : AbC 98 (xEw a0 a1) (xCl r) :=
 AbsCalls.of_reach fk98 rfl rfl (Nat.le_of_ble_eq_true rfl) (c98_e a0 a1 r h)
noncomputable def I116 : Info := { body := (Try.f116.body).getD .skip, nt := 15, results := [.tmp 4], keep := [0, 2, 4, 6, 8, 18, 28, 5, 7], live := [], modes := [], ext := [], lnt := [], casts := [], fcast := [] }
theorem fk116 : FnOk Try.prog 116 Try.f116 I116 := ⟨Try.func116, by kernel_rfl, by kernel_rfl, by kernel_rfl, by kernel_rfl⟩
theorem p116_e_0 (a0 a1 : Org) : run tt (AbsCalls Try.prog) I116 3000 false [.code I116.body] ⟨(zBi 0 (xDG a0 a1)), [true], [], []⟩ = some (.done (xCy false) [(((Org.cell a0) : Int) != (Org.cell a1)) = true]) := by kernel_rfl
theorem p116_e_1 (a0 a1 : Org) : run tt (AbsCalls Try.prog) I116 3000 false [.code I116.body] ⟨(zBi 0 (xDG a0 a1)), [false, true], [], []⟩ = some (.done (xCy false) [(((Org.cell a0) : Int) != (Org.cell a1)) = false, (((Org.row a0) : Int) != (Org.row a1)) = true]) := by kernel_rfl
theorem p116_e_2 (a0 a1 : Org) : run tt (AbsCalls Try.prog) I116 3000 false [.code I116.body] ⟨(zBi 0 (xDG a0 a1)), [false, false], [], []⟩ = some (.done (xCy true) [(((Org.cell a0) : Int) != (Org.cell a1)) = false, (((Org.row a0) : Int) != (Org.row a1)) = false]) := by kernel_rfl
theorem c116_e {N : Nat} : ∀ a0 a1 r, xFB N a0 a1 = some r → Reach Try.prog Try.f116 I116 [.code I116.body] (zBi 0 (xDG a0 a1)) (xCy r) := by
 intro a0 a1 r h
 unfold xFB at h
 rcases cond_inv h with ⟨h0, h⟩ | ⟨h0, h⟩
 ·obtain rfl := Option.some.inj h
  exact Reach.done ttok mix fk116 (p116_e_0 a0 a1) (obs_cons h0 obs_nil)
 ·rcases cond_inv h with ⟨h1, h⟩ | ⟨h1, h⟩
  ·obtain rfl := Option.some.inj h
   exact Reach.done ttok mix fk116 (p116_e_1 a0 a1) (obs_cons h0 (obs_cons h1 obs_nil))
  ·obtain rfl := Option.some.inj h
   exact Reach.done ttok mix fk116 (p116_e_2 a0 a1) (obs_cons h0 (obs_cons h1 obs_nil))
theorem xHA {N : Nat} {a0 : Org} {a1 : Org} {r : Bool} (h : xFB N  a0 a1 = some r) : AbC 116 (xDG a0 a1) (xCy r) :=
 AbsCalls.of_reach fk116 rfl rfl (Nat.le_of_ble_eq_true rfl) (c116_e a0 a1 r h)
noncomputable def I99 : Info := { body := (Try.f99.body).getD .skip, nt := 27, results := [.tmp 4], keep := [0, 2, 8, 10, 20, 28, 52], live := [(4, [0, 2, 10])], modes := [], ext := [], lnt := [], casts := [], fcast := [] }
theorem fk99 : FnOk Try.prog 99 Try.f99 I99 := ⟨Try.func99, by kernel_rfl, by kernel_rfl, by kernel_rfl, by kernel_rfl⟩
def S99_4 (x0 x1 : List Org) (x5 : Int) : St := [(0, .v false [.sl .ro .org x0]), (2, .v false [.sl .ro .org x1]), (10, .v false [.int .i64 x5])]
theorem p99_4_0 (x0 x1 : List Org) (x5 : Int) (r1 : Bool) : run tt (AbsCalls Try.prog) I99 3000 true (stkAt 4 I99.body) ⟨(S99_4 x0 x1 x5), [true, true], [xCy r1], []⟩ = some (.done (xCb false) [(decide ((x5 : Int) < (List.length x0 : Int))) = true, (0 : Int) ≤ x5 ∧ x5 < (List.length x0), (0 : Int) ≤ x5 ∧ x5 < (List.length x1), AbC 116 (xDG (List.getD x0 (Int.toNat x5) Ty.org.dflt) (List.getD x1 (Int.toNat x5) Ty.org.dflt)) (xCy r1), (!r1) = true]) := by kernel_rfl
theorem p99_4_1 (x0 x1 : List Org) (x5 : Int) (r1 : Bool) : run tt (AbsCalls Try.prog) I99 3000 true (stkAt 4 I99.body) ⟨(S99_4 x0 x1 x5), [true, false], [xCy r1], []⟩ = some (.stop (stkAt 4 I99.body) (S99_4 x0 x1 (IntKind.i64.wrap (x5 + 1))) [(decide ((x5 : Int) < (List.length x0 : Int))) = true, (0 : Int) ≤ x5 ∧ x5 < (List.length x0), (0 : Int) ≤ x5 ∧ x5 < (List.length x1), AbC 116 (xDG (List.getD x0 (Int.toNat x5) Ty.org.dflt) (List.getD x1 (Int.toNat x5) Ty.org.dflt)) (xCy r1), (!r1) = false]) := by kernel_rfl
theorem p99_4_2 (x0 x1 : List Org) (x5 : Int) : run tt (AbsCalls Try.prog) I99 3000 true (stkAt 4 I99.body) ⟨(S99_4 x0 x1 x5), [false], [], []⟩ = some (.done (xCb true) [(decide ((x5 : Int) < (List.length x0 : Int))) = false]) := by kernel_rfl
theorem p99_e_3 (a0 a1 : List Org) : run tt (AbsCalls Try.prog) I99 3000 false [.code I99.body] ⟨(zBi 0 (xDY a0 a1)), [true], [], []⟩ = some (.done (xCb false) [(((List.length a0 : Int) : Int) != (List.length a1 : Int)) = true]) := by kernel_rfl
theorem p99_e_4 (a0 a1 : List Org) : run tt (AbsCalls Try.prog) I99 3000 false [.code I99.body] ⟨(zBi 0 (xDY a0 a1)), [false], [], []⟩ = some (.stop (stkAt 4 I99.body) (S99_4 a0 a1 0) [(((List.length a0 : Int) : Int) != (List.length a1 : Int)) = false]) := by kernel_rfl
theorem c99_4 {N : Nat} : ∀ n x0 x1 x5 r, xDf N n x0 x1 x5 = some r → Reach Try.prog Try.f99 I99 (stkAt 4 I99.body) (S99_4 x0 x1 x5) (xCb r) := by
 intro n
 induction n with
 | zero => intro x0 x1 x5 r h; have h' : (none : Option (Bool)) = some r := h; cases h'
 | succ n ih =>
  intro x0 x1 x5 r h
  rw [xDf] at h
  rcases cond_inv h with ⟨h0, h⟩ | ⟨h0, h⟩
  ·obtain ⟨h1, h⟩ := ite_inv h
   obtain ⟨h2, h⟩ := ite_inv h
   obtain ⟨r1, h3, h⟩ := bind_inv h
   rcases cond_inv h with ⟨h4, h⟩ | ⟨h4, h⟩
   ·obtain rfl := Option.some.inj h
    exact Reach.done ttok mix fk99 (p99_4_0 x0 x1 x5 r1) (obs_cons h0 (obs_cons h1 (obs_cons h2 (obs_cons (xHA h3) (obs_cons h4 obs_nil)))))
   ·exact Reach.stop ttok mix fk99 (p99_4_1 x0 x1 x5 r1) (obs_cons h0 (obs_cons h1 (obs_cons h2 (obs_cons (xHA h3) (obs_cons h4 obs_nil))))) (ih _ _ _ _ h)
  ·obtain rfl := Option.some.inj h
   exact Reach.done ttok mix fk99 (p99_4_2 x0 x1 x5) (obs_cons h0 obs_nil)
theorem c99_e {N : Nat} : ∀ a0 a1 r, xFd N a0 a1 = some r → Reach Try.prog Try.f99 I99 [.code I99.body] (zBi 0 (xDY a0 a1)) (xCb r) := by
 intro a0 a1 r h
 unfold xFd at h
 rcases cond_inv h with ⟨h0, h⟩ | ⟨h0, h⟩
 ·obtain rfl := Option.some.inj h
  exact Reach.done ttok mix fk99 (p99_e_3 a0 a1) (obs_cons h0 obs_nil)
 ·exact Reach.stop ttok mix fk99 (p99_e_4 a0 a1) (obs_cons h0 obs_nil) (c99_4   _ _ _ _ _ h)
theorem xHl {N : Nat} {a0 : List Org} {a1 : List Org} {r : Bool} (h : xFd N  a0 a1 = some r) : AbC 99 (xDY a0 a1) (xCb r) :=
 AbsCalls.of_reach fk99 rfl rfl (Nat.le_of_ble_eq_true rfl) (c99_e a0 a1 r h)
noncomputable def I77 : Info := { body := (Try.f77.body).getD .skip, nt := 17, results := [.tmp 4], keep := [0, 2, 4, 6, 8, 20, 32, 5, 7], live := [], modes := [], ext := [], lnt := [], casts := [], fcast := [] }
theorem fk77 : FnOk Try.prog 77 Try.f77 I77 := ⟨Try.func77, by kernel_rfl, by kernel_rfl, by kernel_rfl, by kernel_rfl⟩
theorem p77_e_0 (a0 a1 : Rowd) (r1 : Bool) : run tt (AbsCalls Try.prog) I77 3000 false [.code I77.body] ⟨(zBi 0 (xEU a0 a1)), [true], [xCl r1], []⟩ = some (.done (xDS false) [AbC 98 (xEw (Rowd.cells a0) (Rowd.cells a1)) (xCl r1), (!r1) = true]) := by kernel_rfl
theorem p77_e_1 (a0 a1 : Rowd) (r1 r2 : Bool) : run tt (AbsCalls Try.prog) I77 3000 false [.code I77.body] ⟨(zBi 0 (xEU a0 a1)), [false, true], [xCl r1, xCb r2], []⟩ = some (.done (xDS false) [AbC 98 (xEw (Rowd.cells a0) (Rowd.cells a1)) (xCl r1), (!r1) = false, AbC 99 (xDY (Rowd.frm a0) (Rowd.frm a1)) (xCb r2), (!r2) = true]) := by kernel_rfl
theorem p77_e_2 (a0 a1 : Rowd) (r1 r2 : Bool) : run tt (AbsCalls Try.prog) I77 3000 false [.code I77.body] ⟨(zBi 0 (xEU a0 a1)), [false, false], [xCl r1, xCb r2], []⟩ = some (.done (xDS true) [AbC 98 (xEw (Rowd.cells a0) (Rowd.cells a1)) (xCl r1), (!r1) = false, AbC 99 (xDY (Rowd.frm a0) (Rowd.frm a1)) (xCb r2), (!r2) = false]) := by kernel_rfl
theorem c77_e {N : Nat} : ∀ a0 a1 r, xGN N a0 a1 = some r → Reach Try.prog Try.f77 I77 [.code I77.body] (zBi 0 (xEU a0 a1)) (xDS r) := by
 intro a0 a1 r h
 unfold xGN at h
 obtain ⟨r1, h0, h⟩ := bind_inv h
 rcases cond_inv h with ⟨h1, h⟩ | ⟨h1, h⟩
 ·obtain rfl := Option.some.inj h
  exact Reach.done ttok mix fk77 (p77_e_0 a0 a1 r1) (obs_cons (xHf h0) (obs_cons h1 obs_nil))
 ·obtain ⟨r2, h2, h⟩ := bind_inv h
  rcases cond_inv h with ⟨h3, h⟩ | ⟨h3, h⟩
  ·obtain rfl := Option.some.inj h
   exact Reach.done ttok mix fk77 (p77_e_1 a0 a1 r1 r2) (obs_cons (xHf h0) (obs_cons h1 (obs_cons (xHl h2) (obs_cons h3 obs_nil))))
  ·obtain rfl := Option.some.inj h
   exact Reach.done ttok mix fk77 (p77_e_2 a0 a1 r1 r2) (obs_cons (xHf h0) (obs_cons h1 (obs_cons (xHl h2) (obs_cons h3 obs_nil))))
theorem laws_eqRow_ok {N : Nat} {a0 : Rowd} {a1 : Rowd} {r : Bool} (h : xGN N  a0 a1 = some r) : AbC 77 (xEU a0 a1) (xDS r) :=
 AbsCalls.of_reach fk77 rfl rfl (Nat.le_of_ble_eq_true rfl) (c77_e a0 a1 r h)
noncomputable def I39 : Info := { body := (Try.f39.body).getD .skip, nt := 27, results := [.tmp 4], keep := [0, 2, 8, 10, 20, 28, 52], live := [(4, [0, 2, 10])], modes := [], ext := [], lnt := [], casts := [], fcast := [] }
theorem fk39 : FnOk Try.prog 39 Try.f39 I39 := ⟨Try.func39, by kernel_rfl, by kernel_rfl, by kernel_rfl, by kernel_rfl⟩
def S39_4 (x0 x1 : List Rowd) (x5 : Int) : St := [(0, .v false [.sl .ro .row x0]), (2, .v false [.sl .ro .row x1]), (10, .v false [.int .i64 x5])]
theorem p39_4_0 (x0 x1 : List Rowd) (x5 : Int) (r1 : Bool) : run tt (AbsCalls Try.prog) I39 3000 true (stkAt 4 I39.body) ⟨(S39_4 x0 x1 x5), [true, true], [xDS r1], []⟩ = some (.done (xCR false) [(decide ((x5 : Int) < (List.length x0 : Int))) = true, (0 : Int) ≤ x5 ∧ x5 < (List.length x0), (0 : Int) ≤ x5 ∧ x5 < (List.length x1), AbC 77 (xEU (List.getD x0 (Int.toNat x5) Ty.row.dflt) (List.getD x1 (Int.toNat x5) Ty.row.dflt)) (xDS r1), (!r1) = true]) := by kernel_rfl
theorem p39_4_1 (x0 x1 : List Rowd) (x5 : Int) (r1 : Bool) : run tt (AbsCalls Try.prog) I39 3000 true (stkAt 4 I39.body) ⟨(S39_4 x0 x1 x5), [true, false], [xDS r1], []⟩ = some (.stop (stkAt 4 I39.body) (S39_4 x0 x1 (IntKind.i64.wrap (x5 + 1))) [(decide ((x5 : Int) < (List.length x0 : Int))) = true, (0 : Int) ≤ x5 ∧ x5 < (List.length x0), (0 : Int) ≤ x5 ∧ x5 < (List.length x1), AbC 77 (xEU (List.getD x0 (Int.toNat x5) Ty.row.dflt) (List.getD x1 (Int.toNat x5) Ty.row.dflt)) (xDS r1), (!r1) = false]) := by kernel_rfl
theorem p39_4_2 (x0 x1 : List Rowd) (x5 : Int) : run tt (AbsCalls Try.prog) I39 3000 true (stkAt 4 I39.body) ⟨(S39_4 x0 x1 x5), [false], [], []⟩ = some (.done (xCR true) [(decide ((x5 : Int) < (List.length x0 : Int))) = false]) := by kernel_rfl
theorem p39_e_3 (a0 a1 : List Rowd) : run tt (AbsCalls Try.prog) I39 3000 false [.code I39.body] ⟨(zBi 0 (xFe a0 a1)), [true], [], []⟩ = some (.done (xCR false) [(((List.length a0 : Int) : Int) != (List.length a1 : Int)) = true]) := by kernel_rfl
theorem p39_e_4 (a0 a1 : List Rowd) : run tt (AbsCalls Try.prog) I39 3000 false [.code I39.body] ⟨(zBi 0 (xFe a0 a1)), [false], [], []⟩ = some (.stop (stkAt 4 I39.body) (S39_4 a0 a1 0) [(((List.length a0 : Int) : Int) != (List.length a1 : Int)) = false]) := by kernel_rfl
theorem c39_4 {N : Nat} : ∀ n x0 x1 x5 r, xEy N n x0 x1 x5 = some r → Reach Try.prog Try.f39 I39 (stkAt 4 I39.body) (S39_4 x0 x1 x5) (xCR r) := by
 intro n
 induction n with
 | zero => intro x0 x1 x5 r h; have h' : (none : Option (Bool)) = some r := h; cases h'
 | succ n ih =>
  intro x0 x1 x5 r h
  rw [xEy] at h
  rcases cond_inv h with ⟨h0, h⟩ | ⟨h0, h⟩
  ·obtain ⟨h1, h⟩ := ite_inv h
   obtain ⟨h2, h⟩ := ite_inv h
   obtain ⟨r1, h3, h⟩ := bind_inv h
   rcases cond_inv h with ⟨h4, h⟩ | ⟨h4, h⟩
   ·obtain rfl := Option.some.inj h
    exact Reach.done ttok mix fk39 (p39_4_0 x0 x1 x5 r1) (obs_cons h0 (obs_cons h1 (obs_cons h2 (obs_cons (laws_eqRow_ok h3) (obs_cons h4 obs_nil)))))
   ·exact Reach.stop ttok mix fk39 (p39_4_1 x0 x1 x5 r1) (obs_cons h0 (obs_cons h1 (obs_cons h2 (obs_cons (laws_eqRow_ok h3) (obs_cons h4 obs_nil))))) (ih _ _ _ _ h)
  ·obtain rfl := Option.some.inj h
   exact Reach.done ttok mix fk39 (p39_4_2 x0 x1 x5) (obs_cons h0 obs_nil)
theorem c39_e {N : Nat} : ∀ a0 a1 r, xGi N a0 a1 = some r → Reach Try.prog Try.f39 I39 [.code I39.body] (zBi 0 (xFe a0 a1)) (xCR r) := by
 intro a0 a1 r h
 unfold xGi at h
 rcases cond_inv h with ⟨h0, h⟩ | ⟨h0, h⟩
 ·obtain rfl := Option.some.inj h
  exact Reach.done ttok mix fk39 (p39_e_3 a0 a1) (obs_cons h0 obs_nil)
 ·exact Reach.stop ttok mix fk39 (p39_e_4 a0 a1) (obs_cons h0 obs_nil) (c39_4   _ _ _ _ _ h)
theorem xH7 {N : Nat} {a0 : List Rowd} {a1 : List Rowd} {r : Bool} (h : xGi N  a0 a1 = some r) : AbC 39 (xFe a0 a1) (xCR r) :=
 AbsCalls.of_reach fk39 rfl rfl (Nat.le_of_ble_eq_true rfl) (c39_e a0 a1 r h)
noncomputable def I12 : Info := { body := (Try.f12.body).getD .skip, nt := 43, results := [.tmp 4], keep := [0, 2, 4, 6, 8, 18, 28, 38, 48, 60, 72, 84, 5, 7], live := [], modes := [], ext := [], lnt := [], casts := [], fcast := [] }
theorem fk12 : FnOk Try.prog 12 Try.f12 I12 := ⟨Try.func12, by kernel_rfl, by kernel_rfl, by kernel_rfl, by kernel_rfl⟩
theorem p12_e_0 (a0 a1 : Val) : run tt (AbsCalls Try.prog) I12 3000 false [.code I12.body] ⟨(zBi 0 (xAf a0 a1)), [true], [], []⟩ = some (.done (xAb false) [(((Val.kind a0) : Int) != (Val.kind a1)) = true]) := by kernel_rfl
theorem p12_e_1 (a0 a1 : Val) : run tt (AbsCalls Try.prog) I12 3000 false [.code I12.body] ⟨(zBi 0 (xAf a0 a1)), [false, true], [], []⟩ = some (.done (xAb false) [(((Val.kind a0) : Int) != (Val.kind a1)) = false, (((Val.n a0) : Int) != (Val.n a1)) = true]) := by kernel_rfl
theorem p12_e_2 (a0 a1 : Val) : run tt (AbsCalls Try.prog) I12 3000 false [.code I12.body] ⟨(zBi 0 (xAf a0 a1)), [false, false, true], [], []⟩ = some (.done (xAb false) [(((Val.kind a0) : Int) != (Val.kind a1)) = false, (((Val.n a0) : Int) != (Val.n a1)) = false, (((Val.step a0) : Int) != (Val.step a1)) = true]) := by kernel_rfl
theorem p12_e_3 (a0 a1 : Val) : run tt (AbsCalls Try.prog) I12 3000 false [.code I12.body] ⟨(zBi 0 (xAf a0 a1)), [false, false, false, true], [], []⟩ = some (.done (xAb false) [(((Val.kind a0) : Int) != (Val.kind a1)) = false, (((Val.n a0) : Int) != (Val.n a1)) = false, (((Val.step a0) : Int) != (Val.step a1)) = false, (!(((Val.text a0) : Str) == (Val.text a1))) = true]) := by kernel_rfl
theorem p12_e_4 (a0 a1 : Val) (r1 : Bool) : run tt (AbsCalls Try.prog) I12 3000 false [.code I12.body] ⟨(zBi 0 (xAf a0 a1)), [false, false, false, false, true], [xAU r1], []⟩ = some (.done (xAb false) [(((Val.kind a0) : Int) != (Val.kind a1)) = false, (((Val.n a0) : Int) != (Val.n a1)) = false, (((Val.step a0) : Int) != (Val.step a1)) = false, (!(((Val.text a0) : Str) == (Val.text a1))) = false, AbC 37 (xBt (Val.list a0) (Val.list a1)) (xAU r1), (!r1) = true]) := by kernel_rfl
theorem p12_e_5 (a0 a1 : Val) (r1 r2 : Bool) : run tt (AbsCalls Try.prog) I12 3000 false [.code I12.body] ⟨(zBi 0 (xAf a0 a1)), [false, false, false, false, false, true], [xAU r1, xBA r2], []⟩ = some (.done (xAb false) [(((Val.kind a0) : Int) != (Val.kind a1)) = false, (((Val.n a0) : Int) != (Val.n a1)) = false, (((Val.step a0) : Int) != (Val.step a1)) = false, (!(((Val.text a0) : Str) == (Val.text a1))) = false, AbC 37 (xBt (Val.list a0) (Val.list a1)) (xAU r1), (!r1) = false, AbC 38 (xDg (Val.columns a0) (Val.columns a1)) (xBA r2), (!r2) = true]) := by kernel_rfl
theorem p12_e_6 (a0 a1 : Val) (r1 r2 r3 : Bool) : run tt (AbsCalls Try.prog) I12 3000 false [.code I12.body] ⟨(zBi 0 (xAf a0 a1)), [false, false, false, false, false, false, true], [xAU r1, xBA r2, xCR r3], []⟩ = some (.done (xAb false) [(((Val.kind a0) : Int) != (Val.kind a1)) = false, (((Val.n a0) : Int) != (Val.n a1)) = false, (((Val.step a0) : Int) != (Val.step a1)) = false, (!(((Val.text a0) : Str) == (Val.text a1))) = false, AbC 37 (xBt (Val.list a0) (Val.list a1)) (xAU r1), (!r1) = false, AbC 38 (xDg (Val.columns a0) (Val.columns a1)) (xBA r2), (!r2) = false, AbC 39 (xFe (Val.rows a0) (Val.rows a1)) (xCR r3), (!r3) = true]) := by kernel_rfl
theorem p12_e_7 (a0 a1 : Val) (r1 r2 r3 : Bool) : run tt (AbsCalls Try.prog) I12 3000 false [.code I12.body] ⟨(zBi 0 (xAf a0 a1)), [false, false, false, false, false, false, false], [xAU r1, xBA r2, xCR r3], []⟩ = some (.done (xAb true) [(((Val.kind a0) : Int) != (Val.kind a1)) = false, (((Val.n a0) : Int) != (Val.n a1)) = false, (((Val.step a0) : Int) != (Val.step a1)) = false, (!(((Val.text a0) : Str) == (Val.text a1))) = false, AbC 37 (xBt (Val.list a0) (Val.list a1)) (xAU r1), (!r1) = false, AbC 38 (xDg (Val.columns a0) (Val.columns a1)) (xBA r2), (!r2) = false, AbC 39 (xFe (Val.rows a0) (Val.rows a1)) (xCR r3), (!r3) = false]) := by kernel_rfl
theorem c12_e {N : Nat} {rc_laws_eqValue : Val → Val → Option (Bool)} (hrc_laws_eqValue : ∀ a0 a1 r, rc_laws_eqValue a0 a1 = some r → AbC 12 (xAf a0 a1) (xAb r)) {rc_laws_eqValueS : (List Val) → (List Val) → Option (Bool)} (hrc_laws_eqValueS : ∀ a0 a1 r, rc_laws_eqValueS a0 a1 = some r → AbC 37 (xBt a0 a1) (xAU r)) : ∀ a0 a1 r, xDZ N rc_laws_eqValue rc_laws_eqValueS a0 a1 = some r → Reach Try.prog Try.f12 I12 [.code I12.body] (zBi 0 (xAf a0 a1)) (xAb r) := by
 intro a0 a1 r h
 unfold xDZ at h
 rcases cond_inv h with ⟨h0, h⟩ | ⟨h0, h⟩
 ·obtain rfl := Option.some.inj h
  exact Reach.done ttok mix fk12 (p12_e_0 a0 a1) (obs_cons h0 obs_nil)
 ·rcases cond_inv h with ⟨h1, h⟩ | ⟨h1, h⟩
  ·obtain rfl := Option.some.inj h
   exact Reach.done ttok mix fk12 (p12_e_1 a0 a1) (obs_cons h0 (obs_cons h1 obs_nil))
  ·rcases cond_inv h with ⟨h2, h⟩ | ⟨h2, h⟩
   ·obtain rfl := Option.some.inj h
    exact Reach.done ttok mix fk12 (p12_e_2 a0 a1) (obs_cons h0 (obs_cons h1 (obs_cons h2 obs_nil)))
   ·rcases cond_inv h with ⟨h3, h⟩ | ⟨h3, h⟩
    ·obtain rfl := Option.some.inj h
     exact Reach.done ttok mix fk12 (p12_e_3 a0 a1) (obs_cons h0 (obs_cons h1 (obs_cons h2 (obs_cons h3 obs_nil))))
    ·obtain ⟨r1, h4, h⟩ := bind_inv h
     rcases cond_inv h with ⟨h5, h⟩ | ⟨h5, h⟩
     ·obtain rfl := Option.some.inj h
      exact Reach.done ttok mix fk12 (p12_e_4 a0 a1 r1) (obs_cons h0 (obs_cons h1 (obs_cons h2 (obs_cons h3 (obs_cons (hrc_laws_eqValueS _ _ _ h4) (obs_cons h5 obs_nil))))))
     ·obtain ⟨r2, h6, h⟩ := bind_inv h
      rcases cond_inv h with ⟨h7, h⟩ | ⟨h7, h⟩
      ·obtain rfl := Option.some.inj h
       exact Reach.done ttok mix fk12 (p12_e_5 a0 a1 r1 r2) (obs_cons h0 (obs_cons h1 (obs_cons h2 (obs_cons h3 (obs_cons (hrc_laws_eqValueS _ _ _ h4) (obs_cons h5 (obs_cons (xGj h6) (obs_cons h7 obs_nil))))))))
      ·obtain ⟨r3, h8, h⟩ := bind_inv h
       rcases cond_inv h with ⟨h9, h⟩ | ⟨h9, h⟩
       ·obtain rfl := Option.some.inj h
        exact Reach.done ttok mix fk12 (p12_e_6 a0 a1 r1 r2 r3) (obs_cons h0 (obs_cons h1 (obs_cons h2 (obs_cons h3 (obs_cons (hrc_laws_eqValueS _ _ _ h4) (obs_cons h5 (obs_cons (xGj h6) (obs_cons h7 (obs_cons (xH7 h8) (obs_cons h9 obs_nil))))))))))
       ·obtain rfl := Option.some.inj h
        exact Reach.done ttok mix fk12 (p12_e_7 a0 a1 r1 r2 r3) (obs_cons h0 (obs_cons h1 (obs_cons h2 (obs_cons h3 (obs_cons (hrc_laws_eqValueS _ _ _ h4) (obs_cons h5 (obs_cons (xGj h6) (obs_cons h7 (obs_cons (xH7 h8) (obs_cons h9 obs_nil))))))))))
theorem xHZ {N : Nat} {rc_laws_eqValue : Val → Val → Option (Bool)} (hrc_laws_eqValue : ∀ a0 a1 r, rc_laws_eqValue a0 a1 = some r → AbC 12 (xAf a0 a1) (xAb r)) {rc_laws_eqValueS : (List Val) → (List Val) → Option (Bool)} (hrc_laws_eqValueS : ∀ a0 a1 r, rc_laws_eqValueS a0 a1 = some r → AbC 37 (xBt a0 a1) (xAU r)) {a0 : Val} {a1 : Val} {r : Bool} (h : xDZ N rc_laws_eqValue rc_laws_eqValueS a0 a1 = some r) : AbC 12 (xAf a0 a1) (xAb r) :=
 AbsCalls.of_reach fk12 rfl rfl (Nat.le_of_ble_eq_true rfl) (c12_e hrc_laws_eqValue hrc_laws_eqValueS a0 a1 r h)
noncomputable def I37 : Info := { body := (Try.f37.body).getD .skip, nt := 27, results := [.tmp 4], keep := [0, 2, 8, 10, 20, 28, 52], live := [(4, [0, 2, 10])], modes := [], ext := [], lnt := [], casts := [], fcast := [] }
theorem fk37 : FnOk Try.prog 37 Try.f37 I37 := ⟨Try.func37, by kernel_rfl, by kernel_rfl, by kernel_rfl, by kernel_rfl⟩
def S37_4 (x0 x1 : List Val) (x5 : Int) : St := [(0, .v false [.sl .ro .val x0]), (2, .v false [.sl .ro .val x1]), (10, .v false [.int .i64 x5])]
theorem p37_4_0 (x0 x1 : List Val) (x5 : Int) (r1 : Bool) : run tt (AbsCalls Try.prog) I37 3000 true (stkAt 4 I37.body) ⟨(S37_4 x0 x1 x5), [true, true], [xAb r1], []⟩ = some (.done (xAU false) [(decide ((x5 : Int) < (List.length x0 : Int))) = true, (0 : Int) ≤ x5 ∧ x5 < (List.length x0), (0 : Int) ≤ x5 ∧ x5 < (List.length x1), AbC 12 (xAf (List.getD x0 (Int.toNat x5) Ty.val.dflt) (List.getD x1 (Int.toNat x5) Ty.val.dflt)) (xAb r1), (!r1) = true]) := by kernel_rfl
theorem p37_4_1 (x0 x1 : List Val) (x5 : Int) (r1 : Bool) : run tt (AbsCalls Try.prog) I37 3000 true (stkAt 4 I37.body) ⟨(S37_4 x0 x1 x5), [true, false], [xAb r1], []⟩ = some (.stop (stkAt 4 I37.body) (S37_4 x0 x1 (IntKind.i64.wrap (x5 + 1))) [(decide ((x5 : Int) < (List.length x0 : Int))) = true, (0 : Int) ≤ x5 ∧ x5 < (List.length x0), (0 : Int) ≤ x5 ∧ x5 < (List.length x1), AbC 12 (xAf (List.getD x0 (Int.toNat x5) Ty.val.dflt) (List.getD x1 (Int.toNat x5) Ty.val.dflt)) (xAb r1), (!r1) = false]) := by kernel_rfl
theorem p37_4_2 (x0 x1 : List Val) (x5 : Int) : run tt (AbsCalls Try.prog) I37 3000 true (stkAt 4 I37.body) ⟨(S37_4 x0 x1 x5), [false], [], []⟩ = some (.done (xAU true) [(decide ((x5 : Int) < (List.length x0 : Int))) = false]) := by kernel_rfl
theorem p37_e_3 (a0 a1 : List Val) : run tt (AbsCalls Try.prog) I37 3000 false [.code I37.body] ⟨(zBi 0 (xBt a0 a1)), [true], [], []⟩ = some (.done (xAU false) [(((List.length a0 : Int) : Int) != (List.length a1 : Int)) = true]) := by kernel_rfl
theorem p37_e_4 (a0 a1 : List Val) : run tt (AbsCalls Try.prog) I37 3000 false [.code I37.body] ⟨(zBi 0 (xBt a0 a1)), [false], [], []⟩ = some (.stop (stkAt 4 I37.body) (S37_4 a0 a1 0) [(((List.length a0 : Int) : Int) != (List.length a1 : Int)) = false]) := by kernel_rfl
theorem c37_4 {N : Nat} {rc_laws_eqValue : Val → Val → Option (Bool)} (hrc_laws_eqValue : ∀ a0 a1 r, rc_laws_eqValue a0 a1 = some r → AbC 12 (xAf a0 a1) (xAb r)) {rc_laws_eqValueS : (List Val) → (List Val) → Option (Bool)} (hrc_laws_eqValueS : ∀ a0 a1 r, rc_laws_eqValueS a0 a1 = some r → AbC 37 (xBt a0 a1) (xAU r)) : ∀ n x0 x1 x5 r, xDH N rc_laws_eqValue rc_laws_eqValueS n x0 x1 x5 = some r → Reach Try.prog Try.f37 I37 (stkAt 4 I37.body) (S37_4 x0 x1 x5) (xAU r) := by
 intro n
 induction n with
 | zero => intro x0 x1 x5 r h; have h' : (none : Option (Bool)) = some r := h; cases h'
 | succ n ih =>
  intro x0 x1 x5 r h
  rw [xDH] at h
  rcases cond_inv h with ⟨h0, h⟩ | ⟨h0, h⟩
  ·obtain ⟨h1, h⟩ := ite_inv h
   obtain ⟨h2, h⟩ := ite_inv h
   obtain ⟨r1, h3, h⟩ := bind_inv h
   rcases cond_inv h with ⟨h4, h⟩ | ⟨h4, h⟩
   ·obtain rfl := Option.some.inj h
    exact Reach.done ttok mix fk37 (p37_4_0 x0 x1 x5 r1) (obs_cons h0 (obs_cons h1 (obs_cons h2 (obs_cons (hrc_laws_eqValue _ _ _ h3) (obs_cons h4 obs_nil)))))
   ·exact Reach.stop ttok mix fk37 (p37_4_1 x0 x1 x5 r1) (obs_cons h0 (obs_cons h1 (obs_cons h2 (obs_cons (hrc_laws_eqValue _ _ _ h3) (obs_cons h4 obs_nil))))) (ih _ _ _ _ h)
  ·obtain rfl := Option.some.inj h
   exact Reach.done ttok mix fk37 (p37_4_2 x0 x1 x5) (obs_cons h0 obs_nil)
theorem c37_e {N : Nat} {rc_laws_eqValue : Val → Val → Option (Bool)} (hrc_laws_eqValue : ∀ a0 a1 r, rc_laws_eqValue a0 a1 = some r → AbC 12 (xAf a0 a1) (xAb r)) {rc_laws_eqValueS : (List Val) → (List Val) → Option (Bool)} (hrc_laws_eqValueS : ∀ a0 a1 r, rc_laws_eqValueS a0 a1 = some r → AbC 37 (xBt a0 a1) (xAU r)) : ∀ a0 a1 r, xDz N rc_laws_eqValue rc_laws_eqValueS a0 a1 = some r → Reach Try.prog Try.f37 I37 [.code I37.body] (zBi 0 (xBt a0 a1)) (xAU r) := by
 intro a0 a1 r h
 unfold xDz at h
 rcases cond_inv h with ⟨h0, h⟩ | ⟨h0, h⟩
 ·obtain rfl := Option.some.inj h
  exact Reach.done ttok mix fk37 (p37_e_3 a0 a1) (obs_cons h0 obs_nil)
 ·exact Reach.stop ttok mix fk37 (p37_e_4 a0 a1) (obs_cons h0 obs_nil) (c37_4 hrc_laws_eqValue hrc_laws_eqValueS  _ _ _ _ _ h)
theorem xHP {N : Nat} {rc_laws_eqValue : Val → Val → Option (Bool)} (hrc_laws_eqValue : ∀ a0 a1 r, rc_laws_eqValue a0 a1 = some r → AbC 12 (xAf a0 a1) (xAb r)) {rc_laws_eqValueS : (List Val) → (List Val) → Option (Bool)} (hrc_laws_eqValueS : ∀ a0 a1 r, rc_laws_eqValueS a0 a1 = some r → AbC 37 (xBt a0 a1) (xAU r)) {a0 : List Val} {a1 : List Val} {r : Bool} (h : xDz N rc_laws_eqValue rc_laws_eqValueS a0 a1 = some r) : AbC 37 (xBt a0 a1) (xAU r) :=
 AbsCalls.of_reach fk37 rfl rfl (Nat.le_of_ble_eq_true rfl) (c37_e hrc_laws_eqValue hrc_laws_eqValueS a0 a1 r h)
theorem xIh {N : Nat} : ∀ d, (∀ a0 a1 r, (xBh N d).c_laws_eqValue a0 a1 = some r → AbC 12 (xAf a0 a1) (xAb r)) ∧ (∀ a0 a1 r, (xBh N d).c_laws_eqValueS a0 a1 = some r → AbC 37 (xBt a0 a1) (xAU r)) := by
 intro d
 induction d with
 | zero =>
  refine ⟨?_, ?_⟩ <;> (intros; rename_i h; cases h)
 | succ d ih =>
  obtain ⟨ih0, ih1⟩ := ih
  refine ⟨?_, ?_⟩
  ·intro _ _ r h; exact xHZ (N := N) ih0 ih1 h
  ·intro _ _ r h; exact xHP (N := N) ih0 ih1 h
theorem xAh {N : Nat} {a0 : Val} {a1 : Val} {r : Bool} (h : xA7 N a0 a1 = some r) : AbC 12 (xAf a0 a1) (xAb r) := (xIh N).1 _ _ r h
noncomputable def I78 : Info := { body := (Try.f78.body).getD .skip, nt := 20, results := [.tmp 2], keep := [0, 4, 6, 10, 14], live := [(4, [0, 6])], modes := [], ext := [], lnt := [], casts := [], fcast := [] }
theorem fk78 : FnOk Try.prog 78 Try.f78 I78 := ⟨Try.func78, by kernel_rfl, by kernel_rfl, by kernel_rfl, by kernel_rfl⟩
def S78_4 (x0 : Int) (x3 : Str) : St := [(0, .v false [.int .i64 x0]), (6, .v false [.str x3])]
theorem p78_4_0 (x0 : Int) (x3 : Str) : run tt (AbsCalls Try.prog) I78 3000 true (stkAt 4 I78.body) ⟨(S78_4 x0 x3), [true], [], []⟩ = some (.stop (stkAt 4 I78.body) (S78_4 (IntKind.i64.wrap (Int.tdiv x0 10)) ((List.map (fun n => UInt8.ofNat (Int.toNat n)) [(IntKind.u8.wrap ((IntKind.i64.wrap (48 + (Int.tmod x0 10)))))]) ++ x3)) [(decide ((x0 : Int) > 0)) = true, 10 ≠ (0 : Int), List.length (List.map (fun n => UInt8.ofNat (Int.toNat n)) [(IntKind.u8.wrap ((IntKind.i64.wrap (48 + (Int.tmod x0 10)))))]) + List.length x3 ≤ Lim, 10 ≠ (0 : Int)]) := by kernel_rfl
theorem p78_4_1 (x0 : Int) (x3 : Str) : run tt (AbsCalls Try.prog) I78 3000 true (stkAt 4 I78.body) ⟨(S78_4 x0 x3), [false], [], []⟩ = some (.done (xAN ([109] ++ x3)) [(decide ((x0 : Int) > 0)) = false, List.length [109] + List.length x3 ≤ Lim]) := by kernel_rfl
theorem p78_e_2 (a0 : Int) : run tt (AbsCalls Try.prog) I78 3000 false [.code I78.body] ⟨(zBi 0 (xBB a0)), [true], [], []⟩ = some (.done (xAN [109, 48]) [(decide ((a0 : Int) ≤ 0)) = true]) := by kernel_rfl
theorem p78_e_3 (a0 : Int) : run tt (AbsCalls Try.prog) I78 3000 false [.code I78.body] ⟨(zBi 0 (xBB a0)), [false], [], []⟩ = some (.stop (stkAt 4 I78.body) (S78_4 a0 []) [(decide ((a0 : Int) ≤ 0)) = false]) := by kernel_rfl
theorem c78_4 {N : Nat} : ∀ n x0 x3 r, xDN N n x0 x3 = some r → Reach Try.prog Try.f78 I78 (stkAt 4 I78.body) (S78_4 x0 x3) (xAN r) := by
 intro n
 induction n with
 | zero => intro x0 x3 r h; have h' : (none : Option (Str)) = some r := h; cases h'
 | succ n ih =>
  intro x0 x3 r h
  rw [xDN] at h
  rcases cond_inv h with ⟨h0, h⟩ | ⟨h0, h⟩
  ·obtain ⟨h2, h⟩ := ite_inv h
   exact Reach.stop ttok mix fk78 (p78_4_0 x0 x3) (obs_cons h0 (obs_cons (by decide) (obs_cons h2 (obs_cons (by decide) obs_nil)))) (ih _ _ _ h)
  ·obtain ⟨h1, h⟩ := ite_inv h
   obtain rfl := Option.some.inj h
   exact Reach.done ttok mix fk78 (p78_4_1 x0 x3) (obs_cons h0 (obs_cons h1 obs_nil))
theorem c78_e {N : Nat} : ∀ a0 r, xDp N a0 = some r → Reach Try.prog Try.f78 I78 [.code I78.body] (zBi 0 (xBB a0)) (xAN r) := by
 intro a0 r h
 unfold xDp at h
 rcases cond_inv h with ⟨h0, h⟩ | ⟨h0, h⟩
 ·obtain rfl := Option.some.inj h
  exact Reach.done ttok mix fk78 (p78_e_2 a0) (obs_cons h0 obs_nil)
 ·exact Reach.stop ttok mix fk78 (p78_e_3 a0) (obs_cons h0 obs_nil) (c78_4   _ _ _ _ h)
theorem xCz {N : Nat} {a0 : Int} {r : Str} (h : xDp N  a0 = some r) : AbC 78 (xBB a0) (xAN r) :=
 AbsCalls.of_reach fk78 rfl rfl (Nat.le_of_ble_eq_true rfl) (c78_e a0 r h)
noncomputable def xGt : Info := { body := (Try.f41.body).getD .skip, nt := 20, results := [.tmp 4], keep := [0, 2, 8, 10, 18], live := [(2, [0, 2, 10])], modes := [], ext := [], lnt := [], casts := [], fcast := [] }
theorem fk1000041 : FnOk Try.prog 41 Try.f41 xGt := ⟨Try.func41, by kernel_rfl, by kernel_rfl, by kernel_rfl, by kernel_rfl⟩
def S1000041_2 (x1 x5 : Int) : St := [(0, .v false [.sl .ro .str []]), (2, .v false [.int .i64 x1]), (10, .v false [.int .i64 x5])]
theorem p1000041_2_0 (x1 x5 : Int) : run tt (AbsCalls Try.prog) xGt 3000 true (stkAt 2 xGt.body) ⟨(S1000041_2 x1 x5), [false], [], []⟩ = some (.done (xCL x1) [(decide ((x5 : Int) < (0 : Int))) = false]) := by kernel_rfl
theorem p1000041_e_1 (a0 : List Str) (a1 : Int) : run tt (AbsCalls Try.prog) xGt 3000 false [.code xGt.body] ⟨(zBi 0 (xEq a0 a1)), [], [], []⟩ = some (.stop (stkAt 2 xGt.body) (S1000041_2 a1 0) []) := by kernel_rfl
theorem c1000041_2 {N : Nat} : ∀ n x1 x5 r, xEr N n x1 x5 = some r → Reach Try.prog Try.f41 xGt (stkAt 2 xGt.body) (S1000041_2 x1 x5) (xCL r) := by
 intro n
 induction n with
 | zero => intro x1 x5 r h; have h' : (none : Option (Int)) = some r := h; cases h'
 | succ n ih =>
  intro x1 x5 r h
  rw [xEr] at h
  rcases cond_inv h with ⟨h0, h⟩ | ⟨h0, h⟩
  ·obtain ⟨r1, h1, h⟩ := bind_inv h
   obtain ⟨h2, h⟩ := ite_inv h
   cases h
  ·obtain rfl := Option.some.inj h
   exact Reach.done ttok mix fk1000041 (p1000041_2_0 x1 x5) (obs_cons h0 obs_nil)
theorem c1000041_e {N : Nat} : ∀ a0 a1 r, xEp N a0 a1 = some r → Reach Try.prog Try.f41 xGt [.code xGt.body] (zBi 0 (xEq a0 a1)) (xCL r) := by
 intro a0 a1 r h
 unfold xEp at h
 exact Reach.stop ttok mix fk1000041 (p1000041_e_1 a0 a1) obs_nil (c1000041_2   _ _ _ _ h)
theorem xHQ {N : Nat} {a0 : List Str} {a1 : Int} {r : Int} (h : xEp N  a0 a1 = some r) : AbC 41 (xEq a0 a1) (xCL r) :=
 AbsCalls.of_reach fk1000041 rfl rfl (Nat.le_of_ble_eq_true rfl) (c1000041_e a0 a1 r h)
noncomputable def I41 : Info := { body := (Try.f41.body).getD .skip, nt := 20, results := [.tmp 4], keep := [0, 2, 8, 10, 18], live := [(2, [0, 2, 10])], modes := [(4, [(0, .ref, false)])], ext := [], lnt := [(0, 0)], casts := [], fcast := [] }
theorem fk41 : FnOk Try.prog 41 Try.f41 I41 := ⟨Try.func41, by kernel_rfl, by kernel_rfl, by kernel_rfl, by kernel_rfl⟩
def S41_2 (x0 : List Str) (x1 x5 : Int) : St := [(0, .v false [.sl (.lnt 0) .str x0]), (2, .v false [.int .i64 x1]), (10, .v false [.int .i64 x5])]
theorem p41_2_0 (x0 : List Str) (x1 x5 : Int) (r1 : Str) : run tt (AbsCalls Try.prog) I41 3000 true (stkAt 2 I41.body) ⟨(S41_2 x0 x1 x5), [true], [xAN r1], []⟩ = some (.stop (stkAt 2 I41.body) (S41_2 (List.set x0 (Int.toNat x5) r1) (IntKind.i64.wrap (x1 + 1)) (IntKind.i64.wrap (x5 + 1))) [(decide ((x5 : Int) < (List.length x0 : Int))) = true, AbC 78 (xBB x1) (xAN r1), (0 : Int) ≤ x5 ∧ x5 < (List.length x0)]) := by kernel_rfl
theorem p41_2_1 (x0 : List Str) (x1 x5 : Int) : run tt (AbsCalls Try.prog) I41 3000 true (stkAt 2 I41.body) ⟨(S41_2 x0 x1 x5), [false], [], []⟩ = some (.done (xCh (x1, x0)) [(decide ((x5 : Int) < (List.length x0 : Int))) = false]) := by kernel_rfl
theorem p41_e_2 (a0 : List Str) (a1 : Int) : run tt (AbsCalls Try.prog) I41 3000 false [.code I41.body] ⟨(zBi 0 (xEa a0 a1)), [], [], []⟩ = some (.stop (stkAt 2 I41.body) (S41_2 a0 a1 0) []) := by kernel_rfl
theorem c41_2 {N : Nat} : ∀ n x0 x1 x5 r, xCG N n x0 x1 x5 = some r → Reach Try.prog Try.f41 I41 (stkAt 2 I41.body) (S41_2 x0 x1 x5) (xCh r) := by
 intro n
 induction n with
 | zero => intro x0 x1 x5 r h; have h' : (none : Option (Int × (List Str))) = some r := h; cases h'
 | succ n ih =>
  intro x0 x1 x5 r h
  rw [xCG] at h
  rcases cond_inv h with ⟨h0, h⟩ | ⟨h0, h⟩
  ·obtain ⟨r1, h1, h⟩ := bind_inv h
   obtain ⟨h2, h⟩ := ite_inv h
   exact Reach.stop ttok mix fk41 (p41_2_0 x0 x1 x5 r1) (obs_cons h0 (obs_cons (xCz h1) (obs_cons h2 obs_nil))) (ih _ _ _ _ h)
  ·obtain rfl := Option.some.inj h
   exact Reach.done ttok mix fk41 (p41_2_1 x0 x1 x5) (obs_cons h0 obs_nil)
theorem c41_e {N : Nat} : ∀ a0 a1 r, xEj N a0 a1 = some r → Reach Try.prog Try.f41 I41 [.code I41.body] (zBi 0 (xEa a0 a1)) (xCh r) := by
 intro a0 a1 r h
 unfold xEj at h
 exact Reach.stop ttok mix fk41 (p41_e_2 a0 a1) obs_nil (c41_2   _ _ _ _ _ h)
theorem xGY {N : Nat} {a0 : List Str} {a1 : Int} {r : Int × (List Str)} (h : xEj N  a0 a1 = some r) : AbC 41 (xEa a0 a1) (xCh r) :=
 AbsCalls.of_reach fk41 rfl rfl (Nat.le_of_ble_eq_true rfl) (c41_e a0 a1 r h)
noncomputable def I79 : Info := { body := (Try.f79.body).getD .skip, nt := 19, results := [.tmp 4], keep := [0, 2, 8, 10, 18], live := [(2, [0, 2, 10])], modes := [(4, [(0, .ref, false)])], ext := [], lnt := [(0, 0)], casts := [], fcast := [] }
theorem fk79 : FnOk Try.prog 79 Try.f79 I79 := ⟨Try.func79, by kernel_rfl, by kernel_rfl, by kernel_rfl, by kernel_rfl⟩
def S79_2 (x0 : List Int) (x1 x5 : Int) : St := [(0, .v false [.sl (.lnt 0) .int x0]), (2, .v false [.int .i64 x1]), (10, .v false [.int .i64 x5])]
theorem p79_2_0 (x0 : List Int) (x1 x5 : Int) : run tt (AbsCalls Try.prog) I79 3000 true (stkAt 2 I79.body) ⟨(S79_2 x0 x1 x5), [true], [], []⟩ = some (.stop (stkAt 2 I79.body) (S79_2 (List.set x0 (Int.toNat x5) x1) (IntKind.i64.wrap (x1 + 1)) (IntKind.i64.wrap (x5 + 1))) [(decide ((x5 : Int) < (List.length x0 : Int))) = true, (0 : Int) ≤ x5 ∧ x5 < (List.length x0)]) := by kernel_rfl
theorem p79_2_1 (x0 : List Int) (x1 x5 : Int) : run tt (AbsCalls Try.prog) I79 3000 true (stkAt 2 I79.body) ⟨(S79_2 x0 x1 x5), [false], [], []⟩ = some (.done (xEi (x1, x0)) [(decide ((x5 : Int) < (List.length x0 : Int))) = false]) := by kernel_rfl
theorem p79_e_2 (a0 : List Int) (a1 : Int) : run tt (AbsCalls Try.prog) I79 3000 false [.code I79.body] ⟨(zBi 0 (xFX a0 a1)), [], [], []⟩ = some (.stop (stkAt 2 I79.body) (S79_2 a0 a1 0) []) := by kernel_rfl
theorem c79_2 {N : Nat} : ∀ n x0 x1 x5 r, xDL N n x0 x1 x5 = some r → Reach Try.prog Try.f79 I79 (stkAt 2 I79.body) (S79_2 x0 x1 x5) (xEi r) := by
 intro n
 induction n with
 | zero => intro x0 x1 x5 r h; have h' : (none : Option (Int × (List Int))) = some r := h; cases h'
 | succ n ih =>
  intro x0 x1 x5 r h
  rw [xDL] at h
  rcases cond_inv h with ⟨h0, h⟩ | ⟨h0, h⟩
  ·obtain ⟨h1, h⟩ := ite_inv h
   exact Reach.stop ttok mix fk79 (p79_2_0 x0 x1 x5) (obs_cons h0 (obs_cons h1 obs_nil)) (ih _ _ _ _ h)
  ·obtain rfl := Option.some.inj h
   exact Reach.done ttok mix fk79 (p79_2_1 x0 x1 x5) (obs_cons h0 obs_nil)
theorem c79_e {N : Nat} : ∀ a0 a1 r, xF9 N a0 a1 = some r → Reach Try.prog Try.f79 I79 [.code I79.body] (zBi 0 (xFX a0 a1)) (xEi r) := by
 intro a0 a1 r h
 unfold xF9 at h
 exact Reach.stop ttok mix fk79 (p79_e_2 a0 a1) obs_nil (c79_2   _ _ _ _ _ h)
theorem laws_markIntS_ok {N : Nat} {a0 : List Int} {a1 : Int} {r : Int × (List Int)} (h : xF9 N  a0 a1 = some r) : AbC 79 (xFX a0 a1) (xEi r) :=
 AbsCalls.of_reach fk79 rfl rfl (Nat.le_of_ble_eq_true rfl) (c79_e a0 a1 r h)
noncomputable def xGu : Info := { body := (Try.f42.body).getD .skip, nt := 27, results := [.tmp 4], keep := [0, 2, 8, 10, 18], live := [(2, [0, 2, 10])], modes := [], ext := [], lnt := [], casts := [], fcast := [] }
theorem fk1000042 : FnOk Try.prog 42 Try.f42 xGu := ⟨Try.func42, by kernel_rfl, by kernel_rfl, by kernel_rfl, by kernel_rfl⟩
def S1000042_2 (x1 x5 : Int) : St := [(0, .v false [.sl .ro .row []]), (2, .v false [.int .i64 x1]), (10, .v false [.int .i64 x5])]
theorem p1000042_2_0 (x1 x5 : Int) : run tt (AbsCalls Try.prog) xGu 3000 true (stkAt 2 xGu.body) ⟨(S1000042_2 x1 x5), [false], [], []⟩ = some (.done (xDA x1) [(decide ((x5 : Int) < (0 : Int))) = false]) := by kernel_rfl
theorem p1000042_e_1 (a0 : List Rowd) (a1 : Int) : run tt (AbsCalls Try.prog) xGu 3000 false [.code xGu.body] ⟨(zBi 0 (xFn a0 a1)), [], [], []⟩ = some (.stop (stkAt 2 xGu.body) (S1000042_2 a1 0) []) := by kernel_rfl
theorem c1000042_2 {N : Nat} : ∀ n x1 x5 r, xFo N n x1 x5 = some r → Reach Try.prog Try.f42 xGu (stkAt 2 xGu.body) (S1000042_2 x1 x5) (xDA r) := by
 intro n
 induction n with
 | zero => intro x1 x5 r h; have h' : (none : Option (Int)) = some r := h; cases h'
 | succ n ih =>
  intro x1 x5 r h
  rw [xFo] at h
  rcases cond_inv h with ⟨h0, h⟩ | ⟨h0, h⟩
  ·obtain ⟨h1, h⟩ := ite_inv h
   cases h
  ·obtain rfl := Option.some.inj h
   exact Reach.done ttok mix fk1000042 (p1000042_2_0 x1 x5) (obs_cons h0 obs_nil)
theorem c1000042_e {N : Nat} : ∀ a0 a1 r, xFx N a0 a1 = some r → Reach Try.prog Try.f42 xGu [.code xGu.body] (zBi 0 (xFn a0 a1)) (xDA r) := by
 intro a0 a1 r h
 unfold xFx at h
 exact Reach.stop ttok mix fk1000042 (p1000042_e_1 a0 a1) obs_nil (c1000042_2   _ _ _ _ h)
theorem laws_markRowS_E_ok {N : Nat} {a0 : List Rowd} {a1 : Int} {r : Int} (h : xFx N  a0 a1 = some r) : AbC 42 (xFn a0 a1) (xDA r) :=
 AbsCalls.of_reach fk1000042 rfl rfl (Nat.le_of_ble_eq_true rfl) (c1000042_e a0 a1 r h)
noncomputable def I1000013 : Info := { body := (Try.f13.body).getD .skip, nt := 18, results := [.tmp 4], keep := [0, 2, 4, 8, 5], live := [], modes := [], ext := [], lnt := [], casts := [], fcast := [] }
theorem fk1000013 : FnOk Try.prog 13 Try.f13 I1000013 := ⟨Try.func13, by kernel_rfl, by kernel_rfl, by kernel_rfl, by kernel_rfl⟩
theorem p1000013_e_0 (a0 : Val) (a1 r1 r2 r3 : Int) : run tt (AbsCalls Try.prog) I1000013 3000 false [.code I1000013.body] ⟨(zBi 0 (xBf a0 a1)), [], [xC5 r1, xCL r2, xDA r3], []⟩ = some (.done (xAI r3) [AbC 40 (xED [] a1) (xC5 r1), AbC 41 (xEq [] r1) (xCL r2), AbC 42 (xFn [] r2) (xDA r3)]) := by kernel_rfl
theorem c1000013_e {N : Nat} : ∀ a0 a1 r, xDO N a0 a1 = some r → Reach Try.prog Try.f13 I1000013 [.code I1000013.body] (zBi 0 (xBf a0 a1)) (xAI r) := by
 intro a0 a1 r h
 unfold xDO at h
 obtain ⟨r1, h0, h⟩ := bind_inv h
 obtain ⟨r2, h1, h⟩ := bind_inv h
 obtain ⟨r3, h2, h⟩ := bind_inv h
 obtain rfl := Option.some.inj h
 exact Reach.done ttok mix fk1000013 (p1000013_e_0 a0 a1 r1 r2 r3) (obs_cons (xH0 h0) (obs_cons (xHQ h1) (obs_cons (laws_markRowS_E_ok h2) obs_nil)))
theorem xBJ {N : Nat} {a0 : Val} {a1 : Int} {r : Int} (h : xDO N  a0 a1 = some r) : AbC 13 (xBf a0 a1) (xAI r) :=
 AbsCalls.of_reach fk1000013 rfl rfl (Nat.le_of_ble_eq_true rfl) (c1000013_e a0 a1 r h)
end Go.Ab.T
end
