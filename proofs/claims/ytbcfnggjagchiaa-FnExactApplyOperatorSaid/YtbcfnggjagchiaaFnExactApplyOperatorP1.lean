/- The statement FnExactApplyOperator holds: plain functions, certificates, laws. Conditions: none. -/
import Derived.Test.YtbcfnggjagchiaaL2
import Derived.Test.YtbcfnggjagchiaaFnExactApplyOperatorP0
set_option linter.all false
section
open Go.Proofs
namespace Go.Ab.T
set_option linter.unusedVariables false
set_option maxRecDepth 100000
def tt : TT := [(3, { zero := some [.int .i64 0], ik := some .i64 }),
 (4, { zero := some [.bool false], isBool := true }),
 (5, { zero := some [.int .u8 0], ik := some .u8 }),
 (9, { zero := some [.str []], isStr := true }),
 (22, { zero := some [.sl .own .val []], elem := some (26, .val) }),
 (23, { zero := some [.sl .own .str []], elem := some (9, .str) }),
 (24, { zero := some [.sl .own .row []], elem := some (133, .row) }),
 (26, { sz := 7, agg := true, zero := some [.int .i64 0, .int .i64 0, .int .i64 0, .str [], .sl .own .val [], .sl .own .str [], .sl .own .row []], offs := [0, 1, 2, 3, 4, 5, 6], fsz := [1, 1, 1, 1, 1, 1, 1] }),
 (28, { zero := some [.sl .own .val []], elem := some (31, .val) }),
 (29, { zero := some [.sl .own .row []], elem := some (107, .row) }),
 (31, { sz := 7, agg := true, zero := some [.int .i64 0, .int .i64 0, .int .i64 0, .str [], .sl .own .val [], .sl .own .str [], .sl .own .row []], offs := [0, 1, 2, 3, 4, 5, 6], fsz := [1, 1, 1, 1, 1, 1, 1] }),
 (49, { sz := 11, agg := true, zero := some [.int .i64 0, .int .i64 0, .int .i64 0, .str [], .int .i64 0, .int .i64 0, .int .i64 0, .str [], .sl .own .val [], .sl .own .str [], .sl .own .row []], offs := [0, 1, 2, 3, 4], fsz := [1, 1, 1, 1, 7] }),
 (56, { zero := some [.sl .own .byte []], elem := some (5, .byte) }),
 (58, { zero := some [.sl .own .fil []], elem := some (69, .fil) }),
 (60, { sz := 3, agg := true, zero := some [.int .i64 0, .int .i64 0, .sl .own .fil []], offs := [0, 1, 2], fsz := [1, 1, 1] }),
 (69, { sz := 2, agg := true, zero := some [.str [], .int .i64 0], offs := [0, 1], fsz := [1, 1] }),
 (75, { zero := some [.sl .own .bnd []], elem := some (125, .bnd) }),
 (102, { zero := some [.sl .own .int []], elem := some (3, .int) }),
 (105, { zero := some [.sl .own .org []], elem := some (156, .org) }),
 (107, { sz := 2, agg := true, zero := some [.sl .own .int [], .sl .own .org []], offs := [0, 1], fsz := [1, 1] }),
 (125, { sz := 8, agg := true, zero := some [.str [], .int .i64 0, .int .i64 0, .int .i64 0, .str [], .sl .own .val [], .sl .own .str [], .sl .own .row []], offs := [0, 1], fsz := [1, 7] }),
 (131, { zero := some [.sl .own .org []], elem := some (165, .org) }),
 (133, { sz := 2, agg := true, zero := some [.sl .own .int [], .sl .own .org []], offs := [0, 1], fsz := [1, 1] }),
 (141, { sz := 3, agg := true, zero := some [.sl .own .byte [], .int .i64 0, .int .i64 0], offs := [0, 1, 2], fsz := [1, 1, 1] }),
 (156, { sz := 2, agg := true, zero := some [.int .i64 0, .int .i64 0], offs := [0, 1], fsz := [1, 1], same := true }),
 (165, { sz := 2, agg := true, zero := some [.int .i64 0, .int .i64 0], offs := [0, 1], fsz := [1, 1], same := true })]
theorem ttok : TTok Try.prog tt := ttChk_ok (by kernel_rfl)
theorem mix : Try.prog.follows .mixedOrders = true := by kernel_rfl
def F : Bool := false
def Y : Bool := true
noncomputable def rE (I : Info) (ag : List Arg) (bs : List Bool) (cs : List CallO) : Option Res := run tt (AbsCalls Try.prog) I 3000 false [.code I.body] ⟨zBn 0 ag, bs, cs, []⟩
noncomputable def rS (k : Nat) (I : Info) (σ : St) (bs : List Bool) (cs : List CallO) : Option Res := run tt (AbsCalls Try.prog) I 3000 true (stkAt k I.body) ⟨σ, bs, cs, []⟩
noncomputable def dn (r : CallO) (ob : List Prop) : Option Res := some (.done r ob)
noncomputable def st (k : Nat) (I : Info) (σ : St) (ob : List Prop) : Option Res := some (.stop (stkAt k I.body) σ ob)
def RE (fn : Func) (I : Info) (ag : List Arg) (r : CallO) : Prop := Reach Try.prog fn I [.code I.body] (zBn 0 ag) r
def RS (fn : Func) (I : Info) (k : Nat) (σ : St) (r : CallO) : Prop := Reach Try.prog fn I (stkAt k I.body) σ r
section
variable {ρ : Type} {f : FuncId} {fn : Func} {I : Info} {ag : List Arg} {bs : List Bool} {cs : List CallO} {k j : Nat} {σ σ' : St} {ob : List Prop} {ro : ρ → CallO} {x r : ρ} {q : CallO}
theorem dE (e : some x = some r) (hf : FnOk Try.prog f fn I) (h : rE I ag bs cs = dn (ro x) ob) (o : ∀ p ∈ ob, p) : RE fn I ag (ro r) := by
 cases e; exact Reach.done ttok mix hf h o
theorem dS (e : some x = some r) (hf : FnOk Try.prog f fn I) (h : rS k I σ bs cs = dn (ro x) ob) (o : ∀ p ∈ ob, p) : RS fn I k σ (ro r) := by
 cases e; exact Reach.done ttok mix hf h o
theorem tE (hf : FnOk Try.prog f fn I) (h : rE I ag bs cs = st k I σ ob) (o : ∀ p ∈ ob, p) (t : RS fn I k σ q) : RE fn I ag q := Reach.stop ttok mix hf h o t
theorem tS (hf : FnOk Try.prog f fn I) (h : rS j I σ' bs cs = st k I σ ob) (o : ∀ p ∈ ob, p) (t : RS fn I k σ q) : RS fn I j σ' q := Reach.stop ttok mix hf h o t
end
theorem oc {p : Prop} {l : List Prop} (h : p) (t : ∀ q ∈ l, q) : ∀ q ∈ p :: l, q := obs_cons h t
theorem on : ∀ q ∈ ([] : List Prop), q := obs_nil
theorem cE {α : Type} {C : Prop} {b : Bool} {x y : Option α} {r : α} (h : cond b x y = some r) (f : b = true → x = some r → C) (g : b = false → y = some r → C) : C := (cond_inv h).elim (fun h => f h.1 h.2) fun h => g h.1 h.2
theorem bE {α β : Type} {C : Prop} {o : Option α} {f : α → Option β} {r : β} (h : Option.bind o f = some r) (g : ∀ a, o = some a → f a = some r → C) : C := (bind_inv h).elim fun a h => g a h.1 h.2
theorem iE {α : Type} {C p : Prop} [Decidable p] {x : Option α} {r : α} (h : (if p then x else none) = some r) (g : p → x = some r → C) : C := (ite_inv h).elim g
theorem nE {α : Type} {C : Prop} {r : α} (h : none = some r) : C := nomatch h
noncomputable def xIP : Info := { body := (Try.f75.body).getD .skip, nt := 63, results := [.tmp 4], keep := [0, 2, 8, 10, 18], live := [(2, [0, 2, 10])], modes := [] }
theorem fk1000075 : FnOk Try.prog 75 Try.f75 xIP := ⟨Try.func75, by kernel_rfl, by kernel_rfl, by kernel_rfl, by kernel_rfl⟩
def S1000075_2 (x1 x5 : Int) : St := [(0, .v false [.sl .ro .val []]), (2, .v false [.int .i64 x1]), (10, .v false [.int .i64 x5])]
theorem p1000075_2_0 (x1 x5 : Int) : rS 2 xIP (S1000075_2 x1 x5) [F] [] = dn (xC0 x1) [(decide ((x5 : Int) < (0 : Int))) = false] := by kernel_rfl
theorem p1000075_e_1 (a0 : List Val) (a1 : Int) : rE xIP (xEL a0 a1) [] [] = st 2 xIP (S1000075_2 a1 0) [] := by kernel_rfl
theorem c1000075_2 {N : Nat} : ∀ n x1 x5 r, xFY N n x1 x5 = some r → RS Try.f75 xIP 2 (S1000075_2 x1 x5) (xC0 r) := by
 intro n
 induction n with
 | zero => exact fun _ _ _ h => nE h
 | succ n ih =>
  exact fun x1 x5 r h =>
   cE h (fun h0 h => iE h fun h1 h => nE h) fun h0 h =>
   dS h fk1000075 (p1000075_2_0 x1 x5) (oc h0 on)
theorem c1000075_e {N : Nat} : ∀ a0 a1 r, xFN N a0 a1 = some r → RE Try.f75 xIP (xEL a0 a1) (xC0 r) := fun a0 a1 r h =>
 tE fk1000075 (p1000075_e_1 a0 a1) on (c1000075_2 _ _ _ _ h)
theorem xIX {N : Nat} {a0 : List Val} {a1 : Int} {r : Int} (h : xFN N  a0 a1 = some r) : AbC 75 (xEL a0 a1) (xC0 r) :=
 AbsCalls.of_reach fk1000075 rfl rfl (Nat.le_of_ble_eq_true rfl) (c1000075_e a0 a1 r h)
noncomputable def I54 : Info := { body := (Try.f54.body).getD .skip, nt := 28, results := [.tmp 4], keep := [0, 2, 8, 10, 22, 30, 52], live := [(5, [0, 2, 10])], modes := [] }
theorem fk54 : FnOk Try.prog 54 Try.f54 I54 := ⟨Try.func54, by kernel_rfl, by kernel_rfl, by kernel_rfl, by kernel_rfl⟩
def S54_5 (x0 : List Str) (x1 x5 : Int) : St := [(0, .v false [.sl .ro .str x0]), (2, .v false [.int .i64 x1]), (10, .v false [.int .i64 x5])]
theorem p54_5_0 (x0 : List Str) (x1 x5 : Int) : rS 5 I54 (S54_5 x0 x1 x5) [Y, Y] [] = dn (xBH (-1)) [(decide ((x5 : Int) < (Ln x0 : Int))) = true, (0 : Int) ≤ x5 ∧ x5 < (Ln x0), (decide (((W (x1 - (Ln (gD x0 (tN x5) Ty.str.dflt) : Int))) : Int) < 0)) = true] := by kernel_rfl
theorem p54_5_1 (x0 : List Str) (x1 x5 : Int) : rS 5 I54 (S54_5 x0 x1 x5) [Y, F] [] = st 5 I54 (S54_5 x0 (W (x1 - (Ln (gD x0 (tN x5) Ty.str.dflt) : Int))) (W (x5 + 1))) [(decide ((x5 : Int) < (Ln x0 : Int))) = true, (0 : Int) ≤ x5 ∧ x5 < (Ln x0), (decide (((W (x1 - (Ln (gD x0 (tN x5) Ty.str.dflt) : Int))) : Int) < 0)) = false] := by kernel_rfl
theorem p54_5_2 (x0 : List Str) (x1 x5 : Int) : rS 5 I54 (S54_5 x0 x1 x5) [F] [] = dn (xBH x1) [(decide ((x5 : Int) < (Ln x0 : Int))) = false] := by kernel_rfl
theorem p54_e_3 (a0 : List Str) (a1 : Int) : rE I54 (xDn a0 a1) [Y] [] = dn (xBH (-1)) [(decide (((W (a1 - (Ln a0 : Int))) : Int) < 0)) = true] := by kernel_rfl
theorem p54_e_4 (a0 : List Str) (a1 : Int) : rE I54 (xDn a0 a1) [F] [] = st 5 I54 (S54_5 a0 (W (a1 - (Ln a0 : Int))) 0) [(decide (((W (a1 - (Ln a0 : Int))) : Int) < 0)) = false] := by kernel_rfl
theorem c54_5 {N : Nat} : ∀ n x0 x1 x5 r, xFO N n x0 x1 x5 = some r → RS Try.f54 I54 5 (S54_5 x0 x1 x5) (xBH r) := by
 intro n
 induction n with
 | zero => exact fun _ _ _ _ h => nE h
 | succ n ih =>
  exact fun x0 x1 x5 r h =>
   cE h (fun h0 h => iE h fun h1 h => cE h (fun h2 h => dS h fk54 (p54_5_0 x0 x1 x5) (oc h0 (oc h1 (oc h2 on)))) fun h2 h =>
   tS fk54 (p54_5_1 x0 x1 x5) (oc h0 (oc h1 (oc h2 on))) (ih _ _ _ _ h)) fun h0 h =>
   dS h fk54 (p54_5_2 x0 x1 x5) (oc h0 on)
theorem c54_e {N : Nat} : ∀ a0 a1 r, xG0 N a0 a1 = some r → RE Try.f54 I54 (xDn a0 a1) (xBH r) := fun a0 a1 r h =>
 cE h (fun h0 h => dE h fk54 (p54_e_3 a0 a1) (oc h0 on)) fun h0 h =>
 tE fk54 (p54_e_4 a0 a1) (oc h0 on) (c54_5 _ _ _ _ _ h)
theorem xGO {N : Nat} {a0 : List Str} {a1 : Int} {r : Int} (h : xG0 N  a0 a1 = some r) : AbC 54 (xDn a0 a1) (xBH r) :=
 AbsCalls.of_reach fk54 rfl rfl (Nat.le_of_ble_eq_true rfl) (c54_e a0 a1 r h)
noncomputable def I162 : Info := { body := (Try.f162.body).getD .skip, nt := 12, results := [.tmp 4], keep := [0, 2, 8, 20], live := [], modes := [] }
theorem fk162 : FnOk Try.prog 162 Try.f162 I162 := ⟨Try.func162, by kernel_rfl, by kernel_rfl, by kernel_rfl, by kernel_rfl⟩
theorem p162_e_0 (a0 : List Int) (a1 : Int) : rE I162 (xEG a0 a1) [Y] [] = dn (xCP (-1)) [(decide (((W (a1 - (Ln a0 : Int))) : Int) < 0)) = true] := by kernel_rfl
theorem p162_e_1 (a0 : List Int) (a1 : Int) : rE I162 (xEG a0 a1) [F] [] = dn (xCP (W (a1 - (Ln a0 : Int)))) [(decide (((W (a1 - (Ln a0 : Int))) : Int) < 0)) = false] := by kernel_rfl
theorem c162_e {N : Nat} : ∀ a0 a1 r, xIo N a0 a1 = some r → RE Try.f162 I162 (xEG a0 a1) (xCP r) := fun a0 a1 r h =>
 cE h (fun h0 h => dE h fk162 (p162_e_0 a0 a1) (oc h0 on)) fun h0 h =>
 dE h fk162 (p162_e_1 a0 a1) (oc h0 on)
theorem xH1 {N : Nat} {a0 : List Int} {a1 : Int} {r : Int} (h : xIo N  a0 a1 = some r) : AbC 162 (xEG a0 a1) (xCP r) :=
 AbsCalls.of_reach fk162 rfl rfl (Nat.le_of_ble_eq_true rfl) (c162_e a0 a1 r h)
noncomputable def I163 : Info := { body := (Try.f163.body).getD .skip, nt := 12, results := [.tmp 4], keep := [0, 2, 8, 20], live := [], modes := [] }
theorem fk163 : FnOk Try.prog 163 Try.f163 I163 := ⟨Try.func163, by kernel_rfl, by kernel_rfl, by kernel_rfl, by kernel_rfl⟩
theorem p163_e_0 (a0 : List Org) (a1 : Int) : rE I163 (xDU a0 a1) [Y] [] = dn (xCM (-1)) [(decide (((W (a1 - (Ln a0 : Int))) : Int) < 0)) = true] := by kernel_rfl
theorem p163_e_1 (a0 : List Org) (a1 : Int) : rE I163 (xDU a0 a1) [F] [] = dn (xCM (W (a1 - (Ln a0 : Int)))) [(decide (((W (a1 - (Ln a0 : Int))) : Int) < 0)) = false] := by kernel_rfl
theorem c163_e {N : Nat} : ∀ a0 a1 r, xGY N a0 a1 = some r → RE Try.f163 I163 (xDU a0 a1) (xCM r) := fun a0 a1 r h =>
 cE h (fun h0 h => dE h fk163 (p163_e_0 a0 a1) (oc h0 on)) fun h0 h =>
 dE h fk163 (p163_e_1 a0 a1) (oc h0 on)
theorem xH8 {N : Nat} {a0 : List Org} {a1 : Int} {r : Int} (h : xGY N  a0 a1 = some r) : AbC 163 (xDU a0 a1) (xCM r) :=
 AbsCalls.of_reach fk163 rfl rfl (Nat.le_of_ble_eq_true rfl) (c163_e a0 a1 r h)
noncomputable def I126 : Info := { body := (Try.f126.body).getD .skip, nt := 18, results := [.tmp 4], keep := [0, 2, 4, 8, 20, 32, 5], live := [], modes := [] }
theorem fk126 : FnOk Try.prog 126 Try.f126 I126 := ⟨Try.func126, by kernel_rfl, by kernel_rfl, by kernel_rfl, by kernel_rfl⟩
theorem p126_e_0 (a0 : Rowd) (a1 r1 : Int) : rE I126 (xE5 a0 a1) [Y] [xCP r1] = dn (xDN (-1)) [AbC 162 (xEG (Rowd.cells a0) a1) (xCP r1), (decide ((r1 : Int) < 0)) = true] := by kernel_rfl
theorem p126_e_1 (a0 : Rowd) (a1 r1 r2 : Int) : rE I126 (xE5 a0 a1) [F, Y] [xCP r1, xCM r2] = dn (xDN (-1)) [AbC 162 (xEG (Rowd.cells a0) a1) (xCP r1), (decide ((r1 : Int) < 0)) = false, AbC 163 (xDU (Rowd.frm a0) r1) (xCM r2), (decide ((r2 : Int) < 0)) = true] := by kernel_rfl
theorem p126_e_2 (a0 : Rowd) (a1 r1 r2 : Int) : rE I126 (xE5 a0 a1) [F, F] [xCP r1, xCM r2] = dn (xDN r2) [AbC 162 (xEG (Rowd.cells a0) a1) (xCP r1), (decide ((r1 : Int) < 0)) = false, AbC 163 (xDU (Rowd.frm a0) r1) (xCM r2), (decide ((r2 : Int) < 0)) = false] := by kernel_rfl
theorem c126_e {N : Nat} : ∀ a0 a1 r, xH9 N a0 a1 = some r → RE Try.f126 I126 (xE5 a0 a1) (xDN r) := fun a0 a1 r h =>
 bE h fun r1 h0 h => cE h (fun h1 h => dE h fk126 (p126_e_0 a0 a1 r1) (oc (xH1 h0) (oc h1 on))) fun h1 h =>
 bE h fun r2 h2 h => cE h (fun h3 h => dE h fk126 (p126_e_1 a0 a1 r1 r2) (oc (xH1 h0) (oc h1 (oc (xH8 h2) (oc h3 on))))) fun h3 h =>
 dE h fk126 (p126_e_2 a0 a1 r1 r2) (oc (xH1 h0) (oc h1 (oc (xH8 h2) (oc h3 on))))
theorem laws_szRow_ok {N : Nat} {a0 : Rowd} {a1 : Int} {r : Int} (h : xH9 N  a0 a1 = some r) : AbC 126 (xE5 a0 a1) (xDN r) :=
 AbsCalls.of_reach fk126 rfl rfl (Nat.le_of_ble_eq_true rfl) (c126_e a0 a1 r h)
noncomputable def I55 : Info := { body := (Try.f55.body).getD .skip, nt := 27, results := [.tmp 4], keep := [0, 2, 8, 10, 22, 30, 50], live := [(5, [0, 2, 10])], modes := [] }
theorem fk55 : FnOk Try.prog 55 Try.f55 I55 := ⟨Try.func55, by kernel_rfl, by kernel_rfl, by kernel_rfl, by kernel_rfl⟩
def S55_5 (x0 : List Rowd) (x1 x5 : Int) : St := [(0, .v false [.sl .ro .row x0]), (2, .v false [.int .i64 x1]), (10, .v false [.int .i64 x5])]
theorem p55_5_0 (x0 : List Rowd) (x1 x5 r1 : Int) : rS 5 I55 (S55_5 x0 x1 x5) [Y, Y] [xDN r1] = dn (xCQ (-1)) [(decide ((x5 : Int) < (Ln x0 : Int))) = true, (0 : Int) ≤ x5 ∧ x5 < (Ln x0), AbC 126 (xE5 (gD x0 (tN x5) rd) x1) (xDN r1), (decide ((r1 : Int) < 0)) = true] := by kernel_rfl
theorem p55_5_1 (x0 : List Rowd) (x1 x5 r1 : Int) : rS 5 I55 (S55_5 x0 x1 x5) [Y, F] [xDN r1] = st 5 I55 (S55_5 x0 r1 (W (x5 + 1))) [(decide ((x5 : Int) < (Ln x0 : Int))) = true, (0 : Int) ≤ x5 ∧ x5 < (Ln x0), AbC 126 (xE5 (gD x0 (tN x5) rd) x1) (xDN r1), (decide ((r1 : Int) < 0)) = false] := by kernel_rfl
theorem p55_5_2 (x0 : List Rowd) (x1 x5 : Int) : rS 5 I55 (S55_5 x0 x1 x5) [F] [] = dn (xCQ x1) [(decide ((x5 : Int) < (Ln x0 : Int))) = false] := by kernel_rfl
theorem p55_e_3 (a0 : List Rowd) (a1 : Int) : rE I55 (xFl a0 a1) [Y] [] = dn (xCQ (-1)) [(decide (((W (a1 - (Ln a0 : Int))) : Int) < 0)) = true] := by kernel_rfl
theorem p55_e_4 (a0 : List Rowd) (a1 : Int) : rE I55 (xFl a0 a1) [F] [] = st 5 I55 (S55_5 a0 (W (a1 - (Ln a0 : Int))) 0) [(decide (((W (a1 - (Ln a0 : Int))) : Int) < 0)) = false] := by kernel_rfl
theorem c55_5 {N : Nat} : ∀ n x0 x1 x5 r, xGZ N n x0 x1 x5 = some r → RS Try.f55 I55 5 (S55_5 x0 x1 x5) (xCQ r) := by
 intro n
 induction n with
 | zero => exact fun _ _ _ _ h => nE h
 | succ n ih =>
  exact fun x0 x1 x5 r h =>
   cE h (fun h0 h => iE h fun h1 h => bE h fun r1 h2 h => cE h (fun h3 h => dS h fk55 (p55_5_0 x0 x1 x5 r1) (oc h0 (oc h1 (oc (laws_szRow_ok h2) (oc h3 on))))) fun h3 h =>
   tS fk55 (p55_5_1 x0 x1 x5 r1) (oc h0 (oc h1 (oc (laws_szRow_ok h2) (oc h3 on)))) (ih _ _ _ _ h)) fun h0 h =>
   dS h fk55 (p55_5_2 x0 x1 x5) (oc h0 on)
theorem c55_e {N : Nat} : ∀ a0 a1 r, xIp N a0 a1 = some r → RE Try.f55 I55 (xFl a0 a1) (xCQ r) := fun a0 a1 r h =>
 cE h (fun h0 h => dE h fk55 (p55_e_3 a0 a1) (oc h0 on)) fun h0 h =>
 tE fk55 (p55_e_4 a0 a1) (oc h0 on) (c55_5 _ _ _ _ _ h)
theorem xI5 {N : Nat} {a0 : List Rowd} {a1 : Int} {r : Int} (h : xIp N  a0 a1 = some r) : AbC 55 (xFl a0 a1) (xCQ r) :=
 AbsCalls.of_reach fk55 rfl rfl (Nat.le_of_ble_eq_true rfl) (c55_e a0 a1 r h)
def G10 (q : Val → Int → Option (Int)) : Prop := ∀ a0 a1 r, q a0 a1 = some r → AbC 10 (xAv a0 a1) (xAg r)
def G53 (q : (List Val) → Int → Option (Int)) : Prop := ∀ a0 a1 r, q a0 a1 = some r → AbC 53 (xCC a0 a1) (xBs r)
noncomputable def I10 : Info := { body := (Try.f10.body).getD .skip, nt := 31, results := [.tmp 4], keep := [0, 2, 4, 8, 22, 34, 46, 58, 5], live := [], modes := [] }
theorem fk10 : FnOk Try.prog 10 Try.f10 I10 := ⟨Try.func10, by kernel_rfl, by kernel_rfl, by kernel_rfl, by kernel_rfl⟩
theorem p10_e_0 (a0 : Val) (a1 : Int) : rE I10 (xAv a0 a1) [Y] [] = dn (xAg (-1)) [(decide (((W (a1 - (Ln (Val.text a0) : Int))) : Int) < 0)) = true] := by kernel_rfl
theorem p10_e_1 (a0 : Val) (a1 r1 : Int) : rE I10 (xAv a0 a1) [F, Y] [xBs r1] = dn (xAg (-1)) [(decide (((W (a1 - (Ln (Val.text a0) : Int))) : Int) < 0)) = false, AbC 53 (xCC (Val.list a0) (W (a1 - (Ln (Val.text a0) : Int)))) (xBs r1), (decide ((r1 : Int) < 0)) = true] := by kernel_rfl
theorem p10_e_2 (a0 : Val) (a1 r1 r2 : Int) : rE I10 (xAv a0 a1) [F, F, Y] [xBs r1, xBH r2] = dn (xAg (-1)) [(decide (((W (a1 - (Ln (Val.text a0) : Int))) : Int) < 0)) = false, AbC 53 (xCC (Val.list a0) (W (a1 - (Ln (Val.text a0) : Int)))) (xBs r1), (decide ((r1 : Int) < 0)) = false, AbC 54 (xDn (Val.columns a0) r1) (xBH r2), (decide ((r2 : Int) < 0)) = true] := by kernel_rfl
theorem p10_e_3 (a0 : Val) (a1 r1 r2 r3 : Int) : rE I10 (xAv a0 a1) [F, F, F, Y] [xBs r1, xBH r2, xCQ r3] = dn (xAg (-1)) [(decide (((W (a1 - (Ln (Val.text a0) : Int))) : Int) < 0)) = false, AbC 53 (xCC (Val.list a0) (W (a1 - (Ln (Val.text a0) : Int)))) (xBs r1), (decide ((r1 : Int) < 0)) = false, AbC 54 (xDn (Val.columns a0) r1) (xBH r2), (decide ((r2 : Int) < 0)) = false, AbC 55 (xFl (Val.rows a0) r2) (xCQ r3), (decide ((r3 : Int) < 0)) = true] := by kernel_rfl
theorem p10_e_4 (a0 : Val) (a1 r1 r2 r3 : Int) : rE I10 (xAv a0 a1) [F, F, F, F] [xBs r1, xBH r2, xCQ r3] = dn (xAg r3) [(decide (((W (a1 - (Ln (Val.text a0) : Int))) : Int) < 0)) = false, AbC 53 (xCC (Val.list a0) (W (a1 - (Ln (Val.text a0) : Int)))) (xBs r1), (decide ((r1 : Int) < 0)) = false, AbC 54 (xDn (Val.columns a0) r1) (xBH r2), (decide ((r2 : Int) < 0)) = false, AbC 55 (xFl (Val.rows a0) r2) (xCQ r3), (decide ((r3 : Int) < 0)) = false] := by kernel_rfl
theorem c10_e {N : Nat} {q0 : Val → Int → Option (Int)} (g0 : G10 q0) {q1 : (List Val) → Int → Option (Int)} (g1 : G53 q1) : ∀ a0 a1 r, xGP N q0 q1 a0 a1 = some r → RE Try.f10 I10 (xAv a0 a1) (xAg r) := fun a0 a1 r h =>
 cE h (fun h0 h => dE h fk10 (p10_e_0 a0 a1) (oc h0 on)) fun h0 h =>
 bE h fun r1 h1 h => cE h (fun h2 h => dE h fk10 (p10_e_1 a0 a1 r1) (oc h0 (oc (g1 _ _ _ h1) (oc h2 on)))) fun h2 h =>
 bE h fun r2 h3 h => cE h (fun h4 h => dE h fk10 (p10_e_2 a0 a1 r1 r2) (oc h0 (oc (g1 _ _ _ h1) (oc h2 (oc (xGO h3) (oc h4 on)))))) fun h4 h =>
 bE h fun r3 h5 h => cE h (fun h6 h => dE h fk10 (p10_e_3 a0 a1 r1 r2 r3) (oc h0 (oc (g1 _ _ _ h1) (oc h2 (oc (xGO h3) (oc h4 (oc (xI5 h5) (oc h6 on)))))))) fun h6 h =>
 dE h fk10 (p10_e_4 a0 a1 r1 r2 r3) (oc h0 (oc (g1 _ _ _ h1) (oc h2 (oc (xGO h3) (oc h4 (oc (xI5 h5) (oc h6 on)))))))
theorem xIY {N : Nat} {q0 : Val → Int → Option (Int)} (g0 : G10 q0) {q1 : (List Val) → Int → Option (Int)} (g1 : G53 q1) {a0 : Val} {a1 : Int} {r : Int} (h : xGP N q0 q1 a0 a1 = some r) : AbC 10 (xAv a0 a1) (xAg r) :=
 AbsCalls.of_reach fk10 rfl rfl (Nat.le_of_ble_eq_true rfl) (c10_e g0 g1 a0 a1 r h)
noncomputable def I53 : Info := { body := (Try.f53.body).getD .skip, nt := 27, results := [.tmp 4], keep := [0, 2, 8, 10, 22, 30, 50], live := [(5, [0, 2, 10])], modes := [] }
theorem fk53 : FnOk Try.prog 53 Try.f53 I53 := ⟨Try.func53, by kernel_rfl, by kernel_rfl, by kernel_rfl, by kernel_rfl⟩
def S53_5 (x0 : List Val) (x1 x5 : Int) : St := [(0, .v false [.sl .ro .val x0]), (2, .v false [.int .i64 x1]), (10, .v false [.int .i64 x5])]
theorem p53_5_0 (x0 : List Val) (x1 x5 r1 : Int) : rS 5 I53 (S53_5 x0 x1 x5) [Y, Y] [xAg r1] = dn (xBs (-1)) [(decide ((x5 : Int) < (Ln x0 : Int))) = true, (0 : Int) ≤ x5 ∧ x5 < (Ln x0), AbC 10 (xAv (gD x0 (tN x5) vd) x1) (xAg r1), (decide ((r1 : Int) < 0)) = true] := by kernel_rfl
theorem p53_5_1 (x0 : List Val) (x1 x5 r1 : Int) : rS 5 I53 (S53_5 x0 x1 x5) [Y, F] [xAg r1] = st 5 I53 (S53_5 x0 r1 (W (x5 + 1))) [(decide ((x5 : Int) < (Ln x0 : Int))) = true, (0 : Int) ≤ x5 ∧ x5 < (Ln x0), AbC 10 (xAv (gD x0 (tN x5) vd) x1) (xAg r1), (decide ((r1 : Int) < 0)) = false] := by kernel_rfl
theorem p53_5_2 (x0 : List Val) (x1 x5 : Int) : rS 5 I53 (S53_5 x0 x1 x5) [F] [] = dn (xBs x1) [(decide ((x5 : Int) < (Ln x0 : Int))) = false] := by kernel_rfl
theorem p53_e_3 (a0 : List Val) (a1 : Int) : rE I53 (xCC a0 a1) [Y] [] = dn (xBs (-1)) [(decide (((W (a1 - (Ln a0 : Int))) : Int) < 0)) = true] := by kernel_rfl
theorem p53_e_4 (a0 : List Val) (a1 : Int) : rE I53 (xCC a0 a1) [F] [] = st 5 I53 (S53_5 a0 (W (a1 - (Ln a0 : Int))) 0) [(decide (((W (a1 - (Ln a0 : Int))) : Int) < 0)) = false] := by kernel_rfl
theorem c53_5 {N : Nat} {q0 : Val → Int → Option (Int)} (g0 : G10 q0) {q1 : (List Val) → Int → Option (Int)} (g1 : G53 q1) : ∀ n x0 x1 x5 r, xGg N q0 q1 n x0 x1 x5 = some r → RS Try.f53 I53 5 (S53_5 x0 x1 x5) (xBs r) := by
 intro n
 induction n with
 | zero => exact fun _ _ _ _ h => nE h
 | succ n ih =>
  exact fun x0 x1 x5 r h =>
   cE h (fun h0 h => iE h fun h1 h => bE h fun r1 h2 h => cE h (fun h3 h => dS h fk53 (p53_5_0 x0 x1 x5 r1) (oc h0 (oc h1 (oc (g0 _ _ _ h2) (oc h3 on))))) fun h3 h =>
   tS fk53 (p53_5_1 x0 x1 x5 r1) (oc h0 (oc h1 (oc (g0 _ _ _ h2) (oc h3 on)))) (ih _ _ _ _ h)) fun h0 h =>
   dS h fk53 (p53_5_2 x0 x1 x5) (oc h0 on)
theorem c53_e {N : Nat} {q0 : Val → Int → Option (Int)} (g0 : G10 q0) {q1 : (List Val) → Int → Option (Int)} (g1 : G53 q1) : ∀ a0 a1 r, xGC N q0 q1 a0 a1 = some r → RE Try.f53 I53 (xCC a0 a1) (xBs r) := fun a0 a1 r h =>
 cE h (fun h0 h => dE h fk53 (p53_e_3 a0 a1) (oc h0 on)) fun h0 h =>
 tE fk53 (p53_e_4 a0 a1) (oc h0 on) (c53_5 g0 g1 _ _ _ _ _ h)
theorem xIL {N : Nat} {q0 : Val → Int → Option (Int)} (g0 : G10 q0) {q1 : (List Val) → Int → Option (Int)} (g1 : G53 q1) {a0 : List Val} {a1 : Int} {r : Int} (h : xGC N q0 q1 a0 a1 = some r) : AbC 53 (xCC a0 a1) (xBs r) :=
 AbsCalls.of_reach fk53 rfl rfl (Nat.le_of_ble_eq_true rfl) (c53_e g0 g1 a0 a1 r h)
theorem xJg {N : Nat} : ∀ d, G10 (xB9 N d).c_laws_szValue ∧ G53 (xB9 N d).c_laws_szValueS := by
 intro d
 induction d with
 | zero => exact ⟨fun _ _ _ h => nE h, fun _ _ _ h => nE h⟩
 | succ d ih =>
  obtain ⟨ih0, ih1⟩ := ih
  exact ⟨fun _ _ _ h => xIY (N := N) ih0 ih1 h, fun _ _ _ h => xIL (N := N) ih0 ih1 h⟩
theorem xAC {N : Nat} {a0 : Val} {a1 : Int} {r : Int} (h : xGr N a0 a1 = some r) : AbC 10 (xAv a0 a1) (xAg r) := (xJg N).1 _ _ r h
noncomputable def I63 : Info := { body := (Try.f63.body).getD .skip, nt := 22, results := [.tmp 2], keep := [0, 4, 6, 8, 22], live := [(3, [0, 6, 8])], modes := [(5, [(0, .ref, false)]), (6, [(0, .take, false)])] }
theorem fk63 : FnOk Try.prog 63 Try.f63 I63 := ⟨Try.func63, by kernel_rfl, by kernel_rfl, by kernel_rfl, by kernel_rfl⟩
def S63_3 (x0 x3 : List Str) (x4 : Int) : St := [(0, .v false [.sl .ro .str x0]), (6, .v false [.sl .own .str x3]), (8, .v false [.int .i64 x4])]
theorem p63_3_0 (x0 x3 : List Str) (x4 : Int) : rS 3 I63 (S63_3 x0 x3 x4) [Y] [] = st 3 I63 (S63_3 x0 (List.set x3 (tN x4) (gD x0 (tN x4) Ty.str.dflt)) (W (x4 + 1))) [(decide ((x4 : Int) < (Ln x0 : Int))) = true, (0 : Int) ≤ x4 ∧ x4 < (Ln x0), (0 : Int) ≤ x4 ∧ x4 < (Ln x3)] := by kernel_rfl
theorem p63_3_1 (x0 x3 : List Str) (x4 : Int) : rS 3 I63 (S63_3 x0 x3 x4) [F] [] = dn (xDW x3) [(decide ((x4 : Int) < (Ln x0 : Int))) = false] := by kernel_rfl
theorem p63_e_2 (a0 : List Str) : rE I63 (xFR a0) [] [] = st 3 I63 (S63_3 a0 (List.replicate (tN (Ln a0 : Int)) Ty.str.dflt) 0) [(0 : Int) ≤ (Ln a0 : Int) ∧ (Ln a0 : Int) = (Ln a0 : Int) ∧ (Ln a0 : Int) ≤ Lim] := by kernel_rfl
theorem c63_3 {N : Nat} : ∀ n x0 x3 x4 r, xFS N n x0 x3 x4 = some r → RS Try.f63 I63 3 (S63_3 x0 x3 x4) (xDW r) := by
 intro n
 induction n with
 | zero => exact fun _ _ _ _ h => nE h
 | succ n ih =>
  exact fun x0 x3 x4 r h =>
   cE h (fun h0 h => iE h fun h1 h => iE h fun h2 h => tS fk63 (p63_3_0 x0 x3 x4) (oc h0 (oc h1 (oc h2 on))) (ih _ _ _ _ h)) fun h0 h =>
   dS h fk63 (p63_3_1 x0 x3 x4) (oc h0 on)
theorem c63_e {N : Nat} : ∀ a0 r, xF7 N a0 = some r → RE Try.f63 I63 (xFR a0) (xDW r) := fun a0 r h =>
 iE h fun h0 h => tE fk63 (p63_e_2 a0) (oc h0 on) (c63_3 _ _ _ _ _ h)
theorem laws_toStringS_ok {N : Nat} {a0 : List Str} {r : (List Str)} (h : xF7 N  a0 = some r) : AbC 63 (xFR a0) (xDW r) :=
 AbsCalls.of_reach fk63 rfl rfl (Nat.le_of_ble_eq_true rfl) (c63_e a0 r h)
noncomputable def I164 : Info := { body := (Try.f164.body).getD .skip, nt := 22, results := [.tmp 2], keep := [0, 4, 6, 8, 22], live := [(3, [0, 6, 8])], modes := [(5, [(0, .ref, false)]), (6, [(0, .take, false)])] }
theorem fk164 : FnOk Try.prog 164 Try.f164 I164 := ⟨Try.func164, by kernel_rfl, by kernel_rfl, by kernel_rfl, by kernel_rfl⟩
def S164_3 (x0 x3 : List Int) (x4 : Int) : St := [(0, .v false [.sl .ro .int x0]), (6, .v false [.sl .own .int x3]), (8, .v false [.int .i64 x4])]
theorem p164_3_0 (x0 x3 : List Int) (x4 : Int) : rS 3 I164 (S164_3 x0 x3 x4) [Y] [] = st 3 I164 (S164_3 x0 (List.set x3 (tN x4) (gD x0 (tN x4) Ty.int.dflt)) (W (x4 + 1))) [(decide ((x4 : Int) < (Ln x0 : Int))) = true, (0 : Int) ≤ x4 ∧ x4 < (Ln x0), (0 : Int) ≤ x4 ∧ x4 < (Ln x3)] := by kernel_rfl
theorem p164_3_1 (x0 x3 : List Int) (x4 : Int) : rS 3 I164 (S164_3 x0 x3 x4) [F] [] = dn (xFm x3) [(decide ((x4 : Int) < (Ln x0 : Int))) = false] := by kernel_rfl
theorem p164_e_2 (a0 : List Int) : rE I164 (xG1 a0) [] [] = st 3 I164 (S164_3 a0 (List.replicate (tN (Ln a0 : Int)) Ty.int.dflt) 0) [(0 : Int) ≤ (Ln a0 : Int) ∧ (Ln a0 : Int) = (Ln a0 : Int) ∧ (Ln a0 : Int) ≤ Lim] := by kernel_rfl
theorem c164_3 {N : Nat} : ∀ n x0 x3 x4 r, xG2 N n x0 x3 x4 = some r → RS Try.f164 I164 3 (S164_3 x0 x3 x4) (xFm r) := by
 intro n
 induction n with
 | zero => exact fun _ _ _ _ h => nE h
 | succ n ih =>
  exact fun x0 x3 x4 r h =>
   cE h (fun h0 h => iE h fun h1 h => iE h fun h2 h => tS fk164 (p164_3_0 x0 x3 x4) (oc h0 (oc h1 (oc h2 on))) (ih _ _ _ _ h)) fun h0 h =>
   dS h fk164 (p164_3_1 x0 x3 x4) (oc h0 on)
theorem c164_e {N : Nat} : ∀ a0 r, xHB N a0 = some r → RE Try.f164 I164 (xG1 a0) (xFm r) := fun a0 r h =>
 iE h fun h0 h => tE fk164 (p164_e_2 a0) (oc h0 on) (c164_3 _ _ _ _ _ h)
theorem laws_toIntS_ok {N : Nat} {a0 : List Int} {r : (List Int)} (h : xHB N  a0 = some r) : AbC 164 (xG1 a0) (xFm r) :=
 AbsCalls.of_reach fk164 rfl rfl (Nat.le_of_ble_eq_true rfl) (c164_e a0 r h)
noncomputable def I184 : Info := { body := (Try.f184.body).getD .skip, nt := 11, results := [.cell 2 156], keep := [0, 2, 4, 6, 3, 5, 7], live := [], modes := [] }
theorem fk184 : FnOk Try.prog 184 Try.f184 I184 := ⟨Try.func184, by kernel_rfl, by kernel_rfl, by kernel_rfl, by kernel_rfl⟩
theorem p184_e_0 (a0 : Org) : rE I184 (xGh a0) [] [] = dn (xFd a0) [] := by kernel_rfl
theorem c184_e {N : Nat} : ∀ a0 r, xHo N a0 = some r → RE Try.f184 I184 (xGh a0) (xFd r) := fun a0 r h =>
 dE h fk184 (p184_e_0 a0) on
theorem laws_toOrigin_ok {N : Nat} {a0 : Org} {r : Org} (h : xHo N  a0 = some r) : AbC 184 (xGh a0) (xFd r) :=
 AbsCalls.of_reach fk184 rfl rfl (Nat.le_of_ble_eq_true rfl) (c184_e a0 r h)
noncomputable def I165 : Info := { body := (Try.f165.body).getD .skip, nt := 23, results := [.tmp 2], keep := [0, 4, 6, 8, 22], live := [(3, [0, 6, 8])], modes := [(5, [(0, .ref, false)]), (6, [(0, .take, false)])] }
theorem fk165 : FnOk Try.prog 165 Try.f165 I165 := ⟨Try.func165, by kernel_rfl, by kernel_rfl, by kernel_rfl, by kernel_rfl⟩
def S165_3 (x0 x3 : List Org) (x4 : Int) : St := [(0, .v false [.sl .ro .org x0]), (6, .v false [.sl .own .org x3]), (8, .v false [.int .i64 x4])]
theorem p165_3_0 (x0 x3 : List Org) (x4 : Int) (r1 : Org) : rS 3 I165 (S165_3 x0 x3 x4) [Y] [xFd r1] = st 3 I165 (S165_3 x0 (List.set x3 (tN x4) r1) (W (x4 + 1))) [(decide ((x4 : Int) < (Ln x0 : Int))) = true, (0 : Int) ≤ x4 ∧ x4 < (Ln x0), AbC 184 (xGh (gD x0 (tN x4) Ty.org.dflt)) (xFd r1), (0 : Int) ≤ x4 ∧ x4 < (Ln x3)] := by kernel_rfl
theorem p165_3_1 (x0 x3 : List Org) (x4 : Int) : rS 3 I165 (S165_3 x0 x3 x4) [F] [] = dn (xDV x3) [(decide ((x4 : Int) < (Ln x0 : Int))) = false] := by kernel_rfl
theorem p165_e_2 (a0 : List Org) : rE I165 (xFP a0) [] [] = st 3 I165 (S165_3 a0 (List.replicate (tN (Ln a0 : Int)) Ty.org.dflt) 0) [(0 : Int) ≤ (Ln a0 : Int) ∧ (Ln a0 : Int) = (Ln a0 : Int) ∧ (Ln a0 : Int) ≤ Lim] := by kernel_rfl
theorem c165_3 {N : Nat} : ∀ n x0 x3 x4 r, xFQ N n x0 x3 x4 = some r → RS Try.f165 I165 3 (S165_3 x0 x3 x4) (xDV r) := by
 intro n
 induction n with
 | zero => exact fun _ _ _ _ h => nE h
 | succ n ih =>
  exact fun x0 x3 x4 r h =>
   cE h (fun h0 h => iE h fun h1 h => bE h fun r1 h2 h => iE h fun h3 h => tS fk165 (p165_3_0 x0 x3 x4 r1) (oc h0 (oc h1 (oc (laws_toOrigin_ok h2) (oc h3 on)))) (ih _ _ _ _ h)) fun h0 h =>
   dS h fk165 (p165_3_1 x0 x3 x4) (oc h0 on)
theorem c165_e {N : Nat} : ∀ a0 r, xF6 N a0 = some r → RE Try.f165 I165 (xFP a0) (xDV r) := fun a0 r h =>
 iE h fun h0 h => tE fk165 (p165_e_2 a0) (oc h0 on) (c165_3 _ _ _ _ _ h)
theorem laws_toOriginS_ok {N : Nat} {a0 : List Org} {r : (List Org)} (h : xF6 N  a0 = some r) : AbC 165 (xFP a0) (xDV r) :=
 AbsCalls.of_reach fk165 rfl rfl (Nat.le_of_ble_eq_true rfl) (c165_e a0 r h)
noncomputable def I128 : Info := { body := (Try.f128.body).getD .skip, nt := 13, results := [.cell 2 107], keep := [0, 2, 4, 6, 3, 5, 7], live := [], modes := [(4, [(0, .take, false)])] }
theorem fk128 : FnOk Try.prog 128 Try.f128 I128 := ⟨Try.func128, by kernel_rfl, by kernel_rfl, by kernel_rfl, by kernel_rfl⟩
theorem p128_e_0 (a0 : Rowd) (r1 : (List Int)) (r2 : (List Org)) : rE I128 (xHp a0) [] [xFm r1, xDV r2] = dn (xGD (Rowd.mk r1 r2)) [AbC 164 (xG1 (Rowd.cells a0)) (xFm r1), AbC 165 (xFP (Rowd.frm a0)) (xDV r2)] := by kernel_rfl
theorem c128_e {N : Nat} : ∀ a0 r, xHs N a0 = some r → RE Try.f128 I128 (xHp a0) (xGD r) := fun a0 r h =>
 bE h fun r1 h0 h => bE h fun r2 h1 h => dE h fk128 (p128_e_0 a0 r1 r2) (oc (laws_toIntS_ok h0) (oc (laws_toOriginS_ok h1) on))
theorem laws_toRow_ok {N : Nat} {a0 : Rowd} {r : Rowd} (h : xHs N  a0 = some r) : AbC 128 (xHp a0) (xGD r) :=
 AbsCalls.of_reach fk128 rfl rfl (Nat.le_of_ble_eq_true rfl) (c128_e a0 r h)
noncomputable def I64 : Info := { body := (Try.f64.body).getD .skip, nt := 23, results := [.tmp 2], keep := [0, 4, 6, 8, 22], live := [(3, [0, 6, 8])], modes := [(5, [(0, .ref, false)]), (6, [(0, .take, false)])] }
theorem fk64 : FnOk Try.prog 64 Try.f64 I64 := ⟨Try.func64, by kernel_rfl, by kernel_rfl, by kernel_rfl, by kernel_rfl⟩
def S64_3 (x0 x3 : List Rowd) (x4 : Int) : St := [(0, .v false [.sl .ro .row x0]), (6, .v false [.sl .own .row x3]), (8, .v false [.int .i64 x4])]
theorem p64_3_0 (x0 x3 : List Rowd) (x4 : Int) (r1 : Rowd) : rS 3 I64 (S64_3 x0 x3 x4) [Y] [xGD r1] = st 3 I64 (S64_3 x0 (List.set x3 (tN x4) r1) (W (x4 + 1))) [(decide ((x4 : Int) < (Ln x0 : Int))) = true, (0 : Int) ≤ x4 ∧ x4 < (Ln x0), AbC 128 (xHp (gD x0 (tN x4) rd)) (xGD r1), (0 : Int) ≤ x4 ∧ x4 < (Ln x3)] := by kernel_rfl
theorem p64_3_1 (x0 x3 : List Rowd) (x4 : Int) : rS 3 I64 (S64_3 x0 x3 x4) [F] [] = dn (xFn x3) [(decide ((x4 : Int) < (Ln x0 : Int))) = false] := by kernel_rfl
theorem p64_e_2 (a0 : List Rowd) : rE I64 (xG3 a0) [] [] = st 3 I64 (S64_3 a0 (List.replicate (tN (Ln a0 : Int)) rd) 0) [(0 : Int) ≤ (Ln a0 : Int) ∧ (Ln a0 : Int) = (Ln a0 : Int) ∧ (Ln a0 : Int) ≤ Lim] := by kernel_rfl
theorem c64_3 {N : Nat} : ∀ n x0 x3 x4 r, xG4 N n x0 x3 x4 = some r → RS Try.f64 I64 3 (S64_3 x0 x3 x4) (xFn r) := by
 intro n
 induction n with
 | zero => exact fun _ _ _ _ h => nE h
 | succ n ih =>
  exact fun x0 x3 x4 r h =>
   cE h (fun h0 h => iE h fun h1 h => bE h fun r1 h2 h => iE h fun h3 h => tS fk64 (p64_3_0 x0 x3 x4 r1) (oc h0 (oc h1 (oc (laws_toRow_ok h2) (oc h3 on)))) (ih _ _ _ _ h)) fun h0 h =>
   dS h fk64 (p64_3_1 x0 x3 x4) (oc h0 on)
theorem c64_e {N : Nat} : ∀ a0 r, xHC N a0 = some r → RE Try.f64 I64 (xG3 a0) (xFn r) := fun a0 r h =>
 iE h fun h0 h => tE fk64 (p64_e_2 a0) (oc h0 on) (c64_3 _ _ _ _ _ h)
theorem laws_toRowS_ok {N : Nat} {a0 : List Rowd} {r : (List Rowd)} (h : xHC N  a0 = some r) : AbC 64 (xG3 a0) (xFn r) :=
 AbsCalls.of_reach fk64 rfl rfl (Nat.le_of_ble_eq_true rfl) (c64_e a0 r h)
def G12 (q : Val → Option (Val)) : Prop := ∀ a0 r, q a0 = some r → AbC 12 (xAc a0) (xAa r)
def G62 (q : (List Val) → Option ((List Val))) : Prop := ∀ a0 r, q a0 = some r → AbC 62 (xFe a0) (xDF r)
noncomputable def I12 : Info := { body := (Try.f12.body).getD .skip, nt := 29, results := [.cell 2 31], keep := [0, 2, 4, 6, 3, 5, 7], live := [], modes := [(9, [(0, .take, false)])] }
theorem fk12 : FnOk Try.prog 12 Try.f12 I12 := ⟨Try.func12, by kernel_rfl, by kernel_rfl, by kernel_rfl, by kernel_rfl⟩
theorem p12_e_0 (a0 : Val) (r1 : (List Val)) (r2 : (List Str)) (r3 : (List Rowd)) : rE I12 (xAc a0) [] [xDF r1, xDW r2, xFn r3] = dn (xAa (Val.mk (Val.kind a0) (Val.n a0) (Val.step a0) (Val.text a0) r1 r2 r3)) [AbC 62 (xFe (Val.list a0)) (xDF r1), AbC 63 (xFR (Val.columns a0)) (xDW r2), AbC 64 (xG3 (Val.rows a0)) (xFn r3)] := by kernel_rfl
theorem c12_e {N : Nat} {q0 : Val → Option (Val)} (g0 : G12 q0) {q1 : (List Val) → Option ((List Val))} (g1 : G62 q1) : ∀ a0 r, xES N q0 q1 a0 = some r → RE Try.f12 I12 (xAc a0) (xAa r) := fun a0 r h =>
 bE h fun r1 h0 h => bE h fun r2 h1 h => bE h fun r3 h2 h => dE h fk12 (p12_e_0 a0 r1 r2 r3) (oc (g1 _ _ h0) (oc (laws_toStringS_ok h1) (oc (laws_toRowS_ok h2) on)))
theorem xIZ {N : Nat} {q0 : Val → Option (Val)} (g0 : G12 q0) {q1 : (List Val) → Option ((List Val))} (g1 : G62 q1) {a0 : Val} {r : Val} (h : xES N q0 q1 a0 = some r) : AbC 12 (xAc a0) (xAa r) :=
 AbsCalls.of_reach fk12 rfl rfl (Nat.le_of_ble_eq_true rfl) (c12_e g0 g1 a0 r h)
noncomputable def I62 : Info := { body := (Try.f62.body).getD .skip, nt := 23, results := [.tmp 2], keep := [0, 4, 6, 8, 22], live := [(3, [0, 6, 8])], modes := [(5, [(0, .ref, false)]), (6, [(0, .take, false)])] }
theorem fk62 : FnOk Try.prog 62 Try.f62 I62 := ⟨Try.func62, by kernel_rfl, by kernel_rfl, by kernel_rfl, by kernel_rfl⟩
def S62_3 (x0 x3 : List Val) (x4 : Int) : St := [(0, .v false [.sl .ro .val x0]), (6, .v false [.sl .own .val x3]), (8, .v false [.int .i64 x4])]
theorem p62_3_0 (x0 x3 : List Val) (x4 : Int) (r1 : Val) : rS 3 I62 (S62_3 x0 x3 x4) [Y] [xAa r1] = st 3 I62 (S62_3 x0 (List.set x3 (tN x4) (Val.re r1)) (W (x4 + 1))) [(decide ((x4 : Int) < (Ln x0 : Int))) = true, (0 : Int) ≤ x4 ∧ x4 < (Ln x0), AbC 12 (xAc (gD x0 (tN x4) vd)) (xAa r1), (0 : Int) ≤ x4 ∧ x4 < (Ln x3)] := by kernel_rfl
theorem p62_3_1 (x0 x3 : List Val) (x4 : Int) : rS 3 I62 (S62_3 x0 x3 x4) [F] [] = dn (xDF x3) [(decide ((x4 : Int) < (Ln x0 : Int))) = false] := by kernel_rfl
theorem p62_e_2 (a0 : List Val) : rE I62 (xFe a0) [] [] = st 3 I62 (S62_3 a0 (List.replicate (tN (Ln a0 : Int)) vd) 0) [(0 : Int) ≤ (Ln a0 : Int) ∧ (Ln a0 : Int) = (Ln a0 : Int) ∧ (Ln a0 : Int) ≤ Lim] := by kernel_rfl
theorem c62_3 {N : Nat} {q0 : Val → Option (Val)} (g0 : G12 q0) {q1 : (List Val) → Option ((List Val))} (g1 : G62 q1) : ∀ n x0 x3 x4 r, xGi N q0 q1 n x0 x3 x4 = some r → RS Try.f62 I62 3 (S62_3 x0 x3 x4) (xDF r) := by
 intro n
 induction n with
 | zero => exact fun _ _ _ _ h => nE h
 | succ n ih =>
  exact fun x0 x3 x4 r h =>
   cE h (fun h0 h => iE h fun h1 h => bE h fun r1 h2 h => iE h fun h3 h => tS fk62 (p62_3_0 x0 x3 x4 r1) (oc h0 (oc h1 (oc (g0 _ _ h2) (oc h3 on)))) (ih _ _ _ _ h)) fun h0 h =>
   dS h fk62 (p62_3_1 x0 x3 x4) (oc h0 on)
theorem c62_e {N : Nat} {q0 : Val → Option (Val)} (g0 : G12 q0) {q1 : (List Val) → Option ((List Val))} (g1 : G62 q1) : ∀ a0 r, xEx N q0 q1 a0 = some r → RE Try.f62 I62 (xFe a0) (xDF r) := fun a0 r h =>
 iE h fun h0 h => tE fk62 (p62_e_2 a0) (oc h0 on) (c62_3 g0 g1 _ _ _ _ _ h)
theorem xIM {N : Nat} {q0 : Val → Option (Val)} (g0 : G12 q0) {q1 : (List Val) → Option ((List Val))} (g1 : G62 q1) {a0 : List Val} {r : (List Val)} (h : xEx N q0 q1 a0 = some r) : AbC 62 (xFe a0) (xDF r) :=
 AbsCalls.of_reach fk62 rfl rfl (Nat.le_of_ble_eq_true rfl) (c62_e g0 g1 a0 r h)
theorem xJh {N : Nat} : ∀ d, G12 (xBj N d).c_laws_toValue ∧ G62 (xBj N d).c_laws_toValueS := by
 intro d
 induction d with
 | zero => exact ⟨fun _ _ h => nE h, fun _ _ h => nE h⟩
 | succ d ih =>
  obtain ⟨ih0, ih1⟩ := ih
  exact ⟨fun _ _ h => xIZ (N := N) ih0 ih1 h, fun _ _ h => xIM (N := N) ih0 ih1 h⟩
theorem xAd {N : Nat} {a0 : Val} {r : Val} (h : xBd N a0 = some r) : AbC 12 (xAc a0) (xAa r) := (xJh N).1 _ r h
noncomputable def I108 : Info := { body := (Try.f108.body).getD .skip, nt := 15, results := [.tmp 6], keep := [0, 2, 4, 12], live := [], modes := [(1, [(3, .take, false)])] }
theorem fk108 : FnOk Try.prog 108 Try.f108 I108 := ⟨Try.func108, by kernel_rfl, by kernel_rfl, by kernel_rfl, by kernel_rfl⟩
theorem p108_e_0 (a0 a1 a2 : Int) : rE I108 (xEY a0 a1 a2) [Y] [] = dn (xC5 (decide ((a0 : Int) ≤ a2))) [(decide ((a0 : Int) ≥ a1)) = true] := by kernel_rfl
theorem p108_e_1 (a0 a1 a2 : Int) : rE I108 (xEY a0 a1 a2) [F] [] = dn (xC5 false) [(decide ((a0 : Int) ≥ a1)) = false] := by kernel_rfl
theorem c108_e {N : Nat} : ∀ a0 a1 a2 r, xHG N a0 a1 a2 = some r → RE Try.f108 I108 (xEY a0 a1 a2) (xC5 r) := fun a0 a1 a2 r h =>
 cE h (fun h0 h => dE h fk108 (p108_e_0 a0 a1 a2) (oc h0 on)) fun h0 h =>
 dE h fk108 (p108_e_1 a0 a1 a2) (oc h0 on)
theorem xHT {N : Nat} {a0 : Int} {a1 : Int} {a2 : Int} {r : Bool} (h : xHG N  a0 a1 a2 = some r) : AbC 108 (xEY a0 a1 a2) (xC5 r) :=
 AbsCalls.of_reach fk108 rfl rfl (Nat.le_of_ble_eq_true rfl) (c108_e a0 a1 a2 r h)
noncomputable def I85 : Info := { body := (Try.f85.body).getD .skip, nt := 5, results := [.tmp 2], keep := [0, 4], live := [], modes := [] }
theorem fk85 : FnOk Try.prog 85 Try.f85 I85 := ⟨Try.func85, by kernel_rfl, by kernel_rfl, by kernel_rfl, by kernel_rfl⟩
theorem p85_e_0 (a0 : Int) (r1 : Bool) : rE I85 (xCa a0) [] [xC5 r1] = dn (xA8 r1) [AbC 108 (xEY a0 (-1000000000) 1000000000) (xC5 r1)] := by kernel_rfl
theorem c85_e {N : Nat} : ∀ a0 r, xDO N a0 = some r → RE Try.f85 I85 (xCa a0) (xA8 r) := fun a0 r h =>
 bE h fun r1 h0 h => dE h fk85 (p85_e_0 a0 r1) (oc (xHT h0) on)
theorem xC6 {N : Nat} {a0 : Int} {r : Bool} (h : xDO N  a0 = some r) : AbC 85 (xCa a0) (xA8 r) :=
 AbsCalls.of_reach fk85 rfl rfl (Nat.le_of_ble_eq_true rfl) (c85_e a0 r h)
noncomputable def I111 : Info := { body := (Try.f111.body).getD .skip, nt := 29, results := [.tmp 2], keep := [0, 4, 6, 14, 50], live := [(2, [0, 6])], modes := [(4, [(4, .take, false), (10, .take, false)])] }
theorem fk111 : FnOk Try.prog 111 Try.f111 I111 := ⟨Try.func111, by kernel_rfl, by kernel_rfl, by kernel_rfl, by kernel_rfl⟩
def S111_2 (x0 : Str) (x3 : Int) : St := [(0, .v false [.str x0]), (6, .v false [.int .i64 x3])]
theorem p111_2_0 (x0 : Str) (x3 : Int) : rS 2 I111 (S111_2 x0 x3) [Y, Y, Y, Y] [] = dn (xB4 false) [(decide ((x3 : Int) < (Ln x0 : Int))) = true, (0 : Int) ≤ x3 ∧ x3 < (Ln x0), (decide ((((gD x0 (tN x3) 0).toNat : Int) : Int) < 32)) = true, true = true, true = true] := by kernel_rfl
theorem p111_2_1 (x0 : Str) (x3 : Int) : rS 2 I111 (S111_2 x0 x3) [Y, F, Y, Y] [] = dn (xB4 false) [(decide ((x3 : Int) < (Ln x0 : Int))) = true, (0 : Int) ≤ x3 ∧ x3 < (Ln x0), (decide ((((gD x0 (tN x3) 0).toNat : Int) : Int) < 32)) = false, (0 : Int) ≤ x3 ∧ x3 < (Ln x0), (decide ((((gD x0 (tN x3) 0).toNat : Int) : Int) > 126)) = true, true = true] := by kernel_rfl
theorem p111_2_2 (x0 : Str) (x3 : Int) : rS 2 I111 (S111_2 x0 x3) [Y, F, F, Y] [] = dn (xB4 false) [(decide ((x3 : Int) < (Ln x0 : Int))) = true, (0 : Int) ≤ x3 ∧ x3 < (Ln x0), (decide ((((gD x0 (tN x3) 0).toNat : Int) : Int) < 32)) = false, (0 : Int) ≤ x3 ∧ x3 < (Ln x0), (decide ((((gD x0 (tN x3) 0).toNat : Int) : Int) > 126)) = false, (0 : Int) ≤ x3 ∧ x3 < (Ln x0), ((((gD x0 (tN x3) 0).toNat : Int) : Int) == 34) = true] := by kernel_rfl
theorem p111_2_3 (x0 : Str) (x3 : Int) : rS 2 I111 (S111_2 x0 x3) [Y, F, F, F] [] = st 2 I111 (S111_2 x0 (W (x3 + 1))) [(decide ((x3 : Int) < (Ln x0 : Int))) = true, (0 : Int) ≤ x3 ∧ x3 < (Ln x0), (decide ((((gD x0 (tN x3) 0).toNat : Int) : Int) < 32)) = false, (0 : Int) ≤ x3 ∧ x3 < (Ln x0), (decide ((((gD x0 (tN x3) 0).toNat : Int) : Int) > 126)) = false, (0 : Int) ≤ x3 ∧ x3 < (Ln x0), ((((gD x0 (tN x3) 0).toNat : Int) : Int) == 34) = false] := by kernel_rfl
theorem p111_2_4 (x0 : Str) (x3 : Int) : rS 2 I111 (S111_2 x0 x3) [F] [] = dn (xB4 (decide (((Ln x0 : Int) : Int) ≤ 20))) [(decide ((x3 : Int) < (Ln x0 : Int))) = false] := by kernel_rfl
theorem p111_e_5 (a0 : Str) : rE I111 (xE7 a0) [] [] = st 2 I111 (S111_2 a0 0) [] := by kernel_rfl
theorem c111_2 {N : Nat} : ∀ n x0 x3 r, xCm N n x0 x3 = some r → RS Try.f111 I111 2 (S111_2 x0 x3) (xB4 r) := by
 intro n
 induction n with
 | zero => exact fun _ _ _ h => nE h
 | succ n ih =>
  exact fun x0 x3 r h =>
   cE h (fun h0 h => iE h fun h1 h => cE h (fun h2 h => dS h fk111 (p111_2_0 x0 x3) (oc h0 (oc h1 (oc h2 (oc rfl (oc rfl on)))))) fun h2 h =>
   cE h (fun h4 h => dS h fk111 (p111_2_1 x0 x3) (oc h0 (oc h1 (oc h2 (oc h1 (oc h4 (oc rfl on))))))) fun h4 h =>
   cE h (fun h6 h => dS h fk111 (p111_2_2 x0 x3) (oc h0 (oc h1 (oc h2 (oc h1 (oc h4 (oc h1 (oc h6 on)))))))) fun h6 h =>
   tS fk111 (p111_2_3 x0 x3) (oc h0 (oc h1 (oc h2 (oc h1 (oc h4 (oc h1 (oc h6 on))))))) (ih _ _ _ h)) fun h0 h =>
   dS h fk111 (p111_2_4 x0 x3) (oc h0 on)
theorem c111_e {N : Nat} : ∀ a0 r, xGk N a0 = some r → RE Try.f111 I111 (xE7 a0) (xB4 r) := fun a0 r h =>
 tE fk111 (p111_e_5 a0) on (c111_2 _ _ _ _ h)
theorem xJm {N : Nat} {a0 : Str} {r : Bool} (h : xGk N  a0 = some r) : AbC 111 (xE7 a0) (xB4 r) :=
 AbsCalls.of_reach fk111 rfl rfl (Nat.le_of_ble_eq_true rfl) (c111_e a0 r h)
noncomputable def I152 : Info := { body := (Try.f152.body).getD .skip, nt := 16, results := [.tmp 2], keep := [0, 2, 4, 3], live := [], modes := [(1, [(3, .take, false), (8, .take, false)])] }
theorem fk152 : FnOk Try.prog 152 Try.f152 I152 := ⟨Try.func152, by kernel_rfl, by kernel_rfl, by kernel_rfl, by kernel_rfl⟩
theorem p152_e_0 (a0 : Val) : rE I152 (xCN a0) [Y, Y] [] = dn (xBR true) [(((Val.kind a0) : Int) == 1) = true, true = true] := by kernel_rfl
theorem p152_e_1 (a0 : Val) : rE I152 (xCN a0) [F, Y] [] = dn (xBR true) [(((Val.kind a0) : Int) == 1) = false, (((Val.kind a0) : Int) == 2) = true] := by kernel_rfl
theorem p152_e_2 (a0 : Val) : rE I152 (xCN a0) [F, F] [] = dn (xBR (((Val.kind a0) : Int) == 3)) [(((Val.kind a0) : Int) == 1) = false, (((Val.kind a0) : Int) == 2) = false] := by kernel_rfl
theorem c152_e {N : Nat} : ∀ a0 r, xG9 N a0 = some r → RE Try.f152 I152 (xCN a0) (xBR r) := fun a0 r h =>
 cE h (fun h0 h => dE h fk152 (p152_e_0 a0) (oc h0 (oc rfl on))) fun h0 h =>
 cE h (fun h1 h => dE h fk152 (p152_e_1 a0) (oc h0 (oc h1 on))) fun h1 h =>
 dE h fk152 (p152_e_2 a0) (oc h0 (oc h1 on))
theorem xGT {N : Nat} {a0 : Val} {r : Bool} (h : xG9 N  a0 = some r) : AbC 152 (xCN a0) (xBR r) :=
 AbsCalls.of_reach fk152 rfl rfl (Nat.le_of_ble_eq_true rfl) (c152_e a0 r h)
noncomputable def I177 : Info := { body := (Try.f177.body).getD .skip, nt := 10, results := [.tmp 4], keep := [0, 2, 8, 14], live := [], modes := [] }
theorem fk177 : FnOk Try.prog 177 Try.f177 I177 := ⟨Try.func177, by kernel_rfl, by kernel_rfl, by kernel_rfl, by kernel_rfl⟩
theorem p177_e_0 (a0 a1 : Int) : rE I177 (xGE a0 a1) [Y] [] = dn (xFW a0) [(decide ((a0 : Int) > a1)) = true] := by kernel_rfl
theorem p177_e_1 (a0 a1 : Int) : rE I177 (xGE a0 a1) [F] [] = dn (xFW a1) [(decide ((a0 : Int) > a1)) = false] := by kernel_rfl
theorem c177_e {N : Nat} : ∀ a0 a1 r, xId N a0 a1 = some r → RE Try.f177 I177 (xGE a0 a1) (xFW r) := fun a0 a1 r h =>
 cE h (fun h0 h => dE h fk177 (p177_e_0 a0 a1) (oc h0 on)) fun h0 h =>
 dE h fk177 (p177_e_1 a0 a1) (oc h0 on)
theorem spec_l1Max_ok {N : Nat} {a0 : Int} {a1 : Int} {r : Int} (h : xId N  a0 a1 = some r) : AbC 177 (xGE a0 a1) (xFW r) :=
 AbsCalls.of_reach fk177 rfl rfl (Nat.le_of_ble_eq_true rfl) (c177_e a0 a1 r h)
def G153 (q : Val → Option (Int)) : Prop := ∀ a0 r, q a0 = some r → AbC 153 (xEc a0) (xCv r)
noncomputable def I153 : Info := { body := (Try.f153.body).getD .skip, nt := 22, results := [.tmp 2], keep := [0, 2, 4, 6, 8, 18, 3], live := [(3, [2, 6, 8, 3])], modes := [] }
theorem fk153 : FnOk Try.prog 153 Try.f153 I153 := ⟨Try.func153, by kernel_rfl, by kernel_rfl, by kernel_rfl, by kernel_rfl⟩
def S153_3 (x3 x4 : Int) (b1 : Val) : St := [(2, .v false [.ptr 1 0]), (6, .v false [.int .i64 x3]), (8, .v false [.int .i64 x4]), (3, .v true [.int .i64 (Val.kind b1), .int .i64 (Val.n b1), .int .i64 (Val.step b1), .str (Val.text b1), .sl .ro .val (Val.list b1), .sl .ro .str (Val.columns b1), .sl .ro .row (Val.rows b1)])]
theorem p153_3_0 (x3 x4 : Int) (b1 : Val) (r1 r2 : Int) : rS 3 I153 (S153_3 x3 x4 b1) [Y] [xCv r1, xFW r2] = st 3 I153 (S153_3 r2 (W (x4 + 1)) b1) [(decide ((x4 : Int) < (Ln (Val.list b1) : Int))) = true, (0 : Int) ≤ x4 ∧ x4 < (Ln (Val.list b1)), AbC 153 (xEc (gD (Val.list b1) (tN x4) vd)) (xCv r1), AbC 177 (xGE x3 r1) (xFW r2)] := by kernel_rfl
theorem p153_3_1 (x3 x4 : Int) (b1 : Val) : rS 3 I153 (S153_3 x3 x4 b1) [F] [] = dn (xCv (W (x3 + 1))) [(decide ((x4 : Int) < (Ln (Val.list b1) : Int))) = false] := by kernel_rfl
theorem p153_e_2 (a0 : Val) : rE I153 (xEc a0) [] [] = st 3 I153 (S153_3 0 0 a0) [] := by kernel_rfl
theorem c153_3 {N : Nat} {q0 : Val → Option (Int)} (g0 : G153 q0) : ∀ n x3 x4 b1 r, xET N q0 n x3 x4 b1 = some r → RS Try.f153 I153 3 (S153_3 x3 x4 b1) (xCv r) := by
 intro n
 induction n with
 | zero => exact fun _ _ _ _ h => nE h
 | succ n ih =>
  exact fun x3 x4 b1 r h =>
   cE h (fun h0 h => iE h fun h1 h => bE h fun r1 h2 h => bE h fun r2 h3 h => tS fk153 (p153_3_0 x3 x4 b1 r1 r2) (oc h0 (oc h1 (oc (g0 _ _ h2) (oc (spec_l1Max_ok h3) on)))) (ih _ _ _ _ h)) fun h0 h =>
   dS h fk153 (p153_3_1 x3 x4 b1) (oc h0 on)
theorem c153_e {N : Nat} {q0 : Val → Option (Int)} (g0 : G153 q0) : ∀ a0 r, xGQ N q0 a0 = some r → RE Try.f153 I153 (xEc a0) (xCv r) := fun a0 r h =>
 tE fk153 (p153_e_2 a0) on (c153_3 g0 _ _ _ _ _ h)
theorem xI0 {N : Nat} {q0 : Val → Option (Int)} (g0 : G153 q0) {a0 : Val} {r : Int} (h : xGQ N q0 a0 = some r) : AbC 153 (xEc a0) (xCv r) :=
 AbsCalls.of_reach fk153 rfl rfl (Nat.le_of_ble_eq_true rfl) (c153_e g0 a0 r h)
theorem xHD {N : Nat} : ∀ d, G153 (xDG N d)
 | 0 => fun _ _ h => nE h
 | d + 1 => fun _ _ h => xI0 (N := N) (xHD d) h
theorem spec_DepthOf_ok {N : Nat} {a0 : Val} {r : Int} (h : xHR N a0 = some r) : AbC 153 (xEc a0) (xCv r) := xHD N _ r h
noncomputable def I137 : Info := { body := (Try.f137.body).getD .skip, nt := 45, results := [.tmp 2], keep := [0, 4, 6, 8, 10, 18, 82], live := [(2, [0, 6])], modes := [(4, [(4, .take, false)]), (5, [(4, .take, false)]), (6, [(0, .take, false), (2, .take, false), (5, .take, false), (6, .take, false)])] }
theorem xI7 : FnOk Try.prog 137 Try.f137 I137 := ⟨Try.func137, by kernel_rfl, by kernel_rfl, by kernel_rfl, by kernel_rfl⟩
def xGs (x0 : Str) (x3 : Int) : St := [(0, .v false [.str x0]), (6, .v false [.int .i64 x3])]
theorem p137_2_0 (x0 : Str) (x3 : Int) : rS 2 I137 (xGs x0 x3) [Y, Y, Y, Y, Y, Y] [] = dn (xBm false) [(decide ((x3 : Int) < (Ln x0 : Int))) = true, (0 : Int) ≤ x3 ∧ x3 < (Ln x0), (decide ((((gD x0 (tN x3) 0).toNat : Int) : Int) ≥ 97)) = true, (0 : Int) ≤ x3 ∧ x3 < (Ln x0), (0 : Int) ≤ x3 ∧ x3 < (Ln x0), (decide ((((gD x0 (tN x3) 0).toNat : Int) : Int) ≥ 48)) = true, (0 : Int) ≤ x3 ∧ x3 < (Ln x0), (!(decide ((((gD x0 (tN x3) 0).toNat : Int) : Int) ≤ 122))) = true, ((x3 : Int) == 0) = true, true = true] := by kernel_rfl
theorem p137_2_1 (x0 : Str) (x3 : Int) : rS 2 I137 (xGs x0 x3) [Y, Y, Y, Y, F, Y] [] = dn (xBm false) [(decide ((x3 : Int) < (Ln x0 : Int))) = true, (0 : Int) ≤ x3 ∧ x3 < (Ln x0), (decide ((((gD x0 (tN x3) 0).toNat : Int) : Int) ≥ 97)) = true, (0 : Int) ≤ x3 ∧ x3 < (Ln x0), (0 : Int) ≤ x3 ∧ x3 < (Ln x0), (decide ((((gD x0 (tN x3) 0).toNat : Int) : Int) ≥ 48)) = true, (0 : Int) ≤ x3 ∧ x3 < (Ln x0), (!(decide ((((gD x0 (tN x3) 0).toNat : Int) : Int) ≤ 122))) = true, ((x3 : Int) == 0) = false, (!(decide ((((gD x0 (tN x3) 0).toNat : Int) : Int) ≤ 57))) = true] := by kernel_rfl
theorem p137_2_2 (x0 : Str) (x3 : Int) : rS 2 I137 (xGs x0 x3) [Y, Y, Y, Y, F, F] [] = st 2 I137 (xGs x0 (W (x3 + 1))) [(decide ((x3 : Int) < (Ln x0 : Int))) = true, (0 : Int) ≤ x3 ∧ x3 < (Ln x0), (decide ((((gD x0 (tN x3) 0).toNat : Int) : Int) ≥ 97)) = true, (0 : Int) ≤ x3 ∧ x3 < (Ln x0), (0 : Int) ≤ x3 ∧ x3 < (Ln x0), (decide ((((gD x0 (tN x3) 0).toNat : Int) : Int) ≥ 48)) = true, (0 : Int) ≤ x3 ∧ x3 < (Ln x0), (!(decide ((((gD x0 (tN x3) 0).toNat : Int) : Int) ≤ 122))) = true, ((x3 : Int) == 0) = false, (!(decide ((((gD x0 (tN x3) 0).toNat : Int) : Int) ≤ 57))) = false] := by kernel_rfl
theorem p137_2_3 (x0 : Str) (x3 : Int) : rS 2 I137 (xGs x0 x3) [Y, Y, Y, F, F] [] = st 2 I137 (xGs x0 (W (x3 + 1))) [(decide ((x3 : Int) < (Ln x0 : Int))) = true, (0 : Int) ≤ x3 ∧ x3 < (Ln x0), (decide ((((gD x0 (tN x3) 0).toNat : Int) : Int) ≥ 97)) = true, (0 : Int) ≤ x3 ∧ x3 < (Ln x0), (0 : Int) ≤ x3 ∧ x3 < (Ln x0), (decide ((((gD x0 (tN x3) 0).toNat : Int) : Int) ≥ 48)) = true, (0 : Int) ≤ x3 ∧ x3 < (Ln x0), (!(decide ((((gD x0 (tN x3) 0).toNat : Int) : Int) ≤ 122))) = false, false = false] := by kernel_rfl
theorem p137_2_4 (x0 : Str) (x3 : Int) : rS 2 I137 (xGs x0 x3) [Y, Y, F, Y, Y, Y] [] = dn (xBm false) [(decide ((x3 : Int) < (Ln x0 : Int))) = true, (0 : Int) ≤ x3 ∧ x3 < (Ln x0), (decide ((((gD x0 (tN x3) 0).toNat : Int) : Int) ≥ 97)) = true, (0 : Int) ≤ x3 ∧ x3 < (Ln x0), (0 : Int) ≤ x3 ∧ x3 < (Ln x0), (decide ((((gD x0 (tN x3) 0).toNat : Int) : Int) ≥ 48)) = false, (!(decide ((((gD x0 (tN x3) 0).toNat : Int) : Int) ≤ 122))) = true, ((x3 : Int) == 0) = true, true = true] := by kernel_rfl
theorem p137_2_5 (x0 : Str) (x3 : Int) : rS 2 I137 (xGs x0 x3) [Y, Y, F, Y, F, Y] [] = dn (xBm false) [(decide ((x3 : Int) < (Ln x0 : Int))) = true, (0 : Int) ≤ x3 ∧ x3 < (Ln x0), (decide ((((gD x0 (tN x3) 0).toNat : Int) : Int) ≥ 97)) = true, (0 : Int) ≤ x3 ∧ x3 < (Ln x0), (0 : Int) ≤ x3 ∧ x3 < (Ln x0), (decide ((((gD x0 (tN x3) 0).toNat : Int) : Int) ≥ 48)) = false, (!(decide ((((gD x0 (tN x3) 0).toNat : Int) : Int) ≤ 122))) = true, ((x3 : Int) == 0) = false, (!false) = true] := by kernel_rfl
theorem p137_2_6 (x0 : Str) (x3 : Int) : rS 2 I137 (xGs x0 x3) [Y, Y, F, F, F] [] = st 2 I137 (xGs x0 (W (x3 + 1))) [(decide ((x3 : Int) < (Ln x0 : Int))) = true, (0 : Int) ≤ x3 ∧ x3 < (Ln x0), (decide ((((gD x0 (tN x3) 0).toNat : Int) : Int) ≥ 97)) = true, (0 : Int) ≤ x3 ∧ x3 < (Ln x0), (0 : Int) ≤ x3 ∧ x3 < (Ln x0), (decide ((((gD x0 (tN x3) 0).toNat : Int) : Int) ≥ 48)) = false, (!(decide ((((gD x0 (tN x3) 0).toNat : Int) : Int) ≤ 122))) = false, false = false] := by kernel_rfl
theorem p137_2_7 (x0 : Str) (x3 : Int) : rS 2 I137 (xGs x0 x3) [Y, F, Y, Y, Y, Y] [] = dn (xBm false) [(decide ((x3 : Int) < (Ln x0 : Int))) = true, (0 : Int) ≤ x3 ∧ x3 < (Ln x0), (decide ((((gD x0 (tN x3) 0).toNat : Int) : Int) ≥ 97)) = false, (0 : Int) ≤ x3 ∧ x3 < (Ln x0), (decide ((((gD x0 (tN x3) 0).toNat : Int) : Int) ≥ 48)) = true, (0 : Int) ≤ x3 ∧ x3 < (Ln x0), (!false) = true, ((x3 : Int) == 0) = true, true = true] := by kernel_rfl
theorem p137_2_8 (x0 : Str) (x3 : Int) : rS 2 I137 (xGs x0 x3) [Y, F, Y, Y, F, Y] [] = dn (xBm false) [(decide ((x3 : Int) < (Ln x0 : Int))) = true, (0 : Int) ≤ x3 ∧ x3 < (Ln x0), (decide ((((gD x0 (tN x3) 0).toNat : Int) : Int) ≥ 97)) = false, (0 : Int) ≤ x3 ∧ x3 < (Ln x0), (decide ((((gD x0 (tN x3) 0).toNat : Int) : Int) ≥ 48)) = true, (0 : Int) ≤ x3 ∧ x3 < (Ln x0), (!false) = true, ((x3 : Int) == 0) = false, (!(decide ((((gD x0 (tN x3) 0).toNat : Int) : Int) ≤ 57))) = true] := by kernel_rfl
theorem p137_2_9 (x0 : Str) (x3 : Int) : rS 2 I137 (xGs x0 x3) [Y, F, Y, Y, F, F] [] = st 2 I137 (xGs x0 (W (x3 + 1))) [(decide ((x3 : Int) < (Ln x0 : Int))) = true, (0 : Int) ≤ x3 ∧ x3 < (Ln x0), (decide ((((gD x0 (tN x3) 0).toNat : Int) : Int) ≥ 97)) = false, (0 : Int) ≤ x3 ∧ x3 < (Ln x0), (decide ((((gD x0 (tN x3) 0).toNat : Int) : Int) ≥ 48)) = true, (0 : Int) ≤ x3 ∧ x3 < (Ln x0), (!false) = true, ((x3 : Int) == 0) = false, (!(decide ((((gD x0 (tN x3) 0).toNat : Int) : Int) ≤ 57))) = false] := by kernel_rfl
theorem p137_2_10 (x0 : Str) (x3 : Int) : rS 2 I137 (xGs x0 x3) [Y, F, F, Y, Y, Y] [] = dn (xBm false) [(decide ((x3 : Int) < (Ln x0 : Int))) = true, (0 : Int) ≤ x3 ∧ x3 < (Ln x0), (decide ((((gD x0 (tN x3) 0).toNat : Int) : Int) ≥ 97)) = false, (0 : Int) ≤ x3 ∧ x3 < (Ln x0), (decide ((((gD x0 (tN x3) 0).toNat : Int) : Int) ≥ 48)) = false, (!false) = true, ((x3 : Int) == 0) = true, true = true] := by kernel_rfl
theorem p137_2_11 (x0 : Str) (x3 : Int) : rS 2 I137 (xGs x0 x3) [Y, F, F, Y, F, Y] [] = dn (xBm false) [(decide ((x3 : Int) < (Ln x0 : Int))) = true, (0 : Int) ≤ x3 ∧ x3 < (Ln x0), (decide ((((gD x0 (tN x3) 0).toNat : Int) : Int) ≥ 97)) = false, (0 : Int) ≤ x3 ∧ x3 < (Ln x0), (decide ((((gD x0 (tN x3) 0).toNat : Int) : Int) ≥ 48)) = false, (!false) = true, ((x3 : Int) == 0) = false, (!false) = true] := by kernel_rfl
theorem p137_2_12 (x0 : Str) (x3 : Int) : rS 2 I137 (xGs x0 x3) [F] [] = dn (xBm (decide (((Ln x0 : Int) : Int) > 0))) [(decide ((x3 : Int) < (Ln x0 : Int))) = false] := by kernel_rfl
theorem p137_e_13 (a0 : Str) : rE I137 (xEV a0) [] [] = st 2 I137 (xGs a0 0) [] := by kernel_rfl
theorem c137_2 {N : Nat} : ∀ n x0 x3 r, xCw N n x0 x3 = some r → RS Try.f137 I137 2 (xGs x0 x3) (xBm r) := by
 intro n
 induction n with
 | zero => exact fun _ _ _ h => nE h
 | succ n ih =>
  exact fun x0 x3 r h =>
   cE h (fun h0 h => iE h fun h1 h => cE h (fun h2 h => cE h (fun h5 h => cE h (fun h7 h => cE h (fun h8 h => dS h xI7 (p137_2_0 x0 x3) (oc h0 (oc h1 (oc h2 (oc h1 (oc h1 (oc h5 (oc h1 (oc h7 (oc h8 (oc rfl on))))))))))) fun h8 h =>
   cE h (fun h9 h => dS h xI7 (p137_2_1 x0 x3) (oc h0 (oc h1 (oc h2 (oc h1 (oc h1 (oc h5 (oc h1 (oc h7 (oc h8 (oc h9 on))))))))))) fun h9 h =>
   tS xI7 (p137_2_2 x0 x3) (oc h0 (oc h1 (oc h2 (oc h1 (oc h1 (oc h5 (oc h1 (oc h7 (oc h8 (oc h9 on)))))))))) (ih _ _ _ h)) fun h7 h =>
   tS xI7 (p137_2_3 x0 x3) (oc h0 (oc h1 (oc h2 (oc h1 (oc h1 (oc h5 (oc h1 (oc h7 (oc rfl on))))))))) (ih _ _ _ h)) fun h5 h =>
   cE h (fun h6 h => cE h (fun h7 h => dS h xI7 (p137_2_4 x0 x3) (oc h0 (oc h1 (oc h2 (oc h1 (oc h1 (oc h5 (oc h6 (oc h7 (oc rfl on)))))))))) fun h7 h =>
   dS h xI7 (p137_2_5 x0 x3) (oc h0 (oc h1 (oc h2 (oc h1 (oc h1 (oc h5 (oc h6 (oc h7 (oc rfl on)))))))))) fun h6 h =>
   tS xI7 (p137_2_6 x0 x3) (oc h0 (oc h1 (oc h2 (oc h1 (oc h1 (oc h5 (oc h6 (oc rfl on)))))))) (ih _ _ _ h)) fun h2 h =>
   cE h (fun h4 h => cE h (fun h7 h => dS h xI7 (p137_2_7 x0 x3) (oc h0 (oc h1 (oc h2 (oc h1 (oc h4 (oc h1 (oc rfl (oc h7 (oc rfl on)))))))))) fun h7 h =>
   cE h (fun h8 h => dS h xI7 (p137_2_8 x0 x3) (oc h0 (oc h1 (oc h2 (oc h1 (oc h4 (oc h1 (oc rfl (oc h7 (oc h8 on)))))))))) fun h8 h =>
   tS xI7 (p137_2_9 x0 x3) (oc h0 (oc h1 (oc h2 (oc h1 (oc h4 (oc h1 (oc rfl (oc h7 (oc h8 on))))))))) (ih _ _ _ h)) fun h4 h =>
   cE h (fun h6 h => dS h xI7 (p137_2_10 x0 x3) (oc h0 (oc h1 (oc h2 (oc h1 (oc h4 (oc rfl (oc h6 (oc rfl on))))))))) fun h6 h =>
   dS h xI7 (p137_2_11 x0 x3) (oc h0 (oc h1 (oc h2 (oc h1 (oc h4 (oc rfl (oc h6 (oc rfl on))))))))) fun h0 h =>
   dS h xI7 (p137_2_12 x0 x3) (oc h0 on)
theorem c137_e {N : Nat} : ∀ a0 r, xHU N a0 = some r → RE Try.f137 I137 (xEV a0) (xBm r) := fun a0 r h =>
 tE xI7 (p137_e_13 a0) on (c137_2 _ _ _ _ h)
theorem xHI {N : Nat} {a0 : Str} {r : Bool} (h : xHU N  a0 = some r) : AbC 137 (xEV a0) (xBm r) :=
 AbsCalls.of_reach xI7 rfl rfl (Nat.le_of_ble_eq_true rfl) (c137_e a0 r h)
noncomputable def I175 : Info := { body := (Try.f175.body).getD .skip, nt := 2, results := [.tmp 0], keep := [0], live := [], modes := [] }
theorem fk175 : FnOk Try.prog 175 Try.f175 I175 := ⟨Try.func175, by kernel_rfl, by kernel_rfl, by kernel_rfl, by kernel_rfl⟩
theorem p175_e_0 : rE I175 (xFy ) [] [] = dn (xEA [[108, 101, 116], [105, 110], [105, 102], [116, 104, 101, 110], [101, 108, 115, 101], [102, 111, 114], [100, 111], [108, 101, 110], [115, 117, 109], [116, 97, 107, 101], [115, 107, 105, 112], [114, 97, 110, 103, 101], [110, 116, 104], [119, 104, 101, 114, 101], [107, 101, 101, 112], [97, 100, 100], [103, 114, 111, 117, 112], [106, 111, 105, 110], [99, 111, 108, 117, 109, 110], [114, 111, 119, 115], [99, 108, 111, 99, 107], [99, 104, 97, 110, 99, 101], [102, 105, 108, 101], [116, 97, 98, 108, 101]]) [] := by kernel_rfl
theorem c175_e {N : Nat} : ∀ r, xGF N = some r → RE Try.f175 I175 (xFy ) (xEA r) := fun r h =>
 dE h fk175 (p175_e_0) on
theorem spec_l2Reserved_ok {N : Nat} {r : (List Str)} (h : xGF N   = some r) : AbC 175 (xFy ) (xEA r) :=
 AbsCalls.of_reach fk175 rfl rfl (Nat.le_of_ble_eq_true rfl) (c175_e  r h)
noncomputable def I174 : Info := { body := (Try.f174.body).getD .skip, nt := 18, results := [.tmp 4], keep := [0, 2, 8, 10, 18, 34], live := [(2, [0, 2, 10])], modes := [] }
theorem fk174 : FnOk Try.prog 174 Try.f174 I174 := ⟨Try.func174, by kernel_rfl, by kernel_rfl, by kernel_rfl, by kernel_rfl⟩
def S174_2 (x0 : List Str) (x1 : Str) (x5 : Int) : St := [(0, .v false [.sl .ro .str x0]), (2, .v false [.str x1]), (10, .v false [.int .i64 x5])]
theorem p174_2_0 (x0 : List Str) (x1 : Str) (x5 : Int) : rS 2 I174 (S174_2 x0 x1 x5) [Y, Y] [] = dn (xCY true) [(decide ((x5 : Int) < (Ln x0 : Int))) = true, (0 : Int) ≤ x5 ∧ x5 < (Ln x0), (((gD x0 (tN x5) Ty.str.dflt) : Str) == x1) = true] := by kernel_rfl
theorem p174_2_1 (x0 : List Str) (x1 : Str) (x5 : Int) : rS 2 I174 (S174_2 x0 x1 x5) [Y, F] [] = st 2 I174 (S174_2 x0 x1 (W (x5 + 1))) [(decide ((x5 : Int) < (Ln x0 : Int))) = true, (0 : Int) ≤ x5 ∧ x5 < (Ln x0), (((gD x0 (tN x5) Ty.str.dflt) : Str) == x1) = false] := by kernel_rfl
theorem p174_2_2 (x0 : List Str) (x1 : Str) (x5 : Int) : rS 2 I174 (S174_2 x0 x1 x5) [F] [] = dn (xCY false) [(decide ((x5 : Int) < (Ln x0 : Int))) = false] := by kernel_rfl
theorem p174_e_3 (a0 : List Str) (a1 : Str) : rE I174 (xFV a0 a1) [] [] = st 2 I174 (S174_2 a0 a1 0) [] := by kernel_rfl
theorem c174_2 {N : Nat} : ∀ n x0 x1 x5 r, xE8 N n x0 x1 x5 = some r → RS Try.f174 I174 2 (S174_2 x0 x1 x5) (xCY r) := by
 intro n
 induction n with
 | zero => exact fun _ _ _ _ h => nE h
 | succ n ih =>
  exact fun x0 x1 x5 r h =>
   cE h (fun h0 h => iE h fun h1 h => cE h (fun h2 h => dS h fk174 (p174_2_0 x0 x1 x5) (oc h0 (oc h1 (oc h2 on)))) fun h2 h =>
   tS fk174 (p174_2_1 x0 x1 x5) (oc h0 (oc h1 (oc h2 on))) (ih _ _ _ _ h)) fun h0 h =>
   dS h fk174 (p174_2_2 x0 x1 x5) (oc h0 on)
theorem c174_e {N : Nat} : ∀ a0 a1 r, xIc N a0 a1 = some r → RE Try.f174 I174 (xFV a0 a1) (xCY r) := fun a0 a1 r h =>
 tE fk174 (p174_e_3 a0 a1) on (c174_2 _ _ _ _ _ h)
theorem xIq {N : Nat} {a0 : List Str} {a1 : Str} {r : Bool} (h : xIc N  a0 a1 = some r) : AbC 174 (xFV a0 a1) (xCY r) :=
 AbsCalls.of_reach fk174 rfl rfl (Nat.le_of_ble_eq_true rfl) (c174_e a0 a1 r h)
noncomputable def I138 : Info := { body := (Try.f138.body).getD .skip, nt := 6, results := [.tmp 2], keep := [0, 4], live := [], modes := [] }
theorem fk138 : FnOk Try.prog 138 Try.f138 I138 := ⟨Try.func138, by kernel_rfl, by kernel_rfl, by kernel_rfl, by kernel_rfl⟩
theorem p138_e_0 (a0 : Str) (r1 : (List Str)) (r2 : Bool) : rE I138 (xFw a0) [] [xEA r1, xCY r2] = dn (xEz r2) [AbC 175 xFy (xEA r1), AbC 174 (xFV r1 a0) (xCY r2)] := by kernel_rfl
theorem c138_e {N : Nat} : ∀ a0 r, xFK N a0 = some r → RE Try.f138 I138 (xFw a0) (xEz r) := fun a0 r h =>
 bE h fun r1 h0 h => bE h fun r2 h1 h => dE h fk138 (p138_e_0 a0 r1 r2) (oc (spec_l2Reserved_ok h0) (oc (xIq h1) on))
theorem spec_IsReserved_ok {N : Nat} {a0 : Str} {r : Bool} (h : xFK N  a0 = some r) : AbC 138 (xFw a0) (xEz r) :=
 AbsCalls.of_reach fk138 rfl rfl (Nat.le_of_ble_eq_true rfl) (c138_e a0 r h)
noncomputable def I83 : Info := { body := (Try.f83.body).getD .skip, nt := 15, results := [.tmp 2], keep := [0, 4], live := [], modes := [(1, [(2, .take, false), (7, .take, false)])] }
theorem fk83 : FnOk Try.prog 83 Try.f83 I83 := ⟨Try.func83, by kernel_rfl, by kernel_rfl, by kernel_rfl, by kernel_rfl⟩
theorem p83_e_0 (a0 : Str) (r1 r2 : Bool) : rE I83 (xCJ a0) [Y, Y] [xBm r1, xEz r2] = dn (xB3 (!r2)) [AbC 137 (xEV a0) (xBm r1), r1 = true, (decide (((Ln a0 : Int) : Int) ≤ 8)) = true, AbC 138 (xFw a0) (xEz r2)] := by kernel_rfl
theorem p83_e_1 (a0 : Str) (r1 : Bool) : rE I83 (xCJ a0) [Y, F] [xBm r1] = dn (xB3 false) [AbC 137 (xEV a0) (xBm r1), r1 = true, (decide (((Ln a0 : Int) : Int) ≤ 8)) = false] := by kernel_rfl
theorem p83_e_2 (a0 : Str) (r1 : Bool) : rE I83 (xCJ a0) [F, F] [xBm r1] = dn (xB3 false) [AbC 137 (xEV a0) (xBm r1), r1 = false, false = false] := by kernel_rfl
theorem c83_e {N : Nat} : ∀ a0 r, xFf N a0 = some r → RE Try.f83 I83 (xCJ a0) (xB3 r) := fun a0 r h =>
 bE h fun r1 h0 h => cE h (fun h1 h => cE h (fun h2 h => bE h fun r2 h3 h => dE h fk83 (p83_e_0 a0 r1 r2) (oc (xHI h0) (oc h1 (oc h2 (oc (spec_IsReserved_ok h3) on))))) fun h2 h =>
 dE h fk83 (p83_e_1 a0 r1) (oc (xHI h0) (oc h1 (oc h2 on)))) fun h1 h =>
 dE h fk83 (p83_e_2 a0 r1) (oc (xHI h0) (oc h1 (oc rfl on)))
theorem xHE {N : Nat} {a0 : Str} {r : Bool} (h : xFf N  a0 = some r) : AbC 83 (xCJ a0) (xB3 r) :=
 AbsCalls.of_reach fk83 rfl rfl (Nat.le_of_ble_eq_true rfl) (c83_e a0 r h)
noncomputable def I178 : Info := { body := (Try.f178.body).getD .skip, nt := 18, results := [.tmp 2], keep := [0, 4, 6, 14, 34], live := [(2, [0, 6])], modes := [] }
theorem fk178 : FnOk Try.prog 178 Try.f178 I178 := ⟨Try.func178, by kernel_rfl, by kernel_rfl, by kernel_rfl, by kernel_rfl⟩
def S178_2 (x0 : List Str) (x3 : Int) : St := [(0, .v false [.sl .ro .str x0]), (6, .v false [.int .i64 x3])]
theorem p178_2_0 (x0 : List Str) (x3 : Int) (r1 : Bool) : rS 2 I178 (S178_2 x0 x3) [Y, Y] [xCY r1] = dn (xCI false) [(decide ((x3 : Int) < (Ln x0 : Int))) = true, (0 : Int) ≤ x3 ∧ x3 ≤ (Ln x0), (0 : Int) ≤ x3 ∧ x3 < (Ln x0), AbC 174 (xFV (List.take (tN x3) x0) (gD x0 (tN x3) Ty.str.dflt)) (xCY r1), r1 = true] := by kernel_rfl
theorem p178_2_1 (x0 : List Str) (x3 : Int) (r1 : Bool) : rS 2 I178 (S178_2 x0 x3) [Y, F] [xCY r1] = st 2 I178 (S178_2 x0 (W (x3 + 1))) [(decide ((x3 : Int) < (Ln x0 : Int))) = true, (0 : Int) ≤ x3 ∧ x3 ≤ (Ln x0), (0 : Int) ≤ x3 ∧ x3 < (Ln x0), AbC 174 (xFV (List.take (tN x3) x0) (gD x0 (tN x3) Ty.str.dflt)) (xCY r1), r1 = false] := by kernel_rfl
theorem p178_2_2 (x0 : List Str) (x3 : Int) : rS 2 I178 (S178_2 x0 x3) [F] [] = dn (xCI true) [(decide ((x3 : Int) < (Ln x0 : Int))) = false] := by kernel_rfl
theorem p178_e_3 (a0 : List Str) : rE I178 (xE6 a0) [] [] = st 2 I178 (S178_2 a0 0) [] := by kernel_rfl
theorem c178_2 {N : Nat} : ∀ n x0 x3 r, xCH N n x0 x3 = some r → RS Try.f178 I178 2 (S178_2 x0 x3) (xCI r) := by
 intro n
 induction n with
 | zero => exact fun _ _ _ h => nE h
 | succ n ih =>
  exact fun x0 x3 r h =>
   cE h (fun h0 h => iE h fun h1 h => iE h fun h2 h => bE h fun r1 h3 h => cE h (fun h4 h => dS h fk178 (p178_2_0 x0 x3 r1) (oc h0 (oc h1 (oc h2 (oc (xIq h3) (oc h4 on)))))) fun h4 h =>
   tS fk178 (p178_2_1 x0 x3 r1) (oc h0 (oc h1 (oc h2 (oc (xIq h3) (oc h4 on))))) (ih _ _ _ h)) fun h0 h =>
   dS h fk178 (p178_2_2 x0 x3) (oc h0 on)
theorem c178_e {N : Nat} : ∀ a0 r, xGj N a0 = some r → RE Try.f178 I178 (xE6 a0) (xCI r) := fun a0 r h =>
 tE fk178 (p178_e_3 a0) on (c178_2 _ _ _ _ h)
theorem xJk {N : Nat} {a0 : List Str} {r : Bool} (h : xGj N  a0 = some r) : AbC 178 (xE6 a0) (xCI r) :=
 AbsCalls.of_reach fk178 rfl rfl (Nat.le_of_ble_eq_true rfl) (c178_e a0 r h)
noncomputable def I154 : Info := { body := (Try.f154.body).getD .skip, nt := 23, results := [.tmp 2], keep := [0, 4, 6, 14, 30], live := [(2, [0, 6])], modes := [(6, [(3, .take, false)])] }
theorem fk154 : FnOk Try.prog 154 Try.f154 I154 := ⟨Try.func154, by kernel_rfl, by kernel_rfl, by kernel_rfl, by kernel_rfl⟩
def S154_2 (x0 : List Str) (x3 : Int) : St := [(0, .v false [.sl .ro .str x0]), (6, .v false [.int .i64 x3])]
theorem p154_2_0 (x0 : List Str) (x3 : Int) (r1 : Bool) : rS 2 I154 (S154_2 x0 x3) [Y, Y] [xB3 r1] = dn (xBI false) [(decide ((x3 : Int) < (Ln x0 : Int))) = true, (0 : Int) ≤ x3 ∧ x3 < (Ln x0), AbC 83 (xCJ (gD x0 (tN x3) Ty.str.dflt)) (xB3 r1), (!r1) = true] := by kernel_rfl
theorem p154_2_1 (x0 : List Str) (x3 : Int) (r1 : Bool) : rS 2 I154 (S154_2 x0 x3) [Y, F] [xB3 r1] = st 2 I154 (S154_2 x0 (W (x3 + 1))) [(decide ((x3 : Int) < (Ln x0 : Int))) = true, (0 : Int) ≤ x3 ∧ x3 < (Ln x0), AbC 83 (xCJ (gD x0 (tN x3) Ty.str.dflt)) (xB3 r1), (!r1) = false] := by kernel_rfl
theorem p154_2_2 (x0 : List Str) (x3 : Int) (r1 r2 : Bool) : rS 2 I154 (S154_2 x0 x3) [F, Y] [xC5 r1, xCI r2] = dn (xBI r2) [(decide ((x3 : Int) < (Ln x0 : Int))) = false, AbC 108 (xEY (Ln x0 : Int) 1 4) (xC5 r1), r1 = true, AbC 178 (xE6 x0) (xCI r2)] := by kernel_rfl
theorem p154_2_3 (x0 : List Str) (x3 : Int) (r1 : Bool) : rS 2 I154 (S154_2 x0 x3) [F, F] [xC5 r1] = dn (xBI false) [(decide ((x3 : Int) < (Ln x0 : Int))) = false, AbC 108 (xEY (Ln x0 : Int) 1 4) (xC5 r1), r1 = false] := by kernel_rfl
theorem p154_e_4 (a0 : List Str) : rE I154 (xDZ a0) [] [] = st 2 I154 (S154_2 a0 0) [] := by kernel_rfl
theorem c154_2 {N : Nat} : ∀ n x0 x3 r, xD0 N n x0 x3 = some r → RS Try.f154 I154 2 (S154_2 x0 x3) (xBI r) := by
 intro n
 induction n with
 | zero => exact fun _ _ _ h => nE h
 | succ n ih =>
  exact fun x0 x3 r h =>
   cE h (fun h0 h => iE h fun h1 h => bE h fun r1 h2 h => cE h (fun h3 h => dS h fk154 (p154_2_0 x0 x3 r1) (oc h0 (oc h1 (oc (xHE h2) (oc h3 on))))) fun h3 h =>
   tS fk154 (p154_2_1 x0 x3 r1) (oc h0 (oc h1 (oc (xHE h2) (oc h3 on)))) (ih _ _ _ h)) fun h0 h =>
   bE h fun r1 h1 h => cE h (fun h2 h => bE h fun r2 h3 h => dS h fk154 (p154_2_2 x0 x3 r1 r2) (oc h0 (oc (xHT h1) (oc h2 (oc (xJk h3) on))))) fun h2 h =>
   dS h fk154 (p154_2_3 x0 x3 r1) (oc h0 (oc (xHT h1) (oc h2 on)))
theorem c154_e {N : Nat} : ∀ a0 r, xG8 N a0 = some r → RE Try.f154 I154 (xDZ a0) (xBI r) := fun a0 r h =>
 tE fk154 (p154_e_4 a0) on (c154_2 _ _ _ _ h)
theorem xGS {N : Nat} {a0 : List Str} {r : Bool} (h : xG8 N  a0 = some r) : AbC 154 (xDZ a0) (xBI r) :=
 AbsCalls.of_reach fk154 rfl rfl (Nat.le_of_ble_eq_true rfl) (c154_e a0 r h)
noncomputable def I179 : Info := { body := (Try.f179.body).getD .skip, nt := 24, results := [.tmp 4], keep := [0, 2, 4, 6, 8, 5, 7], live := [], modes := [(1, [(5, .take, false), (11, .take, false)])] }
theorem fk179 : FnOk Try.prog 179 Try.f179 I179 := ⟨Try.func179, by kernel_rfl, by kernel_rfl, by kernel_rfl, by kernel_rfl⟩
theorem p179_e_0 (a0 a1 : Org) : rE I179 (xDH a0 a1) [Y] [] = dn (xCD true) [(decide (((Org.cell a0) : Int) < (Org.cell a1))) = true] := by kernel_rfl
theorem p179_e_1 (a0 a1 : Org) : rE I179 (xDH a0 a1) [F, Y] [] = dn (xCD (decide (((Org.row a0) : Int) < (Org.row a1)))) [(decide (((Org.cell a0) : Int) < (Org.cell a1))) = false, (((Org.cell a0) : Int) == (Org.cell a1)) = true] := by kernel_rfl
theorem p179_e_2 (a0 a1 : Org) : rE I179 (xDH a0 a1) [F, F] [] = dn (xCD false) [(decide (((Org.cell a0) : Int) < (Org.cell a1))) = false, (((Org.cell a0) : Int) == (Org.cell a1)) = false] := by kernel_rfl
theorem c179_e {N : Nat} : ∀ a0 a1 r, xGG N a0 a1 = some r → RE Try.f179 I179 (xDH a0 a1) (xCD r) := fun a0 a1 r h =>
 cE h (fun h0 h => dE h fk179 (p179_e_0 a0 a1) (oc h0 on)) fun h0 h =>
 cE h (fun h1 h => dE h fk179 (p179_e_1 a0 a1) (oc h0 (oc h1 on))) fun h1 h =>
 dE h fk179 (p179_e_2 a0 a1) (oc h0 (oc h1 on))
theorem xIw {N : Nat} {a0 : Org} {a1 : Org} {r : Bool} (h : xGG N  a0 a1 = some r) : AbC 179 (xDH a0 a1) (xCD r) :=
 AbsCalls.of_reach fk179 rfl rfl (Nat.le_of_ble_eq_true rfl) (c179_e a0 a1 r h)
noncomputable def I155 : Info := { body := (Try.f155.body).getD .skip, nt := 41, results := [.tmp 2], keep := [0, 4, 6, 14, 80], live := [(2, [0, 6])], modes := [(4, [(6, .take, false), (14, .take, false), (17, .take, false)])] }
theorem fk155 : FnOk Try.prog 155 Try.f155 I155 := ⟨Try.func155, by kernel_rfl, by kernel_rfl, by kernel_rfl, by kernel_rfl⟩
def xI1 (x0 : List Org) (x3 : Int) : St := [(0, .v false [.sl .ro .org x0]), (6, .v false [.int .i64 x3])]
theorem p155_2_0 (x0 : List Org) (x3 : Int) : rS 2 I155 (xI1 x0 x3) [Y, Y, Y, Y] [] = dn (xBD false) [(decide ((x3 : Int) < (Ln x0 : Int))) = true, (0 : Int) ≤ x3 ∧ x3 < (Ln x0), (decide (((Org.cell (gD x0 (tN x3) Ty.org.dflt)) : Int) < 0)) = true, true = true, true = true] := by kernel_rfl
theorem p155_2_1 (x0 : List Org) (x3 : Int) : rS 2 I155 (xI1 x0 x3) [Y, F, Y, Y] [] = dn (xBD false) [(decide ((x3 : Int) < (Ln x0 : Int))) = true, (0 : Int) ≤ x3 ∧ x3 < (Ln x0), (decide (((Org.cell (gD x0 (tN x3) Ty.org.dflt)) : Int) < 0)) = false, (0 : Int) ≤ x3 ∧ x3 < (Ln x0), (decide (((Org.row (gD x0 (tN x3) Ty.org.dflt)) : Int) < 0)) = true, true = true] := by kernel_rfl
theorem p155_2_2 (x0 : List Org) (x3 : Int) (r1 : Bool) : rS 2 I155 (xI1 x0 x3) [Y, F, F, Y, Y] [xCD r1] = dn (xBD false) [(decide ((x3 : Int) < (Ln x0 : Int))) = true, (0 : Int) ≤ x3 ∧ x3 < (Ln x0), (decide (((Org.cell (gD x0 (tN x3) Ty.org.dflt)) : Int) < 0)) = false, (0 : Int) ≤ x3 ∧ x3 < (Ln x0), (decide (((Org.row (gD x0 (tN x3) Ty.org.dflt)) : Int) < 0)) = false, (decide ((x3 : Int) > 0)) = true, (0 : Int) ≤ (W (x3 - 1)) ∧ (W (x3 - 1)) < (Ln x0), (0 : Int) ≤ x3 ∧ x3 < (Ln x0), AbC 179 (xDH (gD x0 (tN (W (x3 - 1))) Ty.org.dflt) (gD x0 (tN x3) Ty.org.dflt)) (xCD r1), (!r1) = true] := by kernel_rfl
theorem p155_2_3 (x0 : List Org) (x3 : Int) (r1 : Bool) : rS 2 I155 (xI1 x0 x3) [Y, F, F, Y, F] [xCD r1] = st 2 I155 (xI1 x0 (W (x3 + 1))) [(decide ((x3 : Int) < (Ln x0 : Int))) = true, (0 : Int) ≤ x3 ∧ x3 < (Ln x0), (decide (((Org.cell (gD x0 (tN x3) Ty.org.dflt)) : Int) < 0)) = false, (0 : Int) ≤ x3 ∧ x3 < (Ln x0), (decide (((Org.row (gD x0 (tN x3) Ty.org.dflt)) : Int) < 0)) = false, (decide ((x3 : Int) > 0)) = true, (0 : Int) ≤ (W (x3 - 1)) ∧ (W (x3 - 1)) < (Ln x0), (0 : Int) ≤ x3 ∧ x3 < (Ln x0), AbC 179 (xDH (gD x0 (tN (W (x3 - 1))) Ty.org.dflt) (gD x0 (tN x3) Ty.org.dflt)) (xCD r1), (!r1) = false] := by kernel_rfl
theorem p155_2_4 (x0 : List Org) (x3 : Int) : rS 2 I155 (xI1 x0 x3) [Y, F, F, F, F] [] = st 2 I155 (xI1 x0 (W (x3 + 1))) [(decide ((x3 : Int) < (Ln x0 : Int))) = true, (0 : Int) ≤ x3 ∧ x3 < (Ln x0), (decide (((Org.cell (gD x0 (tN x3) Ty.org.dflt)) : Int) < 0)) = false, (0 : Int) ≤ x3 ∧ x3 < (Ln x0), (decide (((Org.row (gD x0 (tN x3) Ty.org.dflt)) : Int) < 0)) = false, (decide ((x3 : Int) > 0)) = false, false = false] := by kernel_rfl
theorem p155_2_5 (x0 : List Org) (x3 : Int) : rS 2 I155 (xI1 x0 x3) [F] [] = dn (xBD true) [(decide ((x3 : Int) < (Ln x0 : Int))) = false] := by kernel_rfl
theorem p155_e_6 (a0 : List Org) : rE I155 (xEf a0) [] [] = st 2 I155 (xI1 a0 0) [] := by kernel_rfl
theorem c155_2 {N : Nat} : ∀ n x0 x3 r, xCn N n x0 x3 = some r → RS Try.f155 I155 2 (xI1 x0 x3) (xBD r) := by
 intro n
 induction n with
 | zero => exact fun _ _ _ h => nE h
 | succ n ih =>
  exact fun x0 x3 r h =>
   cE h (fun h0 h => iE h fun h1 h => cE h (fun h2 h => dS h fk155 (p155_2_0 x0 x3) (oc h0 (oc h1 (oc h2 (oc rfl (oc rfl on)))))) fun h2 h =>
   cE h (fun h4 h => dS h fk155 (p155_2_1 x0 x3) (oc h0 (oc h1 (oc h2 (oc h1 (oc h4 (oc rfl on))))))) fun h4 h =>
   cE h (fun h5 h => iE h fun h6 h => bE h fun r1 h8 h => cE h (fun h9 h => dS h fk155 (p155_2_2 x0 x3 r1) (oc h0 (oc h1 (oc h2 (oc h1 (oc h4 (oc h5 (oc h6 (oc h1 (oc (xIw h8) (oc h9 on))))))))))) fun h9 h =>
   tS fk155 (p155_2_3 x0 x3 r1) (oc h0 (oc h1 (oc h2 (oc h1 (oc h4 (oc h5 (oc h6 (oc h1 (oc (xIw h8) (oc h9 on)))))))))) (ih _ _ _ h)) fun h5 h =>
   tS fk155 (p155_2_4 x0 x3) (oc h0 (oc h1 (oc h2 (oc h1 (oc h4 (oc h5 (oc rfl on))))))) (ih _ _ _ h)) fun h0 h =>
   dS h fk155 (p155_2_5 x0 x3) (oc h0 on)
theorem c155_e {N : Nat} : ∀ a0 r, xGl N a0 = some r → RE Try.f155 I155 (xEf a0) (xBD r) := fun a0 r h =>
 tE fk155 (p155_e_6 a0) on (c155_2 _ _ _ _ h)
theorem xHJ {N : Nat} {a0 : List Org} {r : Bool} (h : xGl N  a0 = some r) : AbC 155 (xEf a0) (xBD r) :=
 AbsCalls.of_reach fk155 rfl rfl (Nat.le_of_ble_eq_true rfl) (c155_e a0 r h)
noncomputable def I113 : Info := { body := (Try.f113.body).getD .skip, nt := 55, results := [.tmp 2], keep := [0, 2, 4, 6, 8, 10, 30, 40, 80, 90, 108, 3, 9], live := [(4, [2, 6, 3]), (10, [2, 6, 8, 10, 3, 9])], modes := [(1, [(4, .take, false)]), (7, [(7, .take, false)])] }
theorem fk113 : FnOk Try.prog 113 Try.f113 I113 := ⟨Try.func113, by kernel_rfl, by kernel_rfl, by kernel_rfl, by kernel_rfl⟩
def S113_4 (x3 : Int) (b1 : Val) : St := [(2, .v false [.ptr 1 0]), (6, .v false [.int .i64 x3]), (3, .v true [.int .i64 (Val.kind b1), .int .i64 (Val.n b1), .int .i64 (Val.step b1), .str (Val.text b1), .sl .ro .val (Val.list b1), .sl .ro .str (Val.columns b1), .sl .ro .row (Val.rows b1)])]
def S113_10 (x3 x5 : Int) (b1 : Val) (b4 : Rowd) : St := [(2, .v false [.ptr 1 0]), (6, .v false [.int .i64 x3]), (8, .v false [.ptr 4 0]), (10, .v false [.int .i64 x5]), (3, .v true [.int .i64 (Val.kind b1), .int .i64 (Val.n b1), .int .i64 (Val.step b1), .str (Val.text b1), .sl .ro .val (Val.list b1), .sl .ro .str (Val.columns b1), .sl .ro .row (Val.rows b1)]), (9, .v true [.sl .ro .int (Rowd.cells b4), .sl .ro .org (Rowd.frm b4)])]
theorem p113_10_0 (x3 x5 : Int) (b1 : Val) (b4 : Rowd) (r1 : Bool) : rS 10 I113 (S113_10 x3 x5 b1 b4) [Y, Y] [xA8 r1] = dn (xBS false) [(decide ((x5 : Int) < (Ln (Rowd.cells b4) : Int))) = true, (0 : Int) ≤ x5 ∧ x5 < (Ln (Rowd.cells b4)), AbC 85 (xCa (gD (Rowd.cells b4) (tN x5) Ty.int.dflt)) (xA8 r1), (!r1) = true] := by kernel_rfl
theorem p113_10_1 (x3 x5 : Int) (b1 : Val) (b4 : Rowd) (r1 : Bool) : rS 10 I113 (S113_10 x3 x5 b1 b4) [Y, F] [xA8 r1] = st 10 I113 (S113_10 x3 (W (x5 + 1)) b1 b4) [(decide ((x5 : Int) < (Ln (Rowd.cells b4) : Int))) = true, (0 : Int) ≤ x5 ∧ x5 < (Ln (Rowd.cells b4)), AbC 85 (xCa (gD (Rowd.cells b4) (tN x5) Ty.int.dflt)) (xA8 r1), (!r1) = false] := by kernel_rfl
theorem p113_10_2 (x3 x5 : Int) (b1 : Val) (b4 : Rowd) : rS 10 I113 (S113_10 x3 x5 b1 b4) [F] [] = st 4 I113 (S113_4 (W (x3 + 1)) b1) [(decide ((x5 : Int) < (Ln (Rowd.cells b4) : Int))) = false] := by kernel_rfl
theorem p113_4_3 (x3 : Int) (b1 : Val) : rS 4 I113 (S113_4 x3 b1) [Y, Y, Y] [] = dn (xBS false) [(decide ((x3 : Int) < (Ln (Val.rows b1) : Int))) = true, (0 : Int) ≤ x3 ∧ x3 < (Ln (Val.rows b1)), (((Ln (Rowd.cells (gD (Val.rows b1) (tN x3) rd)) : Int) : Int) != (Ln (Val.columns b1) : Int)) = true, true = true] := by kernel_rfl
theorem p113_4_4 (x3 : Int) (b1 : Val) (r1 : Bool) : rS 4 I113 (S113_4 x3 b1) [Y, F, Y] [xBD r1] = dn (xBS false) [(decide ((x3 : Int) < (Ln (Val.rows b1) : Int))) = true, (0 : Int) ≤ x3 ∧ x3 < (Ln (Val.rows b1)), (((Ln (Rowd.cells (gD (Val.rows b1) (tN x3) rd)) : Int) : Int) != (Ln (Val.columns b1) : Int)) = false, AbC 155 (xEf (Rowd.frm (gD (Val.rows b1) (tN x3) rd))) (xBD r1), (!r1) = true] := by kernel_rfl
theorem p113_4_5 (x3 : Int) (b1 : Val) (r1 : Bool) : rS 4 I113 (S113_4 x3 b1) [Y, F, F] [xBD r1] = st 10 I113 (S113_10 x3 0 b1 (gD (Val.rows b1) (tN x3) rd)) [(decide ((x3 : Int) < (Ln (Val.rows b1) : Int))) = true, (0 : Int) ≤ x3 ∧ x3 < (Ln (Val.rows b1)), (((Ln (Rowd.cells (gD (Val.rows b1) (tN x3) rd)) : Int) : Int) != (Ln (Val.columns b1) : Int)) = false, AbC 155 (xEf (Rowd.frm (gD (Val.rows b1) (tN x3) rd))) (xBD r1), (!r1) = false] := by kernel_rfl
theorem p113_4_6 (x3 : Int) (b1 : Val) : rS 4 I113 (S113_4 x3 b1) [F] [] = dn (xBS true) [(decide ((x3 : Int) < (Ln (Val.rows b1) : Int))) = false] := by kernel_rfl
theorem p113_e_7 (a0 : Val) (r1 : Bool) : rE I113 (xEW a0) [Y, Y] [xBI r1] = dn (xBS false) [AbC 154 (xDZ (Val.columns a0)) (xBI r1), (!r1) = true, true = true] := by kernel_rfl
theorem p113_e_8 (a0 : Val) (r1 : Bool) : rE I113 (xEW a0) [F, Y] [xBI r1] = dn (xBS false) [AbC 154 (xDZ (Val.columns a0)) (xBI r1), (!r1) = false, (decide (((Ln (Val.rows a0) : Int) : Int) > 12)) = true] := by kernel_rfl
theorem p113_e_9 (a0 : Val) (r1 : Bool) : rE I113 (xEW a0) [F, F] [xBI r1] = st 4 I113 (S113_4 0 a0) [AbC 154 (xDZ (Val.columns a0)) (xBI r1), (!r1) = false, (decide (((Ln (Val.rows a0) : Int) : Int) > 12)) = false] := by kernel_rfl
theorem c113_10 {N : Nat} {k4 : Int → Val → Option (Bool)} (hk4 : ∀ z0 z1 r, k4 z0 z1 = some r → RS Try.f113 I113 4 (S113_4 z0 z1) (xBS r)) : ∀ n x3 x5 b1 b4 r, xDI N k4 n x3 x5 b1 b4 = some r → RS Try.f113 I113 10 (S113_10 x3 x5 b1 b4) (xBS r) := by
 intro n
 induction n with
 | zero => exact fun _ _ _ _ _ h => nE h
 | succ n ih =>
  exact fun x3 x5 b1 b4 r h =>
   cE h (fun h0 h => iE h fun h1 h => bE h fun r1 h2 h => cE h (fun h3 h => dS h fk113 (p113_10_0 x3 x5 b1 b4 r1) (oc h0 (oc h1 (oc (xC6 h2) (oc h3 on))))) fun h3 h =>
   tS fk113 (p113_10_1 x3 x5 b1 b4 r1) (oc h0 (oc h1 (oc (xC6 h2) (oc h3 on)))) (ih _ _ _ _ _ h)) fun h0 h =>
   tS fk113 (p113_10_2 x3 x5 b1 b4) (oc h0 on) (hk4 _ _ _ h)
theorem c113_4 {N : Nat} : ∀ n x3 b1 r, xEh N n x3 b1 = some r → RS Try.f113 I113 4 (S113_4 x3 b1) (xBS r) := by
 intro n
 induction n with
 | zero => exact fun _ _ _ h => nE h
 | succ n ih =>
  exact fun x3 b1 r h =>
   cE h (fun h0 h => iE h fun h1 h => cE h (fun h2 h => dS h fk113 (p113_4_3 x3 b1) (oc h0 (oc h1 (oc h2 (oc rfl on))))) fun h2 h =>
   bE h fun r1 h3 h => cE h (fun h4 h => dS h fk113 (p113_4_4 x3 b1 r1) (oc h0 (oc h1 (oc h2 (oc (xHJ h3) (oc h4 on)))))) fun h4 h =>
   tS fk113 (p113_4_5 x3 b1 r1) (oc h0 (oc h1 (oc h2 (oc (xHJ h3) (oc h4 on))))) (c113_10 ih _ _ _ _ _ _ h)) fun h0 h =>
   dS h fk113 (p113_4_6 x3 b1) (oc h0 on)
theorem c113_e {N : Nat} : ∀ a0 r, xHc N a0 = some r → RE Try.f113 I113 (xEW a0) (xBS r) := fun a0 r h =>
 bE h fun r1 h0 h => cE h (fun h1 h => dE h fk113 (p113_e_7 a0 r1) (oc (xGS h0) (oc h1 (oc rfl on)))) fun h1 h =>
 cE h (fun h2 h => dE h fk113 (p113_e_8 a0 r1) (oc (xGS h0) (oc h1 (oc h2 on)))) fun h2 h =>
 tE fk113 (p113_e_9 a0 r1) (oc (xGS h0) (oc h1 (oc h2 on))) (c113_4 _ _ _ _ h)
theorem spec_l3Table_ok {N : Nat} {a0 : Val} {r : Bool} (h : xHc N  a0 = some r) : AbC 113 (xEW a0) (xBS r) :=
 AbsCalls.of_reach fk113 rfl rfl (Nat.le_of_ble_eq_true rfl) (c113_e a0 r h)
def G40 (q : Val → Option (Bool)) : Prop := ∀ a0 r, q a0 = some r → AbC 40 (xAM a0) (xAI r)
def G112 (q : Val → Option (Bool)) : Prop := ∀ a0 r, q a0 = some r → AbC 112 (xF8 a0) (xCR r)
noncomputable def I40 : Info := { body := (Try.f40.body).getD .skip, nt := 95, results := [.tmp 2], keep := [0, 2, 4, 52, 88, 92, 94, 104, 124, 142, 162, 180, 3], live := [], modes := [(1, [(3, .take, false), (9, .take, false), (13, .take, false)]), (3, [(3, .take, false), (8, .take, false), (12, .take, false)]), (9, [(3, .take, false)]), (11, [(3, .take, false)]), (13, [(3, .take, false)]), (15, [(3, .take, false)])] }
theorem fk40 : FnOk Try.prog 40 Try.f40 I40 := ⟨Try.func40, by kernel_rfl, by kernel_rfl, by kernel_rfl, by kernel_rfl⟩
theorem p40_e_0 (a0 : Val) : rE I40 (xAM a0) [Y, Y, Y] [] = dn (xAI false) [(((Val.kind a0) : Int) != 3) = true, (decide (((Ln (Val.list a0) : Int) : Int) > 0)) = true, true = true] := by kernel_rfl
theorem p40_e_1 (a0 : Val) : rE I40 (xAM a0) [Y, F, Y, Y] [] = dn (xAI false) [(((Val.kind a0) : Int) != 3) = true, (decide (((Ln (Val.list a0) : Int) : Int) > 0)) = false, (((Val.kind a0) : Int) != 5) = true, (decide (((W ((Ln (Val.columns a0) : Int) + (Ln (Val.rows a0) : Int))) : Int) > 0)) = true] := by kernel_rfl
theorem p40_e_2 (a0 : Val) : rE I40 (xAM a0) [Y, F, Y, F, Y, Y, Y] [] = dn (xAI false) [(((Val.kind a0) : Int) != 3) = true, (decide (((Ln (Val.list a0) : Int) : Int) > 0)) = false, (((Val.kind a0) : Int) != 5) = true, (decide (((W ((Ln (Val.columns a0) : Int) + (Ln (Val.rows a0) : Int))) : Int) > 0)) = false, (((Val.kind a0) : Int) != 2) = true, (!(((Val.text a0) : Str) == [])) = true, true = true] := by kernel_rfl
theorem p40_e_3 (a0 : Val) : rE I40 (xAM a0) [Y, F, Y, F, Y, F, Y, Y] [] = dn (xAI false) [(((Val.kind a0) : Int) != 3) = true, (decide (((Ln (Val.list a0) : Int) : Int) > 0)) = false, (((Val.kind a0) : Int) != 5) = true, (decide (((W ((Ln (Val.columns a0) : Int) + (Ln (Val.rows a0) : Int))) : Int) > 0)) = false, (((Val.kind a0) : Int) != 2) = true, (!(((Val.text a0) : Str) == [])) = false, (((Val.kind a0) : Int) != 4) = true, (((Val.step a0) : Int) != 0) = true] := by kernel_rfl
theorem p40_e_4 (a0 : Val) (r1 : Bool) : rE I40 (xAM a0) [Y, F, Y, F, Y, F, Y, F, Y] [xA8 r1] = dn (xAI r1) [(((Val.kind a0) : Int) != 3) = true, (decide (((Ln (Val.list a0) : Int) : Int) > 0)) = false, (((Val.kind a0) : Int) != 5) = true, (decide (((W ((Ln (Val.columns a0) : Int) + (Ln (Val.rows a0) : Int))) : Int) > 0)) = false, (((Val.kind a0) : Int) != 2) = true, (!(((Val.text a0) : Str) == [])) = false, (((Val.kind a0) : Int) != 4) = true, (((Val.step a0) : Int) != 0) = false, (((Val.kind a0) : Int) == 1) = true, AbC 85 (xCa (Val.n a0)) (xA8 r1)] := by kernel_rfl
theorem p40_e_5 (a0 : Val) (r1 : Bool) : rE I40 (xAM a0) [Y, F, Y, F, Y, F, Y, F, F, F, F, F, F, Y] [xC5 r1] = dn (xAI r1) [(((Val.kind a0) : Int) != 3) = true, (decide (((Ln (Val.list a0) : Int) : Int) > 0)) = false, (((Val.kind a0) : Int) != 5) = true, (decide (((W ((Ln (Val.columns a0) : Int) + (Ln (Val.rows a0) : Int))) : Int) > 0)) = false, (((Val.kind a0) : Int) != 2) = true, (!(((Val.text a0) : Str) == [])) = false, (((Val.kind a0) : Int) != 4) = true, (((Val.step a0) : Int) != 0) = false, (((Val.kind a0) : Int) == 1) = false, (((Val.kind a0) : Int) == 2) = false, (((Val.kind a0) : Int) == 3) = false, (((Val.kind a0) : Int) == 4) = false, (((Val.kind a0) : Int) == 5) = false, (((Val.kind a0) : Int) == 6) = true, AbC 108 (xEY (Val.n a0) 1 8) (xC5 r1)] := by kernel_rfl
theorem p40_e_6 (a0 : Val) : rE I40 (xAM a0) [Y, F, Y, F, Y, F, Y, F, F, F, F, F, F, F] [] = dn (xAI false) [(((Val.kind a0) : Int) != 3) = true, (decide (((Ln (Val.list a0) : Int) : Int) > 0)) = false, (((Val.kind a0) : Int) != 5) = true, (decide (((W ((Ln (Val.columns a0) : Int) + (Ln (Val.rows a0) : Int))) : Int) > 0)) = false, (((Val.kind a0) : Int) != 2) = true, (!(((Val.text a0) : Str) == [])) = false, (((Val.kind a0) : Int) != 4) = true, (((Val.step a0) : Int) != 0) = false, (((Val.kind a0) : Int) == 1) = false, (((Val.kind a0) : Int) == 2) = false, (((Val.kind a0) : Int) == 3) = false, (((Val.kind a0) : Int) == 4) = false, (((Val.kind a0) : Int) == 5) = false, (((Val.kind a0) : Int) == 6) = false] := by kernel_rfl
theorem p40_e_7 (a0 : Val) (r1 r2 : Bool) : rE I40 (xAM a0) [Y, F, Y, F, Y, F, F, F, F, F, F, Y, Y] [xA8 r1, xA8 r2] = dn (xAI r2) [(((Val.kind a0) : Int) != 3) = true, (decide (((Ln (Val.list a0) : Int) : Int) > 0)) = false, (((Val.kind a0) : Int) != 5) = true, (decide (((W ((Ln (Val.columns a0) : Int) + (Ln (Val.rows a0) : Int))) : Int) > 0)) = false, (((Val.kind a0) : Int) != 2) = true, (!(((Val.text a0) : Str) == [])) = false, (((Val.kind a0) : Int) != 4) = false, false = false, (((Val.kind a0) : Int) == 1) = false, (((Val.kind a0) : Int) == 2) = false, (((Val.kind a0) : Int) == 3) = false, (((Val.kind a0) : Int) == 4) = true, AbC 85 (xCa (Val.n a0)) (xA8 r1), r1 = true, AbC 85 (xCa (Val.step a0)) (xA8 r2)] := by kernel_rfl
theorem p40_e_8 (a0 : Val) (r1 : Bool) : rE I40 (xAM a0) [Y, F, Y, F, Y, F, F, F, F, F, F, Y, F] [xA8 r1] = dn (xAI false) [(((Val.kind a0) : Int) != 3) = true, (decide (((Ln (Val.list a0) : Int) : Int) > 0)) = false, (((Val.kind a0) : Int) != 5) = true, (decide (((W ((Ln (Val.columns a0) : Int) + (Ln (Val.rows a0) : Int))) : Int) > 0)) = false, (((Val.kind a0) : Int) != 2) = true, (!(((Val.text a0) : Str) == [])) = false, (((Val.kind a0) : Int) != 4) = false, false = false, (((Val.kind a0) : Int) == 1) = false, (((Val.kind a0) : Int) == 2) = false, (((Val.kind a0) : Int) == 3) = false, (((Val.kind a0) : Int) == 4) = true, AbC 85 (xCa (Val.n a0)) (xA8 r1), r1 = false] := by kernel_rfl
theorem p40_e_9 (a0 : Val) : rE I40 (xAM a0) [Y, F, Y, F, F, F, Y, Y] [] = dn (xAI false) [(((Val.kind a0) : Int) != 3) = true, (decide (((Ln (Val.list a0) : Int) : Int) > 0)) = false, (((Val.kind a0) : Int) != 5) = true, (decide (((W ((Ln (Val.columns a0) : Int) + (Ln (Val.rows a0) : Int))) : Int) > 0)) = false, (((Val.kind a0) : Int) != 2) = false, false = false, (((Val.kind a0) : Int) != 4) = true, (((Val.step a0) : Int) != 0) = true] := by kernel_rfl
theorem p40_e_10 (a0 : Val) (r1 : Bool) : rE I40 (xAM a0) [Y, F, Y, F, F, F, Y, F, F, Y, Y] [xB4 r1] = dn (xAI r1) [(((Val.kind a0) : Int) != 3) = true, (decide (((Ln (Val.list a0) : Int) : Int) > 0)) = false, (((Val.kind a0) : Int) != 5) = true, (decide (((W ((Ln (Val.columns a0) : Int) + (Ln (Val.rows a0) : Int))) : Int) > 0)) = false, (((Val.kind a0) : Int) != 2) = false, false = false, (((Val.kind a0) : Int) != 4) = true, (((Val.step a0) : Int) != 0) = false, (((Val.kind a0) : Int) == 1) = false, (((Val.kind a0) : Int) == 2) = true, (((Val.n a0) : Int) == 0) = true, AbC 111 (xE7 (Val.text a0)) (xB4 r1)] := by kernel_rfl
theorem p40_e_11 (a0 : Val) : rE I40 (xAM a0) [Y, F, Y, F, F, F, Y, F, F, Y, F] [] = dn (xAI false) [(((Val.kind a0) : Int) != 3) = true, (decide (((Ln (Val.list a0) : Int) : Int) > 0)) = false, (((Val.kind a0) : Int) != 5) = true, (decide (((W ((Ln (Val.columns a0) : Int) + (Ln (Val.rows a0) : Int))) : Int) > 0)) = false, (((Val.kind a0) : Int) != 2) = false, false = false, (((Val.kind a0) : Int) != 4) = true, (((Val.step a0) : Int) != 0) = false, (((Val.kind a0) : Int) == 1) = false, (((Val.kind a0) : Int) == 2) = true, (((Val.n a0) : Int) == 0) = false] := by kernel_rfl
theorem p40_e_12 (a0 : Val) : rE I40 (xAM a0) [Y, F, F, F, Y, Y, Y] [] = dn (xAI false) [(((Val.kind a0) : Int) != 3) = true, (decide (((Ln (Val.list a0) : Int) : Int) > 0)) = false, (((Val.kind a0) : Int) != 5) = false, false = false, (((Val.kind a0) : Int) != 2) = true, (!(((Val.text a0) : Str) == [])) = true, true = true] := by kernel_rfl
theorem p40_e_13 (a0 : Val) : rE I40 (xAM a0) [Y, F, F, F, Y, F, Y, Y] [] = dn (xAI false) [(((Val.kind a0) : Int) != 3) = true, (decide (((Ln (Val.list a0) : Int) : Int) > 0)) = false, (((Val.kind a0) : Int) != 5) = false, false = false, (((Val.kind a0) : Int) != 2) = true, (!(((Val.text a0) : Str) == [])) = false, (((Val.kind a0) : Int) != 4) = true, (((Val.step a0) : Int) != 0) = true] := by kernel_rfl
theorem p40_e_14 (a0 : Val) (r1 : Bool) : rE I40 (xAM a0) [Y, F, F, F, Y, F, Y, F, F, F, F, F, Y, Y] [xBS r1] = dn (xAI r1) [(((Val.kind a0) : Int) != 3) = true, (decide (((Ln (Val.list a0) : Int) : Int) > 0)) = false, (((Val.kind a0) : Int) != 5) = false, false = false, (((Val.kind a0) : Int) != 2) = true, (!(((Val.text a0) : Str) == [])) = false, (((Val.kind a0) : Int) != 4) = true, (((Val.step a0) : Int) != 0) = false, (((Val.kind a0) : Int) == 1) = false, (((Val.kind a0) : Int) == 2) = false, (((Val.kind a0) : Int) == 3) = false, (((Val.kind a0) : Int) == 4) = false, (((Val.kind a0) : Int) == 5) = true, (((Val.n a0) : Int) == 0) = true, AbC 113 (xEW a0) (xBS r1)] := by kernel_rfl
theorem p40_e_15 (a0 : Val) : rE I40 (xAM a0) [Y, F, F, F, Y, F, Y, F, F, F, F, F, Y, F] [] = dn (xAI false) [(((Val.kind a0) : Int) != 3) = true, (decide (((Ln (Val.list a0) : Int) : Int) > 0)) = false, (((Val.kind a0) : Int) != 5) = false, false = false, (((Val.kind a0) : Int) != 2) = true, (!(((Val.text a0) : Str) == [])) = false, (((Val.kind a0) : Int) != 4) = true, (((Val.step a0) : Int) != 0) = false, (((Val.kind a0) : Int) == 1) = false, (((Val.kind a0) : Int) == 2) = false, (((Val.kind a0) : Int) == 3) = false, (((Val.kind a0) : Int) == 4) = false, (((Val.kind a0) : Int) == 5) = true, (((Val.n a0) : Int) == 0) = false] := by kernel_rfl
theorem p40_e_16 (a0 : Val) : rE I40 (xAM a0) [F, F, Y, Y] [] = dn (xAI false) [(((Val.kind a0) : Int) != 3) = false, false = false, (((Val.kind a0) : Int) != 5) = true, (decide (((W ((Ln (Val.columns a0) : Int) + (Ln (Val.rows a0) : Int))) : Int) > 0)) = true] := by kernel_rfl
theorem p40_e_17 (a0 : Val) : rE I40 (xAM a0) [F, F, Y, F, Y, Y, Y] [] = dn (xAI false) [(((Val.kind a0) : Int) != 3) = false, false = false, (((Val.kind a0) : Int) != 5) = true, (decide (((W ((Ln (Val.columns a0) : Int) + (Ln (Val.rows a0) : Int))) : Int) > 0)) = false, (((Val.kind a0) : Int) != 2) = true, (!(((Val.text a0) : Str) == [])) = true, true = true] := by kernel_rfl
theorem p40_e_18 (a0 : Val) : rE I40 (xAM a0) [F, F, Y, F, Y, F, Y, Y] [] = dn (xAI false) [(((Val.kind a0) : Int) != 3) = false, false = false, (((Val.kind a0) : Int) != 5) = true, (decide (((W ((Ln (Val.columns a0) : Int) + (Ln (Val.rows a0) : Int))) : Int) > 0)) = false, (((Val.kind a0) : Int) != 2) = true, (!(((Val.text a0) : Str) == [])) = false, (((Val.kind a0) : Int) != 4) = true, (((Val.step a0) : Int) != 0) = true] := by kernel_rfl
theorem p40_e_19 (a0 : Val) (r1 : Bool) : rE I40 (xAM a0) [F, F, Y, F, Y, F, Y, F, F, F, Y, Y] [xCR r1] = dn (xAI r1) [(((Val.kind a0) : Int) != 3) = false, false = false, (((Val.kind a0) : Int) != 5) = true, (decide (((W ((Ln (Val.columns a0) : Int) + (Ln (Val.rows a0) : Int))) : Int) > 0)) = false, (((Val.kind a0) : Int) != 2) = true, (!(((Val.text a0) : Str) == [])) = false, (((Val.kind a0) : Int) != 4) = true, (((Val.step a0) : Int) != 0) = false, (((Val.kind a0) : Int) == 1) = false, (((Val.kind a0) : Int) == 2) = false, (((Val.kind a0) : Int) == 3) = true, (((Val.n a0) : Int) == 0) = true, AbC 112 (xF8 a0) (xCR r1)] := by kernel_rfl
theorem p40_e_20 (a0 : Val) : rE I40 (xAM a0) [F, F, Y, F, Y, F, Y, F, F, F, Y, F] [] = dn (xAI false) [(((Val.kind a0) : Int) != 3) = false, false = false, (((Val.kind a0) : Int) != 5) = true, (decide (((W ((Ln (Val.columns a0) : Int) + (Ln (Val.rows a0) : Int))) : Int) > 0)) = false, (((Val.kind a0) : Int) != 2) = true, (!(((Val.text a0) : Str) == [])) = false, (((Val.kind a0) : Int) != 4) = true, (((Val.step a0) : Int) != 0) = false, (((Val.kind a0) : Int) == 1) = false, (((Val.kind a0) : Int) == 2) = false, (((Val.kind a0) : Int) == 3) = true, (((Val.n a0) : Int) == 0) = false] := by kernel_rfl
theorem c40_e {N : Nat} {q0 : Val → Option (Bool)} (g0 : G40 q0) {q1 : Val → Option (Bool)} (g1 : G112 q1) : ∀ a0 r, xC9 N q0 q1 a0 = some r → RE Try.f40 I40 (xAM a0) (xAI r) := fun a0 r h =>
 cE h (fun h0 h => cE h (fun h1 h => dE h fk40 (p40_e_0 a0) (oc h0 (oc h1 (oc rfl on)))) fun h1 h =>
 cE h (fun h2 h => cE h (fun h3 h => dE h fk40 (p40_e_1 a0) (oc h0 (oc h1 (oc h2 (oc h3 on))))) fun h3 h =>
 cE h (fun h4 h => cE h (fun h5 h => dE h fk40 (p40_e_2 a0) (oc h0 (oc h1 (oc h2 (oc h3 (oc h4 (oc h5 (oc rfl on)))))))) fun h5 h =>
 cE h (fun h6 h => cE h (fun h7 h => dE h fk40 (p40_e_3 a0) (oc h0 (oc h1 (oc h2 (oc h3 (oc h4 (oc h5 (oc h6 (oc h7 on))))))))) fun h7 h =>
 cE h (fun h8 h => bE h fun r1 h9 h => dE h fk40 (p40_e_4 a0 r1) (oc h0 (oc h1 (oc h2 (oc h3 (oc h4 (oc h5 (oc h6 (oc h7 (oc h8 (oc (xC6 h9) on))))))))))) fun h8 h =>
 cE h (fun h13 h => bE h fun r1 h14 h => dE h fk40 (p40_e_5 a0 r1) (oc h0 (oc h1 (oc h2 (oc h3 (oc h4 (oc h5 (oc h6 (oc h7 (oc h8 (oc (of_not h4) (oc (of_not h0) (oc (of_not h6) (oc (of_not h2) (oc h13 (oc (xHT h14) on)))))))))))))))) fun h13 h =>
 dE h fk40 (p40_e_6 a0) (oc h0 (oc h1 (oc h2 (oc h3 (oc h4 (oc h5 (oc h6 (oc h7 (oc h8 (oc (of_not h4) (oc (of_not h0) (oc (of_not h6) (oc (of_not h2) (oc h13 on))))))))))))))) fun h6 h =>
 bE h fun r1 h12 h => cE h (fun h13 h => bE h fun r2 h14 h => dE h fk40 (p40_e_7 a0 r1 r2) (oc h0 (oc h1 (oc h2 (oc h3 (oc h4 (oc h5 (oc h6 (oc rfl (oc (eq_ne (of_not h6) rfl) (oc (of_not h4) (oc (of_not h0) (oc (of_not h6) (oc (xC6 h12) (oc h13 (oc (xC6 h14) on)))))))))))))))) fun h13 h =>
 dE h fk40 (p40_e_8 a0 r1) (oc h0 (oc h1 (oc h2 (oc h3 (oc h4 (oc h5 (oc h6 (oc rfl (oc (eq_ne (of_not h6) rfl) (oc (of_not h4) (oc (of_not h0) (oc (of_not h6) (oc (xC6 h12) (oc h13 on))))))))))))))) fun h4 h =>
 cE h (fun h7 h => dE h fk40 (p40_e_9 a0) (oc h0 (oc h1 (oc h2 (oc h3 (oc h4 (oc rfl (oc (not_of (eq_ne (of_not h4) rfl)) (oc h7 on))))))))) fun h7 h =>
 cE h (fun h10 h => bE h fun r1 h11 h => dE h fk40 (p40_e_10 a0 r1) (oc h0 (oc h1 (oc h2 (oc h3 (oc h4 (oc rfl (oc (not_of (eq_ne (of_not h4) rfl)) (oc h7 (oc (eq_ne (of_not h4) rfl) (oc (of_not h4) (oc h10 (oc (xJm h11) on))))))))))))) fun h10 h =>
 dE h fk40 (p40_e_11 a0) (oc h0 (oc h1 (oc h2 (oc h3 (oc h4 (oc rfl (oc (not_of (eq_ne (of_not h4) rfl)) (oc h7 (oc (eq_ne (of_not h4) rfl) (oc (of_not h4) (oc h10 on)))))))))))) fun h2 h =>
 cE h (fun h5 h => dE h fk40 (p40_e_12 a0) (oc h0 (oc h1 (oc h2 (oc rfl (oc (not_of (eq_ne (of_not h2) rfl)) (oc h5 (oc rfl on)))))))) fun h5 h =>
 cE h (fun h7 h => dE h fk40 (p40_e_13 a0) (oc h0 (oc h1 (oc h2 (oc rfl (oc (not_of (eq_ne (of_not h2) rfl)) (oc h5 (oc (not_of (eq_ne (of_not h2) rfl)) (oc h7 on))))))))) fun h7 h =>
 cE h (fun h13 h => bE h fun r1 h14 h => dE h fk40 (p40_e_14 a0 r1) (oc h0 (oc h1 (oc h2 (oc rfl (oc (not_of (eq_ne (of_not h2) rfl)) (oc h5 (oc (not_of (eq_ne (of_not h2) rfl)) (oc h7 (oc (eq_ne (of_not h2) rfl) (oc (eq_ne (of_not h2) rfl) (oc (of_not h0) (oc (eq_ne (of_not h2) rfl) (oc (of_not h2) (oc h13 (oc (spec_l3Table_ok h14) on)))))))))))))))) fun h13 h =>
 dE h fk40 (p40_e_15 a0) (oc h0 (oc h1 (oc h2 (oc rfl (oc (not_of (eq_ne (of_not h2) rfl)) (oc h5 (oc (not_of (eq_ne (of_not h2) rfl)) (oc h7 (oc (eq_ne (of_not h2) rfl) (oc (eq_ne (of_not h2) rfl) (oc (of_not h0) (oc (eq_ne (of_not h2) rfl) (oc (of_not h2) (oc h13 on))))))))))))))) fun h0 h =>
 cE h (fun h3 h => dE h fk40 (p40_e_16 a0) (oc h0 (oc rfl (oc (not_of (eq_ne (of_not h0) rfl)) (oc h3 on))))) fun h3 h =>
 cE h (fun h5 h => dE h fk40 (p40_e_17 a0) (oc h0 (oc rfl (oc (not_of (eq_ne (of_not h0) rfl)) (oc h3 (oc (not_of (eq_ne (of_not h0) rfl)) (oc h5 (oc rfl on)))))))) fun h5 h =>
 cE h (fun h7 h => dE h fk40 (p40_e_18 a0) (oc h0 (oc rfl (oc (not_of (eq_ne (of_not h0) rfl)) (oc h3 (oc (not_of (eq_ne (of_not h0) rfl)) (oc h5 (oc (not_of (eq_ne (of_not h0) rfl)) (oc h7 on))))))))) fun h7 h =>
 cE h (fun h11 h => bE h fun r1 h12 h => dE h fk40 (p40_e_19 a0 r1) (oc h0 (oc rfl (oc (not_of (eq_ne (of_not h0) rfl)) (oc h3 (oc (not_of (eq_ne (of_not h0) rfl)) (oc h5 (oc (not_of (eq_ne (of_not h0) rfl)) (oc h7 (oc (eq_ne (of_not h0) rfl) (oc (eq_ne (of_not h0) rfl) (oc (of_not h0) (oc h11 (oc (g1 _ _ h12) on)))))))))))))) fun h11 h =>
 dE h fk40 (p40_e_20 a0) (oc h0 (oc rfl (oc (not_of (eq_ne (of_not h0) rfl)) (oc h3 (oc (not_of (eq_ne (of_not h0) rfl)) (oc h5 (oc (not_of (eq_ne (of_not h0) rfl)) (oc h7 (oc (eq_ne (of_not h0) rfl) (oc (eq_ne (of_not h0) rfl) (oc (of_not h0) (oc h11 on))))))))))))
theorem xH2 {N : Nat} {q0 : Val → Option (Bool)} (g0 : G40 q0) {q1 : Val → Option (Bool)} (g1 : G112 q1) {a0 : Val} {r : Bool} (h : xC9 N q0 q1 a0 = some r) : AbC 40 (xAM a0) (xAI r) :=
 AbsCalls.of_reach fk40 rfl rfl (Nat.le_of_ble_eq_true rfl) (c40_e g0 g1 a0 r h)
noncomputable def I112 : Info := { body := (Try.f112.body).getD .skip, nt := 36, results := [.tmp 2], keep := [0, 2, 4, 6, 16, 52, 3], live := [(2, [2, 6, 3])], modes := [(4, [(7, .take, false)]), (6, [(4, .take, false)])] }
theorem fk112 : FnOk Try.prog 112 Try.f112 I112 := ⟨Try.func112, by kernel_rfl, by kernel_rfl, by kernel_rfl, by kernel_rfl⟩
def S112_2 (x3 : Int) (b1 : Val) : St := [(2, .v false [.ptr 1 0]), (6, .v false [.int .i64 x3]), (3, .v true [.int .i64 (Val.kind b1), .int .i64 (Val.n b1), .int .i64 (Val.step b1), .str (Val.text b1), .sl .ro .val (Val.list b1), .sl .ro .str (Val.columns b1), .sl .ro .row (Val.rows b1)])]
theorem p112_2_0 (x3 : Int) (b1 : Val) (r1 : Bool) : rS 2 I112 (S112_2 x3 b1) [Y, Y, Y] [xBR r1] = dn (xCR false) [(decide ((x3 : Int) < (Ln (Val.list b1) : Int))) = true, (0 : Int) ≤ x3 ∧ x3 < (Ln (Val.list b1)), AbC 152 (xCN (gD (Val.list b1) (tN x3) vd)) (xBR r1), (!r1) = true, true = true] := by kernel_rfl
theorem p112_2_1 (x3 : Int) (b1 : Val) (r1 r2 : Bool) : rS 2 I112 (S112_2 x3 b1) [Y, F, Y] [xBR r1, xAI r2] = dn (xCR false) [(decide ((x3 : Int) < (Ln (Val.list b1) : Int))) = true, (0 : Int) ≤ x3 ∧ x3 < (Ln (Val.list b1)), AbC 152 (xCN (gD (Val.list b1) (tN x3) vd)) (xBR r1), (!r1) = false, (0 : Int) ≤ x3 ∧ x3 < (Ln (Val.list b1)), AbC 40 (xAM (gD (Val.list b1) (tN x3) vd)) (xAI r2), (!r2) = true] := by kernel_rfl
theorem p112_2_2 (x3 : Int) (b1 : Val) (r1 r2 : Bool) : rS 2 I112 (S112_2 x3 b1) [Y, F, F] [xBR r1, xAI r2] = st 2 I112 (S112_2 (W (x3 + 1)) b1) [(decide ((x3 : Int) < (Ln (Val.list b1) : Int))) = true, (0 : Int) ≤ x3 ∧ x3 < (Ln (Val.list b1)), AbC 152 (xCN (gD (Val.list b1) (tN x3) vd)) (xBR r1), (!r1) = false, (0 : Int) ≤ x3 ∧ x3 < (Ln (Val.list b1)), AbC 40 (xAM (gD (Val.list b1) (tN x3) vd)) (xAI r2), (!r2) = false] := by kernel_rfl
theorem p112_2_3 (x3 : Int) (b1 : Val) (r1 : Int) : rS 2 I112 (S112_2 x3 b1) [F, Y] [xCv r1] = dn (xCR (decide ((r1 : Int) ≤ 3))) [(decide ((x3 : Int) < (Ln (Val.list b1) : Int))) = false, (decide (((Ln (Val.list b1) : Int) : Int) ≤ 8)) = true, AbC 153 (xEc b1) (xCv r1)] := by kernel_rfl
theorem p112_2_4 (x3 : Int) (b1 : Val) : rS 2 I112 (S112_2 x3 b1) [F, F] [] = dn (xCR false) [(decide ((x3 : Int) < (Ln (Val.list b1) : Int))) = false, (decide (((Ln (Val.list b1) : Int) : Int) ≤ 8)) = false] := by kernel_rfl
theorem p112_e_5 (a0 : Val) : rE I112 (xF8 a0) [] [] = st 2 I112 (S112_2 0 a0) [] := by kernel_rfl
theorem c112_2 {N : Nat} {q0 : Val → Option (Bool)} (g0 : G40 q0) {q1 : Val → Option (Bool)} (g1 : G112 q1) : ∀ n x3 b1 r, xDQ N q0 q1 n x3 b1 = some r → RS Try.f112 I112 2 (S112_2 x3 b1) (xCR r) := by
 intro n
 induction n with
 | zero => exact fun _ _ _ h => nE h
 | succ n ih =>
  exact fun x3 b1 r h =>
   cE h (fun h0 h => iE h fun h1 h => bE h fun r1 h2 h => cE h (fun h3 h => dS h fk112 (p112_2_0 x3 b1 r1) (oc h0 (oc h1 (oc (xGT h2) (oc h3 (oc rfl on)))))) fun h3 h =>
   bE h fun r2 h5 h => cE h (fun h6 h => dS h fk112 (p112_2_1 x3 b1 r1 r2) (oc h0 (oc h1 (oc (xGT h2) (oc h3 (oc h1 (oc (g0 _ _ h5) (oc h6 on)))))))) fun h6 h =>
   tS fk112 (p112_2_2 x3 b1 r1 r2) (oc h0 (oc h1 (oc (xGT h2) (oc h3 (oc h1 (oc (g0 _ _ h5) (oc h6 on))))))) (ih _ _ _ h)) fun h0 h =>
   cE h (fun h1 h => bE h fun r1 h2 h => dS h fk112 (p112_2_3 x3 b1 r1) (oc h0 (oc h1 (oc (spec_DepthOf_ok h2) on)))) fun h1 h =>
   dS h fk112 (p112_2_4 x3 b1) (oc h0 (oc h1 on))
theorem c112_e {N : Nat} {q0 : Val → Option (Bool)} (g0 : G40 q0) {q1 : Val → Option (Bool)} (g1 : G112 q1) : ∀ a0 r, xHi N q0 q1 a0 = some r → RE Try.f112 I112 (xF8 a0) (xCR r) := fun a0 r h =>
 tE fk112 (p112_e_5 a0) on (c112_2 g0 g1 _ _ _ _ h)
theorem xJp {N : Nat} {q0 : Val → Option (Bool)} (g0 : G40 q0) {q1 : Val → Option (Bool)} (g1 : G112 q1) {a0 : Val} {r : Bool} (h : xHi N q0 q1 a0 = some r) : AbC 112 (xF8 a0) (xCR r) :=
 AbsCalls.of_reach fk112 rfl rfl (Nat.le_of_ble_eq_true rfl) (c112_e g0 g1 a0 r h)
theorem xIb {N : Nat} : ∀ d, G40 (xAV N d).c_spec_IsValidValue ∧ G112 (xAV N d).c_spec_l3List := by
 intro d
 induction d with
 | zero => exact ⟨fun _ _ h => nE h, fun _ _ h => nE h⟩
 | succ d ih =>
  obtain ⟨ih0, ih1⟩ := ih
  exact ⟨fun _ _ h => xH2 (N := N) ih0 ih1 h, fun _ _ h => xJp (N := N) ih0 ih1 h⟩
theorem xF0 {N : Nat} {a0 : Val} {r : Bool} (h : xGR N a0 = some r) : AbC 40 (xAM a0) (xAI r) := (xIb N).1 _ r h
noncomputable def I44 : Info := { body := (Try.f44.body).getD .skip, nt := 5, results := [.cell 2 31], keep := [0, 4, 5], live := [], modes := [] }
theorem fk44 : FnOk Try.prog 44 Try.f44 I44 := ⟨Try.func44, by kernel_rfl, by kernel_rfl, by kernel_rfl, by kernel_rfl⟩
theorem p44_e_0 (a0 : Int) : rE I44 (xAX a0) [] [] = dn (xAJ (Val.mk 6 a0 0 [] [] [] [])) [] := by kernel_rfl
theorem c44_e {N : Nat} : ∀ a0 r, xAZ N a0 = some r → RE Try.f44 I44 (xAX a0) (xAJ r) := fun a0 r h =>
 dE h fk44 (p44_e_0 a0) on
theorem xA5 {N : Nat} {a0 : Int} {r : Val} (h : xAZ N  a0 = some r) : AbC 44 (xAX a0) (xAJ r) :=
 AbsCalls.of_reach fk44 rfl rfl (Nat.le_of_ble_eq_true rfl) (c44_e a0 r h)
noncomputable def I56 : Info := { body := (Try.f56.body).getD .skip, nt := 31, results := [.cell 2 31, .tmp 3], keep := [0, 4, 6, 8, 16, 32, 46, 5], live := [(2, [0, 4, 8, 5])], modes := [] }
theorem fk56 : FnOk Try.prog 56 Try.f56 I56 := ⟨Try.func56, by kernel_rfl, by kernel_rfl, by kernel_rfl, by kernel_rfl⟩
def S56_2 (x0 : List Val) (x4 : Int) (b2 : Val) : St := [(0, .v false [.sl .ro .val x0]), (4, .v false [.ptr 2 0]), (8, .v false [.int .i64 x4]), (5, .v true [.int .i64 (Val.kind b2), .int .i64 (Val.n b2), .int .i64 (Val.step b2), .str (Val.text b2), .sl .own .val (Val.list b2), .sl .own .str (Val.columns b2), .sl .own .row (Val.rows b2)])]
theorem p56_2_0 (x0 : List Val) (x4 : Int) (b2 : Val) (r1 : Bool) (r2 : Val) : rS 2 I56 (S56_2 x0 x4 b2) [Y, Y] [xAI r1, xAJ r2] = dn (xAR (r2, true)) [(decide ((x4 : Int) < (Ln x0 : Int))) = true, (0 : Int) ≤ x4 ∧ x4 < (Ln x0), AbC 40 (xAM (gD x0 (tN x4) vd)) (xAI r1), (!r1) = true, AbC 44 (xAX 4) (xAJ r2)] := by kernel_rfl
theorem p56_2_1 (x0 : List Val) (x4 : Int) (b2 : Val) (r1 : Bool) (r2 : Val) : rS 2 I56 (S56_2 x0 x4 b2) [Y, F, Y] [xAI r1, xAJ r2] = dn (xAR (r2, true)) [(decide ((x4 : Int) < (Ln x0 : Int))) = true, (0 : Int) ≤ x4 ∧ x4 < (Ln x0), AbC 40 (xAM (gD x0 (tN x4) vd)) (xAI r1), (!r1) = false, (0 : Int) ≤ x4 ∧ x4 < (Ln x0), (((Val.kind (gD x0 (tN x4) vd)) : Int) == 6) = true, (0 : Int) ≤ x4 ∧ x4 < (Ln x0), AbC 44 (xAX (Val.n (gD x0 (tN x4) vd))) (xAJ r2)] := by kernel_rfl
theorem p56_2_2 (x0 : List Val) (x4 : Int) (b2 : Val) (r1 : Bool) : rS 2 I56 (S56_2 x0 x4 b2) [Y, F, F] [xAI r1] = st 2 I56 (S56_2 x0 (W (x4 + 1)) b2) [(decide ((x4 : Int) < (Ln x0 : Int))) = true, (0 : Int) ≤ x4 ∧ x4 < (Ln x0), AbC 40 (xAM (gD x0 (tN x4) vd)) (xAI r1), (!r1) = false, (0 : Int) ≤ x4 ∧ x4 < (Ln x0), (((Val.kind (gD x0 (tN x4) vd)) : Int) == 6) = false] := by kernel_rfl
theorem p56_2_3 (x0 : List Val) (x4 : Int) (b2 : Val) : rS 2 I56 (S56_2 x0 x4 b2) [F] [] = dn (xAR ((Val.mk 0 0 0 [] [] [] []), false)) [(decide ((x4 : Int) < (Ln x0 : Int))) = false] := by kernel_rfl
theorem p56_e_4 (a0 : List Val) : rE I56 (xBn a0) [] [] = st 2 I56 (S56_2 a0 0 (Val.mk 0 0 0 [] [] [] [])) [] := by kernel_rfl
theorem c56_2 {N : Nat} : ∀ n x0 x4 b2 r, xDv N n x0 x4 b2 = some r → RS Try.f56 I56 2 (S56_2 x0 x4 b2) (xAR r) := by
 intro n
 induction n with
 | zero => exact fun _ _ _ _ h => nE h
 | succ n ih =>
  exact fun x0 x4 b2 r h =>
   cE h (fun h0 h => iE h fun h1 h => bE h fun r1 h2 h => cE h (fun h3 h => bE h fun r2 h4 h => dS h fk56 (p56_2_0 x0 x4 b2 r1 r2) (oc h0 (oc h1 (oc (xF0 h2) (oc h3 (oc (xA5 h4) on)))))) fun h3 h =>
   cE h (fun h5 h => bE h fun r2 h7 h => dS h fk56 (p56_2_1 x0 x4 b2 r1 r2) (oc h0 (oc h1 (oc (xF0 h2) (oc h3 (oc h1 (oc h5 (oc h1 (oc (xA5 h7) on))))))))) fun h5 h =>
   tS fk56 (p56_2_2 x0 x4 b2 r1) (oc h0 (oc h1 (oc (xF0 h2) (oc h3 (oc h1 (oc h5 on)))))) (ih _ _ _ _ h)) fun h0 h =>
   dS h fk56 (p56_2_3 x0 x4 b2) (oc h0 on)
theorem c56_e {N : Nat} : ∀ a0 r, xHe N a0 = some r → RE Try.f56 I56 (xBn a0) (xAR r) := fun a0 r h =>
 tE fk56 (p56_e_4 a0) on (c56_2 _ _ _ _ _ h)
theorem xBE {N : Nat} {a0 : List Val} {r : Val × Bool} (h : xHe N  a0 = some r) : AbC 56 (xBn a0) (xAR r) :=
 AbsCalls.of_reach fk56 rfl rfl (Nat.le_of_ble_eq_true rfl) (c56_e a0 r h)
noncomputable def I51 : Info := { body := (Try.f51.body).getD .skip, nt := 5, results := [.cell 2 31], keep := [0, 4, 5], live := [], modes := [] }
theorem fk51 : FnOk Try.prog 51 Try.f51 I51 := ⟨Try.func51, by kernel_rfl, by kernel_rfl, by kernel_rfl, by kernel_rfl⟩
theorem p51_e_0 (a0 : Int) : rE I51 (xDo a0) [] [] = dn (xB5 (Val.mk 1 a0 0 [] [] [] [])) [] := by kernel_rfl
theorem c51_e {N : Nat} : ∀ a0 r, xEu N a0 = some r → RE Try.f51 I51 (xDo a0) (xB5 r) := fun a0 r h =>
 dE h fk51 (p51_e_0 a0) on
theorem xGn {N : Nat} {a0 : Int} {r : Val} (h : xEu N  a0 = some r) : AbC 51 (xDo a0) (xB5 r) :=
 AbsCalls.of_reach fk51 rfl rfl (Nat.le_of_ble_eq_true rfl) (c51_e a0 r h)
noncomputable def I61 : Info := { body := (Try.f61.body).getD .skip, nt := 9, results := [.cell 2 31], keep := [0, 4, 10, 5], live := [], modes := [] }
theorem fk61 : FnOk Try.prog 61 Try.f61 I61 := ⟨Try.func61, by kernel_rfl, by kernel_rfl, by kernel_rfl, by kernel_rfl⟩
theorem p61_e_0 (a0 : Int) (r1 : Bool) (r2 : Val) : rE I61 (xCl a0) [Y] [xA8 r1, xAJ r2] = dn (xBv r2) [AbC 85 (xCa a0) (xA8 r1), (!r1) = true, AbC 44 (xAX 5) (xAJ r2)] := by kernel_rfl
theorem p61_e_1 (a0 : Int) (r1 : Bool) (r2 : Val) : rE I61 (xCl a0) [F] [xA8 r1, xB5 r2] = dn (xBv r2) [AbC 85 (xCa a0) (xA8 r1), (!r1) = false, AbC 51 (xDo a0) (xB5 r2)] := by kernel_rfl
theorem c61_e {N : Nat} : ∀ a0 r, xCW N a0 = some r → RE Try.f61 I61 (xCl a0) (xBv r) := fun a0 r h =>
 bE h fun r1 h0 h => cE h (fun h1 h => bE h fun r2 h2 h => dE h fk61 (p61_e_0 a0 r1 r2) (oc (xC6 h0) (oc h1 (oc (xA5 h2) on)))) fun h1 h =>
 bE h fun r2 h2 h => dE h fk61 (p61_e_1 a0 r1 r2) (oc (xC6 h0) (oc h1 (oc (xGn h2) on)))
theorem xFJ {N : Nat} {a0 : Int} {r : Val} (h : xCW N  a0 = some r) : AbC 61 (xCl a0) (xBv r) :=
 AbsCalls.of_reach fk61 rfl rfl (Nat.le_of_ble_eq_true rfl) (c61_e a0 r h)
noncomputable def I127 : Info := { body := (Try.f127.body).getD .skip, nt := 5, results := [.cell 2 31], keep := [0, 4, 5], live := [], modes := [] }
theorem fk127 : FnOk Try.prog 127 Try.f127 I127 := ⟨Try.func127, by kernel_rfl, by kernel_rfl, by kernel_rfl, by kernel_rfl⟩
theorem p127_e_0 (a0 : Str) : rE I127 (xFU a0) [] [] = dn (xEU (Val.mk 2 0 0 a0 [] [] [])) [] := by kernel_rfl
theorem c127_e {N : Nat} : ∀ a0 r, xG6 N a0 = some r → RE Try.f127 I127 (xFU a0) (xEU r) := fun a0 r h =>
 dE h fk127 (p127_e_0 a0) on
theorem spec_TextValue_ok {N : Nat} {a0 : Str} {r : Val} (h : xG6 N  a0 = some r) : AbC 127 (xFU a0) (xEU r) :=
 AbsCalls.of_reach fk127 rfl rfl (Nat.le_of_ble_eq_true rfl) (c127_e a0 r h)
noncomputable def I139 : Info := { body := (Try.f139.body).getD .skip, nt := 12, results := [.cell 2 107], keep := [0, 2, 4, 3, 5], live := [], modes := [] }
theorem fk139 : FnOk Try.prog 139 Try.f139 I139 := ⟨Try.func139, by kernel_rfl, by kernel_rfl, by kernel_rfl, by kernel_rfl⟩
theorem p139_e_0 (a0 : Rowd) : rE I139 (xHr a0) [] [] = dn (xGH (Rowd.mk ([] ++ (Rowd.cells a0)) ([] ++ (Rowd.frm a0)))) [0 + Ln (Rowd.cells a0) ≤ Lim, 0 + Ln (Rowd.frm a0) ≤ Lim] := by kernel_rfl
theorem c139_e {N : Nat} : ∀ a0 r, xIf N a0 = some r → RE Try.f139 I139 (xHr a0) (xGH r) := fun a0 r h =>
 iE h fun h0 h => iE h fun h1 h => dE h fk139 (p139_e_0 a0) (oc h0 (oc h1 on))
theorem spec_l3Row_ok {N : Nat} {a0 : Rowd} {r : Rowd} (h : xIf N  a0 = some r) : AbC 139 (xHr a0) (xGH r) :=
 AbsCalls.of_reach fk139 rfl rfl (Nat.le_of_ble_eq_true rfl) (c139_e a0 r h)
def G84 (q : Val → Option (Val)) : Prop := ∀ a0 r, q a0 = some r → AbC 84 (xEH a0) (xCx r)
noncomputable def I84 : Info := { body := (Try.f84.body).getD .skip, nt := 56, results := [.cell 2 31], keep := [0, 2, 4, 6, 8, 10, 46, 82, 3, 5, 7], live := [(3, [2, 4, 6, 8, 3, 5, 7]), (7, [2, 4, 6, 10, 3, 5, 7])], modes := [(5, [(1, .take, false), (9, .take, false)]), (9, [(1, .take, false), (9, .take, false)]), (10, [(0, .take, false)])] }
theorem fk84 : FnOk Try.prog 84 Try.f84 I84 := ⟨Try.func84, by kernel_rfl, by kernel_rfl, by kernel_rfl, by kernel_rfl⟩
def S84_3 (x4 : Int) (b1 b2 b3 : Val) : St := [(2, .v false [.ptr 1 0]), (4, .v false [.ptr 2 0]), (6, .v false [.ptr 3 0]), (8, .v false [.int .i64 x4]), (3, .v true [.int .i64 (Val.kind b1), .int .i64 (Val.n b1), .int .i64 (Val.step b1), .str (Val.text b1), .sl .ro .val (Val.list b1), .sl .ro .str (Val.columns b1), .sl .ro .row (Val.rows b1)]), (5, .v true [.int .i64 (Val.kind b2), .int .i64 (Val.n b2), .int .i64 (Val.step b2), .str (Val.text b2), .sl .own .val (Val.list b2), .sl .own .str (Val.columns b2), .sl .own .row (Val.rows b2)]), (7, .v true [.int .i64 (Val.kind b3), .int .i64 (Val.n b3), .int .i64 (Val.step b3), .str (Val.text b3), .sl .own .val (Val.list b3), .sl .own .str (Val.columns b3), .sl .own .row (Val.rows b3)])]
def S84_7 (x5 : Int) (b1 b2 b3 : Val) : St := [(2, .v false [.ptr 1 0]), (4, .v false [.ptr 2 0]), (6, .v false [.ptr 3 0]), (10, .v false [.int .i64 x5]), (3, .v true [.int .i64 (Val.kind b1), .int .i64 (Val.n b1), .int .i64 (Val.step b1), .str (Val.text b1), .sl .ro .val (Val.list b1), .sl .ro .str (Val.columns b1), .sl .ro .row (Val.rows b1)]), (5, .v true [.int .i64 (Val.kind b2), .int .i64 (Val.n b2), .int .i64 (Val.step b2), .str (Val.text b2), .sl .own .val (Val.list b2), .sl .own .str (Val.columns b2), .sl .own .row (Val.rows b2)]), (7, .v true [.int .i64 (Val.kind b3), .int .i64 (Val.n b3), .int .i64 (Val.step b3), .str (Val.text b3), .sl .own .val (Val.list b3), .sl .own .str (Val.columns b3), .sl .own .row (Val.rows b3)])]
theorem p84_7_0 (x5 : Int) (b1 b2 b3 : Val) (r1 : Rowd) : rS 7 I84 (S84_7 x5 b1 b2 b3) [Y] [xGH r1] = st 7 I84 (S84_7 (W (x5 + 1)) b1 b2 (Val.mk (Val.kind b3) (Val.n b3) (Val.step b3) (Val.text b3) (Val.list b3) (Val.columns b3) ((Val.rows b3) ++ [r1]))) [(decide ((x5 : Int) < (Ln (Val.rows b1) : Int))) = true, (0 : Int) ≤ x5 ∧ x5 < (Ln (Val.rows b1)), AbC 139 (xHr (gD (Val.rows b1) (tN x5) rd)) (xGH r1), Ln (Val.rows b3) + Ln [r1] ≤ Lim] := by kernel_rfl
theorem p84_7_1 (x5 : Int) (b1 b2 b3 : Val) : rS 7 I84 (S84_7 x5 b1 b2 b3) [F] [] = dn (xCx b3) [(decide ((x5 : Int) < (Ln (Val.rows b1) : Int))) = false] := by kernel_rfl
theorem p84_3_2 (x4 : Int) (b1 b2 b3 r1 : Val) : rS 3 I84 (S84_3 x4 b1 b2 b3) [Y] [xCx r1] = st 3 I84 (S84_3 (W (x4 + 1)) b1 b2 (Val.mk (Val.kind b3) (Val.n b3) (Val.step b3) (Val.text b3) ((Val.list b3) ++ [(Val.re r1)]) (Val.columns b3) (Val.rows b3))) [(decide ((x4 : Int) < (Ln (Val.list b1) : Int))) = true, (0 : Int) ≤ x4 ∧ x4 < (Ln (Val.list b1)), AbC 84 (xEH (gD (Val.list b1) (tN x4) vd)) (xCx r1), Ln (Val.list b3) + Ln [(Val.re r1)] ≤ Lim] := by kernel_rfl
theorem p84_3_3 (x4 : Int) (b1 b2 b3 : Val) : rS 3 I84 (S84_3 x4 b1 b2 b3) [F] [] = st 7 I84 (S84_7 0 b1 b2 b3) [(decide ((x4 : Int) < (Ln (Val.list b1) : Int))) = false] := by kernel_rfl
theorem p84_e_4 (a0 : Val) : rE I84 (xEH a0) [] [] = st 3 I84 (S84_3 0 a0 (Val.mk 0 0 0 [] [] [] []) (Val.mk (Val.kind a0) (Val.n a0) (Val.step a0) (Val.text a0) [] ([] ++ (Val.columns a0)) [])) [0 + Ln (Val.columns a0) ≤ Lim] := by kernel_rfl
theorem c84_7 {N : Nat} {q0 : Val → Option (Val)} (g0 : G84 q0) : ∀ n x5 b1 b2 b3 r, xEI N q0 n x5 b1 b2 b3 = some r → RS Try.f84 I84 7 (S84_7 x5 b1 b2 b3) (xCx r) := by
 intro n
 induction n with
 | zero => exact fun _ _ _ _ _ h => nE h
 | succ n ih =>
  exact fun x5 b1 b2 b3 r h =>
   cE h (fun h0 h => iE h fun h1 h => bE h fun r1 h2 h => iE h fun h3 h => tS fk84 (p84_7_0 x5 b1 b2 b3 r1) (oc h0 (oc h1 (oc (spec_l3Row_ok h2) (oc h3 on)))) (ih _ _ _ _ _ h)) fun h0 h =>
   dS h fk84 (p84_7_1 x5 b1 b2 b3) (oc h0 on)
theorem c84_3 {N : Nat} {q0 : Val → Option (Val)} (g0 : G84 q0) : ∀ n x4 b1 b2 b3 r, xFp N q0 n x4 b1 b2 b3 = some r → RS Try.f84 I84 3 (S84_3 x4 b1 b2 b3) (xCx r) := by
 intro n
 induction n with
 | zero => exact fun _ _ _ _ _ h => nE h
 | succ n ih =>
  exact fun x4 b1 b2 b3 r h =>
   cE h (fun h0 h => iE h fun h1 h => bE h fun r1 h2 h => iE h fun h3 h => tS fk84 (p84_3_2 x4 b1 b2 b3 r1) (oc h0 (oc h1 (oc (g0 _ _ h2) (oc h3 on)))) (ih _ _ _ _ _ h)) fun h0 h =>
   tS fk84 (p84_3_3 x4 b1 b2 b3) (oc h0 on) (c84_7 g0 _ _ _ _ _ _ h)
theorem c84_e {N : Nat} {q0 : Val → Option (Val)} (g0 : G84 q0) : ∀ a0 r, xFg N q0 a0 = some r → RE Try.f84 I84 (xEH a0) (xCx r) := fun a0 r h =>
 iE h fun h0 h => tE fk84 (p84_e_4 a0) (oc h0 on) (c84_3 g0 _ _ _ _ _ _ h)
theorem xJo {N : Nat} {q0 : Val → Option (Val)} (g0 : G84 q0) {a0 : Val} {r : Val} (h : xFg N q0 a0 = some r) : AbC 84 (xEH a0) (xCx r) :=
 AbsCalls.of_reach fk84 rfl rfl (Nat.le_of_ble_eq_true rfl) (c84_e g0 a0 r h)
theorem xHV {N : Nat} : ∀ d, G84 (xEg N d)
 | 0 => fun _ _ h => nE h
 | d + 1 => fun _ _ h => xJo (N := N) (xHV d) h
theorem spec_l3Copy_ok {N : Nat} {a0 : Val} {r : Val} (h : xHK N a0 = some r) : AbC 84 (xEH a0) (xCx r) := xHV N _ r h
noncomputable def I123 : Info := { body := (Try.f123.body).getD .skip, nt := 23, results := [.cell 2 31], keep := [0, 4, 6, 8, 18, 5, 7], live := [(3, [0, 4, 6, 8, 5, 7])], modes := [(5, [(1, .take, false), (8, .take, false)]), (6, [(0, .take, false)])] }
theorem fk123 : FnOk Try.prog 123 Try.f123 I123 := ⟨Try.func123, by kernel_rfl, by kernel_rfl, by kernel_rfl, by kernel_rfl⟩
def S123_3 (x0 : List Val) (x4 : Int) (b2 b3 : Val) : St := [(0, .v false [.sl .ro .val x0]), (4, .v false [.ptr 2 0]), (6, .v false [.ptr 3 0]), (8, .v false [.int .i64 x4]), (5, .v true [.int .i64 (Val.kind b2), .int .i64 (Val.n b2), .int .i64 (Val.step b2), .str (Val.text b2), .sl .own .val (Val.list b2), .sl .own .str (Val.columns b2), .sl .own .row (Val.rows b2)]), (7, .v true [.int .i64 (Val.kind b3), .int .i64 (Val.n b3), .int .i64 (Val.step b3), .str (Val.text b3), .sl .own .val (Val.list b3), .sl .own .str (Val.columns b3), .sl .own .row (Val.rows b3)])]
theorem p123_3_0 (x0 : List Val) (x4 : Int) (b2 b3 r1 : Val) : rS 3 I123 (S123_3 x0 x4 b2 b3) [Y] [xCx r1] = st 3 I123 (S123_3 x0 (W (x4 + 1)) b2 (Val.mk (Val.kind b3) (Val.n b3) (Val.step b3) (Val.text b3) ((Val.list b3) ++ [(Val.re r1)]) (Val.columns b3) (Val.rows b3))) [(decide ((x4 : Int) < (Ln x0 : Int))) = true, (0 : Int) ≤ x4 ∧ x4 < (Ln x0), AbC 84 (xEH (gD x0 (tN x4) vd)) (xCx r1), Ln (Val.list b3) + Ln [(Val.re r1)] ≤ Lim] := by kernel_rfl
theorem p123_3_1 (x0 : List Val) (x4 : Int) (b2 b3 : Val) : rS 3 I123 (S123_3 x0 x4 b2 b3) [F] [] = dn (xDY b3) [(decide ((x4 : Int) < (Ln x0 : Int))) = false] := by kernel_rfl
theorem p123_e_2 (a0 : List Val) : rE I123 (xFT a0) [] [] = st 3 I123 (S123_3 a0 0 (Val.mk 0 0 0 [] [] [] []) (Val.mk 3 0 0 [] [] [] [])) [] := by kernel_rfl
theorem c123_3 {N : Nat} : ∀ n x0 x4 b2 b3 r, xDX N n x0 x4 b2 b3 = some r → RS Try.f123 I123 3 (S123_3 x0 x4 b2 b3) (xDY r) := by
 intro n
 induction n with
 | zero => exact fun _ _ _ _ _ h => nE h
 | succ n ih =>
  exact fun x0 x4 b2 b3 r h =>
   cE h (fun h0 h => iE h fun h1 h => bE h fun r1 h2 h => iE h fun h3 h => tS fk123 (p123_3_0 x0 x4 b2 b3 r1) (oc h0 (oc h1 (oc (spec_l3Copy_ok h2) (oc h3 on)))) (ih _ _ _ _ _ h)) fun h0 h =>
   dS h fk123 (p123_3_1 x0 x4 b2 b3) (oc h0 on)
theorem c123_e {N : Nat} : ∀ a0 r, xG5 N a0 = some r → RE Try.f123 I123 (xFT a0) (xDY r) := fun a0 r h =>
 tE fk123 (p123_e_2 a0) on (c123_3 _ _ _ _ _ _ h)
theorem spec_ListValue_ok {N : Nat} {a0 : List Val} {r : Val} (h : xG5 N  a0 = some r) : AbC 123 (xFT a0) (xDY r) :=
 AbsCalls.of_reach fk123 rfl rfl (Nat.le_of_ble_eq_true rfl) (c123_e a0 r h)
noncomputable def I57 : Info := { body := (Try.f57.body).getD .skip, nt := 71, results := [.cell 4 31], keep := [0, 2, 4, 6, 8, 10, 40, 72, 88, 120, 5, 7, 9], live := [], modes := [(1, [(3, .take, false)]), (3, [(3, .take, false)]), (7, [(3, .take, false)])] }
theorem fk57 : FnOk Try.prog 57 Try.f57 I57 := ⟨Try.func57, by kernel_rfl, by kernel_rfl, by kernel_rfl, by kernel_rfl⟩
theorem p57_e_0 (a0 a1 r1 : Val) : rE I57 (xCq a0 a1) [Y, Y] [xBv r1] = dn (xB6 r1) [(((Val.kind a0) : Int) == 1) = true, (((Val.kind a1) : Int) == 1) = true, AbC 61 (xCl (W ((Val.n a0) + (Val.n a1)))) (xBv r1)] := by kernel_rfl
theorem p57_e_1 (a0 a1 r1 : Val) : rE I57 (xCq a0 a1) [Y, F, F, F, F, F] [xAJ r1] = dn (xB6 r1) [(((Val.kind a0) : Int) == 1) = true, (((Val.kind a1) : Int) == 1) = false, (((Val.kind a0) : Int) == 2) = false, false = false, (((Val.kind a0) : Int) == 3) = false, false = false, AbC 44 (xAX 4) (xAJ r1)] := by kernel_rfl
theorem p57_e_2 (a0 a1 r1 : Val) : rE I57 (xCq a0 a1) [F, F, Y, Y, Y] [xAJ r1] = dn (xB6 r1) [(((Val.kind a0) : Int) == 1) = false, false = false, (((Val.kind a0) : Int) == 2) = true, (((Val.kind a1) : Int) == 2) = true, (decide (((W ((Ln (Val.text a0) : Int) + (Ln (Val.text a1) : Int))) : Int) > 20)) = true, AbC 44 (xAX 6) (xAJ r1)] := by kernel_rfl
theorem p57_e_3 (a0 a1 r1 : Val) : rE I57 (xCq a0 a1) [F, F, Y, Y, F] [xEU r1] = dn (xB6 r1) [(((Val.kind a0) : Int) == 1) = false, false = false, (((Val.kind a0) : Int) == 2) = true, (((Val.kind a1) : Int) == 2) = true, (decide (((W ((Ln (Val.text a0) : Int) + (Ln (Val.text a1) : Int))) : Int) > 20)) = false, Ln (Val.text a0) + Ln (Val.text a1) ≤ Lim, AbC 127 (xFU ((Val.text a0) ++ (Val.text a1))) (xEU r1)] := by kernel_rfl
theorem p57_e_4 (a0 a1 r1 : Val) : rE I57 (xCq a0 a1) [F, F, Y, F, F, F] [xAJ r1] = dn (xB6 r1) [(((Val.kind a0) : Int) == 1) = false, false = false, (((Val.kind a0) : Int) == 2) = true, (((Val.kind a1) : Int) == 2) = false, (((Val.kind a0) : Int) == 3) = false, false = false, AbC 44 (xAX 4) (xAJ r1)] := by kernel_rfl
theorem p57_e_5 (a0 a1 r1 : Val) : rE I57 (xCq a0 a1) [F, F, F, F, Y, Y, Y] [xAJ r1] = dn (xB6 r1) [(((Val.kind a0) : Int) == 1) = false, false = false, (((Val.kind a0) : Int) == 2) = false, false = false, (((Val.kind a0) : Int) == 3) = true, (((Val.kind a1) : Int) == 3) = true, (decide (((W ((Ln (Val.list a0) : Int) + (Ln (Val.list a1) : Int))) : Int) > 8)) = true, AbC 44 (xAX 6) (xAJ r1)] := by kernel_rfl
theorem p57_e_6 (a0 a1 r1 : Val) : rE I57 (xCq a0 a1) [F, F, F, F, Y, Y, F] [xDY r1] = dn (xB6 r1) [(((Val.kind a0) : Int) == 1) = false, false = false, (((Val.kind a0) : Int) == 2) = false, false = false, (((Val.kind a0) : Int) == 3) = true, (((Val.kind a1) : Int) == 3) = true, (decide (((W ((Ln (Val.list a0) : Int) + (Ln (Val.list a1) : Int))) : Int) > 8)) = false, 0 + Ln (Val.list a0) ≤ Lim, Ln ([] ++ (Val.list a0)) + Ln (Val.list a1) ≤ Lim, AbC 123 (xFT (([] ++ (Val.list a0)) ++ (Val.list a1))) (xDY r1)] := by kernel_rfl
theorem p57_e_7 (a0 a1 r1 : Val) : rE I57 (xCq a0 a1) [F, F, F, F, Y, F] [xAJ r1] = dn (xB6 r1) [(((Val.kind a0) : Int) == 1) = false, false = false, (((Val.kind a0) : Int) == 2) = false, false = false, (((Val.kind a0) : Int) == 3) = true, (((Val.kind a1) : Int) == 3) = false, AbC 44 (xAX 4) (xAJ r1)] := by kernel_rfl
theorem p57_e_8 (a0 a1 r1 : Val) : rE I57 (xCq a0 a1) [F, F, F, F, F, F] [xAJ r1] = dn (xB6 r1) [(((Val.kind a0) : Int) == 1) = false, false = false, (((Val.kind a0) : Int) == 2) = false, false = false, (((Val.kind a0) : Int) == 3) = false, false = false, AbC 44 (xAX 4) (xAJ r1)] := by kernel_rfl
theorem c57_e {N : Nat} : ∀ a0 a1 r, xGV N a0 a1 = some r → RE Try.f57 I57 (xCq a0 a1) (xB6 r) := fun a0 a1 r h =>
 cE h (fun h0 h => cE h (fun h1 h => bE h fun r1 h2 h => dE h fk57 (p57_e_0 a0 a1 r1) (oc h0 (oc h1 (oc (xFJ h2) on)))) fun h1 h =>
 bE h fun r1 h6 h => dE h fk57 (p57_e_1 a0 a1 r1) (oc h0 (oc h1 (oc (eq_ne h0 rfl) (oc rfl (oc (eq_ne h0 rfl) (oc rfl (oc (xA5 h6) on)))))))) fun h0 h =>
 cE h (fun h2 h => cE h (fun h3 h => cE h (fun h4 h => bE h fun r1 h5 h => dE h fk57 (p57_e_2 a0 a1 r1) (oc h0 (oc rfl (oc h2 (oc h3 (oc h4 (oc (xA5 h5) on))))))) fun h4 h =>
 iE h fun h5 h => bE h fun r1 h6 h => dE h fk57 (p57_e_3 a0 a1 r1) (oc h0 (oc rfl (oc h2 (oc h3 (oc h4 (oc h5 (oc (spec_TextValue_ok h6) on)))))))) fun h3 h =>
 bE h fun r1 h6 h => dE h fk57 (p57_e_4 a0 a1 r1) (oc h0 (oc rfl (oc h2 (oc h3 (oc (eq_ne h2 rfl) (oc rfl (oc (xA5 h6) on)))))))) fun h2 h =>
 cE h (fun h4 h => cE h (fun h5 h => cE h (fun h6 h => bE h fun r1 h7 h => dE h fk57 (p57_e_5 a0 a1 r1) (oc h0 (oc rfl (oc h2 (oc rfl (oc h4 (oc h5 (oc h6 (oc (xA5 h7) on))))))))) fun h6 h =>
 iE h fun h7 h => iE h fun h8 h => bE h fun r1 h9 h => dE h fk57 (p57_e_6 a0 a1 r1) (oc h0 (oc rfl (oc h2 (oc rfl (oc h4 (oc h5 (oc h6 (oc h7 (oc h8 (oc (spec_ListValue_ok h9) on))))))))))) fun h5 h =>
 bE h fun r1 h6 h => dE h fk57 (p57_e_7 a0 a1 r1) (oc h0 (oc rfl (oc h2 (oc rfl (oc h4 (oc h5 (oc (xA5 h6) on)))))))) fun h4 h =>
 bE h fun r1 h6 h => dE h fk57 (p57_e_8 a0 a1 r1) (oc h0 (oc rfl (oc h2 (oc rfl (oc h4 (oc rfl (oc (xA5 h6) on)))))))
theorem spec_l5Add_ok {N : Nat} {a0 : Val} {a1 : Val} {r : Val} (h : xGV N  a0 a1 = some r) : AbC 57 (xCq a0 a1) (xB6 r) :=
 AbsCalls.of_reach fk57 rfl rfl (Nat.le_of_ble_eq_true rfl) (c57_e a0 a1 r h)
noncomputable def I59 : Info := { body := (Try.f59.body).getD .skip, nt := 6, results := [.cell 2 31], keep := [0, 4, 6, 5], live := [], modes := [] }
theorem fk59 : FnOk Try.prog 59 Try.f59 I59 := ⟨Try.func59, by kernel_rfl, by kernel_rfl, by kernel_rfl, by kernel_rfl⟩
theorem p59_e_0 (a0 : Bool) (r1 : Val) : rE I59 (xCt a0) [Y] [xB5 r1] = dn (xBB r1) [a0 = true, AbC 51 (xDo 1) (xB5 r1)] := by kernel_rfl
theorem p59_e_1 (a0 : Bool) (r1 : Val) : rE I59 (xCt a0) [F] [xB5 r1] = dn (xBB r1) [a0 = false, AbC 51 (xDo 0) (xB5 r1)] := by kernel_rfl
theorem c59_e {N : Nat} : ∀ a0 r, xEe N a0 = some r → RE Try.f59 I59 (xCt a0) (xBB r) := fun a0 r h =>
 cE h (fun h0 h => bE h fun r1 h1 h => dE h fk59 (p59_e_0 a0 r1) (oc h0 (oc (xGn h1) on))) fun h0 h =>
 bE h fun r1 h1 h => dE h fk59 (p59_e_1 a0 r1) (oc h0 (oc (xGn h1) on))
theorem xFx {N : Nat} {a0 : Bool} {r : Val} (h : xEe N  a0 = some r) : AbC 59 (xCt a0) (xBB r) :=
 AbsCalls.of_reach fk59 rfl rfl (Nat.le_of_ble_eq_true rfl) (c59_e a0 r h)
noncomputable def I58 : Info := { body := (Try.f58.body).getD .skip, nt := 34, results := [.cell 4 31], keep := [0, 2, 4, 6, 8, 24, 52, 5, 7, 9], live := [], modes := [(1, [(3, .take, false)]), (3, [(3, .take, false)])] }
theorem fk58 : FnOk Try.prog 58 Try.f58 I58 := ⟨Try.func58, by kernel_rfl, by kernel_rfl, by kernel_rfl, by kernel_rfl⟩
theorem p58_e_0 (a0 a1 r1 : Val) : rE I58 (xDt a0 a1) [Y, Y] [xBB r1] = dn (xCy r1) [(((Val.kind a0) : Int) == 1) = true, (((Val.kind a1) : Int) == 1) = true, AbC 59 (xCt (decide (((Val.n a0) : Int) < (Val.n a1)))) (xBB r1)] := by kernel_rfl
theorem p58_e_1 (a0 a1 r1 : Val) : rE I58 (xDt a0 a1) [Y, F, F, F] [xAJ r1] = dn (xCy r1) [(((Val.kind a0) : Int) == 1) = true, (((Val.kind a1) : Int) == 1) = false, (((Val.kind a0) : Int) == 2) = false, false = false, AbC 44 (xAX 4) (xAJ r1)] := by kernel_rfl
theorem p58_e_2 (a0 a1 r1 : Val) : rE I58 (xDt a0 a1) [F, F, Y, Y] [xBB r1] = dn (xCy r1) [(((Val.kind a0) : Int) == 1) = false, false = false, (((Val.kind a0) : Int) == 2) = true, (((Val.kind a1) : Int) == 2) = true, AbC 59 (xCt (Op.bytesLess (Val.text a0) (Val.text a1))) (xBB r1)] := by kernel_rfl
theorem p58_e_3 (a0 a1 r1 : Val) : rE I58 (xDt a0 a1) [F, F, Y, F] [xAJ r1] = dn (xCy r1) [(((Val.kind a0) : Int) == 1) = false, false = false, (((Val.kind a0) : Int) == 2) = true, (((Val.kind a1) : Int) == 2) = false, AbC 44 (xAX 4) (xAJ r1)] := by kernel_rfl
theorem p58_e_4 (a0 a1 r1 : Val) : rE I58 (xDt a0 a1) [F, F, F, F] [xAJ r1] = dn (xCy r1) [(((Val.kind a0) : Int) == 1) = false, false = false, (((Val.kind a0) : Int) == 2) = false, false = false, AbC 44 (xAX 4) (xAJ r1)] := by kernel_rfl
theorem c58_e {N : Nat} : ∀ a0 a1 r, xGW N a0 a1 = some r → RE Try.f58 I58 (xDt a0 a1) (xCy r) := fun a0 a1 r h =>
 cE h (fun h0 h => cE h (fun h1 h => bE h fun r1 h2 h => dE h fk58 (p58_e_0 a0 a1 r1) (oc h0 (oc h1 (oc (xFx h2) on)))) fun h1 h =>
 bE h fun r1 h4 h => dE h fk58 (p58_e_1 a0 a1 r1) (oc h0 (oc h1 (oc (eq_ne h0 rfl) (oc rfl (oc (xA5 h4) on)))))) fun h0 h =>
 cE h (fun h2 h => cE h (fun h3 h => bE h fun r1 h4 h => dE h fk58 (p58_e_2 a0 a1 r1) (oc h0 (oc rfl (oc h2 (oc h3 (oc (xFx h4) on)))))) fun h3 h =>
 bE h fun r1 h4 h => dE h fk58 (p58_e_3 a0 a1 r1) (oc h0 (oc rfl (oc h2 (oc h3 (oc (xA5 h4) on)))))) fun h2 h =>
 bE h fun r1 h4 h => dE h fk58 (p58_e_4 a0 a1 r1) (oc h0 (oc rfl (oc h2 (oc rfl (oc (xA5 h4) on)))))
theorem xI6 {N : Nat} {a0 : Val} {a1 : Val} {r : Val} (h : xGW N  a0 a1 = some r) : AbC 58 (xDt a0 a1) (xCy r) :=
 AbsCalls.of_reach fk58 rfl rfl (Nat.le_of_ble_eq_true rfl) (c58_e a0 a1 r h)
noncomputable def I148 : Info := { body := (Try.f148.body).getD .skip, nt := 26, results := [.tmp 4], keep := [0, 2, 8, 10, 20, 28, 50], live := [(4, [0, 2, 10])], modes := [] }
theorem fk148 : FnOk Try.prog 148 Try.f148 I148 := ⟨Try.func148, by kernel_rfl, by kernel_rfl, by kernel_rfl, by kernel_rfl⟩
def S148_4 (x0 x1 : List Str) (x5 : Int) : St := [(0, .v false [.sl .ro .str x0]), (2, .v false [.sl .ro .str x1]), (10, .v false [.int .i64 x5])]
theorem p148_4_0 (x0 x1 : List Str) (x5 : Int) : rS 4 I148 (S148_4 x0 x1 x5) [Y, Y] [] = dn (xCc false) [(decide ((x5 : Int) < (Ln x0 : Int))) = true, (0 : Int) ≤ x5 ∧ x5 < (Ln x0), (0 : Int) ≤ x5 ∧ x5 < (Ln x1), (!(((gD x0 (tN x5) Ty.str.dflt) : Str) == (gD x1 (tN x5) Ty.str.dflt))) = true] := by kernel_rfl
theorem p148_4_1 (x0 x1 : List Str) (x5 : Int) : rS 4 I148 (S148_4 x0 x1 x5) [Y, F] [] = st 4 I148 (S148_4 x0 x1 (W (x5 + 1))) [(decide ((x5 : Int) < (Ln x0 : Int))) = true, (0 : Int) ≤ x5 ∧ x5 < (Ln x0), (0 : Int) ≤ x5 ∧ x5 < (Ln x1), (!(((gD x0 (tN x5) Ty.str.dflt) : Str) == (gD x1 (tN x5) Ty.str.dflt))) = false] := by kernel_rfl
theorem p148_4_2 (x0 x1 : List Str) (x5 : Int) : rS 4 I148 (S148_4 x0 x1 x5) [F] [] = dn (xCc true) [(decide ((x5 : Int) < (Ln x0 : Int))) = false] := by kernel_rfl
theorem p148_e_3 (a0 a1 : List Str) : rE I148 (xEi a0 a1) [Y] [] = dn (xCc false) [(((Ln a0 : Int) : Int) != (Ln a1 : Int)) = true] := by kernel_rfl
theorem p148_e_4 (a0 a1 : List Str) : rE I148 (xEi a0 a1) [F] [] = st 4 I148 (S148_4 a0 a1 0) [(((Ln a0 : Int) : Int) != (Ln a1 : Int)) = false] := by kernel_rfl
theorem c148_4 {N : Nat} : ∀ n x0 x1 x5 r, xEX N n x0 x1 x5 = some r → RS Try.f148 I148 4 (S148_4 x0 x1 x5) (xCc r) := by
 intro n
 induction n with
 | zero => exact fun _ _ _ _ h => nE h
 | succ n ih =>
  exact fun x0 x1 x5 r h =>
   cE h (fun h0 h => iE h fun h1 h => iE h fun h2 h => cE h (fun h3 h => dS h fk148 (p148_4_0 x0 x1 x5) (oc h0 (oc h1 (oc h2 (oc h3 on))))) fun h3 h =>
   tS fk148 (p148_4_1 x0 x1 x5) (oc h0 (oc h1 (oc h2 (oc h3 on)))) (ih _ _ _ _ h)) fun h0 h =>
   dS h fk148 (p148_4_2 x0 x1 x5) (oc h0 on)
theorem c148_e {N : Nat} : ∀ a0 a1 r, xHd N a0 a1 = some r → RE Try.f148 I148 (xEi a0 a1) (xCc r) := fun a0 a1 r h =>
 cE h (fun h0 h => dE h fk148 (p148_e_3 a0 a1) (oc h0 on)) fun h0 h =>
 tE fk148 (p148_e_4 a0 a1) (oc h0 on) (c148_4 _ _ _ _ _ h)
theorem xHL {N : Nat} {a0 : List Str} {a1 : List Str} {r : Bool} (h : xHd N  a0 a1 = some r) : AbC 148 (xEi a0 a1) (xCc r) :=
 AbsCalls.of_reach fk148 rfl rfl (Nat.le_of_ble_eq_true rfl) (c148_e a0 a1 r h)
end Go.Ab.T
end
section
open Go.Proofs
namespace Go.Ab.T
set_option linter.unusedVariables false
set_option maxRecDepth 100000
noncomputable def I149 : Info := { body := (Try.f149.body).getD .skip, nt := 26, results := [.tmp 4], keep := [0, 2, 8, 10, 20, 28, 50], live := [(4, [0, 2, 10])], modes := [] }
theorem fk149 : FnOk Try.prog 149 Try.f149 I149 := ⟨Try.func149, by kernel_rfl, by kernel_rfl, by kernel_rfl, by kernel_rfl⟩
def S149_4 (x0 x1 : List Int) (x5 : Int) : St := [(0, .v false [.sl .ro .int x0]), (2, .v false [.sl .ro .int x1]), (10, .v false [.int .i64 x5])]
theorem p149_4_0 (x0 x1 : List Int) (x5 : Int) : rS 4 I149 (S149_4 x0 x1 x5) [Y, Y] [] = dn (xBY false) [(decide ((x5 : Int) < (Ln x0 : Int))) = true, (0 : Int) ≤ x5 ∧ x5 < (Ln x0), (0 : Int) ≤ x5 ∧ x5 < (Ln x1), (((gD x0 (tN x5) Ty.int.dflt) : Int) != (gD x1 (tN x5) Ty.int.dflt)) = true] := by kernel_rfl
theorem p149_4_1 (x0 x1 : List Int) (x5 : Int) : rS 4 I149 (S149_4 x0 x1 x5) [Y, F] [] = st 4 I149 (S149_4 x0 x1 (W (x5 + 1))) [(decide ((x5 : Int) < (Ln x0 : Int))) = true, (0 : Int) ≤ x5 ∧ x5 < (Ln x0), (0 : Int) ≤ x5 ∧ x5 < (Ln x1), (((gD x0 (tN x5) Ty.int.dflt) : Int) != (gD x1 (tN x5) Ty.int.dflt)) = false] := by kernel_rfl
theorem p149_4_2 (x0 x1 : List Int) (x5 : Int) : rS 4 I149 (S149_4 x0 x1 x5) [F] [] = dn (xBY true) [(decide ((x5 : Int) < (Ln x0 : Int))) = false] := by kernel_rfl
theorem p149_e_3 (a0 a1 : List Int) : rE I149 (xDP a0 a1) [Y] [] = dn (xBY false) [(((Ln a0 : Int) : Int) != (Ln a1 : Int)) = true] := by kernel_rfl
theorem p149_e_4 (a0 a1 : List Int) : rE I149 (xDP a0 a1) [F] [] = st 4 I149 (S149_4 a0 a1 0) [(((Ln a0 : Int) : Int) != (Ln a1 : Int)) = false] := by kernel_rfl
theorem c149_4 {N : Nat} : ∀ n x0 x1 x5 r, xFo N n x0 x1 x5 = some r → RS Try.f149 I149 4 (S149_4 x0 x1 x5) (xBY r) := by
 intro n
 induction n with
 | zero => exact fun _ _ _ _ h => nE h
 | succ n ih =>
  exact fun x0 x1 x5 r h =>
   cE h (fun h0 h => iE h fun h1 h => iE h fun h2 h => cE h (fun h3 h => dS h fk149 (p149_4_0 x0 x1 x5) (oc h0 (oc h1 (oc h2 (oc h3 on))))) fun h3 h =>
   tS fk149 (p149_4_1 x0 x1 x5) (oc h0 (oc h1 (oc h2 (oc h3 on)))) (ih _ _ _ _ h)) fun h0 h =>
   dS h fk149 (p149_4_2 x0 x1 x5) (oc h0 on)
theorem c149_e {N : Nat} : ∀ a0 a1 r, xHH N a0 a1 = some r → RE Try.f149 I149 (xDP a0 a1) (xBY r) := fun a0 a1 r h =>
 cE h (fun h0 h => dE h fk149 (p149_e_3 a0 a1) (oc h0 on)) fun h0 h =>
 tE fk149 (p149_e_4 a0 a1) (oc h0 on) (c149_4 _ _ _ _ _ h)
theorem xG7 {N : Nat} {a0 : List Int} {a1 : List Int} {r : Bool} (h : xHH N  a0 a1 = some r) : AbC 149 (xDP a0 a1) (xBY r) :=
 AbsCalls.of_reach fk149 rfl rfl (Nat.le_of_ble_eq_true rfl) (c149_e a0 a1 r h)
noncomputable def I150 : Info := { body := (Try.f150.body).getD .skip, nt := 26, results := [.tmp 4], keep := [0, 2, 8, 10, 20, 28, 50], live := [(4, [0, 2, 10])], modes := [] }
theorem fk150 : FnOk Try.prog 150 Try.f150 I150 := ⟨Try.func150, by kernel_rfl, by kernel_rfl, by kernel_rfl, by kernel_rfl⟩
def S150_4 (x0 x1 : List Org) (x5 : Int) : St := [(0, .v false [.sl .ro .org x0]), (2, .v false [.sl .ro .org x1]), (10, .v false [.int .i64 x5])]
theorem p150_4_0 (x0 x1 : List Org) (x5 : Int) : rS 4 I150 (S150_4 x0 x1 x5) [Y, Y] [] = dn (xCe false) [(decide ((x5 : Int) < (Ln x0 : Int))) = true, (0 : Int) ≤ x5 ∧ x5 < (Ln x0), (0 : Int) ≤ x5 ∧ x5 < (Ln x1), (!((((Org.cell (gD x0 (tN x5) Ty.org.dflt)) : Int) == (Org.cell (gD x1 (tN x5) Ty.org.dflt))) && (((Org.row (gD x0 (tN x5) Ty.org.dflt)) : Int) == (Org.row (gD x1 (tN x5) Ty.org.dflt))))) = true] := by kernel_rfl
theorem p150_4_1 (x0 x1 : List Org) (x5 : Int) : rS 4 I150 (S150_4 x0 x1 x5) [Y, F] [] = st 4 I150 (S150_4 x0 x1 (W (x5 + 1))) [(decide ((x5 : Int) < (Ln x0 : Int))) = true, (0 : Int) ≤ x5 ∧ x5 < (Ln x0), (0 : Int) ≤ x5 ∧ x5 < (Ln x1), (!((((Org.cell (gD x0 (tN x5) Ty.org.dflt)) : Int) == (Org.cell (gD x1 (tN x5) Ty.org.dflt))) && (((Org.row (gD x0 (tN x5) Ty.org.dflt)) : Int) == (Org.row (gD x1 (tN x5) Ty.org.dflt))))) = false] := by kernel_rfl
theorem p150_4_2 (x0 x1 : List Org) (x5 : Int) : rS 4 I150 (S150_4 x0 x1 x5) [F] [] = dn (xCe true) [(decide ((x5 : Int) < (Ln x0 : Int))) = false] := by kernel_rfl
theorem p150_e_3 (a0 a1 : List Org) : rE I150 (xD1 a0 a1) [Y] [] = dn (xCe false) [(((Ln a0 : Int) : Int) != (Ln a1 : Int)) = true] := by kernel_rfl
theorem p150_e_4 (a0 a1 : List Org) : rE I150 (xD1 a0 a1) [F] [] = st 4 I150 (S150_4 a0 a1 0) [(((Ln a0 : Int) : Int) != (Ln a1 : Int)) = false] := by kernel_rfl
theorem c150_4 {N : Nat} : ∀ n x0 x1 x5 r, xGU N n x0 x1 x5 = some r → RS Try.f150 I150 4 (S150_4 x0 x1 x5) (xCe r) := by
 intro n
 induction n with
 | zero => exact fun _ _ _ _ h => nE h
 | succ n ih =>
  exact fun x0 x1 x5 r h =>
   cE h (fun h0 h => iE h fun h1 h => iE h fun h2 h => cE h (fun h3 h => dS h fk150 (p150_4_0 x0 x1 x5) (oc h0 (oc h1 (oc h2 (oc h3 on))))) fun h3 h =>
   tS fk150 (p150_4_1 x0 x1 x5) (oc h0 (oc h1 (oc h2 (oc h3 on)))) (ih _ _ _ _ h)) fun h0 h =>
   dS h fk150 (p150_4_2 x0 x1 x5) (oc h0 on)
theorem c150_e {N : Nat} : ∀ a0 a1 r, xH3 N a0 a1 = some r → RE Try.f150 I150 (xD1 a0 a1) (xCe r) := fun a0 a1 r h =>
 cE h (fun h0 h => dE h fk150 (p150_e_3 a0 a1) (oc h0 on)) fun h0 h =>
 tE fk150 (p150_e_4 a0 a1) (oc h0 on) (c150_4 _ _ _ _ _ h)
theorem xIe {N : Nat} {a0 : List Org} {a1 : List Org} {r : Bool} (h : xH3 N  a0 a1 = some r) : AbC 150 (xD1 a0 a1) (xCe r) :=
 AbsCalls.of_reach fk150 rfl rfl (Nat.le_of_ble_eq_true rfl) (c150_e a0 a1 r h)
def G107 (q : Val → Val → Bool → Option (Bool)) : Prop := ∀ a0 a1 a2 r, q a0 a1 a2 = some r → AbC 107 (xBO a0 a1 a2) (xA6 r)
noncomputable def I107 : Info := { body := (Try.f107.body).getD .skip, nt := 121, results := [.tmp 6], keep := [0, 2, 4, 6, 8, 12, 14, 16, 120, 130, 160, 170, 240, 7, 9], live := [(4, [4, 6, 8, 14, 7, 9]), (9, [4, 6, 8, 16, 7, 9])], modes := [(1, [(5, .take, false), (12, .take, false), (19, .take, false), (26, .take, false), (35, .take, false), (43, .take, false)]), (11, [(14, .take, false), (16, .take, false)])] }
theorem xIC : FnOk Try.prog 107 Try.f107 I107 := ⟨Try.func107, by kernel_rfl, by kernel_rfl, by kernel_rfl, by kernel_rfl⟩
def S107_4 (x2 : Bool) (x7 : Int) (b3 b4 : Val) : St := [(4, .v false [.bool x2]), (6, .v false [.ptr 3 0]), (8, .v false [.ptr 4 0]), (14, .v false [.int .i64 x7]), (7, .v true [.int .i64 (Val.kind b3), .int .i64 (Val.n b3), .int .i64 (Val.step b3), .str (Val.text b3), .sl .ro .val (Val.list b3), .sl .ro .str (Val.columns b3), .sl .ro .row (Val.rows b3)]), (9, .v true [.int .i64 (Val.kind b4), .int .i64 (Val.n b4), .int .i64 (Val.step b4), .str (Val.text b4), .sl .ro .val (Val.list b4), .sl .ro .str (Val.columns b4), .sl .ro .row (Val.rows b4)])]
def S107_9 (x2 : Bool) (x8 : Int) (b3 b4 : Val) : St := [(4, .v false [.bool x2]), (6, .v false [.ptr 3 0]), (8, .v false [.ptr 4 0]), (16, .v false [.int .i64 x8]), (7, .v true [.int .i64 (Val.kind b3), .int .i64 (Val.n b3), .int .i64 (Val.step b3), .str (Val.text b3), .sl .ro .val (Val.list b3), .sl .ro .str (Val.columns b3), .sl .ro .row (Val.rows b3)]), (9, .v true [.int .i64 (Val.kind b4), .int .i64 (Val.n b4), .int .i64 (Val.step b4), .str (Val.text b4), .sl .ro .val (Val.list b4), .sl .ro .str (Val.columns b4), .sl .ro .row (Val.rows b4)])]
theorem p107_9_0 (x2 : Bool) (x8 : Int) (b3 b4 : Val) (r1 : Bool) : rS 9 I107 (S107_9 x2 x8 b3 b4) [Y, Y, Y] [xBY r1] = dn (xA6 false) [(decide ((x8 : Int) < (Ln (Val.rows b3) : Int))) = true, (0 : Int) ≤ x8 ∧ x8 < (Ln (Val.rows b3)), (0 : Int) ≤ x8 ∧ x8 < (Ln (Val.rows b4)), AbC 149 (xDP (Rowd.cells (gD (Val.rows b3) (tN x8) rd)) (Rowd.cells (gD (Val.rows b4) (tN x8) rd))) (xBY r1), (!r1) = true, true = true] := by kernel_rfl
theorem p107_9_1 (x2 : Bool) (x8 : Int) (b3 b4 : Val) (r1 r2 : Bool) : rS 9 I107 (S107_9 x2 x8 b3 b4) [Y, F, Y, Y] [xBY r1, xCe r2] = dn (xA6 false) [(decide ((x8 : Int) < (Ln (Val.rows b3) : Int))) = true, (0 : Int) ≤ x8 ∧ x8 < (Ln (Val.rows b3)), (0 : Int) ≤ x8 ∧ x8 < (Ln (Val.rows b4)), AbC 149 (xDP (Rowd.cells (gD (Val.rows b3) (tN x8) rd)) (Rowd.cells (gD (Val.rows b4) (tN x8) rd))) (xBY r1), (!r1) = false, x2 = true, (0 : Int) ≤ x8 ∧ x8 < (Ln (Val.rows b3)), (0 : Int) ≤ x8 ∧ x8 < (Ln (Val.rows b4)), AbC 150 (xD1 (Rowd.frm (gD (Val.rows b3) (tN x8) rd)) (Rowd.frm (gD (Val.rows b4) (tN x8) rd))) (xCe r2), (!r2) = true] := by kernel_rfl
theorem p107_9_2 (x2 : Bool) (x8 : Int) (b3 b4 : Val) (r1 r2 : Bool) : rS 9 I107 (S107_9 x2 x8 b3 b4) [Y, F, Y, F] [xBY r1, xCe r2] = st 9 I107 (S107_9 x2 (W (x8 + 1)) b3 b4) [(decide ((x8 : Int) < (Ln (Val.rows b3) : Int))) = true, (0 : Int) ≤ x8 ∧ x8 < (Ln (Val.rows b3)), (0 : Int) ≤ x8 ∧ x8 < (Ln (Val.rows b4)), AbC 149 (xDP (Rowd.cells (gD (Val.rows b3) (tN x8) rd)) (Rowd.cells (gD (Val.rows b4) (tN x8) rd))) (xBY r1), (!r1) = false, x2 = true, (0 : Int) ≤ x8 ∧ x8 < (Ln (Val.rows b3)), (0 : Int) ≤ x8 ∧ x8 < (Ln (Val.rows b4)), AbC 150 (xD1 (Rowd.frm (gD (Val.rows b3) (tN x8) rd)) (Rowd.frm (gD (Val.rows b4) (tN x8) rd))) (xCe r2), (!r2) = false] := by kernel_rfl
theorem p107_9_3 (x2 : Bool) (x8 : Int) (b3 b4 : Val) (r1 : Bool) : rS 9 I107 (S107_9 x2 x8 b3 b4) [Y, F, F, F] [xBY r1] = st 9 I107 (S107_9 x2 (W (x8 + 1)) b3 b4) [(decide ((x8 : Int) < (Ln (Val.rows b3) : Int))) = true, (0 : Int) ≤ x8 ∧ x8 < (Ln (Val.rows b3)), (0 : Int) ≤ x8 ∧ x8 < (Ln (Val.rows b4)), AbC 149 (xDP (Rowd.cells (gD (Val.rows b3) (tN x8) rd)) (Rowd.cells (gD (Val.rows b4) (tN x8) rd))) (xBY r1), (!r1) = false, x2 = false, false = false] := by kernel_rfl
theorem p107_9_4 (x2 : Bool) (x8 : Int) (b3 b4 : Val) : rS 9 I107 (S107_9 x2 x8 b3 b4) [F] [] = dn (xA6 true) [(decide ((x8 : Int) < (Ln (Val.rows b3) : Int))) = false] := by kernel_rfl
theorem p107_4_5 (x2 : Bool) (x7 : Int) (b3 b4 : Val) (r1 : Bool) : rS 4 I107 (S107_4 x2 x7 b3 b4) [Y, Y] [xA6 r1] = dn (xA6 false) [(decide ((x7 : Int) < (Ln (Val.list b3) : Int))) = true, (0 : Int) ≤ x7 ∧ x7 < (Ln (Val.list b3)), (0 : Int) ≤ x7 ∧ x7 < (Ln (Val.list b4)), AbC 107 (xBO (gD (Val.list b3) (tN x7) vd) (gD (Val.list b4) (tN x7) vd) x2) (xA6 r1), (!r1) = true] := by kernel_rfl
theorem p107_4_6 (x2 : Bool) (x7 : Int) (b3 b4 : Val) (r1 : Bool) : rS 4 I107 (S107_4 x2 x7 b3 b4) [Y, F] [xA6 r1] = st 4 I107 (S107_4 x2 (W (x7 + 1)) b3 b4) [(decide ((x7 : Int) < (Ln (Val.list b3) : Int))) = true, (0 : Int) ≤ x7 ∧ x7 < (Ln (Val.list b3)), (0 : Int) ≤ x7 ∧ x7 < (Ln (Val.list b4)), AbC 107 (xBO (gD (Val.list b3) (tN x7) vd) (gD (Val.list b4) (tN x7) vd) x2) (xA6 r1), (!r1) = false] := by kernel_rfl
theorem p107_4_7 (x2 : Bool) (x7 : Int) (b3 b4 : Val) : rS 4 I107 (S107_4 x2 x7 b3 b4) [F] [] = st 9 I107 (S107_9 x2 0 b3 b4) [(decide ((x7 : Int) < (Ln (Val.list b3) : Int))) = false] := by kernel_rfl
theorem p107_e_8 (a0 a1 : Val) (a2 : Bool) : rE I107 (xBO a0 a1 a2) [Y, Y, Y, Y, Y, Y, Y] [] = dn (xA6 false) [(((Val.kind a0) : Int) != (Val.kind a1)) = true, true = true, true = true, true = true, true = true, true = true, true = true] := by kernel_rfl
theorem p107_e_9 (a0 a1 : Val) (a2 : Bool) : rE I107 (xBO a0 a1 a2) [F, Y, Y, Y, Y, Y, Y] [] = dn (xA6 false) [(((Val.kind a0) : Int) != (Val.kind a1)) = false, (((Val.n a0) : Int) != (Val.n a1)) = true, true = true, true = true, true = true, true = true, true = true] := by kernel_rfl
theorem p107_e_10 (a0 a1 : Val) (a2 : Bool) : rE I107 (xBO a0 a1 a2) [F, F, Y, Y, Y, Y, Y] [] = dn (xA6 false) [(((Val.kind a0) : Int) != (Val.kind a1)) = false, (((Val.n a0) : Int) != (Val.n a1)) = false, (((Val.step a0) : Int) != (Val.step a1)) = true, true = true, true = true, true = true, true = true] := by kernel_rfl
theorem p107_e_11 (a0 a1 : Val) (a2 : Bool) : rE I107 (xBO a0 a1 a2) [F, F, F, Y, Y, Y, Y] [] = dn (xA6 false) [(((Val.kind a0) : Int) != (Val.kind a1)) = false, (((Val.n a0) : Int) != (Val.n a1)) = false, (((Val.step a0) : Int) != (Val.step a1)) = false, (!(((Val.text a0) : Str) == (Val.text a1))) = true, true = true, true = true, true = true] := by kernel_rfl
theorem p107_e_12 (a0 a1 : Val) (a2 : Bool) : rE I107 (xBO a0 a1 a2) [F, F, F, F, Y, Y, Y] [] = dn (xA6 false) [(((Val.kind a0) : Int) != (Val.kind a1)) = false, (((Val.n a0) : Int) != (Val.n a1)) = false, (((Val.step a0) : Int) != (Val.step a1)) = false, (!(((Val.text a0) : Str) == (Val.text a1))) = false, (((Ln (Val.list a0) : Int) : Int) != (Ln (Val.list a1) : Int)) = true, true = true, true = true] := by kernel_rfl
theorem p107_e_13 (a0 a1 : Val) (a2 r1 : Bool) : rE I107 (xBO a0 a1 a2) [F, F, F, F, F, Y, Y] [xCc r1] = dn (xA6 false) [(((Val.kind a0) : Int) != (Val.kind a1)) = false, (((Val.n a0) : Int) != (Val.n a1)) = false, (((Val.step a0) : Int) != (Val.step a1)) = false, (!(((Val.text a0) : Str) == (Val.text a1))) = false, (((Ln (Val.list a0) : Int) : Int) != (Ln (Val.list a1) : Int)) = false, AbC 148 (xEi (Val.columns a0) (Val.columns a1)) (xCc r1), (!r1) = true, true = true] := by kernel_rfl
theorem p107_e_14 (a0 a1 : Val) (a2 r1 : Bool) : rE I107 (xBO a0 a1 a2) [F, F, F, F, F, F, Y] [xCc r1] = dn (xA6 false) [(((Val.kind a0) : Int) != (Val.kind a1)) = false, (((Val.n a0) : Int) != (Val.n a1)) = false, (((Val.step a0) : Int) != (Val.step a1)) = false, (!(((Val.text a0) : Str) == (Val.text a1))) = false, (((Ln (Val.list a0) : Int) : Int) != (Ln (Val.list a1) : Int)) = false, AbC 148 (xEi (Val.columns a0) (Val.columns a1)) (xCc r1), (!r1) = false, (((Ln (Val.rows a0) : Int) : Int) != (Ln (Val.rows a1) : Int)) = true] := by kernel_rfl
theorem p107_e_15 (a0 a1 : Val) (a2 r1 : Bool) : rE I107 (xBO a0 a1 a2) [F, F, F, F, F, F, F] [xCc r1] = st 4 I107 (S107_4 a2 0 a0 a1) [(((Val.kind a0) : Int) != (Val.kind a1)) = false, (((Val.n a0) : Int) != (Val.n a1)) = false, (((Val.step a0) : Int) != (Val.step a1)) = false, (!(((Val.text a0) : Str) == (Val.text a1))) = false, (((Ln (Val.list a0) : Int) : Int) != (Ln (Val.list a1) : Int)) = false, AbC 148 (xEi (Val.columns a0) (Val.columns a1)) (xCc r1), (!r1) = false, (((Ln (Val.rows a0) : Int) : Int) != (Ln (Val.rows a1) : Int)) = false] := by kernel_rfl
theorem c107_9 {N : Nat} {q0 : Val → Val → Bool → Option (Bool)} (g0 : G107 q0) : ∀ n x2 x8 b3 b4 r, xDs N q0 n x2 x8 b3 b4 = some r → RS Try.f107 I107 9 (S107_9 x2 x8 b3 b4) (xA6 r) := by
 intro n
 induction n with
 | zero => exact fun _ _ _ _ _ h => nE h
 | succ n ih =>
  exact fun x2 x8 b3 b4 r h =>
   cE h (fun h0 h => iE h fun h1 h => iE h fun h2 h => bE h fun r1 h3 h => cE h (fun h4 h => dS h xIC (p107_9_0 x2 x8 b3 b4 r1) (oc h0 (oc h1 (oc h2 (oc (xG7 h3) (oc h4 (oc rfl on))))))) fun h4 h =>
   cE h (fun h5 h => bE h fun r2 h8 h => cE h (fun h9 h => dS h xIC (p107_9_1 x2 x8 b3 b4 r1 r2) (oc h0 (oc h1 (oc h2 (oc (xG7 h3) (oc h4 (oc h5 (oc h1 (oc h2 (oc (xIe h8) (oc h9 on))))))))))) fun h9 h =>
   tS xIC (p107_9_2 x2 x8 b3 b4 r1 r2) (oc h0 (oc h1 (oc h2 (oc (xG7 h3) (oc h4 (oc h5 (oc h1 (oc h2 (oc (xIe h8) (oc h9 on)))))))))) (ih _ _ _ _ _ h)) fun h5 h =>
   tS xIC (p107_9_3 x2 x8 b3 b4 r1) (oc h0 (oc h1 (oc h2 (oc (xG7 h3) (oc h4 (oc h5 (oc rfl on))))))) (ih _ _ _ _ _ h)) fun h0 h =>
   dS h xIC (p107_9_4 x2 x8 b3 b4) (oc h0 on)
theorem c107_4 {N : Nat} {q0 : Val → Val → Bool → Option (Bool)} (g0 : G107 q0) : ∀ n x2 x7 b3 b4 r, xEJ N q0 n x2 x7 b3 b4 = some r → RS Try.f107 I107 4 (S107_4 x2 x7 b3 b4) (xA6 r) := by
 intro n
 induction n with
 | zero => exact fun _ _ _ _ _ h => nE h
 | succ n ih =>
  exact fun x2 x7 b3 b4 r h =>
   cE h (fun h0 h => iE h fun h1 h => iE h fun h2 h => bE h fun r1 h3 h => cE h (fun h4 h => dS h xIC (p107_4_5 x2 x7 b3 b4 r1) (oc h0 (oc h1 (oc h2 (oc (g0 _ _ _ _ h3) (oc h4 on)))))) fun h4 h =>
   tS xIC (p107_4_6 x2 x7 b3 b4 r1) (oc h0 (oc h1 (oc h2 (oc (g0 _ _ _ _ h3) (oc h4 on))))) (ih _ _ _ _ _ h)) fun h0 h =>
   tS xIC (p107_4_7 x2 x7 b3 b4) (oc h0 on) (c107_9 g0 _ _ _ _ _ _ h)
theorem c107_e {N : Nat} {q0 : Val → Val → Bool → Option (Bool)} (g0 : G107 q0) : ∀ a0 a1 a2 r, xFh N q0 a0 a1 a2 = some r → RE Try.f107 I107 (xBO a0 a1 a2) (xA6 r) := fun a0 a1 a2 r h =>
 cE h (fun h0 h => dE h xIC (p107_e_8 a0 a1 a2) (oc h0 (oc rfl (oc rfl (oc rfl (oc rfl (oc rfl (oc rfl on)))))))) fun h0 h =>
 cE h (fun h1 h => dE h xIC (p107_e_9 a0 a1 a2) (oc h0 (oc h1 (oc rfl (oc rfl (oc rfl (oc rfl (oc rfl on)))))))) fun h1 h =>
 cE h (fun h2 h => dE h xIC (p107_e_10 a0 a1 a2) (oc h0 (oc h1 (oc h2 (oc rfl (oc rfl (oc rfl (oc rfl on)))))))) fun h2 h =>
 cE h (fun h3 h => dE h xIC (p107_e_11 a0 a1 a2) (oc h0 (oc h1 (oc h2 (oc h3 (oc rfl (oc rfl (oc rfl on)))))))) fun h3 h =>
 cE h (fun h4 h => dE h xIC (p107_e_12 a0 a1 a2) (oc h0 (oc h1 (oc h2 (oc h3 (oc h4 (oc rfl (oc rfl on)))))))) fun h4 h =>
 bE h fun r1 h5 h => cE h (fun h6 h => dE h xIC (p107_e_13 a0 a1 a2 r1) (oc h0 (oc h1 (oc h2 (oc h3 (oc h4 (oc (xHL h5) (oc h6 (oc rfl on))))))))) fun h6 h =>
 cE h (fun h7 h => dE h xIC (p107_e_14 a0 a1 a2 r1) (oc h0 (oc h1 (oc h2 (oc h3 (oc h4 (oc (xHL h5) (oc h6 (oc h7 on))))))))) fun h7 h =>
 tE xIC (p107_e_15 a0 a1 a2 r1) (oc h0 (oc h1 (oc h2 (oc h3 (oc h4 (oc (xHL h5) (oc h6 (oc h7 on)))))))) (c107_4 g0 _ _ _ _ _ _ h)
theorem xJr {N : Nat} {q0 : Val → Val → Bool → Option (Bool)} (g0 : G107 q0) {a0 : Val} {a1 : Val} {a2 : Bool} {r : Bool} (h : xFh N q0 a0 a1 a2 = some r) : AbC 107 (xBO a0 a1 a2) (xA6 r) :=
 AbsCalls.of_reach xIC rfl rfl (Nat.le_of_ble_eq_true rfl) (c107_e g0 a0 a1 a2 r h)
theorem xHW {N : Nat} : ∀ d, G107 (xCb N d)
 | 0 => fun _ _ _ _ h => nE h
 | d + 1 => fun _ _ _ _ h => xJr (N := N) (xHW d) h
theorem spec_l3Same_ok {N : Nat} {a0 : Val} {a1 : Val} {a2 : Bool} {r : Bool} (h : xJq N a0 a1 a2 = some r) : AbC 107 (xBO a0 a1 a2) (xA6 r) := xHW N _ _ _ r h
noncomputable def I60 : Info := { body := (Try.f60.body).getD .skip, nt := 8, results := [.tmp 4], keep := [0, 2, 4, 6, 8, 5, 7], live := [], modes := [] }
theorem fk60 : FnOk Try.prog 60 Try.f60 I60 := ⟨Try.func60, by kernel_rfl, by kernel_rfl, by kernel_rfl, by kernel_rfl⟩
theorem p60_e_0 (a0 a1 : Val) (r1 : Bool) : rE I60 (xEy a0 a1) [] [xA6 r1] = dn (xCX r1) [AbC 107 (xBO a0 a1 false) (xA6 r1)] := by kernel_rfl
theorem c60_e {N : Nat} : ∀ a0 a1 r, xEd N a0 a1 = some r → RE Try.f60 I60 (xEy a0 a1) (xCX r) := fun a0 a1 r h =>
 bE h fun r1 h0 h => dE h fk60 (p60_e_0 a0 a1 r1) (oc (spec_l3Same_ok h0) on)
theorem xHS {N : Nat} {a0 : Val} {a1 : Val} {r : Bool} (h : xEd N  a0 a1 = some r) : AbC 60 (xEy a0 a1) (xCX r) :=
 AbsCalls.of_reach fk60 rfl rfl (Nat.le_of_ble_eq_true rfl) (c60_e a0 a1 r h)
noncomputable def I11 : Info := { body := (Try.f11.body).getD .skip, nt := 71, results := [.cell 6 31], keep := [0, 2, 4, 8, 10, 12, 14, 16, 18, 34, 54, 66, 78, 92, 116, 9, 11, 13, 15], live := [], modes := [(1, [(4, .take, false)]), (2, [(0, .take, false)]), (3, [(0, .take, false)]), (4, [(3, .take, false)]), (11, [(2, .take, false)]), (13, [(2, .take, false)])] }
theorem fk11 : FnOk Try.prog 11 Try.f11 I11 := ⟨Try.func11, by kernel_rfl, by kernel_rfl, by kernel_rfl, by kernel_rfl⟩
theorem p11_e_0 (a0 : Int) (a1 a2 : Val) (r1 : Val × Bool) : rE I11 (xAz a0 a1 a2) [Y] [xAR r1] = dn (xAk r1.1) [AbC 56 (xBn [(Val.re a1), (Val.re a2)]) (xAR r1), r1.2 = true] := by kernel_rfl
theorem p11_e_1 (a0 : Int) (a1 a2 : Val) (r1 : Val × Bool) (r2 : Val) : rE I11 (xAz a0 a1 a2) [F, Y, Y] [xAR r1, xB6 r2] = dn (xAk r2) [AbC 56 (xBn [(Val.re a1), (Val.re a2)]) (xAR r1), r1.2 = false, (((Val.kind a1) : Int) == 1) = true, ((a0 : Int) == 1) = true, AbC 57 (xCq a1 a2) (xB6 r2)] := by kernel_rfl
theorem p11_e_2 (a0 : Int) (a1 a2 : Val) (r1 : Val × Bool) (r2 : Val) : rE I11 (xAz a0 a1 a2) [F, Y, F, Y] [xAR r1, xCy r2] = dn (xAk r2) [AbC 56 (xBn [(Val.re a1), (Val.re a2)]) (xAR r1), r1.2 = false, (((Val.kind a1) : Int) == 1) = true, ((a0 : Int) == 1) = false, ((a0 : Int) == 4) = true, AbC 58 (xDt a1 a2) (xCy r2)] := by kernel_rfl
theorem p11_e_3 (a0 : Int) (a1 a2 : Val) (r1 : Val × Bool) (r2 : Bool) (r3 : Val) : rE I11 (xAz a0 a1 a2) [F, Y, F, F, Y] [xAR r1, xCX r2, xBB r3] = dn (xAk r3) [AbC 56 (xBn [(Val.re a1), (Val.re a2)]) (xAR r1), r1.2 = false, (((Val.kind a1) : Int) == 1) = true, ((a0 : Int) == 1) = false, ((a0 : Int) == 4) = false, ((a0 : Int) == 5) = true, AbC 60 (xEy a1 a2) (xCX r2), AbC 59 (xCt r2) (xBB r3)] := by kernel_rfl
theorem p11_e_4 (a0 : Int) (a1 a2 : Val) (r1 : Val × Bool) (r2 : Val) : rE I11 (xAz a0 a1 a2) [F, Y, F, F, F, Y, Y] [xAR r1, xBv r2] = dn (xAk r2) [AbC 56 (xBn [(Val.re a1), (Val.re a2)]) (xAR r1), r1.2 = false, (((Val.kind a1) : Int) == 1) = true, ((a0 : Int) == 1) = false, ((a0 : Int) == 4) = false, ((a0 : Int) == 5) = false, ((a0 : Int) == 2) = true, (((Val.kind a2) : Int) == 1) = true, AbC 61 (xCl (W ((Val.n a1) - (Val.n a2)))) (xBv r2)] := by kernel_rfl
theorem p11_e_5 (a0 : Int) (a1 a2 : Val) (r1 : Val × Bool) (r2 : Val) : rE I11 (xAz a0 a1 a2) [F, Y, F, F, F, Y, F, F, F] [xAR r1, xAJ r2] = dn (xAk r2) [AbC 56 (xBn [(Val.re a1), (Val.re a2)]) (xAR r1), r1.2 = false, (((Val.kind a1) : Int) == 1) = true, ((a0 : Int) == 1) = false, ((a0 : Int) == 4) = false, ((a0 : Int) == 5) = false, ((a0 : Int) == 2) = true, (((Val.kind a2) : Int) == 1) = false, ((a0 : Int) == 3) = false, false = false, AbC 44 (xAX 4) (xAJ r2)] := by kernel_rfl
theorem p11_e_6 (a0 : Int) (a1 a2 : Val) (r1 : Val × Bool) (r2 : Val) : rE I11 (xAz a0 a1 a2) [F, Y, F, F, F, F, F, Y, Y] [xAR r1, xBv r2] = dn (xAk r2) [AbC 56 (xBn [(Val.re a1), (Val.re a2)]) (xAR r1), r1.2 = false, (((Val.kind a1) : Int) == 1) = true, ((a0 : Int) == 1) = false, ((a0 : Int) == 4) = false, ((a0 : Int) == 5) = false, ((a0 : Int) == 2) = false, false = false, ((a0 : Int) == 3) = true, (((Val.kind a2) : Int) == 1) = true, AbC 61 (xCl (W ((Val.n a1) * (Val.n a2)))) (xBv r2)] := by kernel_rfl
theorem p11_e_7 (a0 : Int) (a1 a2 : Val) (r1 : Val × Bool) (r2 : Val) : rE I11 (xAz a0 a1 a2) [F, Y, F, F, F, F, F, Y, F] [xAR r1, xAJ r2] = dn (xAk r2) [AbC 56 (xBn [(Val.re a1), (Val.re a2)]) (xAR r1), r1.2 = false, (((Val.kind a1) : Int) == 1) = true, ((a0 : Int) == 1) = false, ((a0 : Int) == 4) = false, ((a0 : Int) == 5) = false, ((a0 : Int) == 2) = false, false = false, ((a0 : Int) == 3) = true, (((Val.kind a2) : Int) == 1) = false, AbC 44 (xAX 4) (xAJ r2)] := by kernel_rfl
theorem p11_e_8 (a0 : Int) (a1 a2 : Val) (r1 : Val × Bool) (r2 : Val) : rE I11 (xAz a0 a1 a2) [F, Y, F, F, F, F, F, F, F] [xAR r1, xAJ r2] = dn (xAk r2) [AbC 56 (xBn [(Val.re a1), (Val.re a2)]) (xAR r1), r1.2 = false, (((Val.kind a1) : Int) == 1) = true, ((a0 : Int) == 1) = false, ((a0 : Int) == 4) = false, ((a0 : Int) == 5) = false, ((a0 : Int) == 2) = false, false = false, ((a0 : Int) == 3) = false, false = false, AbC 44 (xAX 4) (xAJ r2)] := by kernel_rfl
theorem p11_e_9 (a0 : Int) (a1 a2 : Val) (r1 : Val × Bool) (r2 : Val) : rE I11 (xAz a0 a1 a2) [F, F, Y] [xAR r1, xB6 r2] = dn (xAk r2) [AbC 56 (xBn [(Val.re a1), (Val.re a2)]) (xAR r1), r1.2 = false, (((Val.kind a1) : Int) == 1) = false, ((a0 : Int) == 1) = true, AbC 57 (xCq a1 a2) (xB6 r2)] := by kernel_rfl
theorem p11_e_10 (a0 : Int) (a1 a2 : Val) (r1 : Val × Bool) (r2 : Val) : rE I11 (xAz a0 a1 a2) [F, F, F, Y] [xAR r1, xCy r2] = dn (xAk r2) [AbC 56 (xBn [(Val.re a1), (Val.re a2)]) (xAR r1), r1.2 = false, (((Val.kind a1) : Int) == 1) = false, ((a0 : Int) == 1) = false, ((a0 : Int) == 4) = true, AbC 58 (xDt a1 a2) (xCy r2)] := by kernel_rfl
theorem p11_e_11 (a0 : Int) (a1 a2 : Val) (r1 : Val × Bool) (r2 : Bool) (r3 : Val) : rE I11 (xAz a0 a1 a2) [F, F, F, F, Y] [xAR r1, xCX r2, xBB r3] = dn (xAk r3) [AbC 56 (xBn [(Val.re a1), (Val.re a2)]) (xAR r1), r1.2 = false, (((Val.kind a1) : Int) == 1) = false, ((a0 : Int) == 1) = false, ((a0 : Int) == 4) = false, ((a0 : Int) == 5) = true, AbC 60 (xEy a1 a2) (xCX r2), AbC 59 (xCt r2) (xBB r3)] := by kernel_rfl
theorem p11_e_12 (a0 : Int) (a1 a2 : Val) (r1 : Val × Bool) (r2 : Val) : rE I11 (xAz a0 a1 a2) [F, F, F, F, F, Y, F, F, F] [xAR r1, xAJ r2] = dn (xAk r2) [AbC 56 (xBn [(Val.re a1), (Val.re a2)]) (xAR r1), r1.2 = false, (((Val.kind a1) : Int) == 1) = false, ((a0 : Int) == 1) = false, ((a0 : Int) == 4) = false, ((a0 : Int) == 5) = false, ((a0 : Int) == 2) = true, false = false, ((a0 : Int) == 3) = false, false = false, AbC 44 (xAX 4) (xAJ r2)] := by kernel_rfl
theorem p11_e_13 (a0 : Int) (a1 a2 : Val) (r1 : Val × Bool) (r2 : Val) : rE I11 (xAz a0 a1 a2) [F, F, F, F, F, F, F, Y, F] [xAR r1, xAJ r2] = dn (xAk r2) [AbC 56 (xBn [(Val.re a1), (Val.re a2)]) (xAR r1), r1.2 = false, (((Val.kind a1) : Int) == 1) = false, ((a0 : Int) == 1) = false, ((a0 : Int) == 4) = false, ((a0 : Int) == 5) = false, ((a0 : Int) == 2) = false, false = false, ((a0 : Int) == 3) = true, false = false, AbC 44 (xAX 4) (xAJ r2)] := by kernel_rfl
theorem p11_e_14 (a0 : Int) (a1 a2 : Val) (r1 : Val × Bool) (r2 : Val) : rE I11 (xAz a0 a1 a2) [F, F, F, F, F, F, F, F, F] [xAR r1, xAJ r2] = dn (xAk r2) [AbC 56 (xBn [(Val.re a1), (Val.re a2)]) (xAR r1), r1.2 = false, (((Val.kind a1) : Int) == 1) = false, ((a0 : Int) == 1) = false, ((a0 : Int) == 4) = false, ((a0 : Int) == 5) = false, ((a0 : Int) == 2) = false, false = false, ((a0 : Int) == 3) = false, false = false, AbC 44 (xAX 4) (xAJ r2)] := by kernel_rfl
theorem c11_e {N : Nat} : ∀ a0 a1 a2 r, xCV N a0 a1 a2 = some r → RE Try.f11 I11 (xAz a0 a1 a2) (xAk r) := fun a0 a1 a2 r h =>
 bE h fun r1 h0 h => cE h (fun h1 h => dE h fk11 (p11_e_0 a0 a1 a2 r1) (oc (xBE h0) (oc h1 on))) fun h1 h =>
 cE h (fun h2 h => cE h (fun h3 h => bE h fun r2 h4 h => dE h fk11 (p11_e_1 a0 a1 a2 r1 r2) (oc (xBE h0) (oc h1 (oc h2 (oc h3 (oc (spec_l5Add_ok h4) on)))))) fun h3 h =>
 cE h (fun h4 h => bE h fun r2 h5 h => dE h fk11 (p11_e_2 a0 a1 a2 r1 r2) (oc (xBE h0) (oc h1 (oc h2 (oc h3 (oc h4 (oc (xI6 h5) on))))))) fun h4 h =>
 cE h (fun h5 h => bE h fun r2 h6 h => bE h fun r3 h7 h => dE h fk11 (p11_e_3 a0 a1 a2 r1 r2 r3) (oc (xBE h0) (oc h1 (oc h2 (oc h3 (oc h4 (oc h5 (oc (xHS h6) (oc (xFx h7) on))))))))) fun h5 h =>
 cE h (fun h6 h => cE h (fun h7 h => bE h fun r2 h8 h => dE h fk11 (p11_e_4 a0 a1 a2 r1 r2) (oc (xBE h0) (oc h1 (oc h2 (oc h3 (oc h4 (oc h5 (oc h6 (oc h7 (oc (xFJ h8) on)))))))))) fun h7 h =>
 bE h fun r2 h10 h => dE h fk11 (p11_e_5 a0 a1 a2 r1 r2) (oc (xBE h0) (oc h1 (oc h2 (oc h3 (oc h4 (oc h5 (oc h6 (oc h7 (oc (eq_ne h6 rfl) (oc rfl (oc (xA5 h10) on)))))))))))) fun h6 h =>
 cE h (fun h8 h => cE h (fun h9 h => bE h fun r2 h10 h => dE h fk11 (p11_e_6 a0 a1 a2 r1 r2) (oc (xBE h0) (oc h1 (oc h2 (oc h3 (oc h4 (oc h5 (oc h6 (oc rfl (oc h8 (oc h9 (oc (xFJ h10) on)))))))))))) fun h9 h =>
 bE h fun r2 h10 h => dE h fk11 (p11_e_7 a0 a1 a2 r1 r2) (oc (xBE h0) (oc h1 (oc h2 (oc h3 (oc h4 (oc h5 (oc h6 (oc rfl (oc h8 (oc h9 (oc (xA5 h10) on)))))))))))) fun h8 h =>
 bE h fun r2 h10 h => dE h fk11 (p11_e_8 a0 a1 a2 r1 r2) (oc (xBE h0) (oc h1 (oc h2 (oc h3 (oc h4 (oc h5 (oc h6 (oc rfl (oc h8 (oc rfl (oc (xA5 h10) on)))))))))))) fun h2 h =>
 cE h (fun h3 h => bE h fun r2 h4 h => dE h fk11 (p11_e_9 a0 a1 a2 r1 r2) (oc (xBE h0) (oc h1 (oc h2 (oc h3 (oc (spec_l5Add_ok h4) on)))))) fun h3 h =>
 cE h (fun h4 h => bE h fun r2 h5 h => dE h fk11 (p11_e_10 a0 a1 a2 r1 r2) (oc (xBE h0) (oc h1 (oc h2 (oc h3 (oc h4 (oc (xI6 h5) on))))))) fun h4 h =>
 cE h (fun h5 h => bE h fun r2 h6 h => bE h fun r3 h7 h => dE h fk11 (p11_e_11 a0 a1 a2 r1 r2 r3) (oc (xBE h0) (oc h1 (oc h2 (oc h3 (oc h4 (oc h5 (oc (xHS h6) (oc (xFx h7) on))))))))) fun h5 h =>
 cE h (fun h6 h => bE h fun r2 h10 h => dE h fk11 (p11_e_12 a0 a1 a2 r1 r2) (oc (xBE h0) (oc h1 (oc h2 (oc h3 (oc h4 (oc h5 (oc h6 (oc rfl (oc (eq_ne h6 rfl) (oc rfl (oc (xA5 h10) on)))))))))))) fun h6 h =>
 cE h (fun h8 h => bE h fun r2 h10 h => dE h fk11 (p11_e_13 a0 a1 a2 r1 r2) (oc (xBE h0) (oc h1 (oc h2 (oc h3 (oc h4 (oc h5 (oc h6 (oc rfl (oc h8 (oc rfl (oc (xA5 h10) on)))))))))))) fun h8 h =>
 bE h fun r2 h10 h => dE h fk11 (p11_e_14 a0 a1 a2 r1 r2) (oc (xBE h0) (oc h1 (oc h2 (oc h3 (oc h4 (oc h5 (oc h6 (oc rfl (oc h8 (oc rfl (oc (xA5 h10) on)))))))))))
theorem xAK {N : Nat} {a0 : Int} {a1 : Val} {a2 : Val} {r : Val} (h : xCV N  a0 a1 a2 = some r) : AbC 11 (xAz a0 a1 a2) (xAk r) :=
 AbsCalls.of_reach fk11 rfl rfl (Nat.le_of_ble_eq_true rfl) (c11_e a0 a1 a2 r h)
noncomputable def I101 : Info := { body := (Try.f101.body).getD .skip, nt := 15, results := [.tmp 6], keep := [0, 2, 4, 12], live := [], modes := [(1, [(3, .take, false)])] }
theorem fk101 : FnOk Try.prog 101 Try.f101 I101 := ⟨Try.func101, by kernel_rfl, by kernel_rfl, by kernel_rfl, by kernel_rfl⟩
theorem p101_e_0 (a0 a1 a2 : Int) : rE I101 (xDr a0 a1 a2) [Y] [] = dn (xBW (decide ((a0 : Int) ≤ a2))) [(decide ((a1 : Int) ≤ a0)) = true] := by kernel_rfl
theorem p101_e_1 (a0 a1 a2 : Int) : rE I101 (xDr a0 a1 a2) [F] [] = dn (xBW false) [(decide ((a1 : Int) ≤ a0)) = false] := by kernel_rfl
theorem c101_e {N : Nat} : ∀ a0 a1 a2 r, xFH N a0 a1 a2 = some r → RE Try.f101 I101 (xDr a0 a1 a2) (xBW r) := fun a0 a1 a2 r h =>
 cE h (fun h0 h => dE h fk101 (p101_e_0 a0 a1 a2) (oc h0 on)) fun h0 h =>
 dE h fk101 (p101_e_1 a0 a1 a2) (oc h0 on)
theorem xF3 {N : Nat} {a0 : Int} {a1 : Int} {a2 : Int} {r : Bool} (h : xFH N  a0 a1 a2 = some r) : AbC 101 (xDr a0 a1 a2) (xBW r) :=
 AbsCalls.of_reach fk101 rfl rfl (Nat.le_of_ble_eq_true rfl) (c101_e a0 a1 a2 r h)
noncomputable def I90 : Info := { body := (Try.f90.body).getD .skip, nt := 5, results := [.tmp 2], keep := [0, 4], live := [], modes := [] }
theorem fk90 : FnOk Try.prog 90 Try.f90 I90 := ⟨Try.func90, by kernel_rfl, by kernel_rfl, by kernel_rfl, by kernel_rfl⟩
theorem p90_e_0 (a0 : Int) (r1 : Bool) : rE I90 (xB7 a0) [] [xBW r1] = dn (xA7 r1) [AbC 101 (xDr a0 (-1000000000) 1000000000) (xBW r1)] := by kernel_rfl
theorem c90_e {N : Nat} : ∀ a0 r, xDK N a0 = some r → RE Try.f90 I90 (xB7 a0) (xA7 r) := fun a0 r h =>
 bE h fun r1 h0 h => dE h fk90 (p90_e_0 a0 r1) (oc (xF3 h0) on)
theorem xC1 {N : Nat} {a0 : Int} {r : Bool} (h : xDK N  a0 = some r) : AbC 90 (xB7 a0) (xA7 r) :=
 AbsCalls.of_reach fk90 rfl rfl (Nat.le_of_ble_eq_true rfl) (c90_e a0 r h)
noncomputable def I166 : Info := { body := (Try.f166.body).getD .skip, nt := 29, results := [.tmp 2], keep := [0, 4, 6, 14, 50], live := [(2, [0, 6])], modes := [(4, [(4, .take, false), (10, .take, false)])] }
theorem fk166 : FnOk Try.prog 166 Try.f166 I166 := ⟨Try.func166, by kernel_rfl, by kernel_rfl, by kernel_rfl, by kernel_rfl⟩
def S166_2 (x0 : Str) (x3 : Int) : St := [(0, .v false [.str x0]), (6, .v false [.int .i64 x3])]
theorem p166_2_0 (x0 : Str) (x3 : Int) : rS 2 I166 (S166_2 x0 x3) [Y, Y, Y, Y] [] = dn (xBZ false) [(decide ((x3 : Int) < (Ln x0 : Int))) = true, (0 : Int) ≤ x3 ∧ x3 < (Ln x0), (decide ((((gD x0 (tN x3) 0).toNat : Int) : Int) < 32)) = true, true = true, true = true] := by kernel_rfl
theorem p166_2_1 (x0 : Str) (x3 : Int) : rS 2 I166 (S166_2 x0 x3) [Y, F, Y, Y] [] = dn (xBZ false) [(decide ((x3 : Int) < (Ln x0 : Int))) = true, (0 : Int) ≤ x3 ∧ x3 < (Ln x0), (decide ((((gD x0 (tN x3) 0).toNat : Int) : Int) < 32)) = false, (0 : Int) ≤ x3 ∧ x3 < (Ln x0), (decide ((((gD x0 (tN x3) 0).toNat : Int) : Int) > 126)) = true, true = true] := by kernel_rfl
theorem p166_2_2 (x0 : Str) (x3 : Int) : rS 2 I166 (S166_2 x0 x3) [Y, F, F, Y] [] = dn (xBZ false) [(decide ((x3 : Int) < (Ln x0 : Int))) = true, (0 : Int) ≤ x3 ∧ x3 < (Ln x0), (decide ((((gD x0 (tN x3) 0).toNat : Int) : Int) < 32)) = false, (0 : Int) ≤ x3 ∧ x3 < (Ln x0), (decide ((((gD x0 (tN x3) 0).toNat : Int) : Int) > 126)) = false, (0 : Int) ≤ x3 ∧ x3 < (Ln x0), ((((gD x0 (tN x3) 0).toNat : Int) : Int) == 34) = true] := by kernel_rfl
theorem p166_2_3 (x0 : Str) (x3 : Int) : rS 2 I166 (S166_2 x0 x3) [Y, F, F, F] [] = st 2 I166 (S166_2 x0 (W (x3 + 1))) [(decide ((x3 : Int) < (Ln x0 : Int))) = true, (0 : Int) ≤ x3 ∧ x3 < (Ln x0), (decide ((((gD x0 (tN x3) 0).toNat : Int) : Int) < 32)) = false, (0 : Int) ≤ x3 ∧ x3 < (Ln x0), (decide ((((gD x0 (tN x3) 0).toNat : Int) : Int) > 126)) = false, (0 : Int) ≤ x3 ∧ x3 < (Ln x0), ((((gD x0 (tN x3) 0).toNat : Int) : Int) == 34) = false] := by kernel_rfl
theorem p166_2_4 (x0 : Str) (x3 : Int) : rS 2 I166 (S166_2 x0 x3) [F] [] = dn (xBZ (decide (((Ln x0 : Int) : Int) ≤ 20))) [(decide ((x3 : Int) < (Ln x0 : Int))) = false] := by kernel_rfl
theorem p166_e_5 (a0 : Str) : rE I166 (xE0 a0) [] [] = st 2 I166 (S166_2 a0 0) [] := by kernel_rfl
theorem c166_2 {N : Nat} : ∀ n x0 x3 r, xD4 N n x0 x3 = some r → RS Try.f166 I166 2 (S166_2 x0 x3) (xBZ r) := by
 intro n
 induction n with
 | zero => exact fun _ _ _ h => nE h
 | succ n ih =>
  exact fun x0 x3 r h =>
   cE h (fun h0 h => iE h fun h1 h => cE h (fun h2 h => dS h fk166 (p166_2_0 x0 x3) (oc h0 (oc h1 (oc h2 (oc rfl (oc rfl on)))))) fun h2 h =>
   cE h (fun h4 h => dS h fk166 (p166_2_1 x0 x3) (oc h0 (oc h1 (oc h2 (oc h1 (oc h4 (oc rfl on))))))) fun h4 h =>
   cE h (fun h6 h => dS h fk166 (p166_2_2 x0 x3) (oc h0 (oc h1 (oc h2 (oc h1 (oc h4 (oc h1 (oc h6 on)))))))) fun h6 h =>
   tS fk166 (p166_2_3 x0 x3) (oc h0 (oc h1 (oc h2 (oc h1 (oc h4 (oc h1 (oc h6 on))))))) (ih _ _ _ h)) fun h0 h =>
   dS h fk166 (p166_2_4 x0 x3) (oc h0 on)
theorem c166_e {N : Nat} : ∀ a0 r, xGa N a0 = some r → RE Try.f166 I166 (xE0 a0) (xBZ r) := fun a0 r h =>
 tE fk166 (p166_e_5 a0) on (c166_2 _ _ _ _ h)
theorem xJc {N : Nat} {a0 : Str} {r : Bool} (h : xGa N  a0 = some r) : AbC 166 (xE0 a0) (xBZ r) :=
 AbsCalls.of_reach fk166 rfl rfl (Nat.le_of_ble_eq_true rfl) (c166_e a0 r h)
noncomputable def I141 : Info := { body := (Try.f141.body).getD .skip, nt := 42, results := [.tmp 2], keep := [0, 4, 6, 8, 16, 76], live := [(2, [0, 6])], modes := [(4, [(4, .take, false)]), (5, [(0, .take, false), (2, .take, false), (5, .take, false), (11, .take, false)])] }
theorem fk141 : FnOk Try.prog 141 Try.f141 I141 := ⟨Try.func141, by kernel_rfl, by kernel_rfl, by kernel_rfl, by kernel_rfl⟩
def xHt (x0 : Str) (x3 : Int) : St := [(0, .v false [.str x0]), (6, .v false [.int .i64 x3])]
theorem p141_2_0 (x0 : Str) (x3 : Int) : rS 2 I141 (xHt x0 x3) [Y, Y, Y, Y, Y, Y] [] = dn (xBV false) [(decide ((x3 : Int) < (Ln x0 : Int))) = true, (0 : Int) ≤ x3 ∧ x3 < (Ln x0), (decide ((((gD x0 (tN x3) 0).toNat : Int) : Int) ≥ 97)) = true, (0 : Int) ≤ x3 ∧ x3 < (Ln x0), (!(decide ((((gD x0 (tN x3) 0).toNat : Int) : Int) ≤ 122))) = true, ((x3 : Int) == 0) = true, true = true, true = true] := by kernel_rfl
theorem p141_2_1 (x0 : Str) (x3 : Int) : rS 2 I141 (xHt x0 x3) [Y, Y, Y, F, Y, Y] [] = dn (xBV false) [(decide ((x3 : Int) < (Ln x0 : Int))) = true, (0 : Int) ≤ x3 ∧ x3 < (Ln x0), (decide ((((gD x0 (tN x3) 0).toNat : Int) : Int) ≥ 97)) = true, (0 : Int) ≤ x3 ∧ x3 < (Ln x0), (!(decide ((((gD x0 (tN x3) 0).toNat : Int) : Int) ≤ 122))) = true, ((x3 : Int) == 0) = false, (0 : Int) ≤ x3 ∧ x3 < (Ln x0), (decide ((((gD x0 (tN x3) 0).toNat : Int) : Int) < 48)) = true, true = true] := by kernel_rfl
theorem p141_2_2 (x0 : Str) (x3 : Int) : rS 2 I141 (xHt x0 x3) [Y, Y, Y, F, F, Y] [] = dn (xBV false) [(decide ((x3 : Int) < (Ln x0 : Int))) = true, (0 : Int) ≤ x3 ∧ x3 < (Ln x0), (decide ((((gD x0 (tN x3) 0).toNat : Int) : Int) ≥ 97)) = true, (0 : Int) ≤ x3 ∧ x3 < (Ln x0), (!(decide ((((gD x0 (tN x3) 0).toNat : Int) : Int) ≤ 122))) = true, ((x3 : Int) == 0) = false, (0 : Int) ≤ x3 ∧ x3 < (Ln x0), (decide ((((gD x0 (tN x3) 0).toNat : Int) : Int) < 48)) = false, (0 : Int) ≤ x3 ∧ x3 < (Ln x0), (decide ((((gD x0 (tN x3) 0).toNat : Int) : Int) > 57)) = true] := by kernel_rfl
theorem p141_2_3 (x0 : Str) (x3 : Int) : rS 2 I141 (xHt x0 x3) [Y, Y, Y, F, F, F] [] = st 2 I141 (xHt x0 (W (x3 + 1))) [(decide ((x3 : Int) < (Ln x0 : Int))) = true, (0 : Int) ≤ x3 ∧ x3 < (Ln x0), (decide ((((gD x0 (tN x3) 0).toNat : Int) : Int) ≥ 97)) = true, (0 : Int) ≤ x3 ∧ x3 < (Ln x0), (!(decide ((((gD x0 (tN x3) 0).toNat : Int) : Int) ≤ 122))) = true, ((x3 : Int) == 0) = false, (0 : Int) ≤ x3 ∧ x3 < (Ln x0), (decide ((((gD x0 (tN x3) 0).toNat : Int) : Int) < 48)) = false, (0 : Int) ≤ x3 ∧ x3 < (Ln x0), (decide ((((gD x0 (tN x3) 0).toNat : Int) : Int) > 57)) = false] := by kernel_rfl
theorem p141_2_4 (x0 : Str) (x3 : Int) : rS 2 I141 (xHt x0 x3) [Y, Y, F, F] [] = st 2 I141 (xHt x0 (W (x3 + 1))) [(decide ((x3 : Int) < (Ln x0 : Int))) = true, (0 : Int) ≤ x3 ∧ x3 < (Ln x0), (decide ((((gD x0 (tN x3) 0).toNat : Int) : Int) ≥ 97)) = true, (0 : Int) ≤ x3 ∧ x3 < (Ln x0), (!(decide ((((gD x0 (tN x3) 0).toNat : Int) : Int) ≤ 122))) = false, false = false] := by kernel_rfl
theorem p141_2_5 (x0 : Str) (x3 : Int) : rS 2 I141 (xHt x0 x3) [Y, F, Y, Y, Y, Y] [] = dn (xBV false) [(decide ((x3 : Int) < (Ln x0 : Int))) = true, (0 : Int) ≤ x3 ∧ x3 < (Ln x0), (decide ((((gD x0 (tN x3) 0).toNat : Int) : Int) ≥ 97)) = false, (!false) = true, ((x3 : Int) == 0) = true, true = true, true = true] := by kernel_rfl
theorem p141_2_6 (x0 : Str) (x3 : Int) : rS 2 I141 (xHt x0 x3) [Y, F, Y, F, Y, Y] [] = dn (xBV false) [(decide ((x3 : Int) < (Ln x0 : Int))) = true, (0 : Int) ≤ x3 ∧ x3 < (Ln x0), (decide ((((gD x0 (tN x3) 0).toNat : Int) : Int) ≥ 97)) = false, (!false) = true, ((x3 : Int) == 0) = false, (0 : Int) ≤ x3 ∧ x3 < (Ln x0), (decide ((((gD x0 (tN x3) 0).toNat : Int) : Int) < 48)) = true, true = true] := by kernel_rfl
theorem p141_2_7 (x0 : Str) (x3 : Int) : rS 2 I141 (xHt x0 x3) [Y, F, Y, F, F, Y] [] = dn (xBV false) [(decide ((x3 : Int) < (Ln x0 : Int))) = true, (0 : Int) ≤ x3 ∧ x3 < (Ln x0), (decide ((((gD x0 (tN x3) 0).toNat : Int) : Int) ≥ 97)) = false, (!false) = true, ((x3 : Int) == 0) = false, (0 : Int) ≤ x3 ∧ x3 < (Ln x0), (decide ((((gD x0 (tN x3) 0).toNat : Int) : Int) < 48)) = false, (0 : Int) ≤ x3 ∧ x3 < (Ln x0), (decide ((((gD x0 (tN x3) 0).toNat : Int) : Int) > 57)) = true] := by kernel_rfl
theorem p141_2_8 (x0 : Str) (x3 : Int) : rS 2 I141 (xHt x0 x3) [Y, F, Y, F, F, F] [] = st 2 I141 (xHt x0 (W (x3 + 1))) [(decide ((x3 : Int) < (Ln x0 : Int))) = true, (0 : Int) ≤ x3 ∧ x3 < (Ln x0), (decide ((((gD x0 (tN x3) 0).toNat : Int) : Int) ≥ 97)) = false, (!false) = true, ((x3 : Int) == 0) = false, (0 : Int) ≤ x3 ∧ x3 < (Ln x0), (decide ((((gD x0 (tN x3) 0).toNat : Int) : Int) < 48)) = false, (0 : Int) ≤ x3 ∧ x3 < (Ln x0), (decide ((((gD x0 (tN x3) 0).toNat : Int) : Int) > 57)) = false] := by kernel_rfl
theorem p141_2_9 (x0 : Str) (x3 : Int) (r1 : Bool) : rS 2 I141 (xHt x0 x3) [F] [xBW r1] = dn (xBV r1) [(decide ((x3 : Int) < (Ln x0 : Int))) = false, AbC 101 (xDr (Ln x0 : Int) 1 8) (xBW r1)] := by kernel_rfl
theorem p141_e_10 (a0 : Str) : rE I141 (xF2 a0) [] [] = st 2 I141 (xHt a0 0) [] := by kernel_rfl
theorem c141_2 {N : Nat} : ∀ n x0 x3 r, xDq N n x0 x3 = some r → RS Try.f141 I141 2 (xHt x0 x3) (xBV r) := by
 intro n
 induction n with
 | zero => exact fun _ _ _ h => nE h
 | succ n ih =>
  exact fun x0 x3 r h =>
   cE h (fun h0 h => iE h fun h1 h => cE h (fun h2 h => cE h (fun h4 h => cE h (fun h5 h => dS h fk141 (p141_2_0 x0 x3) (oc h0 (oc h1 (oc h2 (oc h1 (oc h4 (oc h5 (oc rfl (oc rfl on))))))))) fun h5 h =>
   cE h (fun h7 h => dS h fk141 (p141_2_1 x0 x3) (oc h0 (oc h1 (oc h2 (oc h1 (oc h4 (oc h5 (oc h1 (oc h7 (oc rfl on)))))))))) fun h7 h =>
   cE h (fun h9 h => dS h fk141 (p141_2_2 x0 x3) (oc h0 (oc h1 (oc h2 (oc h1 (oc h4 (oc h5 (oc h1 (oc h7 (oc h1 (oc h9 on))))))))))) fun h9 h =>
   tS fk141 (p141_2_3 x0 x3) (oc h0 (oc h1 (oc h2 (oc h1 (oc h4 (oc h5 (oc h1 (oc h7 (oc h1 (oc h9 on)))))))))) (ih _ _ _ h)) fun h4 h =>
   tS fk141 (p141_2_4 x0 x3) (oc h0 (oc h1 (oc h2 (oc h1 (oc h4 (oc rfl on)))))) (ih _ _ _ h)) fun h2 h =>
   cE h (fun h4 h => dS h fk141 (p141_2_5 x0 x3) (oc h0 (oc h1 (oc h2 (oc rfl (oc h4 (oc rfl (oc rfl on)))))))) fun h4 h =>
   cE h (fun h6 h => dS h fk141 (p141_2_6 x0 x3) (oc h0 (oc h1 (oc h2 (oc rfl (oc h4 (oc h1 (oc h6 (oc rfl on))))))))) fun h6 h =>
   cE h (fun h8 h => dS h fk141 (p141_2_7 x0 x3) (oc h0 (oc h1 (oc h2 (oc rfl (oc h4 (oc h1 (oc h6 (oc h1 (oc h8 on)))))))))) fun h8 h =>
   tS fk141 (p141_2_8 x0 x3) (oc h0 (oc h1 (oc h2 (oc rfl (oc h4 (oc h1 (oc h6 (oc h1 (oc h8 on))))))))) (ih _ _ _ h)) fun h0 h =>
   bE h fun r1 h1 h => dS h fk141 (p141_2_9 x0 x3 r1) (oc h0 (oc (xF3 h1) on))
theorem c141_e {N : Nat} : ∀ a0 r, xIl N a0 = some r → RE Try.f141 I141 (xF2 a0) (xBV r) := fun a0 r h =>
 tE fk141 (p141_e_10 a0) on (c141_2 _ _ _ _ h)
theorem xI3 {N : Nat} {a0 : Str} {r : Bool} (h : xIl N  a0 = some r) : AbC 141 (xF2 a0) (xBV r) :=
 AbsCalls.of_reach fk141 rfl rfl (Nat.le_of_ble_eq_true rfl) (c141_e a0 r h)
noncomputable def I176 : Info := { body := (Try.f176.body).getD .skip, nt := 26, results := [.tmp 2], keep := [0, 4, 6, 8, 12, 24, 40, 48], live := [], modes := [] }
theorem xIi : FnOk Try.prog 176 Try.f176 I176 := ⟨Try.func176, by kernel_rfl, by kernel_rfl, by kernel_rfl, by kernel_rfl⟩
theorem p176_e_0 (a0 : Str) : rE I176 (xAU a0) [Y] [] = dn (xAT 0) [((a0 : Str) == [99, 108, 111, 99, 107]) = true] := by kernel_rfl
theorem p176_e_1 (a0 : Str) : rE I176 (xAU a0) [F, Y, Y] [] = dn (xAT 1) [((a0 : Str) == [99, 108, 111, 99, 107]) = false, ((a0 : Str) == [108, 101, 110]) = true, ((a0 : Str) == [108, 101, 110]) = true] := by kernel_rfl
theorem p176_e_2 (a0 : Str) : rE I176 (xAU a0) [F, F, Y, Y] [] = dn (xAT 1) [((a0 : Str) == [99, 108, 111, 99, 107]) = false, ((a0 : Str) == [108, 101, 110]) = false, ((a0 : Str) == [115, 117, 109]) = true, ((a0 : Str) == [115, 117, 109]) = true] := by kernel_rfl
theorem p176_e_3 (a0 : Str) : rE I176 (xAU a0) [F, F, F, Y, Y] [] = dn (xAT 1) [((a0 : Str) == [99, 108, 111, 99, 107]) = false, ((a0 : Str) == [108, 101, 110]) = false, ((a0 : Str) == [115, 117, 109]) = false, ((a0 : Str) == [114, 111, 119, 115]) = true, ((a0 : Str) == [114, 111, 119, 115]) = true] := by kernel_rfl
theorem p176_e_4 (a0 : Str) : rE I176 (xAU a0) [F, F, F, F, Y, Y] [] = dn (xAT 1) [((a0 : Str) == [99, 108, 111, 99, 107]) = false, ((a0 : Str) == [108, 101, 110]) = false, ((a0 : Str) == [115, 117, 109]) = false, ((a0 : Str) == [114, 111, 119, 115]) = false, ((a0 : Str) == [99, 104, 97, 110, 99, 101]) = true, ((a0 : Str) == [99, 104, 97, 110, 99, 101]) = true] := by kernel_rfl
theorem p176_e_5 (a0 : Str) : rE I176 (xAU a0) [F, F, F, F, F, Y] [] = dn (xAT 1) [((a0 : Str) == [99, 108, 111, 99, 107]) = false, ((a0 : Str) == [108, 101, 110]) = false, ((a0 : Str) == [115, 117, 109]) = false, ((a0 : Str) == [114, 111, 119, 115]) = false, ((a0 : Str) == [99, 104, 97, 110, 99, 101]) = false, ((a0 : Str) == [102, 105, 108, 101]) = true] := by kernel_rfl
theorem p176_e_6 (a0 : Str) : rE I176 (xAU a0) [F, F, F, F, F, F, Y, Y] [] = dn (xAT 2) [((a0 : Str) == [99, 108, 111, 99, 107]) = false, ((a0 : Str) == [108, 101, 110]) = false, ((a0 : Str) == [115, 117, 109]) = false, ((a0 : Str) == [114, 111, 119, 115]) = false, ((a0 : Str) == [99, 104, 97, 110, 99, 101]) = false, ((a0 : Str) == [102, 105, 108, 101]) = false, ((a0 : Str) == [116, 97, 107, 101]) = true, ((a0 : Str) == [116, 97, 107, 101]) = true] := by kernel_rfl
theorem p176_e_7 (a0 : Str) : rE I176 (xAU a0) [F, F, F, F, F, F, F, Y, Y] [] = dn (xAT 2) [((a0 : Str) == [99, 108, 111, 99, 107]) = false, ((a0 : Str) == [108, 101, 110]) = false, ((a0 : Str) == [115, 117, 109]) = false, ((a0 : Str) == [114, 111, 119, 115]) = false, ((a0 : Str) == [99, 104, 97, 110, 99, 101]) = false, ((a0 : Str) == [102, 105, 108, 101]) = false, ((a0 : Str) == [116, 97, 107, 101]) = false, ((a0 : Str) == [115, 107, 105, 112]) = true, ((a0 : Str) == [115, 107, 105, 112]) = true] := by kernel_rfl
theorem p176_e_8 (a0 : Str) : rE I176 (xAU a0) [F, F, F, F, F, F, F, F, Y, Y] [] = dn (xAT 2) [((a0 : Str) == [99, 108, 111, 99, 107]) = false, ((a0 : Str) == [108, 101, 110]) = false, ((a0 : Str) == [115, 117, 109]) = false, ((a0 : Str) == [114, 111, 119, 115]) = false, ((a0 : Str) == [99, 104, 97, 110, 99, 101]) = false, ((a0 : Str) == [102, 105, 108, 101]) = false, ((a0 : Str) == [116, 97, 107, 101]) = false, ((a0 : Str) == [115, 107, 105, 112]) = false, ((a0 : Str) == [114, 97, 110, 103, 101]) = true, ((a0 : Str) == [114, 97, 110, 103, 101]) = true] := by kernel_rfl
theorem p176_e_9 (a0 : Str) : rE I176 (xAU a0) [F, F, F, F, F, F, F, F, F, Y, Y] [] = dn (xAT 2) [((a0 : Str) == [99, 108, 111, 99, 107]) = false, ((a0 : Str) == [108, 101, 110]) = false, ((a0 : Str) == [115, 117, 109]) = false, ((a0 : Str) == [114, 111, 119, 115]) = false, ((a0 : Str) == [99, 104, 97, 110, 99, 101]) = false, ((a0 : Str) == [102, 105, 108, 101]) = false, ((a0 : Str) == [116, 97, 107, 101]) = false, ((a0 : Str) == [115, 107, 105, 112]) = false, ((a0 : Str) == [114, 97, 110, 103, 101]) = false, ((a0 : Str) == [110, 116, 104]) = true, ((a0 : Str) == [110, 116, 104]) = true] := by kernel_rfl
theorem p176_e_10 (a0 : Str) : rE I176 (xAU a0) [F, F, F, F, F, F, F, F, F, F, Y, Y] [] = dn (xAT 2) [((a0 : Str) == [99, 108, 111, 99, 107]) = false, ((a0 : Str) == [108, 101, 110]) = false, ((a0 : Str) == [115, 117, 109]) = false, ((a0 : Str) == [114, 111, 119, 115]) = false, ((a0 : Str) == [99, 104, 97, 110, 99, 101]) = false, ((a0 : Str) == [102, 105, 108, 101]) = false, ((a0 : Str) == [116, 97, 107, 101]) = false, ((a0 : Str) == [115, 107, 105, 112]) = false, ((a0 : Str) == [114, 97, 110, 103, 101]) = false, ((a0 : Str) == [110, 116, 104]) = false, ((a0 : Str) == [107, 101, 101, 112]) = true, ((a0 : Str) == [107, 101, 101, 112]) = true] := by kernel_rfl
theorem p176_e_11 (a0 : Str) : rE I176 (xAU a0) [F, F, F, F, F, F, F, F, F, F, F, Y, Y] [] = dn (xAT 2) [((a0 : Str) == [99, 108, 111, 99, 107]) = false, ((a0 : Str) == [108, 101, 110]) = false, ((a0 : Str) == [115, 117, 109]) = false, ((a0 : Str) == [114, 111, 119, 115]) = false, ((a0 : Str) == [99, 104, 97, 110, 99, 101]) = false, ((a0 : Str) == [102, 105, 108, 101]) = false, ((a0 : Str) == [116, 97, 107, 101]) = false, ((a0 : Str) == [115, 107, 105, 112]) = false, ((a0 : Str) == [114, 97, 110, 103, 101]) = false, ((a0 : Str) == [110, 116, 104]) = false, ((a0 : Str) == [107, 101, 101, 112]) = false, ((a0 : Str) == [99, 111, 108, 117, 109, 110]) = true, ((a0 : Str) == [99, 111, 108, 117, 109, 110]) = true] := by kernel_rfl
theorem p176_e_12 (a0 : Str) : rE I176 (xAU a0) [F, F, F, F, F, F, F, F, F, F, F, F, Y] [] = dn (xAT 2) [((a0 : Str) == [99, 108, 111, 99, 107]) = false, ((a0 : Str) == [108, 101, 110]) = false, ((a0 : Str) == [115, 117, 109]) = false, ((a0 : Str) == [114, 111, 119, 115]) = false, ((a0 : Str) == [99, 104, 97, 110, 99, 101]) = false, ((a0 : Str) == [102, 105, 108, 101]) = false, ((a0 : Str) == [116, 97, 107, 101]) = false, ((a0 : Str) == [115, 107, 105, 112]) = false, ((a0 : Str) == [114, 97, 110, 103, 101]) = false, ((a0 : Str) == [110, 116, 104]) = false, ((a0 : Str) == [107, 101, 101, 112]) = false, ((a0 : Str) == [99, 111, 108, 117, 109, 110]) = false, ((a0 : Str) == [116, 97, 98, 108, 101]) = true] := by kernel_rfl
theorem p176_e_13 (a0 : Str) : rE I176 (xAU a0) [F, F, F, F, F, F, F, F, F, F, F, F, F, Y, Y] [] = dn (xAT 3) [((a0 : Str) == [99, 108, 111, 99, 107]) = false, ((a0 : Str) == [108, 101, 110]) = false, ((a0 : Str) == [115, 117, 109]) = false, ((a0 : Str) == [114, 111, 119, 115]) = false, ((a0 : Str) == [99, 104, 97, 110, 99, 101]) = false, ((a0 : Str) == [102, 105, 108, 101]) = false, ((a0 : Str) == [116, 97, 107, 101]) = false, ((a0 : Str) == [115, 107, 105, 112]) = false, ((a0 : Str) == [114, 97, 110, 103, 101]) = false, ((a0 : Str) == [110, 116, 104]) = false, ((a0 : Str) == [107, 101, 101, 112]) = false, ((a0 : Str) == [99, 111, 108, 117, 109, 110]) = false, ((a0 : Str) == [116, 97, 98, 108, 101]) = false, ((a0 : Str) == [119, 104, 101, 114, 101]) = true, ((a0 : Str) == [119, 104, 101, 114, 101]) = true] := by kernel_rfl
theorem p176_e_14 (a0 : Str) : rE I176 (xAU a0) [F, F, F, F, F, F, F, F, F, F, F, F, F, F, Y, Y] [] = dn (xAT 3) [((a0 : Str) == [99, 108, 111, 99, 107]) = false, ((a0 : Str) == [108, 101, 110]) = false, ((a0 : Str) == [115, 117, 109]) = false, ((a0 : Str) == [114, 111, 119, 115]) = false, ((a0 : Str) == [99, 104, 97, 110, 99, 101]) = false, ((a0 : Str) == [102, 105, 108, 101]) = false, ((a0 : Str) == [116, 97, 107, 101]) = false, ((a0 : Str) == [115, 107, 105, 112]) = false, ((a0 : Str) == [114, 97, 110, 103, 101]) = false, ((a0 : Str) == [110, 116, 104]) = false, ((a0 : Str) == [107, 101, 101, 112]) = false, ((a0 : Str) == [99, 111, 108, 117, 109, 110]) = false, ((a0 : Str) == [116, 97, 98, 108, 101]) = false, ((a0 : Str) == [119, 104, 101, 114, 101]) = false, ((a0 : Str) == [103, 114, 111, 117, 112]) = true, ((a0 : Str) == [103, 114, 111, 117, 112]) = true] := by kernel_rfl
theorem p176_e_15 (a0 : Str) : rE I176 (xAU a0) [F, F, F, F, F, F, F, F, F, F, F, F, F, F, F, Y] [] = dn (xAT 3) [((a0 : Str) == [99, 108, 111, 99, 107]) = false, ((a0 : Str) == [108, 101, 110]) = false, ((a0 : Str) == [115, 117, 109]) = false, ((a0 : Str) == [114, 111, 119, 115]) = false, ((a0 : Str) == [99, 104, 97, 110, 99, 101]) = false, ((a0 : Str) == [102, 105, 108, 101]) = false, ((a0 : Str) == [116, 97, 107, 101]) = false, ((a0 : Str) == [115, 107, 105, 112]) = false, ((a0 : Str) == [114, 97, 110, 103, 101]) = false, ((a0 : Str) == [110, 116, 104]) = false, ((a0 : Str) == [107, 101, 101, 112]) = false, ((a0 : Str) == [99, 111, 108, 117, 109, 110]) = false, ((a0 : Str) == [116, 97, 98, 108, 101]) = false, ((a0 : Str) == [119, 104, 101, 114, 101]) = false, ((a0 : Str) == [103, 114, 111, 117, 112]) = false, ((a0 : Str) == [106, 111, 105, 110]) = true] := by kernel_rfl
theorem p176_e_16 (a0 : Str) : rE I176 (xAU a0) [F, F, F, F, F, F, F, F, F, F, F, F, F, F, F, F, Y] [] = dn (xAT 4) [((a0 : Str) == [99, 108, 111, 99, 107]) = false, ((a0 : Str) == [108, 101, 110]) = false, ((a0 : Str) == [115, 117, 109]) = false, ((a0 : Str) == [114, 111, 119, 115]) = false, ((a0 : Str) == [99, 104, 97, 110, 99, 101]) = false, ((a0 : Str) == [102, 105, 108, 101]) = false, ((a0 : Str) == [116, 97, 107, 101]) = false, ((a0 : Str) == [115, 107, 105, 112]) = false, ((a0 : Str) == [114, 97, 110, 103, 101]) = false, ((a0 : Str) == [110, 116, 104]) = false, ((a0 : Str) == [107, 101, 101, 112]) = false, ((a0 : Str) == [99, 111, 108, 117, 109, 110]) = false, ((a0 : Str) == [116, 97, 98, 108, 101]) = false, ((a0 : Str) == [119, 104, 101, 114, 101]) = false, ((a0 : Str) == [103, 114, 111, 117, 112]) = false, ((a0 : Str) == [106, 111, 105, 110]) = false, ((a0 : Str) == [97, 100, 100]) = true] := by kernel_rfl
theorem p176_e_17 (a0 : Str) : rE I176 (xAU a0) [F, F, F, F, F, F, F, F, F, F, F, F, F, F, F, F, F] [] = dn (xAT (-1)) [((a0 : Str) == [99, 108, 111, 99, 107]) = false, ((a0 : Str) == [108, 101, 110]) = false, ((a0 : Str) == [115, 117, 109]) = false, ((a0 : Str) == [114, 111, 119, 115]) = false, ((a0 : Str) == [99, 104, 97, 110, 99, 101]) = false, ((a0 : Str) == [102, 105, 108, 101]) = false, ((a0 : Str) == [116, 97, 107, 101]) = false, ((a0 : Str) == [115, 107, 105, 112]) = false, ((a0 : Str) == [114, 97, 110, 103, 101]) = false, ((a0 : Str) == [110, 116, 104]) = false, ((a0 : Str) == [107, 101, 101, 112]) = false, ((a0 : Str) == [99, 111, 108, 117, 109, 110]) = false, ((a0 : Str) == [116, 97, 98, 108, 101]) = false, ((a0 : Str) == [119, 104, 101, 114, 101]) = false, ((a0 : Str) == [103, 114, 111, 117, 112]) = false, ((a0 : Str) == [106, 111, 105, 110]) = false, ((a0 : Str) == [97, 100, 100]) = false] := by kernel_rfl
theorem c176_e {N : Nat} : ∀ a0 r, xFr N a0 = some r → RE Try.f176 I176 (xAU a0) (xAT r) := fun a0 r h =>
 cE h (fun h0 h => dE h xIi (p176_e_0 a0) (oc h0 on)) fun h0 h =>
 cE h (fun h1 h => dE h xIi (p176_e_1 a0) (oc h0 (oc h1 (oc h1 on)))) fun h1 h =>
 cE h (fun h2 h => dE h xIi (p176_e_2 a0) (oc h0 (oc h1 (oc h2 (oc h2 on))))) fun h2 h =>
 cE h (fun h3 h => dE h xIi (p176_e_3 a0) (oc h0 (oc h1 (oc h2 (oc h3 (oc h3 on)))))) fun h3 h =>
 cE h (fun h4 h => dE h xIi (p176_e_4 a0) (oc h0 (oc h1 (oc h2 (oc h3 (oc h4 (oc h4 on))))))) fun h4 h =>
 cE h (fun h5 h => dE h xIi (p176_e_5 a0) (oc h0 (oc h1 (oc h2 (oc h3 (oc h4 (oc h5 on))))))) fun h5 h =>
 cE h (fun h6 h => dE h xIi (p176_e_6 a0) (oc h0 (oc h1 (oc h2 (oc h3 (oc h4 (oc h5 (oc h6 (oc h6 on))))))))) fun h6 h =>
 cE h (fun h7 h => dE h xIi (p176_e_7 a0) (oc h0 (oc h1 (oc h2 (oc h3 (oc h4 (oc h5 (oc h6 (oc h7 (oc h7 on)))))))))) fun h7 h =>
 cE h (fun h8 h => dE h xIi (p176_e_8 a0) (oc h0 (oc h1 (oc h2 (oc h3 (oc h4 (oc h5 (oc h6 (oc h7 (oc h8 (oc h8 on))))))))))) fun h8 h =>
 cE h (fun h9 h => dE h xIi (p176_e_9 a0) (oc h0 (oc h1 (oc h2 (oc h3 (oc h4 (oc h5 (oc h6 (oc h7 (oc h8 (oc h9 (oc h9 on)))))))))))) fun h9 h =>
 cE h (fun h10 h => dE h xIi (p176_e_10 a0) (oc h0 (oc h1 (oc h2 (oc h3 (oc h4 (oc h5 (oc h6 (oc h7 (oc h8 (oc h9 (oc h10 (oc h10 on))))))))))))) fun h10 h =>
 cE h (fun h11 h => dE h xIi (p176_e_11 a0) (oc h0 (oc h1 (oc h2 (oc h3 (oc h4 (oc h5 (oc h6 (oc h7 (oc h8 (oc h9 (oc h10 (oc h11 (oc h11 on)))))))))))))) fun h11 h =>
 cE h (fun h12 h => dE h xIi (p176_e_12 a0) (oc h0 (oc h1 (oc h2 (oc h3 (oc h4 (oc h5 (oc h6 (oc h7 (oc h8 (oc h9 (oc h10 (oc h11 (oc h12 on)))))))))))))) fun h12 h =>
 cE h (fun h13 h => dE h xIi (p176_e_13 a0) (oc h0 (oc h1 (oc h2 (oc h3 (oc h4 (oc h5 (oc h6 (oc h7 (oc h8 (oc h9 (oc h10 (oc h11 (oc h12 (oc h13 (oc h13 on)))))))))))))))) fun h13 h =>
 cE h (fun h14 h => dE h xIi (p176_e_14 a0) (oc h0 (oc h1 (oc h2 (oc h3 (oc h4 (oc h5 (oc h6 (oc h7 (oc h8 (oc h9 (oc h10 (oc h11 (oc h12 (oc h13 (oc h14 (oc h14 on))))))))))))))))) fun h14 h =>
 cE h (fun h15 h => dE h xIi (p176_e_15 a0) (oc h0 (oc h1 (oc h2 (oc h3 (oc h4 (oc h5 (oc h6 (oc h7 (oc h8 (oc h9 (oc h10 (oc h11 (oc h12 (oc h13 (oc h14 (oc h15 on))))))))))))))))) fun h15 h =>
 cE h (fun h16 h => dE h xIi (p176_e_16 a0) (oc h0 (oc h1 (oc h2 (oc h3 (oc h4 (oc h5 (oc h6 (oc h7 (oc h8 (oc h9 (oc h10 (oc h11 (oc h12 (oc h13 (oc h14 (oc h15 (oc h16 on)))))))))))))))))) fun h16 h =>
 dE h xIi (p176_e_17 a0) (oc h0 (oc h1 (oc h2 (oc h3 (oc h4 (oc h5 (oc h6 (oc h7 (oc h8 (oc h9 (oc h10 (oc h11 (oc h12 (oc h13 (oc h14 (oc h15 (oc h16 on)))))))))))))))))
theorem xIE {N : Nat} {a0 : Str} {r : Int} (h : xFr N  a0 = some r) : AbC 176 (xAU a0) (xAT r) :=
 AbsCalls.of_reach xIi rfl rfl (Nat.le_of_ble_eq_true rfl) (c176_e a0 r h)
noncomputable def I142 : Info := { body := (Try.f142.body).getD .skip, nt := 15, results := [.tmp 2], keep := [0, 4, 6, 8], live := [], modes := [] }
theorem fk142 : FnOk Try.prog 142 Try.f142 I142 := ⟨Try.func142, by kernel_rfl, by kernel_rfl, by kernel_rfl, by kernel_rfl⟩
theorem p142_e_0 (a0 : Str) : rE I142 (xBK a0) [Y, Y] [] = dn (xBw true) [((a0 : Str) == [108, 101, 116]) = true, ((a0 : Str) == [108, 101, 116]) = true] := by kernel_rfl
theorem p142_e_1 (a0 : Str) : rE I142 (xBK a0) [F, Y, Y] [] = dn (xBw true) [((a0 : Str) == [108, 101, 116]) = false, ((a0 : Str) == [105, 110]) = true, ((a0 : Str) == [105, 110]) = true] := by kernel_rfl
theorem p142_e_2 (a0 : Str) : rE I142 (xBK a0) [F, F, Y, Y] [] = dn (xBw true) [((a0 : Str) == [108, 101, 116]) = false, ((a0 : Str) == [105, 110]) = false, ((a0 : Str) == [105, 102]) = true, ((a0 : Str) == [105, 102]) = true] := by kernel_rfl
theorem p142_e_3 (a0 : Str) : rE I142 (xBK a0) [F, F, F, Y, Y] [] = dn (xBw true) [((a0 : Str) == [108, 101, 116]) = false, ((a0 : Str) == [105, 110]) = false, ((a0 : Str) == [105, 102]) = false, ((a0 : Str) == [116, 104, 101, 110]) = true, ((a0 : Str) == [116, 104, 101, 110]) = true] := by kernel_rfl
theorem p142_e_4 (a0 : Str) : rE I142 (xBK a0) [F, F, F, F, Y, Y] [] = dn (xBw true) [((a0 : Str) == [108, 101, 116]) = false, ((a0 : Str) == [105, 110]) = false, ((a0 : Str) == [105, 102]) = false, ((a0 : Str) == [116, 104, 101, 110]) = false, ((a0 : Str) == [101, 108, 115, 101]) = true, ((a0 : Str) == [101, 108, 115, 101]) = true] := by kernel_rfl
theorem p142_e_5 (a0 : Str) : rE I142 (xBK a0) [F, F, F, F, F, Y, Y] [] = dn (xBw true) [((a0 : Str) == [108, 101, 116]) = false, ((a0 : Str) == [105, 110]) = false, ((a0 : Str) == [105, 102]) = false, ((a0 : Str) == [116, 104, 101, 110]) = false, ((a0 : Str) == [101, 108, 115, 101]) = false, ((a0 : Str) == [102, 111, 114]) = true, ((a0 : Str) == [102, 111, 114]) = true] := by kernel_rfl
theorem p142_e_6 (a0 : Str) : rE I142 (xBK a0) [F, F, F, F, F, F, Y] [] = dn (xBw true) [((a0 : Str) == [108, 101, 116]) = false, ((a0 : Str) == [105, 110]) = false, ((a0 : Str) == [105, 102]) = false, ((a0 : Str) == [116, 104, 101, 110]) = false, ((a0 : Str) == [101, 108, 115, 101]) = false, ((a0 : Str) == [102, 111, 114]) = false, ((a0 : Str) == [100, 111]) = true] := by kernel_rfl
theorem p142_e_7 (a0 : Str) (r1 : Int) : rE I142 (xBK a0) [F, F, F, F, F, F, F] [xAT r1] = dn (xBw (decide ((r1 : Int) ≥ 0))) [((a0 : Str) == [108, 101, 116]) = false, ((a0 : Str) == [105, 110]) = false, ((a0 : Str) == [105, 102]) = false, ((a0 : Str) == [116, 104, 101, 110]) = false, ((a0 : Str) == [101, 108, 115, 101]) = false, ((a0 : Str) == [102, 111, 114]) = false, ((a0 : Str) == [100, 111]) = false, AbC 176 (xAU a0) (xAT r1)] := by kernel_rfl
theorem c142_e {N : Nat} : ∀ a0 r, xFC N a0 = some r → RE Try.f142 I142 (xBK a0) (xBw r) := fun a0 r h =>
 cE h (fun h0 h => dE h fk142 (p142_e_0 a0) (oc h0 (oc h0 on))) fun h0 h =>
 cE h (fun h1 h => dE h fk142 (p142_e_1 a0) (oc h0 (oc h1 (oc h1 on)))) fun h1 h =>
 cE h (fun h2 h => dE h fk142 (p142_e_2 a0) (oc h0 (oc h1 (oc h2 (oc h2 on))))) fun h2 h =>
 cE h (fun h3 h => dE h fk142 (p142_e_3 a0) (oc h0 (oc h1 (oc h2 (oc h3 (oc h3 on)))))) fun h3 h =>
 cE h (fun h4 h => dE h fk142 (p142_e_4 a0) (oc h0 (oc h1 (oc h2 (oc h3 (oc h4 (oc h4 on))))))) fun h4 h =>
 cE h (fun h5 h => dE h fk142 (p142_e_5 a0) (oc h0 (oc h1 (oc h2 (oc h3 (oc h4 (oc h5 (oc h5 on)))))))) fun h5 h =>
 cE h (fun h6 h => dE h fk142 (p142_e_6 a0) (oc h0 (oc h1 (oc h2 (oc h3 (oc h4 (oc h5 (oc h6 on)))))))) fun h6 h =>
 bE h fun r1 h7 h => dE h fk142 (p142_e_7 a0 r1) (oc h0 (oc h1 (oc h2 (oc h3 (oc h4 (oc h5 (oc h6 (oc (xIE h7) on))))))))
theorem impl_IsReserved_ok {N : Nat} {a0 : Str} {r : Bool} (h : xFC N  a0 = some r) : AbC 142 (xBK a0) (xBw r) :=
 AbsCalls.of_reach fk142 rfl rfl (Nat.le_of_ble_eq_true rfl) (c142_e a0 r h)
noncomputable def I88 : Info := { body := (Try.f88.body).getD .skip, nt := 10, results := [.tmp 2], keep := [0, 4], live := [], modes := [(1, [(2, .take, false)])] }
theorem fk88 : FnOk Try.prog 88 Try.f88 I88 := ⟨Try.func88, by kernel_rfl, by kernel_rfl, by kernel_rfl, by kernel_rfl⟩
theorem p88_e_0 (a0 : Str) (r1 r2 : Bool) : rE I88 (xDa a0) [Y] [xBV r1, xBw r2] = dn (xCi (!r2)) [AbC 141 (xF2 a0) (xBV r1), r1 = true, AbC 142 (xBK a0) (xBw r2)] := by kernel_rfl
theorem p88_e_1 (a0 : Str) (r1 : Bool) : rE I88 (xDa a0) [F] [xBV r1] = dn (xCi false) [AbC 141 (xF2 a0) (xBV r1), r1 = false] := by kernel_rfl
theorem c88_e {N : Nat} : ∀ a0 r, xE9 N a0 = some r → RE Try.f88 I88 (xDa a0) (xCi r) := fun a0 r h =>
 bE h fun r1 h0 h => cE h (fun h1 h => bE h fun r2 h2 h => dE h fk88 (p88_e_0 a0 r1 r2) (oc (xI3 h0) (oc h1 (oc (impl_IsReserved_ok h2) on)))) fun h1 h =>
 dE h fk88 (p88_e_1 a0 r1) (oc (xI3 h0) (oc h1 on))
theorem xHv {N : Nat} {a0 : Str} {r : Bool} (h : xE9 N  a0 = some r) : AbC 88 (xDa a0) (xCi r) :=
 AbsCalls.of_reach fk88 rfl rfl (Nat.le_of_ble_eq_true rfl) (c88_e a0 r h)
noncomputable def I140 : Info := { body := (Try.f140.body).getD .skip, nt := 19, results := [.tmp 4], keep := [0, 2, 8, 10, 12, 14, 16, 18, 20, 32], live := [(2, [2, 14, 16, 18])], modes := [(4, [(0, .take, false)]), (5, [(0, .take, false)]), (6, [(1, .take, false)])] }
theorem fk140 : FnOk Try.prog 140 Try.f140 I140 := ⟨Try.func140, by kernel_rfl, by kernel_rfl, by kernel_rfl, by kernel_rfl⟩
def S140_2 (x1 : Str) (x7 : List Str) (x8 x9 : Int) : St := [(2, .v false [.str x1]), (14, .v false [.sl .ro .str x7]), (16, .v false [.int .i64 x8]), (18, .v false [.int .i64 x9])]
theorem p140_2_0 (x1 : Str) (x7 : List Str) (x8 x9 : Int) : rS 2 I140 (S140_2 x1 x7 x8 x9) [Y, Y] [] = dn (xCS x9) [(decide ((x9 : Int) < x8)) = true, (0 : Int) ≤ x9 ∧ x9 < (Ln x7), (((gD x7 (tN x9) Ty.str.dflt) : Str) == x1) = true] := by kernel_rfl
theorem p140_2_1 (x1 : Str) (x7 : List Str) (x8 x9 : Int) : rS 2 I140 (S140_2 x1 x7 x8 x9) [Y, F] [] = st 2 I140 (S140_2 x1 x7 x8 (W (x9 + 1))) [(decide ((x9 : Int) < x8)) = true, (0 : Int) ≤ x9 ∧ x9 < (Ln x7), (((gD x7 (tN x9) Ty.str.dflt) : Str) == x1) = false] := by kernel_rfl
theorem p140_2_2 (x1 : Str) (x7 : List Str) (x8 x9 : Int) : rS 2 I140 (S140_2 x1 x7 x8 x9) [F] [] = dn (xCS (-1)) [(decide ((x9 : Int) < x8)) = false] := by kernel_rfl
theorem p140_e_3 (a0 : List Str) (a1 : Str) : rE I140 (xFB a0 a1) [] [] = st 2 I140 (S140_2 a1 a0 (Ln a0 : Int) 0) [] := by kernel_rfl
theorem c140_2 {N : Nat} : ∀ n x1 x7 x8 x9 r, xD3 N n x1 x7 x8 x9 = some r → RS Try.f140 I140 2 (S140_2 x1 x7 x8 x9) (xCS r) := by
 intro n
 induction n with
 | zero => exact fun _ _ _ _ _ h => nE h
 | succ n ih =>
  exact fun x1 x7 x8 x9 r h =>
   cE h (fun h0 h => iE h fun h1 h => cE h (fun h2 h => dS h fk140 (p140_2_0 x1 x7 x8 x9) (oc h0 (oc h1 (oc h2 on)))) fun h2 h =>
   tS fk140 (p140_2_1 x1 x7 x8 x9) (oc h0 (oc h1 (oc h2 on))) (ih _ _ _ _ _ h)) fun h0 h =>
   dS h fk140 (p140_2_2 x1 x7 x8 x9) (oc h0 on)
theorem c140_e {N : Nat} : ∀ a0 a1 r, xHN N a0 a1 = some r → RE Try.f140 I140 (xFB a0 a1) (xCS r) := fun a0 a1 r h =>
 tE fk140 (p140_e_3 a0 a1) on (c140_2 _ _ _ _ _ _ h)
theorem xIF {N : Nat} {a0 : List Str} {a1 : Str} {r : Int} (h : xHN N  a0 a1 = some r) : AbC 140 (xFB a0 a1) (xCS r) :=
 AbsCalls.of_reach fk140 rfl rfl (Nat.le_of_ble_eq_true rfl) (c140_e a0 a1 r h)
noncomputable def I189 : Info := { body := (Try.f189.body).getD .skip, nt := 18, results := [.tmp 2], keep := [0, 4, 6, 8, 10, 12, 14, 16, 32], live := [(2, [0, 10, 12, 14])], modes := [(4, [(1, .take, false), (3, .take, false)]), (6, [(1, .take, false)])] }
theorem fk189 : FnOk Try.prog 189 Try.f189 I189 := ⟨Try.func189, by kernel_rfl, by kernel_rfl, by kernel_rfl, by kernel_rfl⟩
def S189_2 (x0 x5 : List Str) (x6 x7 : Int) : St := [(0, .v false [.sl .ro .str x0]), (10, .v false [.sl .ro .str x5]), (12, .v false [.int .i64 x6]), (14, .v false [.int .i64 x7])]
theorem p189_2_0 (x0 x5 : List Str) (x6 x7 r1 : Int) : rS 2 I189 (S189_2 x0 x5 x6 x7) [Y, Y] [xCS r1] = dn (xCF false) [(decide ((x7 : Int) < x6)) = true, (0 : Int) ≤ x7 ∧ x7 < (Ln x5), AbC 140 (xFB x0 (gD x5 (tN x7) Ty.str.dflt)) (xCS r1), ((r1 : Int) != x7) = true] := by kernel_rfl
theorem p189_2_1 (x0 x5 : List Str) (x6 x7 r1 : Int) : rS 2 I189 (S189_2 x0 x5 x6 x7) [Y, F] [xCS r1] = st 2 I189 (S189_2 x0 x5 x6 (W (x7 + 1))) [(decide ((x7 : Int) < x6)) = true, (0 : Int) ≤ x7 ∧ x7 < (Ln x5), AbC 140 (xFB x0 (gD x5 (tN x7) Ty.str.dflt)) (xCS r1), ((r1 : Int) != x7) = false] := by kernel_rfl
theorem p189_2_2 (x0 x5 : List Str) (x6 x7 : Int) : rS 2 I189 (S189_2 x0 x5 x6 x7) [F] [] = dn (xCF true) [(decide ((x7 : Int) < x6)) = false] := by kernel_rfl
theorem p189_e_3 (a0 : List Str) : rE I189 (xEZ a0) [] [] = st 2 I189 (S189_2 a0 a0 (Ln a0 : Int) 0) [] := by kernel_rfl
theorem c189_2 {N : Nat} : ∀ n x0 x5 x6 x7 r, xCE N n x0 x5 x6 x7 = some r → RS Try.f189 I189 2 (S189_2 x0 x5 x6 x7) (xCF r) := by
 intro n
 induction n with
 | zero => exact fun _ _ _ _ _ h => nE h
 | succ n ih =>
  exact fun x0 x5 x6 x7 r h =>
   cE h (fun h0 h => iE h fun h1 h => bE h fun r1 h2 h => cE h (fun h3 h => dS h fk189 (p189_2_0 x0 x5 x6 x7 r1) (oc h0 (oc h1 (oc (xIF h2) (oc h3 on))))) fun h3 h =>
   tS fk189 (p189_2_1 x0 x5 x6 x7 r1) (oc h0 (oc h1 (oc (xIF h2) (oc h3 on)))) (ih _ _ _ _ _ h)) fun h0 h =>
   dS h fk189 (p189_2_2 x0 x5 x6 x7) (oc h0 on)
theorem c189_e {N : Nat} : ∀ a0 r, xF9 N a0 = some r → RE Try.f189 I189 (xEZ a0) (xCF r) := fun a0 r h =>
 tE fk189 (p189_e_3 a0) on (c189_2 _ _ _ _ _ _ h)
theorem xI9 {N : Nat} {a0 : List Str} {r : Bool} (h : xF9 N  a0 = some r) : AbC 189 (xEZ a0) (xCF r) :=
 AbsCalls.of_reach fk189 rfl rfl (Nat.le_of_ble_eq_true rfl) (c189_e a0 r h)
noncomputable def I185 : Info := { body := (Try.f185.body).getD .skip, nt := 22, results := [.tmp 2], keep := [0, 4, 8, 10, 12, 14, 16, 26], live := [(2, [0, 10, 12, 14])], modes := [(4, [(0, .take, false)]), (6, [(1, .take, false)]), (7, [(3, .take, false)])] }
theorem fk185 : FnOk Try.prog 185 Try.f185 I185 := ⟨Try.func185, by kernel_rfl, by kernel_rfl, by kernel_rfl, by kernel_rfl⟩
def S185_2 (x0 x5 : List Str) (x6 x7 : Int) : St := [(0, .v false [.sl .ro .str x0]), (10, .v false [.sl .ro .str x5]), (12, .v false [.int .i64 x6]), (14, .v false [.int .i64 x7])]
theorem p185_2_0 (x0 x5 : List Str) (x6 x7 : Int) (r1 : Bool) : rS 2 I185 (S185_2 x0 x5 x6 x7) [Y, Y] [xCi r1] = dn (xBy false) [(decide ((x7 : Int) < x6)) = true, (0 : Int) ≤ x7 ∧ x7 < (Ln x5), AbC 88 (xDa (gD x5 (tN x7) Ty.str.dflt)) (xCi r1), (!r1) = true] := by kernel_rfl
theorem p185_2_1 (x0 x5 : List Str) (x6 x7 : Int) (r1 : Bool) : rS 2 I185 (S185_2 x0 x5 x6 x7) [Y, F] [xCi r1] = st 2 I185 (S185_2 x0 x5 x6 (W (x7 + 1))) [(decide ((x7 : Int) < x6)) = true, (0 : Int) ≤ x7 ∧ x7 < (Ln x5), AbC 88 (xDa (gD x5 (tN x7) Ty.str.dflt)) (xCi r1), (!r1) = false] := by kernel_rfl
theorem p185_2_2 (x0 x5 : List Str) (x6 x7 : Int) (r1 r2 : Bool) : rS 2 I185 (S185_2 x0 x5 x6 x7) [F, Y] [xBW r1, xCF r2] = dn (xBy r2) [(decide ((x7 : Int) < x6)) = false, AbC 101 (xDr (Ln x0 : Int) 1 4) (xBW r1), r1 = true, AbC 189 (xEZ x0) (xCF r2)] := by kernel_rfl
theorem p185_2_3 (x0 x5 : List Str) (x6 x7 : Int) (r1 : Bool) : rS 2 I185 (S185_2 x0 x5 x6 x7) [F, F] [xBW r1] = dn (xBy false) [(decide ((x7 : Int) < x6)) = false, AbC 101 (xDr (Ln x0 : Int) 1 4) (xBW r1), r1 = false] := by kernel_rfl
theorem p185_e_4 (a0 : List Str) : rE I185 (xDw a0) [] [] = st 2 I185 (S185_2 a0 a0 (Ln a0 : Int) 0) [] := by kernel_rfl
theorem c185_2 {N : Nat} : ∀ n x0 x5 x6 x7 r, xDx N n x0 x5 x6 x7 = some r → RS Try.f185 I185 2 (S185_2 x0 x5 x6 x7) (xBy r) := by
 intro n
 induction n with
 | zero => exact fun _ _ _ _ _ h => nE h
 | succ n ih =>
  exact fun x0 x5 x6 x7 r h =>
   cE h (fun h0 h => iE h fun h1 h => bE h fun r1 h2 h => cE h (fun h3 h => dS h fk185 (p185_2_0 x0 x5 x6 x7 r1) (oc h0 (oc h1 (oc (xHv h2) (oc h3 on))))) fun h3 h =>
   tS fk185 (p185_2_1 x0 x5 x6 x7 r1) (oc h0 (oc h1 (oc (xHv h2) (oc h3 on)))) (ih _ _ _ _ _ h)) fun h0 h =>
   bE h fun r1 h1 h => cE h (fun h2 h => bE h fun r2 h3 h => dS h fk185 (p185_2_2 x0 x5 x6 x7 r1 r2) (oc h0 (oc (xF3 h1) (oc h2 (oc (xI9 h3) on))))) fun h2 h =>
   dS h fk185 (p185_2_3 x0 x5 x6 x7 r1) (oc h0 (oc (xF3 h1) (oc h2 on)))
theorem c185_e {N : Nat} : ∀ a0 r, xGt N a0 = some r → RE Try.f185 I185 (xDw a0) (xBy r) := fun a0 r h =>
 tE fk185 (p185_e_4 a0) on (c185_2 _ _ _ _ _ _ h)
theorem xGu {N : Nat} {a0 : List Str} {r : Bool} (h : xGt N  a0 = some r) : AbC 185 (xDw a0) (xBy r) :=
 AbsCalls.of_reach fk185 rfl rfl (Nat.le_of_ble_eq_true rfl) (c185_e a0 r h)
noncomputable def I186 : Info := { body := (Try.f186.body).getD .skip, nt := 24, results := [.tmp 4], keep := [0, 2, 4, 6, 8, 5, 7], live := [], modes := [(1, [(5, .take, false), (11, .take, false)])] }
theorem fk186 : FnOk Try.prog 186 Try.f186 I186 := ⟨Try.func186, by kernel_rfl, by kernel_rfl, by kernel_rfl, by kernel_rfl⟩
theorem p186_e_0 (a0 a1 : Org) : rE I186 (xCr a0 a1) [Y] [] = dn (xBP true) [(decide (((Org.cell a0) : Int) < (Org.cell a1))) = true] := by kernel_rfl
theorem p186_e_1 (a0 a1 : Org) : rE I186 (xCr a0 a1) [F, Y] [] = dn (xBP (decide (((Org.row a0) : Int) < (Org.row a1)))) [(decide (((Org.cell a0) : Int) < (Org.cell a1))) = false, (((Org.cell a0) : Int) == (Org.cell a1)) = true] := by kernel_rfl
theorem p186_e_2 (a0 a1 : Org) : rE I186 (xCr a0 a1) [F, F] [] = dn (xBP false) [(decide (((Org.cell a0) : Int) < (Org.cell a1))) = false, (((Org.cell a0) : Int) == (Org.cell a1)) = false] := by kernel_rfl
theorem c186_e {N : Nat} : ∀ a0 a1 r, xFL N a0 a1 = some r → RE Try.f186 I186 (xCr a0 a1) (xBP r) := fun a0 a1 r h =>
 cE h (fun h0 h => dE h fk186 (p186_e_0 a0 a1) (oc h0 on)) fun h0 h =>
 cE h (fun h1 h => dE h fk186 (p186_e_1 a0 a1) (oc h0 (oc h1 on))) fun h1 h =>
 dE h fk186 (p186_e_2 a0 a1) (oc h0 (oc h1 on))
theorem xHl {N : Nat} {a0 : Org} {a1 : Org} {r : Bool} (h : xFL N  a0 a1 = some r) : AbC 186 (xCr a0 a1) (xBP r) :=
 AbsCalls.of_reach fk186 rfl rfl (Nat.le_of_ble_eq_true rfl) (c186_e a0 a1 r h)
noncomputable def I167 : Info := { body := (Try.f167.body).getD .skip, nt := 77, results := [.tmp 2], keep := [0, 2, 4, 8, 12, 14, 16, 36, 40, 42, 44, 46, 64, 68, 70, 72, 74, 84, 90, 92, 94, 96, 148, 3, 9, 17], live := [(4, [2, 40, 42, 44, 3]), (9, [2, 8, 40, 42, 44, 68, 70, 72, 3, 9]), (15, [2, 8, 40, 42, 44, 90, 92, 94, 3, 9])], modes := [(1, [(4, .take, false)]), (11, [(0, .take, false)]), (13, [(1, .take, false)]), (17, [(3, .take, false), (8, .take, false), (11, .take, false)]), (19, [(1, .take, false)]), (20, [(1, .take, false)])] }
theorem xIT : FnOk Try.prog 167 Try.f167 I167 := ⟨Try.func167, by kernel_rfl, by kernel_rfl, by kernel_rfl, by kernel_rfl⟩
def S167_4 (x20 : List Rowd) (x21 x22 : Int) (b1 : Val) : St := [(2, .v false [.ptr 1 0]), (40, .v false [.sl .ro .row x20]), (42, .v false [.int .i64 x21]), (44, .v false [.int .i64 x22]), (3, .v true [.int .i64 (Val.kind b1), .int .i64 (Val.n b1), .int .i64 (Val.step b1), .str (Val.text b1), .sl .ro .val (Val.list b1), .sl .ro .str (Val.columns b1), .sl .ro .row (Val.rows b1)])]
def S167_9 (x20 : List Rowd) (x21 x22 : Int) (x34 : List Int) (x35 x36 : Int) (b1 : Val) (b4 : Rowd) : St := [(2, .v false [.ptr 1 0]), (8, .v false [.ptr 4 0]), (40, .v false [.sl .ro .row x20]), (42, .v false [.int .i64 x21]), (44, .v false [.int .i64 x22]), (68, .v false [.sl .ro .int x34]), (70, .v false [.int .i64 x35]), (72, .v false [.int .i64 x36]), (3, .v true [.int .i64 (Val.kind b1), .int .i64 (Val.n b1), .int .i64 (Val.step b1), .str (Val.text b1), .sl .ro .val (Val.list b1), .sl .ro .str (Val.columns b1), .sl .ro .row (Val.rows b1)]), (9, .v true [.sl .ro .int (Rowd.cells b4), .sl .ro .org (Rowd.frm b4)])]
def xHX (x20 : List Rowd) (x21 x22 : Int) (x45 : List Org) (x46 x47 : Int) (b1 : Val) (b4 : Rowd) : St := [(2, .v false [.ptr 1 0]), (8, .v false [.ptr 4 0]), (40, .v false [.sl .ro .row x20]), (42, .v false [.int .i64 x21]), (44, .v false [.int .i64 x22]), (90, .v false [.sl .ro .org x45]), (92, .v false [.int .i64 x46]), (94, .v false [.int .i64 x47]), (3, .v true [.int .i64 (Val.kind b1), .int .i64 (Val.n b1), .int .i64 (Val.step b1), .str (Val.text b1), .sl .ro .val (Val.list b1), .sl .ro .str (Val.columns b1), .sl .ro .row (Val.rows b1)]), (9, .v true [.sl .ro .int (Rowd.cells b4), .sl .ro .org (Rowd.frm b4)])]
theorem p167_15_0 (x20 : List Rowd) (x21 x22 : Int) (x45 : List Org) (x46 x47 : Int) (b1 : Val) (b4 : Rowd) : rS 15 I167 (xHX x20 x21 x22 x45 x46 x47 b1 b4) [Y, Y, Y, Y] [] = dn (xBf false) [(decide ((x47 : Int) < x46)) = true, (0 : Int) ≤ x47 ∧ x47 < (Ln x45), (decide (((Org.cell (gD x45 (tN x47) Ty.org.dflt)) : Int) < 0)) = true, true = true, true = true] := by kernel_rfl
theorem p167_15_1 (x20 : List Rowd) (x21 x22 : Int) (x45 : List Org) (x46 x47 : Int) (b1 : Val) (b4 : Rowd) : rS 15 I167 (xHX x20 x21 x22 x45 x46 x47 b1 b4) [Y, F, Y, Y] [] = dn (xBf false) [(decide ((x47 : Int) < x46)) = true, (0 : Int) ≤ x47 ∧ x47 < (Ln x45), (decide (((Org.cell (gD x45 (tN x47) Ty.org.dflt)) : Int) < 0)) = false, (decide (((Org.row (gD x45 (tN x47) Ty.org.dflt)) : Int) < 0)) = true, true = true] := by kernel_rfl
theorem p167_15_2 (x20 : List Rowd) (x21 x22 : Int) (x45 : List Org) (x46 x47 : Int) (b1 : Val) (b4 : Rowd) (r1 : Bool) : rS 15 I167 (xHX x20 x21 x22 x45 x46 x47 b1 b4) [Y, F, F, Y, Y] [xBP r1] = dn (xBf false) [(decide ((x47 : Int) < x46)) = true, (0 : Int) ≤ x47 ∧ x47 < (Ln x45), (decide (((Org.cell (gD x45 (tN x47) Ty.org.dflt)) : Int) < 0)) = false, (decide (((Org.row (gD x45 (tN x47) Ty.org.dflt)) : Int) < 0)) = false, (decide ((x47 : Int) > 0)) = true, (0 : Int) ≤ (W (x47 - 1)) ∧ (W (x47 - 1)) < (Ln (Rowd.frm b4)), AbC 186 (xCr (gD (Rowd.frm b4) (tN (W (x47 - 1))) Ty.org.dflt) (gD x45 (tN x47) Ty.org.dflt)) (xBP r1), (!r1) = true] := by kernel_rfl
theorem p167_15_3 (x20 : List Rowd) (x21 x22 : Int) (x45 : List Org) (x46 x47 : Int) (b1 : Val) (b4 : Rowd) (r1 : Bool) : rS 15 I167 (xHX x20 x21 x22 x45 x46 x47 b1 b4) [Y, F, F, Y, F] [xBP r1] = st 15 I167 (xHX x20 x21 x22 x45 x46 (W (x47 + 1)) b1 b4) [(decide ((x47 : Int) < x46)) = true, (0 : Int) ≤ x47 ∧ x47 < (Ln x45), (decide (((Org.cell (gD x45 (tN x47) Ty.org.dflt)) : Int) < 0)) = false, (decide (((Org.row (gD x45 (tN x47) Ty.org.dflt)) : Int) < 0)) = false, (decide ((x47 : Int) > 0)) = true, (0 : Int) ≤ (W (x47 - 1)) ∧ (W (x47 - 1)) < (Ln (Rowd.frm b4)), AbC 186 (xCr (gD (Rowd.frm b4) (tN (W (x47 - 1))) Ty.org.dflt) (gD x45 (tN x47) Ty.org.dflt)) (xBP r1), (!r1) = false] := by kernel_rfl
theorem p167_15_4 (x20 : List Rowd) (x21 x22 : Int) (x45 : List Org) (x46 x47 : Int) (b1 : Val) (b4 : Rowd) : rS 15 I167 (xHX x20 x21 x22 x45 x46 x47 b1 b4) [Y, F, F, F, F] [] = st 15 I167 (xHX x20 x21 x22 x45 x46 (W (x47 + 1)) b1 b4) [(decide ((x47 : Int) < x46)) = true, (0 : Int) ≤ x47 ∧ x47 < (Ln x45), (decide (((Org.cell (gD x45 (tN x47) Ty.org.dflt)) : Int) < 0)) = false, (decide (((Org.row (gD x45 (tN x47) Ty.org.dflt)) : Int) < 0)) = false, (decide ((x47 : Int) > 0)) = false, false = false] := by kernel_rfl
theorem p167_15_5 (x20 : List Rowd) (x21 x22 : Int) (x45 : List Org) (x46 x47 : Int) (b1 : Val) (b4 : Rowd) : rS 15 I167 (xHX x20 x21 x22 x45 x46 x47 b1 b4) [F] [] = st 4 I167 (S167_4 x20 x21 (W (x22 + 1)) b1) [(decide ((x47 : Int) < x46)) = false] := by kernel_rfl
theorem p167_9_6 (x20 : List Rowd) (x21 x22 : Int) (x34 : List Int) (x35 x36 : Int) (b1 : Val) (b4 : Rowd) (r1 : Bool) : rS 9 I167 (S167_9 x20 x21 x22 x34 x35 x36 b1 b4) [Y, Y] [xA7 r1] = dn (xBf false) [(decide ((x36 : Int) < x35)) = true, (0 : Int) ≤ x36 ∧ x36 < (Ln x34), AbC 90 (xB7 (gD x34 (tN x36) Ty.int.dflt)) (xA7 r1), (!r1) = true] := by kernel_rfl
theorem p167_9_7 (x20 : List Rowd) (x21 x22 : Int) (x34 : List Int) (x35 x36 : Int) (b1 : Val) (b4 : Rowd) (r1 : Bool) : rS 9 I167 (S167_9 x20 x21 x22 x34 x35 x36 b1 b4) [Y, F] [xA7 r1] = st 9 I167 (S167_9 x20 x21 x22 x34 x35 (W (x36 + 1)) b1 b4) [(decide ((x36 : Int) < x35)) = true, (0 : Int) ≤ x36 ∧ x36 < (Ln x34), AbC 90 (xB7 (gD x34 (tN x36) Ty.int.dflt)) (xA7 r1), (!r1) = false] := by kernel_rfl
theorem p167_9_8 (x20 : List Rowd) (x21 x22 : Int) (x34 : List Int) (x35 x36 : Int) (b1 : Val) (b4 : Rowd) : rS 9 I167 (S167_9 x20 x21 x22 x34 x35 x36 b1 b4) [F] [] = st 15 I167 (xHX x20 x21 x22 (Rowd.frm b4) (Ln (Rowd.frm b4) : Int) 0 b1 b4) [(decide ((x36 : Int) < x35)) = false] := by kernel_rfl
theorem p167_4_9 (x20 : List Rowd) (x21 x22 : Int) (b1 : Val) : rS 4 I167 (S167_4 x20 x21 x22 b1) [Y, Y] [] = dn (xBf false) [(decide ((x22 : Int) < x21)) = true, (0 : Int) ≤ x22 ∧ x22 < (Ln x20), (((Ln (Rowd.cells (gD x20 (tN x22) rd)) : Int) : Int) != (Ln (Val.columns b1) : Int)) = true] := by kernel_rfl
theorem p167_4_10 (x20 : List Rowd) (x21 x22 : Int) (b1 : Val) : rS 4 I167 (S167_4 x20 x21 x22 b1) [Y, F] [] = st 9 I167 (S167_9 x20 x21 x22 (Rowd.cells (gD x20 (tN x22) rd)) (Ln (Rowd.cells (gD x20 (tN x22) rd)) : Int) 0 b1 (gD x20 (tN x22) rd)) [(decide ((x22 : Int) < x21)) = true, (0 : Int) ≤ x22 ∧ x22 < (Ln x20), (((Ln (Rowd.cells (gD x20 (tN x22) rd)) : Int) : Int) != (Ln (Val.columns b1) : Int)) = false] := by kernel_rfl
theorem p167_4_11 (x20 : List Rowd) (x21 x22 : Int) (b1 : Val) : rS 4 I167 (S167_4 x20 x21 x22 b1) [F] [] = dn (xBf true) [(decide ((x22 : Int) < x21)) = false] := by kernel_rfl
theorem p167_e_12 (a0 : Val) (r1 : Bool) : rE I167 (xD6 a0) [Y, Y] [xBy r1] = dn (xBf false) [AbC 185 (xDw (Val.columns a0)) (xBy r1), (!r1) = true, true = true] := by kernel_rfl
theorem p167_e_13 (a0 : Val) (r1 : Bool) : rE I167 (xD6 a0) [F, Y] [xBy r1] = dn (xBf false) [AbC 185 (xDw (Val.columns a0)) (xBy r1), (!r1) = false, (decide (((Ln (Val.rows a0) : Int) : Int) > 12)) = true] := by kernel_rfl
theorem p167_e_14 (a0 : Val) (r1 : Bool) : rE I167 (xD6 a0) [F, F] [xBy r1] = st 4 I167 (S167_4 (Val.rows a0) (Ln (Val.rows a0) : Int) 0 a0) [AbC 185 (xDw (Val.columns a0)) (xBy r1), (!r1) = false, (decide (((Ln (Val.rows a0) : Int) : Int) > 12)) = false] := by kernel_rfl
theorem c167_15 {N : Nat} {k4 : (List Rowd) → Int → Int → Val → Option (Bool)} (hk4 : ∀ z0 z1 z2 z3 r, k4 z0 z1 z2 z3 = some r → RS Try.f167 I167 4 (S167_4 z0 z1 z2 z3) (xBf r)) : ∀ n x20 x21 x22 x45 x46 x47 b1 b4 r, xC2 N k4 n x20 x21 x22 x45 x46 x47 b1 b4 = some r → RS Try.f167 I167 15 (xHX x20 x21 x22 x45 x46 x47 b1 b4) (xBf r) := by
 intro n
 induction n with
 | zero => exact fun _ _ _ _ _ _ _ _ _ h => nE h
 | succ n ih =>
  exact fun x20 x21 x22 x45 x46 x47 b1 b4 r h =>
   cE h (fun h0 h => iE h fun h1 h => cE h (fun h2 h => dS h xIT (p167_15_0 x20 x21 x22 x45 x46 x47 b1 b4) (oc h0 (oc h1 (oc h2 (oc rfl (oc rfl on)))))) fun h2 h =>
   cE h (fun h3 h => dS h xIT (p167_15_1 x20 x21 x22 x45 x46 x47 b1 b4) (oc h0 (oc h1 (oc h2 (oc h3 (oc rfl on)))))) fun h3 h =>
   cE h (fun h4 h => iE h fun h5 h => bE h fun r1 h6 h => cE h (fun h7 h => dS h xIT (p167_15_2 x20 x21 x22 x45 x46 x47 b1 b4 r1) (oc h0 (oc h1 (oc h2 (oc h3 (oc h4 (oc h5 (oc (xHl h6) (oc h7 on))))))))) fun h7 h =>
   tS xIT (p167_15_3 x20 x21 x22 x45 x46 x47 b1 b4 r1) (oc h0 (oc h1 (oc h2 (oc h3 (oc h4 (oc h5 (oc (xHl h6) (oc h7 on)))))))) (ih _ _ _ _ _ _ _ _ _ h)) fun h4 h =>
   tS xIT (p167_15_4 x20 x21 x22 x45 x46 x47 b1 b4) (oc h0 (oc h1 (oc h2 (oc h3 (oc h4 (oc rfl on)))))) (ih _ _ _ _ _ _ _ _ _ h)) fun h0 h =>
   tS xIT (p167_15_5 x20 x21 x22 x45 x46 x47 b1 b4) (oc h0 on) (hk4 _ _ _ _ _ h)
theorem c167_9 {N : Nat} {k4 : (List Rowd) → Int → Int → Val → Option (Bool)} (hk4 : ∀ z0 z1 z2 z3 r, k4 z0 z1 z2 z3 = some r → RS Try.f167 I167 4 (S167_4 z0 z1 z2 z3) (xBf r)) : ∀ n x20 x21 x22 x34 x35 x36 b1 b4 r, xD8 N k4 n x20 x21 x22 x34 x35 x36 b1 b4 = some r → RS Try.f167 I167 9 (S167_9 x20 x21 x22 x34 x35 x36 b1 b4) (xBf r) := by
 intro n
 induction n with
 | zero => exact fun _ _ _ _ _ _ _ _ _ h => nE h
 | succ n ih =>
  exact fun x20 x21 x22 x34 x35 x36 b1 b4 r h =>
   cE h (fun h0 h => iE h fun h1 h => bE h fun r1 h2 h => cE h (fun h3 h => dS h xIT (p167_9_6 x20 x21 x22 x34 x35 x36 b1 b4 r1) (oc h0 (oc h1 (oc (xC1 h2) (oc h3 on))))) fun h3 h =>
   tS xIT (p167_9_7 x20 x21 x22 x34 x35 x36 b1 b4 r1) (oc h0 (oc h1 (oc (xC1 h2) (oc h3 on)))) (ih _ _ _ _ _ _ _ _ _ h)) fun h0 h =>
   tS xIT (p167_9_8 x20 x21 x22 x34 x35 x36 b1 b4) (oc h0 on) (c167_15 hk4 _ _ _ _ _ _ _ _ _ _ h)
theorem c167_4 {N : Nat} : ∀ n x20 x21 x22 b1 r, xD7 N n x20 x21 x22 b1 = some r → RS Try.f167 I167 4 (S167_4 x20 x21 x22 b1) (xBf r) := by
 intro n
 induction n with
 | zero => exact fun _ _ _ _ _ h => nE h
 | succ n ih =>
  exact fun x20 x21 x22 b1 r h =>
   cE h (fun h0 h => iE h fun h1 h => cE h (fun h2 h => dS h xIT (p167_4_9 x20 x21 x22 b1) (oc h0 (oc h1 (oc h2 on)))) fun h2 h =>
   tS xIT (p167_4_10 x20 x21 x22 b1) (oc h0 (oc h1 (oc h2 on))) (c167_9 ih _ _ _ _ _ _ _ _ _ _ h)) fun h0 h =>
   dS h xIT (p167_4_11 x20 x21 x22 b1) (oc h0 on)
theorem c167_e {N : Nat} : ∀ a0 r, xGp N a0 = some r → RE Try.f167 I167 (xD6 a0) (xBf r) := fun a0 r h =>
 bE h fun r1 h0 h => cE h (fun h1 h => dE h xIT (p167_e_12 a0 r1) (oc (xGu h0) (oc h1 (oc rfl on)))) fun h1 h =>
 cE h (fun h2 h => dE h xIT (p167_e_13 a0 r1) (oc (xGu h0) (oc h1 (oc h2 on)))) fun h2 h =>
 tE xIT (p167_e_14 a0 r1) (oc (xGu h0) (oc h1 (oc h2 on))) (c167_4 _ _ _ _ _ _ h)
theorem xIH {N : Nat} {a0 : Val} {r : Bool} (h : xGp N  a0 = some r) : AbC 167 (xD6 a0) (xBf r) :=
 AbsCalls.of_reach xIT rfl rfl (Nat.le_of_ble_eq_true rfl) (c167_e a0 r h)
def G168 (q : Val → Option (Int)) : Prop := ∀ a0 r, q a0 = some r → AbC 168 (xD2 a0) (xCu r)
noncomputable def I168 : Info := { body := (Try.f168.body).getD .skip, nt := 20, results := [.tmp 2], keep := [0, 2, 4, 6, 10, 14, 16, 18, 20, 3, 11], live := [(3, [6, 14, 16, 18])], modes := [(6, [(1, .take, false)])] }
theorem fk168 : FnOk Try.prog 168 Try.f168 I168 := ⟨Try.func168, by kernel_rfl, by kernel_rfl, by kernel_rfl, by kernel_rfl⟩
def S168_3 (x3 : Int) (x7 : List Val) (x8 x9 : Int) : St := [(6, .v false [.int .i64 x3]), (14, .v false [.sl .ro .val x7]), (16, .v false [.int .i64 x8]), (18, .v false [.int .i64 x9])]
theorem p168_3_0 (x3 : Int) (x7 : List Val) (x8 x9 r1 : Int) : rS 3 I168 (S168_3 x3 x7 x8 x9) [Y] [xCu r1] = st 3 I168 (S168_3 (if (r1 : Int) > x3 then r1 else x3) x7 x8 (W (x9 + 1))) [(decide ((x9 : Int) < x8)) = true, (0 : Int) ≤ x9 ∧ x9 < (Ln x7), AbC 168 (xD2 (gD x7 (tN x9) vd)) (xCu r1)] := by kernel_rfl
theorem p168_3_1 (x3 : Int) (x7 : List Val) (x8 x9 : Int) : rS 3 I168 (S168_3 x3 x7 x8 x9) [F] [] = dn (xCu (W (x3 + 1))) [(decide ((x9 : Int) < x8)) = false] := by kernel_rfl
theorem p168_e_2 (a0 : Val) : rE I168 (xD2 a0) [] [] = st 3 I168 (S168_3 0 (Val.list a0) (Ln (Val.list a0) : Int) 0) [] := by kernel_rfl
theorem c168_3 {N : Nat} {q0 : Val → Option (Int)} (g0 : G168 q0) : ∀ n x3 x7 x8 x9 r, xEM N q0 n x3 x7 x8 x9 = some r → RS Try.f168 I168 3 (S168_3 x3 x7 x8 x9) (xCu r) := by
 intro n
 induction n with
 | zero => exact fun _ _ _ _ _ h => nE h
 | succ n ih =>
  exact fun x3 x7 x8 x9 r h =>
   cE h (fun h0 h => iE h fun h1 h => bE h fun r1 h2 h => tS fk168 (p168_3_0 x3 x7 x8 x9 r1) (oc h0 (oc h1 (oc (g0 _ _ h2) on))) (ih _ _ _ _ _ h)) fun h0 h =>
   dS h fk168 (p168_3_1 x3 x7 x8 x9) (oc h0 on)
theorem c168_e {N : Nat} {q0 : Val → Option (Int)} (g0 : G168 q0) : ∀ a0 r, xGL N q0 a0 = some r → RE Try.f168 I168 (xD2 a0) (xCu r) := fun a0 r h =>
 tE fk168 (p168_e_2 a0) on (c168_3 g0 _ _ _ _ _ _ h)
theorem xIU {N : Nat} {q0 : Val → Option (Int)} (g0 : G168 q0) {a0 : Val} {r : Int} (h : xGL N q0 a0 = some r) : AbC 168 (xD2 a0) (xCu r) :=
 AbsCalls.of_reach fk168 rfl rfl (Nat.le_of_ble_eq_true rfl) (c168_e g0 a0 r h)
theorem xHu {N : Nat} : ∀ d, G168 (xDB N d)
 | 0 => fun _ _ h => nE h
 | d + 1 => fun _ _ h => xIU (N := N) (xHu d) h
theorem impl_DepthOf_ok {N : Nat} {a0 : Val} {r : Int} (h : xHa N a0 = some r) : AbC 168 (xD2 a0) (xCu r) := xHu N _ r h
def G129 (q : Val → Option (Bool)) : Prop := ∀ a0 r, q a0 = some r → AbC 129 (xAs a0) (xAo r)
noncomputable def I129 : Info := { body := (Try.f129.body).getD .skip, nt := 185, results := [.tmp 2], keep := [0, 2, 4, 6, 10, 46, 48, 84, 120, 156, 192, 242, 248, 250, 252, 254, 294, 3, 11], live := [(15, [2, 248, 250, 252, 3])], modes := [(1, [(4, .take, false), (10, .take, false)]), (4, [(1, .take, false), (6, .take, false), (11, .take, false)]), (6, [(1, .take, false), (6, .take, false), (11, .take, false)]), (8, [(1, .take, false), (6, .take, false), (11, .take, false)]), (10, [(1, .take, false), (6, .take, false), (11, .take, false)]), (12, [(3, .take, false), (8, .take, false), (13, .take, false), (19, .take, false)]), (17, [(3, .take, false), (8, .take, false), (13, .take, false)]), (19, [(1, .take, false)]), (20, [(3, .take, false), (8, .take, false), (13, .take, false), (19, .take, false), (25, .take, false), (31, .take, false)])] }
theorem xC7 : FnOk Try.prog 129 Try.f129 I129 := ⟨Try.func129, by kernel_rfl, by kernel_rfl, by kernel_rfl, by kernel_rfl⟩
def xEB (x124 : List Val) (x125 x126 : Int) (b1 : Val) : St := [(2, .v false [.ptr 1 0]), (248, .v false [.sl .ro .val x124]), (250, .v false [.int .i64 x125]), (252, .v false [.int .i64 x126]), (3, .v true [.int .i64 (Val.kind b1), .int .i64 (Val.n b1), .int .i64 (Val.step b1), .str (Val.text b1), .sl .ro .val (Val.list b1), .sl .ro .str (Val.columns b1), .sl .ro .row (Val.rows b1)])]
theorem p129_15_0 (x124 : List Val) (x125 x126 : Int) (b1 : Val) : rS 15 I129 (xEB x124 x125 x126 b1) [Y, Y, Y, Y, Y] [] = dn (xAo false) [(decide ((x126 : Int) < x125)) = true, (0 : Int) ≤ x126 ∧ x126 < (Ln x124), (((Val.kind (gD x124 (tN x126) vd)) : Int) != 1) = true, (((Val.kind (gD x124 (tN x126) vd)) : Int) != 2) = true, (((Val.kind (gD x124 (tN x126) vd)) : Int) != 3) = true, true = true] := by kernel_rfl
theorem p129_15_1 (x124 : List Val) (x125 x126 : Int) (b1 : Val) (r1 : Bool) : rS 15 I129 (xEB x124 x125 x126 b1) [Y, Y, Y, F, Y] [xAo r1] = dn (xAo false) [(decide ((x126 : Int) < x125)) = true, (0 : Int) ≤ x126 ∧ x126 < (Ln x124), (((Val.kind (gD x124 (tN x126) vd)) : Int) != 1) = true, (((Val.kind (gD x124 (tN x126) vd)) : Int) != 2) = true, (((Val.kind (gD x124 (tN x126) vd)) : Int) != 3) = false, AbC 129 (xAs (gD x124 (tN x126) vd)) (xAo r1), (!r1) = true] := by kernel_rfl
theorem p129_15_2 (x124 : List Val) (x125 x126 : Int) (b1 : Val) (r1 : Bool) : rS 15 I129 (xEB x124 x125 x126 b1) [Y, Y, Y, F, F] [xAo r1] = st 15 I129 (xEB x124 x125 (W (x126 + 1)) b1) [(decide ((x126 : Int) < x125)) = true, (0 : Int) ≤ x126 ∧ x126 < (Ln x124), (((Val.kind (gD x124 (tN x126) vd)) : Int) != 1) = true, (((Val.kind (gD x124 (tN x126) vd)) : Int) != 2) = true, (((Val.kind (gD x124 (tN x126) vd)) : Int) != 3) = false, AbC 129 (xAs (gD x124 (tN x126) vd)) (xAo r1), (!r1) = false] := by kernel_rfl
theorem p129_15_3 (x124 : List Val) (x125 x126 : Int) (b1 : Val) (r1 : Bool) : rS 15 I129 (xEB x124 x125 x126 b1) [Y, Y, F, F, Y] [xAo r1] = dn (xAo false) [(decide ((x126 : Int) < x125)) = true, (0 : Int) ≤ x126 ∧ x126 < (Ln x124), (((Val.kind (gD x124 (tN x126) vd)) : Int) != 1) = true, (((Val.kind (gD x124 (tN x126) vd)) : Int) != 2) = false, false = false, AbC 129 (xAs (gD x124 (tN x126) vd)) (xAo r1), (!r1) = true] := by kernel_rfl
theorem p129_15_4 (x124 : List Val) (x125 x126 : Int) (b1 : Val) (r1 : Bool) : rS 15 I129 (xEB x124 x125 x126 b1) [Y, Y, F, F, F] [xAo r1] = st 15 I129 (xEB x124 x125 (W (x126 + 1)) b1) [(decide ((x126 : Int) < x125)) = true, (0 : Int) ≤ x126 ∧ x126 < (Ln x124), (((Val.kind (gD x124 (tN x126) vd)) : Int) != 1) = true, (((Val.kind (gD x124 (tN x126) vd)) : Int) != 2) = false, false = false, AbC 129 (xAs (gD x124 (tN x126) vd)) (xAo r1), (!r1) = false] := by kernel_rfl
theorem p129_15_5 (x124 : List Val) (x125 x126 : Int) (b1 : Val) (r1 : Bool) : rS 15 I129 (xEB x124 x125 x126 b1) [Y, F, F, F, Y] [xAo r1] = dn (xAo false) [(decide ((x126 : Int) < x125)) = true, (0 : Int) ≤ x126 ∧ x126 < (Ln x124), (((Val.kind (gD x124 (tN x126) vd)) : Int) != 1) = false, false = false, false = false, AbC 129 (xAs (gD x124 (tN x126) vd)) (xAo r1), (!r1) = true] := by kernel_rfl
theorem p129_15_6 (x124 : List Val) (x125 x126 : Int) (b1 : Val) (r1 : Bool) : rS 15 I129 (xEB x124 x125 x126 b1) [Y, F, F, F, F] [xAo r1] = st 15 I129 (xEB x124 x125 (W (x126 + 1)) b1) [(decide ((x126 : Int) < x125)) = true, (0 : Int) ≤ x126 ∧ x126 < (Ln x124), (((Val.kind (gD x124 (tN x126) vd)) : Int) != 1) = false, false = false, false = false, AbC 129 (xAs (gD x124 (tN x126) vd)) (xAo r1), (!r1) = false] := by kernel_rfl
theorem p129_15_7 (x124 : List Val) (x125 x126 : Int) (b1 : Val) (r1 : Int) : rS 15 I129 (xEB x124 x125 x126 b1) [F, Y, Y, Y, Y, Y, Y] [xCu r1] = dn (xAo (decide ((r1 : Int) ≤ 3))) [(decide ((x126 : Int) < x125)) = false, (((Val.n b1) : Int) == 0) = true, (((Val.step b1) : Int) == 0) = true, (((Val.text b1) : Str) == []) = true, (((Ln (Val.columns b1) : Int) : Int) == 0) = true, (((Ln (Val.rows b1) : Int) : Int) == 0) = true, (decide (((Ln (Val.list b1) : Int) : Int) ≤ 8)) = true, AbC 168 (xD2 b1) (xCu r1)] := by kernel_rfl
theorem p129_15_8 (x124 : List Val) (x125 x126 : Int) (b1 : Val) : rS 15 I129 (xEB x124 x125 x126 b1) [F, Y, Y, Y, Y, Y, F] [] = dn (xAo false) [(decide ((x126 : Int) < x125)) = false, (((Val.n b1) : Int) == 0) = true, (((Val.step b1) : Int) == 0) = true, (((Val.text b1) : Str) == []) = true, (((Ln (Val.columns b1) : Int) : Int) == 0) = true, (((Ln (Val.rows b1) : Int) : Int) == 0) = true, (decide (((Ln (Val.list b1) : Int) : Int) ≤ 8)) = false] := by kernel_rfl
theorem p129_15_9 (x124 : List Val) (x125 x126 : Int) (b1 : Val) : rS 15 I129 (xEB x124 x125 x126 b1) [F, Y, Y, Y, Y, F, F] [] = dn (xAo false) [(decide ((x126 : Int) < x125)) = false, (((Val.n b1) : Int) == 0) = true, (((Val.step b1) : Int) == 0) = true, (((Val.text b1) : Str) == []) = true, (((Ln (Val.columns b1) : Int) : Int) == 0) = true, (((Ln (Val.rows b1) : Int) : Int) == 0) = false, false = false] := by kernel_rfl
theorem p129_15_10 (x124 : List Val) (x125 x126 : Int) (b1 : Val) : rS 15 I129 (xEB x124 x125 x126 b1) [F, Y, Y, Y, F, F, F] [] = dn (xAo false) [(decide ((x126 : Int) < x125)) = false, (((Val.n b1) : Int) == 0) = true, (((Val.step b1) : Int) == 0) = true, (((Val.text b1) : Str) == []) = true, (((Ln (Val.columns b1) : Int) : Int) == 0) = false, false = false, false = false] := by kernel_rfl
theorem p129_15_11 (x124 : List Val) (x125 x126 : Int) (b1 : Val) : rS 15 I129 (xEB x124 x125 x126 b1) [F, Y, Y, F, F, F, F] [] = dn (xAo false) [(decide ((x126 : Int) < x125)) = false, (((Val.n b1) : Int) == 0) = true, (((Val.step b1) : Int) == 0) = true, (((Val.text b1) : Str) == []) = false, false = false, false = false, false = false] := by kernel_rfl
theorem p129_15_12 (x124 : List Val) (x125 x126 : Int) (b1 : Val) : rS 15 I129 (xEB x124 x125 x126 b1) [F, Y, F, F, F, F, F] [] = dn (xAo false) [(decide ((x126 : Int) < x125)) = false, (((Val.n b1) : Int) == 0) = true, (((Val.step b1) : Int) == 0) = false, false = false, false = false, false = false, false = false] := by kernel_rfl
theorem p129_15_13 (x124 : List Val) (x125 x126 : Int) (b1 : Val) : rS 15 I129 (xEB x124 x125 x126 b1) [F, F, F, F, F, F, F] [] = dn (xAo false) [(decide ((x126 : Int) < x125)) = false, (((Val.n b1) : Int) == 0) = false, false = false, false = false, false = false, false = false, false = false] := by kernel_rfl
theorem p129_e_14 (a0 : Val) (r1 : Bool) : rE I129 (xAs a0) [Y, Y, Y, Y, Y, Y] [xA7 r1] = dn (xAo r1) [(((Ln (Val.list a0) : Int) : Int) == 0) = true, (((Ln (Val.columns a0) : Int) : Int) == 0) = true, (((Val.kind a0) : Int) == 1) = true, (((Ln (Val.rows a0) : Int) : Int) == 0) = true, (((Val.step a0) : Int) == 0) = true, (((Val.text a0) : Str) == []) = true, AbC 90 (xB7 (Val.n a0)) (xA7 r1)] := by kernel_rfl
theorem p129_e_15 (a0 : Val) : rE I129 (xAs a0) [Y, Y, Y, Y, Y, F] [] = dn (xAo false) [(((Ln (Val.list a0) : Int) : Int) == 0) = true, (((Ln (Val.columns a0) : Int) : Int) == 0) = true, (((Val.kind a0) : Int) == 1) = true, (((Ln (Val.rows a0) : Int) : Int) == 0) = true, (((Val.step a0) : Int) == 0) = true, (((Val.text a0) : Str) == []) = false] := by kernel_rfl
theorem p129_e_16 (a0 : Val) : rE I129 (xAs a0) [Y, Y, Y, Y, F, F] [] = dn (xAo false) [(((Ln (Val.list a0) : Int) : Int) == 0) = true, (((Ln (Val.columns a0) : Int) : Int) == 0) = true, (((Val.kind a0) : Int) == 1) = true, (((Ln (Val.rows a0) : Int) : Int) == 0) = true, (((Val.step a0) : Int) == 0) = false, false = false] := by kernel_rfl
theorem p129_e_17 (a0 : Val) : rE I129 (xAs a0) [Y, Y, Y, F, F, F] [] = dn (xAo false) [(((Ln (Val.list a0) : Int) : Int) == 0) = true, (((Ln (Val.columns a0) : Int) : Int) == 0) = true, (((Val.kind a0) : Int) == 1) = true, (((Ln (Val.rows a0) : Int) : Int) == 0) = false, false = false, false = false] := by kernel_rfl
theorem p129_e_18 (a0 : Val) (r1 : Bool) : rE I129 (xAs a0) [Y, Y, F, Y, Y, Y, Y] [xBZ r1] = dn (xAo r1) [(((Ln (Val.list a0) : Int) : Int) == 0) = true, (((Ln (Val.columns a0) : Int) : Int) == 0) = true, (((Val.kind a0) : Int) == 1) = false, (((Val.kind a0) : Int) == 2) = true, (((Ln (Val.rows a0) : Int) : Int) == 0) = true, (((Val.n a0) : Int) == 0) = true, (((Val.step a0) : Int) == 0) = true, AbC 166 (xE0 (Val.text a0)) (xBZ r1)] := by kernel_rfl
theorem p129_e_19 (a0 : Val) : rE I129 (xAs a0) [Y, Y, F, Y, Y, Y, F] [] = dn (xAo false) [(((Ln (Val.list a0) : Int) : Int) == 0) = true, (((Ln (Val.columns a0) : Int) : Int) == 0) = true, (((Val.kind a0) : Int) == 1) = false, (((Val.kind a0) : Int) == 2) = true, (((Ln (Val.rows a0) : Int) : Int) == 0) = true, (((Val.n a0) : Int) == 0) = true, (((Val.step a0) : Int) == 0) = false] := by kernel_rfl
theorem p129_e_20 (a0 : Val) : rE I129 (xAs a0) [Y, Y, F, Y, Y, F, F] [] = dn (xAo false) [(((Ln (Val.list a0) : Int) : Int) == 0) = true, (((Ln (Val.columns a0) : Int) : Int) == 0) = true, (((Val.kind a0) : Int) == 1) = false, (((Val.kind a0) : Int) == 2) = true, (((Ln (Val.rows a0) : Int) : Int) == 0) = true, (((Val.n a0) : Int) == 0) = false, false = false] := by kernel_rfl
theorem p129_e_21 (a0 : Val) : rE I129 (xAs a0) [Y, Y, F, Y, F, F, F] [] = dn (xAo false) [(((Ln (Val.list a0) : Int) : Int) == 0) = true, (((Ln (Val.columns a0) : Int) : Int) == 0) = true, (((Val.kind a0) : Int) == 1) = false, (((Val.kind a0) : Int) == 2) = true, (((Ln (Val.rows a0) : Int) : Int) == 0) = false, false = false, false = false] := by kernel_rfl
theorem p129_e_22 (a0 : Val) (r1 r2 : Bool) : rE I129 (xAs a0) [Y, Y, F, F, Y, Y, Y, Y] [xA7 r1, xA7 r2] = dn (xAo r2) [(((Ln (Val.list a0) : Int) : Int) == 0) = true, (((Ln (Val.columns a0) : Int) : Int) == 0) = true, (((Val.kind a0) : Int) == 1) = false, (((Val.kind a0) : Int) == 2) = false, (((Val.kind a0) : Int) == 4) = true, (((Ln (Val.rows a0) : Int) : Int) == 0) = true, (((Val.text a0) : Str) == []) = true, AbC 90 (xB7 (Val.n a0)) (xA7 r1), r1 = true, AbC 90 (xB7 (Val.step a0)) (xA7 r2)] := by kernel_rfl
theorem p129_e_23 (a0 : Val) (r1 : Bool) : rE I129 (xAs a0) [Y, Y, F, F, Y, Y, Y, F] [xA7 r1] = dn (xAo false) [(((Ln (Val.list a0) : Int) : Int) == 0) = true, (((Ln (Val.columns a0) : Int) : Int) == 0) = true, (((Val.kind a0) : Int) == 1) = false, (((Val.kind a0) : Int) == 2) = false, (((Val.kind a0) : Int) == 4) = true, (((Ln (Val.rows a0) : Int) : Int) == 0) = true, (((Val.text a0) : Str) == []) = true, AbC 90 (xB7 (Val.n a0)) (xA7 r1), r1 = false] := by kernel_rfl
theorem p129_e_24 (a0 : Val) : rE I129 (xAs a0) [Y, Y, F, F, Y, Y, F, F] [] = dn (xAo false) [(((Ln (Val.list a0) : Int) : Int) == 0) = true, (((Ln (Val.columns a0) : Int) : Int) == 0) = true, (((Val.kind a0) : Int) == 1) = false, (((Val.kind a0) : Int) == 2) = false, (((Val.kind a0) : Int) == 4) = true, (((Ln (Val.rows a0) : Int) : Int) == 0) = true, (((Val.text a0) : Str) == []) = false, false = false] := by kernel_rfl
theorem p129_e_25 (a0 : Val) : rE I129 (xAs a0) [Y, Y, F, F, Y, F, F, F] [] = dn (xAo false) [(((Ln (Val.list a0) : Int) : Int) == 0) = true, (((Ln (Val.columns a0) : Int) : Int) == 0) = true, (((Val.kind a0) : Int) == 1) = false, (((Val.kind a0) : Int) == 2) = false, (((Val.kind a0) : Int) == 4) = true, (((Ln (Val.rows a0) : Int) : Int) == 0) = false, false = false, false = false] := by kernel_rfl
theorem p129_e_26 (a0 : Val) (r1 : Bool) : rE I129 (xAs a0) [Y, Y, F, F, F, Y, Y, Y, Y] [xBW r1] = dn (xAo r1) [(((Ln (Val.list a0) : Int) : Int) == 0) = true, (((Ln (Val.columns a0) : Int) : Int) == 0) = true, (((Val.kind a0) : Int) == 1) = false, (((Val.kind a0) : Int) == 2) = false, (((Val.kind a0) : Int) == 4) = false, (((Val.kind a0) : Int) == 6) = true, (((Ln (Val.rows a0) : Int) : Int) == 0) = true, (((Val.step a0) : Int) == 0) = true, (((Val.text a0) : Str) == []) = true, AbC 101 (xDr (Val.n a0) 1 8) (xBW r1)] := by kernel_rfl
theorem p129_e_27 (a0 : Val) : rE I129 (xAs a0) [Y, Y, F, F, F, Y, Y, Y, F] [] = dn (xAo false) [(((Ln (Val.list a0) : Int) : Int) == 0) = true, (((Ln (Val.columns a0) : Int) : Int) == 0) = true, (((Val.kind a0) : Int) == 1) = false, (((Val.kind a0) : Int) == 2) = false, (((Val.kind a0) : Int) == 4) = false, (((Val.kind a0) : Int) == 6) = true, (((Ln (Val.rows a0) : Int) : Int) == 0) = true, (((Val.step a0) : Int) == 0) = true, (((Val.text a0) : Str) == []) = false] := by kernel_rfl
theorem p129_e_28 (a0 : Val) : rE I129 (xAs a0) [Y, Y, F, F, F, Y, Y, F, F] [] = dn (xAo false) [(((Ln (Val.list a0) : Int) : Int) == 0) = true, (((Ln (Val.columns a0) : Int) : Int) == 0) = true, (((Val.kind a0) : Int) == 1) = false, (((Val.kind a0) : Int) == 2) = false, (((Val.kind a0) : Int) == 4) = false, (((Val.kind a0) : Int) == 6) = true, (((Ln (Val.rows a0) : Int) : Int) == 0) = true, (((Val.step a0) : Int) == 0) = false, false = false] := by kernel_rfl
theorem p129_e_29 (a0 : Val) : rE I129 (xAs a0) [Y, Y, F, F, F, Y, F, F, F] [] = dn (xAo false) [(((Ln (Val.list a0) : Int) : Int) == 0) = true, (((Ln (Val.columns a0) : Int) : Int) == 0) = true, (((Val.kind a0) : Int) == 1) = false, (((Val.kind a0) : Int) == 2) = false, (((Val.kind a0) : Int) == 4) = false, (((Val.kind a0) : Int) == 6) = true, (((Ln (Val.rows a0) : Int) : Int) == 0) = false, false = false, false = false] := by kernel_rfl
theorem p129_e_30 (a0 : Val) (r1 : Bool) : rE I129 (xAs a0) [Y, Y, F, F, F, F, Y, Y, Y, Y, Y] [xBf r1] = dn (xAo r1) [(((Ln (Val.list a0) : Int) : Int) == 0) = true, (((Ln (Val.columns a0) : Int) : Int) == 0) = true, (((Val.kind a0) : Int) == 1) = false, (((Val.kind a0) : Int) == 2) = false, (((Val.kind a0) : Int) == 4) = false, (((Val.kind a0) : Int) == 6) = false, (((Val.kind a0) : Int) == 5) = true, (((Val.n a0) : Int) == 0) = true, (((Val.step a0) : Int) == 0) = true, (((Val.text a0) : Str) == []) = true, (((Ln (Val.list a0) : Int) : Int) == 0) = true, AbC 167 (xD6 a0) (xBf r1)] := by kernel_rfl
theorem p129_e_31 (a0 : Val) : rE I129 (xAs a0) [Y, Y, F, F, F, F, Y, Y, Y, F, F] [] = dn (xAo false) [(((Ln (Val.list a0) : Int) : Int) == 0) = true, (((Ln (Val.columns a0) : Int) : Int) == 0) = true, (((Val.kind a0) : Int) == 1) = false, (((Val.kind a0) : Int) == 2) = false, (((Val.kind a0) : Int) == 4) = false, (((Val.kind a0) : Int) == 6) = false, (((Val.kind a0) : Int) == 5) = true, (((Val.n a0) : Int) == 0) = true, (((Val.step a0) : Int) == 0) = true, (((Val.text a0) : Str) == []) = false, false = false] := by kernel_rfl
theorem p129_e_32 (a0 : Val) : rE I129 (xAs a0) [Y, Y, F, F, F, F, Y, Y, F, F, F] [] = dn (xAo false) [(((Ln (Val.list a0) : Int) : Int) == 0) = true, (((Ln (Val.columns a0) : Int) : Int) == 0) = true, (((Val.kind a0) : Int) == 1) = false, (((Val.kind a0) : Int) == 2) = false, (((Val.kind a0) : Int) == 4) = false, (((Val.kind a0) : Int) == 6) = false, (((Val.kind a0) : Int) == 5) = true, (((Val.n a0) : Int) == 0) = true, (((Val.step a0) : Int) == 0) = false, false = false, false = false] := by kernel_rfl
theorem p129_e_33 (a0 : Val) : rE I129 (xAs a0) [Y, Y, F, F, F, F, Y, F, F, F, F] [] = dn (xAo false) [(((Ln (Val.list a0) : Int) : Int) == 0) = true, (((Ln (Val.columns a0) : Int) : Int) == 0) = true, (((Val.kind a0) : Int) == 1) = false, (((Val.kind a0) : Int) == 2) = false, (((Val.kind a0) : Int) == 4) = false, (((Val.kind a0) : Int) == 6) = false, (((Val.kind a0) : Int) == 5) = true, (((Val.n a0) : Int) == 0) = false, false = false, false = false, false = false] := by kernel_rfl
theorem p129_e_34 (a0 : Val) : rE I129 (xAs a0) [Y, Y, F, F, F, F, F, Y] [] = st 15 I129 (xEB (Val.list a0) (Ln (Val.list a0) : Int) 0 a0) [(((Ln (Val.list a0) : Int) : Int) == 0) = true, (((Ln (Val.columns a0) : Int) : Int) == 0) = true, (((Val.kind a0) : Int) == 1) = false, (((Val.kind a0) : Int) == 2) = false, (((Val.kind a0) : Int) == 4) = false, (((Val.kind a0) : Int) == 6) = false, (((Val.kind a0) : Int) == 5) = false, (((Val.kind a0) : Int) == 3) = true] := by kernel_rfl
theorem p129_e_35 (a0 : Val) : rE I129 (xAs a0) [Y, Y, F, F, F, F, F, F] [] = dn (xAo false) [(((Ln (Val.list a0) : Int) : Int) == 0) = true, (((Ln (Val.columns a0) : Int) : Int) == 0) = true, (((Val.kind a0) : Int) == 1) = false, (((Val.kind a0) : Int) == 2) = false, (((Val.kind a0) : Int) == 4) = false, (((Val.kind a0) : Int) == 6) = false, (((Val.kind a0) : Int) == 5) = false, (((Val.kind a0) : Int) == 3) = false] := by kernel_rfl
theorem p129_e_36 (a0 : Val) : rE I129 (xAs a0) [Y, F, Y, F, F, F] [] = dn (xAo false) [(((Ln (Val.list a0) : Int) : Int) == 0) = true, (((Ln (Val.columns a0) : Int) : Int) == 0) = false, (((Val.kind a0) : Int) == 1) = true, false = false, false = false, false = false] := by kernel_rfl
theorem p129_e_37 (a0 : Val) : rE I129 (xAs a0) [Y, F, F, Y, F, F, F] [] = dn (xAo false) [(((Ln (Val.list a0) : Int) : Int) == 0) = true, (((Ln (Val.columns a0) : Int) : Int) == 0) = false, (((Val.kind a0) : Int) == 1) = false, (((Val.kind a0) : Int) == 2) = true, false = false, false = false, false = false] := by kernel_rfl
theorem p129_e_38 (a0 : Val) : rE I129 (xAs a0) [Y, F, F, F, Y, F, F, F] [] = dn (xAo false) [(((Ln (Val.list a0) : Int) : Int) == 0) = true, (((Ln (Val.columns a0) : Int) : Int) == 0) = false, (((Val.kind a0) : Int) == 1) = false, (((Val.kind a0) : Int) == 2) = false, (((Val.kind a0) : Int) == 4) = true, false = false, false = false, false = false] := by kernel_rfl
theorem p129_e_39 (a0 : Val) : rE I129 (xAs a0) [Y, F, F, F, F, Y, F, F, F] [] = dn (xAo false) [(((Ln (Val.list a0) : Int) : Int) == 0) = true, (((Ln (Val.columns a0) : Int) : Int) == 0) = false, (((Val.kind a0) : Int) == 1) = false, (((Val.kind a0) : Int) == 2) = false, (((Val.kind a0) : Int) == 4) = false, (((Val.kind a0) : Int) == 6) = true, false = false, false = false, false = false] := by kernel_rfl
theorem p129_e_40 (a0 : Val) (r1 : Bool) : rE I129 (xAs a0) [Y, F, F, F, F, F, Y, Y, Y, Y, Y] [xBf r1] = dn (xAo r1) [(((Ln (Val.list a0) : Int) : Int) == 0) = true, (((Ln (Val.columns a0) : Int) : Int) == 0) = false, (((Val.kind a0) : Int) == 1) = false, (((Val.kind a0) : Int) == 2) = false, (((Val.kind a0) : Int) == 4) = false, (((Val.kind a0) : Int) == 6) = false, (((Val.kind a0) : Int) == 5) = true, (((Val.n a0) : Int) == 0) = true, (((Val.step a0) : Int) == 0) = true, (((Val.text a0) : Str) == []) = true, (((Ln (Val.list a0) : Int) : Int) == 0) = true, AbC 167 (xD6 a0) (xBf r1)] := by kernel_rfl
theorem p129_e_41 (a0 : Val) : rE I129 (xAs a0) [Y, F, F, F, F, F, Y, Y, Y, F, F] [] = dn (xAo false) [(((Ln (Val.list a0) : Int) : Int) == 0) = true, (((Ln (Val.columns a0) : Int) : Int) == 0) = false, (((Val.kind a0) : Int) == 1) = false, (((Val.kind a0) : Int) == 2) = false, (((Val.kind a0) : Int) == 4) = false, (((Val.kind a0) : Int) == 6) = false, (((Val.kind a0) : Int) == 5) = true, (((Val.n a0) : Int) == 0) = true, (((Val.step a0) : Int) == 0) = true, (((Val.text a0) : Str) == []) = false, false = false] := by kernel_rfl
theorem p129_e_42 (a0 : Val) : rE I129 (xAs a0) [Y, F, F, F, F, F, Y, Y, F, F, F] [] = dn (xAo false) [(((Ln (Val.list a0) : Int) : Int) == 0) = true, (((Ln (Val.columns a0) : Int) : Int) == 0) = false, (((Val.kind a0) : Int) == 1) = false, (((Val.kind a0) : Int) == 2) = false, (((Val.kind a0) : Int) == 4) = false, (((Val.kind a0) : Int) == 6) = false, (((Val.kind a0) : Int) == 5) = true, (((Val.n a0) : Int) == 0) = true, (((Val.step a0) : Int) == 0) = false, false = false, false = false] := by kernel_rfl
theorem p129_e_43 (a0 : Val) : rE I129 (xAs a0) [Y, F, F, F, F, F, Y, F, F, F, F] [] = dn (xAo false) [(((Ln (Val.list a0) : Int) : Int) == 0) = true, (((Ln (Val.columns a0) : Int) : Int) == 0) = false, (((Val.kind a0) : Int) == 1) = false, (((Val.kind a0) : Int) == 2) = false, (((Val.kind a0) : Int) == 4) = false, (((Val.kind a0) : Int) == 6) = false, (((Val.kind a0) : Int) == 5) = true, (((Val.n a0) : Int) == 0) = false, false = false, false = false, false = false] := by kernel_rfl
theorem p129_e_44 (a0 : Val) : rE I129 (xAs a0) [Y, F, F, F, F, F, F, Y] [] = st 15 I129 (xEB (Val.list a0) (Ln (Val.list a0) : Int) 0 a0) [(((Ln (Val.list a0) : Int) : Int) == 0) = true, (((Ln (Val.columns a0) : Int) : Int) == 0) = false, (((Val.kind a0) : Int) == 1) = false, (((Val.kind a0) : Int) == 2) = false, (((Val.kind a0) : Int) == 4) = false, (((Val.kind a0) : Int) == 6) = false, (((Val.kind a0) : Int) == 5) = false, (((Val.kind a0) : Int) == 3) = true] := by kernel_rfl
theorem p129_e_45 (a0 : Val) : rE I129 (xAs a0) [Y, F, F, F, F, F, F, F] [] = dn (xAo false) [(((Ln (Val.list a0) : Int) : Int) == 0) = true, (((Ln (Val.columns a0) : Int) : Int) == 0) = false, (((Val.kind a0) : Int) == 1) = false, (((Val.kind a0) : Int) == 2) = false, (((Val.kind a0) : Int) == 4) = false, (((Val.kind a0) : Int) == 6) = false, (((Val.kind a0) : Int) == 5) = false, (((Val.kind a0) : Int) == 3) = false] := by kernel_rfl
theorem p129_e_46 (a0 : Val) : rE I129 (xAs a0) [F, F, Y, F, F, F] [] = dn (xAo false) [(((Ln (Val.list a0) : Int) : Int) == 0) = false, false = false, (((Val.kind a0) : Int) == 1) = true, false = false, false = false, false = false] := by kernel_rfl
theorem p129_e_47 (a0 : Val) : rE I129 (xAs a0) [F, F, F, Y, F, F, F] [] = dn (xAo false) [(((Ln (Val.list a0) : Int) : Int) == 0) = false, false = false, (((Val.kind a0) : Int) == 1) = false, (((Val.kind a0) : Int) == 2) = true, false = false, false = false, false = false] := by kernel_rfl
theorem p129_e_48 (a0 : Val) : rE I129 (xAs a0) [F, F, F, F, Y, F, F, F] [] = dn (xAo false) [(((Ln (Val.list a0) : Int) : Int) == 0) = false, false = false, (((Val.kind a0) : Int) == 1) = false, (((Val.kind a0) : Int) == 2) = false, (((Val.kind a0) : Int) == 4) = true, false = false, false = false, false = false] := by kernel_rfl
theorem p129_e_49 (a0 : Val) : rE I129 (xAs a0) [F, F, F, F, F, Y, F, F, F] [] = dn (xAo false) [(((Ln (Val.list a0) : Int) : Int) == 0) = false, false = false, (((Val.kind a0) : Int) == 1) = false, (((Val.kind a0) : Int) == 2) = false, (((Val.kind a0) : Int) == 4) = false, (((Val.kind a0) : Int) == 6) = true, false = false, false = false, false = false] := by kernel_rfl
theorem p129_e_50 (a0 : Val) : rE I129 (xAs a0) [F, F, F, F, F, F, Y, Y, Y, Y, F] [] = dn (xAo false) [(((Ln (Val.list a0) : Int) : Int) == 0) = false, false = false, (((Val.kind a0) : Int) == 1) = false, (((Val.kind a0) : Int) == 2) = false, (((Val.kind a0) : Int) == 4) = false, (((Val.kind a0) : Int) == 6) = false, (((Val.kind a0) : Int) == 5) = true, (((Val.n a0) : Int) == 0) = true, (((Val.step a0) : Int) == 0) = true, (((Val.text a0) : Str) == []) = true, (((Ln (Val.list a0) : Int) : Int) == 0) = false] := by kernel_rfl
theorem p129_e_51 (a0 : Val) : rE I129 (xAs a0) [F, F, F, F, F, F, Y, Y, Y, F, F] [] = dn (xAo false) [(((Ln (Val.list a0) : Int) : Int) == 0) = false, false = false, (((Val.kind a0) : Int) == 1) = false, (((Val.kind a0) : Int) == 2) = false, (((Val.kind a0) : Int) == 4) = false, (((Val.kind a0) : Int) == 6) = false, (((Val.kind a0) : Int) == 5) = true, (((Val.n a0) : Int) == 0) = true, (((Val.step a0) : Int) == 0) = true, (((Val.text a0) : Str) == []) = false, false = false] := by kernel_rfl
theorem p129_e_52 (a0 : Val) : rE I129 (xAs a0) [F, F, F, F, F, F, Y, Y, F, F, F] [] = dn (xAo false) [(((Ln (Val.list a0) : Int) : Int) == 0) = false, false = false, (((Val.kind a0) : Int) == 1) = false, (((Val.kind a0) : Int) == 2) = false, (((Val.kind a0) : Int) == 4) = false, (((Val.kind a0) : Int) == 6) = false, (((Val.kind a0) : Int) == 5) = true, (((Val.n a0) : Int) == 0) = true, (((Val.step a0) : Int) == 0) = false, false = false, false = false] := by kernel_rfl
theorem p129_e_53 (a0 : Val) : rE I129 (xAs a0) [F, F, F, F, F, F, Y, F, F, F, F] [] = dn (xAo false) [(((Ln (Val.list a0) : Int) : Int) == 0) = false, false = false, (((Val.kind a0) : Int) == 1) = false, (((Val.kind a0) : Int) == 2) = false, (((Val.kind a0) : Int) == 4) = false, (((Val.kind a0) : Int) == 6) = false, (((Val.kind a0) : Int) == 5) = true, (((Val.n a0) : Int) == 0) = false, false = false, false = false, false = false] := by kernel_rfl
theorem p129_e_54 (a0 : Val) : rE I129 (xAs a0) [F, F, F, F, F, F, F, Y] [] = st 15 I129 (xEB (Val.list a0) (Ln (Val.list a0) : Int) 0 a0) [(((Ln (Val.list a0) : Int) : Int) == 0) = false, false = false, (((Val.kind a0) : Int) == 1) = false, (((Val.kind a0) : Int) == 2) = false, (((Val.kind a0) : Int) == 4) = false, (((Val.kind a0) : Int) == 6) = false, (((Val.kind a0) : Int) == 5) = false, (((Val.kind a0) : Int) == 3) = true] := by kernel_rfl
theorem p129_e_55 (a0 : Val) : rE I129 (xAs a0) [F, F, F, F, F, F, F, F] [] = dn (xAo false) [(((Ln (Val.list a0) : Int) : Int) == 0) = false, false = false, (((Val.kind a0) : Int) == 1) = false, (((Val.kind a0) : Int) == 2) = false, (((Val.kind a0) : Int) == 4) = false, (((Val.kind a0) : Int) == 6) = false, (((Val.kind a0) : Int) == 5) = false, (((Val.kind a0) : Int) == 3) = false] := by kernel_rfl
theorem c129_15 {N : Nat} {q0 : Val → Option (Bool)} (g0 : G129 q0) : ∀ n x124 x125 x126 b1 r, xBh N q0 n x124 x125 x126 b1 = some r → RS Try.f129 I129 15 (xEB x124 x125 x126 b1) (xAo r) := by
 intro n
 induction n with
 | zero => exact fun _ _ _ _ _ h => nE h
 | succ n ih =>
  exact fun x124 x125 x126 b1 r h =>
   cE h (fun h0 h => iE h fun h1 h => cE h (fun h2 h => cE h (fun h3 h => cE h (fun h4 h => dS h xC7 (p129_15_0 x124 x125 x126 b1) (oc h0 (oc h1 (oc h2 (oc h3 (oc h4 (oc rfl on))))))) fun h4 h =>
   bE h fun r1 h5 h => cE h (fun h6 h => dS h xC7 (p129_15_1 x124 x125 x126 b1 r1) (oc h0 (oc h1 (oc h2 (oc h3 (oc h4 (oc (g0 _ _ h5) (oc h6 on)))))))) fun h6 h =>
   tS xC7 (p129_15_2 x124 x125 x126 b1 r1) (oc h0 (oc h1 (oc h2 (oc h3 (oc h4 (oc (g0 _ _ h5) (oc h6 on))))))) (ih _ _ _ _ _ h)) fun h3 h =>
   bE h fun r1 h5 h => cE h (fun h6 h => dS h xC7 (p129_15_3 x124 x125 x126 b1 r1) (oc h0 (oc h1 (oc h2 (oc h3 (oc rfl (oc (g0 _ _ h5) (oc h6 on)))))))) fun h6 h =>
   tS xC7 (p129_15_4 x124 x125 x126 b1 r1) (oc h0 (oc h1 (oc h2 (oc h3 (oc rfl (oc (g0 _ _ h5) (oc h6 on))))))) (ih _ _ _ _ _ h)) fun h2 h =>
   bE h fun r1 h5 h => cE h (fun h6 h => dS h xC7 (p129_15_5 x124 x125 x126 b1 r1) (oc h0 (oc h1 (oc h2 (oc rfl (oc rfl (oc (g0 _ _ h5) (oc h6 on)))))))) fun h6 h =>
   tS xC7 (p129_15_6 x124 x125 x126 b1 r1) (oc h0 (oc h1 (oc h2 (oc rfl (oc rfl (oc (g0 _ _ h5) (oc h6 on))))))) (ih _ _ _ _ _ h)) fun h0 h =>
   cE h (fun h1 h => cE h (fun h2 h => cE h (fun h3 h => cE h (fun h4 h => cE h (fun h5 h => cE h (fun h6 h => bE h fun r1 h7 h => dS h xC7 (p129_15_7 x124 x125 x126 b1 r1) (oc h0 (oc h1 (oc h2 (oc h3 (oc h4 (oc h5 (oc h6 (oc (impl_DepthOf_ok h7) on))))))))) fun h6 h =>
   dS h xC7 (p129_15_8 x124 x125 x126 b1) (oc h0 (oc h1 (oc h2 (oc h3 (oc h4 (oc h5 (oc h6 on)))))))) fun h5 h =>
   dS h xC7 (p129_15_9 x124 x125 x126 b1) (oc h0 (oc h1 (oc h2 (oc h3 (oc h4 (oc h5 (oc rfl on)))))))) fun h4 h =>
   dS h xC7 (p129_15_10 x124 x125 x126 b1) (oc h0 (oc h1 (oc h2 (oc h3 (oc h4 (oc rfl (oc rfl on)))))))) fun h3 h =>
   dS h xC7 (p129_15_11 x124 x125 x126 b1) (oc h0 (oc h1 (oc h2 (oc h3 (oc rfl (oc rfl (oc rfl on)))))))) fun h2 h =>
   dS h xC7 (p129_15_12 x124 x125 x126 b1) (oc h0 (oc h1 (oc h2 (oc rfl (oc rfl (oc rfl (oc rfl on)))))))) fun h1 h =>
   dS h xC7 (p129_15_13 x124 x125 x126 b1) (oc h0 (oc h1 (oc rfl (oc rfl (oc rfl (oc rfl (oc rfl on)))))))
theorem c129_e {N : Nat} {q0 : Val → Option (Bool)} (g0 : G129 q0) : ∀ a0 r, xC8 N q0 a0 = some r → RE Try.f129 I129 (xAs a0) (xAo r) := fun a0 r h =>
 cE h (fun h0 h => cE h (fun h1 h => cE h (fun h2 h => cE h (fun h3 h => cE h (fun h4 h => cE h (fun h5 h => bE h fun r1 h6 h => dE h xC7 (p129_e_14 a0 r1) (oc h0 (oc h1 (oc h2 (oc h3 (oc h4 (oc h5 (oc (xC1 h6) on)))))))) fun h5 h =>
 dE h xC7 (p129_e_15 a0) (oc h0 (oc h1 (oc h2 (oc h3 (oc h4 (oc h5 on))))))) fun h4 h =>
 dE h xC7 (p129_e_16 a0) (oc h0 (oc h1 (oc h2 (oc h3 (oc h4 (oc rfl on))))))) fun h3 h =>
 dE h xC7 (p129_e_17 a0) (oc h0 (oc h1 (oc h2 (oc h3 (oc rfl (oc rfl on))))))) fun h2 h =>
 cE h (fun h3 h => cE h (fun h4 h => cE h (fun h5 h => cE h (fun h6 h => bE h fun r1 h7 h => dE h xC7 (p129_e_18 a0 r1) (oc h0 (oc h1 (oc h2 (oc h3 (oc h4 (oc h5 (oc h6 (oc (xJc h7) on))))))))) fun h6 h =>
 dE h xC7 (p129_e_19 a0) (oc h0 (oc h1 (oc h2 (oc h3 (oc h4 (oc h5 (oc h6 on)))))))) fun h5 h =>
 dE h xC7 (p129_e_20 a0) (oc h0 (oc h1 (oc h2 (oc h3 (oc h4 (oc h5 (oc rfl on)))))))) fun h4 h =>
 dE h xC7 (p129_e_21 a0) (oc h0 (oc h1 (oc h2 (oc h3 (oc h4 (oc rfl (oc rfl on)))))))) fun h3 h =>
 cE h (fun h4 h => cE h (fun h5 h => cE h (fun h6 h => bE h fun r1 h7 h => cE h (fun h8 h => bE h fun r2 h9 h => dE h xC7 (p129_e_22 a0 r1 r2) (oc h0 (oc h1 (oc h2 (oc h3 (oc h4 (oc h5 (oc h6 (oc (xC1 h7) (oc h8 (oc (xC1 h9) on))))))))))) fun h8 h =>
 dE h xC7 (p129_e_23 a0 r1) (oc h0 (oc h1 (oc h2 (oc h3 (oc h4 (oc h5 (oc h6 (oc (xC1 h7) (oc h8 on)))))))))) fun h6 h =>
 dE h xC7 (p129_e_24 a0) (oc h0 (oc h1 (oc h2 (oc h3 (oc h4 (oc h5 (oc h6 (oc rfl on))))))))) fun h5 h =>
 dE h xC7 (p129_e_25 a0) (oc h0 (oc h1 (oc h2 (oc h3 (oc h4 (oc h5 (oc rfl (oc rfl on))))))))) fun h4 h =>
 cE h (fun h5 h => cE h (fun h6 h => cE h (fun h7 h => cE h (fun h8 h => bE h fun r1 h9 h => dE h xC7 (p129_e_26 a0 r1) (oc h0 (oc h1 (oc h2 (oc h3 (oc h4 (oc h5 (oc h6 (oc h7 (oc h8 (oc (xF3 h9) on))))))))))) fun h8 h =>
 dE h xC7 (p129_e_27 a0) (oc h0 (oc h1 (oc h2 (oc h3 (oc h4 (oc h5 (oc h6 (oc h7 (oc h8 on)))))))))) fun h7 h =>
 dE h xC7 (p129_e_28 a0) (oc h0 (oc h1 (oc h2 (oc h3 (oc h4 (oc h5 (oc h6 (oc h7 (oc rfl on)))))))))) fun h6 h =>
 dE h xC7 (p129_e_29 a0) (oc h0 (oc h1 (oc h2 (oc h3 (oc h4 (oc h5 (oc h6 (oc rfl (oc rfl on)))))))))) fun h5 h =>
 cE h (fun h6 h => cE h (fun h7 h => cE h (fun h8 h => cE h (fun h9 h => bE h fun r1 h11 h => dE h xC7 (p129_e_30 a0 r1) (oc h0 (oc h1 (oc h2 (oc h3 (oc h4 (oc h5 (oc h6 (oc h7 (oc h8 (oc h9 (oc h0 (oc (xIH h11) on))))))))))))) fun h9 h =>
 dE h xC7 (p129_e_31 a0) (oc h0 (oc h1 (oc h2 (oc h3 (oc h4 (oc h5 (oc h6 (oc h7 (oc h8 (oc h9 (oc rfl on)))))))))))) fun h8 h =>
 dE h xC7 (p129_e_32 a0) (oc h0 (oc h1 (oc h2 (oc h3 (oc h4 (oc h5 (oc h6 (oc h7 (oc h8 (oc rfl (oc rfl on)))))))))))) fun h7 h =>
 dE h xC7 (p129_e_33 a0) (oc h0 (oc h1 (oc h2 (oc h3 (oc h4 (oc h5 (oc h6 (oc h7 (oc rfl (oc rfl (oc rfl on)))))))))))) fun h6 h =>
 cE h (fun h7 h => tE xC7 (p129_e_34 a0) (oc h0 (oc h1 (oc h2 (oc h3 (oc h4 (oc h5 (oc h6 (oc h7 on)))))))) (c129_15 g0 _ _ _ _ _ _ h)) fun h7 h =>
 dE h xC7 (p129_e_35 a0) (oc h0 (oc h1 (oc h2 (oc h3 (oc h4 (oc h5 (oc h6 (oc h7 on))))))))) fun h1 h =>
 cE h (fun h2 h => dE h xC7 (p129_e_36 a0) (oc h0 (oc h1 (oc h2 (oc rfl (oc rfl (oc rfl on))))))) fun h2 h =>
 cE h (fun h3 h => dE h xC7 (p129_e_37 a0) (oc h0 (oc h1 (oc h2 (oc h3 (oc rfl (oc rfl (oc rfl on)))))))) fun h3 h =>
 cE h (fun h4 h => dE h xC7 (p129_e_38 a0) (oc h0 (oc h1 (oc h2 (oc h3 (oc h4 (oc rfl (oc rfl (oc rfl on))))))))) fun h4 h =>
 cE h (fun h5 h => dE h xC7 (p129_e_39 a0) (oc h0 (oc h1 (oc h2 (oc h3 (oc h4 (oc h5 (oc rfl (oc rfl (oc rfl on)))))))))) fun h5 h =>
 cE h (fun h6 h => cE h (fun h7 h => cE h (fun h8 h => cE h (fun h9 h => bE h fun r1 h11 h => dE h xC7 (p129_e_40 a0 r1) (oc h0 (oc h1 (oc h2 (oc h3 (oc h4 (oc h5 (oc h6 (oc h7 (oc h8 (oc h9 (oc h0 (oc (xIH h11) on))))))))))))) fun h9 h =>
 dE h xC7 (p129_e_41 a0) (oc h0 (oc h1 (oc h2 (oc h3 (oc h4 (oc h5 (oc h6 (oc h7 (oc h8 (oc h9 (oc rfl on)))))))))))) fun h8 h =>
 dE h xC7 (p129_e_42 a0) (oc h0 (oc h1 (oc h2 (oc h3 (oc h4 (oc h5 (oc h6 (oc h7 (oc h8 (oc rfl (oc rfl on)))))))))))) fun h7 h =>
 dE h xC7 (p129_e_43 a0) (oc h0 (oc h1 (oc h2 (oc h3 (oc h4 (oc h5 (oc h6 (oc h7 (oc rfl (oc rfl (oc rfl on)))))))))))) fun h6 h =>
 cE h (fun h7 h => tE xC7 (p129_e_44 a0) (oc h0 (oc h1 (oc h2 (oc h3 (oc h4 (oc h5 (oc h6 (oc h7 on)))))))) (c129_15 g0 _ _ _ _ _ _ h)) fun h7 h =>
 dE h xC7 (p129_e_45 a0) (oc h0 (oc h1 (oc h2 (oc h3 (oc h4 (oc h5 (oc h6 (oc h7 on))))))))) fun h0 h =>
 cE h (fun h2 h => dE h xC7 (p129_e_46 a0) (oc h0 (oc rfl (oc h2 (oc rfl (oc rfl (oc rfl on))))))) fun h2 h =>
 cE h (fun h3 h => dE h xC7 (p129_e_47 a0) (oc h0 (oc rfl (oc h2 (oc h3 (oc rfl (oc rfl (oc rfl on)))))))) fun h3 h =>
 cE h (fun h4 h => dE h xC7 (p129_e_48 a0) (oc h0 (oc rfl (oc h2 (oc h3 (oc h4 (oc rfl (oc rfl (oc rfl on))))))))) fun h4 h =>
 cE h (fun h5 h => dE h xC7 (p129_e_49 a0) (oc h0 (oc rfl (oc h2 (oc h3 (oc h4 (oc h5 (oc rfl (oc rfl (oc rfl on)))))))))) fun h5 h =>
 cE h (fun h6 h => cE h (fun h7 h => cE h (fun h8 h => cE h (fun h9 h => dE h xC7 (p129_e_50 a0) (oc h0 (oc rfl (oc h2 (oc h3 (oc h4 (oc h5 (oc h6 (oc h7 (oc h8 (oc h9 (oc h0 on)))))))))))) fun h9 h =>
 dE h xC7 (p129_e_51 a0) (oc h0 (oc rfl (oc h2 (oc h3 (oc h4 (oc h5 (oc h6 (oc h7 (oc h8 (oc h9 (oc rfl on)))))))))))) fun h8 h =>
 dE h xC7 (p129_e_52 a0) (oc h0 (oc rfl (oc h2 (oc h3 (oc h4 (oc h5 (oc h6 (oc h7 (oc h8 (oc rfl (oc rfl on)))))))))))) fun h7 h =>
 dE h xC7 (p129_e_53 a0) (oc h0 (oc rfl (oc h2 (oc h3 (oc h4 (oc h5 (oc h6 (oc h7 (oc rfl (oc rfl (oc rfl on)))))))))))) fun h6 h =>
 cE h (fun h7 h => tE xC7 (p129_e_54 a0) (oc h0 (oc rfl (oc h2 (oc h3 (oc h4 (oc h5 (oc h6 (oc h7 on)))))))) (c129_15 g0 _ _ _ _ _ _ h)) fun h7 h =>
 dE h xC7 (p129_e_55 a0) (oc h0 (oc rfl (oc h2 (oc h3 (oc h4 (oc h5 (oc h6 (oc h7 on))))))))
theorem xHZ {N : Nat} {q0 : Val → Option (Bool)} (g0 : G129 q0) {a0 : Val} {r : Bool} (h : xC8 N q0 a0 = some r) : AbC 129 (xAs a0) (xAo r) :=
 AbsCalls.of_reach xC7 rfl rfl (Nat.le_of_ble_eq_true rfl) (c129_e g0 a0 r h)
theorem xGo {N : Nat} : ∀ d, G129 (xBi N d)
 | 0 => fun _ _ h => nE h
 | d + 1 => fun _ _ h => xHZ (N := N) (xGo d) h
theorem xFX {N : Nat} {a0 : Val} {r : Bool} (h : xGM N a0 = some r) : AbC 129 (xAs a0) (xAo r) := xGo N _ r h
noncomputable def I67 : Info := { body := (Try.f67.body).getD .skip, nt := 5, results := [.cell 2 31], keep := [0, 4, 5], live := [], modes := [] }
theorem fk67 : FnOk Try.prog 67 Try.f67 I67 := ⟨Try.func67, by kernel_rfl, by kernel_rfl, by kernel_rfl, by kernel_rfl⟩
theorem p67_e_0 (a0 : Int) : rE I67 (xAD a0) [] [] = dn (xAj (Val.mk 6 a0 0 [] [] [] [])) [] := by kernel_rfl
theorem c67_e {N : Nat} : ∀ a0 r, xAH N a0 = some r → RE Try.f67 I67 (xAD a0) (xAj r) := fun a0 r h =>
 dE h fk67 (p67_e_0 a0) on
theorem xAE {N : Nat} {a0 : Int} {r : Val} (h : xAH N  a0 = some r) : AbC 67 (xAD a0) (xAj r) :=
 AbsCalls.of_reach fk67 rfl rfl (Nat.le_of_ble_eq_true rfl) (c67_e a0 r h)
theorem xII {P : Program} {f : FuncId} {ags : List Arg} {r : Val × Bool × Bool} (h : AbsCalls P f ags (xBt r)) (ht : r.2.2 = true) : AbsCalls P f ags (xFF r) := by
 unfold xBt at h; rw [ht] at h; exact h
theorem xAG {P : Program} {f : FuncId} {ags : List Arg} {r : Val × Bool × Bool} (h : AbsCalls P f ags (xBt r)) (ht : r.2.2 = false) : AbsCalls P f ags (xAm r) := by
 unfold xBt at h; rw [ht] at h; exact h
theorem xAF {P : Program} {f : FuncId} {ags : List Arg} {r : Val × Bool × Bool} (h : AbsCalls P f ags (xBt r)) (ht : r.2.2 = true) (e0 : List.isEmpty (Val.list r.1) = true) (e1 : List.isEmpty (Val.columns r.1) = true) (e2 : List.isEmpty (Val.rows r.1) = true) : AbsCalls P f ags (xAn r) := by
 have h := xII h ht
 unfold xFF at h; rw [List.isEmpty_iff.1 e0, List.isEmpty_iff.1 e1, List.isEmpty_iff.1 e2] at h; exact h
noncomputable def I65 : Info := { body := (Try.f65.body).getD .skip, nt := 22, results := [.cell 2 31, .tmp 3], keep := [0, 4, 6, 10, 12, 14, 16, 18, 28, 36, 5, 11], live := [(2, [4, 12, 14, 16, 5])], modes := [(8, [(1, .take, false)])] }
theorem fk65 : FnOk Try.prog 65 Try.f65 I65 := ⟨Try.func65, by kernel_rfl, by kernel_rfl, by kernel_rfl, by kernel_rfl⟩
def S65_2 (x6 : List Val) (x7 x8 : Int) (b2 : Val) : St := [(4, .v false [.ptr 2 0]), (12, .v false [.sl .ro .val x6]), (14, .v false [.int .i64 x7]), (16, .v false [.int .i64 x8]), (5, .v true [.int .i64 (Val.kind b2), .int .i64 (Val.n b2), .int .i64 (Val.step b2), .str (Val.text b2), .sl .own .val (Val.list b2), .sl .own .str (Val.columns b2), .sl .own .row (Val.rows b2)])]
theorem p65_2_0 (x6 : List Val) (x7 x8 : Int) (b2 : Val) (r1 : Bool) (r2 : Val) : rS 2 I65 (S65_2 x6 x7 x8 b2) [Y, Y] [xAo r1, xAj r2] = dn (xBt (r2, true, false)) [(decide ((x8 : Int) < x7)) = true, (0 : Int) ≤ x8 ∧ x8 < (Ln x6), AbC 129 (xAs (gD x6 (tN x8) vd)) (xAo r1), (!r1) = true, AbC 67 (xAD 4) (xAj r2)] := by kernel_rfl
theorem p65_2_1 (x6 : List Val) (x7 x8 : Int) (b2 : Val) (r1 : Bool) : rS 2 I65 (S65_2 x6 x7 x8 b2) [Y, F, Y] [xAo r1] = dn (xBt ((gD x6 (tN x8) vd), true, true)) [(decide ((x8 : Int) < x7)) = true, (0 : Int) ≤ x8 ∧ x8 < (Ln x6), AbC 129 (xAs (gD x6 (tN x8) vd)) (xAo r1), (!r1) = false, (((Val.kind (gD x6 (tN x8) vd)) : Int) == 6) = true] := by kernel_rfl
theorem p65_2_2 (x6 : List Val) (x7 x8 : Int) (b2 : Val) (r1 : Bool) : rS 2 I65 (S65_2 x6 x7 x8 b2) [Y, F, F] [xAo r1] = st 2 I65 (S65_2 x6 x7 (W (x8 + 1)) b2) [(decide ((x8 : Int) < x7)) = true, (0 : Int) ≤ x8 ∧ x8 < (Ln x6), AbC 129 (xAs (gD x6 (tN x8) vd)) (xAo r1), (!r1) = false, (((Val.kind (gD x6 (tN x8) vd)) : Int) == 6) = false] := by kernel_rfl
theorem p65_2_3 (x6 : List Val) (x7 x8 : Int) (b2 : Val) : rS 2 I65 (S65_2 x6 x7 x8 b2) [F] [] = dn (xBt ((Val.mk 0 0 0 [] [] [] []), false, false)) [(decide ((x8 : Int) < x7)) = false] := by kernel_rfl
theorem p65_e_4 (a0 : List Val) : rE I65 (xAp a0) [] [] = st 2 I65 (S65_2 a0 (Ln a0 : Int) 0 (Val.mk 0 0 0 [] [] [] [])) [] := by kernel_rfl
theorem c65_2 {N : Nat} : ∀ n x6 x7 x8 b2 r, xCf N n x6 x7 x8 b2 = some r → RS Try.f65 I65 2 (S65_2 x6 x7 x8 b2) (xBt r) := by
 intro n
 induction n with
 | zero => exact fun _ _ _ _ _ h => nE h
 | succ n ih =>
  exact fun x6 x7 x8 b2 r h =>
   cE h (fun h0 h => iE h fun h1 h => bE h fun r1 h2 h => cE h (fun h3 h => bE h fun r2 h4 h => dS h fk65 (p65_2_0 x6 x7 x8 b2 r1 r2) (oc h0 (oc h1 (oc (xFX h2) (oc h3 (oc (xAE h4) on)))))) fun h3 h =>
   cE h (fun h4 h => dS h fk65 (p65_2_1 x6 x7 x8 b2 r1) (oc h0 (oc h1 (oc (xFX h2) (oc h3 (oc h4 on)))))) fun h4 h =>
   tS fk65 (p65_2_2 x6 x7 x8 b2 r1) (oc h0 (oc h1 (oc (xFX h2) (oc h3 (oc h4 on))))) (ih _ _ _ _ _ h)) fun h0 h =>
   dS h fk65 (p65_2_3 x6 x7 x8 b2) (oc h0 on)
theorem c65_e {N : Nat} : ∀ a0 r, xEP N a0 = some r → RE Try.f65 I65 (xAp a0) (xBt r) := fun a0 r h =>
 tE fk65 (p65_e_4 a0) on (c65_2 _ _ _ _ _ _ h)
theorem xAq {N : Nat} {a0 : List Val} {r : Val × Bool × Bool} (h : xEP N  a0 = some r) : AbC 65 (xAp a0) (xBt r) :=
 AbsCalls.of_reach fk65 rfl rfl (Nat.le_of_ble_eq_true rfl) (c65_e a0 r h)
noncomputable def I106 : Info := { body := (Try.f106.body).getD .skip, nt := 5, results := [.cell 2 31], keep := [0, 4, 5], live := [], modes := [] }
theorem fk106 : FnOk Try.prog 106 Try.f106 I106 := ⟨Try.func106, by kernel_rfl, by kernel_rfl, by kernel_rfl, by kernel_rfl⟩
theorem p106_e_0 (a0 : Int) : rE I106 (xDb a0) [] [] = dn (xB0 (Val.mk 1 a0 0 [] [] [] [])) [] := by kernel_rfl
theorem c106_e {N : Nat} : ∀ a0 r, xEj N a0 = some r → RE Try.f106 I106 (xDb a0) (xB0 r) := fun a0 r h =>
 dE h fk106 (p106_e_0 a0) on
theorem xGm {N : Nat} {a0 : Int} {r : Val} (h : xEj N  a0 = some r) : AbC 106 (xDb a0) (xB0 r) :=
 AbsCalls.of_reach fk106 rfl rfl (Nat.le_of_ble_eq_true rfl) (c106_e a0 r h)
noncomputable def I66 : Info := { body := (Try.f66.body).getD .skip, nt := 9, results := [.cell 2 31], keep := [0, 4, 10, 5], live := [], modes := [] }
theorem fk66 : FnOk Try.prog 66 Try.f66 I66 := ⟨Try.func66, by kernel_rfl, by kernel_rfl, by kernel_rfl, by kernel_rfl⟩
theorem p66_e_0 (a0 : Int) (r1 : Bool) (r2 : Val) : rE I66 (xBu a0) [Y] [xA7 r1, xAj r2] = dn (xA1 r2) [AbC 90 (xB7 a0) (xA7 r1), (!r1) = true, AbC 67 (xAD 5) (xAj r2)] := by kernel_rfl
theorem p66_e_1 (a0 : Int) (r1 : Bool) (r2 : Val) : rE I66 (xBu a0) [F] [xA7 r1, xB0 r2] = dn (xA1 r2) [AbC 90 (xB7 a0) (xA7 r1), (!r1) = false, AbC 106 (xDb a0) (xB0 r2)] := by kernel_rfl
theorem c66_e {N : Nat} : ∀ a0 r, xBT N a0 = some r → RE Try.f66 I66 (xBu a0) (xA1 r) := fun a0 r h =>
 bE h fun r1 h0 h => cE h (fun h1 h => bE h fun r2 h2 h => dE h fk66 (p66_e_0 a0 r1 r2) (oc (xC1 h0) (oc h1 (oc (xAE h2) on)))) fun h1 h =>
 bE h fun r2 h2 h => dE h fk66 (p66_e_1 a0 r1 r2) (oc (xC1 h0) (oc h1 (oc (xGm h2) on)))
theorem xCK {N : Nat} {a0 : Int} {r : Val} (h : xBT N  a0 = some r) : AbC 66 (xBu a0) (xA1 r) :=
 AbsCalls.of_reach fk66 rfl rfl (Nat.le_of_ble_eq_true rfl) (c66_e a0 r h)
noncomputable def I68 : Info := { body := (Try.f68.body).getD .skip, nt := 5, results := [.cell 2 31], keep := [0, 4, 5], live := [], modes := [] }
theorem fk68 : FnOk Try.prog 68 Try.f68 I68 := ⟨Try.func68, by kernel_rfl, by kernel_rfl, by kernel_rfl, by kernel_rfl⟩
theorem p68_e_0 (a0 : Str) : rE I68 (xEN a0) [] [] = dn (xDc (Val.mk 2 0 0 a0 [] [] [])) [] := by kernel_rfl
theorem c68_e {N : Nat} : ∀ a0 r, xF1 N a0 = some r → RE Try.f68 I68 (xEN a0) (xDc r) := fun a0 r h =>
 dE h fk68 (p68_e_0 a0) on
theorem xH4 {N : Nat} {a0 : Str} {r : Val} (h : xF1 N  a0 = some r) : AbC 68 (xEN a0) (xDc r) :=
 AbsCalls.of_reach fk68 rfl rfl (Nat.le_of_ble_eq_true rfl) (c68_e a0 r h)
noncomputable def I143 : Info := { body := (Try.f143.body).getD .skip, nt := 12, results := [.cell 2 107], keep := [0, 2, 4, 3, 5], live := [], modes := [] }
theorem fk143 : FnOk Try.prog 143 Try.f143 I143 := ⟨Try.func143, by kernel_rfl, by kernel_rfl, by kernel_rfl, by kernel_rfl⟩
theorem p143_e_0 (a0 : Rowd) : rE I143 (xGv a0) [] [] = dn (xFD (Rowd.mk ([] ++ (Rowd.cells a0)) ([] ++ (Rowd.frm a0)))) [0 + Ln (Rowd.cells a0) ≤ Lim, 0 + Ln (Rowd.frm a0) ≤ Lim] := by kernel_rfl
theorem c143_e {N : Nat} : ∀ a0 r, xHO N a0 = some r → RE Try.f143 I143 (xGv a0) (xFD r) := fun a0 r h =>
 iE h fun h0 h => iE h fun h1 h => dE h fk143 (p143_e_0 a0) (oc h0 (oc h1 on))
theorem impl_copyRow_ok {N : Nat} {a0 : Rowd} {r : Rowd} (h : xHO N  a0 = some r) : AbC 143 (xGv a0) (xFD r) :=
 AbsCalls.of_reach fk143 rfl rfl (Nat.le_of_ble_eq_true rfl) (c143_e a0 r h)
end Go.Ab.T
end
