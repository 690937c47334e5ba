/- The statement FnExactAddColumn holds: plain functions, certificates, laws. Conditions: none. -/
import Derived.Test.YthbobcapimmnhaaL2
import Derived.Test.YthbobcapimmnhaaFnExactAddColumnP0
set_option linter.all false
section
open Go.Proofs
namespace Go.Ab.T
set_option linter.unusedVariables false
set_option maxRecDepth 100000
variable [Inhabited Lb]
noncomputable def I28 : Info := { body := (Try.f28.body).getD .skip, nt := 5, results := [.tmp 2], keep := [0, 4], live := [], modes := [] }
theorem fk28 : FnOk Try.prog 28 Try.f28 I28 := ⟨Try.func28, by kernel_rfl, by kernel_rfl, by kernel_rfl, by kernel_rfl⟩
theorem p28_e_0 (a0 : Int) (r1 : Bool) : rE I28 (xBQ a0) [] [xBI r1] = dn (xA2 r1) [AbC 52 (xC0 a0 (-1000000000) 1000000000) (xBI r1)] := by kernel_rfl
theorem c28_e {N : Nat} : ∀ a0 r, xDk N a0 = some r → RE Try.f28 I28 (xBQ a0) (xA2 r) := fun a0 r h =>
 bE h fun r1 h0 h => dE h fk28 (p28_e_0 a0 r1) (oc (xFb h0) on)
theorem xCJ {N : Nat} {a0 : Int} {r : Bool} (h : xDk N  a0 = some r) : AbC 28 (xBQ a0) (xA2 r) :=
 AbsCalls.of_reach fk28 rfl rfl (Nat.le_of_ble_eq_true rfl) (c28_e a0 r h)
noncomputable def I74 : Info := { body := (Try.f74.body).getD .skip, nt := 29, results := [.tmp 2], keep := [0, 4, 6, 14, 50], live := [(2, [0, 6])], modes := [(4, [(4, .take, false), (10, .take, false)])] }
theorem fk74 : FnOk Try.prog 74 Try.f74 I74 := ⟨Try.func74, by kernel_rfl, by kernel_rfl, by kernel_rfl, by kernel_rfl⟩
def S74_2 (x0 : Str) (x3 : Int) : St := [(0, .v false [.str x0]), (6, .v false [.int .i64 x3])]
theorem p74_2_0 (x0 : Str) (x3 : Int) : rS 2 I74 (S74_2 x0 x3) [Y, Y, Y, Y] [] = dn (xBN false) [(decide ((x3 : Int) < (Ln x0 : Int))) = true, (0 : Int) ≤ x3 ∧ x3 < (Ln x0), (decide ((((gD x0 (tN x3) 0).toNat : Int) : Int) < 32)) = true, true = true, true = true] := by kernel_rfl
theorem p74_2_1 (x0 : Str) (x3 : Int) : rS 2 I74 (S74_2 x0 x3) [Y, F, Y, Y] [] = dn (xBN false) [(decide ((x3 : Int) < (Ln x0 : Int))) = true, (0 : Int) ≤ x3 ∧ x3 < (Ln x0), (decide ((((gD x0 (tN x3) 0).toNat : Int) : Int) < 32)) = false, (0 : Int) ≤ x3 ∧ x3 < (Ln x0), (decide ((((gD x0 (tN x3) 0).toNat : Int) : Int) > 126)) = true, true = true] := by kernel_rfl
theorem p74_2_2 (x0 : Str) (x3 : Int) : rS 2 I74 (S74_2 x0 x3) [Y, F, F, Y] [] = dn (xBN false) [(decide ((x3 : Int) < (Ln x0 : Int))) = true, (0 : Int) ≤ x3 ∧ x3 < (Ln x0), (decide ((((gD x0 (tN x3) 0).toNat : Int) : Int) < 32)) = false, (0 : Int) ≤ x3 ∧ x3 < (Ln x0), (decide ((((gD x0 (tN x3) 0).toNat : Int) : Int) > 126)) = false, (0 : Int) ≤ x3 ∧ x3 < (Ln x0), ((((gD x0 (tN x3) 0).toNat : Int) : Int) == 34) = true] := by kernel_rfl
theorem p74_2_3 (x0 : Str) (x3 : Int) : rS 2 I74 (S74_2 x0 x3) [Y, F, F, F] [] = st 2 I74 (S74_2 x0 (W (x3 + 1))) [(decide ((x3 : Int) < (Ln x0 : Int))) = true, (0 : Int) ≤ x3 ∧ x3 < (Ln x0), (decide ((((gD x0 (tN x3) 0).toNat : Int) : Int) < 32)) = false, (0 : Int) ≤ x3 ∧ x3 < (Ln x0), (decide ((((gD x0 (tN x3) 0).toNat : Int) : Int) > 126)) = false, (0 : Int) ≤ x3 ∧ x3 < (Ln x0), ((((gD x0 (tN x3) 0).toNat : Int) : Int) == 34) = false] := by kernel_rfl
theorem p74_2_4 (x0 : Str) (x3 : Int) : rS 2 I74 (S74_2 x0 x3) [F] [] = dn (xBN (decide (((Ln x0 : Int) : Int) ≤ 20))) [(decide ((x3 : Int) < (Ln x0 : Int))) = false] := by kernel_rfl
theorem p74_e_5 (a0 : Str) : rE I74 (xEn a0) [] [] = st 2 I74 (S74_2 a0 0) [] := by kernel_rfl
theorem c74_2 {N : Nat} : ∀ n x0 x3 r, xDA N n x0 x3 = some r → RS Try.f74 I74 2 (S74_2 x0 x3) (xBN r) := by
 intro n
 induction n with
 | zero => exact fun _ _ _ h => nE h
 | succ n ih =>
  exact fun x0 x3 r h =>
   cE h (fun h0 h => iE h fun h1 h => cE h (fun h2 h => dS h fk74 (p74_2_0 x0 x3) (oc h0 (oc h1 (oc h2 (oc rfl (oc rfl on)))))) fun h2 h =>
   cE h (fun h4 h => dS h fk74 (p74_2_1 x0 x3) (oc h0 (oc h1 (oc h2 (oc h1 (oc h4 (oc rfl on))))))) fun h4 h =>
   cE h (fun h6 h => dS h fk74 (p74_2_2 x0 x3) (oc h0 (oc h1 (oc h2 (oc h1 (oc h4 (oc h1 (oc h6 on)))))))) fun h6 h =>
   tS fk74 (p74_2_3 x0 x3) (oc h0 (oc h1 (oc h2 (oc h1 (oc h4 (oc h1 (oc h6 on))))))) (ih _ _ _ h)) fun h0 h =>
   dS h fk74 (p74_2_4 x0 x3) (oc h0 on)
theorem c74_e {N : Nat} : ∀ a0 r, xFj N a0 = some r → RE Try.f74 I74 (xEn a0) (xBN r) := fun a0 r h =>
 tE fk74 (p74_e_5 a0) on (c74_2 _ _ _ _ h)
theorem xH5 {N : Nat} {a0 : Str} {r : Bool} (h : xFj N  a0 = some r) : AbC 74 (xEn a0) (xBN r) :=
 AbsCalls.of_reach fk74 rfl rfl (Nat.le_of_ble_eq_true rfl) (c74_e a0 r h)
noncomputable def I48 : Info := { body := (Try.f48.body).getD .skip, nt := 42, results := [.tmp 2], keep := [0, 4, 6, 8, 16, 76], live := [(2, [0, 6])], modes := [(4, [(4, .take, false)]), (5, [(0, .take, false), (2, .take, false), (5, .take, false), (11, .take, false)])] }
theorem fk48 : FnOk Try.prog 48 Try.f48 I48 := ⟨Try.func48, by kernel_rfl, by kernel_rfl, by kernel_rfl, by kernel_rfl⟩
def xH0 (x0 : Str) (x3 : Int) : St := [(0, .v false [.str x0]), (6, .v false [.int .i64 x3])]
theorem p48_2_0 (x0 : Str) (x3 : Int) : rS 2 I48 (xH0 x0 x3) [Y, Y, Y, Y, Y, Y] [] = dn (xBH false) [(decide ((x3 : Int) < (Ln x0 : Int))) = true, (0 : Int) ≤ x3 ∧ x3 < (Ln x0), (decide ((((gD x0 (tN x3) 0).toNat : Int) : Int) ≥ 97)) = true, (0 : Int) ≤ x3 ∧ x3 < (Ln x0), (!(decide ((((gD x0 (tN x3) 0).toNat : Int) : Int) ≤ 122))) = true, ((x3 : Int) == 0) = true, true = true, true = true] := by kernel_rfl
theorem p48_2_1 (x0 : Str) (x3 : Int) : rS 2 I48 (xH0 x0 x3) [Y, Y, Y, F, Y, Y] [] = dn (xBH false) [(decide ((x3 : Int) < (Ln x0 : Int))) = true, (0 : Int) ≤ x3 ∧ x3 < (Ln x0), (decide ((((gD x0 (tN x3) 0).toNat : Int) : Int) ≥ 97)) = true, (0 : Int) ≤ x3 ∧ x3 < (Ln x0), (!(decide ((((gD x0 (tN x3) 0).toNat : Int) : Int) ≤ 122))) = true, ((x3 : Int) == 0) = false, (0 : Int) ≤ x3 ∧ x3 < (Ln x0), (decide ((((gD x0 (tN x3) 0).toNat : Int) : Int) < 48)) = true, true = true] := by kernel_rfl
theorem p48_2_2 (x0 : Str) (x3 : Int) : rS 2 I48 (xH0 x0 x3) [Y, Y, Y, F, F, Y] [] = dn (xBH false) [(decide ((x3 : Int) < (Ln x0 : Int))) = true, (0 : Int) ≤ x3 ∧ x3 < (Ln x0), (decide ((((gD x0 (tN x3) 0).toNat : Int) : Int) ≥ 97)) = true, (0 : Int) ≤ x3 ∧ x3 < (Ln x0), (!(decide ((((gD x0 (tN x3) 0).toNat : Int) : Int) ≤ 122))) = true, ((x3 : Int) == 0) = false, (0 : Int) ≤ x3 ∧ x3 < (Ln x0), (decide ((((gD x0 (tN x3) 0).toNat : Int) : Int) < 48)) = false, (0 : Int) ≤ x3 ∧ x3 < (Ln x0), (decide ((((gD x0 (tN x3) 0).toNat : Int) : Int) > 57)) = true] := by kernel_rfl
theorem p48_2_3 (x0 : Str) (x3 : Int) : rS 2 I48 (xH0 x0 x3) [Y, Y, Y, F, F, F] [] = st 2 I48 (xH0 x0 (W (x3 + 1))) [(decide ((x3 : Int) < (Ln x0 : Int))) = true, (0 : Int) ≤ x3 ∧ x3 < (Ln x0), (decide ((((gD x0 (tN x3) 0).toNat : Int) : Int) ≥ 97)) = true, (0 : Int) ≤ x3 ∧ x3 < (Ln x0), (!(decide ((((gD x0 (tN x3) 0).toNat : Int) : Int) ≤ 122))) = true, ((x3 : Int) == 0) = false, (0 : Int) ≤ x3 ∧ x3 < (Ln x0), (decide ((((gD x0 (tN x3) 0).toNat : Int) : Int) < 48)) = false, (0 : Int) ≤ x3 ∧ x3 < (Ln x0), (decide ((((gD x0 (tN x3) 0).toNat : Int) : Int) > 57)) = false] := by kernel_rfl
theorem p48_2_4 (x0 : Str) (x3 : Int) : rS 2 I48 (xH0 x0 x3) [Y, Y, F, F] [] = st 2 I48 (xH0 x0 (W (x3 + 1))) [(decide ((x3 : Int) < (Ln x0 : Int))) = true, (0 : Int) ≤ x3 ∧ x3 < (Ln x0), (decide ((((gD x0 (tN x3) 0).toNat : Int) : Int) ≥ 97)) = true, (0 : Int) ≤ x3 ∧ x3 < (Ln x0), (!(decide ((((gD x0 (tN x3) 0).toNat : Int) : Int) ≤ 122))) = false, false = false] := by kernel_rfl
theorem p48_2_5 (x0 : Str) (x3 : Int) : rS 2 I48 (xH0 x0 x3) [Y, F, Y, Y, Y, Y] [] = dn (xBH false) [(decide ((x3 : Int) < (Ln x0 : Int))) = true, (0 : Int) ≤ x3 ∧ x3 < (Ln x0), (decide ((((gD x0 (tN x3) 0).toNat : Int) : Int) ≥ 97)) = false, (!false) = true, ((x3 : Int) == 0) = true, true = true, true = true] := by kernel_rfl
theorem p48_2_6 (x0 : Str) (x3 : Int) : rS 2 I48 (xH0 x0 x3) [Y, F, Y, F, Y, Y] [] = dn (xBH false) [(decide ((x3 : Int) < (Ln x0 : Int))) = true, (0 : Int) ≤ x3 ∧ x3 < (Ln x0), (decide ((((gD x0 (tN x3) 0).toNat : Int) : Int) ≥ 97)) = false, (!false) = true, ((x3 : Int) == 0) = false, (0 : Int) ≤ x3 ∧ x3 < (Ln x0), (decide ((((gD x0 (tN x3) 0).toNat : Int) : Int) < 48)) = true, true = true] := by kernel_rfl
theorem p48_2_7 (x0 : Str) (x3 : Int) : rS 2 I48 (xH0 x0 x3) [Y, F, Y, F, F, Y] [] = dn (xBH false) [(decide ((x3 : Int) < (Ln x0 : Int))) = true, (0 : Int) ≤ x3 ∧ x3 < (Ln x0), (decide ((((gD x0 (tN x3) 0).toNat : Int) : Int) ≥ 97)) = false, (!false) = true, ((x3 : Int) == 0) = false, (0 : Int) ≤ x3 ∧ x3 < (Ln x0), (decide ((((gD x0 (tN x3) 0).toNat : Int) : Int) < 48)) = false, (0 : Int) ≤ x3 ∧ x3 < (Ln x0), (decide ((((gD x0 (tN x3) 0).toNat : Int) : Int) > 57)) = true] := by kernel_rfl
theorem p48_2_8 (x0 : Str) (x3 : Int) : rS 2 I48 (xH0 x0 x3) [Y, F, Y, F, F, F] [] = st 2 I48 (xH0 x0 (W (x3 + 1))) [(decide ((x3 : Int) < (Ln x0 : Int))) = true, (0 : Int) ≤ x3 ∧ x3 < (Ln x0), (decide ((((gD x0 (tN x3) 0).toNat : Int) : Int) ≥ 97)) = false, (!false) = true, ((x3 : Int) == 0) = false, (0 : Int) ≤ x3 ∧ x3 < (Ln x0), (decide ((((gD x0 (tN x3) 0).toNat : Int) : Int) < 48)) = false, (0 : Int) ≤ x3 ∧ x3 < (Ln x0), (decide ((((gD x0 (tN x3) 0).toNat : Int) : Int) > 57)) = false] := by kernel_rfl
theorem p48_2_9 (x0 : Str) (x3 : Int) (r1 : Bool) : rS 2 I48 (xH0 x0 x3) [F] [xBI r1] = dn (xBH r1) [(decide ((x3 : Int) < (Ln x0 : Int))) = false, AbC 52 (xC0 (Ln x0 : Int) 1 8) (xBI r1)] := by kernel_rfl
theorem p48_e_10 (a0 : Str) : rE I48 (xE9 a0) [] [] = st 2 I48 (xH0 a0 0) [] := by kernel_rfl
theorem c48_2 {N : Nat} : ∀ n x0 x3 r, xCZ N n x0 x3 = some r → RS Try.f48 I48 2 (xH0 x0 x3) (xBH r) := by
 intro n
 induction n with
 | zero => exact fun _ _ _ h => nE h
 | succ n ih =>
  exact fun x0 x3 r h =>
   cE h (fun h0 h => iE h fun h1 h => cE h (fun h2 h => cE h (fun h4 h => cE h (fun h5 h => dS h fk48 (p48_2_0 x0 x3) (oc h0 (oc h1 (oc h2 (oc h1 (oc h4 (oc h5 (oc rfl (oc rfl on))))))))) fun h5 h =>
   cE h (fun h7 h => dS h fk48 (p48_2_1 x0 x3) (oc h0 (oc h1 (oc h2 (oc h1 (oc h4 (oc h5 (oc h1 (oc h7 (oc rfl on)))))))))) fun h7 h =>
   cE h (fun h9 h => dS h fk48 (p48_2_2 x0 x3) (oc h0 (oc h1 (oc h2 (oc h1 (oc h4 (oc h5 (oc h1 (oc h7 (oc h1 (oc h9 on))))))))))) fun h9 h =>
   tS fk48 (p48_2_3 x0 x3) (oc h0 (oc h1 (oc h2 (oc h1 (oc h4 (oc h5 (oc h1 (oc h7 (oc h1 (oc h9 on)))))))))) (ih _ _ _ h)) fun h4 h =>
   tS fk48 (p48_2_4 x0 x3) (oc h0 (oc h1 (oc h2 (oc h1 (oc h4 (oc rfl on)))))) (ih _ _ _ h)) fun h2 h =>
   cE h (fun h4 h => dS h fk48 (p48_2_5 x0 x3) (oc h0 (oc h1 (oc h2 (oc rfl (oc h4 (oc rfl (oc rfl on)))))))) fun h4 h =>
   cE h (fun h6 h => dS h fk48 (p48_2_6 x0 x3) (oc h0 (oc h1 (oc h2 (oc rfl (oc h4 (oc h1 (oc h6 (oc rfl on))))))))) fun h6 h =>
   cE h (fun h8 h => dS h fk48 (p48_2_7 x0 x3) (oc h0 (oc h1 (oc h2 (oc rfl (oc h4 (oc h1 (oc h6 (oc h1 (oc h8 on)))))))))) fun h8 h =>
   tS fk48 (p48_2_8 x0 x3) (oc h0 (oc h1 (oc h2 (oc rfl (oc h4 (oc h1 (oc h6 (oc h1 (oc h8 on))))))))) (ih _ _ _ h)) fun h0 h =>
   bE h fun r1 h1 h => dS h fk48 (p48_2_9 x0 x3 r1) (oc h0 (oc (xFb h1) on))
theorem c48_e {N : Nat} : ∀ a0 r, xHf N a0 = some r → RE Try.f48 I48 (xE9 a0) (xBH r) := fun a0 r h =>
 tE fk48 (p48_e_10 a0) on (c48_2 _ _ _ _ h)
theorem xHX {N : Nat} {a0 : Str} {r : Bool} (h : xHf N  a0 = some r) : AbC 48 (xE9 a0) (xBH r) :=
 AbsCalls.of_reach fk48 rfl rfl (Nat.le_of_ble_eq_true rfl) (c48_e a0 r h)
noncomputable def I67 : Info := { body := (Try.f67.body).getD .skip, nt := 26, results := [.tmp 2], keep := [0, 4, 6, 8, 12, 24, 40, 48], live := [], modes := [] }
theorem fk67 : FnOk Try.prog 67 Try.f67 I67 := ⟨Try.func67, by kernel_rfl, by kernel_rfl, by kernel_rfl, by kernel_rfl⟩
theorem p67_e_0 (a0 : Str) : rE I67 (xAK a0) [Y] [] = dn (xAJ 0) [((a0 : Str) == [99, 108, 111, 99, 107]) = true] := by kernel_rfl
theorem p67_e_1 (a0 : Str) : rE I67 (xAK a0) [F, Y, Y] [] = dn (xAJ 1) [((a0 : Str) == [99, 108, 111, 99, 107]) = false, ((a0 : Str) == [108, 101, 110]) = true, ((a0 : Str) == [108, 101, 110]) = true] := by kernel_rfl
theorem p67_e_2 (a0 : Str) : rE I67 (xAK a0) [F, F, Y, Y] [] = dn (xAJ 1) [((a0 : Str) == [99, 108, 111, 99, 107]) = false, ((a0 : Str) == [108, 101, 110]) = false, ((a0 : Str) == [115, 117, 109]) = true, ((a0 : Str) == [115, 117, 109]) = true] := by kernel_rfl
theorem p67_e_3 (a0 : Str) : rE I67 (xAK a0) [F, F, F, Y, Y] [] = dn (xAJ 1) [((a0 : Str) == [99, 108, 111, 99, 107]) = false, ((a0 : Str) == [108, 101, 110]) = false, ((a0 : Str) == [115, 117, 109]) = false, ((a0 : Str) == [114, 111, 119, 115]) = true, ((a0 : Str) == [114, 111, 119, 115]) = true] := by kernel_rfl
theorem p67_e_4 (a0 : Str) : rE I67 (xAK a0) [F, F, F, F, Y, Y] [] = dn (xAJ 1) [((a0 : Str) == [99, 108, 111, 99, 107]) = false, ((a0 : Str) == [108, 101, 110]) = false, ((a0 : Str) == [115, 117, 109]) = false, ((a0 : Str) == [114, 111, 119, 115]) = false, ((a0 : Str) == [99, 104, 97, 110, 99, 101]) = true, ((a0 : Str) == [99, 104, 97, 110, 99, 101]) = true] := by kernel_rfl
theorem p67_e_5 (a0 : Str) : rE I67 (xAK a0) [F, F, F, F, F, Y] [] = dn (xAJ 1) [((a0 : Str) == [99, 108, 111, 99, 107]) = false, ((a0 : Str) == [108, 101, 110]) = false, ((a0 : Str) == [115, 117, 109]) = false, ((a0 : Str) == [114, 111, 119, 115]) = false, ((a0 : Str) == [99, 104, 97, 110, 99, 101]) = false, ((a0 : Str) == [102, 105, 108, 101]) = true] := by kernel_rfl
theorem p67_e_6 (a0 : Str) : rE I67 (xAK a0) [F, F, F, F, F, F, Y, Y] [] = dn (xAJ 2) [((a0 : Str) == [99, 108, 111, 99, 107]) = false, ((a0 : Str) == [108, 101, 110]) = false, ((a0 : Str) == [115, 117, 109]) = false, ((a0 : Str) == [114, 111, 119, 115]) = false, ((a0 : Str) == [99, 104, 97, 110, 99, 101]) = false, ((a0 : Str) == [102, 105, 108, 101]) = false, ((a0 : Str) == [116, 97, 107, 101]) = true, ((a0 : Str) == [116, 97, 107, 101]) = true] := by kernel_rfl
theorem p67_e_7 (a0 : Str) : rE I67 (xAK a0) [F, F, F, F, F, F, F, Y, Y] [] = dn (xAJ 2) [((a0 : Str) == [99, 108, 111, 99, 107]) = false, ((a0 : Str) == [108, 101, 110]) = false, ((a0 : Str) == [115, 117, 109]) = false, ((a0 : Str) == [114, 111, 119, 115]) = false, ((a0 : Str) == [99, 104, 97, 110, 99, 101]) = false, ((a0 : Str) == [102, 105, 108, 101]) = false, ((a0 : Str) == [116, 97, 107, 101]) = false, ((a0 : Str) == [115, 107, 105, 112]) = true, ((a0 : Str) == [115, 107, 105, 112]) = true] := by kernel_rfl
theorem p67_e_8 (a0 : Str) : rE I67 (xAK a0) [F, F, F, F, F, F, F, F, Y, Y] [] = dn (xAJ 2) [((a0 : Str) == [99, 108, 111, 99, 107]) = false, ((a0 : Str) == [108, 101, 110]) = false, ((a0 : Str) == [115, 117, 109]) = false, ((a0 : Str) == [114, 111, 119, 115]) = false, ((a0 : Str) == [99, 104, 97, 110, 99, 101]) = false, ((a0 : Str) == [102, 105, 108, 101]) = false, ((a0 : Str) == [116, 97, 107, 101]) = false, ((a0 : Str) == [115, 107, 105, 112]) = false, ((a0 : Str) == [114, 97, 110, 103, 101]) = true, ((a0 : Str) == [114, 97, 110, 103, 101]) = true] := by kernel_rfl
theorem p67_e_9 (a0 : Str) : rE I67 (xAK a0) [F, F, F, F, F, F, F, F, F, Y, Y] [] = dn (xAJ 2) [((a0 : Str) == [99, 108, 111, 99, 107]) = false, ((a0 : Str) == [108, 101, 110]) = false, ((a0 : Str) == [115, 117, 109]) = false, ((a0 : Str) == [114, 111, 119, 115]) = false, ((a0 : Str) == [99, 104, 97, 110, 99, 101]) = false, ((a0 : Str) == [102, 105, 108, 101]) = false, ((a0 : Str) == [116, 97, 107, 101]) = false, ((a0 : Str) == [115, 107, 105, 112]) = false, ((a0 : Str) == [114, 97, 110, 103, 101]) = false, ((a0 : Str) == [110, 116, 104]) = true, ((a0 : Str) == [110, 116, 104]) = true] := by kernel_rfl
theorem p67_e_10 (a0 : Str) : rE I67 (xAK a0) [F, F, F, F, F, F, F, F, F, F, Y, Y] [] = dn (xAJ 2) [((a0 : Str) == [99, 108, 111, 99, 107]) = false, ((a0 : Str) == [108, 101, 110]) = false, ((a0 : Str) == [115, 117, 109]) = false, ((a0 : Str) == [114, 111, 119, 115]) = false, ((a0 : Str) == [99, 104, 97, 110, 99, 101]) = false, ((a0 : Str) == [102, 105, 108, 101]) = false, ((a0 : Str) == [116, 97, 107, 101]) = false, ((a0 : Str) == [115, 107, 105, 112]) = false, ((a0 : Str) == [114, 97, 110, 103, 101]) = false, ((a0 : Str) == [110, 116, 104]) = false, ((a0 : Str) == [107, 101, 101, 112]) = true, ((a0 : Str) == [107, 101, 101, 112]) = true] := by kernel_rfl
theorem p67_e_11 (a0 : Str) : rE I67 (xAK a0) [F, F, F, F, F, F, F, F, F, F, F, Y, Y] [] = dn (xAJ 2) [((a0 : Str) == [99, 108, 111, 99, 107]) = false, ((a0 : Str) == [108, 101, 110]) = false, ((a0 : Str) == [115, 117, 109]) = false, ((a0 : Str) == [114, 111, 119, 115]) = false, ((a0 : Str) == [99, 104, 97, 110, 99, 101]) = false, ((a0 : Str) == [102, 105, 108, 101]) = false, ((a0 : Str) == [116, 97, 107, 101]) = false, ((a0 : Str) == [115, 107, 105, 112]) = false, ((a0 : Str) == [114, 97, 110, 103, 101]) = false, ((a0 : Str) == [110, 116, 104]) = false, ((a0 : Str) == [107, 101, 101, 112]) = false, ((a0 : Str) == [99, 111, 108, 117, 109, 110]) = true, ((a0 : Str) == [99, 111, 108, 117, 109, 110]) = true] := by kernel_rfl
theorem p67_e_12 (a0 : Str) : rE I67 (xAK a0) [F, F, F, F, F, F, F, F, F, F, F, F, Y] [] = dn (xAJ 2) [((a0 : Str) == [99, 108, 111, 99, 107]) = false, ((a0 : Str) == [108, 101, 110]) = false, ((a0 : Str) == [115, 117, 109]) = false, ((a0 : Str) == [114, 111, 119, 115]) = false, ((a0 : Str) == [99, 104, 97, 110, 99, 101]) = false, ((a0 : Str) == [102, 105, 108, 101]) = false, ((a0 : Str) == [116, 97, 107, 101]) = false, ((a0 : Str) == [115, 107, 105, 112]) = false, ((a0 : Str) == [114, 97, 110, 103, 101]) = false, ((a0 : Str) == [110, 116, 104]) = false, ((a0 : Str) == [107, 101, 101, 112]) = false, ((a0 : Str) == [99, 111, 108, 117, 109, 110]) = false, ((a0 : Str) == [116, 97, 98, 108, 101]) = true] := by kernel_rfl
theorem p67_e_13 (a0 : Str) : rE I67 (xAK a0) [F, F, F, F, F, F, F, F, F, F, F, F, F, Y, Y] [] = dn (xAJ 3) [((a0 : Str) == [99, 108, 111, 99, 107]) = false, ((a0 : Str) == [108, 101, 110]) = false, ((a0 : Str) == [115, 117, 109]) = false, ((a0 : Str) == [114, 111, 119, 115]) = false, ((a0 : Str) == [99, 104, 97, 110, 99, 101]) = false, ((a0 : Str) == [102, 105, 108, 101]) = false, ((a0 : Str) == [116, 97, 107, 101]) = false, ((a0 : Str) == [115, 107, 105, 112]) = false, ((a0 : Str) == [114, 97, 110, 103, 101]) = false, ((a0 : Str) == [110, 116, 104]) = false, ((a0 : Str) == [107, 101, 101, 112]) = false, ((a0 : Str) == [99, 111, 108, 117, 109, 110]) = false, ((a0 : Str) == [116, 97, 98, 108, 101]) = false, ((a0 : Str) == [119, 104, 101, 114, 101]) = true, ((a0 : Str) == [119, 104, 101, 114, 101]) = true] := by kernel_rfl
theorem p67_e_14 (a0 : Str) : rE I67 (xAK a0) [F, F, F, F, F, F, F, F, F, F, F, F, F, F, Y, Y] [] = dn (xAJ 3) [((a0 : Str) == [99, 108, 111, 99, 107]) = false, ((a0 : Str) == [108, 101, 110]) = false, ((a0 : Str) == [115, 117, 109]) = false, ((a0 : Str) == [114, 111, 119, 115]) = false, ((a0 : Str) == [99, 104, 97, 110, 99, 101]) = false, ((a0 : Str) == [102, 105, 108, 101]) = false, ((a0 : Str) == [116, 97, 107, 101]) = false, ((a0 : Str) == [115, 107, 105, 112]) = false, ((a0 : Str) == [114, 97, 110, 103, 101]) = false, ((a0 : Str) == [110, 116, 104]) = false, ((a0 : Str) == [107, 101, 101, 112]) = false, ((a0 : Str) == [99, 111, 108, 117, 109, 110]) = false, ((a0 : Str) == [116, 97, 98, 108, 101]) = false, ((a0 : Str) == [119, 104, 101, 114, 101]) = false, ((a0 : Str) == [103, 114, 111, 117, 112]) = true, ((a0 : Str) == [103, 114, 111, 117, 112]) = true] := by kernel_rfl
theorem p67_e_15 (a0 : Str) : rE I67 (xAK a0) [F, F, F, F, F, F, F, F, F, F, F, F, F, F, F, Y] [] = dn (xAJ 3) [((a0 : Str) == [99, 108, 111, 99, 107]) = false, ((a0 : Str) == [108, 101, 110]) = false, ((a0 : Str) == [115, 117, 109]) = false, ((a0 : Str) == [114, 111, 119, 115]) = false, ((a0 : Str) == [99, 104, 97, 110, 99, 101]) = false, ((a0 : Str) == [102, 105, 108, 101]) = false, ((a0 : Str) == [116, 97, 107, 101]) = false, ((a0 : Str) == [115, 107, 105, 112]) = false, ((a0 : Str) == [114, 97, 110, 103, 101]) = false, ((a0 : Str) == [110, 116, 104]) = false, ((a0 : Str) == [107, 101, 101, 112]) = false, ((a0 : Str) == [99, 111, 108, 117, 109, 110]) = false, ((a0 : Str) == [116, 97, 98, 108, 101]) = false, ((a0 : Str) == [119, 104, 101, 114, 101]) = false, ((a0 : Str) == [103, 114, 111, 117, 112]) = false, ((a0 : Str) == [106, 111, 105, 110]) = true] := by kernel_rfl
theorem p67_e_16 (a0 : Str) : rE I67 (xAK a0) [F, F, F, F, F, F, F, F, F, F, F, F, F, F, F, F, Y] [] = dn (xAJ 4) [((a0 : Str) == [99, 108, 111, 99, 107]) = false, ((a0 : Str) == [108, 101, 110]) = false, ((a0 : Str) == [115, 117, 109]) = false, ((a0 : Str) == [114, 111, 119, 115]) = false, ((a0 : Str) == [99, 104, 97, 110, 99, 101]) = false, ((a0 : Str) == [102, 105, 108, 101]) = false, ((a0 : Str) == [116, 97, 107, 101]) = false, ((a0 : Str) == [115, 107, 105, 112]) = false, ((a0 : Str) == [114, 97, 110, 103, 101]) = false, ((a0 : Str) == [110, 116, 104]) = false, ((a0 : Str) == [107, 101, 101, 112]) = false, ((a0 : Str) == [99, 111, 108, 117, 109, 110]) = false, ((a0 : Str) == [116, 97, 98, 108, 101]) = false, ((a0 : Str) == [119, 104, 101, 114, 101]) = false, ((a0 : Str) == [103, 114, 111, 117, 112]) = false, ((a0 : Str) == [106, 111, 105, 110]) = false, ((a0 : Str) == [97, 100, 100]) = true] := by kernel_rfl
theorem p67_e_17 (a0 : Str) : rE I67 (xAK a0) [F, F, F, F, F, F, F, F, F, F, F, F, F, F, F, F, F] [] = dn (xAJ (-1)) [((a0 : Str) == [99, 108, 111, 99, 107]) = false, ((a0 : Str) == [108, 101, 110]) = false, ((a0 : Str) == [115, 117, 109]) = false, ((a0 : Str) == [114, 111, 119, 115]) = false, ((a0 : Str) == [99, 104, 97, 110, 99, 101]) = false, ((a0 : Str) == [102, 105, 108, 101]) = false, ((a0 : Str) == [116, 97, 107, 101]) = false, ((a0 : Str) == [115, 107, 105, 112]) = false, ((a0 : Str) == [114, 97, 110, 103, 101]) = false, ((a0 : Str) == [110, 116, 104]) = false, ((a0 : Str) == [107, 101, 101, 112]) = false, ((a0 : Str) == [99, 111, 108, 117, 109, 110]) = false, ((a0 : Str) == [116, 97, 98, 108, 101]) = false, ((a0 : Str) == [119, 104, 101, 114, 101]) = false, ((a0 : Str) == [103, 114, 111, 117, 112]) = false, ((a0 : Str) == [106, 111, 105, 110]) = false, ((a0 : Str) == [97, 100, 100]) = false] := by kernel_rfl
theorem c67_e {N : Nat} : ∀ a0 r, xEH N a0 = some r → RE Try.f67 I67 (xAK a0) (xAJ r) := fun a0 r h =>
 cE h (fun h0 h => dE h fk67 (p67_e_0 a0) (oc h0 on)) fun h0 h =>
 cE h (fun h1 h => dE h fk67 (p67_e_1 a0) (oc h0 (oc h1 (oc h1 on)))) fun h1 h =>
 cE h (fun h2 h => dE h fk67 (p67_e_2 a0) (oc h0 (oc h1 (oc h2 (oc h2 on))))) fun h2 h =>
 cE h (fun h3 h => dE h fk67 (p67_e_3 a0) (oc h0 (oc h1 (oc h2 (oc h3 (oc h3 on)))))) fun h3 h =>
 cE h (fun h4 h => dE h fk67 (p67_e_4 a0) (oc h0 (oc h1 (oc h2 (oc h3 (oc h4 (oc h4 on))))))) fun h4 h =>
 cE h (fun h5 h => dE h fk67 (p67_e_5 a0) (oc h0 (oc h1 (oc h2 (oc h3 (oc h4 (oc h5 on))))))) fun h5 h =>
 cE h (fun h6 h => dE h fk67 (p67_e_6 a0) (oc h0 (oc h1 (oc h2 (oc h3 (oc h4 (oc h5 (oc h6 (oc h6 on))))))))) fun h6 h =>
 cE h (fun h7 h => dE h fk67 (p67_e_7 a0) (oc h0 (oc h1 (oc h2 (oc h3 (oc h4 (oc h5 (oc h6 (oc h7 (oc h7 on)))))))))) fun h7 h =>
 cE h (fun h8 h => dE h fk67 (p67_e_8 a0) (oc h0 (oc h1 (oc h2 (oc h3 (oc h4 (oc h5 (oc h6 (oc h7 (oc h8 (oc h8 on))))))))))) fun h8 h =>
 cE h (fun h9 h => dE h fk67 (p67_e_9 a0) (oc h0 (oc h1 (oc h2 (oc h3 (oc h4 (oc h5 (oc h6 (oc h7 (oc h8 (oc h9 (oc h9 on)))))))))))) fun h9 h =>
 cE h (fun h10 h => dE h fk67 (p67_e_10 a0) (oc h0 (oc h1 (oc h2 (oc h3 (oc h4 (oc h5 (oc h6 (oc h7 (oc h8 (oc h9 (oc h10 (oc h10 on))))))))))))) fun h10 h =>
 cE h (fun h11 h => dE h fk67 (p67_e_11 a0) (oc h0 (oc h1 (oc h2 (oc h3 (oc h4 (oc h5 (oc h6 (oc h7 (oc h8 (oc h9 (oc h10 (oc h11 (oc h11 on)))))))))))))) fun h11 h =>
 cE h (fun h12 h => dE h fk67 (p67_e_12 a0) (oc h0 (oc h1 (oc h2 (oc h3 (oc h4 (oc h5 (oc h6 (oc h7 (oc h8 (oc h9 (oc h10 (oc h11 (oc h12 on)))))))))))))) fun h12 h =>
 cE h (fun h13 h => dE h fk67 (p67_e_13 a0) (oc h0 (oc h1 (oc h2 (oc h3 (oc h4 (oc h5 (oc h6 (oc h7 (oc h8 (oc h9 (oc h10 (oc h11 (oc h12 (oc h13 (oc h13 on)))))))))))))))) fun h13 h =>
 cE h (fun h14 h => dE h fk67 (p67_e_14 a0) (oc h0 (oc h1 (oc h2 (oc h3 (oc h4 (oc h5 (oc h6 (oc h7 (oc h8 (oc h9 (oc h10 (oc h11 (oc h12 (oc h13 (oc h14 (oc h14 on))))))))))))))))) fun h14 h =>
 cE h (fun h15 h => dE h fk67 (p67_e_15 a0) (oc h0 (oc h1 (oc h2 (oc h3 (oc h4 (oc h5 (oc h6 (oc h7 (oc h8 (oc h9 (oc h10 (oc h11 (oc h12 (oc h13 (oc h14 (oc h15 on))))))))))))))))) fun h15 h =>
 cE h (fun h16 h => dE h fk67 (p67_e_16 a0) (oc h0 (oc h1 (oc h2 (oc h3 (oc h4 (oc h5 (oc h6 (oc h7 (oc h8 (oc h9 (oc h10 (oc h11 (oc h12 (oc h13 (oc h14 (oc h15 (oc h16 on)))))))))))))))))) fun h16 h =>
 dE h fk67 (p67_e_17 a0) (oc h0 (oc h1 (oc h2 (oc h3 (oc h4 (oc h5 (oc h6 (oc h7 (oc h8 (oc h9 (oc h10 (oc h11 (oc h12 (oc h13 (oc h14 (oc h15 (oc h16 on)))))))))))))))))
theorem xHw {N : Nat} {a0 : Str} {r : Int} (h : xEH N  a0 = some r) : AbC 67 (xAK a0) (xAJ r) :=
 AbsCalls.of_reach fk67 rfl rfl (Nat.le_of_ble_eq_true rfl) (c67_e a0 r h)
noncomputable def I49 : Info := { body := (Try.f49.body).getD .skip, nt := 15, results := [.tmp 2], keep := [0, 4, 6, 8], live := [], modes := [] }
theorem fk49 : FnOk Try.prog 49 Try.f49 I49 := ⟨Try.func49, by kernel_rfl, by kernel_rfl, by kernel_rfl, by kernel_rfl⟩
theorem p49_e_0 (a0 : Str) : rE I49 (xBA a0) [Y, Y] [] = dn (xBo true) [((a0 : Str) == [108, 101, 116]) = true, ((a0 : Str) == [108, 101, 116]) = true] := by kernel_rfl
theorem p49_e_1 (a0 : Str) : rE I49 (xBA a0) [F, Y, Y] [] = dn (xBo true) [((a0 : Str) == [108, 101, 116]) = false, ((a0 : Str) == [105, 110]) = true, ((a0 : Str) == [105, 110]) = true] := by kernel_rfl
theorem p49_e_2 (a0 : Str) : rE I49 (xBA a0) [F, F, Y, Y] [] = dn (xBo true) [((a0 : Str) == [108, 101, 116]) = false, ((a0 : Str) == [105, 110]) = false, ((a0 : Str) == [105, 102]) = true, ((a0 : Str) == [105, 102]) = true] := by kernel_rfl
theorem p49_e_3 (a0 : Str) : rE I49 (xBA a0) [F, F, F, Y, Y] [] = dn (xBo true) [((a0 : Str) == [108, 101, 116]) = false, ((a0 : Str) == [105, 110]) = false, ((a0 : Str) == [105, 102]) = false, ((a0 : Str) == [116, 104, 101, 110]) = true, ((a0 : Str) == [116, 104, 101, 110]) = true] := by kernel_rfl
theorem p49_e_4 (a0 : Str) : rE I49 (xBA a0) [F, F, F, F, Y, Y] [] = dn (xBo true) [((a0 : Str) == [108, 101, 116]) = false, ((a0 : Str) == [105, 110]) = false, ((a0 : Str) == [105, 102]) = false, ((a0 : Str) == [116, 104, 101, 110]) = false, ((a0 : Str) == [101, 108, 115, 101]) = true, ((a0 : Str) == [101, 108, 115, 101]) = true] := by kernel_rfl
theorem p49_e_5 (a0 : Str) : rE I49 (xBA a0) [F, F, F, F, F, Y, Y] [] = dn (xBo true) [((a0 : Str) == [108, 101, 116]) = false, ((a0 : Str) == [105, 110]) = false, ((a0 : Str) == [105, 102]) = false, ((a0 : Str) == [116, 104, 101, 110]) = false, ((a0 : Str) == [101, 108, 115, 101]) = false, ((a0 : Str) == [102, 111, 114]) = true, ((a0 : Str) == [102, 111, 114]) = true] := by kernel_rfl
theorem p49_e_6 (a0 : Str) : rE I49 (xBA a0) [F, F, F, F, F, F, Y] [] = dn (xBo true) [((a0 : Str) == [108, 101, 116]) = false, ((a0 : Str) == [105, 110]) = false, ((a0 : Str) == [105, 102]) = false, ((a0 : Str) == [116, 104, 101, 110]) = false, ((a0 : Str) == [101, 108, 115, 101]) = false, ((a0 : Str) == [102, 111, 114]) = false, ((a0 : Str) == [100, 111]) = true] := by kernel_rfl
theorem p49_e_7 (a0 : Str) (r1 : Int) : rE I49 (xBA a0) [F, F, F, F, F, F, F] [xAJ r1] = dn (xBo (decide ((r1 : Int) ≥ 0))) [((a0 : Str) == [108, 101, 116]) = false, ((a0 : Str) == [105, 110]) = false, ((a0 : Str) == [105, 102]) = false, ((a0 : Str) == [116, 104, 101, 110]) = false, ((a0 : Str) == [101, 108, 115, 101]) = false, ((a0 : Str) == [102, 111, 114]) = false, ((a0 : Str) == [100, 111]) = false, AbC 67 (xAK a0) (xAJ r1)] := by kernel_rfl
theorem c49_e {N : Nat} : ∀ a0 r, xEN N a0 = some r → RE Try.f49 I49 (xBA a0) (xBo r) := fun a0 r h =>
 cE h (fun h0 h => dE h fk49 (p49_e_0 a0) (oc h0 (oc h0 on))) fun h0 h =>
 cE h (fun h1 h => dE h fk49 (p49_e_1 a0) (oc h0 (oc h1 (oc h1 on)))) fun h1 h =>
 cE h (fun h2 h => dE h fk49 (p49_e_2 a0) (oc h0 (oc h1 (oc h2 (oc h2 on))))) fun h2 h =>
 cE h (fun h3 h => dE h fk49 (p49_e_3 a0) (oc h0 (oc h1 (oc h2 (oc h3 (oc h3 on)))))) fun h3 h =>
 cE h (fun h4 h => dE h fk49 (p49_e_4 a0) (oc h0 (oc h1 (oc h2 (oc h3 (oc h4 (oc h4 on))))))) fun h4 h =>
 cE h (fun h5 h => dE h fk49 (p49_e_5 a0) (oc h0 (oc h1 (oc h2 (oc h3 (oc h4 (oc h5 (oc h5 on)))))))) fun h5 h =>
 cE h (fun h6 h => dE h fk49 (p49_e_6 a0) (oc h0 (oc h1 (oc h2 (oc h3 (oc h4 (oc h5 (oc h6 on)))))))) fun h6 h =>
 bE h fun r1 h7 h => dE h fk49 (p49_e_7 a0 r1) (oc h0 (oc h1 (oc h2 (oc h3 (oc h4 (oc h5 (oc h6 (oc (xHw h7) on))))))))
theorem impl_IsReserved_ok {N : Nat} {a0 : Str} {r : Bool} (h : xEN N  a0 = some r) : AbC 49 (xBA a0) (xBo r) :=
 AbsCalls.of_reach fk49 rfl rfl (Nat.le_of_ble_eq_true rfl) (c49_e a0 r h)
noncomputable def I25 : Info := { body := (Try.f25.body).getD .skip, nt := 10, results := [.tmp 2], keep := [0, 4], live := [], modes := [(1, [(2, .take, false)])] }
theorem fk25 : FnOk Try.prog 25 Try.f25 I25 := ⟨Try.func25, by kernel_rfl, by kernel_rfl, by kernel_rfl, by kernel_rfl⟩
theorem p25_e_0 (a0 : Str) (r1 r2 : Bool) : rE I25 (xAV a0) [Y] [xBH r1, xBo r2] = dn (xAD (!r2)) [AbC 48 (xE9 a0) (xBH r1), r1 = true, AbC 49 (xBA a0) (xBo r2)] := by kernel_rfl
theorem p25_e_1 (a0 : Str) (r1 : Bool) : rE I25 (xAV a0) [F] [xBH r1] = dn (xAD false) [AbC 48 (xE9 a0) (xBH r1), r1 = false] := by kernel_rfl
theorem c25_e {N : Nat} : ∀ a0 r, xDa N a0 = some r → RE Try.f25 I25 (xAV a0) (xAD r) := fun a0 r h =>
 bE h fun r1 h0 h => cE h (fun h1 h => bE h fun r2 h2 h => dE h fk25 (p25_e_0 a0 r1 r2) (oc (xHX h0) (oc h1 (oc (impl_IsReserved_ok h2) on)))) fun h1 h =>
 dE h fk25 (p25_e_1 a0 r1) (oc (xHX h0) (oc h1 on))
theorem xA9 {N : Nat} {a0 : Str} {r : Bool} (h : xDa N  a0 = some r) : AbC 25 (xAV a0) (xAD r) :=
 AbsCalls.of_reach fk25 rfl rfl (Nat.le_of_ble_eq_true rfl) (c25_e a0 r h)
noncomputable def I47 : Info := { body := (Try.f47.body).getD .skip, nt := 19, results := [.tmp 4], keep := [0, 2, 8, 10, 12, 14, 16, 18, 20, 32], live := [(2, [2, 14, 16, 18])], modes := [(4, [(0, .take, false)]), (5, [(0, .take, false)]), (6, [(1, .take, false)])] }
theorem fk47 : FnOk Try.prog 47 Try.f47 I47 := ⟨Try.func47, by kernel_rfl, by kernel_rfl, by kernel_rfl, by kernel_rfl⟩
def S47_2 (x1 : Str) (x7 : List Str) (x8 x9 : Int) : St := [(2, .v false [.str x1]), (14, .v false [.sl .ro .str x7]), (16, .v false [.int .i64 x8]), (18, .v false [.int .i64 x9])]
theorem p47_2_0 (x1 : Str) (x7 : List Str) (x8 x9 : Int) : rS 2 I47 (S47_2 x1 x7 x8 x9) [Y, Y] [] = dn (xBZ x9) [(decide ((x9 : Int) < x8)) = true, (0 : Int) ≤ x9 ∧ x9 < (Ln x7), (((gD x7 (tN x9) Ty.str.dflt) : Str) == x1) = true] := by kernel_rfl
theorem p47_2_1 (x1 : Str) (x7 : List Str) (x8 x9 : Int) : rS 2 I47 (S47_2 x1 x7 x8 x9) [Y, F] [] = st 2 I47 (S47_2 x1 x7 x8 (W (x9 + 1))) [(decide ((x9 : Int) < x8)) = true, (0 : Int) ≤ x9 ∧ x9 < (Ln x7), (((gD x7 (tN x9) Ty.str.dflt) : Str) == x1) = false] := by kernel_rfl
theorem p47_2_2 (x1 : Str) (x7 : List Str) (x8 x9 : Int) : rS 2 I47 (S47_2 x1 x7 x8 x9) [F] [] = dn (xBZ (-1)) [(decide ((x9 : Int) < x8)) = false] := by kernel_rfl
theorem p47_e_3 (a0 : List Str) (a1 : Str) : rE I47 (xEf a0 a1) [] [] = st 2 I47 (S47_2 a1 a0 (Ln a0 : Int) 0) [] := by kernel_rfl
theorem c47_2 {N : Nat} : ∀ n x1 x7 x8 x9 r, xDz N n x1 x7 x8 x9 = some r → RS Try.f47 I47 2 (S47_2 x1 x7 x8 x9) (xBZ r) := by
 intro n
 induction n with
 | zero => exact fun _ _ _ _ _ h => nE h
 | succ n ih =>
  exact fun x1 x7 x8 x9 r h =>
   cE h (fun h0 h => iE h fun h1 h => cE h (fun h2 h => dS h fk47 (p47_2_0 x1 x7 x8 x9) (oc h0 (oc h1 (oc h2 on)))) fun h2 h =>
   tS fk47 (p47_2_1 x1 x7 x8 x9) (oc h0 (oc h1 (oc h2 on))) (ih _ _ _ _ _ h)) fun h0 h =>
   dS h fk47 (p47_2_2 x1 x7 x8 x9) (oc h0 on)
theorem c47_e {N : Nat} : ∀ a0 a1 r, xGg N a0 a1 = some r → RE Try.f47 I47 (xEf a0 a1) (xBZ r) := fun a0 a1 r h =>
 tE fk47 (p47_e_3 a0 a1) on (c47_2 _ _ _ _ _ _ h)
theorem xGy {N : Nat} {a0 : List Str} {a1 : Str} {r : Int} (h : xGg N  a0 a1 = some r) : AbC 47 (xEf a0 a1) (xBZ r) :=
 AbsCalls.of_reach fk47 rfl rfl (Nat.le_of_ble_eq_true rfl) (c47_e a0 a1 r h)
noncomputable def I87 : Info := { body := (Try.f87.body).getD .skip, nt := 18, results := [.tmp 2], keep := [0, 4, 6, 8, 10, 12, 14, 16, 32], live := [(2, [0, 10, 12, 14])], modes := [(4, [(1, .take, false), (3, .take, false)]), (6, [(1, .take, false)])] }
theorem fk87 : FnOk Try.prog 87 Try.f87 I87 := ⟨Try.func87, by kernel_rfl, by kernel_rfl, by kernel_rfl, by kernel_rfl⟩
def S87_2 (x0 x5 : List Str) (x6 x7 : Int) : St := [(0, .v false [.sl .ro .str x0]), (10, .v false [.sl .ro .str x5]), (12, .v false [.int .i64 x6]), (14, .v false [.int .i64 x7])]
theorem p87_2_0 (x0 x5 : List Str) (x6 x7 r1 : Int) : rS 2 I87 (S87_2 x0 x5 x6 x7) [Y, Y] [xBZ r1] = dn (xCn false) [(decide ((x7 : Int) < x6)) = true, (0 : Int) ≤ x7 ∧ x7 < (Ln x5), AbC 47 (xEf x0 (gD x5 (tN x7) Ty.str.dflt)) (xBZ r1), ((r1 : Int) != x7) = true] := by kernel_rfl
theorem p87_2_1 (x0 x5 : List Str) (x6 x7 r1 : Int) : rS 2 I87 (S87_2 x0 x5 x6 x7) [Y, F] [xBZ r1] = st 2 I87 (S87_2 x0 x5 x6 (W (x7 + 1))) [(decide ((x7 : Int) < x6)) = true, (0 : Int) ≤ x7 ∧ x7 < (Ln x5), AbC 47 (xEf x0 (gD x5 (tN x7) Ty.str.dflt)) (xBZ r1), ((r1 : Int) != x7) = false] := by kernel_rfl
theorem p87_2_2 (x0 x5 : List Str) (x6 x7 : Int) : rS 2 I87 (S87_2 x0 x5 x6 x7) [F] [] = dn (xCn true) [(decide ((x7 : Int) < x6)) = false] := by kernel_rfl
theorem p87_e_3 (a0 : List Str) : rE I87 (xEm a0) [] [] = st 2 I87 (S87_2 a0 a0 (Ln a0 : Int) 0) [] := by kernel_rfl
theorem c87_2 {N : Nat} : ∀ n x0 x5 x6 x7 r, xCm N n x0 x5 x6 x7 = some r → RS Try.f87 I87 2 (S87_2 x0 x5 x6 x7) (xCn r) := by
 intro n
 induction n with
 | zero => exact fun _ _ _ _ _ h => nE h
 | succ n ih =>
  exact fun x0 x5 x6 x7 r h =>
   cE h (fun h0 h => iE h fun h1 h => bE h fun r1 h2 h => cE h (fun h3 h => dS h fk87 (p87_2_0 x0 x5 x6 x7 r1) (oc h0 (oc h1 (oc (xGy h2) (oc h3 on))))) fun h3 h =>
   tS fk87 (p87_2_1 x0 x5 x6 x7 r1) (oc h0 (oc h1 (oc (xGy h2) (oc h3 on)))) (ih _ _ _ _ _ h)) fun h0 h =>
   dS h fk87 (p87_2_2 x0 x5 x6 x7) (oc h0 on)
theorem c87_e {N : Nat} : ∀ a0 r, xFi N a0 = some r → RE Try.f87 I87 (xEm a0) (xCn r) := fun a0 r h =>
 tE fk87 (p87_e_3 a0) on (c87_2 _ _ _ _ _ _ h)
theorem xH2 {N : Nat} {a0 : List Str} {r : Bool} (h : xFi N  a0 = some r) : AbC 87 (xEm a0) (xCn r) :=
 AbsCalls.of_reach fk87 rfl rfl (Nat.le_of_ble_eq_true rfl) (c87_e a0 r h)
noncomputable def I82 : Info := { body := (Try.f82.body).getD .skip, nt := 22, results := [.tmp 2], keep := [0, 4, 8, 10, 12, 14, 16, 26], live := [(2, [0, 10, 12, 14])], modes := [(4, [(0, .take, false)]), (6, [(1, .take, false)]), (7, [(3, .take, false)])] }
theorem fk82 : FnOk Try.prog 82 Try.f82 I82 := ⟨Try.func82, by kernel_rfl, by kernel_rfl, by kernel_rfl, by kernel_rfl⟩
def S82_2 (x0 x5 : List Str) (x6 x7 : Int) : St := [(0, .v false [.sl .ro .str x0]), (10, .v false [.sl .ro .str x5]), (12, .v false [.int .i64 x6]), (14, .v false [.int .i64 x7])]
theorem p82_2_0 (x0 x5 : List Str) (x6 x7 : Int) (r1 : Bool) : rS 2 I82 (S82_2 x0 x5 x6 x7) [Y, Y] [xAD r1] = dn (xBp false) [(decide ((x7 : Int) < x6)) = true, (0 : Int) ≤ x7 ∧ x7 < (Ln x5), AbC 25 (xAV (gD x5 (tN x7) Ty.str.dflt)) (xAD r1), (!r1) = true] := by kernel_rfl
theorem p82_2_1 (x0 x5 : List Str) (x6 x7 : Int) (r1 : Bool) : rS 2 I82 (S82_2 x0 x5 x6 x7) [Y, F] [xAD r1] = st 2 I82 (S82_2 x0 x5 x6 (W (x7 + 1))) [(decide ((x7 : Int) < x6)) = true, (0 : Int) ≤ x7 ∧ x7 < (Ln x5), AbC 25 (xAV (gD x5 (tN x7) Ty.str.dflt)) (xAD r1), (!r1) = false] := by kernel_rfl
theorem p82_2_2 (x0 x5 : List Str) (x6 x7 : Int) (r1 r2 : Bool) : rS 2 I82 (S82_2 x0 x5 x6 x7) [F, Y] [xBI r1, xCn r2] = dn (xBp r2) [(decide ((x7 : Int) < x6)) = false, AbC 52 (xC0 (Ln x0 : Int) 1 4) (xBI r1), r1 = true, AbC 87 (xEm x0) (xCn r2)] := by kernel_rfl
theorem p82_2_3 (x0 x5 : List Str) (x6 x7 : Int) (r1 : Bool) : rS 2 I82 (S82_2 x0 x5 x6 x7) [F, F] [xBI r1] = dn (xBp false) [(decide ((x7 : Int) < x6)) = false, AbC 52 (xC0 (Ln x0 : Int) 1 4) (xBI r1), r1 = false] := by kernel_rfl
theorem p82_e_4 (a0 : List Str) : rE I82 (xC3 a0) [] [] = st 2 I82 (S82_2 a0 a0 (Ln a0 : Int) 0) [] := by kernel_rfl
theorem c82_2 {N : Nat} : ∀ n x0 x5 x6 x7 r, xC4 N n x0 x5 x6 x7 = some r → RS Try.f82 I82 2 (S82_2 x0 x5 x6 x7) (xBp r) := by
 intro n
 induction n with
 | zero => exact fun _ _ _ _ _ h => nE h
 | succ n ih =>
  exact fun x0 x5 x6 x7 r h =>
   cE h (fun h0 h => iE h fun h1 h => bE h fun r1 h2 h => cE h (fun h3 h => dS h fk82 (p82_2_0 x0 x5 x6 x7 r1) (oc h0 (oc h1 (oc (xA9 h2) (oc h3 on))))) fun h3 h =>
   tS fk82 (p82_2_1 x0 x5 x6 x7 r1) (oc h0 (oc h1 (oc (xA9 h2) (oc h3 on)))) (ih _ _ _ _ _ h)) fun h0 h =>
   bE h fun r1 h1 h => cE h (fun h2 h => bE h fun r2 h3 h => dS h fk82 (p82_2_2 x0 x5 x6 x7 r1 r2) (oc h0 (oc (xFb h1) (oc h2 (oc (xH2 h3) on))))) fun h2 h =>
   dS h fk82 (p82_2_3 x0 x5 x6 x7 r1) (oc h0 (oc (xFb h1) (oc h2 on)))
theorem c82_e {N : Nat} : ∀ a0 r, xFA N a0 = some r → RE Try.f82 I82 (xC3 a0) (xBp r) := fun a0 r h =>
 tE fk82 (p82_e_4 a0) on (c82_2 _ _ _ _ _ _ h)
theorem xFB {N : Nat} {a0 : List Str} {r : Bool} (h : xFA N  a0 = some r) : AbC 82 (xC3 a0) (xBp r) :=
 AbsCalls.of_reach fk82 rfl rfl (Nat.le_of_ble_eq_true rfl) (c82_e a0 r h)
noncomputable def I83 : Info := { body := (Try.f83.body).getD .skip, nt := 24, results := [.tmp 4], keep := [0, 2, 4, 6, 8, 5, 7], live := [], modes := [(1, [(5, .take, false), (11, .take, false)])] }
theorem fk83 : FnOk Try.prog 83 Try.f83 I83 := ⟨Try.func83, by kernel_rfl, by kernel_rfl, by kernel_rfl, by kernel_rfl⟩
theorem p83_e_0 (a0 a1 : Org) : rE I83 (xB9 a0 a1) [Y] [] = dn (xBE true) [(decide (((Org.cell a0) : Int) < (Org.cell a1))) = true] := by kernel_rfl
theorem p83_e_1 (a0 a1 : Org) : rE I83 (xB9 a0 a1) [F, Y] [] = dn (xBE (decide (((Org.row a0) : Int) < (Org.row a1)))) [(decide (((Org.cell a0) : Int) < (Org.cell a1))) = false, (((Org.cell a0) : Int) == (Org.cell a1)) = true] := by kernel_rfl
theorem p83_e_2 (a0 a1 : Org) : rE I83 (xB9 a0 a1) [F, F] [] = dn (xBE false) [(decide (((Org.cell a0) : Int) < (Org.cell a1))) = false, (((Org.cell a0) : Int) == (Org.cell a1)) = false] := by kernel_rfl
theorem c83_e {N : Nat} : ∀ a0 a1 r, xEU N a0 a1 = some r → RE Try.f83 I83 (xB9 a0 a1) (xBE r) := fun a0 a1 r h =>
 cE h (fun h0 h => dE h fk83 (p83_e_0 a0 a1) (oc h0 on)) fun h0 h =>
 cE h (fun h1 h => dE h fk83 (p83_e_1 a0 a1) (oc h0 (oc h1 on))) fun h1 h =>
 dE h fk83 (p83_e_2 a0 a1) (oc h0 (oc h1 on))
theorem xGo {N : Nat} {a0 : Org} {a1 : Org} {r : Bool} (h : xEU N  a0 a1 = some r) : AbC 83 (xB9 a0 a1) (xBE r) :=
 AbsCalls.of_reach fk83 rfl rfl (Nat.le_of_ble_eq_true rfl) (c83_e a0 a1 r h)
noncomputable def I75 : Info := { body := (Try.f75.body).getD .skip, nt := 77, results := [.tmp 2], keep := [0, 2, 4, 8, 12, 14, 16, 36, 40, 42, 44, 46, 64, 68, 70, 72, 74, 84, 90, 92, 94, 96, 148, 3, 9, 17], live := [(4, [2, 40, 42, 44, 3]), (9, [2, 8, 40, 42, 44, 68, 70, 72, 3, 9]), (15, [2, 8, 40, 42, 44, 90, 92, 94, 3, 9])], modes := [(1, [(4, .take, false)]), (11, [(0, .take, false)]), (13, [(1, .take, false)]), (17, [(3, .take, false), (8, .take, false), (11, .take, false)]), (19, [(1, .take, false)]), (20, [(1, .take, false)])] }
theorem fk75 : FnOk Try.prog 75 Try.f75 I75 := ⟨Try.func75, by kernel_rfl, by kernel_rfl, by kernel_rfl, by kernel_rfl⟩
def S75_4 (x20 : List Rowd) (x21 x22 : Int) (b1 : Val) : St := [(2, .v false [.ptr 1 0]), (40, .v false [.sl .ro .row x20]), (42, .v false [.int .i64 x21]), (44, .v false [.int .i64 x22]), (3, .v true [.int .i64 (Val.kind b1), .int .i64 (Val.n b1), .int .i64 (Val.step b1), .str (Val.text b1), .sl .ro .val (Val.list b1), .sl .ro .str (Val.columns b1), .sl .ro .row (Val.rows b1)])]
def S75_9 (x20 : List Rowd) (x21 x22 : Int) (x34 : List Int) (x35 x36 : Int) (b1 : Val) (b4 : Rowd) : St := [(2, .v false [.ptr 1 0]), (8, .v false [.ptr 4 0]), (40, .v false [.sl .ro .row x20]), (42, .v false [.int .i64 x21]), (44, .v false [.int .i64 x22]), (68, .v false [.sl .ro .int x34]), (70, .v false [.int .i64 x35]), (72, .v false [.int .i64 x36]), (3, .v true [.int .i64 (Val.kind b1), .int .i64 (Val.n b1), .int .i64 (Val.step b1), .str (Val.text b1), .sl .ro .val (Val.list b1), .sl .ro .str (Val.columns b1), .sl .ro .row (Val.rows b1)]), (9, .v true [.sl .ro .int (Rowd.cells b4), .sl .ro .org (Rowd.frm b4)])]
def xHV (x20 : List Rowd) (x21 x22 : Int) (x45 : List Org) (x46 x47 : Int) (b1 : Val) (b4 : Rowd) : St := [(2, .v false [.ptr 1 0]), (8, .v false [.ptr 4 0]), (40, .v false [.sl .ro .row x20]), (42, .v false [.int .i64 x21]), (44, .v false [.int .i64 x22]), (90, .v false [.sl .ro .org x45]), (92, .v false [.int .i64 x46]), (94, .v false [.int .i64 x47]), (3, .v true [.int .i64 (Val.kind b1), .int .i64 (Val.n b1), .int .i64 (Val.step b1), .str (Val.text b1), .sl .ro .val (Val.list b1), .sl .ro .str (Val.columns b1), .sl .ro .row (Val.rows b1)]), (9, .v true [.sl .ro .int (Rowd.cells b4), .sl .ro .org (Rowd.frm b4)])]
theorem p75_15_0 (x20 : List Rowd) (x21 x22 : Int) (x45 : List Org) (x46 x47 : Int) (b1 : Val) (b4 : Rowd) : rS 15 I75 (xHV x20 x21 x22 x45 x46 x47 b1 b4) [Y, Y, Y, Y] [] = dn (xBa false) [(decide ((x47 : Int) < x46)) = true, (0 : Int) ≤ x47 ∧ x47 < (Ln x45), (decide (((Org.cell (gD x45 (tN x47) Ty.org.dflt)) : Int) < 0)) = true, true = true, true = true] := by kernel_rfl
theorem p75_15_1 (x20 : List Rowd) (x21 x22 : Int) (x45 : List Org) (x46 x47 : Int) (b1 : Val) (b4 : Rowd) : rS 15 I75 (xHV x20 x21 x22 x45 x46 x47 b1 b4) [Y, F, Y, Y] [] = dn (xBa false) [(decide ((x47 : Int) < x46)) = true, (0 : Int) ≤ x47 ∧ x47 < (Ln x45), (decide (((Org.cell (gD x45 (tN x47) Ty.org.dflt)) : Int) < 0)) = false, (decide (((Org.row (gD x45 (tN x47) Ty.org.dflt)) : Int) < 0)) = true, true = true] := by kernel_rfl
theorem p75_15_2 (x20 : List Rowd) (x21 x22 : Int) (x45 : List Org) (x46 x47 : Int) (b1 : Val) (b4 : Rowd) (r1 : Bool) : rS 15 I75 (xHV x20 x21 x22 x45 x46 x47 b1 b4) [Y, F, F, Y, Y] [xBE r1] = dn (xBa false) [(decide ((x47 : Int) < x46)) = true, (0 : Int) ≤ x47 ∧ x47 < (Ln x45), (decide (((Org.cell (gD x45 (tN x47) Ty.org.dflt)) : Int) < 0)) = false, (decide (((Org.row (gD x45 (tN x47) Ty.org.dflt)) : Int) < 0)) = false, (decide ((x47 : Int) > 0)) = true, (0 : Int) ≤ (W (x47 - 1)) ∧ (W (x47 - 1)) < (Ln (Rowd.frm b4)), AbC 83 (xB9 (gD (Rowd.frm b4) (tN (W (x47 - 1))) Ty.org.dflt) (gD x45 (tN x47) Ty.org.dflt)) (xBE r1), (!r1) = true] := by kernel_rfl
theorem p75_15_3 (x20 : List Rowd) (x21 x22 : Int) (x45 : List Org) (x46 x47 : Int) (b1 : Val) (b4 : Rowd) (r1 : Bool) : rS 15 I75 (xHV x20 x21 x22 x45 x46 x47 b1 b4) [Y, F, F, Y, F] [xBE r1] = st 15 I75 (xHV x20 x21 x22 x45 x46 (W (x47 + 1)) b1 b4) [(decide ((x47 : Int) < x46)) = true, (0 : Int) ≤ x47 ∧ x47 < (Ln x45), (decide (((Org.cell (gD x45 (tN x47) Ty.org.dflt)) : Int) < 0)) = false, (decide (((Org.row (gD x45 (tN x47) Ty.org.dflt)) : Int) < 0)) = false, (decide ((x47 : Int) > 0)) = true, (0 : Int) ≤ (W (x47 - 1)) ∧ (W (x47 - 1)) < (Ln (Rowd.frm b4)), AbC 83 (xB9 (gD (Rowd.frm b4) (tN (W (x47 - 1))) Ty.org.dflt) (gD x45 (tN x47) Ty.org.dflt)) (xBE r1), (!r1) = false] := by kernel_rfl
theorem p75_15_4 (x20 : List Rowd) (x21 x22 : Int) (x45 : List Org) (x46 x47 : Int) (b1 : Val) (b4 : Rowd) : rS 15 I75 (xHV x20 x21 x22 x45 x46 x47 b1 b4) [Y, F, F, F, F] [] = st 15 I75 (xHV x20 x21 x22 x45 x46 (W (x47 + 1)) b1 b4) [(decide ((x47 : Int) < x46)) = true, (0 : Int) ≤ x47 ∧ x47 < (Ln x45), (decide (((Org.cell (gD x45 (tN x47) Ty.org.dflt)) : Int) < 0)) = false, (decide (((Org.row (gD x45 (tN x47) Ty.org.dflt)) : Int) < 0)) = false, (decide ((x47 : Int) > 0)) = false, false = false] := by kernel_rfl
theorem p75_15_5 (x20 : List Rowd) (x21 x22 : Int) (x45 : List Org) (x46 x47 : Int) (b1 : Val) (b4 : Rowd) : rS 15 I75 (xHV x20 x21 x22 x45 x46 x47 b1 b4) [F] [] = st 4 I75 (S75_4 x20 x21 (W (x22 + 1)) b1) [(decide ((x47 : Int) < x46)) = false] := by kernel_rfl
theorem p75_9_6 (x20 : List Rowd) (x21 x22 : Int) (x34 : List Int) (x35 x36 : Int) (b1 : Val) (b4 : Rowd) (r1 : Bool) : rS 9 I75 (S75_9 x20 x21 x22 x34 x35 x36 b1 b4) [Y, Y] [xA2 r1] = dn (xBa false) [(decide ((x36 : Int) < x35)) = true, (0 : Int) ≤ x36 ∧ x36 < (Ln x34), AbC 28 (xBQ (gD x34 (tN x36) Ty.int.dflt)) (xA2 r1), (!r1) = true] := by kernel_rfl
theorem p75_9_7 (x20 : List Rowd) (x21 x22 : Int) (x34 : List Int) (x35 x36 : Int) (b1 : Val) (b4 : Rowd) (r1 : Bool) : rS 9 I75 (S75_9 x20 x21 x22 x34 x35 x36 b1 b4) [Y, F] [xA2 r1] = st 9 I75 (S75_9 x20 x21 x22 x34 x35 (W (x36 + 1)) b1 b4) [(decide ((x36 : Int) < x35)) = true, (0 : Int) ≤ x36 ∧ x36 < (Ln x34), AbC 28 (xBQ (gD x34 (tN x36) Ty.int.dflt)) (xA2 r1), (!r1) = false] := by kernel_rfl
theorem p75_9_8 (x20 : List Rowd) (x21 x22 : Int) (x34 : List Int) (x35 x36 : Int) (b1 : Val) (b4 : Rowd) : rS 9 I75 (S75_9 x20 x21 x22 x34 x35 x36 b1 b4) [F] [] = st 15 I75 (xHV x20 x21 x22 (Rowd.frm b4) (Ln (Rowd.frm b4) : Int) 0 b1 b4) [(decide ((x36 : Int) < x35)) = false] := by kernel_rfl
theorem p75_4_9 (x20 : List Rowd) (x21 x22 : Int) (b1 : Val) : rS 4 I75 (S75_4 x20 x21 x22 b1) [Y, Y] [] = dn (xBa false) [(decide ((x22 : Int) < x21)) = true, (0 : Int) ≤ x22 ∧ x22 < (Ln x20), (((Ln (Rowd.cells (gD x20 (tN x22) rd)) : Int) : Int) != (Ln (Val.columns b1) : Int)) = true] := by kernel_rfl
theorem p75_4_10 (x20 : List Rowd) (x21 x22 : Int) (b1 : Val) : rS 4 I75 (S75_4 x20 x21 x22 b1) [Y, F] [] = st 9 I75 (S75_9 x20 x21 x22 (Rowd.cells (gD x20 (tN x22) rd)) (Ln (Rowd.cells (gD x20 (tN x22) rd)) : Int) 0 b1 (gD x20 (tN x22) rd)) [(decide ((x22 : Int) < x21)) = true, (0 : Int) ≤ x22 ∧ x22 < (Ln x20), (((Ln (Rowd.cells (gD x20 (tN x22) rd)) : Int) : Int) != (Ln (Val.columns b1) : Int)) = false] := by kernel_rfl
theorem p75_4_11 (x20 : List Rowd) (x21 x22 : Int) (b1 : Val) : rS 4 I75 (S75_4 x20 x21 x22 b1) [F] [] = dn (xBa true) [(decide ((x22 : Int) < x21)) = false] := by kernel_rfl
theorem p75_e_12 (a0 : Val) (r1 : Bool) : rE I75 (xDC a0) [Y, Y] [xBp r1] = dn (xBa false) [AbC 82 (xC3 (Val.columns a0)) (xBp r1), (!r1) = true, true = true] := by kernel_rfl
theorem p75_e_13 (a0 : Val) (r1 : Bool) : rE I75 (xDC a0) [F, Y] [xBp r1] = dn (xBa false) [AbC 82 (xC3 (Val.columns a0)) (xBp r1), (!r1) = false, (decide (((Ln (Val.rows a0) : Int) : Int) > 12)) = true] := by kernel_rfl
theorem p75_e_14 (a0 : Val) (r1 : Bool) : rE I75 (xDC a0) [F, F] [xBp r1] = st 4 I75 (S75_4 (Val.rows a0) (Ln (Val.rows a0) : Int) 0 a0) [AbC 82 (xC3 (Val.columns a0)) (xBp r1), (!r1) = false, (decide (((Ln (Val.rows a0) : Int) : Int) > 12)) = false] := by kernel_rfl
theorem c75_15 {N : Nat} {k4 : (List Rowd) → Int → Int → Val → Option (Bool)} (hk4 : ∀ z0 z1 z2 z3 r, k4 z0 z1 z2 z3 = some r → RS Try.f75 I75 4 (S75_4 z0 z1 z2 z3) (xBa r)) : ∀ n x20 x21 x22 x45 x46 x47 b1 b4 r, xCK N k4 n x20 x21 x22 x45 x46 x47 b1 b4 = some r → RS Try.f75 I75 15 (xHV x20 x21 x22 x45 x46 x47 b1 b4) (xBa r) := by
 intro n
 induction n with
 | zero => exact fun _ _ _ _ _ _ _ _ _ h => nE h
 | succ n ih =>
  exact fun x20 x21 x22 x45 x46 x47 b1 b4 r h =>
   cE h (fun h0 h => iE h fun h1 h => cE h (fun h2 h => dS h fk75 (p75_15_0 x20 x21 x22 x45 x46 x47 b1 b4) (oc h0 (oc h1 (oc h2 (oc rfl (oc rfl on)))))) fun h2 h =>
   cE h (fun h3 h => dS h fk75 (p75_15_1 x20 x21 x22 x45 x46 x47 b1 b4) (oc h0 (oc h1 (oc h2 (oc h3 (oc rfl on)))))) fun h3 h =>
   cE h (fun h4 h => iE h fun h5 h => bE h fun r1 h6 h => cE h (fun h7 h => dS h fk75 (p75_15_2 x20 x21 x22 x45 x46 x47 b1 b4 r1) (oc h0 (oc h1 (oc h2 (oc h3 (oc h4 (oc h5 (oc (xGo h6) (oc h7 on))))))))) fun h7 h =>
   tS fk75 (p75_15_3 x20 x21 x22 x45 x46 x47 b1 b4 r1) (oc h0 (oc h1 (oc h2 (oc h3 (oc h4 (oc h5 (oc (xGo h6) (oc h7 on)))))))) (ih _ _ _ _ _ _ _ _ _ h)) fun h4 h =>
   tS fk75 (p75_15_4 x20 x21 x22 x45 x46 x47 b1 b4) (oc h0 (oc h1 (oc h2 (oc h3 (oc h4 (oc rfl on)))))) (ih _ _ _ _ _ _ _ _ _ h)) fun h0 h =>
   tS fk75 (p75_15_5 x20 x21 x22 x45 x46 x47 b1 b4) (oc h0 on) (hk4 _ _ _ _ _ h)
theorem c75_9 {N : Nat} {k4 : (List Rowd) → Int → Int → Val → Option (Bool)} (hk4 : ∀ z0 z1 z2 z3 r, k4 z0 z1 z2 z3 = some r → RS Try.f75 I75 4 (S75_4 z0 z1 z2 z3) (xBa r)) : ∀ n x20 x21 x22 x34 x35 x36 b1 b4 r, xDE N k4 n x20 x21 x22 x34 x35 x36 b1 b4 = some r → RS Try.f75 I75 9 (S75_9 x20 x21 x22 x34 x35 x36 b1 b4) (xBa r) := by
 intro n
 induction n with
 | zero => exact fun _ _ _ _ _ _ _ _ _ h => nE h
 | succ n ih =>
  exact fun x20 x21 x22 x34 x35 x36 b1 b4 r h =>
   cE h (fun h0 h => iE h fun h1 h => bE h fun r1 h2 h => cE h (fun h3 h => dS h fk75 (p75_9_6 x20 x21 x22 x34 x35 x36 b1 b4 r1) (oc h0 (oc h1 (oc (xCJ h2) (oc h3 on))))) fun h3 h =>
   tS fk75 (p75_9_7 x20 x21 x22 x34 x35 x36 b1 b4 r1) (oc h0 (oc h1 (oc (xCJ h2) (oc h3 on)))) (ih _ _ _ _ _ _ _ _ _ h)) fun h0 h =>
   tS fk75 (p75_9_8 x20 x21 x22 x34 x35 x36 b1 b4) (oc h0 on) (c75_15 hk4 _ _ _ _ _ _ _ _ _ _ h)
theorem c75_4 {N : Nat} : ∀ n x20 x21 x22 b1 r, xDD N n x20 x21 x22 b1 = some r → RS Try.f75 I75 4 (S75_4 x20 x21 x22 b1) (xBa r) := by
 intro n
 induction n with
 | zero => exact fun _ _ _ _ _ h => nE h
 | succ n ih =>
  exact fun x20 x21 x22 b1 r h =>
   cE h (fun h0 h => iE h fun h1 h => cE h (fun h2 h => dS h fk75 (p75_4_9 x20 x21 x22 b1) (oc h0 (oc h1 (oc h2 on)))) fun h2 h =>
   tS fk75 (p75_4_10 x20 x21 x22 b1) (oc h0 (oc h1 (oc h2 on))) (c75_9 ih _ _ _ _ _ _ _ _ _ _ h)) fun h0 h =>
   dS h fk75 (p75_4_11 x20 x21 x22 b1) (oc h0 on)
theorem c75_e {N : Nat} : ∀ a0 r, xFx N a0 = some r → RE Try.f75 I75 (xDC a0) (xBa r) := fun a0 r h =>
 bE h fun r1 h0 h => cE h (fun h1 h => dE h fk75 (p75_e_12 a0 r1) (oc (xFB h0) (oc h1 (oc rfl on)))) fun h1 h =>
 cE h (fun h2 h => dE h fk75 (p75_e_13 a0 r1) (oc (xFB h0) (oc h1 (oc h2 on)))) fun h2 h =>
 tE fk75 (p75_e_14 a0 r1) (oc (xFB h0) (oc h1 (oc h2 on))) (c75_4 _ _ _ _ _ _ h)
theorem xHz {N : Nat} {a0 : Val} {r : Bool} (h : xFx N  a0 = some r) : AbC 75 (xDC a0) (xBa r) :=
 AbsCalls.of_reach fk75 rfl rfl (Nat.le_of_ble_eq_true rfl) (c75_e a0 r h)
def G76 (q : Val → Option (Int)) : Prop := ∀ a0 r, q a0 = some r → AbC 76 (xDy a0) (xCb r)
noncomputable def I76 : Info := { body := (Try.f76.body).getD .skip, nt := 20, results := [.tmp 2], keep := [0, 2, 4, 6, 10, 14, 16, 18, 20, 3, 11], live := [(3, [6, 14, 16, 18])], modes := [(6, [(1, .take, false)])] }
theorem fk76 : FnOk Try.prog 76 Try.f76 I76 := ⟨Try.func76, by kernel_rfl, by kernel_rfl, by kernel_rfl, by kernel_rfl⟩
def S76_3 (x3 : Int) (x7 : List Val) (x8 x9 : Int) : St := [(6, .v false [.int .i64 x3]), (14, .v false [.sl .ro .val x7]), (16, .v false [.int .i64 x8]), (18, .v false [.int .i64 x9])]
theorem p76_3_0 (x3 : Int) (x7 : List Val) (x8 x9 r1 : Int) : rS 3 I76 (S76_3 x3 x7 x8 x9) [Y] [xCb r1] = st 3 I76 (S76_3 (if (r1 : Int) > x3 then r1 else x3) x7 x8 (W (x9 + 1))) [(decide ((x9 : Int) < x8)) = true, (0 : Int) ≤ x9 ∧ x9 < (Ln x7), AbC 76 (xDy (gD x7 (tN x9) vd)) (xCb r1)] := by kernel_rfl
theorem p76_3_1 (x3 : Int) (x7 : List Val) (x8 x9 : Int) : rS 3 I76 (S76_3 x3 x7 x8 x9) [F] [] = dn (xCb (W (x3 + 1))) [(decide ((x9 : Int) < x8)) = false] := by kernel_rfl
theorem p76_e_2 (a0 : Val) : rE I76 (xDy a0) [] [] = st 3 I76 (S76_3 0 (Val.list a0) (Ln (Val.list a0) : Int) 0) [] := by kernel_rfl
theorem c76_3 {N : Nat} {q0 : Val → Option (Int)} (g0 : G76 q0) : ∀ n x3 x7 x8 x9 r, xEe N q0 n x3 x7 x8 x9 = some r → RS Try.f76 I76 3 (S76_3 x3 x7 x8 x9) (xCb r) := by
 intro n
 induction n with
 | zero => exact fun _ _ _ _ _ h => nE h
 | succ n ih =>
  exact fun x3 x7 x8 x9 r h =>
   cE h (fun h0 h => iE h fun h1 h => bE h fun r1 h2 h => tS fk76 (p76_3_0 x3 x7 x8 x9 r1) (oc h0 (oc h1 (oc (g0 _ _ h2) on))) (ih _ _ _ _ _ h)) fun h0 h =>
   dS h fk76 (p76_3_1 x3 x7 x8 x9) (oc h0 on)
theorem c76_e {N : Nat} {q0 : Val → Option (Int)} (g0 : G76 q0) : ∀ a0 r, xFU N q0 a0 = some r → RE Try.f76 I76 (xDy a0) (xCb r) := fun a0 r h =>
 tE fk76 (p76_e_2 a0) on (c76_3 g0 _ _ _ _ _ _ h)
theorem xHO {N : Nat} {q0 : Val → Option (Int)} (g0 : G76 q0) {a0 : Val} {r : Int} (h : xFU N q0 a0 = some r) : AbC 76 (xDy a0) (xCb r) :=
 AbsCalls.of_reach fk76 rfl rfl (Nat.le_of_ble_eq_true rfl) (c76_e g0 a0 r h)
theorem xGx {N : Nat} : ∀ d, G76 (xC9 N d)
 | 0 => fun _ _ h => nE h
 | d + 1 => fun _ _ h => xHO (N := N) (xGx d) h
theorem impl_DepthOf_ok {N : Nat} {a0 : Val} {r : Int} (h : xGf N a0 = some r) : AbC 76 (xDy a0) (xCb r) := xGx N _ r h
def G66 (q : Val → Option (Bool)) : Prop := ∀ a0 r, q a0 = some r → AbC 66 (xAq a0) (xAm r)
noncomputable def I66 : Info := { body := (Try.f66.body).getD .skip, nt := 185, results := [.tmp 2], keep := [0, 2, 4, 6, 10, 46, 48, 84, 120, 156, 192, 242, 248, 250, 252, 254, 294, 3, 11], live := [(15, [2, 248, 250, 252, 3])], modes := [(1, [(4, .take, false), (10, .take, false)]), (4, [(1, .take, false), (6, .take, false), (11, .take, false)]), (6, [(1, .take, false), (6, .take, false), (11, .take, false)]), (8, [(1, .take, false), (6, .take, false), (11, .take, false)]), (10, [(1, .take, false), (6, .take, false), (11, .take, false)]), (12, [(3, .take, false), (8, .take, false), (13, .take, false), (19, .take, false)]), (17, [(3, .take, false), (8, .take, false), (13, .take, false)]), (19, [(1, .take, false)]), (20, [(3, .take, false), (8, .take, false), (13, .take, false), (19, .take, false), (25, .take, false), (31, .take, false)])] }
theorem fk66 : FnOk Try.prog 66 Try.f66 I66 := ⟨Try.func66, by kernel_rfl, by kernel_rfl, by kernel_rfl, by kernel_rfl⟩
def xE8 (x124 : List Val) (x125 x126 : Int) (b1 : Val) : St := [(2, .v false [.ptr 1 0]), (248, .v false [.sl .ro .val x124]), (250, .v false [.int .i64 x125]), (252, .v false [.int .i64 x126]), (3, .v true [.int .i64 (Val.kind b1), .int .i64 (Val.n b1), .int .i64 (Val.step b1), .str (Val.text b1), .sl .ro .val (Val.list b1), .sl .ro .str (Val.columns b1), .sl .ro .row (Val.rows b1)])]
theorem p66_15_0 (x124 : List Val) (x125 x126 : Int) (b1 : Val) : rS 15 I66 (xE8 x124 x125 x126 b1) [Y, Y, Y, Y, Y] [] = dn (xAm false) [(decide ((x126 : Int) < x125)) = true, (0 : Int) ≤ x126 ∧ x126 < (Ln x124), (((Val.kind (gD x124 (tN x126) vd)) : Int) != 1) = true, (((Val.kind (gD x124 (tN x126) vd)) : Int) != 2) = true, (((Val.kind (gD x124 (tN x126) vd)) : Int) != 3) = true, true = true] := by kernel_rfl
theorem p66_15_1 (x124 : List Val) (x125 x126 : Int) (b1 : Val) (r1 : Bool) : rS 15 I66 (xE8 x124 x125 x126 b1) [Y, Y, Y, F, Y] [xAm r1] = dn (xAm false) [(decide ((x126 : Int) < x125)) = true, (0 : Int) ≤ x126 ∧ x126 < (Ln x124), (((Val.kind (gD x124 (tN x126) vd)) : Int) != 1) = true, (((Val.kind (gD x124 (tN x126) vd)) : Int) != 2) = true, (((Val.kind (gD x124 (tN x126) vd)) : Int) != 3) = false, AbC 66 (xAq (gD x124 (tN x126) vd)) (xAm r1), (!r1) = true] := by kernel_rfl
theorem p66_15_2 (x124 : List Val) (x125 x126 : Int) (b1 : Val) (r1 : Bool) : rS 15 I66 (xE8 x124 x125 x126 b1) [Y, Y, Y, F, F] [xAm r1] = st 15 I66 (xE8 x124 x125 (W (x126 + 1)) b1) [(decide ((x126 : Int) < x125)) = true, (0 : Int) ≤ x126 ∧ x126 < (Ln x124), (((Val.kind (gD x124 (tN x126) vd)) : Int) != 1) = true, (((Val.kind (gD x124 (tN x126) vd)) : Int) != 2) = true, (((Val.kind (gD x124 (tN x126) vd)) : Int) != 3) = false, AbC 66 (xAq (gD x124 (tN x126) vd)) (xAm r1), (!r1) = false] := by kernel_rfl
theorem p66_15_3 (x124 : List Val) (x125 x126 : Int) (b1 : Val) (r1 : Bool) : rS 15 I66 (xE8 x124 x125 x126 b1) [Y, Y, F, F, Y] [xAm r1] = dn (xAm false) [(decide ((x126 : Int) < x125)) = true, (0 : Int) ≤ x126 ∧ x126 < (Ln x124), (((Val.kind (gD x124 (tN x126) vd)) : Int) != 1) = true, (((Val.kind (gD x124 (tN x126) vd)) : Int) != 2) = false, false = false, AbC 66 (xAq (gD x124 (tN x126) vd)) (xAm r1), (!r1) = true] := by kernel_rfl
theorem p66_15_4 (x124 : List Val) (x125 x126 : Int) (b1 : Val) (r1 : Bool) : rS 15 I66 (xE8 x124 x125 x126 b1) [Y, Y, F, F, F] [xAm r1] = st 15 I66 (xE8 x124 x125 (W (x126 + 1)) b1) [(decide ((x126 : Int) < x125)) = true, (0 : Int) ≤ x126 ∧ x126 < (Ln x124), (((Val.kind (gD x124 (tN x126) vd)) : Int) != 1) = true, (((Val.kind (gD x124 (tN x126) vd)) : Int) != 2) = false, false = false, AbC 66 (xAq (gD x124 (tN x126) vd)) (xAm r1), (!r1) = false] := by kernel_rfl
theorem p66_15_5 (x124 : List Val) (x125 x126 : Int) (b1 : Val) (r1 : Bool) : rS 15 I66 (xE8 x124 x125 x126 b1) [Y, F, F, F, Y] [xAm r1] = dn (xAm false) [(decide ((x126 : Int) < x125)) = true, (0 : Int) ≤ x126 ∧ x126 < (Ln x124), (((Val.kind (gD x124 (tN x126) vd)) : Int) != 1) = false, false = false, false = false, AbC 66 (xAq (gD x124 (tN x126) vd)) (xAm r1), (!r1) = true] := by kernel_rfl
theorem p66_15_6 (x124 : List Val) (x125 x126 : Int) (b1 : Val) (r1 : Bool) : rS 15 I66 (xE8 x124 x125 x126 b1) [Y, F, F, F, F] [xAm r1] = st 15 I66 (xE8 x124 x125 (W (x126 + 1)) b1) [(decide ((x126 : Int) < x125)) = true, (0 : Int) ≤ x126 ∧ x126 < (Ln x124), (((Val.kind (gD x124 (tN x126) vd)) : Int) != 1) = false, false = false, false = false, AbC 66 (xAq (gD x124 (tN x126) vd)) (xAm r1), (!r1) = false] := by kernel_rfl
theorem p66_15_7 (x124 : List Val) (x125 x126 : Int) (b1 : Val) (r1 : Int) : rS 15 I66 (xE8 x124 x125 x126 b1) [F, Y, Y, Y, Y, Y, Y] [xCb r1] = dn (xAm (decide ((r1 : Int) ≤ 3))) [(decide ((x126 : Int) < x125)) = false, (((Val.n b1) : Int) == 0) = true, (((Val.step b1) : Int) == 0) = true, (((Val.text b1) : Str) == []) = true, (((Ln (Val.columns b1) : Int) : Int) == 0) = true, (((Ln (Val.rows b1) : Int) : Int) == 0) = true, (decide (((Ln (Val.list b1) : Int) : Int) ≤ 8)) = true, AbC 76 (xDy b1) (xCb r1)] := by kernel_rfl
theorem p66_15_8 (x124 : List Val) (x125 x126 : Int) (b1 : Val) : rS 15 I66 (xE8 x124 x125 x126 b1) [F, Y, Y, Y, Y, Y, F] [] = dn (xAm false) [(decide ((x126 : Int) < x125)) = false, (((Val.n b1) : Int) == 0) = true, (((Val.step b1) : Int) == 0) = true, (((Val.text b1) : Str) == []) = true, (((Ln (Val.columns b1) : Int) : Int) == 0) = true, (((Ln (Val.rows b1) : Int) : Int) == 0) = true, (decide (((Ln (Val.list b1) : Int) : Int) ≤ 8)) = false] := by kernel_rfl
theorem p66_15_9 (x124 : List Val) (x125 x126 : Int) (b1 : Val) : rS 15 I66 (xE8 x124 x125 x126 b1) [F, Y, Y, Y, Y, F, F] [] = dn (xAm false) [(decide ((x126 : Int) < x125)) = false, (((Val.n b1) : Int) == 0) = true, (((Val.step b1) : Int) == 0) = true, (((Val.text b1) : Str) == []) = true, (((Ln (Val.columns b1) : Int) : Int) == 0) = true, (((Ln (Val.rows b1) : Int) : Int) == 0) = false, false = false] := by kernel_rfl
theorem p66_15_10 (x124 : List Val) (x125 x126 : Int) (b1 : Val) : rS 15 I66 (xE8 x124 x125 x126 b1) [F, Y, Y, Y, F, F, F] [] = dn (xAm false) [(decide ((x126 : Int) < x125)) = false, (((Val.n b1) : Int) == 0) = true, (((Val.step b1) : Int) == 0) = true, (((Val.text b1) : Str) == []) = true, (((Ln (Val.columns b1) : Int) : Int) == 0) = false, false = false, false = false] := by kernel_rfl
theorem p66_15_11 (x124 : List Val) (x125 x126 : Int) (b1 : Val) : rS 15 I66 (xE8 x124 x125 x126 b1) [F, Y, Y, F, F, F, F] [] = dn (xAm false) [(decide ((x126 : Int) < x125)) = false, (((Val.n b1) : Int) == 0) = true, (((Val.step b1) : Int) == 0) = true, (((Val.text b1) : Str) == []) = false, false = false, false = false, false = false] := by kernel_rfl
theorem p66_15_12 (x124 : List Val) (x125 x126 : Int) (b1 : Val) : rS 15 I66 (xE8 x124 x125 x126 b1) [F, Y, F, F, F, F, F] [] = dn (xAm false) [(decide ((x126 : Int) < x125)) = false, (((Val.n b1) : Int) == 0) = true, (((Val.step b1) : Int) == 0) = false, false = false, false = false, false = false, false = false] := by kernel_rfl
theorem p66_15_13 (x124 : List Val) (x125 x126 : Int) (b1 : Val) : rS 15 I66 (xE8 x124 x125 x126 b1) [F, F, F, F, F, F, F] [] = dn (xAm false) [(decide ((x126 : Int) < x125)) = false, (((Val.n b1) : Int) == 0) = false, false = false, false = false, false = false, false = false, false = false] := by kernel_rfl
theorem p66_e_14 (a0 : Val) (r1 : Bool) : rE I66 (xAq a0) [Y, Y, Y, Y, Y, Y] [xA2 r1] = dn (xAm r1) [(((Ln (Val.list a0) : Int) : Int) == 0) = true, (((Ln (Val.columns a0) : Int) : Int) == 0) = true, (((Val.kind a0) : Int) == 1) = true, (((Ln (Val.rows a0) : Int) : Int) == 0) = true, (((Val.step a0) : Int) == 0) = true, (((Val.text a0) : Str) == []) = true, AbC 28 (xBQ (Val.n a0)) (xA2 r1)] := by kernel_rfl
theorem p66_e_15 (a0 : Val) : rE I66 (xAq a0) [Y, Y, Y, Y, Y, F] [] = dn (xAm false) [(((Ln (Val.list a0) : Int) : Int) == 0) = true, (((Ln (Val.columns a0) : Int) : Int) == 0) = true, (((Val.kind a0) : Int) == 1) = true, (((Ln (Val.rows a0) : Int) : Int) == 0) = true, (((Val.step a0) : Int) == 0) = true, (((Val.text a0) : Str) == []) = false] := by kernel_rfl
theorem p66_e_16 (a0 : Val) : rE I66 (xAq a0) [Y, Y, Y, Y, F, F] [] = dn (xAm false) [(((Ln (Val.list a0) : Int) : Int) == 0) = true, (((Ln (Val.columns a0) : Int) : Int) == 0) = true, (((Val.kind a0) : Int) == 1) = true, (((Ln (Val.rows a0) : Int) : Int) == 0) = true, (((Val.step a0) : Int) == 0) = false, false = false] := by kernel_rfl
theorem p66_e_17 (a0 : Val) : rE I66 (xAq a0) [Y, Y, Y, F, F, F] [] = dn (xAm false) [(((Ln (Val.list a0) : Int) : Int) == 0) = true, (((Ln (Val.columns a0) : Int) : Int) == 0) = true, (((Val.kind a0) : Int) == 1) = true, (((Ln (Val.rows a0) : Int) : Int) == 0) = false, false = false, false = false] := by kernel_rfl
theorem p66_e_18 (a0 : Val) (r1 : Bool) : rE I66 (xAq a0) [Y, Y, F, Y, Y, Y, Y] [xBN r1] = dn (xAm r1) [(((Ln (Val.list a0) : Int) : Int) == 0) = true, (((Ln (Val.columns a0) : Int) : Int) == 0) = true, (((Val.kind a0) : Int) == 1) = false, (((Val.kind a0) : Int) == 2) = true, (((Ln (Val.rows a0) : Int) : Int) == 0) = true, (((Val.n a0) : Int) == 0) = true, (((Val.step a0) : Int) == 0) = true, AbC 74 (xEn (Val.text a0)) (xBN r1)] := by kernel_rfl
theorem p66_e_19 (a0 : Val) : rE I66 (xAq a0) [Y, Y, F, Y, Y, Y, F] [] = dn (xAm false) [(((Ln (Val.list a0) : Int) : Int) == 0) = true, (((Ln (Val.columns a0) : Int) : Int) == 0) = true, (((Val.kind a0) : Int) == 1) = false, (((Val.kind a0) : Int) == 2) = true, (((Ln (Val.rows a0) : Int) : Int) == 0) = true, (((Val.n a0) : Int) == 0) = true, (((Val.step a0) : Int) == 0) = false] := by kernel_rfl
theorem p66_e_20 (a0 : Val) : rE I66 (xAq a0) [Y, Y, F, Y, Y, F, F] [] = dn (xAm false) [(((Ln (Val.list a0) : Int) : Int) == 0) = true, (((Ln (Val.columns a0) : Int) : Int) == 0) = true, (((Val.kind a0) : Int) == 1) = false, (((Val.kind a0) : Int) == 2) = true, (((Ln (Val.rows a0) : Int) : Int) == 0) = true, (((Val.n a0) : Int) == 0) = false, false = false] := by kernel_rfl
theorem p66_e_21 (a0 : Val) : rE I66 (xAq a0) [Y, Y, F, Y, F, F, F] [] = dn (xAm false) [(((Ln (Val.list a0) : Int) : Int) == 0) = true, (((Ln (Val.columns a0) : Int) : Int) == 0) = true, (((Val.kind a0) : Int) == 1) = false, (((Val.kind a0) : Int) == 2) = true, (((Ln (Val.rows a0) : Int) : Int) == 0) = false, false = false, false = false] := by kernel_rfl
theorem p66_e_22 (a0 : Val) (r1 r2 : Bool) : rE I66 (xAq a0) [Y, Y, F, F, Y, Y, Y, Y] [xA2 r1, xA2 r2] = dn (xAm r2) [(((Ln (Val.list a0) : Int) : Int) == 0) = true, (((Ln (Val.columns a0) : Int) : Int) == 0) = true, (((Val.kind a0) : Int) == 1) = false, (((Val.kind a0) : Int) == 2) = false, (((Val.kind a0) : Int) == 4) = true, (((Ln (Val.rows a0) : Int) : Int) == 0) = true, (((Val.text a0) : Str) == []) = true, AbC 28 (xBQ (Val.n a0)) (xA2 r1), r1 = true, AbC 28 (xBQ (Val.step a0)) (xA2 r2)] := by kernel_rfl
theorem p66_e_23 (a0 : Val) (r1 : Bool) : rE I66 (xAq a0) [Y, Y, F, F, Y, Y, Y, F] [xA2 r1] = dn (xAm false) [(((Ln (Val.list a0) : Int) : Int) == 0) = true, (((Ln (Val.columns a0) : Int) : Int) == 0) = true, (((Val.kind a0) : Int) == 1) = false, (((Val.kind a0) : Int) == 2) = false, (((Val.kind a0) : Int) == 4) = true, (((Ln (Val.rows a0) : Int) : Int) == 0) = true, (((Val.text a0) : Str) == []) = true, AbC 28 (xBQ (Val.n a0)) (xA2 r1), r1 = false] := by kernel_rfl
theorem p66_e_24 (a0 : Val) : rE I66 (xAq a0) [Y, Y, F, F, Y, Y, F, F] [] = dn (xAm false) [(((Ln (Val.list a0) : Int) : Int) == 0) = true, (((Ln (Val.columns a0) : Int) : Int) == 0) = true, (((Val.kind a0) : Int) == 1) = false, (((Val.kind a0) : Int) == 2) = false, (((Val.kind a0) : Int) == 4) = true, (((Ln (Val.rows a0) : Int) : Int) == 0) = true, (((Val.text a0) : Str) == []) = false, false = false] := by kernel_rfl
theorem p66_e_25 (a0 : Val) : rE I66 (xAq a0) [Y, Y, F, F, Y, F, F, F] [] = dn (xAm false) [(((Ln (Val.list a0) : Int) : Int) == 0) = true, (((Ln (Val.columns a0) : Int) : Int) == 0) = true, (((Val.kind a0) : Int) == 1) = false, (((Val.kind a0) : Int) == 2) = false, (((Val.kind a0) : Int) == 4) = true, (((Ln (Val.rows a0) : Int) : Int) == 0) = false, false = false, false = false] := by kernel_rfl
theorem p66_e_26 (a0 : Val) (r1 : Bool) : rE I66 (xAq a0) [Y, Y, F, F, F, Y, Y, Y, Y] [xBI r1] = dn (xAm r1) [(((Ln (Val.list a0) : Int) : Int) == 0) = true, (((Ln (Val.columns a0) : Int) : Int) == 0) = true, (((Val.kind a0) : Int) == 1) = false, (((Val.kind a0) : Int) == 2) = false, (((Val.kind a0) : Int) == 4) = false, (((Val.kind a0) : Int) == 6) = true, (((Ln (Val.rows a0) : Int) : Int) == 0) = true, (((Val.step a0) : Int) == 0) = true, (((Val.text a0) : Str) == []) = true, AbC 52 (xC0 (Val.n a0) 1 8) (xBI r1)] := by kernel_rfl
theorem p66_e_27 (a0 : Val) : rE I66 (xAq a0) [Y, Y, F, F, F, Y, Y, Y, F] [] = dn (xAm false) [(((Ln (Val.list a0) : Int) : Int) == 0) = true, (((Ln (Val.columns a0) : Int) : Int) == 0) = true, (((Val.kind a0) : Int) == 1) = false, (((Val.kind a0) : Int) == 2) = false, (((Val.kind a0) : Int) == 4) = false, (((Val.kind a0) : Int) == 6) = true, (((Ln (Val.rows a0) : Int) : Int) == 0) = true, (((Val.step a0) : Int) == 0) = true, (((Val.text a0) : Str) == []) = false] := by kernel_rfl
theorem p66_e_28 (a0 : Val) : rE I66 (xAq a0) [Y, Y, F, F, F, Y, Y, F, F] [] = dn (xAm false) [(((Ln (Val.list a0) : Int) : Int) == 0) = true, (((Ln (Val.columns a0) : Int) : Int) == 0) = true, (((Val.kind a0) : Int) == 1) = false, (((Val.kind a0) : Int) == 2) = false, (((Val.kind a0) : Int) == 4) = false, (((Val.kind a0) : Int) == 6) = true, (((Ln (Val.rows a0) : Int) : Int) == 0) = true, (((Val.step a0) : Int) == 0) = false, false = false] := by kernel_rfl
theorem p66_e_29 (a0 : Val) : rE I66 (xAq a0) [Y, Y, F, F, F, Y, F, F, F] [] = dn (xAm false) [(((Ln (Val.list a0) : Int) : Int) == 0) = true, (((Ln (Val.columns a0) : Int) : Int) == 0) = true, (((Val.kind a0) : Int) == 1) = false, (((Val.kind a0) : Int) == 2) = false, (((Val.kind a0) : Int) == 4) = false, (((Val.kind a0) : Int) == 6) = true, (((Ln (Val.rows a0) : Int) : Int) == 0) = false, false = false, false = false] := by kernel_rfl
theorem p66_e_30 (a0 : Val) (r1 : Bool) : rE I66 (xAq a0) [Y, Y, F, F, F, F, Y, Y, Y, Y, Y] [xBa r1] = dn (xAm r1) [(((Ln (Val.list a0) : Int) : Int) == 0) = true, (((Ln (Val.columns a0) : Int) : Int) == 0) = true, (((Val.kind a0) : Int) == 1) = false, (((Val.kind a0) : Int) == 2) = false, (((Val.kind a0) : Int) == 4) = false, (((Val.kind a0) : Int) == 6) = false, (((Val.kind a0) : Int) == 5) = true, (((Val.n a0) : Int) == 0) = true, (((Val.step a0) : Int) == 0) = true, (((Val.text a0) : Str) == []) = true, (((Ln (Val.list a0) : Int) : Int) == 0) = true, AbC 75 (xDC a0) (xBa r1)] := by kernel_rfl
theorem p66_e_31 (a0 : Val) : rE I66 (xAq a0) [Y, Y, F, F, F, F, Y, Y, Y, F, F] [] = dn (xAm false) [(((Ln (Val.list a0) : Int) : Int) == 0) = true, (((Ln (Val.columns a0) : Int) : Int) == 0) = true, (((Val.kind a0) : Int) == 1) = false, (((Val.kind a0) : Int) == 2) = false, (((Val.kind a0) : Int) == 4) = false, (((Val.kind a0) : Int) == 6) = false, (((Val.kind a0) : Int) == 5) = true, (((Val.n a0) : Int) == 0) = true, (((Val.step a0) : Int) == 0) = true, (((Val.text a0) : Str) == []) = false, false = false] := by kernel_rfl
theorem p66_e_32 (a0 : Val) : rE I66 (xAq a0) [Y, Y, F, F, F, F, Y, Y, F, F, F] [] = dn (xAm false) [(((Ln (Val.list a0) : Int) : Int) == 0) = true, (((Ln (Val.columns a0) : Int) : Int) == 0) = true, (((Val.kind a0) : Int) == 1) = false, (((Val.kind a0) : Int) == 2) = false, (((Val.kind a0) : Int) == 4) = false, (((Val.kind a0) : Int) == 6) = false, (((Val.kind a0) : Int) == 5) = true, (((Val.n a0) : Int) == 0) = true, (((Val.step a0) : Int) == 0) = false, false = false, false = false] := by kernel_rfl
theorem p66_e_33 (a0 : Val) : rE I66 (xAq a0) [Y, Y, F, F, F, F, Y, F, F, F, F] [] = dn (xAm false) [(((Ln (Val.list a0) : Int) : Int) == 0) = true, (((Ln (Val.columns a0) : Int) : Int) == 0) = true, (((Val.kind a0) : Int) == 1) = false, (((Val.kind a0) : Int) == 2) = false, (((Val.kind a0) : Int) == 4) = false, (((Val.kind a0) : Int) == 6) = false, (((Val.kind a0) : Int) == 5) = true, (((Val.n a0) : Int) == 0) = false, false = false, false = false, false = false] := by kernel_rfl
theorem p66_e_34 (a0 : Val) : rE I66 (xAq a0) [Y, Y, F, F, F, F, F, Y] [] = st 15 I66 (xE8 (Val.list a0) (Ln (Val.list a0) : Int) 0 a0) [(((Ln (Val.list a0) : Int) : Int) == 0) = true, (((Ln (Val.columns a0) : Int) : Int) == 0) = true, (((Val.kind a0) : Int) == 1) = false, (((Val.kind a0) : Int) == 2) = false, (((Val.kind a0) : Int) == 4) = false, (((Val.kind a0) : Int) == 6) = false, (((Val.kind a0) : Int) == 5) = false, (((Val.kind a0) : Int) == 3) = true] := by kernel_rfl
theorem p66_e_35 (a0 : Val) : rE I66 (xAq a0) [Y, Y, F, F, F, F, F, F] [] = dn (xAm false) [(((Ln (Val.list a0) : Int) : Int) == 0) = true, (((Ln (Val.columns a0) : Int) : Int) == 0) = true, (((Val.kind a0) : Int) == 1) = false, (((Val.kind a0) : Int) == 2) = false, (((Val.kind a0) : Int) == 4) = false, (((Val.kind a0) : Int) == 6) = false, (((Val.kind a0) : Int) == 5) = false, (((Val.kind a0) : Int) == 3) = false] := by kernel_rfl
theorem p66_e_36 (a0 : Val) : rE I66 (xAq a0) [Y, F, Y, F, F, F] [] = dn (xAm false) [(((Ln (Val.list a0) : Int) : Int) == 0) = true, (((Ln (Val.columns a0) : Int) : Int) == 0) = false, (((Val.kind a0) : Int) == 1) = true, false = false, false = false, false = false] := by kernel_rfl
theorem p66_e_37 (a0 : Val) : rE I66 (xAq a0) [Y, F, F, Y, F, F, F] [] = dn (xAm false) [(((Ln (Val.list a0) : Int) : Int) == 0) = true, (((Ln (Val.columns a0) : Int) : Int) == 0) = false, (((Val.kind a0) : Int) == 1) = false, (((Val.kind a0) : Int) == 2) = true, false = false, false = false, false = false] := by kernel_rfl
theorem p66_e_38 (a0 : Val) : rE I66 (xAq a0) [Y, F, F, F, Y, F, F, F] [] = dn (xAm false) [(((Ln (Val.list a0) : Int) : Int) == 0) = true, (((Ln (Val.columns a0) : Int) : Int) == 0) = false, (((Val.kind a0) : Int) == 1) = false, (((Val.kind a0) : Int) == 2) = false, (((Val.kind a0) : Int) == 4) = true, false = false, false = false, false = false] := by kernel_rfl
theorem p66_e_39 (a0 : Val) : rE I66 (xAq a0) [Y, F, F, F, F, Y, F, F, F] [] = dn (xAm false) [(((Ln (Val.list a0) : Int) : Int) == 0) = true, (((Ln (Val.columns a0) : Int) : Int) == 0) = false, (((Val.kind a0) : Int) == 1) = false, (((Val.kind a0) : Int) == 2) = false, (((Val.kind a0) : Int) == 4) = false, (((Val.kind a0) : Int) == 6) = true, false = false, false = false, false = false] := by kernel_rfl
theorem p66_e_40 (a0 : Val) (r1 : Bool) : rE I66 (xAq a0) [Y, F, F, F, F, F, Y, Y, Y, Y, Y] [xBa r1] = dn (xAm r1) [(((Ln (Val.list a0) : Int) : Int) == 0) = true, (((Ln (Val.columns a0) : Int) : Int) == 0) = false, (((Val.kind a0) : Int) == 1) = false, (((Val.kind a0) : Int) == 2) = false, (((Val.kind a0) : Int) == 4) = false, (((Val.kind a0) : Int) == 6) = false, (((Val.kind a0) : Int) == 5) = true, (((Val.n a0) : Int) == 0) = true, (((Val.step a0) : Int) == 0) = true, (((Val.text a0) : Str) == []) = true, (((Ln (Val.list a0) : Int) : Int) == 0) = true, AbC 75 (xDC a0) (xBa r1)] := by kernel_rfl
theorem p66_e_41 (a0 : Val) : rE I66 (xAq a0) [Y, F, F, F, F, F, Y, Y, Y, F, F] [] = dn (xAm false) [(((Ln (Val.list a0) : Int) : Int) == 0) = true, (((Ln (Val.columns a0) : Int) : Int) == 0) = false, (((Val.kind a0) : Int) == 1) = false, (((Val.kind a0) : Int) == 2) = false, (((Val.kind a0) : Int) == 4) = false, (((Val.kind a0) : Int) == 6) = false, (((Val.kind a0) : Int) == 5) = true, (((Val.n a0) : Int) == 0) = true, (((Val.step a0) : Int) == 0) = true, (((Val.text a0) : Str) == []) = false, false = false] := by kernel_rfl
theorem p66_e_42 (a0 : Val) : rE I66 (xAq a0) [Y, F, F, F, F, F, Y, Y, F, F, F] [] = dn (xAm false) [(((Ln (Val.list a0) : Int) : Int) == 0) = true, (((Ln (Val.columns a0) : Int) : Int) == 0) = false, (((Val.kind a0) : Int) == 1) = false, (((Val.kind a0) : Int) == 2) = false, (((Val.kind a0) : Int) == 4) = false, (((Val.kind a0) : Int) == 6) = false, (((Val.kind a0) : Int) == 5) = true, (((Val.n a0) : Int) == 0) = true, (((Val.step a0) : Int) == 0) = false, false = false, false = false] := by kernel_rfl
theorem p66_e_43 (a0 : Val) : rE I66 (xAq a0) [Y, F, F, F, F, F, Y, F, F, F, F] [] = dn (xAm false) [(((Ln (Val.list a0) : Int) : Int) == 0) = true, (((Ln (Val.columns a0) : Int) : Int) == 0) = false, (((Val.kind a0) : Int) == 1) = false, (((Val.kind a0) : Int) == 2) = false, (((Val.kind a0) : Int) == 4) = false, (((Val.kind a0) : Int) == 6) = false, (((Val.kind a0) : Int) == 5) = true, (((Val.n a0) : Int) == 0) = false, false = false, false = false, false = false] := by kernel_rfl
theorem p66_e_44 (a0 : Val) : rE I66 (xAq a0) [Y, F, F, F, F, F, F, Y] [] = st 15 I66 (xE8 (Val.list a0) (Ln (Val.list a0) : Int) 0 a0) [(((Ln (Val.list a0) : Int) : Int) == 0) = true, (((Ln (Val.columns a0) : Int) : Int) == 0) = false, (((Val.kind a0) : Int) == 1) = false, (((Val.kind a0) : Int) == 2) = false, (((Val.kind a0) : Int) == 4) = false, (((Val.kind a0) : Int) == 6) = false, (((Val.kind a0) : Int) == 5) = false, (((Val.kind a0) : Int) == 3) = true] := by kernel_rfl
theorem p66_e_45 (a0 : Val) : rE I66 (xAq a0) [Y, F, F, F, F, F, F, F] [] = dn (xAm false) [(((Ln (Val.list a0) : Int) : Int) == 0) = true, (((Ln (Val.columns a0) : Int) : Int) == 0) = false, (((Val.kind a0) : Int) == 1) = false, (((Val.kind a0) : Int) == 2) = false, (((Val.kind a0) : Int) == 4) = false, (((Val.kind a0) : Int) == 6) = false, (((Val.kind a0) : Int) == 5) = false, (((Val.kind a0) : Int) == 3) = false] := by kernel_rfl
theorem p66_e_46 (a0 : Val) : rE I66 (xAq a0) [F, F, Y, F, F, F] [] = dn (xAm false) [(((Ln (Val.list a0) : Int) : Int) == 0) = false, false = false, (((Val.kind a0) : Int) == 1) = true, false = false, false = false, false = false] := by kernel_rfl
theorem p66_e_47 (a0 : Val) : rE I66 (xAq a0) [F, F, F, Y, F, F, F] [] = dn (xAm false) [(((Ln (Val.list a0) : Int) : Int) == 0) = false, false = false, (((Val.kind a0) : Int) == 1) = false, (((Val.kind a0) : Int) == 2) = true, false = false, false = false, false = false] := by kernel_rfl
theorem p66_e_48 (a0 : Val) : rE I66 (xAq a0) [F, F, F, F, Y, F, F, F] [] = dn (xAm false) [(((Ln (Val.list a0) : Int) : Int) == 0) = false, false = false, (((Val.kind a0) : Int) == 1) = false, (((Val.kind a0) : Int) == 2) = false, (((Val.kind a0) : Int) == 4) = true, false = false, false = false, false = false] := by kernel_rfl
theorem p66_e_49 (a0 : Val) : rE I66 (xAq a0) [F, F, F, F, F, Y, F, F, F] [] = dn (xAm false) [(((Ln (Val.list a0) : Int) : Int) == 0) = false, false = false, (((Val.kind a0) : Int) == 1) = false, (((Val.kind a0) : Int) == 2) = false, (((Val.kind a0) : Int) == 4) = false, (((Val.kind a0) : Int) == 6) = true, false = false, false = false, false = false] := by kernel_rfl
theorem p66_e_50 (a0 : Val) : rE I66 (xAq a0) [F, F, F, F, F, F, Y, Y, Y, Y, F] [] = dn (xAm false) [(((Ln (Val.list a0) : Int) : Int) == 0) = false, false = false, (((Val.kind a0) : Int) == 1) = false, (((Val.kind a0) : Int) == 2) = false, (((Val.kind a0) : Int) == 4) = false, (((Val.kind a0) : Int) == 6) = false, (((Val.kind a0) : Int) == 5) = true, (((Val.n a0) : Int) == 0) = true, (((Val.step a0) : Int) == 0) = true, (((Val.text a0) : Str) == []) = true, (((Ln (Val.list a0) : Int) : Int) == 0) = false] := by kernel_rfl
theorem p66_e_51 (a0 : Val) : rE I66 (xAq a0) [F, F, F, F, F, F, Y, Y, Y, F, F] [] = dn (xAm false) [(((Ln (Val.list a0) : Int) : Int) == 0) = false, false = false, (((Val.kind a0) : Int) == 1) = false, (((Val.kind a0) : Int) == 2) = false, (((Val.kind a0) : Int) == 4) = false, (((Val.kind a0) : Int) == 6) = false, (((Val.kind a0) : Int) == 5) = true, (((Val.n a0) : Int) == 0) = true, (((Val.step a0) : Int) == 0) = true, (((Val.text a0) : Str) == []) = false, false = false] := by kernel_rfl
theorem p66_e_52 (a0 : Val) : rE I66 (xAq a0) [F, F, F, F, F, F, Y, Y, F, F, F] [] = dn (xAm false) [(((Ln (Val.list a0) : Int) : Int) == 0) = false, false = false, (((Val.kind a0) : Int) == 1) = false, (((Val.kind a0) : Int) == 2) = false, (((Val.kind a0) : Int) == 4) = false, (((Val.kind a0) : Int) == 6) = false, (((Val.kind a0) : Int) == 5) = true, (((Val.n a0) : Int) == 0) = true, (((Val.step a0) : Int) == 0) = false, false = false, false = false] := by kernel_rfl
theorem p66_e_53 (a0 : Val) : rE I66 (xAq a0) [F, F, F, F, F, F, Y, F, F, F, F] [] = dn (xAm false) [(((Ln (Val.list a0) : Int) : Int) == 0) = false, false = false, (((Val.kind a0) : Int) == 1) = false, (((Val.kind a0) : Int) == 2) = false, (((Val.kind a0) : Int) == 4) = false, (((Val.kind a0) : Int) == 6) = false, (((Val.kind a0) : Int) == 5) = true, (((Val.n a0) : Int) == 0) = false, false = false, false = false, false = false] := by kernel_rfl
theorem p66_e_54 (a0 : Val) : rE I66 (xAq a0) [F, F, F, F, F, F, F, Y] [] = st 15 I66 (xE8 (Val.list a0) (Ln (Val.list a0) : Int) 0 a0) [(((Ln (Val.list a0) : Int) : Int) == 0) = false, false = false, (((Val.kind a0) : Int) == 1) = false, (((Val.kind a0) : Int) == 2) = false, (((Val.kind a0) : Int) == 4) = false, (((Val.kind a0) : Int) == 6) = false, (((Val.kind a0) : Int) == 5) = false, (((Val.kind a0) : Int) == 3) = true] := by kernel_rfl
theorem p66_e_55 (a0 : Val) : rE I66 (xAq a0) [F, F, F, F, F, F, F, F] [] = dn (xAm false) [(((Ln (Val.list a0) : Int) : Int) == 0) = false, false = false, (((Val.kind a0) : Int) == 1) = false, (((Val.kind a0) : Int) == 2) = false, (((Val.kind a0) : Int) == 4) = false, (((Val.kind a0) : Int) == 6) = false, (((Val.kind a0) : Int) == 5) = false, (((Val.kind a0) : Int) == 3) = false] := by kernel_rfl
theorem c66_15 {N : Nat} {q0 : Val → Option (Bool)} (g0 : G66 q0) : ∀ n x124 x125 x126 b1 r, xBc N q0 n x124 x125 x126 b1 = some r → RS Try.f66 I66 15 (xE8 x124 x125 x126 b1) (xAm r) := by
 intro n
 induction n with
 | zero => exact fun _ _ _ _ _ h => nE h
 | succ n ih =>
  exact fun x124 x125 x126 b1 r h =>
   cE h (fun h0 h => iE h fun h1 h => cE h (fun h2 h => cE h (fun h3 h => cE h (fun h4 h => dS h fk66 (p66_15_0 x124 x125 x126 b1) (oc h0 (oc h1 (oc h2 (oc h3 (oc h4 (oc rfl on))))))) fun h4 h =>
   bE h fun r1 h5 h => cE h (fun h6 h => dS h fk66 (p66_15_1 x124 x125 x126 b1 r1) (oc h0 (oc h1 (oc h2 (oc h3 (oc h4 (oc (g0 _ _ h5) (oc h6 on)))))))) fun h6 h =>
   tS fk66 (p66_15_2 x124 x125 x126 b1 r1) (oc h0 (oc h1 (oc h2 (oc h3 (oc h4 (oc (g0 _ _ h5) (oc h6 on))))))) (ih _ _ _ _ _ h)) fun h3 h =>
   bE h fun r1 h5 h => cE h (fun h6 h => dS h fk66 (p66_15_3 x124 x125 x126 b1 r1) (oc h0 (oc h1 (oc h2 (oc h3 (oc rfl (oc (g0 _ _ h5) (oc h6 on)))))))) fun h6 h =>
   tS fk66 (p66_15_4 x124 x125 x126 b1 r1) (oc h0 (oc h1 (oc h2 (oc h3 (oc rfl (oc (g0 _ _ h5) (oc h6 on))))))) (ih _ _ _ _ _ h)) fun h2 h =>
   bE h fun r1 h5 h => cE h (fun h6 h => dS h fk66 (p66_15_5 x124 x125 x126 b1 r1) (oc h0 (oc h1 (oc h2 (oc rfl (oc rfl (oc (g0 _ _ h5) (oc h6 on)))))))) fun h6 h =>
   tS fk66 (p66_15_6 x124 x125 x126 b1 r1) (oc h0 (oc h1 (oc h2 (oc rfl (oc rfl (oc (g0 _ _ h5) (oc h6 on))))))) (ih _ _ _ _ _ h)) fun h0 h =>
   cE h (fun h1 h => cE h (fun h2 h => cE h (fun h3 h => cE h (fun h4 h => cE h (fun h5 h => cE h (fun h6 h => bE h fun r1 h7 h => dS h fk66 (p66_15_7 x124 x125 x126 b1 r1) (oc h0 (oc h1 (oc h2 (oc h3 (oc h4 (oc h5 (oc h6 (oc (impl_DepthOf_ok h7) on))))))))) fun h6 h =>
   dS h fk66 (p66_15_8 x124 x125 x126 b1) (oc h0 (oc h1 (oc h2 (oc h3 (oc h4 (oc h5 (oc h6 on)))))))) fun h5 h =>
   dS h fk66 (p66_15_9 x124 x125 x126 b1) (oc h0 (oc h1 (oc h2 (oc h3 (oc h4 (oc h5 (oc rfl on)))))))) fun h4 h =>
   dS h fk66 (p66_15_10 x124 x125 x126 b1) (oc h0 (oc h1 (oc h2 (oc h3 (oc h4 (oc rfl (oc rfl on)))))))) fun h3 h =>
   dS h fk66 (p66_15_11 x124 x125 x126 b1) (oc h0 (oc h1 (oc h2 (oc h3 (oc rfl (oc rfl (oc rfl on)))))))) fun h2 h =>
   dS h fk66 (p66_15_12 x124 x125 x126 b1) (oc h0 (oc h1 (oc h2 (oc rfl (oc rfl (oc rfl (oc rfl on)))))))) fun h1 h =>
   dS h fk66 (p66_15_13 x124 x125 x126 b1) (oc h0 (oc h1 (oc rfl (oc rfl (oc rfl (oc rfl (oc rfl on)))))))
theorem c66_e {N : Nat} {q0 : Val → Option (Bool)} (g0 : G66 q0) : ∀ a0 r, xCO N q0 a0 = some r → RE Try.f66 I66 (xAq a0) (xAm r) := fun a0 r h =>
 cE h (fun h0 h => cE h (fun h1 h => cE h (fun h2 h => cE h (fun h3 h => cE h (fun h4 h => cE h (fun h5 h => bE h fun r1 h6 h => dE h fk66 (p66_e_14 a0 r1) (oc h0 (oc h1 (oc h2 (oc h3 (oc h4 (oc h5 (oc (xCJ h6) on)))))))) fun h5 h =>
 dE h fk66 (p66_e_15 a0) (oc h0 (oc h1 (oc h2 (oc h3 (oc h4 (oc h5 on))))))) fun h4 h =>
 dE h fk66 (p66_e_16 a0) (oc h0 (oc h1 (oc h2 (oc h3 (oc h4 (oc rfl on))))))) fun h3 h =>
 dE h fk66 (p66_e_17 a0) (oc h0 (oc h1 (oc h2 (oc h3 (oc rfl (oc rfl on))))))) fun h2 h =>
 cE h (fun h3 h => cE h (fun h4 h => cE h (fun h5 h => cE h (fun h6 h => bE h fun r1 h7 h => dE h fk66 (p66_e_18 a0 r1) (oc h0 (oc h1 (oc h2 (oc h3 (oc h4 (oc h5 (oc h6 (oc (xH5 h7) on))))))))) fun h6 h =>
 dE h fk66 (p66_e_19 a0) (oc h0 (oc h1 (oc h2 (oc h3 (oc h4 (oc h5 (oc h6 on)))))))) fun h5 h =>
 dE h fk66 (p66_e_20 a0) (oc h0 (oc h1 (oc h2 (oc h3 (oc h4 (oc h5 (oc rfl on)))))))) fun h4 h =>
 dE h fk66 (p66_e_21 a0) (oc h0 (oc h1 (oc h2 (oc h3 (oc h4 (oc rfl (oc rfl on)))))))) fun h3 h =>
 cE h (fun h4 h => cE h (fun h5 h => cE h (fun h6 h => bE h fun r1 h7 h => cE h (fun h8 h => bE h fun r2 h9 h => dE h fk66 (p66_e_22 a0 r1 r2) (oc h0 (oc h1 (oc h2 (oc h3 (oc h4 (oc h5 (oc h6 (oc (xCJ h7) (oc h8 (oc (xCJ h9) on))))))))))) fun h8 h =>
 dE h fk66 (p66_e_23 a0 r1) (oc h0 (oc h1 (oc h2 (oc h3 (oc h4 (oc h5 (oc h6 (oc (xCJ h7) (oc h8 on)))))))))) fun h6 h =>
 dE h fk66 (p66_e_24 a0) (oc h0 (oc h1 (oc h2 (oc h3 (oc h4 (oc h5 (oc h6 (oc rfl on))))))))) fun h5 h =>
 dE h fk66 (p66_e_25 a0) (oc h0 (oc h1 (oc h2 (oc h3 (oc h4 (oc h5 (oc rfl (oc rfl on))))))))) fun h4 h =>
 cE h (fun h5 h => cE h (fun h6 h => cE h (fun h7 h => cE h (fun h8 h => bE h fun r1 h9 h => dE h fk66 (p66_e_26 a0 r1) (oc h0 (oc h1 (oc h2 (oc h3 (oc h4 (oc h5 (oc h6 (oc h7 (oc h8 (oc (xFb h9) on))))))))))) fun h8 h =>
 dE h fk66 (p66_e_27 a0) (oc h0 (oc h1 (oc h2 (oc h3 (oc h4 (oc h5 (oc h6 (oc h7 (oc h8 on)))))))))) fun h7 h =>
 dE h fk66 (p66_e_28 a0) (oc h0 (oc h1 (oc h2 (oc h3 (oc h4 (oc h5 (oc h6 (oc h7 (oc rfl on)))))))))) fun h6 h =>
 dE h fk66 (p66_e_29 a0) (oc h0 (oc h1 (oc h2 (oc h3 (oc h4 (oc h5 (oc h6 (oc rfl (oc rfl on)))))))))) fun h5 h =>
 cE h (fun h6 h => cE h (fun h7 h => cE h (fun h8 h => cE h (fun h9 h => bE h fun r1 h11 h => dE h fk66 (p66_e_30 a0 r1) (oc h0 (oc h1 (oc h2 (oc h3 (oc h4 (oc h5 (oc h6 (oc h7 (oc h8 (oc h9 (oc h0 (oc (xHz h11) on))))))))))))) fun h9 h =>
 dE h fk66 (p66_e_31 a0) (oc h0 (oc h1 (oc h2 (oc h3 (oc h4 (oc h5 (oc h6 (oc h7 (oc h8 (oc h9 (oc rfl on)))))))))))) fun h8 h =>
 dE h fk66 (p66_e_32 a0) (oc h0 (oc h1 (oc h2 (oc h3 (oc h4 (oc h5 (oc h6 (oc h7 (oc h8 (oc rfl (oc rfl on)))))))))))) fun h7 h =>
 dE h fk66 (p66_e_33 a0) (oc h0 (oc h1 (oc h2 (oc h3 (oc h4 (oc h5 (oc h6 (oc h7 (oc rfl (oc rfl (oc rfl on)))))))))))) fun h6 h =>
 cE h (fun h7 h => tE fk66 (p66_e_34 a0) (oc h0 (oc h1 (oc h2 (oc h3 (oc h4 (oc h5 (oc h6 (oc h7 on)))))))) (c66_15 g0 _ _ _ _ _ _ h)) fun h7 h =>
 dE h fk66 (p66_e_35 a0) (oc h0 (oc h1 (oc h2 (oc h3 (oc h4 (oc h5 (oc h6 (oc h7 on))))))))) fun h1 h =>
 cE h (fun h2 h => dE h fk66 (p66_e_36 a0) (oc h0 (oc h1 (oc h2 (oc rfl (oc rfl (oc rfl on))))))) fun h2 h =>
 cE h (fun h3 h => dE h fk66 (p66_e_37 a0) (oc h0 (oc h1 (oc h2 (oc h3 (oc rfl (oc rfl (oc rfl on)))))))) fun h3 h =>
 cE h (fun h4 h => dE h fk66 (p66_e_38 a0) (oc h0 (oc h1 (oc h2 (oc h3 (oc h4 (oc rfl (oc rfl (oc rfl on))))))))) fun h4 h =>
 cE h (fun h5 h => dE h fk66 (p66_e_39 a0) (oc h0 (oc h1 (oc h2 (oc h3 (oc h4 (oc h5 (oc rfl (oc rfl (oc rfl on)))))))))) fun h5 h =>
 cE h (fun h6 h => cE h (fun h7 h => cE h (fun h8 h => cE h (fun h9 h => bE h fun r1 h11 h => dE h fk66 (p66_e_40 a0 r1) (oc h0 (oc h1 (oc h2 (oc h3 (oc h4 (oc h5 (oc h6 (oc h7 (oc h8 (oc h9 (oc h0 (oc (xHz h11) on))))))))))))) fun h9 h =>
 dE h fk66 (p66_e_41 a0) (oc h0 (oc h1 (oc h2 (oc h3 (oc h4 (oc h5 (oc h6 (oc h7 (oc h8 (oc h9 (oc rfl on)))))))))))) fun h8 h =>
 dE h fk66 (p66_e_42 a0) (oc h0 (oc h1 (oc h2 (oc h3 (oc h4 (oc h5 (oc h6 (oc h7 (oc h8 (oc rfl (oc rfl on)))))))))))) fun h7 h =>
 dE h fk66 (p66_e_43 a0) (oc h0 (oc h1 (oc h2 (oc h3 (oc h4 (oc h5 (oc h6 (oc h7 (oc rfl (oc rfl (oc rfl on)))))))))))) fun h6 h =>
 cE h (fun h7 h => tE fk66 (p66_e_44 a0) (oc h0 (oc h1 (oc h2 (oc h3 (oc h4 (oc h5 (oc h6 (oc h7 on)))))))) (c66_15 g0 _ _ _ _ _ _ h)) fun h7 h =>
 dE h fk66 (p66_e_45 a0) (oc h0 (oc h1 (oc h2 (oc h3 (oc h4 (oc h5 (oc h6 (oc h7 on))))))))) fun h0 h =>
 cE h (fun h2 h => dE h fk66 (p66_e_46 a0) (oc h0 (oc rfl (oc h2 (oc rfl (oc rfl (oc rfl on))))))) fun h2 h =>
 cE h (fun h3 h => dE h fk66 (p66_e_47 a0) (oc h0 (oc rfl (oc h2 (oc h3 (oc rfl (oc rfl (oc rfl on)))))))) fun h3 h =>
 cE h (fun h4 h => dE h fk66 (p66_e_48 a0) (oc h0 (oc rfl (oc h2 (oc h3 (oc h4 (oc rfl (oc rfl (oc rfl on))))))))) fun h4 h =>
 cE h (fun h5 h => dE h fk66 (p66_e_49 a0) (oc h0 (oc rfl (oc h2 (oc h3 (oc h4 (oc h5 (oc rfl (oc rfl (oc rfl on)))))))))) fun h5 h =>
 cE h (fun h6 h => cE h (fun h7 h => cE h (fun h8 h => cE h (fun h9 h => dE h fk66 (p66_e_50 a0) (oc h0 (oc rfl (oc h2 (oc h3 (oc h4 (oc h5 (oc h6 (oc h7 (oc h8 (oc h9 (oc h0 on)))))))))))) fun h9 h =>
 dE h fk66 (p66_e_51 a0) (oc h0 (oc rfl (oc h2 (oc h3 (oc h4 (oc h5 (oc h6 (oc h7 (oc h8 (oc h9 (oc rfl on)))))))))))) fun h8 h =>
 dE h fk66 (p66_e_52 a0) (oc h0 (oc rfl (oc h2 (oc h3 (oc h4 (oc h5 (oc h6 (oc h7 (oc h8 (oc rfl (oc rfl on)))))))))))) fun h7 h =>
 dE h fk66 (p66_e_53 a0) (oc h0 (oc rfl (oc h2 (oc h3 (oc h4 (oc h5 (oc h6 (oc h7 (oc rfl (oc rfl (oc rfl on)))))))))))) fun h6 h =>
 cE h (fun h7 h => tE fk66 (p66_e_54 a0) (oc h0 (oc rfl (oc h2 (oc h3 (oc h4 (oc h5 (oc h6 (oc h7 on)))))))) (c66_15 g0 _ _ _ _ _ _ h)) fun h7 h =>
 dE h fk66 (p66_e_55 a0) (oc h0 (oc rfl (oc h2 (oc h3 (oc h4 (oc h5 (oc h6 (oc h7 on))))))))
theorem xGY {N : Nat} {q0 : Val → Option (Bool)} (g0 : G66 q0) {a0 : Val} {r : Bool} (h : xCO N q0 a0 = some r) : AbC 66 (xAq a0) (xAm r) :=
 AbsCalls.of_reach fk66 rfl rfl (Nat.le_of_ble_eq_true rfl) (c66_e g0 a0 r h)
theorem xFw {N : Nat} : ∀ d, G66 (xBd N d)
 | 0 => fun _ _ h => nE h
 | d + 1 => fun _ _ h => xGY (N := N) (xFw d) h
theorem xE4 {N : Nat} {a0 : Val} {r : Bool} (h : xFV N a0 = some r) : AbC 66 (xAq a0) (xAm r) := xFw N _ r h
noncomputable def I26 : Info := { body := (Try.f26.body).getD .skip, nt := 5, results := [.cell 2 31], keep := [0, 4, 5], live := [], modes := [] }
theorem fk26 : FnOk Try.prog 26 Try.f26 I26 := ⟨Try.func26, by kernel_rfl, by kernel_rfl, by kernel_rfl, by kernel_rfl⟩
theorem p26_e_0 (a0 : Int) : rE I26 (xA4 a0) [] [] = dn (xAH (Val.mk 6 a0 0 [] [] [] [])) [] := by kernel_rfl
theorem c26_e {N : Nat} : ∀ a0 r, xAX N a0 = some r → RE Try.f26 I26 (xA4 a0) (xAH r) := fun a0 r h =>
 dE h fk26 (p26_e_0 a0) on
theorem xBj {N : Nat} {a0 : Int} {r : Val} (h : xAX N  a0 = some r) : AbC 26 (xA4 a0) (xAH r) :=
 AbsCalls.of_reach fk26 rfl rfl (Nat.le_of_ble_eq_true rfl) (c26_e a0 r h)
theorem xGi {P : Program} {f : FuncId} {ags : List Arg} {r : Val × Bool × Bool} (h : AbsCalls P f ags (xBt r)) (ht : r.2.2 = true) : AbsCalls P f ags (xCt r) := by
 unfold xBt at h; rw [ht] at h; exact h
theorem xGh {P : Program} {f : FuncId} {ags : List Arg} {r : Val × Bool × Bool} (h : AbsCalls P f ags (xBt r)) (ht : r.2.2 = false) : AbsCalls P f ags (xCs r) := by
 unfold xBt at h; rw [ht] at h; exact h
noncomputable def I46 : Info := { body := (Try.f46.body).getD .skip, nt := 22, results := [.cell 2 31, .tmp 3], keep := [0, 4, 6, 10, 12, 14, 16, 18, 28, 36, 5, 11], live := [(2, [4, 12, 14, 16, 5])], modes := [(8, [(1, .take, false)])] }
theorem fk46 : FnOk Try.prog 46 Try.f46 I46 := ⟨Try.func46, by kernel_rfl, by kernel_rfl, by kernel_rfl, by kernel_rfl⟩
def S46_2 (x6 : List Val) (x7 x8 : Int) (b2 : Val) : St := [(4, .v false [.ptr 2 0]), (12, .v false [.sl .ro .val x6]), (14, .v false [.int .i64 x7]), (16, .v false [.int .i64 x8]), (5, .v true [.int .i64 (Val.kind b2), .int .i64 (Val.n b2), .int .i64 (Val.step b2), .str (Val.text b2), .sl .own .val (Val.list b2), .sl .own .str (Val.columns b2), .sl .own .row (Val.rows b2)])]
theorem p46_2_0 (x6 : List Val) (x7 x8 : Int) (b2 : Val) (r1 : Bool) (r2 : Val) : rS 2 I46 (S46_2 x6 x7 x8 b2) [Y, Y] [xAm r1, xAH r2] = dn (xBt (r2, true, false)) [(decide ((x8 : Int) < x7)) = true, (0 : Int) ≤ x8 ∧ x8 < (Ln x6), AbC 66 (xAq (gD x6 (tN x8) vd)) (xAm r1), (!r1) = true, AbC 26 (xA4 4) (xAH r2)] := by kernel_rfl
theorem p46_2_1 (x6 : List Val) (x7 x8 : Int) (b2 : Val) (r1 : Bool) : rS 2 I46 (S46_2 x6 x7 x8 b2) [Y, F, Y] [xAm r1] = dn (xBt ((gD x6 (tN x8) vd), true, true)) [(decide ((x8 : Int) < x7)) = true, (0 : Int) ≤ x8 ∧ x8 < (Ln x6), AbC 66 (xAq (gD x6 (tN x8) vd)) (xAm r1), (!r1) = false, (((Val.kind (gD x6 (tN x8) vd)) : Int) == 6) = true] := by kernel_rfl
theorem p46_2_2 (x6 : List Val) (x7 x8 : Int) (b2 : Val) (r1 : Bool) : rS 2 I46 (S46_2 x6 x7 x8 b2) [Y, F, F] [xAm r1] = st 2 I46 (S46_2 x6 x7 (W (x8 + 1)) b2) [(decide ((x8 : Int) < x7)) = true, (0 : Int) ≤ x8 ∧ x8 < (Ln x6), AbC 66 (xAq (gD x6 (tN x8) vd)) (xAm r1), (!r1) = false, (((Val.kind (gD x6 (tN x8) vd)) : Int) == 6) = false] := by kernel_rfl
theorem p46_2_3 (x6 : List Val) (x7 x8 : Int) (b2 : Val) : rS 2 I46 (S46_2 x6 x7 x8 b2) [F] [] = dn (xBt ((Val.mk 0 0 0 [] [] [] []), false, false)) [(decide ((x8 : Int) < x7)) = false] := by kernel_rfl
theorem p46_e_4 (a0 : List Val) : rE I46 (xB8 a0) [] [] = st 2 I46 (S46_2 a0 (Ln a0 : Int) 0 (Val.mk 0 0 0 [] [] [] [])) [] := by kernel_rfl
theorem c46_2 {N : Nat} : ∀ n x6 x7 x8 b2 r, xBW N n x6 x7 x8 b2 = some r → RS Try.f46 I46 2 (S46_2 x6 x7 x8 b2) (xBt r) := by
 intro n
 induction n with
 | zero => exact fun _ _ _ _ _ h => nE h
 | succ n ih =>
  exact fun x6 x7 x8 b2 r h =>
   cE h (fun h0 h => iE h fun h1 h => bE h fun r1 h2 h => cE h (fun h3 h => bE h fun r2 h4 h => dS h fk46 (p46_2_0 x6 x7 x8 b2 r1 r2) (oc h0 (oc h1 (oc (xE4 h2) (oc h3 (oc (xBj h4) on)))))) fun h3 h =>
   cE h (fun h4 h => dS h fk46 (p46_2_1 x6 x7 x8 b2 r1) (oc h0 (oc h1 (oc (xE4 h2) (oc h3 (oc h4 on)))))) fun h4 h =>
   tS fk46 (p46_2_2 x6 x7 x8 b2 r1) (oc h0 (oc h1 (oc (xE4 h2) (oc h3 (oc h4 on))))) (ih _ _ _ _ _ h)) fun h0 h =>
   dS h fk46 (p46_2_3 x6 x7 x8 b2) (oc h0 on)
theorem c46_e {N : Nat} : ∀ a0 r, xET N a0 = some r → RE Try.f46 I46 (xB8 a0) (xBt r) := fun a0 r h =>
 tE fk46 (p46_e_4 a0) on (c46_2 _ _ _ _ _ _ h)
theorem xEb {N : Nat} {a0 : List Val} {r : Val × Bool × Bool} (h : xET N  a0 = some r) : AbC 46 (xB8 a0) (xBt r) :=
 AbsCalls.of_reach fk46 rfl rfl (Nat.le_of_ble_eq_true rfl) (c46_e a0 r h)
theorem impl_kindError_toR {P : Program} {f : FuncId} {ags : List Arg} {r : Val × Bool × Bool} (h : AbsCalls P f ags (xBv r)) (ht : r.2.2 = true) : AbsCalls P f ags (xFD r) := by
 unfold xBv at h; rw [ht] at h; exact h
theorem xCD {P : Program} {f : FuncId} {ags : List Arg} {r : Val × Bool × Bool} (h : AbsCalls P f ags (xBv r)) (ht : r.2.2 = false) : AbsCalls P f ags (xA5 r) := by
 unfold xBv at h; rw [ht] at h; exact h
theorem xCC {P : Program} {f : FuncId} {ags : List Arg} {r : Val × Bool × Bool} (h : AbsCalls P f ags (xBv r)) (ht : r.2.2 = true) (e0 : List.isEmpty (Val.list r.1) = true) (e1 : List.isEmpty (Val.columns r.1) = true) (e2 : List.isEmpty (Val.rows r.1) = true) : AbsCalls P f ags (xBb r) := by
 have h := impl_kindError_toR h ht
 unfold xFD at h; rw [List.isEmpty_iff.1 e0, List.isEmpty_iff.1 e1, List.isEmpty_iff.1 e2] at h; exact h
noncomputable def I23 : Info := { body := (Try.f23.body).getD .skip, nt := 34, results := [.cell 4 31, .tmp 5], keep := [0, 2, 8, 10, 12, 14, 16, 18, 30, 34, 36, 38, 40, 60, 9, 13, 19], live := [(5, [0, 8, 34, 36, 38, 9])], modes := [(1, [(2, .take, false)]), (2, [(0, .take, false)]), (3, [(0, .take, false)]), (7, [(3, .take, false)]), (9, [(1, .take, false)])] }
theorem fk23 : FnOk Try.prog 23 Try.f23 I23 := ⟨Try.func23, by kernel_rfl, by kernel_rfl, by kernel_rfl, by kernel_rfl⟩
def S23_5 (x0 : List Int) (x17 : List Val) (x18 x19 : Int) (b4 : Val) : St := [(0, .v false [.sl .ro .int x0]), (8, .v false [.ptr 4 0]), (34, .v false [.sl .ro .val x17]), (36, .v false [.int .i64 x18]), (38, .v false [.int .i64 x19]), (9, .v true [.int .i64 (Val.kind b4), .int .i64 (Val.n b4), .int .i64 (Val.step b4), .str (Val.text b4), .sl .own .val (Val.list b4), .sl .own .str (Val.columns b4), .sl .own .row (Val.rows b4)])]
theorem p23_5_0 (x0 : List Int) (x17 : List Val) (x18 x19 : Int) (b4 r1 : Val) : rS 5 I23 (S23_5 x0 x17 x18 x19 b4) [Y, Y] [xAH r1] = dn (xBv (r1, true, false)) [(decide ((x19 : Int) < x18)) = true, (0 : Int) ≤ x19 ∧ x19 < (Ln x17), (0 : Int) ≤ x19 ∧ x19 < (Ln x0), (((Val.kind (gD x17 (tN x19) vd)) : Int) != (gD x0 (tN x19) Ty.int.dflt)) = true, AbC 26 (xA4 4) (xAH r1)] := by kernel_rfl
theorem p23_5_1 (x0 : List Int) (x17 : List Val) (x18 x19 : Int) (b4 : Val) : rS 5 I23 (S23_5 x0 x17 x18 x19 b4) [Y, F] [] = st 5 I23 (S23_5 x0 x17 x18 (W (x19 + 1)) b4) [(decide ((x19 : Int) < x18)) = true, (0 : Int) ≤ x19 ∧ x19 < (Ln x17), (0 : Int) ≤ x19 ∧ x19 < (Ln x0), (((Val.kind (gD x17 (tN x19) vd)) : Int) != (gD x0 (tN x19) Ty.int.dflt)) = false] := by kernel_rfl
theorem p23_5_2 (x0 : List Int) (x17 : List Val) (x18 x19 : Int) (b4 : Val) : rS 5 I23 (S23_5 x0 x17 x18 x19 b4) [F] [] = dn (xBv ((Val.mk 0 0 0 [] [] [] []), false, false)) [(decide ((x19 : Int) < x18)) = false] := by kernel_rfl
theorem p23_e_3 (a0 : List Int) (a1 : List Val) (r1 : Val × Bool × Bool) : rE I23 (xAW a0 a1) [Y] [xCt r1] = dn (xBv (r1.1, true, true)) [AbC 46 (xB8 a1) (xCt r1), r1.2.1 = true] := by kernel_rfl
theorem p23_e_4 (a0 : List Int) (a1 : List Val) (r1 : Val × Bool × Bool) : rE I23 (xAW a0 a1) [F] [xCt r1] = st 5 I23 (S23_5 a0 a1 (Ln a1 : Int) 0 (Val.mk 0 0 0 [] [] [] [])) [AbC 46 (xB8 a1) (xCt r1), r1.2.1 = false] := by kernel_rfl
theorem p23_e_5 (a0 : List Int) (a1 : List Val) (r1 : Val × Bool × Bool) : rE I23 (xAW a0 a1) [Y] [xCs r1] = dn (xBv (r1.1, true, false)) [AbC 46 (xB8 a1) (xCs r1), r1.2.1 = true] := by kernel_rfl
theorem p23_e_6 (a0 : List Int) (a1 : List Val) (r1 : Val × Bool × Bool) : rE I23 (xAW a0 a1) [F] [xCs r1] = st 5 I23 (S23_5 a0 a1 (Ln a1 : Int) 0 (Val.mk 0 0 0 [] [] [] [])) [AbC 46 (xB8 a1) (xCs r1), r1.2.1 = false] := by kernel_rfl
theorem c23_5 {N : Nat} : ∀ n x0 x17 x18 x19 b4 r, xB7 N n x0 x17 x18 x19 b4 = some r → RS Try.f23 I23 5 (S23_5 x0 x17 x18 x19 b4) (xBv r) := by
 intro n
 induction n with
 | zero => exact fun _ _ _ _ _ _ h => nE h
 | succ n ih =>
  exact fun x0 x17 x18 x19 b4 r h =>
   cE h (fun h0 h => iE h fun h1 h => iE h fun h2 h => cE h (fun h3 h => bE h fun r1 h4 h => dS h fk23 (p23_5_0 x0 x17 x18 x19 b4 r1) (oc h0 (oc h1 (oc h2 (oc h3 (oc (xBj h4) on)))))) fun h3 h =>
   tS fk23 (p23_5_1 x0 x17 x18 x19 b4) (oc h0 (oc h1 (oc h2 (oc h3 on)))) (ih _ _ _ _ _ _ h)) fun h0 h =>
   dS h fk23 (p23_5_2 x0 x17 x18 x19 b4) (oc h0 on)
theorem c23_e {N : Nat} : ∀ a0 a1 r, xFa N a0 a1 = some r → RE Try.f23 I23 (xAW a0 a1) (xBv r) := fun a0 a1 r h =>
 bE h fun r1 h0 h => cE h (fun h1 h => cE h (fun h2 h => dE h fk23 (p23_e_3 a0 a1 r1) (oc (xGi (xEb h0) h1) (oc h2 on))) fun h2 h =>
 tE fk23 (p23_e_4 a0 a1 r1) (oc (xGi (xEb h0) h1) (oc h2 on)) (c23_5 _ _ _ _ _ _ _ h)) fun h1 h =>
 cE h (fun h2 h => dE h fk23 (p23_e_5 a0 a1 r1) (oc (xGh (xEb h0) h1) (oc h2 on))) fun h2 h =>
 tE fk23 (p23_e_6 a0 a1 r1) (oc (xGh (xEb h0) h1) (oc h2 on)) (c23_5 _ _ _ _ _ _ _ h)
theorem xBk {N : Nat} {a0 : List Int} {a1 : List Val} {r : Val × Bool × Bool} (h : xFa N  a0 a1 = some r) : AbC 23 (xAW a0 a1) (xBv r) :=
 AbsCalls.of_reach fk23 rfl rfl (Nat.le_of_ble_eq_true rfl) (c23_e a0 a1 r h)
noncomputable def I24 : Info := { body := (Try.f24.body).getD .skip, nt := 9, results := [.tmp 4], keep := [0, 2, 4, 8, 5], live := [], modes := [] }
theorem fk24 : FnOk Try.prog 24 Try.f24 I24 := ⟨Try.func24, by kernel_rfl, by kernel_rfl, by kernel_rfl, by kernel_rfl⟩
theorem p24_e_0 (a0 : Val) (a1 : Str) (r1 : Int) : rE I24 (xAz a0 a1) [] [xBZ r1] = dn (xAn r1) [AbC 47 (xEf (Val.columns a0) a1) (xBZ r1)] := by kernel_rfl
theorem c24_e {N : Nat} : ∀ a0 a1 r, xB5 N a0 a1 = some r → RE Try.f24 I24 (xAz a0 a1) (xAn r) := fun a0 a1 r h =>
 bE h fun r1 h0 h => dE h fk24 (p24_e_0 a0 a1 r1) (oc (xGy h0) on)
theorem xAB {N : Nat} {a0 : Val} {a1 : Str} {r : Int} (h : xB5 N  a0 a1 = some r) : AbC 24 (xAz a0 a1) (xAn r) :=
 AbsCalls.of_reach fk24 rfl rfl (Nat.le_of_ble_eq_true rfl) (c24_e a0 a1 r h)
noncomputable def I51 : Info := { body := (Try.f51.body).getD .skip, nt := 12, results := [.cell 2 49], keep := [0, 2, 4, 3, 5], live := [], modes := [] }
theorem fk51 : FnOk Try.prog 51 Try.f51 I51 := ⟨Try.func51, by kernel_rfl, by kernel_rfl, by kernel_rfl, by kernel_rfl⟩
theorem p51_e_0 (a0 : Rowd) : rE I51 (xFC a0) [] [] = dn (xEO (Rowd.mk ([] ++ (Rowd.cells a0)) ([] ++ (Rowd.frm a0)))) [0 + Ln (Rowd.cells a0) ≤ Lim, 0 + Ln (Rowd.frm a0) ≤ Lim] := by kernel_rfl
theorem c51_e {N : Nat} : ∀ a0 r, xGO N a0 = some r → RE Try.f51 I51 (xFC a0) (xEO r) := fun a0 r h =>
 iE h fun h0 h => iE h fun h1 h => dE h fk51 (p51_e_0 a0) (oc h0 (oc h1 on))
theorem impl_copyRow_ok {N : Nat} {a0 : Rowd} {r : Rowd} (h : xGO N  a0 = some r) : AbC 51 (xFC a0) (xEO r) :=
 AbsCalls.of_reach fk51 rfl rfl (Nat.le_of_ble_eq_true rfl) (c51_e a0 r h)
def G27 (q : Val → Option (Val)) : Prop := ∀ a0 r, q a0 = some r → AbC 27 (xCr a0) (xBu r)
def G50 (q : (List Val) → Option ((List Val))) : Prop := ∀ a0 r, q a0 = some r → AbC 50 (xDY a0) (xCB r)
noncomputable def I27 : Info := { body := (Try.f27.body).getD .skip, nt := 33, results := [.cell 2 31], keep := [0, 2, 4, 6, 10, 36, 38, 40, 42, 3, 5, 7, 11], live := [(6, [4, 6, 36, 38, 40, 5, 7])], modes := [(8, [(1, .take, false), (5, .take, false)]), (9, [(1, .take, false)]), (10, [(0, .take, false)])] }
theorem fk27 : FnOk Try.prog 27 Try.f27 I27 := ⟨Try.func27, by kernel_rfl, by kernel_rfl, by kernel_rfl, by kernel_rfl⟩
def S27_6 (x18 : List Rowd) (x19 x20 : Int) (b2 b3 : Val) : St := [(4, .v false [.ptr 2 0]), (6, .v false [.ptr 3 0]), (36, .v false [.sl .ro .row x18]), (38, .v false [.int .i64 x19]), (40, .v false [.int .i64 x20]), (5, .v true [.int .i64 (Val.kind b2), .int .i64 (Val.n b2), .int .i64 (Val.step b2), .str (Val.text b2), .sl .own .val (Val.list b2), .sl .own .str (Val.columns b2), .sl .own .row (Val.rows b2)]), (7, .v true [.int .i64 (Val.kind b3), .int .i64 (Val.n b3), .int .i64 (Val.step b3), .str (Val.text b3), .sl .own .val (Val.list b3), .sl .own .str (Val.columns b3), .sl .own .row (Val.rows b3)])]
theorem p27_6_0 (x18 : List Rowd) (x19 x20 : Int) (b2 b3 : Val) (r1 : Rowd) : rS 6 I27 (S27_6 x18 x19 x20 b2 b3) [Y] [xEO r1] = st 6 I27 (S27_6 x18 x19 (W (x20 + 1)) b2 (Val.mk (Val.kind b3) (Val.n b3) (Val.step b3) (Val.text b3) (Val.list b3) (Val.columns b3) ((Val.rows b3) ++ [r1]))) [(decide ((x20 : Int) < x19)) = true, (0 : Int) ≤ x20 ∧ x20 < (Ln x18), AbC 51 (xFC (gD x18 (tN x20) rd)) (xEO r1), Ln (Val.rows b3) + Ln [r1] ≤ Lim] := by kernel_rfl
theorem p27_6_1 (x18 : List Rowd) (x19 x20 : Int) (b2 b3 : Val) : rS 6 I27 (S27_6 x18 x19 x20 b2 b3) [F] [] = dn (xBu b3) [(decide ((x20 : Int) < x19)) = false] := by kernel_rfl
theorem p27_e_2 (a0 : Val) (r1 : (List Val)) : rE I27 (xCr a0) [] [xCB r1] = st 6 I27 (S27_6 (Val.rows a0) (Ln (Val.rows a0) : Int) 0 (Val.mk 0 0 0 [] [] [] []) (Val.mk (Val.kind a0) (Val.n a0) (Val.step a0) (Val.text a0) r1 ([] ++ (Val.columns a0)) [])) [AbC 50 (xDY (Val.list a0)) (xCB r1), 0 + Ln (Val.columns a0) ≤ Lim] := by kernel_rfl
theorem c27_6 {N : Nat} {q0 : Val → Option (Val)} (g0 : G27 q0) {q1 : (List Val) → Option ((List Val))} (g1 : G50 q1) : ∀ n x18 x19 x20 b2 b3 r, xCQ N q0 q1 n x18 x19 x20 b2 b3 = some r → RS Try.f27 I27 6 (S27_6 x18 x19 x20 b2 b3) (xBu r) := by
 intro n
 induction n with
 | zero => exact fun _ _ _ _ _ _ h => nE h
 | succ n ih =>
  exact fun x18 x19 x20 b2 b3 r h =>
   cE h (fun h0 h => iE h fun h1 h => bE h fun r1 h2 h => iE h fun h3 h => tS fk27 (p27_6_0 x18 x19 x20 b2 b3 r1) (oc h0 (oc h1 (oc (impl_copyRow_ok h2) (oc h3 on)))) (ih _ _ _ _ _ _ h)) fun h0 h =>
   dS h fk27 (p27_6_1 x18 x19 x20 b2 b3) (oc h0 on)
theorem c27_e {N : Nat} {q0 : Val → Option (Val)} (g0 : G27 q0) {q1 : (List Val) → Option ((List Val))} (g1 : G50 q1) : ∀ a0 r, xDB N q0 q1 a0 = some r → RE Try.f27 I27 (xCr a0) (xBu r) := fun a0 r h =>
 bE h fun r1 h0 h => iE h fun h1 h => tE fk27 (p27_e_2 a0 r1) (oc (g1 _ _ h0) (oc h1 on)) (c27_6 g0 g1 _ _ _ _ _ _ _ h)
theorem xHt {N : Nat} {q0 : Val → Option (Val)} (g0 : G27 q0) {q1 : (List Val) → Option ((List Val))} (g1 : G50 q1) {a0 : Val} {r : Val} (h : xDB N q0 q1 a0 = some r) : AbC 27 (xCr a0) (xBu r) :=
 AbsCalls.of_reach fk27 rfl rfl (Nat.le_of_ble_eq_true rfl) (c27_e g0 g1 a0 r h)
noncomputable def I50 : Info := { body := (Try.f50.body).getD .skip, nt := 20, results := [.tmp 2], keep := [0, 4, 6, 10, 14, 16, 18, 20, 11], live := [(3, [6, 14, 16, 18])], modes := [(5, [(0, .take, false), (4, .take, false)]), (6, [(1, .take, false)]), (7, [(0, .take, false)])] }
theorem fk50 : FnOk Try.prog 50 Try.f50 I50 := ⟨Try.func50, by kernel_rfl, by kernel_rfl, by kernel_rfl, by kernel_rfl⟩
def S50_3 (x3 x7 : List Val) (x8 x9 : Int) : St := [(6, .v false [.sl .own .val x3]), (14, .v false [.sl .ro .val x7]), (16, .v false [.int .i64 x8]), (18, .v false [.int .i64 x9])]
theorem p50_3_0 (x3 x7 : List Val) (x8 x9 : Int) (r1 : Val) : rS 3 I50 (S50_3 x3 x7 x8 x9) [Y] [xBu r1] = st 3 I50 (S50_3 (x3 ++ [(Val.re r1)]) x7 x8 (W (x9 + 1))) [(decide ((x9 : Int) < x8)) = true, (0 : Int) ≤ x9 ∧ x9 < (Ln x7), AbC 27 (xCr (gD x7 (tN x9) vd)) (xBu r1), Ln x3 + Ln [(Val.re r1)] ≤ Lim] := by kernel_rfl
theorem p50_3_1 (x3 x7 : List Val) (x8 x9 : Int) : rS 3 I50 (S50_3 x3 x7 x8 x9) [F] [] = dn (xCB x3) [(decide ((x9 : Int) < x8)) = false] := by kernel_rfl
theorem p50_e_2 (a0 : List Val) : rE I50 (xDY a0) [] [] = st 3 I50 (S50_3 [] a0 (Ln a0 : Int) 0) [] := by kernel_rfl
theorem c50_3 {N : Nat} {q0 : Val → Option (Val)} (g0 : G27 q0) {q1 : (List Val) → Option ((List Val))} (g1 : G50 q1) : ∀ n x3 x7 x8 x9 r, xC5 N q0 q1 n x3 x7 x8 x9 = some r → RS Try.f50 I50 3 (S50_3 x3 x7 x8 x9) (xCB r) := by
 intro n
 induction n with
 | zero => exact fun _ _ _ _ _ h => nE h
 | succ n ih =>
  exact fun x3 x7 x8 x9 r h =>
   cE h (fun h0 h => iE h fun h1 h => bE h fun r1 h2 h => iE h fun h3 h => tS fk50 (p50_3_0 x3 x7 x8 x9 r1) (oc h0 (oc h1 (oc (g0 _ _ h2) (oc h3 on)))) (ih _ _ _ _ _ h)) fun h0 h =>
   dS h fk50 (p50_3_1 x3 x7 x8 x9) (oc h0 on)
theorem c50_e {N : Nat} {q0 : Val → Option (Val)} (g0 : G27 q0) {q1 : (List Val) → Option ((List Val))} (g1 : G50 q1) : ∀ a0 r, xDj N q0 q1 a0 = some r → RE Try.f50 I50 (xDY a0) (xCB r) := fun a0 r h =>
 tE fk50 (p50_e_2 a0) on (c50_3 g0 g1 _ _ _ _ _ _ h)
theorem xHe {N : Nat} {q0 : Val → Option (Val)} (g0 : G27 q0) {q1 : (List Val) → Option ((List Val))} (g1 : G50 q1) {a0 : List Val} {r : (List Val)} (h : xDj N q0 q1 a0 = some r) : AbC 50 (xDY a0) (xCB r) :=
 AbsCalls.of_reach fk50 rfl rfl (Nat.le_of_ble_eq_true rfl) (c50_e g0 g1 a0 r h)
theorem xHy {N : Nat} : ∀ d, G27 (xA0 N d).c_impl_copyValue ∧ G50 (xA0 N d).c_impl_copyValues := by
 intro d
 induction d with
 | zero => exact ⟨fun _ _ h => nE h, fun _ _ h => nE h⟩
 | succ d ih =>
  obtain ⟨ih0, ih1⟩ := ih
  exact ⟨fun _ _ h => xHt (N := N) ih0 ih1 h, fun _ _ h => xHe (N := N) ih0 ih1 h⟩
theorem xG2 {N : Nat} {a0 : Val} {r : Val} (h : xF3 N a0 = some r) : AbC 27 (xCr a0) (xBu r) := (xHy N).1 _ r h
theorem impl_AddColumn_toR {P : Program} {f : FuncId} {ags : List Arg} {r : Val × Bool} (h : AbsCalls P f ags (xAS r)) (ht : r.2 = true) : AbsCalls P f ags (xFz r) := by
 unfold xAS at h; rw [ht] at h; exact h
theorem xAN {P : Program} {f : FuncId} {ags : List Arg} {r : Val × Bool} (h : AbsCalls P f ags (xAS r)) (ht : r.2 = false) : AbsCalls P f ags (xAu r) := by
 unfold xAS at h; rw [ht] at h; exact h
theorem xAM {P : Program} {f : FuncId} {ags : List Arg} {r : Val × Bool} (h : AbsCalls P f ags (xAS r)) (ht : r.2 = true) (e0 : List.isEmpty (Val.list r.1) = true) (e1 : List.isEmpty (Val.columns r.1) = true) (e2 : List.isEmpty (Val.rows r.1) = true) : AbsCalls P f ags (xAv r) := by
 have h := impl_AddColumn_toR h ht
 unfold xFz at h; rw [List.isEmpty_iff.1 e0, List.isEmpty_iff.1 e1, List.isEmpty_iff.1 e2] at h; exact h
noncomputable def I7 : Info := { body := (Try.f7.body).getD .skip, nt := 110, results := [.cell 8 31], keep := [0, 2, 4, 6, 8, 10, 12, 14, 16, 18, 20, 22, 24, 26, 28, 30, 32, 54, 110, 120, 144, 146, 148, 150, 184, 9, 11, 13, 15, 17, 19, 27, 31], live := [(13, [16, 22, 24, 26, 144, 146, 148, 17, 27])], modes := [(1, [(6, .take, true), (7, .take, false)]), (2, [(0, .take, false)]), (3, [(0, .take, false)]), (6, [(4, .take, false), (11, .take, false), (15, .take, false)]), (11, [(1, .take, false)]), (18, [(1, .ref, false), (4, .ref, false), (8, .ref, false)]), (19, [(1, .take, false)]), (20, [(0, .take, false)])] }
theorem fk7 : FnOk Try.prog 7 Try.f7 I7 := ⟨Try.func7, by kernel_rfl, by kernel_rfl, by kernel_rfl, by kernel_rfl⟩
def S7_13 (x11 x12 : Int) (x72 : List Rowd) (x73 x74 : Int) (b8 b13 : Val) : St := [(16, .v false [.ptr 8 0]), (22, .v false [.int .i64 x11]), (24, .v false [.int .i64 x12]), (26, .v false [.ptr 13 0]), (144, .v false [.sl .ro .row x72]), (146, .v false [.int .i64 x73]), (148, .v false [.int .i64 x74]), (17, .v true [.int .i64 (Val.kind b8), .int .i64 (Val.n b8), .int .i64 (Val.step b8), .str (Val.text b8), .sl .own .val (Val.list b8), .sl .own .str (Val.columns b8), .sl .own .row (Val.rows b8)]), (27, .v true [.int .i64 (Val.kind b13), .int .i64 (Val.n b13), .int .i64 (Val.step b13), .str (Val.text b13), .sl .own .val (Val.list b13), .sl .own .str (Val.columns b13), .sl .own .row (Val.rows b13)])]
theorem p7_13_0 (x11 x12 : Int) (x72 : List Rowd) (x73 x74 : Int) (b8 b13 : Val) (r1 : Bool) (r2 : Val) : rS 13 I7 (S7_13 x11 x12 x72 x73 x74 b8 b13) [Y, Y] [xA2 r1, xAH r2] = dn (xAS (r2, false)) [(decide ((x74 : Int) < x73)) = true, (0 : Int) ≤ x74 ∧ x74 < (Ln x72), (0 : Int) ≤ x11 ∧ x11 < (Ln (Rowd.cells (gD x72 (tN x74) rd))), (0 : Int) ≤ x12 ∧ x12 < (Ln (Rowd.cells (gD x72 (tN x74) rd))), AbC 28 (xBQ (W ((gD (Rowd.cells (gD x72 (tN x74) rd)) (tN x11) Ty.int.dflt) + (gD (Rowd.cells (gD x72 (tN x74) rd)) (tN x12) Ty.int.dflt)))) (xA2 r1), (!r1) = true, AbC 26 (xA4 5) (xAH r2)] := by kernel_rfl
theorem p7_13_1 (x11 x12 : Int) (x72 : List Rowd) (x73 x74 : Int) (b8 b13 : Val) (r1 : Bool) : rS 13 I7 (S7_13 x11 x12 x72 x73 x74 b8 b13) [Y, F] [xA2 r1] = st 13 I7 (S7_13 x11 x12 x72 x73 (W (x74 + 1)) b8 (Val.mk (Val.kind b13) (Val.n b13) (Val.step b13) (Val.text b13) (Val.list b13) (Val.columns b13) (List.set (Val.rows b13) (tN x74) (Rowd.mk ((Rowd.cells (gD (Val.rows b13) (tN x74) rd)) ++ [(W ((gD (Rowd.cells (gD x72 (tN x74) rd)) (tN x11) Ty.int.dflt) + (gD (Rowd.cells (gD x72 (tN x74) rd)) (tN x12) Ty.int.dflt)))]) (Rowd.frm (gD (Val.rows b13) (tN x74) rd)))))) [(decide ((x74 : Int) < x73)) = true, (0 : Int) ≤ x74 ∧ x74 < (Ln x72), (0 : Int) ≤ x11 ∧ x11 < (Ln (Rowd.cells (gD x72 (tN x74) rd))), (0 : Int) ≤ x12 ∧ x12 < (Ln (Rowd.cells (gD x72 (tN x74) rd))), AbC 28 (xBQ (W ((gD (Rowd.cells (gD x72 (tN x74) rd)) (tN x11) Ty.int.dflt) + (gD (Rowd.cells (gD x72 (tN x74) rd)) (tN x12) Ty.int.dflt)))) (xA2 r1), (!r1) = false, (0 : Int) ≤ x74 ∧ x74 < (Ln (Val.rows b13)), Ln (Rowd.cells (gD (Val.rows b13) (tN x74) rd)) + Ln [(W ((gD (Rowd.cells (gD x72 (tN x74) rd)) (tN x11) Ty.int.dflt) + (gD (Rowd.cells (gD x72 (tN x74) rd)) (tN x12) Ty.int.dflt)))] ≤ Lim, (0 : Int) ≤ x74 ∧ x74 < (Ln (Val.rows b13)), (27 : Nat) = 27 ∧ (6 : Nat) = 6 ∧ ([((tN x74), 0)] : List (Nat × Nat)) = [((tN x74), 0)]] := by kernel_rfl
theorem p7_13_2 (x11 x12 : Int) (x72 : List Rowd) (x73 x74 : Int) (b8 b13 : Val) : rS 13 I7 (S7_13 x11 x12 x72 x73 x74 b8 b13) [F] [] = dn (xAS (b13, false)) [(decide ((x74 : Int) < x73)) = false] := by kernel_rfl
theorem p7_e_3 (a0 a1 a2 a3 : Val) (r1 : Val × Bool × Bool) : rE I7 (xAr a0 a1 a2 a3) [Y] [xBb r1] = dn (xAS ((Val.mk (Val.kind r1.1) (Val.n r1.1) (Val.step r1.1) (Val.text r1.1) [] [] []), true)) [AbC 23 (xAW [2, 2, 2, 5] [(Val.re a0), (Val.re a1), (Val.re a2), (Val.re a3)]) (xBb r1), r1.2.1 = true] := by kernel_rfl
theorem p7_e_4 (a0 a1 a2 a3 : Val) (r1 : Val × Bool × Bool) (r2 r3 : Int) (r4 : Bool) (r5 : Val) : rE I7 (xAr a0 a1 a2 a3) [F, Y, Y, Y, Y] [xBb r1, xAn r2, xAn r3, xAD r4, xAH r5] = dn (xAS (r5, false)) [AbC 23 (xAW [2, 2, 2, 5] [(Val.re a0), (Val.re a1), (Val.re a2), (Val.re a3)]) (xBb r1), r1.2.1 = false, AbC 24 (xAz a3 (Val.text a1)) (xAn r2), AbC 24 (xAz a3 (Val.text a2)) (xAn r3), AbC 25 (xAV (Val.text a0)) (xAD r4), (!r4) = true, true = true, true = true, true = true, AbC 26 (xA4 7) (xAH r5)] := by kernel_rfl
theorem p7_e_5 (a0 a1 a2 a3 : Val) (r1 : Val × Bool × Bool) (r2 r3 : Int) (r4 : Bool) (r5 : Int) (r6 : Val) : rE I7 (xAr a0 a1 a2 a3) [F, F, Y, Y, Y] [xBb r1, xAn r2, xAn r3, xAD r4, xAn r5, xAH r6] = dn (xAS (r6, false)) [AbC 23 (xAW [2, 2, 2, 5] [(Val.re a0), (Val.re a1), (Val.re a2), (Val.re a3)]) (xBb r1), r1.2.1 = false, AbC 24 (xAz a3 (Val.text a1)) (xAn r2), AbC 24 (xAz a3 (Val.text a2)) (xAn r3), AbC 25 (xAV (Val.text a0)) (xAD r4), (!r4) = false, AbC 24 (xAz a3 (Val.text a0)) (xAn r5), (decide ((r5 : Int) ≥ 0)) = true, true = true, true = true, AbC 26 (xA4 7) (xAH r6)] := by kernel_rfl
theorem p7_e_6 (a0 a1 a2 a3 : Val) (r1 : Val × Bool × Bool) (r2 r3 : Int) (r4 : Bool) (r5 : Int) (r6 : Val) : rE I7 (xAr a0 a1 a2 a3) [F, F, F, Y, Y] [xBb r1, xAn r2, xAn r3, xAD r4, xAn r5, xAH r6] = dn (xAS (r6, false)) [AbC 23 (xAW [2, 2, 2, 5] [(Val.re a0), (Val.re a1), (Val.re a2), (Val.re a3)]) (xBb r1), r1.2.1 = false, AbC 24 (xAz a3 (Val.text a1)) (xAn r2), AbC 24 (xAz a3 (Val.text a2)) (xAn r3), AbC 25 (xAV (Val.text a0)) (xAD r4), (!r4) = false, AbC 24 (xAz a3 (Val.text a0)) (xAn r5), (decide ((r5 : Int) ≥ 0)) = false, (decide ((r2 : Int) < 0)) = true, true = true, AbC 26 (xA4 7) (xAH r6)] := by kernel_rfl
theorem p7_e_7 (a0 a1 a2 a3 : Val) (r1 : Val × Bool × Bool) (r2 r3 : Int) (r4 : Bool) (r5 : Int) (r6 : Val) : rE I7 (xAr a0 a1 a2 a3) [F, F, F, F, Y] [xBb r1, xAn r2, xAn r3, xAD r4, xAn r5, xAH r6] = dn (xAS (r6, false)) [AbC 23 (xAW [2, 2, 2, 5] [(Val.re a0), (Val.re a1), (Val.re a2), (Val.re a3)]) (xBb r1), r1.2.1 = false, AbC 24 (xAz a3 (Val.text a1)) (xAn r2), AbC 24 (xAz a3 (Val.text a2)) (xAn r3), AbC 25 (xAV (Val.text a0)) (xAD r4), (!r4) = false, AbC 24 (xAz a3 (Val.text a0)) (xAn r5), (decide ((r5 : Int) ≥ 0)) = false, (decide ((r2 : Int) < 0)) = false, (decide ((r3 : Int) < 0)) = true, AbC 26 (xA4 7) (xAH r6)] := by kernel_rfl
theorem p7_e_8 (a0 a1 a2 a3 : Val) (r1 : Val × Bool × Bool) (r2 r3 : Int) (r4 : Bool) (r5 : Int) (r6 : Val) : rE I7 (xAr a0 a1 a2 a3) [F, F, F, F, F, Y] [xBb r1, xAn r2, xAn r3, xAD r4, xAn r5, xAH r6] = dn (xAS (r6, false)) [AbC 23 (xAW [2, 2, 2, 5] [(Val.re a0), (Val.re a1), (Val.re a2), (Val.re a3)]) (xBb r1), r1.2.1 = false, AbC 24 (xAz a3 (Val.text a1)) (xAn r2), AbC 24 (xAz a3 (Val.text a2)) (xAn r3), AbC 25 (xAV (Val.text a0)) (xAD r4), (!r4) = false, AbC 24 (xAz a3 (Val.text a0)) (xAn r5), (decide ((r5 : Int) ≥ 0)) = false, (decide ((r2 : Int) < 0)) = false, (decide ((r3 : Int) < 0)) = false, (decide (((Ln (Val.columns a3) : Int) : Int) ≥ 4)) = true, AbC 26 (xA4 6) (xAH r6)] := by kernel_rfl
theorem p7_e_9 (a0 a1 a2 a3 : Val) (r1 : Val × Bool × Bool) (r2 r3 : Int) (r4 : Bool) (r5 : Int) (r6 : Val) : rE I7 (xAr a0 a1 a2 a3) [F, F, F, F, F, F] [xBb r1, xAn r2, xAn r3, xAD r4, xAn r5, xBu r6] = st 13 I7 (S7_13 r2 r3 (Val.rows a3) (Ln (Val.rows a3) : Int) 0 (Val.mk 0 0 0 [] [] [] []) (Val.mk (Val.kind r6) (Val.n r6) (Val.step r6) (Val.text r6) (Val.list r6) ((Val.columns r6) ++ [(Val.text a0)]) (Val.rows r6))) [AbC 23 (xAW [2, 2, 2, 5] [(Val.re a0), (Val.re a1), (Val.re a2), (Val.re a3)]) (xBb r1), r1.2.1 = false, AbC 24 (xAz a3 (Val.text a1)) (xAn r2), AbC 24 (xAz a3 (Val.text a2)) (xAn r3), AbC 25 (xAV (Val.text a0)) (xAD r4), (!r4) = false, AbC 24 (xAz a3 (Val.text a0)) (xAn r5), (decide ((r5 : Int) ≥ 0)) = false, (decide ((r2 : Int) < 0)) = false, (decide ((r3 : Int) < 0)) = false, (decide (((Ln (Val.columns a3) : Int) : Int) ≥ 4)) = false, AbC 27 (xCr a3) (xBu r6), Ln (Val.columns r6) + Ln [(Val.text a0)] ≤ Lim] := by kernel_rfl
theorem p7_e_10 (a0 a1 a2 a3 : Val) (r1 : Val × Bool × Bool) : rE I7 (xAr a0 a1 a2 a3) [Y] [xA5 r1] = dn (xAS (r1.1, false)) [AbC 23 (xAW [2, 2, 2, 5] [(Val.re a0), (Val.re a1), (Val.re a2), (Val.re a3)]) (xA5 r1), r1.2.1 = true] := by kernel_rfl
theorem p7_e_11 (a0 a1 a2 a3 : Val) (r1 : Val × Bool × Bool) (r2 r3 : Int) (r4 : Bool) (r5 : Val) : rE I7 (xAr a0 a1 a2 a3) [F, Y, Y, Y, Y] [xA5 r1, xAn r2, xAn r3, xAD r4, xAH r5] = dn (xAS (r5, false)) [AbC 23 (xAW [2, 2, 2, 5] [(Val.re a0), (Val.re a1), (Val.re a2), (Val.re a3)]) (xA5 r1), r1.2.1 = false, AbC 24 (xAz a3 (Val.text a1)) (xAn r2), AbC 24 (xAz a3 (Val.text a2)) (xAn r3), AbC 25 (xAV (Val.text a0)) (xAD r4), (!r4) = true, true = true, true = true, true = true, AbC 26 (xA4 7) (xAH r5)] := by kernel_rfl
theorem p7_e_12 (a0 a1 a2 a3 : Val) (r1 : Val × Bool × Bool) (r2 r3 : Int) (r4 : Bool) (r5 : Int) (r6 : Val) : rE I7 (xAr a0 a1 a2 a3) [F, F, Y, Y, Y] [xA5 r1, xAn r2, xAn r3, xAD r4, xAn r5, xAH r6] = dn (xAS (r6, false)) [AbC 23 (xAW [2, 2, 2, 5] [(Val.re a0), (Val.re a1), (Val.re a2), (Val.re a3)]) (xA5 r1), r1.2.1 = false, AbC 24 (xAz a3 (Val.text a1)) (xAn r2), AbC 24 (xAz a3 (Val.text a2)) (xAn r3), AbC 25 (xAV (Val.text a0)) (xAD r4), (!r4) = false, AbC 24 (xAz a3 (Val.text a0)) (xAn r5), (decide ((r5 : Int) ≥ 0)) = true, true = true, true = true, AbC 26 (xA4 7) (xAH r6)] := by kernel_rfl
theorem p7_e_13 (a0 a1 a2 a3 : Val) (r1 : Val × Bool × Bool) (r2 r3 : Int) (r4 : Bool) (r5 : Int) (r6 : Val) : rE I7 (xAr a0 a1 a2 a3) [F, F, F, Y, Y] [xA5 r1, xAn r2, xAn r3, xAD r4, xAn r5, xAH r6] = dn (xAS (r6, false)) [AbC 23 (xAW [2, 2, 2, 5] [(Val.re a0), (Val.re a1), (Val.re a2), (Val.re a3)]) (xA5 r1), r1.2.1 = false, AbC 24 (xAz a3 (Val.text a1)) (xAn r2), AbC 24 (xAz a3 (Val.text a2)) (xAn r3), AbC 25 (xAV (Val.text a0)) (xAD r4), (!r4) = false, AbC 24 (xAz a3 (Val.text a0)) (xAn r5), (decide ((r5 : Int) ≥ 0)) = false, (decide ((r2 : Int) < 0)) = true, true = true, AbC 26 (xA4 7) (xAH r6)] := by kernel_rfl
theorem p7_e_14 (a0 a1 a2 a3 : Val) (r1 : Val × Bool × Bool) (r2 r3 : Int) (r4 : Bool) (r5 : Int) (r6 : Val) : rE I7 (xAr a0 a1 a2 a3) [F, F, F, F, Y] [xA5 r1, xAn r2, xAn r3, xAD r4, xAn r5, xAH r6] = dn (xAS (r6, false)) [AbC 23 (xAW [2, 2, 2, 5] [(Val.re a0), (Val.re a1), (Val.re a2), (Val.re a3)]) (xA5 r1), r1.2.1 = false, AbC 24 (xAz a3 (Val.text a1)) (xAn r2), AbC 24 (xAz a3 (Val.text a2)) (xAn r3), AbC 25 (xAV (Val.text a0)) (xAD r4), (!r4) = false, AbC 24 (xAz a3 (Val.text a0)) (xAn r5), (decide ((r5 : Int) ≥ 0)) = false, (decide ((r2 : Int) < 0)) = false, (decide ((r3 : Int) < 0)) = true, AbC 26 (xA4 7) (xAH r6)] := by kernel_rfl
theorem p7_e_15 (a0 a1 a2 a3 : Val) (r1 : Val × Bool × Bool) (r2 r3 : Int) (r4 : Bool) (r5 : Int) (r6 : Val) : rE I7 (xAr a0 a1 a2 a3) [F, F, F, F, F, Y] [xA5 r1, xAn r2, xAn r3, xAD r4, xAn r5, xAH r6] = dn (xAS (r6, false)) [AbC 23 (xAW [2, 2, 2, 5] [(Val.re a0), (Val.re a1), (Val.re a2), (Val.re a3)]) (xA5 r1), r1.2.1 = false, AbC 24 (xAz a3 (Val.text a1)) (xAn r2), AbC 24 (xAz a3 (Val.text a2)) (xAn r3), AbC 25 (xAV (Val.text a0)) (xAD r4), (!r4) = false, AbC 24 (xAz a3 (Val.text a0)) (xAn r5), (decide ((r5 : Int) ≥ 0)) = false, (decide ((r2 : Int) < 0)) = false, (decide ((r3 : Int) < 0)) = false, (decide (((Ln (Val.columns a3) : Int) : Int) ≥ 4)) = true, AbC 26 (xA4 6) (xAH r6)] := by kernel_rfl
theorem p7_e_16 (a0 a1 a2 a3 : Val) (r1 : Val × Bool × Bool) (r2 r3 : Int) (r4 : Bool) (r5 : Int) (r6 : Val) : rE I7 (xAr a0 a1 a2 a3) [F, F, F, F, F, F] [xA5 r1, xAn r2, xAn r3, xAD r4, xAn r5, xBu r6] = st 13 I7 (S7_13 r2 r3 (Val.rows a3) (Ln (Val.rows a3) : Int) 0 (Val.mk 0 0 0 [] [] [] []) (Val.mk (Val.kind r6) (Val.n r6) (Val.step r6) (Val.text r6) (Val.list r6) ((Val.columns r6) ++ [(Val.text a0)]) (Val.rows r6))) [AbC 23 (xAW [2, 2, 2, 5] [(Val.re a0), (Val.re a1), (Val.re a2), (Val.re a3)]) (xA5 r1), r1.2.1 = false, AbC 24 (xAz a3 (Val.text a1)) (xAn r2), AbC 24 (xAz a3 (Val.text a2)) (xAn r3), AbC 25 (xAV (Val.text a0)) (xAD r4), (!r4) = false, AbC 24 (xAz a3 (Val.text a0)) (xAn r5), (decide ((r5 : Int) ≥ 0)) = false, (decide ((r2 : Int) < 0)) = false, (decide ((r3 : Int) < 0)) = false, (decide (((Ln (Val.columns a3) : Int) : Int) ≥ 4)) = false, AbC 27 (xCr a3) (xBu r6), Ln (Val.columns r6) + Ln [(Val.text a0)] ≤ Lim] := by kernel_rfl
theorem c7_13 {N : Nat} : ∀ n x11 x12 x72 x73 x74 b8 b13 r, xBX N n x11 x12 x72 x73 x74 b8 b13 = some r → RS Try.f7 I7 13 (S7_13 x11 x12 x72 x73 x74 b8 b13) (xAS r) := by
 intro n
 induction n with
 | zero => exact fun _ _ _ _ _ _ _ _ h => nE h
 | succ n ih =>
  exact fun x11 x12 x72 x73 x74 b8 b13 r h =>
   cE h (fun h0 h => iE h fun h1 h => iE h fun h2 h => iE h fun h3 h => bE h fun r1 h4 h => cE h (fun h5 h => bE h fun r2 h6 h => dS h fk7 (p7_13_0 x11 x12 x72 x73 x74 b8 b13 r1 r2) (oc h0 (oc h1 (oc h2 (oc h3 (oc (xCJ h4) (oc h5 (oc (xBj h6) on)))))))) fun h5 h =>
   iE h fun h6 h => iE h fun h7 h => tS fk7 (p7_13_1 x11 x12 x72 x73 x74 b8 b13 r1) (oc h0 (oc h1 (oc h2 (oc h3 (oc (xCJ h4) (oc h5 (oc h6 (oc h7 (oc h6 (oc ⟨rfl, rfl, rfl⟩ on)))))))))) (ih _ _ _ _ _ _ _ _ h)) fun h0 h =>
   dS h fk7 (p7_13_2 x11 x12 x72 x73 x74 b8 b13) (oc h0 on)
theorem c7_e {N : Nat} : ∀ a0 a1 a2 a3 r, xBU N a0 a1 a2 a3 = some r → RE Try.f7 I7 (xAr a0 a1 a2 a3) (xAS r) := fun a0 a1 a2 a3 r h =>
 bE h fun r1 h0 h => cE h (fun h1 h => iE h fun h2 h => iE h fun h3 h => iE h fun h4 h => cE h (fun h5 h => dE h fk7 (p7_e_3 a0 a1 a2 a3 r1) (oc (xCC (xBk h0) h1 h2 h3 h4) (oc h5 on))) fun h5 h =>
 bE h fun r2 h6 h => bE h fun r3 h7 h => bE h fun r4 h8 h => cE h (fun h9 h => bE h fun r5 h13 h => dE h fk7 (p7_e_4 a0 a1 a2 a3 r1 r2 r3 r4 r5) (oc (xCC (xBk h0) h1 h2 h3 h4) (oc h5 (oc (xAB h6) (oc (xAB h7) (oc (xA9 h8) (oc h9 (oc rfl (oc rfl (oc rfl (oc (xBj h13) on))))))))))) fun h9 h =>
 bE h fun r5 h10 h => cE h (fun h11 h => bE h fun r6 h14 h => dE h fk7 (p7_e_5 a0 a1 a2 a3 r1 r2 r3 r4 r5 r6) (oc (xCC (xBk h0) h1 h2 h3 h4) (oc h5 (oc (xAB h6) (oc (xAB h7) (oc (xA9 h8) (oc h9 (oc (xAB h10) (oc h11 (oc rfl (oc rfl (oc (xBj h14) on)))))))))))) fun h11 h =>
 cE h (fun h12 h => bE h fun r6 h14 h => dE h fk7 (p7_e_6 a0 a1 a2 a3 r1 r2 r3 r4 r5 r6) (oc (xCC (xBk h0) h1 h2 h3 h4) (oc h5 (oc (xAB h6) (oc (xAB h7) (oc (xA9 h8) (oc h9 (oc (xAB h10) (oc h11 (oc h12 (oc rfl (oc (xBj h14) on)))))))))))) fun h12 h =>
 cE h (fun h13 h => bE h fun r6 h14 h => dE h fk7 (p7_e_7 a0 a1 a2 a3 r1 r2 r3 r4 r5 r6) (oc (xCC (xBk h0) h1 h2 h3 h4) (oc h5 (oc (xAB h6) (oc (xAB h7) (oc (xA9 h8) (oc h9 (oc (xAB h10) (oc h11 (oc h12 (oc h13 (oc (xBj h14) on)))))))))))) fun h13 h =>
 cE h (fun h14 h => bE h fun r6 h15 h => dE h fk7 (p7_e_8 a0 a1 a2 a3 r1 r2 r3 r4 r5 r6) (oc (xCC (xBk h0) h1 h2 h3 h4) (oc h5 (oc (xAB h6) (oc (xAB h7) (oc (xA9 h8) (oc h9 (oc (xAB h10) (oc h11 (oc h12 (oc h13 (oc h14 (oc (xBj h15) on))))))))))))) fun h14 h =>
 bE h fun r6 h15 h => iE h fun h16 h => tE fk7 (p7_e_9 a0 a1 a2 a3 r1 r2 r3 r4 r5 r6) (oc (xCC (xBk h0) h1 h2 h3 h4) (oc h5 (oc (xAB h6) (oc (xAB h7) (oc (xA9 h8) (oc h9 (oc (xAB h10) (oc h11 (oc h12 (oc h13 (oc h14 (oc (xG2 h15) (oc h16 on))))))))))))) (c7_13 _ _ _ _ _ _ _ _ _ h)) fun h1 h =>
 cE h (fun h2 h => dE h fk7 (p7_e_10 a0 a1 a2 a3 r1) (oc (xCD (xBk h0) h1) (oc h2 on))) fun h2 h =>
 bE h fun r2 h3 h => bE h fun r3 h4 h => bE h fun r4 h5 h => cE h (fun h6 h => bE h fun r5 h10 h => dE h fk7 (p7_e_11 a0 a1 a2 a3 r1 r2 r3 r4 r5) (oc (xCD (xBk h0) h1) (oc h2 (oc (xAB h3) (oc (xAB h4) (oc (xA9 h5) (oc h6 (oc rfl (oc rfl (oc rfl (oc (xBj h10) on))))))))))) fun h6 h =>
 bE h fun r5 h7 h => cE h (fun h8 h => bE h fun r6 h11 h => dE h fk7 (p7_e_12 a0 a1 a2 a3 r1 r2 r3 r4 r5 r6) (oc (xCD (xBk h0) h1) (oc h2 (oc (xAB h3) (oc (xAB h4) (oc (xA9 h5) (oc h6 (oc (xAB h7) (oc h8 (oc rfl (oc rfl (oc (xBj h11) on)))))))))))) fun h8 h =>
 cE h (fun h9 h => bE h fun r6 h11 h => dE h fk7 (p7_e_13 a0 a1 a2 a3 r1 r2 r3 r4 r5 r6) (oc (xCD (xBk h0) h1) (oc h2 (oc (xAB h3) (oc (xAB h4) (oc (xA9 h5) (oc h6 (oc (xAB h7) (oc h8 (oc h9 (oc rfl (oc (xBj h11) on)))))))))))) fun h9 h =>
 cE h (fun h10 h => bE h fun r6 h11 h => dE h fk7 (p7_e_14 a0 a1 a2 a3 r1 r2 r3 r4 r5 r6) (oc (xCD (xBk h0) h1) (oc h2 (oc (xAB h3) (oc (xAB h4) (oc (xA9 h5) (oc h6 (oc (xAB h7) (oc h8 (oc h9 (oc h10 (oc (xBj h11) on)))))))))))) fun h10 h =>
 cE h (fun h11 h => bE h fun r6 h12 h => dE h fk7 (p7_e_15 a0 a1 a2 a3 r1 r2 r3 r4 r5 r6) (oc (xCD (xBk h0) h1) (oc h2 (oc (xAB h3) (oc (xAB h4) (oc (xA9 h5) (oc h6 (oc (xAB h7) (oc h8 (oc h9 (oc h10 (oc h11 (oc (xBj h12) on))))))))))))) fun h11 h =>
 bE h fun r6 h12 h => iE h fun h13 h => tE fk7 (p7_e_16 a0 a1 a2 a3 r1 r2 r3 r4 r5 r6) (oc (xCD (xBk h0) h1) (oc h2 (oc (xAB h3) (oc (xAB h4) (oc (xA9 h5) (oc h6 (oc (xAB h7) (oc h8 (oc h9 (oc h10 (oc h11 (oc (xG2 h12) (oc h13 on))))))))))))) (c7_13 _ _ _ _ _ _ _ _ _ h)
theorem xAw {N : Nat} {a0 : Val} {a1 : Val} {a2 : Val} {a3 : Val} {r : Val × Bool} (h : xBU N  a0 a1 a2 a3 = some r) : AbC 7 (xAr a0 a1 a2 a3) (xAS r) :=
 AbsCalls.of_reach fk7 rfl rfl (Nat.le_of_ble_eq_true rfl) (c7_e a0 a1 a2 a3 r h)
noncomputable def I30 : Info := { body := (Try.f30.body).getD .skip, nt := 26, results := [.tmp 4], keep := [0, 2, 8, 10, 20, 28, 50], live := [(4, [0, 2, 10])], modes := [] }
theorem fk30 : FnOk Try.prog 30 Try.f30 I30 := ⟨Try.func30, by kernel_rfl, by kernel_rfl, by kernel_rfl, by kernel_rfl⟩
def S30_4 (x0 x1 : List Str) (x5 : Int) : St := [(0, .v false [.sl .ro .str x0]), (2, .v false [.sl .ro .str x1]), (10, .v false [.int .i64 x5])]
theorem p30_4_0 (x0 x1 : List Str) (x5 : Int) : rS 4 I30 (S30_4 x0 x1 x5) [Y, Y] [] = dn (xBw false) [(decide ((x5 : Int) < (Ln x0 : Int))) = true, (0 : Int) ≤ x5 ∧ x5 < (Ln x0), (0 : Int) ≤ x5 ∧ x5 < (Ln x1), (!(((gD x0 (tN x5) Ty.str.dflt) : Str) == (gD x1 (tN x5) Ty.str.dflt))) = true] := by kernel_rfl
theorem p30_4_1 (x0 x1 : List Str) (x5 : Int) : rS 4 I30 (S30_4 x0 x1 x5) [Y, F] [] = st 4 I30 (S30_4 x0 x1 (W (x5 + 1))) [(decide ((x5 : Int) < (Ln x0 : Int))) = true, (0 : Int) ≤ x5 ∧ x5 < (Ln x0), (0 : Int) ≤ x5 ∧ x5 < (Ln x1), (!(((gD x0 (tN x5) Ty.str.dflt) : Str) == (gD x1 (tN x5) Ty.str.dflt))) = false] := by kernel_rfl
theorem p30_4_2 (x0 x1 : List Str) (x5 : Int) : rS 4 I30 (S30_4 x0 x1 x5) [F] [] = dn (xBw true) [(decide ((x5 : Int) < (Ln x0 : Int))) = false] := by kernel_rfl
theorem p30_e_3 (a0 a1 : List Str) : rE I30 (xCR a0 a1) [Y] [] = dn (xBw false) [(((Ln a0 : Int) : Int) != (Ln a1 : Int)) = true] := by kernel_rfl
theorem p30_e_4 (a0 a1 : List Str) : rE I30 (xCR a0 a1) [F] [] = st 4 I30 (S30_4 a0 a1 0) [(((Ln a0 : Int) : Int) != (Ln a1 : Int)) = false] := by kernel_rfl
theorem c30_4 {N : Nat} : ∀ n x0 x1 x5 r, xDs N n x0 x1 x5 = some r → RS Try.f30 I30 4 (S30_4 x0 x1 x5) (xBw r) := by
 intro n
 induction n with
 | zero => exact fun _ _ _ _ h => nE h
 | succ n ih =>
  exact fun x0 x1 x5 r h =>
   cE h (fun h0 h => iE h fun h1 h => iE h fun h2 h => cE h (fun h3 h => dS h fk30 (p30_4_0 x0 x1 x5) (oc h0 (oc h1 (oc h2 (oc h3 on))))) fun h3 h =>
   tS fk30 (p30_4_1 x0 x1 x5) (oc h0 (oc h1 (oc h2 (oc h3 on)))) (ih _ _ _ _ h)) fun h0 h =>
   dS h fk30 (p30_4_2 x0 x1 x5) (oc h0 on)
theorem c30_e {N : Nat} : ∀ a0 a1 r, xFd N a0 a1 = some r → RE Try.f30 I30 (xCR a0 a1) (xBw r) := fun a0 a1 r h =>
 cE h (fun h0 h => dE h fk30 (p30_e_3 a0 a1) (oc h0 on)) fun h0 h =>
 tE fk30 (p30_e_4 a0 a1) (oc h0 on) (c30_4 _ _ _ _ _ h)
theorem xFW {N : Nat} {a0 : List Str} {a1 : List Str} {r : Bool} (h : xFd N  a0 a1 = some r) : AbC 30 (xCR a0 a1) (xBw r) :=
 AbsCalls.of_reach fk30 rfl rfl (Nat.le_of_ble_eq_true rfl) (c30_e a0 a1 r h)
end Go.Ab.T
end
section
open Go.Proofs
namespace Go.Ab.T
set_option linter.unusedVariables false
set_option maxRecDepth 100000
variable [Inhabited Lb]
noncomputable def I68 : Info := { body := (Try.f68.body).getD .skip, nt := 26, results := [.tmp 4], keep := [0, 2, 8, 10, 20, 28, 50], live := [(4, [0, 2, 10])], modes := [] }
theorem fk68 : FnOk Try.prog 68 Try.f68 I68 := ⟨Try.func68, by kernel_rfl, by kernel_rfl, by kernel_rfl, by kernel_rfl⟩
def S68_4 (x0 x1 : List Int) (x5 : Int) : St := [(0, .v false [.sl .ro .int x0]), (2, .v false [.sl .ro .int x1]), (10, .v false [.int .i64 x5])]
theorem p68_4_0 (x0 x1 : List Int) (x5 : Int) : rS 4 I68 (S68_4 x0 x1 x5) [Y, Y] [] = dn (xB6 false) [(decide ((x5 : Int) < (Ln x0 : Int))) = true, (0 : Int) ≤ x5 ∧ x5 < (Ln x0), (0 : Int) ≤ x5 ∧ x5 < (Ln x1), (((gD x0 (tN x5) Ty.int.dflt) : Int) != (gD x1 (tN x5) Ty.int.dflt)) = true] := by kernel_rfl
theorem p68_4_1 (x0 x1 : List Int) (x5 : Int) : rS 4 I68 (S68_4 x0 x1 x5) [Y, F] [] = st 4 I68 (S68_4 x0 x1 (W (x5 + 1))) [(decide ((x5 : Int) < (Ln x0 : Int))) = true, (0 : Int) ≤ x5 ∧ x5 < (Ln x0), (0 : Int) ≤ x5 ∧ x5 < (Ln x1), (((gD x0 (tN x5) Ty.int.dflt) : Int) != (gD x1 (tN x5) Ty.int.dflt)) = false] := by kernel_rfl
theorem p68_4_2 (x0 x1 : List Int) (x5 : Int) : rS 4 I68 (S68_4 x0 x1 x5) [F] [] = dn (xB6 true) [(decide ((x5 : Int) < (Ln x0 : Int))) = false] := by kernel_rfl
theorem p68_e_3 (a0 a1 : List Int) : rE I68 (xD6 a0 a1) [Y] [] = dn (xB6 false) [(((Ln a0 : Int) : Int) != (Ln a1 : Int)) = true] := by kernel_rfl
theorem p68_e_4 (a0 a1 : List Int) : rE I68 (xD6 a0 a1) [F] [] = st 4 I68 (S68_4 a0 a1 0) [(((Ln a0 : Int) : Int) != (Ln a1 : Int)) = false] := by kernel_rfl
theorem c68_4 {N : Nat} : ∀ n x0 x1 x5 r, xEA N n x0 x1 x5 = some r → RS Try.f68 I68 4 (S68_4 x0 x1 x5) (xB6 r) := by
 intro n
 induction n with
 | zero => exact fun _ _ _ _ h => nE h
 | succ n ih =>
  exact fun x0 x1 x5 r h =>
   cE h (fun h0 h => iE h fun h1 h => iE h fun h2 h => cE h (fun h3 h => dS h fk68 (p68_4_0 x0 x1 x5) (oc h0 (oc h1 (oc h2 (oc h3 on))))) fun h3 h =>
   tS fk68 (p68_4_1 x0 x1 x5) (oc h0 (oc h1 (oc h2 (oc h3 on)))) (ih _ _ _ _ h)) fun h0 h =>
   dS h fk68 (p68_4_2 x0 x1 x5) (oc h0 on)
theorem c68_e {N : Nat} : ∀ a0 a1 r, xGA N a0 a1 = some r → RE Try.f68 I68 (xD6 a0 a1) (xB6 r) := fun a0 a1 r h =>
 cE h (fun h0 h => dE h fk68 (p68_e_3 a0 a1) (oc h0 on)) fun h0 h =>
 tE fk68 (p68_e_4 a0 a1) (oc h0 on) (c68_4 _ _ _ _ _ h)
theorem xGZ {N : Nat} {a0 : List Int} {a1 : List Int} {r : Bool} (h : xGA N  a0 a1 = some r) : AbC 68 (xD6 a0 a1) (xB6 r) :=
 AbsCalls.of_reach fk68 rfl rfl (Nat.le_of_ble_eq_true rfl) (c68_e a0 a1 r h)
noncomputable def I77 : Info := { body := (Try.f77.body).getD .skip, nt := 15, results := [.tmp 4], keep := [0, 2, 4, 6, 8, 18, 28, 5, 7], live := [], modes := [] }
theorem fk77 : FnOk Try.prog 77 Try.f77 I77 := ⟨Try.func77, by kernel_rfl, by kernel_rfl, by kernel_rfl, by kernel_rfl⟩
theorem p77_e_0 (a0 a1 : Org) : rE I77 (xDb a0 a1) [Y] [] = dn (xCh false) [(((Org.cell a0) : Int) != (Org.cell a1)) = true] := by kernel_rfl
theorem p77_e_1 (a0 a1 : Org) : rE I77 (xDb a0 a1) [F, Y] [] = dn (xCh false) [(((Org.cell a0) : Int) != (Org.cell a1)) = false, (((Org.row a0) : Int) != (Org.row a1)) = true] := by kernel_rfl
theorem p77_e_2 (a0 a1 : Org) : rE I77 (xDb a0 a1) [F, F] [] = dn (xCh true) [(((Org.cell a0) : Int) != (Org.cell a1)) = false, (((Org.row a0) : Int) != (Org.row a1)) = false] := by kernel_rfl
theorem c77_e {N : Nat} : ∀ a0 a1 r, xFE N a0 a1 = some r → RE Try.f77 I77 (xDb a0 a1) (xCh r) := fun a0 a1 r h =>
 cE h (fun h0 h => dE h fk77 (p77_e_0 a0 a1) (oc h0 on)) fun h0 h =>
 cE h (fun h1 h => dE h fk77 (p77_e_1 a0 a1) (oc h0 (oc h1 on))) fun h1 h =>
 dE h fk77 (p77_e_2 a0 a1) (oc h0 (oc h1 on))
theorem xHn {N : Nat} {a0 : Org} {a1 : Org} {r : Bool} (h : xFE N  a0 a1 = some r) : AbC 77 (xDb a0 a1) (xCh r) :=
 AbsCalls.of_reach fk77 rfl rfl (Nat.le_of_ble_eq_true rfl) (c77_e a0 a1 r h)
noncomputable def I69 : Info := { body := (Try.f69.body).getD .skip, nt := 27, results := [.tmp 4], keep := [0, 2, 8, 10, 20, 28, 52], live := [(4, [0, 2, 10])], modes := [] }
theorem fk69 : FnOk Try.prog 69 Try.f69 I69 := ⟨Try.func69, by kernel_rfl, by kernel_rfl, by kernel_rfl, by kernel_rfl⟩
def S69_4 (x0 x1 : List Org) (x5 : Int) : St := [(0, .v false [.sl .ro .org x0]), (2, .v false [.sl .ro .org x1]), (10, .v false [.int .i64 x5])]
theorem p69_4_0 (x0 x1 : List Org) (x5 : Int) (r1 : Bool) : rS 4 I69 (S69_4 x0 x1 x5) [Y, Y] [xCh r1] = dn (xBV false) [(decide ((x5 : Int) < (Ln x0 : Int))) = true, (0 : Int) ≤ x5 ∧ x5 < (Ln x0), (0 : Int) ≤ x5 ∧ x5 < (Ln x1), AbC 77 (xDb (gD x0 (tN x5) Ty.org.dflt) (gD x1 (tN x5) Ty.org.dflt)) (xCh r1), (!r1) = true] := by kernel_rfl
theorem p69_4_1 (x0 x1 : List Org) (x5 : Int) (r1 : Bool) : rS 4 I69 (S69_4 x0 x1 x5) [Y, F] [xCh r1] = st 4 I69 (S69_4 x0 x1 (W (x5 + 1))) [(decide ((x5 : Int) < (Ln x0 : Int))) = true, (0 : Int) ≤ x5 ∧ x5 < (Ln x0), (0 : Int) ≤ x5 ∧ x5 < (Ln x1), AbC 77 (xDb (gD x0 (tN x5) Ty.org.dflt) (gD x1 (tN x5) Ty.org.dflt)) (xCh r1), (!r1) = false] := by kernel_rfl
theorem p69_4_2 (x0 x1 : List Org) (x5 : Int) : rS 4 I69 (S69_4 x0 x1 x5) [F] [] = dn (xBV true) [(decide ((x5 : Int) < (Ln x0 : Int))) = false] := by kernel_rfl
theorem p69_e_3 (a0 a1 : List Org) : rE I69 (xDq a0 a1) [Y] [] = dn (xBV false) [(((Ln a0 : Int) : Int) != (Ln a1 : Int)) = true] := by kernel_rfl
theorem p69_e_4 (a0 a1 : List Org) : rE I69 (xDq a0 a1) [F] [] = st 4 I69 (S69_4 a0 a1 0) [(((Ln a0 : Int) : Int) != (Ln a1 : Int)) = false] := by kernel_rfl
theorem c69_4 {N : Nat} : ∀ n x0 x1 x5 r, xDr N n x0 x1 x5 = some r → RS Try.f69 I69 4 (S69_4 x0 x1 x5) (xBV r) := by
 intro n
 induction n with
 | zero => exact fun _ _ _ _ h => nE h
 | succ n ih =>
  exact fun x0 x1 x5 r h =>
   cE h (fun h0 h => iE h fun h1 h => iE h fun h2 h => bE h fun r1 h3 h => cE h (fun h4 h => dS h fk69 (p69_4_0 x0 x1 x5 r1) (oc h0 (oc h1 (oc h2 (oc (xHn h3) (oc h4 on)))))) fun h4 h =>
   tS fk69 (p69_4_1 x0 x1 x5 r1) (oc h0 (oc h1 (oc h2 (oc (xHn h3) (oc h4 on))))) (ih _ _ _ _ h)) fun h0 h =>
   dS h fk69 (p69_4_2 x0 x1 x5) (oc h0 on)
theorem c69_e {N : Nat} : ∀ a0 a1 r, xFc N a0 a1 = some r → RE Try.f69 I69 (xDq a0 a1) (xBV r) := fun a0 a1 r h =>
 cE h (fun h0 h => dE h fk69 (p69_e_3 a0 a1) (oc h0 on)) fun h0 h =>
 tE fk69 (p69_e_4 a0 a1) (oc h0 on) (c69_4 _ _ _ _ _ h)
theorem xG3 {N : Nat} {a0 : List Org} {a1 : List Org} {r : Bool} (h : xFc N  a0 a1 = some r) : AbC 69 (xDq a0 a1) (xBV r) :=
 AbsCalls.of_reach fk69 rfl rfl (Nat.le_of_ble_eq_true rfl) (c69_e a0 a1 r h)
noncomputable def I53 : Info := { body := (Try.f53.body).getD .skip, nt := 17, results := [.tmp 4], keep := [0, 2, 4, 6, 8, 20, 32, 5, 7], live := [], modes := [] }
theorem fk53 : FnOk Try.prog 53 Try.f53 I53 := ⟨Try.func53, by kernel_rfl, by kernel_rfl, by kernel_rfl, by kernel_rfl⟩
theorem p53_e_0 (a0 a1 : Rowd) (r1 : Bool) : rE I53 (xEo a0 a1) [Y] [xB6 r1] = dn (xDl false) [AbC 68 (xD6 (Rowd.cells a0) (Rowd.cells a1)) (xB6 r1), (!r1) = true] := by kernel_rfl
theorem p53_e_1 (a0 a1 : Rowd) (r1 r2 : Bool) : rE I53 (xEo a0 a1) [F, Y] [xB6 r1, xBV r2] = dn (xDl false) [AbC 68 (xD6 (Rowd.cells a0) (Rowd.cells a1)) (xB6 r1), (!r1) = false, AbC 69 (xDq (Rowd.frm a0) (Rowd.frm a1)) (xBV r2), (!r2) = true] := by kernel_rfl
theorem p53_e_2 (a0 a1 : Rowd) (r1 r2 : Bool) : rE I53 (xEo a0 a1) [F, F] [xB6 r1, xBV r2] = dn (xDl true) [AbC 68 (xD6 (Rowd.cells a0) (Rowd.cells a1)) (xB6 r1), (!r1) = false, AbC 69 (xDq (Rowd.frm a0) (Rowd.frm a1)) (xBV r2), (!r2) = false] := by kernel_rfl
theorem c53_e {N : Nat} : ∀ a0 a1 r, xG4 N a0 a1 = some r → RE Try.f53 I53 (xEo a0 a1) (xDl r) := fun a0 a1 r h =>
 bE h fun r1 h0 h => cE h (fun h1 h => dE h fk53 (p53_e_0 a0 a1 r1) (oc (xGZ h0) (oc h1 on))) fun h1 h =>
 bE h fun r2 h2 h => cE h (fun h3 h => dE h fk53 (p53_e_1 a0 a1 r1 r2) (oc (xGZ h0) (oc h1 (oc (xG3 h2) (oc h3 on))))) fun h3 h =>
 dE h fk53 (p53_e_2 a0 a1 r1 r2) (oc (xGZ h0) (oc h1 (oc (xG3 h2) (oc h3 on))))
theorem laws_eqRow_ok {N : Nat} {a0 : Rowd} {a1 : Rowd} {r : Bool} (h : xG4 N  a0 a1 = some r) : AbC 53 (xEo a0 a1) (xDl r) :=
 AbsCalls.of_reach fk53 rfl rfl (Nat.le_of_ble_eq_true rfl) (c53_e a0 a1 r h)
noncomputable def I31 : Info := { body := (Try.f31.body).getD .skip, nt := 27, results := [.tmp 4], keep := [0, 2, 8, 10, 20, 28, 52], live := [(4, [0, 2, 10])], modes := [] }
theorem fk31 : FnOk Try.prog 31 Try.f31 I31 := ⟨Try.func31, by kernel_rfl, by kernel_rfl, by kernel_rfl, by kernel_rfl⟩
def S31_4 (x0 x1 : List Rowd) (x5 : Int) : St := [(0, .v false [.sl .ro .row x0]), (2, .v false [.sl .ro .row x1]), (10, .v false [.int .i64 x5])]
theorem p31_4_0 (x0 x1 : List Rowd) (x5 : Int) (r1 : Bool) : rS 4 I31 (S31_4 x0 x1 x5) [Y, Y] [xDl r1] = dn (xCx false) [(decide ((x5 : Int) < (Ln x0 : Int))) = true, (0 : Int) ≤ x5 ∧ x5 < (Ln x0), (0 : Int) ≤ x5 ∧ x5 < (Ln x1), AbC 53 (xEo (gD x0 (tN x5) rd) (gD x1 (tN x5) rd)) (xDl r1), (!r1) = true] := by kernel_rfl
theorem p31_4_1 (x0 x1 : List Rowd) (x5 : Int) (r1 : Bool) : rS 4 I31 (S31_4 x0 x1 x5) [Y, F] [xDl r1] = st 4 I31 (S31_4 x0 x1 (W (x5 + 1))) [(decide ((x5 : Int) < (Ln x0 : Int))) = true, (0 : Int) ≤ x5 ∧ x5 < (Ln x0), (0 : Int) ≤ x5 ∧ x5 < (Ln x1), AbC 53 (xEo (gD x0 (tN x5) rd) (gD x1 (tN x5) rd)) (xDl r1), (!r1) = false] := by kernel_rfl
theorem p31_4_2 (x0 x1 : List Rowd) (x5 : Int) : rS 4 I31 (S31_4 x0 x1 x5) [F] [] = dn (xCx true) [(decide ((x5 : Int) < (Ln x0 : Int))) = false] := by kernel_rfl
theorem p31_e_3 (a0 a1 : List Rowd) : rE I31 (xEB a0 a1) [Y] [] = dn (xCx false) [(((Ln a0 : Int) : Int) != (Ln a1 : Int)) = true] := by kernel_rfl
theorem p31_e_4 (a0 a1 : List Rowd) : rE I31 (xEB a0 a1) [F] [] = st 4 I31 (S31_4 a0 a1 0) [(((Ln a0 : Int) : Int) != (Ln a1 : Int)) = false] := by kernel_rfl
theorem c31_4 {N : Nat} : ∀ n x0 x1 x5 r, xEC N n x0 x1 x5 = some r → RS Try.f31 I31 4 (S31_4 x0 x1 x5) (xCx r) := by
 intro n
 induction n with
 | zero => exact fun _ _ _ _ h => nE h
 | succ n ih =>
  exact fun x0 x1 x5 r h =>
   cE h (fun h0 h => iE h fun h1 h => iE h fun h2 h => bE h fun r1 h3 h => cE h (fun h4 h => dS h fk31 (p31_4_0 x0 x1 x5 r1) (oc h0 (oc h1 (oc h2 (oc (laws_eqRow_ok h3) (oc h4 on)))))) fun h4 h =>
   tS fk31 (p31_4_1 x0 x1 x5 r1) (oc h0 (oc h1 (oc h2 (oc (laws_eqRow_ok h3) (oc h4 on))))) (ih _ _ _ _ h)) fun h0 h =>
   dS h fk31 (p31_4_2 x0 x1 x5) (oc h0 on)
theorem c31_e {N : Nat} : ∀ a0 a1 r, xGB N a0 a1 = some r → RE Try.f31 I31 (xEB a0 a1) (xCx r) := fun a0 a1 r h =>
 cE h (fun h0 h => dE h fk31 (p31_e_3 a0 a1) (oc h0 on)) fun h0 h =>
 tE fk31 (p31_e_4 a0 a1) (oc h0 on) (c31_4 _ _ _ _ _ h)
theorem xHY {N : Nat} {a0 : List Rowd} {a1 : List Rowd} {r : Bool} (h : xGB N  a0 a1 = some r) : AbC 31 (xEB a0 a1) (xCx r) :=
 AbsCalls.of_reach fk31 rfl rfl (Nat.le_of_ble_eq_true rfl) (c31_e a0 a1 r h)
def G8 (q : Val → Val → Option (Bool)) : Prop := ∀ a0 a1 r, q a0 a1 = some r → AbC 8 (xAg a0 a1) (xAd r)
def G29 (q : (List Val) → (List Val) → Option (Bool)) : Prop := ∀ a0 a1 r, q a0 a1 = some r → AbC 29 (xCi a0 a1) (xBm r)
noncomputable def I8 : Info := { body := (Try.f8.body).getD .skip, nt := 43, results := [.tmp 4], keep := [0, 2, 4, 6, 8, 18, 28, 38, 48, 60, 72, 84, 5, 7], live := [], modes := [] }
theorem fk8 : FnOk Try.prog 8 Try.f8 I8 := ⟨Try.func8, by kernel_rfl, by kernel_rfl, by kernel_rfl, by kernel_rfl⟩
theorem p8_e_0 (a0 a1 : Val) : rE I8 (xAg a0 a1) [Y] [] = dn (xAd false) [(((Val.kind a0) : Int) != (Val.kind a1)) = true] := by kernel_rfl
theorem p8_e_1 (a0 a1 : Val) : rE I8 (xAg a0 a1) [F, Y] [] = dn (xAd false) [(((Val.kind a0) : Int) != (Val.kind a1)) = false, (((Val.n a0) : Int) != (Val.n a1)) = true] := by kernel_rfl
theorem p8_e_2 (a0 a1 : Val) : rE I8 (xAg a0 a1) [F, F, Y] [] = dn (xAd false) [(((Val.kind a0) : Int) != (Val.kind a1)) = false, (((Val.n a0) : Int) != (Val.n a1)) = false, (((Val.step a0) : Int) != (Val.step a1)) = true] := by kernel_rfl
theorem p8_e_3 (a0 a1 : Val) : rE I8 (xAg a0 a1) [F, F, F, Y] [] = dn (xAd false) [(((Val.kind a0) : Int) != (Val.kind a1)) = false, (((Val.n a0) : Int) != (Val.n a1)) = false, (((Val.step a0) : Int) != (Val.step a1)) = false, (!(((Val.text a0) : Str) == (Val.text a1))) = true] := by kernel_rfl
theorem p8_e_4 (a0 a1 : Val) (r1 : Bool) : rE I8 (xAg a0 a1) [F, F, F, F, Y] [xBm r1] = dn (xAd false) [(((Val.kind a0) : Int) != (Val.kind a1)) = false, (((Val.n a0) : Int) != (Val.n a1)) = false, (((Val.step a0) : Int) != (Val.step a1)) = false, (!(((Val.text a0) : Str) == (Val.text a1))) = false, AbC 29 (xCi (Val.list a0) (Val.list a1)) (xBm r1), (!r1) = true] := by kernel_rfl
theorem p8_e_5 (a0 a1 : Val) (r1 r2 : Bool) : rE I8 (xAg a0 a1) [F, F, F, F, F, Y] [xBm r1, xBw r2] = dn (xAd false) [(((Val.kind a0) : Int) != (Val.kind a1)) = false, (((Val.n a0) : Int) != (Val.n a1)) = false, (((Val.step a0) : Int) != (Val.step a1)) = false, (!(((Val.text a0) : Str) == (Val.text a1))) = false, AbC 29 (xCi (Val.list a0) (Val.list a1)) (xBm r1), (!r1) = false, AbC 30 (xCR (Val.columns a0) (Val.columns a1)) (xBw r2), (!r2) = true] := by kernel_rfl
theorem p8_e_6 (a0 a1 : Val) (r1 r2 r3 : Bool) : rE I8 (xAg a0 a1) [F, F, F, F, F, F, Y] [xBm r1, xBw r2, xCx r3] = dn (xAd false) [(((Val.kind a0) : Int) != (Val.kind a1)) = false, (((Val.n a0) : Int) != (Val.n a1)) = false, (((Val.step a0) : Int) != (Val.step a1)) = false, (!(((Val.text a0) : Str) == (Val.text a1))) = false, AbC 29 (xCi (Val.list a0) (Val.list a1)) (xBm r1), (!r1) = false, AbC 30 (xCR (Val.columns a0) (Val.columns a1)) (xBw r2), (!r2) = false, AbC 31 (xEB (Val.rows a0) (Val.rows a1)) (xCx r3), (!r3) = true] := by kernel_rfl
theorem p8_e_7 (a0 a1 : Val) (r1 r2 r3 : Bool) : rE I8 (xAg a0 a1) [F, F, F, F, F, F, F] [xBm r1, xBw r2, xCx r3] = dn (xAd true) [(((Val.kind a0) : Int) != (Val.kind a1)) = false, (((Val.n a0) : Int) != (Val.n a1)) = false, (((Val.step a0) : Int) != (Val.step a1)) = false, (!(((Val.text a0) : Str) == (Val.text a1))) = false, AbC 29 (xCi (Val.list a0) (Val.list a1)) (xBm r1), (!r1) = false, AbC 30 (xCR (Val.columns a0) (Val.columns a1)) (xBw r2), (!r2) = false, AbC 31 (xEB (Val.rows a0) (Val.rows a1)) (xCx r3), (!r3) = false] := by kernel_rfl
theorem c8_e {N : Nat} {q0 : Val → Val → Option (Bool)} (g0 : G8 q0) {q1 : (List Val) → (List Val) → Option (Bool)} (g1 : G29 q1) : ∀ a0 a1 r, xEg N q0 q1 a0 a1 = some r → RE Try.f8 I8 (xAg a0 a1) (xAd r) := fun a0 a1 r h =>
 cE h (fun h0 h => dE h fk8 (p8_e_0 a0 a1) (oc h0 on)) fun h0 h =>
 cE h (fun h1 h => dE h fk8 (p8_e_1 a0 a1) (oc h0 (oc h1 on))) fun h1 h =>
 cE h (fun h2 h => dE h fk8 (p8_e_2 a0 a1) (oc h0 (oc h1 (oc h2 on)))) fun h2 h =>
 cE h (fun h3 h => dE h fk8 (p8_e_3 a0 a1) (oc h0 (oc h1 (oc h2 (oc h3 on))))) fun h3 h =>
 bE h fun r1 h4 h => cE h (fun h5 h => dE h fk8 (p8_e_4 a0 a1 r1) (oc h0 (oc h1 (oc h2 (oc h3 (oc (g1 _ _ _ h4) (oc h5 on))))))) fun h5 h =>
 bE h fun r2 h6 h => cE h (fun h7 h => dE h fk8 (p8_e_5 a0 a1 r1 r2) (oc h0 (oc h1 (oc h2 (oc h3 (oc (g1 _ _ _ h4) (oc h5 (oc (xFW h6) (oc h7 on))))))))) fun h7 h =>
 bE h fun r3 h8 h => cE h (fun h9 h => dE h fk8 (p8_e_6 a0 a1 r1 r2 r3) (oc h0 (oc h1 (oc h2 (oc h3 (oc (g1 _ _ _ h4) (oc h5 (oc (xFW h6) (oc h7 (oc (xHY h8) (oc h9 on))))))))))) fun h9 h =>
 dE h fk8 (p8_e_7 a0 a1 r1 r2 r3) (oc h0 (oc h1 (oc h2 (oc h3 (oc (g1 _ _ _ h4) (oc h5 (oc (xFW h6) (oc h7 (oc (xHY h8) (oc h9 on))))))))))
theorem xHQ {N : Nat} {q0 : Val → Val → Option (Bool)} (g0 : G8 q0) {q1 : (List Val) → (List Val) → Option (Bool)} (g1 : G29 q1) {a0 : Val} {a1 : Val} {r : Bool} (h : xEg N q0 q1 a0 a1 = some r) : AbC 8 (xAg a0 a1) (xAd r) :=
 AbsCalls.of_reach fk8 rfl rfl (Nat.le_of_ble_eq_true rfl) (c8_e g0 g1 a0 a1 r h)
noncomputable def I29 : Info := { body := (Try.f29.body).getD .skip, nt := 27, results := [.tmp 4], keep := [0, 2, 8, 10, 20, 28, 52], live := [(4, [0, 2, 10])], modes := [] }
theorem fk29 : FnOk Try.prog 29 Try.f29 I29 := ⟨Try.func29, by kernel_rfl, by kernel_rfl, by kernel_rfl, by kernel_rfl⟩
def S29_4 (x0 x1 : List Val) (x5 : Int) : St := [(0, .v false [.sl .ro .val x0]), (2, .v false [.sl .ro .val x1]), (10, .v false [.int .i64 x5])]
theorem p29_4_0 (x0 x1 : List Val) (x5 : Int) (r1 : Bool) : rS 4 I29 (S29_4 x0 x1 x5) [Y, Y] [xAd r1] = dn (xBm false) [(decide ((x5 : Int) < (Ln x0 : Int))) = true, (0 : Int) ≤ x5 ∧ x5 < (Ln x0), (0 : Int) ≤ x5 ∧ x5 < (Ln x1), AbC 8 (xAg (gD x0 (tN x5) vd) (gD x1 (tN x5) vd)) (xAd r1), (!r1) = true] := by kernel_rfl
theorem p29_4_1 (x0 x1 : List Val) (x5 : Int) (r1 : Bool) : rS 4 I29 (S29_4 x0 x1 x5) [Y, F] [xAd r1] = st 4 I29 (S29_4 x0 x1 (W (x5 + 1))) [(decide ((x5 : Int) < (Ln x0 : Int))) = true, (0 : Int) ≤ x5 ∧ x5 < (Ln x0), (0 : Int) ≤ x5 ∧ x5 < (Ln x1), AbC 8 (xAg (gD x0 (tN x5) vd) (gD x1 (tN x5) vd)) (xAd r1), (!r1) = false] := by kernel_rfl
theorem p29_4_2 (x0 x1 : List Val) (x5 : Int) : rS 4 I29 (S29_4 x0 x1 x5) [F] [] = dn (xBm true) [(decide ((x5 : Int) < (Ln x0 : Int))) = false] := by kernel_rfl
theorem p29_e_3 (a0 a1 : List Val) : rE I29 (xCi a0 a1) [Y] [] = dn (xBm false) [(((Ln a0 : Int) : Int) != (Ln a1 : Int)) = true] := by kernel_rfl
theorem p29_e_4 (a0 a1 : List Val) : rE I29 (xCi a0 a1) [F] [] = st 4 I29 (S29_4 a0 a1 0) [(((Ln a0 : Int) : Int) != (Ln a1 : Int)) = false] := by kernel_rfl
theorem c29_4 {N : Nat} {q0 : Val → Val → Option (Bool)} (g0 : G8 q0) {q1 : (List Val) → (List Val) → Option (Bool)} (g1 : G29 q1) : ∀ n x0 x1 x5 r, xDP N q0 q1 n x0 x1 x5 = some r → RS Try.f29 I29 4 (S29_4 x0 x1 x5) (xBm r) := by
 intro n
 induction n with
 | zero => exact fun _ _ _ _ h => nE h
 | succ n ih =>
  exact fun x0 x1 x5 r h =>
   cE h (fun h0 h => iE h fun h1 h => iE h fun h2 h => bE h fun r1 h3 h => cE h (fun h4 h => dS h fk29 (p29_4_0 x0 x1 x5 r1) (oc h0 (oc h1 (oc h2 (oc (g0 _ _ _ h3) (oc h4 on)))))) fun h4 h =>
   tS fk29 (p29_4_1 x0 x1 x5 r1) (oc h0 (oc h1 (oc h2 (oc (g0 _ _ _ h3) (oc h4 on))))) (ih _ _ _ _ h)) fun h0 h =>
   dS h fk29 (p29_4_2 x0 x1 x5) (oc h0 on)
theorem c29_e {N : Nat} {q0 : Val → Val → Option (Bool)} (g0 : G8 q0) {q1 : (List Val) → (List Val) → Option (Bool)} (g1 : G29 q1) : ∀ a0 a1 r, xD0 N q0 q1 a0 a1 = some r → RE Try.f29 I29 (xCi a0 a1) (xBm r) := fun a0 a1 r h =>
 cE h (fun h0 h => dE h fk29 (p29_e_3 a0 a1) (oc h0 on)) fun h0 h =>
 tE fk29 (p29_e_4 a0 a1) (oc h0 on) (c29_4 g0 g1 _ _ _ _ _ h)
theorem xHA {N : Nat} {q0 : Val → Val → Option (Bool)} (g0 : G8 q0) {q1 : (List Val) → (List Val) → Option (Bool)} (g1 : G29 q1) {a0 : List Val} {a1 : List Val} {r : Bool} (h : xD0 N q0 q1 a0 a1 = some r) : AbC 29 (xCi a0 a1) (xBm r) :=
 AbsCalls.of_reach fk29 rfl rfl (Nat.le_of_ble_eq_true rfl) (c29_e g0 g1 a0 a1 r h)
theorem xH7 {N : Nat} : ∀ d, G8 (xBi N d).c_laws_eqValue ∧ G29 (xBi N d).c_laws_eqValueS := by
 intro d
 induction d with
 | zero => exact ⟨fun _ _ _ h => nE h, fun _ _ _ h => nE h⟩
 | succ d ih =>
  obtain ⟨ih0, ih1⟩ := ih
  exact ⟨fun _ _ _ h => xHQ (N := N) ih0 ih1 h, fun _ _ _ h => xHA (N := N) ih0 ih1 h⟩
theorem xAh {N : Nat} {a0 : Val} {a1 : Val} {r : Bool} (h : xBD N a0 a1 = some r) : AbC 8 (xAg a0 a1) (xAd r) := (xH7 N).1 _ _ r h
noncomputable def I54 : Info := { body := (Try.f54.body).getD .skip, nt := 20, results := [.tmp 2], keep := [0, 4, 6, 10, 14], live := [(4, [0, 6])], modes := [] }
theorem fk54 : FnOk Try.prog 54 Try.f54 I54 := ⟨Try.func54, by kernel_rfl, by kernel_rfl, by kernel_rfl, by kernel_rfl⟩
def S54_4 (x0 : Int) (x3 : Str) : St := [(0, .v false [.int .i64 x0]), (6, .v false [.str x3])]
theorem p54_4_0 (x0 : Int) (x3 : Str) : rS 4 I54 (S54_4 x0 x3) [Y] [] = st 4 I54 (S54_4 (W (Int.tdiv x0 10)) ((List.map (fun n => UInt8.ofNat (tN n)) [(IntKind.u8.wrap ((W (48 + (Int.tmod x0 10)))))]) ++ x3)) [(decide ((x0 : Int) > 0)) = true, 10 ≠ (0 : Int), Ln (List.map (fun n => UInt8.ofNat (tN n)) [(IntKind.u8.wrap ((W (48 + (Int.tmod x0 10)))))]) + Ln x3 ≤ Lim, 10 ≠ (0 : Int)] := by kernel_rfl
theorem p54_4_1 (x0 : Int) (x3 : Str) : rS 4 I54 (S54_4 x0 x3) [F] [] = dn (xAT ([109] ++ x3)) [(decide ((x0 : Int) > 0)) = false, Ln [109] + Ln x3 ≤ Lim] := by kernel_rfl
theorem p54_e_2 (a0 : Int) : rE I54 (xBx a0) [Y] [] = dn (xAT [109, 48]) [(decide ((a0 : Int) ≤ 0)) = true] := by kernel_rfl
theorem p54_e_3 (a0 : Int) : rE I54 (xBx a0) [F] [] = st 4 I54 (S54_4 a0 []) [(decide ((a0 : Int) ≤ 0)) = false] := by kernel_rfl
theorem c54_4 {N : Nat} : ∀ n x0 x3 r, xDW N n x0 x3 = some r → RS Try.f54 I54 4 (S54_4 x0 x3) (xAT r) := by
 intro n
 induction n with
 | zero => exact fun _ _ _ h => nE h
 | succ n ih =>
  exact fun x0 x3 r h =>
   cE h (fun h0 h => iE h fun h2 h => tS fk54 (p54_4_0 x0 x3) (oc h0 (oc (by decide) (oc h2 (oc (by decide) on)))) (ih _ _ _ h)) fun h0 h =>
   iE h fun h1 h => dS h fk54 (p54_4_1 x0 x3) (oc h0 (oc h1 on))
theorem c54_e {N : Nat} : ∀ a0 r, xDm N a0 = some r → RE Try.f54 I54 (xBx a0) (xAT r) := fun a0 r h =>
 cE h (fun h0 h => dE h fk54 (p54_e_2 a0) (oc h0 on)) fun h0 h =>
 tE fk54 (p54_e_3 a0) (oc h0 on) (c54_4 _ _ _ _ h)
theorem xCj {N : Nat} {a0 : Int} {r : Str} (h : xDm N  a0 = some r) : AbC 54 (xBx a0) (xAT r) :=
 AbsCalls.of_reach fk54 rfl rfl (Nat.le_of_ble_eq_true rfl) (c54_e a0 r h)
noncomputable def xHI : Info := { body := (Try.f33.body).getD .skip, nt := 20, results := [.tmp 4], keep := [0, 2, 8, 10, 18], live := [(2, [0, 2, 10])], modes := [] }
theorem fk1000033 : FnOk Try.prog 33 Try.f33 xHI := ⟨Try.func33, by kernel_rfl, by kernel_rfl, by kernel_rfl, by kernel_rfl⟩
def S1000033_2 (x1 x5 : Int) : St := [(0, .v false [.sl .ro .str []]), (2, .v false [.int .i64 x1]), (10, .v false [.int .i64 x5])]
theorem p1000033_2_0 (x1 x5 : Int) : rS 2 xHI (S1000033_2 x1 x5) [F] [] = dn (xCu x1) [(decide ((x5 : Int) < (0 : Int))) = false] := by kernel_rfl
theorem p1000033_e_1 (a0 : List Str) (a1 : Int) : rE xHI (xD1 a0 a1) [] [] = st 2 xHI (S1000033_2 a1 0) [] := by kernel_rfl
theorem c1000033_2 {N : Nat} : ∀ n x1 x5 r, xEQ N n x1 x5 = some r → RS Try.f33 xHI 2 (S1000033_2 x1 x5) (xCu r) := by
 intro n
 induction n with
 | zero => exact fun _ _ _ h => nE h
 | succ n ih =>
  exact fun x1 x5 r h =>
   cE h (fun h0 h => bE h fun r1 h1 h => iE h fun h2 h => nE h) fun h0 h =>
   dS h fk1000033 (p1000033_2_0 x1 x5) (oc h0 on)
theorem c1000033_e {N : Nat} : ∀ a0 a1 r, xEK N a0 a1 = some r → RE Try.f33 xHI (xD1 a0 a1) (xCu r) := fun a0 a1 r h =>
 tE fk1000033 (p1000033_e_1 a0 a1) on (c1000033_2 _ _ _ _ h)
theorem xHB {N : Nat} {a0 : List Str} {a1 : Int} {r : Int} (h : xEK N  a0 a1 = some r) : AbC 33 (xD1 a0 a1) (xCu r) :=
 AbsCalls.of_reach fk1000033 rfl rfl (Nat.le_of_ble_eq_true rfl) (c1000033_e a0 a1 r h)
noncomputable def I33 : Info := { body := (Try.f33.body).getD .skip, nt := 20, results := [.tmp 4], keep := [0, 2, 8, 10, 18], live := [(2, [0, 2, 10])], modes := [(4, [(0, .ref, false)])], lnt := [(0, 0)] }
theorem fk33 : FnOk Try.prog 33 Try.f33 I33 := ⟨Try.func33, by kernel_rfl, by kernel_rfl, by kernel_rfl, by kernel_rfl⟩
def S33_2 (x0 : List Str) (x1 x5 : Int) : St := [(0, .v false [.sl (.lnt 0) .str x0]), (2, .v false [.int .i64 x1]), (10, .v false [.int .i64 x5])]
theorem p33_2_0 (x0 : List Str) (x1 x5 : Int) (r1 : Str) : rS 2 I33 (S33_2 x0 x1 x5) [Y] [xAT r1] = st 2 I33 (S33_2 (List.set x0 (tN x5) r1) (W (x1 + 1)) (W (x5 + 1))) [(decide ((x5 : Int) < (Ln x0 : Int))) = true, AbC 54 (xBx x1) (xAT r1), (0 : Int) ≤ x5 ∧ x5 < (Ln x0)] := by kernel_rfl
theorem p33_2_1 (x0 : List Str) (x1 x5 : Int) : rS 2 I33 (S33_2 x0 x1 x5) [F] [] = dn (xB0 (x1, x0)) [(decide ((x5 : Int) < (Ln x0 : Int))) = false] := by kernel_rfl
theorem p33_e_2 (a0 : List Str) (a1 : Int) : rE I33 (xDG a0 a1) [] [] = st 2 I33 (S33_2 a0 a1 0) [] := by kernel_rfl
theorem c33_2 {N : Nat} : ∀ n x0 x1 x5 r, xCX N n x0 x1 x5 = some r → RS Try.f33 I33 2 (S33_2 x0 x1 x5) (xB0 r) := by
 intro n
 induction n with
 | zero => exact fun _ _ _ _ h => nE h
 | succ n ih =>
  exact fun x0 x1 x5 r h =>
   cE h (fun h0 h => bE h fun r1 h1 h => iE h fun h2 h => tS fk33 (p33_2_0 x0 x1 x5 r1) (oc h0 (oc (xCj h1) (oc h2 on))) (ih _ _ _ _ h)) fun h0 h =>
   dS h fk33 (p33_2_1 x0 x1 x5) (oc h0 on)
theorem c33_e {N : Nat} : ∀ a0 a1 r, xEv N a0 a1 = some r → RE Try.f33 I33 (xDG a0 a1) (xB0 r) := fun a0 a1 r h =>
 tE fk33 (p33_e_2 a0 a1) on (c33_2 _ _ _ _ _ h)
theorem xGD {N : Nat} {a0 : List Str} {a1 : Int} {r : Int × (List Str)} (h : xEv N  a0 a1 = some r) : AbC 33 (xDG a0 a1) (xB0 r) :=
 AbsCalls.of_reach fk33 rfl rfl (Nat.le_of_ble_eq_true rfl) (c33_e a0 a1 r h)
noncomputable def I55 : Info := { body := (Try.f55.body).getD .skip, nt := 19, results := [.tmp 4], keep := [0, 2, 8, 10, 18], live := [(2, [0, 2, 10])], modes := [(4, [(0, .ref, false)])], lnt := [(0, 0)] }
theorem fk55 : FnOk Try.prog 55 Try.f55 I55 := ⟨Try.func55, by kernel_rfl, by kernel_rfl, by kernel_rfl, by kernel_rfl⟩
def S55_2 (x0 : List Int) (x1 x5 : Int) : St := [(0, .v false [.sl (.lnt 0) .int x0]), (2, .v false [.int .i64 x1]), (10, .v false [.int .i64 x5])]
theorem p55_2_0 (x0 : List Int) (x1 x5 : Int) : rS 2 I55 (S55_2 x0 x1 x5) [Y] [] = st 2 I55 (S55_2 (List.set x0 (tN x5) x1) (W (x1 + 1)) (W (x5 + 1))) [(decide ((x5 : Int) < (Ln x0 : Int))) = true, (0 : Int) ≤ x5 ∧ x5 < (Ln x0)] := by kernel_rfl
theorem p55_2_1 (x0 : List Int) (x1 x5 : Int) : rS 2 I55 (S55_2 x0 x1 x5) [F] [] = dn (xDU (x1, x0)) [(decide ((x5 : Int) < (Ln x0 : Int))) = false] := by kernel_rfl
theorem p55_e_2 (a0 : List Int) (a1 : Int) : rE I55 (xFn a0 a1) [] [] = st 2 I55 (S55_2 a0 a1 0) [] := by kernel_rfl
theorem c55_2 {N : Nat} : ∀ n x0 x1 x5 r, xDT N n x0 x1 x5 = some r → RS Try.f55 I55 2 (S55_2 x0 x1 x5) (xDU r) := by
 intro n
 induction n with
 | zero => exact fun _ _ _ _ h => nE h
 | succ n ih =>
  exact fun x0 x1 x5 r h =>
   cE h (fun h0 h => iE h fun h1 h => tS fk55 (p55_2_0 x0 x1 x5) (oc h0 (oc h1 on)) (ih _ _ _ _ h)) fun h0 h =>
   dS h fk55 (p55_2_1 x0 x1 x5) (oc h0 on)
theorem c55_e {N : Nat} : ∀ a0 a1 r, xGq N a0 a1 = some r → RE Try.f55 I55 (xFn a0 a1) (xDU r) := fun a0 a1 r h =>
 tE fk55 (p55_e_2 a0 a1) on (c55_2 _ _ _ _ _ h)
theorem laws_markIntS_ok {N : Nat} {a0 : List Int} {a1 : Int} {r : Int × (List Int)} (h : xGq N  a0 a1 = some r) : AbC 55 (xFn a0 a1) (xDU r) :=
 AbsCalls.of_reach fk55 rfl rfl (Nat.le_of_ble_eq_true rfl) (c55_e a0 a1 r h)
noncomputable def xHJ : Info := { body := (Try.f34.body).getD .skip, nt := 27, results := [.tmp 4], keep := [0, 2, 8, 10, 18], live := [(2, [0, 2, 10])], modes := [] }
theorem fk1000034 : FnOk Try.prog 34 Try.f34 xHJ := ⟨Try.func34, by kernel_rfl, by kernel_rfl, by kernel_rfl, by kernel_rfl⟩
def S1000034_2 (x1 x5 : Int) : St := [(0, .v false [.sl .ro .row []]), (2, .v false [.int .i64 x1]), (10, .v false [.int .i64 x5])]
theorem p1000034_2_0 (x1 x5 : Int) : rS 2 xHJ (S1000034_2 x1 x5) [F] [] = dn (xC6 x1) [(decide ((x5 : Int) < (0 : Int))) = false] := by kernel_rfl
theorem p1000034_e_1 (a0 : List Rowd) (a1 : Int) : rE xHJ (xEJ a0 a1) [] [] = st 2 xHJ (S1000034_2 a1 0) [] := by kernel_rfl
theorem c1000034_2 {N : Nat} : ∀ n x1 x5 r, xFI N n x1 x5 = some r → RS Try.f34 xHJ 2 (S1000034_2 x1 x5) (xC6 r) := by
 intro n
 induction n with
 | zero => exact fun _ _ _ h => nE h
 | succ n ih =>
  exact fun x1 x5 r h =>
   cE h (fun h0 h => iE h fun h1 h => nE h) fun h0 h =>
   dS h fk1000034 (p1000034_2_0 x1 x5) (oc h0 on)
theorem c1000034_e {N : Nat} : ∀ a0 a1 r, xFH N a0 a1 = some r → RE Try.f34 xHJ (xEJ a0 a1) (xC6 r) := fun a0 a1 r h =>
 tE fk1000034 (p1000034_e_1 a0 a1) on (c1000034_2 _ _ _ _ h)
theorem laws_markRowS_E_ok {N : Nat} {a0 : List Rowd} {a1 : Int} {r : Int} (h : xFH N  a0 a1 = some r) : AbC 34 (xEJ a0 a1) (xC6 r) :=
 AbsCalls.of_reach fk1000034 rfl rfl (Nat.le_of_ble_eq_true rfl) (c1000034_e a0 a1 r h)
noncomputable def I1000009 : Info := { body := (Try.f9.body).getD .skip, nt := 18, results := [.tmp 4], keep := [0, 2, 4, 8, 5], live := [], modes := [] }
theorem fk1000009 : FnOk Try.prog 9 Try.f9 I1000009 := ⟨Try.func9, by kernel_rfl, by kernel_rfl, by kernel_rfl, by kernel_rfl⟩
theorem p1000009_e_0 (a0 : Val) (a1 r1 r2 r3 : Int) : rE I1000009 (xBg a0 a1) [] [xCI r1, xCu r2, xC6 r3] = dn (xAO r3) [AbC 32 (xEd [] a1) (xCI r1), AbC 33 (xD1 [] r1) (xCu r2), AbC 34 (xEJ [] r2) (xC6 r3)] := by kernel_rfl
theorem c1000009_e {N : Nat} : ∀ a0 a1 r, xEw N a0 a1 = some r → RE Try.f9 I1000009 (xBg a0 a1) (xAO r) := fun a0 a1 r h =>
 bE h fun r1 h0 h => bE h fun r2 h1 h => bE h fun r3 h2 h => dE h fk1000009 (p1000009_e_0 a0 a1 r1 r2 r3) (oc (xHR h0) (oc (xHB h1) (oc (laws_markRowS_E_ok h2) on)))
theorem xBC {N : Nat} {a0 : Val} {a1 : Int} {r : Int} (h : xEw N  a0 a1 = some r) : AbC 9 (xBg a0 a1) (xAO r) :=
 AbsCalls.of_reach fk1000009 rfl rfl (Nat.le_of_ble_eq_true rfl) (c1000009_e a0 a1 r h)
noncomputable def I56 : Info := { body := (Try.f56.body).getD .skip, nt := 27, results := [.tmp 4], keep := [0, 2, 8, 10, 18], live := [(2, [0, 2, 10])], modes := [(4, [(0, .ref, false)]), (6, [(0, .ref, false)])], lnt := [(0, 0)] }
theorem fk56 : FnOk Try.prog 56 Try.f56 I56 := ⟨Try.func56, by kernel_rfl, by kernel_rfl, by kernel_rfl, by kernel_rfl⟩
def S56_2 (x0 : List Org) (x1 x5 : Int) : St := [(0, .v false [.sl (.lnt 0) .org x0]), (2, .v false [.int .i64 x1]), (10, .v false [.int .i64 x5])]
theorem p56_2_0 (x0 : List Org) (x1 x5 : Int) : rS 2 I56 (S56_2 x0 x1 x5) [Y] [] = st 2 I56 (S56_2 ((fun (z1 : List Org) => List.set z1 (tN x5) (Org.mk (Org.cell (gD z1 (tN x5) Ty.org.dflt)) (W (x1 + 1)))) (List.set x0 (tN x5) (Org.mk x1 (Org.row (gD x0 (tN x5) Ty.org.dflt))))) (W ((W (x1 + 1)) + 1)) (W (x5 + 1))) [(decide ((x5 : Int) < (Ln x0 : Int))) = true, (0 : Int) ≤ x5 ∧ x5 < (Ln x0), (0 : Int) ≤ x5 ∧ x5 < (Ln (List.set x0 (tN x5) (Org.mk x1 (Org.row (gD x0 (tN x5) Ty.org.dflt)))))] := by kernel_rfl
theorem p56_2_1 (x0 : List Org) (x1 x5 : Int) : rS 2 I56 (S56_2 x0 x1 x5) [F] [] = dn (xCW (x1, x0)) [(decide ((x5 : Int) < (Ln x0 : Int))) = false] := by kernel_rfl
theorem p56_e_2 (a0 : List Org) (a1 : Int) : rE I56 (xEp a0 a1) [] [] = st 2 I56 (S56_2 a0 a1 0) [] := by kernel_rfl
theorem c56_2 {N : Nat} : ∀ n x0 x1 x5 r, xCV N n x0 x1 x5 = some r → RS Try.f56 I56 2 (S56_2 x0 x1 x5) (xCW r) := by
 intro n
 induction n with
 | zero => exact fun _ _ _ _ h => nE h
 | succ n ih =>
  exact fun x0 x1 x5 r h =>
   cE h (fun h0 h => iE h fun h1 h => iE h fun h2 h => tS fk56 (p56_2_0 x0 x1 x5) (oc h0 (oc h1 (oc h2 on))) (ih _ _ _ _ h)) fun h0 h =>
   dS h fk56 (p56_2_1 x0 x1 x5) (oc h0 on)
theorem c56_e {N : Nat} : ∀ a0 a1 r, xFo N a0 a1 = some r → RE Try.f56 I56 (xEp a0 a1) (xCW r) := fun a0 a1 r h =>
 tE fk56 (p56_e_2 a0 a1) on (c56_2 _ _ _ _ _ h)
theorem xH8 {N : Nat} {a0 : List Org} {a1 : Int} {r : Int × (List Org)} (h : xFo N  a0 a1 = some r) : AbC 56 (xEp a0 a1) (xCW r) :=
 AbsCalls.of_reach fk56 rfl rfl (Nat.le_of_ble_eq_true rfl) (c56_e a0 a1 r h)
noncomputable def I34 : Info := { body := (Try.f34.body).getD .skip, nt := 27, results := [.tmp 4], keep := [0, 2, 8, 10, 18], live := [(2, [0, 2, 10])], modes := [(4, [(0, .ref, false), (4, .ref, false), (6, .ref, false)]), (5, [(0, .ref, false), (4, .ref, false), (6, .ref, false)])], lnt := [(0, 0)] }
theorem fk34 : FnOk Try.prog 34 Try.f34 I34 := ⟨Try.func34, by kernel_rfl, by kernel_rfl, by kernel_rfl, by kernel_rfl⟩
def S34_2 (x0 : List Rowd) (x1 x5 : Int) : St := [(0, .v false [.sl (.lnt 0) .row x0]), (2, .v false [.int .i64 x1]), (10, .v false [.int .i64 x5])]
theorem p34_2_0 (x0 : List Rowd) (x1 x5 : Int) (r1 : Int × (List Int)) (r2 : Int × (List Org)) : rS 2 I34 (S34_2 x0 x1 x5) [Y] [xDU r1, xCW r2] = st 2 I34 (S34_2 ((fun (z1 : List Rowd) => List.set z1 (tN x5) (Rowd.mk (Rowd.cells (gD z1 (tN x5) rd)) r2.2)) (List.set x0 (tN x5) (Rowd.mk r1.2 (Rowd.frm (gD x0 (tN x5) rd))))) r2.1 (W (x5 + 1))) [(decide ((x5 : Int) < (Ln x0 : Int))) = true, (0 : Int) ≤ x5 ∧ x5 < (Ln x0), AbC 55 (xFn (Rowd.cells (gD x0 (tN x5) rd)) x1) (xDU r1), (tN x5) = (tN x5), Ln r1.2 = Ln (Rowd.cells (gD x0 (tN x5) rd)), (0 : Int) ≤ x5 ∧ x5 < (Ln (List.set x0 (tN x5) (Rowd.mk r1.2 (Rowd.frm (gD x0 (tN x5) rd))))), AbC 56 (xEp (Rowd.frm (gD (List.set x0 (tN x5) (Rowd.mk r1.2 (Rowd.frm (gD x0 (tN x5) rd)))) (tN x5) rd)) r1.1) (xCW r2), (tN x5) = (tN x5), Ln r2.2 = Ln (Rowd.frm (gD (List.set x0 (tN x5) (Rowd.mk r1.2 (Rowd.frm (gD x0 (tN x5) rd)))) (tN x5) rd))] := by kernel_rfl
theorem p34_2_1 (x0 : List Rowd) (x1 x5 : Int) : rS 2 I34 (S34_2 x0 x1 x5) [F] [] = dn (xCL (x1, x0)) [(decide ((x5 : Int) < (Ln x0 : Int))) = false] := by kernel_rfl
theorem p34_e_2 (a0 : List Rowd) (a1 : Int) : rE I34 (xEu a0 a1) [] [] = st 2 I34 (S34_2 a0 a1 0) [] := by kernel_rfl
theorem c34_2 {N : Nat} : ∀ n x0 x1 x5 r, xDV N n x0 x1 x5 = some r → RS Try.f34 I34 2 (S34_2 x0 x1 x5) (xCL r) := by
 intro n
 induction n with
 | zero => exact fun _ _ _ _ h => nE h
 | succ n ih =>
  exact fun x0 x1 x5 r h =>
   cE h (fun h0 h => iE h fun h1 h => bE h fun r1 h2 h => iE h fun h4 h => iE h fun h5 h => bE h fun r2 h6 h => iE h fun h8 h => tS fk34 (p34_2_0 x0 x1 x5 r1 r2) (oc h0 (oc h1 (oc (laws_markIntS_ok h2) (oc rfl (oc h4 (oc h5 (oc (xH8 h6) (oc rfl (oc h8 on))))))))) (ih _ _ _ _ h)) fun h0 h =>
   dS h fk34 (p34_2_1 x0 x1 x5) (oc h0 on)
theorem c34_e {N : Nat} : ∀ a0 a1 r, xFG N a0 a1 = some r → RE Try.f34 I34 (xEu a0 a1) (xCL r) := fun a0 a1 r h =>
 tE fk34 (p34_e_2 a0 a1) on (c34_2 _ _ _ _ _ h)
theorem xHo {N : Nat} {a0 : List Rowd} {a1 : Int} {r : Int × (List Rowd)} (h : xFG N  a0 a1 = some r) : AbC 34 (xEu a0 a1) (xCL r) :=
 AbsCalls.of_reach fk34 rfl rfl (Nat.le_of_ble_eq_true rfl) (c34_e a0 a1 r h)
def G32 (q : (List Val) → Int → Option (Int × (List Val))) : Prop := ∀ a0 a1 r, q a0 a1 = some r → AbC 32 (xCF a0 a1) (xBL r)
noncomputable def I32 : Info := { body := (Try.f32.body).getD .skip, nt := 63, results := [.tmp 4], keep := [0, 2, 8, 10, 18], live := [(2, [0, 2, 10])], modes := [(4, [(0, .ref, false)]), (6, [(0, .ref, false)]), (8, [(0, .ref, false)]), (10, [(0, .ref, false)]), (12, [(0, .ref, false), (4, .ref, false), (6, .ref, false)]), (13, [(0, .ref, false), (4, .ref, false), (6, .ref, false)]), (14, [(0, .ref, false), (4, .ref, false), (6, .ref, false)])], lnt := [(0, 0)] }
theorem fk32 : FnOk Try.prog 32 Try.f32 I32 := ⟨Try.func32, by kernel_rfl, by kernel_rfl, by kernel_rfl, by kernel_rfl⟩
def S32_2 (x0 : List Val) (x1 x5 : Int) : St := [(0, .v false [.sl (.lnt 0) .val x0]), (2, .v false [.int .i64 x1]), (10, .v false [.int .i64 x5])]
theorem p32_2_0 (x0 : List Val) (x1 x5 : Int) (r1 : Str) (r2 : Int × (List Val)) (r3 : Int × (List Str)) (r4 : Int × (List Rowd)) : rS 2 I32 (S32_2 x0 x1 x5) [Y] [xAT r1, xBL r2, xB0 r3, xCL r4] = st 2 I32 (S32_2 ((fun (z45 : List Val) => List.set z45 (tN x5) (Val.mk (Val.kind (gD z45 (tN x5) vd)) (Val.n (gD z45 (tN x5) vd)) (Val.step (gD z45 (tN x5) vd)) (Val.text (gD z45 (tN x5) vd)) (Val.list (gD z45 (tN x5) vd)) (Val.columns (gD z45 (tN x5) vd)) r4.2)) ((fun (z44 : List Val) => List.set z44 (tN x5) (Val.mk (Val.kind (gD z44 (tN x5) vd)) (Val.n (gD z44 (tN x5) vd)) (Val.step (gD z44 (tN x5) vd)) (Val.text (gD z44 (tN x5) vd)) (Val.list (gD z44 (tN x5) vd)) r3.2 (Val.rows (gD z44 (tN x5) vd)))) ((fun (z43 : List Val) => List.set z43 (tN x5) (Val.mk (Val.kind (gD z43 (tN x5) vd)) (Val.n (gD z43 (tN x5) vd)) (Val.step (gD z43 (tN x5) vd)) (Val.text (gD z43 (tN x5) vd)) r2.2 (Val.columns (gD z43 (tN x5) vd)) (Val.rows (gD z43 (tN x5) vd)))) ((fun (z42 : List Val) => List.set z42 (tN x5) (Val.mk (Val.kind (gD z42 (tN x5) vd)) (Val.n (gD z42 (tN x5) vd)) (Val.step (gD z42 (tN x5) vd)) r1 (Val.list (gD z42 (tN x5) vd)) (Val.columns (gD z42 (tN x5) vd)) (Val.rows (gD z42 (tN x5) vd)))) ((fun (z41 : List Val) => List.set z41 (tN x5) (Val.mk (Val.kind (gD z41 (tN x5) vd)) (Val.n (gD z41 (tN x5) vd)) (W ((W (x1 + 1)) + 1)) (Val.text (gD z41 (tN x5) vd)) (Val.list (gD z41 (tN x5) vd)) (Val.columns (gD z41 (tN x5) vd)) (Val.rows (gD z41 (tN x5) vd)))) ((fun (z40 : List Val) => List.set z40 (tN x5) (Val.mk (Val.kind (gD z40 (tN x5) vd)) (W (x1 + 1)) (Val.step (gD z40 (tN x5) vd)) (Val.text (gD z40 (tN x5) vd)) (Val.list (gD z40 (tN x5) vd)) (Val.columns (gD z40 (tN x5) vd)) (Val.rows (gD z40 (tN x5) vd)))) (List.set x0 (tN x5) (Val.mk x1 (Val.n (gD x0 (tN x5) vd)) (Val.step (gD x0 (tN x5) vd)) (Val.text (gD x0 (tN x5) vd)) (Val.list (gD x0 (tN x5) vd)) (Val.columns (gD x0 (tN x5) vd)) (Val.rows (gD x0 (tN x5) vd)))))))))) r4.1 (W (x5 + 1))) [(decide ((x5 : Int) < (Ln x0 : Int))) = true, (0 : Int) ≤ x5 ∧ x5 < (Ln x0), (0 : Int) ≤ x5 ∧ x5 < (Ln (List.set x0 (tN x5) (Val.mk x1 (Val.n (gD x0 (tN x5) vd)) (Val.step (gD x0 (tN x5) vd)) (Val.text (gD x0 (tN x5) vd)) (Val.list (gD x0 (tN x5) vd)) (Val.columns (gD x0 (tN x5) vd)) (Val.rows (gD x0 (tN x5) vd))))), (0 : Int) ≤ x5 ∧ x5 < (Ln ((fun (z40 : List Val) => List.set z40 (tN x5) (Val.mk (Val.kind (gD z40 (tN x5) vd)) (W (x1 + 1)) (Val.step (gD z40 (tN x5) vd)) (Val.text (gD z40 (tN x5) vd)) (Val.list (gD z40 (tN x5) vd)) (Val.columns (gD z40 (tN x5) vd)) (Val.rows (gD z40 (tN x5) vd)))) (List.set x0 (tN x5) (Val.mk x1 (Val.n (gD x0 (tN x5) vd)) (Val.step (gD x0 (tN x5) vd)) (Val.text (gD x0 (tN x5) vd)) (Val.list (gD x0 (tN x5) vd)) (Val.columns (gD x0 (tN x5) vd)) (Val.rows (gD x0 (tN x5) vd)))))), AbC 54 (xBx (W ((W ((W (x1 + 1)) + 1)) + 1))) (xAT r1), (0 : Int) ≤ x5 ∧ x5 < (Ln ((fun (z41 : List Val) => List.set z41 (tN x5) (Val.mk (Val.kind (gD z41 (tN x5) vd)) (Val.n (gD z41 (tN x5) vd)) (W ((W (x1 + 1)) + 1)) (Val.text (gD z41 (tN x5) vd)) (Val.list (gD z41 (tN x5) vd)) (Val.columns (gD z41 (tN x5) vd)) (Val.rows (gD z41 (tN x5) vd)))) ((fun (z40 : List Val) => List.set z40 (tN x5) (Val.mk (Val.kind (gD z40 (tN x5) vd)) (W (x1 + 1)) (Val.step (gD z40 (tN x5) vd)) (Val.text (gD z40 (tN x5) vd)) (Val.list (gD z40 (tN x5) vd)) (Val.columns (gD z40 (tN x5) vd)) (Val.rows (gD z40 (tN x5) vd)))) (List.set x0 (tN x5) (Val.mk x1 (Val.n (gD x0 (tN x5) vd)) (Val.step (gD x0 (tN x5) vd)) (Val.text (gD x0 (tN x5) vd)) (Val.list (gD x0 (tN x5) vd)) (Val.columns (gD x0 (tN x5) vd)) (Val.rows (gD x0 (tN x5) vd))))))), (0 : Int) ≤ x5 ∧ x5 < (Ln ((fun (z42 : List Val) => List.set z42 (tN x5) (Val.mk (Val.kind (gD z42 (tN x5) vd)) (Val.n (gD z42 (tN x5) vd)) (Val.step (gD z42 (tN x5) vd)) r1 (Val.list (gD z42 (tN x5) vd)) (Val.columns (gD z42 (tN x5) vd)) (Val.rows (gD z42 (tN x5) vd)))) ((fun (z41 : List Val) => List.set z41 (tN x5) (Val.mk (Val.kind (gD z41 (tN x5) vd)) (Val.n (gD z41 (tN x5) vd)) (W ((W (x1 + 1)) + 1)) (Val.text (gD z41 (tN x5) vd)) (Val.list (gD z41 (tN x5) vd)) (Val.columns (gD z41 (tN x5) vd)) (Val.rows (gD z41 (tN x5) vd)))) ((fun (z40 : List Val) => List.set z40 (tN x5) (Val.mk (Val.kind (gD z40 (tN x5) vd)) (W (x1 + 1)) (Val.step (gD z40 (tN x5) vd)) (Val.text (gD z40 (tN x5) vd)) (Val.list (gD z40 (tN x5) vd)) (Val.columns (gD z40 (tN x5) vd)) (Val.rows (gD z40 (tN x5) vd)))) (List.set x0 (tN x5) (Val.mk x1 (Val.n (gD x0 (tN x5) vd)) (Val.step (gD x0 (tN x5) vd)) (Val.text (gD x0 (tN x5) vd)) (Val.list (gD x0 (tN x5) vd)) (Val.columns (gD x0 (tN x5) vd)) (Val.rows (gD x0 (tN x5) vd)))))))), AbC 32 (xCF (Val.list (gD ((fun (z42 : List Val) => List.set z42 (tN x5) (Val.mk (Val.kind (gD z42 (tN x5) vd)) (Val.n (gD z42 (tN x5) vd)) (Val.step (gD z42 (tN x5) vd)) r1 (Val.list (gD z42 (tN x5) vd)) (Val.columns (gD z42 (tN x5) vd)) (Val.rows (gD z42 (tN x5) vd)))) ((fun (z41 : List Val) => List.set z41 (tN x5) (Val.mk (Val.kind (gD z41 (tN x5) vd)) (Val.n (gD z41 (tN x5) vd)) (W ((W (x1 + 1)) + 1)) (Val.text (gD z41 (tN x5) vd)) (Val.list (gD z41 (tN x5) vd)) (Val.columns (gD z41 (tN x5) vd)) (Val.rows (gD z41 (tN x5) vd)))) ((fun (z40 : List Val) => List.set z40 (tN x5) (Val.mk (Val.kind (gD z40 (tN x5) vd)) (W (x1 + 1)) (Val.step (gD z40 (tN x5) vd)) (Val.text (gD z40 (tN x5) vd)) (Val.list (gD z40 (tN x5) vd)) (Val.columns (gD z40 (tN x5) vd)) (Val.rows (gD z40 (tN x5) vd)))) (List.set x0 (tN x5) (Val.mk x1 (Val.n (gD x0 (tN x5) vd)) (Val.step (gD x0 (tN x5) vd)) (Val.text (gD x0 (tN x5) vd)) (Val.list (gD x0 (tN x5) vd)) (Val.columns (gD x0 (tN x5) vd)) (Val.rows (gD x0 (tN x5) vd))))))) (tN x5) vd)) (W ((W ((W ((W (x1 + 1)) + 1)) + 1)) + 1))) (xBL r2), (tN x5) = (tN x5), Ln r2.2 = Ln (Val.list (gD ((fun (z42 : List Val) => List.set z42 (tN x5) (Val.mk (Val.kind (gD z42 (tN x5) vd)) (Val.n (gD z42 (tN x5) vd)) (Val.step (gD z42 (tN x5) vd)) r1 (Val.list (gD z42 (tN x5) vd)) (Val.columns (gD z42 (tN x5) vd)) (Val.rows (gD z42 (tN x5) vd)))) ((fun (z41 : List Val) => List.set z41 (tN x5) (Val.mk (Val.kind (gD z41 (tN x5) vd)) (Val.n (gD z41 (tN x5) vd)) (W ((W (x1 + 1)) + 1)) (Val.text (gD z41 (tN x5) vd)) (Val.list (gD z41 (tN x5) vd)) (Val.columns (gD z41 (tN x5) vd)) (Val.rows (gD z41 (tN x5) vd)))) ((fun (z40 : List Val) => List.set z40 (tN x5) (Val.mk (Val.kind (gD z40 (tN x5) vd)) (W (x1 + 1)) (Val.step (gD z40 (tN x5) vd)) (Val.text (gD z40 (tN x5) vd)) (Val.list (gD z40 (tN x5) vd)) (Val.columns (gD z40 (tN x5) vd)) (Val.rows (gD z40 (tN x5) vd)))) (List.set x0 (tN x5) (Val.mk x1 (Val.n (gD x0 (tN x5) vd)) (Val.step (gD x0 (tN x5) vd)) (Val.text (gD x0 (tN x5) vd)) (Val.list (gD x0 (tN x5) vd)) (Val.columns (gD x0 (tN x5) vd)) (Val.rows (gD x0 (tN x5) vd))))))) (tN x5) vd)), (0 : Int) ≤ x5 ∧ x5 < (Ln ((fun (z43 : List Val) => List.set z43 (tN x5) (Val.mk (Val.kind (gD z43 (tN x5) vd)) (Val.n (gD z43 (tN x5) vd)) (Val.step (gD z43 (tN x5) vd)) (Val.text (gD z43 (tN x5) vd)) r2.2 (Val.columns (gD z43 (tN x5) vd)) (Val.rows (gD z43 (tN x5) vd)))) ((fun (z42 : List Val) => List.set z42 (tN x5) (Val.mk (Val.kind (gD z42 (tN x5) vd)) (Val.n (gD z42 (tN x5) vd)) (Val.step (gD z42 (tN x5) vd)) r1 (Val.list (gD z42 (tN x5) vd)) (Val.columns (gD z42 (tN x5) vd)) (Val.rows (gD z42 (tN x5) vd)))) ((fun (z41 : List Val) => List.set z41 (tN x5) (Val.mk (Val.kind (gD z41 (tN x5) vd)) (Val.n (gD z41 (tN x5) vd)) (W ((W (x1 + 1)) + 1)) (Val.text (gD z41 (tN x5) vd)) (Val.list (gD z41 (tN x5) vd)) (Val.columns (gD z41 (tN x5) vd)) (Val.rows (gD z41 (tN x5) vd)))) ((fun (z40 : List Val) => List.set z40 (tN x5) (Val.mk (Val.kind (gD z40 (tN x5) vd)) (W (x1 + 1)) (Val.step (gD z40 (tN x5) vd)) (Val.text (gD z40 (tN x5) vd)) (Val.list (gD z40 (tN x5) vd)) (Val.columns (gD z40 (tN x5) vd)) (Val.rows (gD z40 (tN x5) vd)))) (List.set x0 (tN x5) (Val.mk x1 (Val.n (gD x0 (tN x5) vd)) (Val.step (gD x0 (tN x5) vd)) (Val.text (gD x0 (tN x5) vd)) (Val.list (gD x0 (tN x5) vd)) (Val.columns (gD x0 (tN x5) vd)) (Val.rows (gD x0 (tN x5) vd))))))))), AbC 33 (xDG (Val.columns (gD ((fun (z43 : List Val) => List.set z43 (tN x5) (Val.mk (Val.kind (gD z43 (tN x5) vd)) (Val.n (gD z43 (tN x5) vd)) (Val.step (gD z43 (tN x5) vd)) (Val.text (gD z43 (tN x5) vd)) r2.2 (Val.columns (gD z43 (tN x5) vd)) (Val.rows (gD z43 (tN x5) vd)))) ((fun (z42 : List Val) => List.set z42 (tN x5) (Val.mk (Val.kind (gD z42 (tN x5) vd)) (Val.n (gD z42 (tN x5) vd)) (Val.step (gD z42 (tN x5) vd)) r1 (Val.list (gD z42 (tN x5) vd)) (Val.columns (gD z42 (tN x5) vd)) (Val.rows (gD z42 (tN x5) vd)))) ((fun (z41 : List Val) => List.set z41 (tN x5) (Val.mk (Val.kind (gD z41 (tN x5) vd)) (Val.n (gD z41 (tN x5) vd)) (W ((W (x1 + 1)) + 1)) (Val.text (gD z41 (tN x5) vd)) (Val.list (gD z41 (tN x5) vd)) (Val.columns (gD z41 (tN x5) vd)) (Val.rows (gD z41 (tN x5) vd)))) ((fun (z40 : List Val) => List.set z40 (tN x5) (Val.mk (Val.kind (gD z40 (tN x5) vd)) (W (x1 + 1)) (Val.step (gD z40 (tN x5) vd)) (Val.text (gD z40 (tN x5) vd)) (Val.list (gD z40 (tN x5) vd)) (Val.columns (gD z40 (tN x5) vd)) (Val.rows (gD z40 (tN x5) vd)))) (List.set x0 (tN x5) (Val.mk x1 (Val.n (gD x0 (tN x5) vd)) (Val.step (gD x0 (tN x5) vd)) (Val.text (gD x0 (tN x5) vd)) (Val.list (gD x0 (tN x5) vd)) (Val.columns (gD x0 (tN x5) vd)) (Val.rows (gD x0 (tN x5) vd)))))))) (tN x5) vd)) r2.1) (xB0 r3), (tN x5) = (tN x5), Ln r3.2 = Ln (Val.columns (gD ((fun (z43 : List Val) => List.set z43 (tN x5) (Val.mk (Val.kind (gD z43 (tN x5) vd)) (Val.n (gD z43 (tN x5) vd)) (Val.step (gD z43 (tN x5) vd)) (Val.text (gD z43 (tN x5) vd)) r2.2 (Val.columns (gD z43 (tN x5) vd)) (Val.rows (gD z43 (tN x5) vd)))) ((fun (z42 : List Val) => List.set z42 (tN x5) (Val.mk (Val.kind (gD z42 (tN x5) vd)) (Val.n (gD z42 (tN x5) vd)) (Val.step (gD z42 (tN x5) vd)) r1 (Val.list (gD z42 (tN x5) vd)) (Val.columns (gD z42 (tN x5) vd)) (Val.rows (gD z42 (tN x5) vd)))) ((fun (z41 : List Val) => List.set z41 (tN x5) (Val.mk (Val.kind (gD z41 (tN x5) vd)) (Val.n (gD z41 (tN x5) vd)) (W ((W (x1 + 1)) + 1)) (Val.text (gD z41 (tN x5) vd)) (Val.list (gD z41 (tN x5) vd)) (Val.columns (gD z41 (tN x5) vd)) (Val.rows (gD z41 (tN x5) vd)))) ((fun (z40 : List Val) => List.set z40 (tN x5) (Val.mk (Val.kind (gD z40 (tN x5) vd)) (W (x1 + 1)) (Val.step (gD z40 (tN x5) vd)) (Val.text (gD z40 (tN x5) vd)) (Val.list (gD z40 (tN x5) vd)) (Val.columns (gD z40 (tN x5) vd)) (Val.rows (gD z40 (tN x5) vd)))) (List.set x0 (tN x5) (Val.mk x1 (Val.n (gD x0 (tN x5) vd)) (Val.step (gD x0 (tN x5) vd)) (Val.text (gD x0 (tN x5) vd)) (Val.list (gD x0 (tN x5) vd)) (Val.columns (gD x0 (tN x5) vd)) (Val.rows (gD x0 (tN x5) vd)))))))) (tN x5) vd)), (0 : Int) ≤ x5 ∧ x5 < (Ln ((fun (z44 : List Val) => List.set z44 (tN x5) (Val.mk (Val.kind (gD z44 (tN x5) vd)) (Val.n (gD z44 (tN x5) vd)) (Val.step (gD z44 (tN x5) vd)) (Val.text (gD z44 (tN x5) vd)) (Val.list (gD z44 (tN x5) vd)) r3.2 (Val.rows (gD z44 (tN x5) vd)))) ((fun (z43 : List Val) => List.set z43 (tN x5) (Val.mk (Val.kind (gD z43 (tN x5) vd)) (Val.n (gD z43 (tN x5) vd)) (Val.step (gD z43 (tN x5) vd)) (Val.text (gD z43 (tN x5) vd)) r2.2 (Val.columns (gD z43 (tN x5) vd)) (Val.rows (gD z43 (tN x5) vd)))) ((fun (z42 : List Val) => List.set z42 (tN x5) (Val.mk (Val.kind (gD z42 (tN x5) vd)) (Val.n (gD z42 (tN x5) vd)) (Val.step (gD z42 (tN x5) vd)) r1 (Val.list (gD z42 (tN x5) vd)) (Val.columns (gD z42 (tN x5) vd)) (Val.rows (gD z42 (tN x5) vd)))) ((fun (z41 : List Val) => List.set z41 (tN x5) (Val.mk (Val.kind (gD z41 (tN x5) vd)) (Val.n (gD z41 (tN x5) vd)) (W ((W (x1 + 1)) + 1)) (Val.text (gD z41 (tN x5) vd)) (Val.list (gD z41 (tN x5) vd)) (Val.columns (gD z41 (tN x5) vd)) (Val.rows (gD z41 (tN x5) vd)))) ((fun (z40 : List Val) => List.set z40 (tN x5) (Val.mk (Val.kind (gD z40 (tN x5) vd)) (W (x1 + 1)) (Val.step (gD z40 (tN x5) vd)) (Val.text (gD z40 (tN x5) vd)) (Val.list (gD z40 (tN x5) vd)) (Val.columns (gD z40 (tN x5) vd)) (Val.rows (gD z40 (tN x5) vd)))) (List.set x0 (tN x5) (Val.mk x1 (Val.n (gD x0 (tN x5) vd)) (Val.step (gD x0 (tN x5) vd)) (Val.text (gD x0 (tN x5) vd)) (Val.list (gD x0 (tN x5) vd)) (Val.columns (gD x0 (tN x5) vd)) (Val.rows (gD x0 (tN x5) vd)))))))))), AbC 34 (xEu (Val.rows (gD ((fun (z44 : List Val) => List.set z44 (tN x5) (Val.mk (Val.kind (gD z44 (tN x5) vd)) (Val.n (gD z44 (tN x5) vd)) (Val.step (gD z44 (tN x5) vd)) (Val.text (gD z44 (tN x5) vd)) (Val.list (gD z44 (tN x5) vd)) r3.2 (Val.rows (gD z44 (tN x5) vd)))) ((fun (z43 : List Val) => List.set z43 (tN x5) (Val.mk (Val.kind (gD z43 (tN x5) vd)) (Val.n (gD z43 (tN x5) vd)) (Val.step (gD z43 (tN x5) vd)) (Val.text (gD z43 (tN x5) vd)) r2.2 (Val.columns (gD z43 (tN x5) vd)) (Val.rows (gD z43 (tN x5) vd)))) ((fun (z42 : List Val) => List.set z42 (tN x5) (Val.mk (Val.kind (gD z42 (tN x5) vd)) (Val.n (gD z42 (tN x5) vd)) (Val.step (gD z42 (tN x5) vd)) r1 (Val.list (gD z42 (tN x5) vd)) (Val.columns (gD z42 (tN x5) vd)) (Val.rows (gD z42 (tN x5) vd)))) ((fun (z41 : List Val) => List.set z41 (tN x5) (Val.mk (Val.kind (gD z41 (tN x5) vd)) (Val.n (gD z41 (tN x5) vd)) (W ((W (x1 + 1)) + 1)) (Val.text (gD z41 (tN x5) vd)) (Val.list (gD z41 (tN x5) vd)) (Val.columns (gD z41 (tN x5) vd)) (Val.rows (gD z41 (tN x5) vd)))) ((fun (z40 : List Val) => List.set z40 (tN x5) (Val.mk (Val.kind (gD z40 (tN x5) vd)) (W (x1 + 1)) (Val.step (gD z40 (tN x5) vd)) (Val.text (gD z40 (tN x5) vd)) (Val.list (gD z40 (tN x5) vd)) (Val.columns (gD z40 (tN x5) vd)) (Val.rows (gD z40 (tN x5) vd)))) (List.set x0 (tN x5) (Val.mk x1 (Val.n (gD x0 (tN x5) vd)) (Val.step (gD x0 (tN x5) vd)) (Val.text (gD x0 (tN x5) vd)) (Val.list (gD x0 (tN x5) vd)) (Val.columns (gD x0 (tN x5) vd)) (Val.rows (gD x0 (tN x5) vd))))))))) (tN x5) vd)) r3.1) (xCL r4), (tN x5) = (tN x5), Ln r4.2 = Ln (Val.rows (gD ((fun (z44 : List Val) => List.set z44 (tN x5) (Val.mk (Val.kind (gD z44 (tN x5) vd)) (Val.n (gD z44 (tN x5) vd)) (Val.step (gD z44 (tN x5) vd)) (Val.text (gD z44 (tN x5) vd)) (Val.list (gD z44 (tN x5) vd)) r3.2 (Val.rows (gD z44 (tN x5) vd)))) ((fun (z43 : List Val) => List.set z43 (tN x5) (Val.mk (Val.kind (gD z43 (tN x5) vd)) (Val.n (gD z43 (tN x5) vd)) (Val.step (gD z43 (tN x5) vd)) (Val.text (gD z43 (tN x5) vd)) r2.2 (Val.columns (gD z43 (tN x5) vd)) (Val.rows (gD z43 (tN x5) vd)))) ((fun (z42 : List Val) => List.set z42 (tN x5) (Val.mk (Val.kind (gD z42 (tN x5) vd)) (Val.n (gD z42 (tN x5) vd)) (Val.step (gD z42 (tN x5) vd)) r1 (Val.list (gD z42 (tN x5) vd)) (Val.columns (gD z42 (tN x5) vd)) (Val.rows (gD z42 (tN x5) vd)))) ((fun (z41 : List Val) => List.set z41 (tN x5) (Val.mk (Val.kind (gD z41 (tN x5) vd)) (Val.n (gD z41 (tN x5) vd)) (W ((W (x1 + 1)) + 1)) (Val.text (gD z41 (tN x5) vd)) (Val.list (gD z41 (tN x5) vd)) (Val.columns (gD z41 (tN x5) vd)) (Val.rows (gD z41 (tN x5) vd)))) ((fun (z40 : List Val) => List.set z40 (tN x5) (Val.mk (Val.kind (gD z40 (tN x5) vd)) (W (x1 + 1)) (Val.step (gD z40 (tN x5) vd)) (Val.text (gD z40 (tN x5) vd)) (Val.list (gD z40 (tN x5) vd)) (Val.columns (gD z40 (tN x5) vd)) (Val.rows (gD z40 (tN x5) vd)))) (List.set x0 (tN x5) (Val.mk x1 (Val.n (gD x0 (tN x5) vd)) (Val.step (gD x0 (tN x5) vd)) (Val.text (gD x0 (tN x5) vd)) (Val.list (gD x0 (tN x5) vd)) (Val.columns (gD x0 (tN x5) vd)) (Val.rows (gD x0 (tN x5) vd))))))))) (tN x5) vd))] := by kernel_rfl
theorem p32_2_1 (x0 : List Val) (x1 x5 : Int) : rS 2 I32 (S32_2 x0 x1 x5) [F] [] = dn (xBL (x1, x0)) [(decide ((x5 : Int) < (Ln x0 : Int))) = false] := by kernel_rfl
theorem p32_e_2 (a0 : List Val) (a1 : Int) : rE I32 (xCF a0 a1) [] [] = st 2 I32 (S32_2 a0 a1 0) [] := by kernel_rfl
theorem c32_2 {N : Nat} {q0 : (List Val) → Int → Option (Int × (List Val))} (g0 : G32 q0) : ∀ n x0 x1 x5 r, xC7 N q0 n x0 x1 x5 = some r → RS Try.f32 I32 2 (S32_2 x0 x1 x5) (xBL r) := by
 intro n
 induction n with
 | zero => exact fun _ _ _ _ h => nE h
 | succ n ih =>
  exact fun x0 x1 x5 r h =>
   cE h (fun h0 h => iE h fun h1 h => iE h fun h2 h => iE h fun h3 h => bE h fun r1 h4 h => iE h fun h5 h => iE h fun h6 h => bE h fun r2 h7 h => iE h fun h9 h => iE h fun h10 h => bE h fun r3 h11 h => iE h fun h13 h => iE h fun h14 h => bE h fun r4 h15 h => iE h fun h17 h => tS fk32 (p32_2_0 x0 x1 x5 r1 r2 r3 r4) (oc h0 (oc h1 (oc h2 (oc h3 (oc (xCj h4) (oc h5 (oc h6 (oc (g0 _ _ _ h7) (oc rfl (oc h9 (oc h10 (oc (xGD h11) (oc rfl (oc h13 (oc h14 (oc (xHo h15) (oc rfl (oc h17 on)))))))))))))))))) (ih _ _ _ _ h)) fun h0 h =>
   dS h fk32 (p32_2_1 x0 x1 x5) (oc h0 on)
theorem c32_e {N : Nat} {q0 : (List Val) → Int → Option (Int × (List Val))} (g0 : G32 q0) : ∀ a0 a1 r, xE6 N q0 a0 a1 = some r → RE Try.f32 I32 (xCF a0 a1) (xBL r) := fun a0 a1 r h =>
 tE fk32 (p32_e_2 a0 a1) on (c32_2 g0 _ _ _ _ _ h)
theorem xHi {N : Nat} {q0 : (List Val) → Int → Option (Int × (List Val))} (g0 : G32 q0) {a0 : List Val} {a1 : Int} {r : Int × (List Val)} (h : xE6 N q0 a0 a1 = some r) : AbC 32 (xCF a0 a1) (xBL r) :=
 AbsCalls.of_reach fk32 rfl rfl (Nat.le_of_ble_eq_true rfl) (c32_e g0 a0 a1 r h)
theorem xFS {N : Nat} : ∀ d, G32 (xDH N d)
 | 0 => fun _ _ _ h => nE h
 | d + 1 => fun _ _ _ h => xHi (N := N) (xFS d) h
theorem laws_markValueS_ok {N : Nat} {a0 : List Val} {a1 : Int} {r : Int × (List Val)} (h : xGE N a0 a1 = some r) : AbC 32 (xCF a0 a1) (xBL r) := xFS N _ _ r h
noncomputable def I9 : Info := { body := (Try.f9.body).getD .skip, nt := 18, results := [.tmp 4], keep := [0, 2, 4, 8, 5], live := [], modes := [(1, [(1, .ref, false), (3, .ref, false)]), (2, [(1, .ref, false), (3, .ref, false)]), (3, [(1, .ref, false), (3, .ref, false)])], lnt := [(5, 4), (5, 5), (5, 6)] }
theorem fk9 : FnOk Try.prog 9 Try.f9 I9 := ⟨Try.func9, by kernel_rfl, by kernel_rfl, by kernel_rfl, by kernel_rfl⟩
theorem p9_e_0 (a0 : Val) (a1 : Int) (r1 : Int × (List Val)) (r2 : Int × (List Str)) (r3 : Int × (List Rowd)) : rE I9 (xAk a0 a1) [] [xBL r1, xB0 r2, xCL r3] = dn (xAf (r3.1, r1.2, r2.2, r3.2)) [AbC 32 (xCF (Val.list a0) a1) (xBL r1), Ln r1.2 = Ln (Val.list a0), AbC 33 (xDG (Val.columns a0) r1.1) (xB0 r2), Ln r2.2 = Ln (Val.columns a0), AbC 34 (xEu (Val.rows a0) r2.1) (xCL r3), Ln r3.2 = Ln (Val.rows a0)] := by kernel_rfl
theorem c9_e {N : Nat} : ∀ a0 a1 r, xBK N a0 a1 = some r → RE Try.f9 I9 (xAk a0 a1) (xAf r) := fun a0 a1 r h =>
 bE h fun r1 h0 h => iE h fun h1 h => bE h fun r2 h2 h => iE h fun h3 h => bE h fun r3 h4 h => iE h fun h5 h => dE h fk9 (p9_e_0 a0 a1 r1 r2 r3) (oc (laws_markValueS_ok h0) (oc h1 (oc (xGD h2) (oc h3 (oc (xHo h4) (oc h5 on))))))
theorem xAl {N : Nat} {a0 : Val} {a1 : Int} {r : Int × (List Val) × (List Str) × (List Rowd)} (h : xBK N  a0 a1 = some r) : AbC 9 (xAk a0 a1) (xAf r) :=
 AbsCalls.of_reach fk9 rfl rfl (Nat.le_of_ble_eq_true rfl) (c9_e a0 a1 r h)
noncomputable def I36 : Info := { body := (Try.f36.body).getD .skip, nt := 22, results := [.tmp 4], keep := [0, 2, 8, 10, 18, 36], live := [(2, [0, 2, 10])], modes := [] }
theorem fk36 : FnOk Try.prog 36 Try.f36 I36 := ⟨Try.func36, by kernel_rfl, by kernel_rfl, by kernel_rfl, by kernel_rfl⟩
def S36_2 (x0 : List Str) (x1 x5 : Int) : St := [(0, .v false [.sl .ro .str x0]), (2, .v false [.int .i64 x1]), (10, .v false [.int .i64 x5])]
theorem p36_2_0 (x0 : List Str) (x1 x5 : Int) (r1 : Str) : rS 2 I36 (S36_2 x0 x1 x5) [Y, Y] [xAT r1] = dn (xAY (-1)) [(decide ((x5 : Int) < (Ln x0 : Int))) = true, (0 : Int) ≤ x5 ∧ x5 < (Ln x0), AbC 54 (xBx x1) (xAT r1), (!(((gD x0 (tN x5) Ty.str.dflt) : Str) == r1)) = true] := by kernel_rfl
theorem p36_2_1 (x0 : List Str) (x1 x5 : Int) (r1 : Str) : rS 2 I36 (S36_2 x0 x1 x5) [Y, F] [xAT r1] = st 2 I36 (S36_2 x0 (W (x1 + 1)) (W (x5 + 1))) [(decide ((x5 : Int) < (Ln x0 : Int))) = true, (0 : Int) ≤ x5 ∧ x5 < (Ln x0), AbC 54 (xBx x1) (xAT r1), (!(((gD x0 (tN x5) Ty.str.dflt) : Str) == r1)) = false] := by kernel_rfl
theorem p36_2_2 (x0 : List Str) (x1 x5 : Int) : rS 2 I36 (S36_2 x0 x1 x5) [F] [] = dn (xAY x1) [(decide ((x5 : Int) < (Ln x0 : Int))) = false] := by kernel_rfl
theorem p36_e_3 (a0 : List Str) (a1 : Int) : rE I36 (xBO a0 a1) [] [] = st 2 I36 (S36_2 a0 a1 0) [] := by kernel_rfl
theorem c36_2 {N : Nat} : ∀ n x0 x1 x5 r, xCo N n x0 x1 x5 = some r → RS Try.f36 I36 2 (S36_2 x0 x1 x5) (xAY r) := by
 intro n
 induction n with
 | zero => exact fun _ _ _ _ h => nE h
 | succ n ih =>
  exact fun x0 x1 x5 r h =>
   cE h (fun h0 h => iE h fun h1 h => bE h fun r1 h2 h => cE h (fun h3 h => dS h fk36 (p36_2_0 x0 x1 x5 r1) (oc h0 (oc h1 (oc (xCj h2) (oc h3 on))))) fun h3 h =>
   tS fk36 (p36_2_1 x0 x1 x5 r1) (oc h0 (oc h1 (oc (xCj h2) (oc h3 on)))) (ih _ _ _ _ h)) fun h0 h =>
   dS h fk36 (p36_2_2 x0 x1 x5) (oc h0 on)
theorem c36_e {N : Nat} : ∀ a0 a1 r, xDS N a0 a1 = some r → RE Try.f36 I36 (xBO a0 a1) (xAY r) := fun a0 a1 r h =>
 tE fk36 (p36_e_3 a0 a1) on (c36_2 _ _ _ _ _ h)
theorem xCT {N : Nat} {a0 : List Str} {a1 : Int} {r : Int} (h : xDS N  a0 a1 = some r) : AbC 36 (xBO a0 a1) (xAY r) :=
 AbsCalls.of_reach fk36 rfl rfl (Nat.le_of_ble_eq_true rfl) (c36_e a0 a1 r h)
noncomputable def I57 : Info := { body := (Try.f57.body).getD .skip, nt := 21, results := [.tmp 4], keep := [0, 2, 8, 10, 18, 34], live := [(2, [0, 2, 10])], modes := [] }
theorem fk57 : FnOk Try.prog 57 Try.f57 I57 := ⟨Try.func57, by kernel_rfl, by kernel_rfl, by kernel_rfl, by kernel_rfl⟩
def S57_2 (x0 : List Int) (x1 x5 : Int) : St := [(0, .v false [.sl .ro .int x0]), (2, .v false [.int .i64 x1]), (10, .v false [.int .i64 x5])]
theorem p57_2_0 (x0 : List Int) (x1 x5 : Int) : rS 2 I57 (S57_2 x0 x1 x5) [Y, Y] [] = dn (xBR (-1)) [(decide ((x5 : Int) < (Ln x0 : Int))) = true, (0 : Int) ≤ x5 ∧ x5 < (Ln x0), (((gD x0 (tN x5) Ty.int.dflt) : Int) != x1) = true] := by kernel_rfl
theorem p57_2_1 (x0 : List Int) (x1 x5 : Int) : rS 2 I57 (S57_2 x0 x1 x5) [Y, F] [] = st 2 I57 (S57_2 x0 (W (x1 + 1)) (W (x5 + 1))) [(decide ((x5 : Int) < (Ln x0 : Int))) = true, (0 : Int) ≤ x5 ∧ x5 < (Ln x0), (((gD x0 (tN x5) Ty.int.dflt) : Int) != x1) = false] := by kernel_rfl
theorem p57_2_2 (x0 : List Int) (x1 x5 : Int) : rS 2 I57 (S57_2 x0 x1 x5) [F] [] = dn (xBR x1) [(decide ((x5 : Int) < (Ln x0 : Int))) = false] := by kernel_rfl
theorem p57_e_3 (a0 : List Int) (a1 : Int) : rE I57 (xDQ a0 a1) [] [] = st 2 I57 (S57_2 a0 a1 0) [] := by kernel_rfl
theorem c57_2 {N : Nat} : ∀ n x0 x1 x5 r, xDR N n x0 x1 x5 = some r → RS Try.f57 I57 2 (S57_2 x0 x1 x5) (xBR r) := by
 intro n
 induction n with
 | zero => exact fun _ _ _ _ h => nE h
 | succ n ih =>
  exact fun x0 x1 x5 r h =>
   cE h (fun h0 h => iE h fun h1 h => cE h (fun h2 h => dS h fk57 (p57_2_0 x0 x1 x5) (oc h0 (oc h1 (oc h2 on)))) fun h2 h =>
   tS fk57 (p57_2_1 x0 x1 x5) (oc h0 (oc h1 (oc h2 on))) (ih _ _ _ _ h)) fun h0 h =>
   dS h fk57 (p57_2_2 x0 x1 x5) (oc h0 on)
theorem c57_e {N : Nat} : ∀ a0 a1 r, xGp N a0 a1 = some r → RE Try.f57 I57 (xDQ a0 a1) (xBR r) := fun a0 a1 r h =>
 tE fk57 (p57_e_3 a0 a1) on (c57_2 _ _ _ _ _ h)
theorem xGm {N : Nat} {a0 : List Int} {a1 : Int} {r : Int} (h : xGp N  a0 a1 = some r) : AbC 57 (xDQ a0 a1) (xBR r) :=
 AbsCalls.of_reach fk57 rfl rfl (Nat.le_of_ble_eq_true rfl) (c57_e a0 a1 r h)
noncomputable def I58 : Info := { body := (Try.f58.body).getD .skip, nt := 31, results := [.tmp 4], keep := [0, 2, 8, 10, 18, 36, 54], live := [(2, [0, 2, 10])], modes := [] }
theorem fk58 : FnOk Try.prog 58 Try.f58 I58 := ⟨Try.func58, by kernel_rfl, by kernel_rfl, by kernel_rfl, by kernel_rfl⟩
def S58_2 (x0 : List Org) (x1 x5 : Int) : St := [(0, .v false [.sl .ro .org x0]), (2, .v false [.int .i64 x1]), (10, .v false [.int .i64 x5])]
theorem p58_2_0 (x0 : List Org) (x1 x5 : Int) : rS 2 I58 (S58_2 x0 x1 x5) [Y, Y] [] = dn (xBB (-1)) [(decide ((x5 : Int) < (Ln x0 : Int))) = true, (0 : Int) ≤ x5 ∧ x5 < (Ln x0), (((Org.cell (gD x0 (tN x5) Ty.org.dflt)) : Int) != x1) = true] := by kernel_rfl
theorem p58_2_1 (x0 : List Org) (x1 x5 : Int) : rS 2 I58 (S58_2 x0 x1 x5) [Y, F, Y] [] = dn (xBB (-1)) [(decide ((x5 : Int) < (Ln x0 : Int))) = true, (0 : Int) ≤ x5 ∧ x5 < (Ln x0), (((Org.cell (gD x0 (tN x5) Ty.org.dflt)) : Int) != x1) = false, (0 : Int) ≤ x5 ∧ x5 < (Ln x0), (((Org.row (gD x0 (tN x5) Ty.org.dflt)) : Int) != (W (x1 + 1))) = true] := by kernel_rfl
theorem p58_2_2 (x0 : List Org) (x1 x5 : Int) : rS 2 I58 (S58_2 x0 x1 x5) [Y, F, F] [] = st 2 I58 (S58_2 x0 (W ((W (x1 + 1)) + 1)) (W (x5 + 1))) [(decide ((x5 : Int) < (Ln x0 : Int))) = true, (0 : Int) ≤ x5 ∧ x5 < (Ln x0), (((Org.cell (gD x0 (tN x5) Ty.org.dflt)) : Int) != x1) = false, (0 : Int) ≤ x5 ∧ x5 < (Ln x0), (((Org.row (gD x0 (tN x5) Ty.org.dflt)) : Int) != (W (x1 + 1))) = false] := by kernel_rfl
theorem p58_2_3 (x0 : List Org) (x1 x5 : Int) : rS 2 I58 (S58_2 x0 x1 x5) [F] [] = dn (xBB x1) [(decide ((x5 : Int) < (Ln x0 : Int))) = false] := by kernel_rfl
theorem p58_e_4 (a0 : List Org) (a1 : Int) : rE I58 (xDF a0 a1) [] [] = st 2 I58 (S58_2 a0 a1 0) [] := by kernel_rfl
theorem c58_2 {N : Nat} : ∀ n x0 x1 x5 r, xCS N n x0 x1 x5 = some r → RS Try.f58 I58 2 (S58_2 x0 x1 x5) (xBB r) := by
 intro n
 induction n with
 | zero => exact fun _ _ _ _ h => nE h
 | succ n ih =>
  exact fun x0 x1 x5 r h =>
   cE h (fun h0 h => iE h fun h1 h => cE h (fun h2 h => dS h fk58 (p58_2_0 x0 x1 x5) (oc h0 (oc h1 (oc h2 on)))) fun h2 h =>
   cE h (fun h4 h => dS h fk58 (p58_2_1 x0 x1 x5) (oc h0 (oc h1 (oc h2 (oc h1 (oc h4 on)))))) fun h4 h =>
   tS fk58 (p58_2_2 x0 x1 x5) (oc h0 (oc h1 (oc h2 (oc h1 (oc h4 on))))) (ih _ _ _ _ h)) fun h0 h =>
   dS h fk58 (p58_2_3 x0 x1 x5) (oc h0 on)
theorem c58_e {N : Nat} : ∀ a0 a1 r, xFl N a0 a1 = some r → RE Try.f58 I58 (xDF a0 a1) (xBB r) := fun a0 a1 r h =>
 tE fk58 (p58_e_4 a0 a1) on (c58_2 _ _ _ _ _ h)
theorem xGC {N : Nat} {a0 : List Org} {a1 : Int} {r : Int} (h : xFl N  a0 a1 = some r) : AbC 58 (xDF a0 a1) (xBB r) :=
 AbsCalls.of_reach fk58 rfl rfl (Nat.le_of_ble_eq_true rfl) (c58_e a0 a1 r h)
noncomputable def I37 : Info := { body := (Try.f37.body).getD .skip, nt := 31, results := [.tmp 4], keep := [0, 2, 8, 10, 18, 40, 58], live := [(2, [0, 2, 10])], modes := [] }
theorem fk37 : FnOk Try.prog 37 Try.f37 I37 := ⟨Try.func37, by kernel_rfl, by kernel_rfl, by kernel_rfl, by kernel_rfl⟩
def S37_2 (x0 : List Rowd) (x1 x5 : Int) : St := [(0, .v false [.sl .ro .row x0]), (2, .v false [.int .i64 x1]), (10, .v false [.int .i64 x5])]
theorem p37_2_0 (x0 : List Rowd) (x1 x5 r1 : Int) : rS 2 I37 (S37_2 x0 x1 x5) [Y, Y] [xBR r1] = dn (xBq (-1)) [(decide ((x5 : Int) < (Ln x0 : Int))) = true, (0 : Int) ≤ x5 ∧ x5 < (Ln x0), AbC 57 (xDQ (Rowd.cells (gD x0 (tN x5) rd)) x1) (xBR r1), (decide ((r1 : Int) < 0)) = true] := by kernel_rfl
theorem p37_2_1 (x0 : List Rowd) (x1 x5 r1 r2 : Int) : rS 2 I37 (S37_2 x0 x1 x5) [Y, F, Y] [xBR r1, xBB r2] = dn (xBq (-1)) [(decide ((x5 : Int) < (Ln x0 : Int))) = true, (0 : Int) ≤ x5 ∧ x5 < (Ln x0), AbC 57 (xDQ (Rowd.cells (gD x0 (tN x5) rd)) x1) (xBR r1), (decide ((r1 : Int) < 0)) = false, (0 : Int) ≤ x5 ∧ x5 < (Ln x0), AbC 58 (xDF (Rowd.frm (gD x0 (tN x5) rd)) r1) (xBB r2), (decide ((r2 : Int) < 0)) = true] := by kernel_rfl
theorem p37_2_2 (x0 : List Rowd) (x1 x5 r1 r2 : Int) : rS 2 I37 (S37_2 x0 x1 x5) [Y, F, F] [xBR r1, xBB r2] = st 2 I37 (S37_2 x0 r2 (W (x5 + 1))) [(decide ((x5 : Int) < (Ln x0 : Int))) = true, (0 : Int) ≤ x5 ∧ x5 < (Ln x0), AbC 57 (xDQ (Rowd.cells (gD x0 (tN x5) rd)) x1) (xBR r1), (decide ((r1 : Int) < 0)) = false, (0 : Int) ≤ x5 ∧ x5 < (Ln x0), AbC 58 (xDF (Rowd.frm (gD x0 (tN x5) rd)) r1) (xBB r2), (decide ((r2 : Int) < 0)) = false] := by kernel_rfl
theorem p37_2_3 (x0 : List Rowd) (x1 x5 : Int) : rS 2 I37 (S37_2 x0 x1 x5) [F] [] = dn (xBq x1) [(decide ((x5 : Int) < (Ln x0 : Int))) = false] := by kernel_rfl
theorem p37_e_4 (a0 : List Rowd) (a1 : Int) : rE I37 (xDc a0 a1) [] [] = st 2 I37 (S37_2 a0 a1 0) [] := by kernel_rfl
theorem c37_2 {N : Nat} : ∀ n x0 x1 x5 r, xDd N n x0 x1 x5 = some r → RS Try.f37 I37 2 (S37_2 x0 x1 x5) (xBq r) := by
 intro n
 induction n with
 | zero => exact fun _ _ _ _ h => nE h
 | succ n ih =>
  exact fun x0 x1 x5 r h =>
   cE h (fun h0 h => iE h fun h1 h => bE h fun r1 h2 h => cE h (fun h3 h => dS h fk37 (p37_2_0 x0 x1 x5 r1) (oc h0 (oc h1 (oc (xGm h2) (oc h3 on))))) fun h3 h =>
   bE h fun r2 h5 h => cE h (fun h6 h => dS h fk37 (p37_2_1 x0 x1 x5 r1 r2) (oc h0 (oc h1 (oc (xGm h2) (oc h3 (oc h1 (oc (xGC h5) (oc h6 on)))))))) fun h6 h =>
   tS fk37 (p37_2_2 x0 x1 x5 r1 r2) (oc h0 (oc h1 (oc (xGm h2) (oc h3 (oc h1 (oc (xGC h5) (oc h6 on))))))) (ih _ _ _ _ h)) fun h0 h =>
   dS h fk37 (p37_2_3 x0 x1 x5) (oc h0 on)
theorem c37_e {N : Nat} : ∀ a0 a1 r, xEV N a0 a1 = some r → RE Try.f37 I37 (xDc a0 a1) (xBq r) := fun a0 a1 r h =>
 tE fk37 (p37_e_4 a0 a1) on (c37_2 _ _ _ _ _ h)
theorem xFm {N : Nat} {a0 : List Rowd} {a1 : Int} {r : Int} (h : xEV N  a0 a1 = some r) : AbC 37 (xDc a0 a1) (xBq r) :=
 AbsCalls.of_reach fk37 rfl rfl (Nat.le_of_ble_eq_true rfl) (c37_e a0 a1 r h)
def G35 (q : (List Val) → Int → Option (Int)) : Prop := ∀ a0 a1 r, q a0 a1 = some r → AbC 35 (xBl a0 a1) (xAI r)
noncomputable def I35 : Info := { body := (Try.f35.body).getD .skip, nt := 77, results := [.tmp 4], keep := [0, 2, 8, 10, 18, 36, 54, 72, 92, 114, 132, 150], live := [(2, [0, 2, 10])], modes := [] }
theorem fk35 : FnOk Try.prog 35 Try.f35 I35 := ⟨Try.func35, by kernel_rfl, by kernel_rfl, by kernel_rfl, by kernel_rfl⟩
def S35_2 (x0 : List Val) (x1 x5 : Int) : St := [(0, .v false [.sl .ro .val x0]), (2, .v false [.int .i64 x1]), (10, .v false [.int .i64 x5])]
theorem p35_2_0 (x0 : List Val) (x1 x5 : Int) : rS 2 I35 (S35_2 x0 x1 x5) [Y, Y] [] = dn (xAI (-1)) [(decide ((x5 : Int) < (Ln x0 : Int))) = true, (0 : Int) ≤ x5 ∧ x5 < (Ln x0), (((Val.kind (gD x0 (tN x5) vd)) : Int) != x1) = true] := by kernel_rfl
theorem p35_2_1 (x0 : List Val) (x1 x5 : Int) : rS 2 I35 (S35_2 x0 x1 x5) [Y, F, Y] [] = dn (xAI (-1)) [(decide ((x5 : Int) < (Ln x0 : Int))) = true, (0 : Int) ≤ x5 ∧ x5 < (Ln x0), (((Val.kind (gD x0 (tN x5) vd)) : Int) != x1) = false, (0 : Int) ≤ x5 ∧ x5 < (Ln x0), (((Val.n (gD x0 (tN x5) vd)) : Int) != (W (x1 + 1))) = true] := by kernel_rfl
theorem p35_2_2 (x0 : List Val) (x1 x5 : Int) : rS 2 I35 (S35_2 x0 x1 x5) [Y, F, F, Y] [] = dn (xAI (-1)) [(decide ((x5 : Int) < (Ln x0 : Int))) = true, (0 : Int) ≤ x5 ∧ x5 < (Ln x0), (((Val.kind (gD x0 (tN x5) vd)) : Int) != x1) = false, (0 : Int) ≤ x5 ∧ x5 < (Ln x0), (((Val.n (gD x0 (tN x5) vd)) : Int) != (W (x1 + 1))) = false, (0 : Int) ≤ x5 ∧ x5 < (Ln x0), (((Val.step (gD x0 (tN x5) vd)) : Int) != (W ((W (x1 + 1)) + 1))) = true] := by kernel_rfl
theorem p35_2_3 (x0 : List Val) (x1 x5 : Int) (r1 : Str) : rS 2 I35 (S35_2 x0 x1 x5) [Y, F, F, F, Y] [xAT r1] = dn (xAI (-1)) [(decide ((x5 : Int) < (Ln x0 : Int))) = true, (0 : Int) ≤ x5 ∧ x5 < (Ln x0), (((Val.kind (gD x0 (tN x5) vd)) : Int) != x1) = false, (0 : Int) ≤ x5 ∧ x5 < (Ln x0), (((Val.n (gD x0 (tN x5) vd)) : Int) != (W (x1 + 1))) = false, (0 : Int) ≤ x5 ∧ x5 < (Ln x0), (((Val.step (gD x0 (tN x5) vd)) : Int) != (W ((W (x1 + 1)) + 1))) = false, (0 : Int) ≤ x5 ∧ x5 < (Ln x0), AbC 54 (xBx (W ((W ((W (x1 + 1)) + 1)) + 1))) (xAT r1), (!(((Val.text (gD x0 (tN x5) vd)) : Str) == r1)) = true] := by kernel_rfl
theorem p35_2_4 (x0 : List Val) (x1 x5 : Int) (r1 : Str) (r2 : Int) : rS 2 I35 (S35_2 x0 x1 x5) [Y, F, F, F, F, Y] [xAT r1, xAI r2] = dn (xAI (-1)) [(decide ((x5 : Int) < (Ln x0 : Int))) = true, (0 : Int) ≤ x5 ∧ x5 < (Ln x0), (((Val.kind (gD x0 (tN x5) vd)) : Int) != x1) = false, (0 : Int) ≤ x5 ∧ x5 < (Ln x0), (((Val.n (gD x0 (tN x5) vd)) : Int) != (W (x1 + 1))) = false, (0 : Int) ≤ x5 ∧ x5 < (Ln x0), (((Val.step (gD x0 (tN x5) vd)) : Int) != (W ((W (x1 + 1)) + 1))) = false, (0 : Int) ≤ x5 ∧ x5 < (Ln x0), AbC 54 (xBx (W ((W ((W (x1 + 1)) + 1)) + 1))) (xAT r1), (!(((Val.text (gD x0 (tN x5) vd)) : Str) == r1)) = false, (0 : Int) ≤ x5 ∧ x5 < (Ln x0), AbC 35 (xBl (Val.list (gD x0 (tN x5) vd)) (W ((W ((W ((W (x1 + 1)) + 1)) + 1)) + 1))) (xAI r2), (decide ((r2 : Int) < 0)) = true] := by kernel_rfl
theorem p35_2_5 (x0 : List Val) (x1 x5 : Int) (r1 : Str) (r2 r3 : Int) : rS 2 I35 (S35_2 x0 x1 x5) [Y, F, F, F, F, F, Y] [xAT r1, xAI r2, xAY r3] = dn (xAI (-1)) [(decide ((x5 : Int) < (Ln x0 : Int))) = true, (0 : Int) ≤ x5 ∧ x5 < (Ln x0), (((Val.kind (gD x0 (tN x5) vd)) : Int) != x1) = false, (0 : Int) ≤ x5 ∧ x5 < (Ln x0), (((Val.n (gD x0 (tN x5) vd)) : Int) != (W (x1 + 1))) = false, (0 : Int) ≤ x5 ∧ x5 < (Ln x0), (((Val.step (gD x0 (tN x5) vd)) : Int) != (W ((W (x1 + 1)) + 1))) = false, (0 : Int) ≤ x5 ∧ x5 < (Ln x0), AbC 54 (xBx (W ((W ((W (x1 + 1)) + 1)) + 1))) (xAT r1), (!(((Val.text (gD x0 (tN x5) vd)) : Str) == r1)) = false, (0 : Int) ≤ x5 ∧ x5 < (Ln x0), AbC 35 (xBl (Val.list (gD x0 (tN x5) vd)) (W ((W ((W ((W (x1 + 1)) + 1)) + 1)) + 1))) (xAI r2), (decide ((r2 : Int) < 0)) = false, (0 : Int) ≤ x5 ∧ x5 < (Ln x0), AbC 36 (xBO (Val.columns (gD x0 (tN x5) vd)) r2) (xAY r3), (decide ((r3 : Int) < 0)) = true] := by kernel_rfl
theorem p35_2_6 (x0 : List Val) (x1 x5 : Int) (r1 : Str) (r2 r3 r4 : Int) : rS 2 I35 (S35_2 x0 x1 x5) [Y, F, F, F, F, F, F, Y] [xAT r1, xAI r2, xAY r3, xBq r4] = dn (xAI (-1)) [(decide ((x5 : Int) < (Ln x0 : Int))) = true, (0 : Int) ≤ x5 ∧ x5 < (Ln x0), (((Val.kind (gD x0 (tN x5) vd)) : Int) != x1) = false, (0 : Int) ≤ x5 ∧ x5 < (Ln x0), (((Val.n (gD x0 (tN x5) vd)) : Int) != (W (x1 + 1))) = false, (0 : Int) ≤ x5 ∧ x5 < (Ln x0), (((Val.step (gD x0 (tN x5) vd)) : Int) != (W ((W (x1 + 1)) + 1))) = false, (0 : Int) ≤ x5 ∧ x5 < (Ln x0), AbC 54 (xBx (W ((W ((W (x1 + 1)) + 1)) + 1))) (xAT r1), (!(((Val.text (gD x0 (tN x5) vd)) : Str) == r1)) = false, (0 : Int) ≤ x5 ∧ x5 < (Ln x0), AbC 35 (xBl (Val.list (gD x0 (tN x5) vd)) (W ((W ((W ((W (x1 + 1)) + 1)) + 1)) + 1))) (xAI r2), (decide ((r2 : Int) < 0)) = false, (0 : Int) ≤ x5 ∧ x5 < (Ln x0), AbC 36 (xBO (Val.columns (gD x0 (tN x5) vd)) r2) (xAY r3), (decide ((r3 : Int) < 0)) = false, (0 : Int) ≤ x5 ∧ x5 < (Ln x0), AbC 37 (xDc (Val.rows (gD x0 (tN x5) vd)) r3) (xBq r4), (decide ((r4 : Int) < 0)) = true] := by kernel_rfl
theorem p35_2_7 (x0 : List Val) (x1 x5 : Int) (r1 : Str) (r2 r3 r4 : Int) : rS 2 I35 (S35_2 x0 x1 x5) [Y, F, F, F, F, F, F, F] [xAT r1, xAI r2, xAY r3, xBq r4] = st 2 I35 (S35_2 x0 r4 (W (x5 + 1))) [(decide ((x5 : Int) < (Ln x0 : Int))) = true, (0 : Int) ≤ x5 ∧ x5 < (Ln x0), (((Val.kind (gD x0 (tN x5) vd)) : Int) != x1) = false, (0 : Int) ≤ x5 ∧ x5 < (Ln x0), (((Val.n (gD x0 (tN x5) vd)) : Int) != (W (x1 + 1))) = false, (0 : Int) ≤ x5 ∧ x5 < (Ln x0), (((Val.step (gD x0 (tN x5) vd)) : Int) != (W ((W (x1 + 1)) + 1))) = false, (0 : Int) ≤ x5 ∧ x5 < (Ln x0), AbC 54 (xBx (W ((W ((W (x1 + 1)) + 1)) + 1))) (xAT r1), (!(((Val.text (gD x0 (tN x5) vd)) : Str) == r1)) = false, (0 : Int) ≤ x5 ∧ x5 < (Ln x0), AbC 35 (xBl (Val.list (gD x0 (tN x5) vd)) (W ((W ((W ((W (x1 + 1)) + 1)) + 1)) + 1))) (xAI r2), (decide ((r2 : Int) < 0)) = false, (0 : Int) ≤ x5 ∧ x5 < (Ln x0), AbC 36 (xBO (Val.columns (gD x0 (tN x5) vd)) r2) (xAY r3), (decide ((r3 : Int) < 0)) = false, (0 : Int) ≤ x5 ∧ x5 < (Ln x0), AbC 37 (xDc (Val.rows (gD x0 (tN x5) vd)) r3) (xBq r4), (decide ((r4 : Int) < 0)) = false] := by kernel_rfl
theorem p35_2_8 (x0 : List Val) (x1 x5 : Int) : rS 2 I35 (S35_2 x0 x1 x5) [F] [] = dn (xAI x1) [(decide ((x5 : Int) < (Ln x0 : Int))) = false] := by kernel_rfl
theorem p35_e_9 (a0 : List Val) (a1 : Int) : rE I35 (xBl a0 a1) [] [] = st 2 I35 (S35_2 a0 a1 0) [] := by kernel_rfl
theorem c35_2 {N : Nat} {q0 : (List Val) → Int → Option (Int)} (g0 : G35 q0) : ∀ n x0 x1 x5 r, xCE N q0 n x0 x1 x5 = some r → RS Try.f35 I35 2 (S35_2 x0 x1 x5) (xAI r) := by
 intro n
 induction n with
 | zero => exact fun _ _ _ _ h => nE h
 | succ n ih =>
  exact fun x0 x1 x5 r h =>
   cE h (fun h0 h => iE h fun h1 h => cE h (fun h2 h => dS h fk35 (p35_2_0 x0 x1 x5) (oc h0 (oc h1 (oc h2 on)))) fun h2 h =>
   cE h (fun h4 h => dS h fk35 (p35_2_1 x0 x1 x5) (oc h0 (oc h1 (oc h2 (oc h1 (oc h4 on)))))) fun h4 h =>
   cE h (fun h6 h => dS h fk35 (p35_2_2 x0 x1 x5) (oc h0 (oc h1 (oc h2 (oc h1 (oc h4 (oc h1 (oc h6 on)))))))) fun h6 h =>
   bE h fun r1 h8 h => cE h (fun h9 h => dS h fk35 (p35_2_3 x0 x1 x5 r1) (oc h0 (oc h1 (oc h2 (oc h1 (oc h4 (oc h1 (oc h6 (oc h1 (oc (xCj h8) (oc h9 on))))))))))) fun h9 h =>
   bE h fun r2 h11 h => cE h (fun h12 h => dS h fk35 (p35_2_4 x0 x1 x5 r1 r2) (oc h0 (oc h1 (oc h2 (oc h1 (oc h4 (oc h1 (oc h6 (oc h1 (oc (xCj h8) (oc h9 (oc h1 (oc (g0 _ _ _ h11) (oc h12 on)))))))))))))) fun h12 h =>
   bE h fun r3 h14 h => cE h (fun h15 h => dS h fk35 (p35_2_5 x0 x1 x5 r1 r2 r3) (oc h0 (oc h1 (oc h2 (oc h1 (oc h4 (oc h1 (oc h6 (oc h1 (oc (xCj h8) (oc h9 (oc h1 (oc (g0 _ _ _ h11) (oc h12 (oc h1 (oc (xCT h14) (oc h15 on))))))))))))))))) fun h15 h =>
   bE h fun r4 h17 h => cE h (fun h18 h => dS h fk35 (p35_2_6 x0 x1 x5 r1 r2 r3 r4) (oc h0 (oc h1 (oc h2 (oc h1 (oc h4 (oc h1 (oc h6 (oc h1 (oc (xCj h8) (oc h9 (oc h1 (oc (g0 _ _ _ h11) (oc h12 (oc h1 (oc (xCT h14) (oc h15 (oc h1 (oc (xFm h17) (oc h18 on)))))))))))))))))))) fun h18 h =>
   tS fk35 (p35_2_7 x0 x1 x5 r1 r2 r3 r4) (oc h0 (oc h1 (oc h2 (oc h1 (oc h4 (oc h1 (oc h6 (oc h1 (oc (xCj h8) (oc h9 (oc h1 (oc (g0 _ _ _ h11) (oc h12 (oc h1 (oc (xCT h14) (oc h15 (oc h1 (oc (xFm h17) (oc h18 on))))))))))))))))))) (ih _ _ _ _ h)) fun h0 h =>
   dS h fk35 (p35_2_8 x0 x1 x5) (oc h0 on)
theorem c35_e {N : Nat} {q0 : (List Val) → Int → Option (Int)} (g0 : G35 q0) : ∀ a0 a1 r, xEc N q0 a0 a1 = some r → RE Try.f35 I35 (xBl a0 a1) (xAI r) := fun a0 a1 r h =>
 tE fk35 (p35_e_9 a0 a1) on (c35_2 g0 _ _ _ _ _ h)
theorem xHh {N : Nat} {q0 : (List Val) → Int → Option (Int)} (g0 : G35 q0) {a0 : List Val} {a1 : Int} {r : Int} (h : xEc N q0 a0 a1 = some r) : AbC 35 (xBl a0 a1) (xAI r) :=
 AbsCalls.of_reach fk35 rfl rfl (Nat.le_of_ble_eq_true rfl) (c35_e g0 a0 a1 r h)
theorem xFR {N : Nat} : ∀ d, G35 (xCU N d)
 | 0 => fun _ _ _ h => nE h
 | d + 1 => fun _ _ _ h => xHh (N := N) (xFR d) h
theorem xEI {N : Nat} {a0 : List Val} {a1 : Int} {r : Int} (h : xFF N a0 a1 = some r) : AbC 35 (xBl a0 a1) (xAI r) := xFR N _ _ r h
noncomputable def I10 : Info := { body := (Try.f10.body).getD .skip, nt := 24, results := [.tmp 4], keep := [0, 2, 4, 8, 20, 32, 44, 5], live := [], modes := [] }
theorem fk10 : FnOk Try.prog 10 Try.f10 I10 := ⟨Try.func10, by kernel_rfl, by kernel_rfl, by kernel_rfl, by kernel_rfl⟩
theorem p10_e_0 (a0 : Val) (a1 r1 : Int) : rE I10 (xAC a0 a1) [Y] [xAI r1] = dn (xAp (-1)) [AbC 35 (xBl (Val.list a0) a1) (xAI r1), (decide ((r1 : Int) < 0)) = true] := by kernel_rfl
theorem p10_e_1 (a0 : Val) (a1 r1 r2 : Int) : rE I10 (xAC a0 a1) [F, Y] [xAI r1, xAY r2] = dn (xAp (-1)) [AbC 35 (xBl (Val.list a0) a1) (xAI r1), (decide ((r1 : Int) < 0)) = false, AbC 36 (xBO (Val.columns a0) r1) (xAY r2), (decide ((r2 : Int) < 0)) = true] := by kernel_rfl
theorem p10_e_2 (a0 : Val) (a1 r1 r2 r3 : Int) : rE I10 (xAC a0 a1) [F, F, Y] [xAI r1, xAY r2, xBq r3] = dn (xAp (-1)) [AbC 35 (xBl (Val.list a0) a1) (xAI r1), (decide ((r1 : Int) < 0)) = false, AbC 36 (xBO (Val.columns a0) r1) (xAY r2), (decide ((r2 : Int) < 0)) = false, AbC 37 (xDc (Val.rows a0) r2) (xBq r3), (decide ((r3 : Int) < 0)) = true] := by kernel_rfl
theorem p10_e_3 (a0 : Val) (a1 r1 r2 r3 : Int) : rE I10 (xAC a0 a1) [F, F, F] [xAI r1, xAY r2, xBq r3] = dn (xAp r3) [AbC 35 (xBl (Val.list a0) a1) (xAI r1), (decide ((r1 : Int) < 0)) = false, AbC 36 (xBO (Val.columns a0) r1) (xAY r2), (decide ((r2 : Int) < 0)) = false, AbC 37 (xDc (Val.rows a0) r2) (xBq r3), (decide ((r3 : Int) < 0)) = false] := by kernel_rfl
theorem c10_e {N : Nat} : ∀ a0 a1 r, xBJ N a0 a1 = some r → RE Try.f10 I10 (xAC a0 a1) (xAp r) := fun a0 a1 r h =>
 bE h fun r1 h0 h => cE h (fun h1 h => dE h fk10 (p10_e_0 a0 a1 r1) (oc (xEI h0) (oc h1 on))) fun h1 h =>
 bE h fun r2 h2 h => cE h (fun h3 h => dE h fk10 (p10_e_1 a0 a1 r1 r2) (oc (xEI h0) (oc h1 (oc (xCT h2) (oc h3 on))))) fun h3 h =>
 bE h fun r3 h4 h => cE h (fun h5 h => dE h fk10 (p10_e_2 a0 a1 r1 r2 r3) (oc (xEI h0) (oc h1 (oc (xCT h2) (oc h3 (oc (xFm h4) (oc h5 on))))))) fun h5 h =>
 dE h fk10 (p10_e_3 a0 a1 r1 r2 r3) (oc (xEI h0) (oc h1 (oc (xCT h2) (oc h3 (oc (xFm h4) (oc h5 on))))))
theorem xAG {N : Nat} {a0 : Val} {a1 : Int} {r : Int} (h : xBJ N  a0 a1 = some r) : AbC 10 (xAC a0 a1) (xAp r) :=
 AbsCalls.of_reach fk10 rfl rfl (Nat.le_of_ble_eq_true rfl) (c10_e a0 a1 r h)
end Go.Ab.T
end
