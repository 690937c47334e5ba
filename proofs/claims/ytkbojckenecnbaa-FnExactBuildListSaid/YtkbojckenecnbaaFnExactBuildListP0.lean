/- The statement FnExactBuildList holds: plain functions, certificates, laws. Conditions: none. -/
import Derived.Test.YtkbojckenecnbaaChecked
import Derived.Test.YtkbojckenecnbaaProg
import Derived.Test.YtkbojckenecnbaaRows
import Derived.Test.YtkbojckenecnbaaK2
set_option linter.all false
section
namespace Go.Ab
set_option linter.unusedVariables false
def xAY (N : Nat) (a0 : List Val) (a1 : Int) : Option (Int) := (yBf N N).c_laws_szValueS a0 a1
def xAI (N : Nat) (a0 : List Val) : Option ((List Val)) := (yAv N N).c_laws_toValueS a0
def xAR (a0 : Rowd) : List Arg := [.val (.v true [.sl .ro .int (Rowd.cells a0), .sl .ro .org (Rowd.frm a0)])]
def xAL (r : Rowd) : CallO := ⟨.v true [.sl .own .int (Rowd.cells r), .sl .own .org (Rowd.frm r)], [], []⟩
def xAs (a0 : Val) : List Arg := [.val (.v true [.int .i64 (Val.kind a0), .int .i64 (Val.n a0), .int .i64 (Val.step a0), .str (Val.text a0), .sl .ro .val (Val.list a0), .sl .ro .str (Val.columns a0), .sl .ro .row (Val.rows a0)])]
def xAn (r : Val) : CallO := ⟨.v true [.int .i64 (Val.kind r), .int .i64 (Val.n r), .int .i64 (Val.step r), .str (Val.text r), .sl .own .val (Val.list r), .sl .own .str (Val.columns r), .sl .own .row (Val.rows r)], [], []⟩
def xAT (N : Nat) (a0 : Val) : Option (Val) := spec_l3Copy_fix N N a0
def xAK (a0 : Rowd) : List Arg := [.val (.v true [.sl .ro .int (Rowd.cells a0), .sl .ro .org (Rowd.frm a0)])]
def xAH (r : Rowd) : CallO := ⟨.v true [.sl .own .int (Rowd.cells r), .sl .own .org (Rowd.frm r)], [], []⟩
def xAP (N : Nat) (a0 : Rowd) : Option (Rowd) :=
  if 0 + List.length (Rowd.cells a0) ≤ Lim then
  if 0 + List.length (Rowd.frm a0) ≤ Lim then
  some (Rowd.mk ([] ++ (Rowd.cells a0)) ([] ++ (Rowd.frm a0)))
  else none
  else none
def xAk (a0 : Val) : List Arg := [.val (.v true [.int .i64 (Val.kind a0), .int .i64 (Val.n a0), .int .i64 (Val.step a0), .str (Val.text a0), .sl .ro .val (Val.list a0), .sl .ro .str (Val.columns a0), .sl .ro .row (Val.rows a0)])]
def xAh (r : Val) : CallO := ⟨.v true [.int .i64 (Val.kind r), .int .i64 (Val.n r), .int .i64 (Val.step r), .str (Val.text r), .sl .own .val (Val.list r), .sl .own .str (Val.columns r), .sl .own .row (Val.rows r)], [], []⟩
def xAw (N : Nat) (rc_impl_copyValue : Val → Option (Val)) (rc_impl_copyValues : (List Val) → Option ((List Val))) : Nat → (List Rowd) → Int → Int → Val → Val → Option (Val)
  | 0, _, _, _, _, _ => none
  | n + 1, x18, x19, x20, b2, b3 =>
    bif (decide ((x20 : Int) < x19)) then (
      if (0 : Int) ≤ x20 ∧ x20 < (List.length x18) then
      Option.bind (xAP N (List.getD x18 (Int.toNat x20) Ty.row.dflt)) fun r1 =>
      if List.length (Val.rows b3) + List.length [r1] ≤ Lim then
      (xAw N rc_impl_copyValue rc_impl_copyValues n x18 x19 (IntKind.i64.wrap (x20 + 1)) b2 (Val.mk (Val.kind b3) (Val.n b3) (Val.step b3) (Val.text b3) (Val.list b3) (Val.columns b3) ((Val.rows b3) ++ [r1])))
      else none
      else none
    ) else (
      some b3
    )
def xAA (N : Nat) (rc_impl_copyValue : Val → Option (Val)) (rc_impl_copyValues : (List Val) → Option ((List Val))) (a0 : Val) : Option (Val) :=
  Option.bind (rc_impl_copyValues (Val.list a0)) fun r1 =>
  if 0 + List.length (Val.columns a0) ≤ Lim then
  (xAw N rc_impl_copyValue rc_impl_copyValues N (Val.rows a0) (List.length (Val.rows a0) : Int) 0 (Val.mk 0 0 0 [] [] [] []) (Val.mk (Val.kind a0) (Val.n a0) (Val.step a0) (Val.text a0) r1 ([] ++ (Val.columns a0)) []))
  else none
def xAl (a0 : List Val) : List Arg := [.val (.v false [.sl .ro .val a0])]
def xAi (r : (List Val)) : CallO := ⟨.v false [.sl .own .val r], [], []⟩
def xAy (N : Nat) (rc_impl_copyValue : Val → Option (Val)) (rc_impl_copyValues : (List Val) → Option ((List Val))) : Nat → (List Val) → (List Val) → Int → Int → Option ((List Val))
  | 0, _, _, _, _ => none
  | n + 1, x3, x7, x8, x9 =>
    bif (decide ((x9 : Int) < x8)) then (
      if (0 : Int) ≤ x9 ∧ x9 < (List.length x7) then
      Option.bind (rc_impl_copyValue (List.getD x7 (Int.toNat x9) Ty.val.dflt)) fun r1 =>
      if List.length x3 + List.length [(Val.re r1)] ≤ Lim then
      (xAy N rc_impl_copyValue rc_impl_copyValues n (x3 ++ [(Val.re r1)]) x7 x8 (IntKind.i64.wrap (x9 + 1)))
      else none
      else none
    ) else (
      some x3
    )
def xAz (N : Nat) (rc_impl_copyValue : Val → Option (Val)) (rc_impl_copyValues : (List Val) → Option ((List Val))) (a0 : List Val) : Option ((List Val)) :=
  (xAy N rc_impl_copyValue rc_impl_copyValues N [] a0 (List.length a0 : Int) 0)
structure impl_copyValue_rec where
  c_impl_copyValue : Val → Option (Val)
  c_impl_copyValues : (List Val) → Option ((List Val))
def xAd (N : Nat) : Nat → impl_copyValue_rec
  | 0 => ⟨fun _ => none, fun _ => none⟩
  | d + 1 => ⟨xAA N (xAd N d).c_impl_copyValue (xAd N d).c_impl_copyValues, xAz N (xAd N d).c_impl_copyValue (xAd N d).c_impl_copyValues⟩
def xAO (N : Nat) (a0 : Val) : Option (Val) := (xAd N N).c_impl_copyValue a0
def xAS (N : Nat) (a0 : List Val) : Option ((List Val)) := (xAd N N).c_impl_copyValues a0
def xAX (N : Nat) (a0 : List Val) (a1 : List Val) : Option (Bool) := (yAu N N).c_laws_eqValueS a0 a1
def xAE (a0 : List Val) : List Arg := [.val (.v false [.sl .ro .val a0])]
def xAr (r : Val) : CallO := ⟨.v true [.int .i64 (Val.kind r), .int .i64 (Val.n r), .int .i64 (Val.step r), .str (Val.text r), .sl .own .val (Val.list r), .sl .own .str (Val.columns r), .sl .own .row (Val.rows r)], [], []⟩
def xAB (N : Nat) : Nat → (List Val) → Int → Val → Val → Option (Val)
  | 0, _, _, _, _ => none
  | n + 1, x0, x4, b2, b3 =>
    bif (decide ((x4 : Int) < (List.length x0 : Int))) then (
      if (0 : Int) ≤ x4 ∧ x4 < (List.length x0) then
      Option.bind (xAT N (List.getD x0 (Int.toNat x4) Ty.val.dflt)) fun r1 =>
      if List.length (Val.list b3) + List.length [(Val.re r1)] ≤ Lim then
      (xAB N n x0 (IntKind.i64.wrap (x4 + 1)) b2 (Val.mk (Val.kind b3) (Val.n b3) (Val.step b3) (Val.text b3) ((Val.list b3) ++ [(Val.re r1)]) (Val.columns b3) (Val.rows b3)))
      else none
      else none
    ) else (
      some b3
    )
def xAJ (N : Nat) (a0 : List Val) : Option (Val) :=
  (xAB N N a0 0 (Val.mk 0 0 0 [] [] [] []) (Val.mk 3 0 0 [] [] [] []))
def xAm (a0 : List Val) : List Arg := [.val (.v false [.sl .ro .val a0])]
def xAc (r : Val) : CallO := ⟨.v true [.int .i64 (Val.kind r), .int .i64 (Val.n r), .int .i64 (Val.step r), .str (Val.text r), .sl .own .val (Val.list r), .sl .own .str (Val.columns r), .sl .own .row (Val.rows r)], [], []⟩
def xAu (N : Nat) : Nat → (List Val) → Int → Val → Option (Val)
  | 0, _, _, _ => none
  | n + 1, x0, x5, b2 =>
    bif (decide ((x5 : Int) < (List.length x0 : Int))) then (
      if (0 : Int) ≤ x5 ∧ x5 < (List.length x0) then
      Option.bind (yEf N (List.getD x0 (Int.toNat x5) Ty.val.dflt)) fun r1 =>
      bif (!r1) then (
        Option.bind (yCH N 4) fun r2 =>
        some r2
      ) else (
        (xAu N n x0 (IntKind.i64.wrap (x5 + 1)) b2)
      )
      else none
    ) else (
      Option.bind (xAJ N x0) fun r1 =>
      bif (decide (((List.length x0 : Int) : Int) > 8)) then (
        Option.bind (yCH N 6) fun r2 =>
        some r2
      ) else (
        Option.bind (yFe N r1) fun r2 =>
        bif (decide ((r2 : Int) > 3)) then (
          Option.bind (yCH N 6) fun r3 =>
          some r3
        ) else (
          some r1
        )
      )
    )
def xAF (N : Nat) (a0 : List Val) : Option (Val) :=
  Option.bind (yFh N a0) fun r1 =>
  bif r1.2 then (
    Option.bind (xAT N r1.1) fun r2 =>
    some r2
  ) else (
    (xAu N N a0 0 (Val.mk 0 0 0 [] [] [] []))
  )
def xAD (a0 : List Val) : List Arg := [.val (.v false [.sl .ro .val a0])]
def xAt (r : Val) : CallO := ⟨.v true [.int .i64 (Val.kind r), .int .i64 (Val.n r), .int .i64 (Val.step r), .str (Val.text r), .sl .own .val (Val.list r), .sl .own .str (Val.columns r), .sl .own .row (Val.rows r)], [], []⟩
def xAG (N : Nat) (a0 : List Val) : Option (Val) :=
  Option.bind (xAS N a0) fun r1 =>
  some (Val.mk 3 0 0 [] r1 [] [])
def xAe (a0 : List Val) : List Arg := [.val (.v false [.sl .ro .val a0])]
def xAa (r : Val) : CallO := ⟨.v true [.int .i64 (Val.kind r), .int .i64 (Val.n r), .int .i64 (Val.step r), .str (Val.text r), .sl .own .val (Val.list r), .sl .own .str (Val.columns r), .sl .own .row (Val.rows r)], [], []⟩
def xAo (N : Nat) : Nat → (List Val) → (List Val) → Int → Int → Val → Option (Val)
  | 0, _, _, _, _, _ => none
  | n + 1, x0, x16, x17, x18, b2 =>
    bif (decide ((x18 : Int) < x17)) then (
      if (0 : Int) ≤ x18 ∧ x18 < (List.length x16) then
      bif (((Val.kind (List.getD x16 (Int.toNat x18) Ty.val.dflt)) : Int) != 1) then (
        bif (((Val.kind (List.getD x16 (Int.toNat x18) Ty.val.dflt)) : Int) != 2) then (
          bif (((Val.kind (List.getD x16 (Int.toNat x18) Ty.val.dflt)) : Int) != 3) then (
            Option.bind (yDN N 4) fun r1 =>
            some r1
          ) else (
            (xAo N n x0 x16 x17 (IntKind.i64.wrap (x18 + 1)) b2)
          )
        ) else (
          (xAo N n x0 x16 x17 (IntKind.i64.wrap (x18 + 1)) b2)
        )
      ) else (
        (xAo N n x0 x16 x17 (IntKind.i64.wrap (x18 + 1)) b2)
      )
      else none
    ) else (
      Option.bind (xAG N x0) fun r1 =>
      bif (decide (((List.length x0 : Int) : Int) > 8)) then (
        Option.bind (yDN N 6) fun r2 =>
        some r2
      ) else (
        Option.bind (yEJ N r1) fun r2 =>
        bif (decide ((r2 : Int) > 3)) then (
          Option.bind (yDN N 6) fun r3 =>
          some r3
        ) else (
          some r1
        )
      )
    )
def xAC (N : Nat) (a0 : List Val) : Option (Val) :=
  Option.bind (yDT N a0) fun r1 =>
  bif r1.2.2 then (
    bif r1.2.1 then (
      Option.bind (xAO N r1.1) fun r2 =>
      some r2
    ) else (
      (xAo N N a0 a0 (List.length a0 : Int) 0 (Val.mk 0 0 0 [] [] [] []))
    )
  ) else (
    bif r1.2.1 then (
      Option.bind (xAO N r1.1) fun r2 =>
      some r2
    ) else (
      (xAo N N a0 a0 (List.length a0 : Int) 0 (Val.mk 0 0 0 [] [] [] []))
    )
  )
def xAf (a0 : List Val) : List Arg := [.val (.v false [.sl .ro .val a0])]
def xAg (r : Bool) : CallO := ⟨.v false [.bool r], [], []⟩
def xAx (N : Nat) (a0 : List Val) : Option (Bool) :=
  Option.bind (xAY N a0 1048576) fun r1 =>
  bif (decide ((r1 : Int) < 0)) then (
    some true
  ) else (
    Option.bind (xAI N a0) fun r2 =>
    Option.bind (xAF N r2) fun r3 =>
    Option.bind (xAI N a0) fun r4 =>
    Option.bind (xAC N r4) fun r5 =>
    Option.bind (laws_eqValue N r5 r3) fun r6 =>
    bif (!r6) then (
      some false
    ) else (
      Option.bind (xAI N a0) fun r7 =>
      Option.bind (xAX N r4 r7) fun r8 =>
      bif (!r8) then (
        some false
      ) else (
        Option.bind (yE3 N r4 1) fun r9 =>
        if List.length r9.2 = List.length r4 then
        bif (decide ((r9.1 : Int) < 0)) then (
          some false
        ) else (
          Option.bind (laws_eqValue N r5 r3) fun r10 =>
          bif (!r10) then (
            some false
          ) else (
            Option.bind (yDC N r5 1) fun r11 =>
            if List.length r11.2.1 = List.length (Val.list r5) then
            if List.length r11.2.2.1 = List.length (Val.columns r5) then
            if List.length r11.2.2.2 = List.length (Val.rows r5) then
            Option.bind (yDB N (Val.mk (Val.kind r5) (Val.n r5) (Val.step r5) (Val.text r5) r11.2.1 r11.2.2.1 r11.2.2.2) 1) fun r12 =>
            bif (decide ((r12 : Int) < 0)) then (
              some false
            ) else (
              bif ((r12 : Int) != r11.1) then (
                some false
              ) else (
                Option.bind (xAI N a0) fun r13 =>
                Option.bind (xAC N r13) fun r14 =>
                Option.bind (laws_eqValue N r14 r3) fun r15 =>
                bif (!r15) then (
                  some false
                ) else (
                  Option.bind (yDB N (Val.mk (Val.kind r5) (Val.n r5) (Val.step r5) (Val.text r5) r11.2.1 r11.2.2.1 r11.2.2.2) 1) fun r16 =>
                  bif (decide ((r16 : Int) < 0)) then (
                    some false
                  ) else (
                    bif ((r16 : Int) != r11.1) then (
                      some false
                    ) else (
                      some true
                    )
                  )
                )
              )
            )
            else none
            else none
            else none
          )
        )
        else none
      )
    )
  )
end Go.Ab
end
section
open Go.Proofs
namespace Go.Ab.T
set_option linter.unusedVariables false
set_option maxRecDepth 100000
theorem xAp {N : Nat} {a0 : List Val} {a1 : Int} {r : Int} (h : xAY N a0 a1 = some r) : AbC 62 (yAE a0 a1) (yAl r) := (laws_szValue_fix_ok N).2 _ _ r h
theorem xAb {N : Nat} {a0 : List Val} {r : (List Val)} (h : xAI N a0 = some r) : AbC 64 (yBg a0) (yAS r) := (laws_toValue_fix_ok N).2 _ r h
noncomputable def I116 : Info := { body := (Try.f116.body).getD .skip, nt := 12, results := [.cell 2 130], keep := [0, 2, 4, 3, 5], live := [], modes := [], ext := [], lnt := [], casts := [], fcast := [] }
theorem fk116 : FnOk Try.prog 116 Try.f116 I116 := ⟨Try.func116, by kernel_rfl, by kernel_rfl, by kernel_rfl, by kernel_rfl⟩
theorem p116_e_0 (a0 : Rowd) : run tt (AbsCalls Try.prog) I116 3000 false [.code I116.body] ⟨(zBg 0 (xAR a0)), [], [], []⟩ = some (.done (xAL (Rowd.mk ([] ++ (Rowd.cells a0)) ([] ++ (Rowd.frm a0)))) [0 + List.length (Rowd.cells a0) ≤ Lim, 0 + List.length (Rowd.frm a0) ≤ Lim]) := by kernel_rfl
theorem c116_e {N : Nat} : ∀ a0 r, spec_l3Row N a0 = some r → Reach Try.prog Try.f116 I116 [.code I116.body] (zBg 0 (xAR a0)) (xAL r) := by
 intro a0 r h
 unfold spec_l3Row at h
 obtain ⟨h0, h⟩ := ite_inv h
 obtain ⟨h1, h⟩ := ite_inv h
 obtain rfl := Option.some.inj h
 exact Reach.done ttok mix fk116 (p116_e_0 a0) (obs_cons h0 (obs_cons h1 obs_nil))
theorem spec_l3Row_ok {N : Nat} {a0 : Rowd} {r : Rowd} (h : spec_l3Row N  a0 = some r) : AbC 116 (xAR a0) (xAL r) :=
 AbsCalls.of_reach fk116 rfl rfl (Nat.le_of_ble_eq_true rfl) (c116_e a0 r h)
noncomputable def I71 : Info := { body := (Try.f71.body).getD .skip, nt := 56, results := [.cell 2 28], keep := [0, 2, 4, 6, 8, 10, 46, 82, 3, 5, 7], live := [(3, [2, 4, 6, 8, 3, 5, 7]), (7, [2, 4, 6, 10, 3, 5, 7])], modes := [(5, [(1, .take, false), (9, .take, false)]), (9, [(1, .take, false), (9, .take, false)]), (10, [(0, .take, false)])], ext := [], lnt := [], casts := [], fcast := [] }
theorem fk71 : FnOk Try.prog 71 Try.f71 I71 := ⟨Try.func71, by kernel_rfl, by kernel_rfl, by kernel_rfl, by kernel_rfl⟩
def S71_3 (x4 : Int) (b1 b2 b3 : Val) : St := [(2, .v false [.ptr 1 0]), (4, .v false [.ptr 2 0]), (6, .v false [.ptr 3 0]), (8, .v false [.int .i64 x4]), (3, .v true [.int .i64 (Val.kind b1), .int .i64 (Val.n b1), .int .i64 (Val.step b1), .str (Val.text b1), .sl .ro .val (Val.list b1), .sl .ro .str (Val.columns b1), .sl .ro .row (Val.rows b1)]), (5, .v true [.int .i64 (Val.kind b2), .int .i64 (Val.n b2), .int .i64 (Val.step b2), .str (Val.text b2), .sl .own .val (Val.list b2), .sl .own .str (Val.columns b2), .sl .own .row (Val.rows b2)]), (7, .v true [.int .i64 (Val.kind b3), .int .i64 (Val.n b3), .int .i64 (Val.step b3), .str (Val.text b3), .sl .own .val (Val.list b3), .sl .own .str (Val.columns b3), .sl .own .row (Val.rows b3)])]
def S71_7 (x5 : Int) (b1 b2 b3 : Val) : St := [(2, .v false [.ptr 1 0]), (4, .v false [.ptr 2 0]), (6, .v false [.ptr 3 0]), (10, .v false [.int .i64 x5]), (3, .v true [.int .i64 (Val.kind b1), .int .i64 (Val.n b1), .int .i64 (Val.step b1), .str (Val.text b1), .sl .ro .val (Val.list b1), .sl .ro .str (Val.columns b1), .sl .ro .row (Val.rows b1)]), (5, .v true [.int .i64 (Val.kind b2), .int .i64 (Val.n b2), .int .i64 (Val.step b2), .str (Val.text b2), .sl .own .val (Val.list b2), .sl .own .str (Val.columns b2), .sl .own .row (Val.rows b2)]), (7, .v true [.int .i64 (Val.kind b3), .int .i64 (Val.n b3), .int .i64 (Val.step b3), .str (Val.text b3), .sl .own .val (Val.list b3), .sl .own .str (Val.columns b3), .sl .own .row (Val.rows b3)])]
theorem p71_7_0 (x5 : Int) (b1 b2 b3 : Val) (r1 : Rowd) : run tt (AbsCalls Try.prog) I71 3000 true (stkAt 7 I71.body) ⟨(S71_7 x5 b1 b2 b3), [true], [xAL r1], []⟩ = some (.stop (stkAt 7 I71.body) (S71_7 (IntKind.i64.wrap (x5 + 1)) b1 b2 (Val.mk (Val.kind b3) (Val.n b3) (Val.step b3) (Val.text b3) (Val.list b3) (Val.columns b3) ((Val.rows b3) ++ [r1]))) [(decide ((x5 : Int) < (List.length (Val.rows b1) : Int))) = true, (0 : Int) ≤ x5 ∧ x5 < (List.length (Val.rows b1)), AbC 116 (xAR (List.getD (Val.rows b1) (Int.toNat x5) Ty.row.dflt)) (xAL r1), List.length (Val.rows b3) + List.length [r1] ≤ Lim]) := by kernel_rfl
theorem p71_7_1 (x5 : Int) (b1 b2 b3 : Val) : run tt (AbsCalls Try.prog) I71 3000 true (stkAt 7 I71.body) ⟨(S71_7 x5 b1 b2 b3), [false], [], []⟩ = some (.done (xAn b3) [(decide ((x5 : Int) < (List.length (Val.rows b1) : Int))) = false]) := by kernel_rfl
theorem p71_3_2 (x4 : Int) (b1 b2 b3 r1 : Val) : run tt (AbsCalls Try.prog) I71 3000 true (stkAt 3 I71.body) ⟨(S71_3 x4 b1 b2 b3), [true], [xAn r1], []⟩ = some (.stop (stkAt 3 I71.body) (S71_3 (IntKind.i64.wrap (x4 + 1)) b1 b2 (Val.mk (Val.kind b3) (Val.n b3) (Val.step b3) (Val.text b3) ((Val.list b3) ++ [(Val.re r1)]) (Val.columns b3) (Val.rows b3))) [(decide ((x4 : Int) < (List.length (Val.list b1) : Int))) = true, (0 : Int) ≤ x4 ∧ x4 < (List.length (Val.list b1)), AbC 71 (xAs (List.getD (Val.list b1) (Int.toNat x4) Ty.val.dflt)) (xAn r1), List.length (Val.list b3) + List.length [(Val.re r1)] ≤ Lim]) := by kernel_rfl
theorem p71_3_3 (x4 : Int) (b1 b2 b3 : Val) : run tt (AbsCalls Try.prog) I71 3000 true (stkAt 3 I71.body) ⟨(S71_3 x4 b1 b2 b3), [false], [], []⟩ = some (.stop (stkAt 7 I71.body) (S71_7 0 b1 b2 b3) [(decide ((x4 : Int) < (List.length (Val.list b1) : Int))) = false]) := by kernel_rfl
theorem p71_e_4 (a0 : Val) : run tt (AbsCalls Try.prog) I71 3000 false [.code I71.body] ⟨(zBg 0 (xAs a0)), [], [], []⟩ = some (.stop (stkAt 3 I71.body) (S71_3 0 a0 (Val.mk 0 0 0 [] [] [] []) (Val.mk (Val.kind a0) (Val.n a0) (Val.step a0) (Val.text a0) [] ([] ++ (Val.columns a0)) [])) [0 + List.length (Val.columns a0) ≤ Lim]) := by kernel_rfl
theorem c71_7 {N : Nat} {rc_spec_l3Copy : Val → Option (Val)} (hrc_spec_l3Copy : ∀ a0 r, rc_spec_l3Copy a0 = some r → AbC 71 (xAs a0) (xAn r)) : ∀ n x5 b1 b2 b3 r, yF5 N rc_spec_l3Copy n x5 b1 b2 b3 = some r → Reach Try.prog Try.f71 I71 (stkAt 7 I71.body) (S71_7 x5 b1 b2 b3) (xAn r) := by
 intro n
 induction n with
 | zero => intro x5 b1 b2 b3 r h; have h' : (none : Option (Val)) = some r := h; cases h'
 | succ n ih =>
  intro x5 b1 b2 b3 r h
  rw [yF5] at h
  rcases cond_inv h with ⟨h0, h⟩ | ⟨h0, h⟩
  ·obtain ⟨h1, h⟩ := ite_inv h
   obtain ⟨r1, h2, h⟩ := bind_inv h
   obtain ⟨h3, h⟩ := ite_inv h
   exact Reach.stop ttok mix fk71 (p71_7_0 x5 b1 b2 b3 r1) (obs_cons h0 (obs_cons h1 (obs_cons (spec_l3Row_ok h2) (obs_cons h3 obs_nil)))) (ih _ _ _ _ _ h)
  ·obtain rfl := Option.some.inj h
   exact Reach.done ttok mix fk71 (p71_7_1 x5 b1 b2 b3) (obs_cons h0 obs_nil)
theorem c71_3 {N : Nat} {rc_spec_l3Copy : Val → Option (Val)} (hrc_spec_l3Copy : ∀ a0 r, rc_spec_l3Copy a0 = some r → AbC 71 (xAs a0) (xAn r)) : ∀ n x4 b1 b2 b3 r, yF4 N rc_spec_l3Copy n x4 b1 b2 b3 = some r → Reach Try.prog Try.f71 I71 (stkAt 3 I71.body) (S71_3 x4 b1 b2 b3) (xAn r) := by
 intro n
 induction n with
 | zero => intro x4 b1 b2 b3 r h; have h' : (none : Option (Val)) = some r := h; cases h'
 | succ n ih =>
  intro x4 b1 b2 b3 r h
  rw [yF4] at h
  rcases cond_inv h with ⟨h0, h⟩ | ⟨h0, h⟩
  ·obtain ⟨h1, h⟩ := ite_inv h
   obtain ⟨r1, h2, h⟩ := bind_inv h
   obtain ⟨h3, h⟩ := ite_inv h
   exact Reach.stop ttok mix fk71 (p71_3_2 x4 b1 b2 b3 r1) (obs_cons h0 (obs_cons h1 (obs_cons (hrc_spec_l3Copy _ _ h2) (obs_cons h3 obs_nil)))) (ih _ _ _ _ _ h)
  ·exact Reach.stop ttok mix fk71 (p71_3_3 x4 b1 b2 b3) (obs_cons h0 obs_nil) (c71_7 hrc_spec_l3Copy  _ _ _ _ _ _ h)
theorem c71_e {N : Nat} {rc_spec_l3Copy : Val → Option (Val)} (hrc_spec_l3Copy : ∀ a0 r, rc_spec_l3Copy a0 = some r → AbC 71 (xAs a0) (xAn r)) : ∀ a0 r, spec_l3Copy_body N rc_spec_l3Copy a0 = some r → Reach Try.prog Try.f71 I71 [.code I71.body] (zBg 0 (xAs a0)) (xAn r) := by
 intro a0 r h
 unfold spec_l3Copy_body at h
 obtain ⟨h0, h⟩ := ite_inv h
 exact Reach.stop ttok mix fk71 (p71_e_4 a0) (obs_cons h0 obs_nil) (c71_3 hrc_spec_l3Copy  _ _ _ _ _ _ h)
theorem xA4 {N : Nat} {rc_spec_l3Copy : Val → Option (Val)} (hrc_spec_l3Copy : ∀ a0 r, rc_spec_l3Copy a0 = some r → AbC 71 (xAs a0) (xAn r)) {a0 : Val} {r : Val} (h : spec_l3Copy_body N rc_spec_l3Copy a0 = some r) : AbC 71 (xAs a0) (xAn r) :=
 AbsCalls.of_reach fk71 rfl rfl (Nat.le_of_ble_eq_true rfl) (c71_e hrc_spec_l3Copy a0 r h)
theorem spec_l3Copy_fix_ok {N : Nat} : ∀ d, (∀ a0 r, spec_l3Copy_fix N d a0 = some r → AbC 71 (xAs a0) (xAn r)) := by
 intro d
 induction d with
 | zero => intro _ r h; have h' : (none : Option (Val)) = some r := h; cases h'
 | succ d ih => intro _ r h; exact xA4 (N := N) ih h
theorem xA3 {N : Nat} {a0 : Val} {r : Val} (h : xAT N a0 = some r) : AbC 71 (xAs a0) (xAn r) := spec_l3Copy_fix_ok N _ r h
noncomputable def I119 : Info := { body := (Try.f119.body).getD .skip, nt := 12, results := [.cell 2 130], keep := [0, 2, 4, 3, 5], live := [], modes := [], ext := [], lnt := [], casts := [], fcast := [] }
theorem fk119 : FnOk Try.prog 119 Try.f119 I119 := ⟨Try.func119, by kernel_rfl, by kernel_rfl, by kernel_rfl, by kernel_rfl⟩
theorem p119_e_0 (a0 : Rowd) : run tt (AbsCalls Try.prog) I119 3000 false [.code I119.body] ⟨(zBg 0 (xAK a0)), [], [], []⟩ = some (.done (xAH (Rowd.mk ([] ++ (Rowd.cells a0)) ([] ++ (Rowd.frm a0)))) [0 + List.length (Rowd.cells a0) ≤ Lim, 0 + List.length (Rowd.frm a0) ≤ Lim]) := by kernel_rfl
theorem c119_e {N : Nat} : ∀ a0 r, xAP N a0 = some r → Reach Try.prog Try.f119 I119 [.code I119.body] (zBg 0 (xAK a0)) (xAH r) := by
 intro a0 r h
 unfold xAP at h
 obtain ⟨h0, h⟩ := ite_inv h
 obtain ⟨h1, h⟩ := ite_inv h
 obtain rfl := Option.some.inj h
 exact Reach.done ttok mix fk119 (p119_e_0 a0) (obs_cons h0 (obs_cons h1 obs_nil))
theorem impl_copyRow_ok {N : Nat} {a0 : Rowd} {r : Rowd} (h : xAP N  a0 = some r) : AbC 119 (xAK a0) (xAH r) :=
 AbsCalls.of_reach fk119 rfl rfl (Nat.le_of_ble_eq_true rfl) (c119_e a0 r h)
noncomputable def I74 : Info := { body := (Try.f74.body).getD .skip, nt := 33, results := [.cell 2 28], keep := [0, 2, 4, 6, 10, 36, 38, 40, 42, 3, 5, 7, 11], live := [(6, [4, 6, 36, 38, 40, 5, 7])], modes := [(8, [(1, .take, false), (5, .take, false)]), (9, [(1, .take, false)]), (10, [(0, .take, false)])], ext := [], lnt := [], casts := [], fcast := [] }
theorem fk74 : FnOk Try.prog 74 Try.f74 I74 := ⟨Try.func74, by kernel_rfl, by kernel_rfl, by kernel_rfl, by kernel_rfl⟩
def S74_6 (x18 : List Rowd) (x19 x20 : Int) (b2 b3 : Val) : St := [(4, .v false [.ptr 2 0]), (6, .v false [.ptr 3 0]), (36, .v false [.sl .ro .row x18]), (38, .v false [.int .i64 x19]), (40, .v false [.int .i64 x20]), (5, .v true [.int .i64 (Val.kind b2), .int .i64 (Val.n b2), .int .i64 (Val.step b2), .str (Val.text b2), .sl .own .val (Val.list b2), .sl .own .str (Val.columns b2), .sl .own .row (Val.rows b2)]), (7, .v true [.int .i64 (Val.kind b3), .int .i64 (Val.n b3), .int .i64 (Val.step b3), .str (Val.text b3), .sl .own .val (Val.list b3), .sl .own .str (Val.columns b3), .sl .own .row (Val.rows b3)])]
theorem p74_6_0 (x18 : List Rowd) (x19 x20 : Int) (b2 b3 : Val) (r1 : Rowd) : run tt (AbsCalls Try.prog) I74 3000 true (stkAt 6 I74.body) ⟨(S74_6 x18 x19 x20 b2 b3), [true], [xAH r1], []⟩ = some (.stop (stkAt 6 I74.body) (S74_6 x18 x19 (IntKind.i64.wrap (x20 + 1)) b2 (Val.mk (Val.kind b3) (Val.n b3) (Val.step b3) (Val.text b3) (Val.list b3) (Val.columns b3) ((Val.rows b3) ++ [r1]))) [(decide ((x20 : Int) < x19)) = true, (0 : Int) ≤ x20 ∧ x20 < (List.length x18), AbC 119 (xAK (List.getD x18 (Int.toNat x20) Ty.row.dflt)) (xAH r1), List.length (Val.rows b3) + List.length [r1] ≤ Lim]) := by kernel_rfl
theorem p74_6_1 (x18 : List Rowd) (x19 x20 : Int) (b2 b3 : Val) : run tt (AbsCalls Try.prog) I74 3000 true (stkAt 6 I74.body) ⟨(S74_6 x18 x19 x20 b2 b3), [false], [], []⟩ = some (.done (xAh b3) [(decide ((x20 : Int) < x19)) = false]) := by kernel_rfl
theorem p74_e_2 (a0 : Val) (r1 : (List Val)) : run tt (AbsCalls Try.prog) I74 3000 false [.code I74.body] ⟨(zBg 0 (xAk a0)), [], [xAi r1], []⟩ = some (.stop (stkAt 6 I74.body) (S74_6 (Val.rows a0) (List.length (Val.rows a0) : Int) 0 (Val.mk 0 0 0 [] [] [] []) (Val.mk (Val.kind a0) (Val.n a0) (Val.step a0) (Val.text a0) r1 ([] ++ (Val.columns a0)) [])) [AbC 128 (xAl (Val.list a0)) (xAi r1), 0 + List.length (Val.columns a0) ≤ Lim]) := by kernel_rfl
theorem c74_6 {N : Nat} {rc_impl_copyValue : Val → Option (Val)} (hrc_impl_copyValue : ∀ a0 r, rc_impl_copyValue a0 = some r → AbC 74 (xAk a0) (xAh r)) {rc_impl_copyValues : (List Val) → Option ((List Val))} (hrc_impl_copyValues : ∀ a0 r, rc_impl_copyValues a0 = some r → AbC 128 (xAl a0) (xAi r)) : ∀ n x18 x19 x20 b2 b3 r, xAw N rc_impl_copyValue rc_impl_copyValues n x18 x19 x20 b2 b3 = some r → Reach Try.prog Try.f74 I74 (stkAt 6 I74.body) (S74_6 x18 x19 x20 b2 b3) (xAh r) := by
 intro n
 induction n with
 | zero => intro x18 x19 x20 b2 b3 r h; have h' : (none : Option (Val)) = some r := h; cases h'
 | succ n ih =>
  intro x18 x19 x20 b2 b3 r h
  rw [xAw] at h
  rcases cond_inv h with ⟨h0, h⟩ | ⟨h0, h⟩
  ·obtain ⟨h1, h⟩ := ite_inv h
   obtain ⟨r1, h2, h⟩ := bind_inv h
   obtain ⟨h3, h⟩ := ite_inv h
   exact Reach.stop ttok mix fk74 (p74_6_0 x18 x19 x20 b2 b3 r1) (obs_cons h0 (obs_cons h1 (obs_cons (impl_copyRow_ok h2) (obs_cons h3 obs_nil)))) (ih _ _ _ _ _ _ h)
  ·obtain rfl := Option.some.inj h
   exact Reach.done ttok mix fk74 (p74_6_1 x18 x19 x20 b2 b3) (obs_cons h0 obs_nil)
theorem c74_e {N : Nat} {rc_impl_copyValue : Val → Option (Val)} (hrc_impl_copyValue : ∀ a0 r, rc_impl_copyValue a0 = some r → AbC 74 (xAk a0) (xAh r)) {rc_impl_copyValues : (List Val) → Option ((List Val))} (hrc_impl_copyValues : ∀ a0 r, rc_impl_copyValues a0 = some r → AbC 128 (xAl a0) (xAi r)) : ∀ a0 r, xAA N rc_impl_copyValue rc_impl_copyValues a0 = some r → Reach Try.prog Try.f74 I74 [.code I74.body] (zBg 0 (xAk a0)) (xAh r) := by
 intro a0 r h
 unfold xAA at h
 obtain ⟨r1, h0, h⟩ := bind_inv h
 obtain ⟨h1, h⟩ := ite_inv h
 exact Reach.stop ttok mix fk74 (p74_e_2 a0 r1) (obs_cons (hrc_impl_copyValues _ _ h0) (obs_cons h1 obs_nil)) (c74_6 hrc_impl_copyValue hrc_impl_copyValues  _ _ _ _ _ _ _ h)
theorem xA1 {N : Nat} {rc_impl_copyValue : Val → Option (Val)} (hrc_impl_copyValue : ∀ a0 r, rc_impl_copyValue a0 = some r → AbC 74 (xAk a0) (xAh r)) {rc_impl_copyValues : (List Val) → Option ((List Val))} (hrc_impl_copyValues : ∀ a0 r, rc_impl_copyValues a0 = some r → AbC 128 (xAl a0) (xAi r)) {a0 : Val} {r : Val} (h : xAA N rc_impl_copyValue rc_impl_copyValues a0 = some r) : AbC 74 (xAk a0) (xAh r) :=
 AbsCalls.of_reach fk74 rfl rfl (Nat.le_of_ble_eq_true rfl) (c74_e hrc_impl_copyValue hrc_impl_copyValues a0 r h)
noncomputable def I128 : Info := { body := (Try.f128.body).getD .skip, nt := 20, results := [.tmp 2], keep := [0, 4, 6, 10, 14, 16, 18, 20, 11], live := [(3, [6, 14, 16, 18])], modes := [(5, [(0, .take, false), (4, .take, false)]), (6, [(1, .take, false)]), (7, [(0, .take, false)])], ext := [], lnt := [], casts := [], fcast := [] }
theorem fk128 : FnOk Try.prog 128 Try.f128 I128 := ⟨Try.func128, by kernel_rfl, by kernel_rfl, by kernel_rfl, by kernel_rfl⟩
def S128_3 (x3 x7 : List Val) (x8 x9 : Int) : St := [(6, .v false [.sl .own .val x3]), (14, .v false [.sl .ro .val x7]), (16, .v false [.int .i64 x8]), (18, .v false [.int .i64 x9])]
theorem p128_3_0 (x3 x7 : List Val) (x8 x9 : Int) (r1 : Val) : run tt (AbsCalls Try.prog) I128 3000 true (stkAt 3 I128.body) ⟨(S128_3 x3 x7 x8 x9), [true], [xAh r1], []⟩ = some (.stop (stkAt 3 I128.body) (S128_3 (x3 ++ [(Val.re r1)]) x7 x8 (IntKind.i64.wrap (x9 + 1))) [(decide ((x9 : Int) < x8)) = true, (0 : Int) ≤ x9 ∧ x9 < (List.length x7), AbC 74 (xAk (List.getD x7 (Int.toNat x9) Ty.val.dflt)) (xAh r1), List.length x3 + List.length [(Val.re r1)] ≤ Lim]) := by kernel_rfl
theorem p128_3_1 (x3 x7 : List Val) (x8 x9 : Int) : run tt (AbsCalls Try.prog) I128 3000 true (stkAt 3 I128.body) ⟨(S128_3 x3 x7 x8 x9), [false], [], []⟩ = some (.done (xAi x3) [(decide ((x9 : Int) < x8)) = false]) := by kernel_rfl
theorem p128_e_2 (a0 : List Val) : run tt (AbsCalls Try.prog) I128 3000 false [.code I128.body] ⟨(zBg 0 (xAl a0)), [], [], []⟩ = some (.stop (stkAt 3 I128.body) (S128_3 [] a0 (List.length a0 : Int) 0) []) := by kernel_rfl
theorem c128_3 {N : Nat} {rc_impl_copyValue : Val → Option (Val)} (hrc_impl_copyValue : ∀ a0 r, rc_impl_copyValue a0 = some r → AbC 74 (xAk a0) (xAh r)) {rc_impl_copyValues : (List Val) → Option ((List Val))} (hrc_impl_copyValues : ∀ a0 r, rc_impl_copyValues a0 = some r → AbC 128 (xAl a0) (xAi r)) : ∀ n x3 x7 x8 x9 r, xAy N rc_impl_copyValue rc_impl_copyValues n x3 x7 x8 x9 = some r → Reach Try.prog Try.f128 I128 (stkAt 3 I128.body) (S128_3 x3 x7 x8 x9) (xAi r) := by
 intro n
 induction n with
 | zero => intro x3 x7 x8 x9 r h; have h' : (none : Option ((List Val))) = some r := h; cases h'
 | succ n ih =>
  intro x3 x7 x8 x9 r h
  rw [xAy] at h
  rcases cond_inv h with ⟨h0, h⟩ | ⟨h0, h⟩
  ·obtain ⟨h1, h⟩ := ite_inv h
   obtain ⟨r1, h2, h⟩ := bind_inv h
   obtain ⟨h3, h⟩ := ite_inv h
   exact Reach.stop ttok mix fk128 (p128_3_0 x3 x7 x8 x9 r1) (obs_cons h0 (obs_cons h1 (obs_cons (hrc_impl_copyValue _ _ h2) (obs_cons h3 obs_nil)))) (ih _ _ _ _ _ h)
  ·obtain rfl := Option.some.inj h
   exact Reach.done ttok mix fk128 (p128_3_1 x3 x7 x8 x9) (obs_cons h0 obs_nil)
theorem c128_e {N : Nat} {rc_impl_copyValue : Val → Option (Val)} (hrc_impl_copyValue : ∀ a0 r, rc_impl_copyValue a0 = some r → AbC 74 (xAk a0) (xAh r)) {rc_impl_copyValues : (List Val) → Option ((List Val))} (hrc_impl_copyValues : ∀ a0 r, rc_impl_copyValues a0 = some r → AbC 128 (xAl a0) (xAi r)) : ∀ a0 r, xAz N rc_impl_copyValue rc_impl_copyValues a0 = some r → Reach Try.prog Try.f128 I128 [.code I128.body] (zBg 0 (xAl a0)) (xAi r) := by
 intro a0 r h
 unfold xAz at h
 exact Reach.stop ttok mix fk128 (p128_e_2 a0) obs_nil (c128_3 hrc_impl_copyValue hrc_impl_copyValues  _ _ _ _ _ _ h)
theorem xAW {N : Nat} {rc_impl_copyValue : Val → Option (Val)} (hrc_impl_copyValue : ∀ a0 r, rc_impl_copyValue a0 = some r → AbC 74 (xAk a0) (xAh r)) {rc_impl_copyValues : (List Val) → Option ((List Val))} (hrc_impl_copyValues : ∀ a0 r, rc_impl_copyValues a0 = some r → AbC 128 (xAl a0) (xAi r)) {a0 : List Val} {r : (List Val)} (h : xAz N rc_impl_copyValue rc_impl_copyValues a0 = some r) : AbC 128 (xAl a0) (xAi r) :=
 AbsCalls.of_reach fk128 rfl rfl (Nat.le_of_ble_eq_true rfl) (c128_e hrc_impl_copyValue hrc_impl_copyValues a0 r h)
theorem xAQ {N : Nat} : ∀ d, (∀ a0 r, (xAd N d).c_impl_copyValue a0 = some r → AbC 74 (xAk a0) (xAh r)) ∧ (∀ a0 r, (xAd N d).c_impl_copyValues a0 = some r → AbC 128 (xAl a0) (xAi r)) := by
 intro d
 induction d with
 | zero =>
  refine ⟨?_, ?_⟩ <;> (intros; rename_i h; cases h)
 | succ d ih =>
  obtain ⟨ih0, ih1⟩ := ih
  refine ⟨?_, ?_⟩
  ·intro _ r h; exact xA1 (N := N) ih0 ih1 h
  ·intro _ r h; exact xAW (N := N) ih0 ih1 h
theorem xAV {N : Nat} {a0 : Val} {r : Val} (h : xAO N a0 = some r) : AbC 74 (xAk a0) (xAh r) := (xAQ N).1 _ r h
theorem impl_copyValues_ok {N : Nat} {a0 : List Val} {r : (List Val)} (h : xAS N a0 = some r) : AbC 128 (xAl a0) (xAi r) := (xAQ N).2 _ r h
theorem xAv {N : Nat} {a0 : List Val} {a1 : List Val} {r : Bool} (h : xAX N a0 a1 = some r) : AbC 66 (yAC a0 a1) (yAk r) := (yGe N).2 _ _ r h
end Go.Ab.T
end
section
open Go.Proofs
namespace Go.Ab.T
set_option linter.unusedVariables false
set_option maxRecDepth 100000
noncomputable def I124 : Info := { body := (Try.f124.body).getD .skip, nt := 23, results := [.cell 2 28], keep := [0, 4, 6, 8, 18, 5, 7], live := [(3, [0, 4, 6, 8, 5, 7])], modes := [(5, [(1, .take, false), (8, .take, false)]), (6, [(0, .take, false)])], ext := [], lnt := [], casts := [], fcast := [] }
theorem fk124 : FnOk Try.prog 124 Try.f124 I124 := ⟨Try.func124, by kernel_rfl, by kernel_rfl, by kernel_rfl, by kernel_rfl⟩
def S124_3 (x0 : List Val) (x4 : Int) (b2 b3 : Val) : St := [(0, .v false [.sl .ro .val x0]), (4, .v false [.ptr 2 0]), (6, .v false [.ptr 3 0]), (8, .v false [.int .i64 x4]), (5, .v true [.int .i64 (Val.kind b2), .int .i64 (Val.n b2), .int .i64 (Val.step b2), .str (Val.text b2), .sl .own .val (Val.list b2), .sl .own .str (Val.columns b2), .sl .own .row (Val.rows b2)]), (7, .v true [.int .i64 (Val.kind b3), .int .i64 (Val.n b3), .int .i64 (Val.step b3), .str (Val.text b3), .sl .own .val (Val.list b3), .sl .own .str (Val.columns b3), .sl .own .row (Val.rows b3)])]
theorem p124_3_0 (x0 : List Val) (x4 : Int) (b2 b3 r1 : Val) : run tt (AbsCalls Try.prog) I124 3000 true (stkAt 3 I124.body) ⟨(S124_3 x0 x4 b2 b3), [true], [xAn r1], []⟩ = some (.stop (stkAt 3 I124.body) (S124_3 x0 (IntKind.i64.wrap (x4 + 1)) b2 (Val.mk (Val.kind b3) (Val.n b3) (Val.step b3) (Val.text b3) ((Val.list b3) ++ [(Val.re r1)]) (Val.columns b3) (Val.rows b3))) [(decide ((x4 : Int) < (List.length x0 : Int))) = true, (0 : Int) ≤ x4 ∧ x4 < (List.length x0), AbC 71 (xAs (List.getD x0 (Int.toNat x4) Ty.val.dflt)) (xAn r1), List.length (Val.list b3) + List.length [(Val.re r1)] ≤ Lim]) := by kernel_rfl
theorem p124_3_1 (x0 : List Val) (x4 : Int) (b2 b3 : Val) : run tt (AbsCalls Try.prog) I124 3000 true (stkAt 3 I124.body) ⟨(S124_3 x0 x4 b2 b3), [false], [], []⟩ = some (.done (xAr b3) [(decide ((x4 : Int) < (List.length x0 : Int))) = false]) := by kernel_rfl
theorem p124_e_2 (a0 : List Val) : run tt (AbsCalls Try.prog) I124 3000 false [.code I124.body] ⟨(zBg 0 (xAE a0)), [], [], []⟩ = some (.stop (stkAt 3 I124.body) (S124_3 a0 0 (Val.mk 0 0 0 [] [] [] []) (Val.mk 3 0 0 [] [] [] [])) []) := by kernel_rfl
theorem c124_3 {N : Nat} : ∀ n x0 x4 b2 b3 r, xAB N n x0 x4 b2 b3 = some r → Reach Try.prog Try.f124 I124 (stkAt 3 I124.body) (S124_3 x0 x4 b2 b3) (xAr r) := by
 intro n
 induction n with
 | zero => intro x0 x4 b2 b3 r h; have h' : (none : Option (Val)) = some r := h; cases h'
 | succ n ih =>
  intro x0 x4 b2 b3 r h
  rw [xAB] at h
  rcases cond_inv h with ⟨h0, h⟩ | ⟨h0, h⟩
  ·obtain ⟨h1, h⟩ := ite_inv h
   obtain ⟨r1, h2, h⟩ := bind_inv h
   obtain ⟨h3, h⟩ := ite_inv h
   exact Reach.stop ttok mix fk124 (p124_3_0 x0 x4 b2 b3 r1) (obs_cons h0 (obs_cons h1 (obs_cons (xA3 h2) (obs_cons h3 obs_nil)))) (ih _ _ _ _ _ h)
  ·obtain rfl := Option.some.inj h
   exact Reach.done ttok mix fk124 (p124_3_1 x0 x4 b2 b3) (obs_cons h0 obs_nil)
theorem c124_e {N : Nat} : ∀ a0 r, xAJ N a0 = some r → Reach Try.prog Try.f124 I124 [.code I124.body] (zBg 0 (xAE a0)) (xAr r) := by
 intro a0 r h
 unfold xAJ at h
 exact Reach.stop ttok mix fk124 (p124_e_2 a0) obs_nil (c124_3   _ _ _ _ _ _ h)
theorem xAN {N : Nat} {a0 : List Val} {r : Val} (h : xAJ N  a0 = some r) : AbC 124 (xAE a0) (xAr r) :=
 AbsCalls.of_reach fk124 rfl rfl (Nat.le_of_ble_eq_true rfl) (c124_e a0 r h)
noncomputable def I63 : Info := { body := (Try.f63.body).getD .skip, nt := 40, results := [.cell 2 28], keep := [0, 4, 6, 8, 10, 12, 24, 36, 52, 74, 5, 7, 13], live := [(5, [0, 4, 10, 5])], modes := [(1, [(2, .take, false)]), (2, [(0, .take, false)]), (10, [(3, .take, false)]), (12, [(0, .take, false)])], ext := [], lnt := [], casts := [], fcast := [] }
theorem fk63 : FnOk Try.prog 63 Try.f63 I63 := ⟨Try.func63, by kernel_rfl, by kernel_rfl, by kernel_rfl, by kernel_rfl⟩
def S63_5 (x0 : List Val) (x5 : Int) (b2 : Val) : St := [(0, .v false [.sl .ro .val x0]), (4, .v false [.ptr 2 0]), (10, .v false [.int .i64 x5]), (5, .v true [.int .i64 (Val.kind b2), .int .i64 (Val.n b2), .int .i64 (Val.step b2), .str (Val.text b2), .sl .own .val (Val.list b2), .sl .own .str (Val.columns b2), .sl .own .row (Val.rows b2)])]
theorem p63_5_0 (x0 : List Val) (x5 : Int) (b2 : Val) (r1 : Bool) (r2 : Val) : run tt (AbsCalls Try.prog) I63 3000 true (stkAt 5 I63.body) ⟨(S63_5 x0 x5 b2), [true, true], [yAV r1, yBL r2], []⟩ = some (.done (xAc r2) [(decide ((x5 : Int) < (List.length x0 : Int))) = true, (0 : Int) ≤ x5 ∧ x5 < (List.length x0), AbC 123 (yBB (List.getD x0 (Int.toNat x5) Ty.val.dflt)) (yAV r1), (!r1) = true, AbC 72 (yCT 4) (yBL r2)]) := by kernel_rfl
theorem p63_5_1 (x0 : List Val) (x5 : Int) (b2 : Val) (r1 : Bool) : run tt (AbsCalls Try.prog) I63 3000 true (stkAt 5 I63.body) ⟨(S63_5 x0 x5 b2), [true, false], [yAV r1], []⟩ = some (.stop (stkAt 5 I63.body) (S63_5 x0 (IntKind.i64.wrap (x5 + 1)) b2) [(decide ((x5 : Int) < (List.length x0 : Int))) = true, (0 : Int) ≤ x5 ∧ x5 < (List.length x0), AbC 123 (yBB (List.getD x0 (Int.toNat x5) Ty.val.dflt)) (yAV r1), (!r1) = false]) := by kernel_rfl
theorem p63_5_2 (x0 : List Val) (x5 : Int) (b2 r1 r2 : Val) : run tt (AbsCalls Try.prog) I63 3000 true (stkAt 5 I63.body) ⟨(S63_5 x0 x5 b2), [false, true, true], [xAr r1, yBL r2], []⟩ = some (.done (xAc r2) [(decide ((x5 : Int) < (List.length x0 : Int))) = false, AbC 124 (xAE x0) (xAr r1), (decide (((List.length x0 : Int) : Int) > 8)) = true, true = true, AbC 72 (yCT 6) (yBL r2)]) := by kernel_rfl
theorem p63_5_3 (x0 : List Val) (x5 : Int) (b2 r1 : Val) (r2 : Int) (r3 : Val) : run tt (AbsCalls Try.prog) I63 3000 true (stkAt 5 I63.body) ⟨(S63_5 x0 x5 b2), [false, false, true], [xAr r1, yAU r2, yBL r3], []⟩ = some (.done (xAc r3) [(decide ((x5 : Int) < (List.length x0 : Int))) = false, AbC 124 (xAE x0) (xAr r1), (decide (((List.length x0 : Int) : Int) > 8)) = false, AbC 125 (yBm r1) (yAU r2), (decide ((r2 : Int) > 3)) = true, AbC 72 (yCT 6) (yBL r3)]) := by kernel_rfl
theorem p63_5_4 (x0 : List Val) (x5 : Int) (b2 r1 : Val) (r2 : Int) : run tt (AbsCalls Try.prog) I63 3000 true (stkAt 5 I63.body) ⟨(S63_5 x0 x5 b2), [false, false, false], [xAr r1, yAU r2], []⟩ = some (.done (xAc r1) [(decide ((x5 : Int) < (List.length x0 : Int))) = false, AbC 124 (xAE x0) (xAr r1), (decide (((List.length x0 : Int) : Int) > 8)) = false, AbC 125 (yBm r1) (yAU r2), (decide ((r2 : Int) > 3)) = false]) := by kernel_rfl
theorem p63_e_5 (a0 : List Val) (r1 : Val × Bool) (r2 : Val) : run tt (AbsCalls Try.prog) I63 3000 false [.code I63.body] ⟨(zBg 0 (xAm a0)), [true], [yDc r1, xAn r2], []⟩ = some (.done (xAc r2) [AbC 112 (yFa a0) (yDc r1), r1.2 = true, AbC 71 (xAs r1.1) (xAn r2)]) := by kernel_rfl
theorem p63_e_6 (a0 : List Val) (r1 : Val × Bool) : run tt (AbsCalls Try.prog) I63 3000 false [.code I63.body] ⟨(zBg 0 (xAm a0)), [false], [yDc r1], []⟩ = some (.stop (stkAt 5 I63.body) (S63_5 a0 0 (Val.mk 0 0 0 [] [] [] [])) [AbC 112 (yFa a0) (yDc r1), r1.2 = false]) := by kernel_rfl
theorem c63_5 {N : Nat} : ∀ n x0 x5 b2 r, xAu N n x0 x5 b2 = some r → Reach Try.prog Try.f63 I63 (stkAt 5 I63.body) (S63_5 x0 x5 b2) (xAc r) := by
 intro n
 induction n with
 | zero => intro x0 x5 b2 r h; have h' : (none : Option (Val)) = some r := h; cases h'
 | succ n ih =>
  intro x0 x5 b2 r h
  rw [xAu] at h
  rcases cond_inv h with ⟨h0, h⟩ | ⟨h0, h⟩
  ·obtain ⟨h1, h⟩ := ite_inv h
   obtain ⟨r1, h2, h⟩ := bind_inv h
   rcases cond_inv h with ⟨h3, h⟩ | ⟨h3, h⟩
   ·obtain ⟨r2, h4, h⟩ := bind_inv h
    obtain rfl := Option.some.inj h
    exact Reach.done ttok mix fk63 (p63_5_0 x0 x5 b2 r1 r2) (obs_cons h0 (obs_cons h1 (obs_cons (yEF h2) (obs_cons h3 (obs_cons (yFf h4) obs_nil)))))
   ·exact Reach.stop ttok mix fk63 (p63_5_1 x0 x5 b2 r1) (obs_cons h0 (obs_cons h1 (obs_cons (yEF h2) (obs_cons h3 obs_nil)))) (ih _ _ _ _ h)
  ·obtain ⟨r1, h1, h⟩ := bind_inv h
   rcases cond_inv h with ⟨h2, h⟩ | ⟨h2, h⟩
   ·obtain ⟨r2, h4, h⟩ := bind_inv h
    obtain rfl := Option.some.inj h
    exact Reach.done ttok mix fk63 (p63_5_2 x0 x5 b2 r1 r2) (obs_cons h0 (obs_cons (xAN h1) (obs_cons h2 (obs_cons rfl (obs_cons (yFf h4) obs_nil)))))
   ·obtain ⟨r2, h3, h⟩ := bind_inv h
    rcases cond_inv h with ⟨h4, h⟩ | ⟨h4, h⟩
    ·obtain ⟨r3, h5, h⟩ := bind_inv h
     obtain rfl := Option.some.inj h
     exact Reach.done ttok mix fk63 (p63_5_3 x0 x5 b2 r1 r2 r3) (obs_cons h0 (obs_cons (xAN h1) (obs_cons h2 (obs_cons (spec_DepthOf_ok h3) (obs_cons h4 (obs_cons (yFf h5) obs_nil))))))
    ·obtain rfl := Option.some.inj h
     exact Reach.done ttok mix fk63 (p63_5_4 x0 x5 b2 r1 r2) (obs_cons h0 (obs_cons (xAN h1) (obs_cons h2 (obs_cons (spec_DepthOf_ok h3) (obs_cons h4 obs_nil)))))
theorem c63_e {N : Nat} : ∀ a0 r, xAF N a0 = some r → Reach Try.prog Try.f63 I63 [.code I63.body] (zBg 0 (xAm a0)) (xAc r) := by
 intro a0 r h
 unfold xAF at h
 obtain ⟨r1, h0, h⟩ := bind_inv h
 rcases cond_inv h with ⟨h1, h⟩ | ⟨h1, h⟩
 ·obtain ⟨r2, h2, h⟩ := bind_inv h
  obtain rfl := Option.some.inj h
  exact Reach.done ttok mix fk63 (p63_e_5 a0 r1 r2) (obs_cons (spec_l5First_ok h0) (obs_cons h1 (obs_cons (xA3 h2) obs_nil)))
 ·exact Reach.stop ttok mix fk63 (p63_e_6 a0 r1) (obs_cons (spec_l5First_ok h0) (obs_cons h1 obs_nil)) (c63_5   _ _ _ _ _ h)
theorem xAq {N : Nat} {a0 : List Val} {r : Val} (h : xAF N  a0 = some r) : AbC 63 (xAm a0) (xAc r) :=
 AbsCalls.of_reach fk63 rfl rfl (Nat.le_of_ble_eq_true rfl) (c63_e a0 r h)
noncomputable def I126 : Info := { body := (Try.f126.body).getD .skip, nt := 6, results := [.cell 2 28], keep := [0, 4, 5], live := [], modes := [], ext := [], lnt := [], casts := [], fcast := [] }
theorem fk126 : FnOk Try.prog 126 Try.f126 I126 := ⟨Try.func126, by kernel_rfl, by kernel_rfl, by kernel_rfl, by kernel_rfl⟩
theorem p126_e_0 (a0 : List Val) (r1 : (List Val)) : run tt (AbsCalls Try.prog) I126 3000 false [.code I126.body] ⟨(zBg 0 (xAD a0)), [], [xAi r1], []⟩ = some (.done (xAt (Val.mk 3 0 0 [] r1 [] [])) [AbC 128 (xAl a0) (xAi r1)]) := by kernel_rfl
theorem c126_e {N : Nat} : ∀ a0 r, xAG N a0 = some r → Reach Try.prog Try.f126 I126 [.code I126.body] (zBg 0 (xAD a0)) (xAt r) := by
 intro a0 r h
 unfold xAG at h
 obtain ⟨r1, h0, h⟩ := bind_inv h
 obtain rfl := Option.some.inj h
 exact Reach.done ttok mix fk126 (p126_e_0 a0 r1) (obs_cons (impl_copyValues_ok h0) obs_nil)
theorem xAM {N : Nat} {a0 : List Val} {r : Val} (h : xAG N  a0 = some r) : AbC 126 (xAD a0) (xAt r) :=
 AbsCalls.of_reach fk126 rfl rfl (Nat.le_of_ble_eq_true rfl) (c126_e a0 r h)
end Go.Ab.T
end
section
open Go.Proofs
namespace Go.Ab.T
set_option linter.unusedVariables false
set_option maxRecDepth 100000
noncomputable def I65 : Info := { body := (Try.f65.body).getD .skip, nt := 49, results := [.cell 2 28], keep := [0, 4, 6, 8, 12, 14, 26, 32, 34, 36, 38, 68, 92, 5, 7, 13, 15], live := [(5, [0, 4, 32, 34, 36, 5])], modes := [(1, [(2, .take, false)]), (2, [(0, .take, false)]), (7, [(3, .take, false), (8, .take, false)]), (9, [(1, .take, false)]), (11, [(3, .take, false)]), (13, [(0, .take, false)])], ext := [], lnt := [], casts := [], fcast := [] }
theorem fk65 : FnOk Try.prog 65 Try.f65 I65 := ⟨Try.func65, by kernel_rfl, by kernel_rfl, by kernel_rfl, by kernel_rfl⟩
def S65_5 (x0 x16 : List Val) (x17 x18 : Int) (b2 : Val) : St := [(0, .v false [.sl .ro .val x0]), (4, .v false [.ptr 2 0]), (32, .v false [.sl .ro .val x16]), (34, .v false [.int .i64 x17]), (36, .v false [.int .i64 x18]), (5, .v true [.int .i64 (Val.kind b2), .int .i64 (Val.n b2), .int .i64 (Val.step b2), .str (Val.text b2), .sl .own .val (Val.list b2), .sl .own .str (Val.columns b2), .sl .own .row (Val.rows b2)])]
theorem p65_5_0 (x0 x16 : List Val) (x17 x18 : Int) (b2 r1 : Val) : run tt (AbsCalls Try.prog) I65 3000 true (stkAt 5 I65.body) ⟨(S65_5 x0 x16 x17 x18 b2), [true, true, true, true], [yCS r1], []⟩ = some (.done (xAa r1) [(decide ((x18 : Int) < x17)) = true, (0 : Int) ≤ x18 ∧ x18 < (List.length x16), (((Val.kind (List.getD x16 (Int.toNat x18) Ty.val.dflt)) : Int) != 1) = true, (((Val.kind (List.getD x16 (Int.toNat x18) Ty.val.dflt)) : Int) != 2) = true, (((Val.kind (List.getD x16 (Int.toNat x18) Ty.val.dflt)) : Int) != 3) = true, AbC 75 (yDI 4) (yCS r1)]) := by kernel_rfl
theorem p65_5_1 (x0 x16 : List Val) (x17 x18 : Int) (b2 : Val) : run tt (AbsCalls Try.prog) I65 3000 true (stkAt 5 I65.body) ⟨(S65_5 x0 x16 x17 x18 b2), [true, true, true, false], [], []⟩ = some (.stop (stkAt 5 I65.body) (S65_5 x0 x16 x17 (IntKind.i64.wrap (x18 + 1)) b2) [(decide ((x18 : Int) < x17)) = true, (0 : Int) ≤ x18 ∧ x18 < (List.length x16), (((Val.kind (List.getD x16 (Int.toNat x18) Ty.val.dflt)) : Int) != 1) = true, (((Val.kind (List.getD x16 (Int.toNat x18) Ty.val.dflt)) : Int) != 2) = true, (((Val.kind (List.getD x16 (Int.toNat x18) Ty.val.dflt)) : Int) != 3) = false]) := by kernel_rfl
theorem p65_5_2 (x0 x16 : List Val) (x17 x18 : Int) (b2 : Val) : run tt (AbsCalls Try.prog) I65 3000 true (stkAt 5 I65.body) ⟨(S65_5 x0 x16 x17 x18 b2), [true, true, false, false], [], []⟩ = some (.stop (stkAt 5 I65.body) (S65_5 x0 x16 x17 (IntKind.i64.wrap (x18 + 1)) b2) [(decide ((x18 : Int) < x17)) = true, (0 : Int) ≤ x18 ∧ x18 < (List.length x16), (((Val.kind (List.getD x16 (Int.toNat x18) Ty.val.dflt)) : Int) != 1) = true, (((Val.kind (List.getD x16 (Int.toNat x18) Ty.val.dflt)) : Int) != 2) = false, false = false]) := by kernel_rfl
theorem p65_5_3 (x0 x16 : List Val) (x17 x18 : Int) (b2 : Val) : run tt (AbsCalls Try.prog) I65 3000 true (stkAt 5 I65.body) ⟨(S65_5 x0 x16 x17 x18 b2), [true, false, false, false], [], []⟩ = some (.stop (stkAt 5 I65.body) (S65_5 x0 x16 x17 (IntKind.i64.wrap (x18 + 1)) b2) [(decide ((x18 : Int) < x17)) = true, (0 : Int) ≤ x18 ∧ x18 < (List.length x16), (((Val.kind (List.getD x16 (Int.toNat x18) Ty.val.dflt)) : Int) != 1) = false, false = false, false = false]) := by kernel_rfl
theorem p65_5_4 (x0 x16 : List Val) (x17 x18 : Int) (b2 r1 r2 : Val) : run tt (AbsCalls Try.prog) I65 3000 true (stkAt 5 I65.body) ⟨(S65_5 x0 x16 x17 x18 b2), [false, true, true], [xAt r1, yCS r2], []⟩ = some (.done (xAa r2) [(decide ((x18 : Int) < x17)) = false, AbC 126 (xAD x0) (xAt r1), (decide (((List.length x0 : Int) : Int) > 8)) = true, true = true, AbC 75 (yDI 6) (yCS r2)]) := by kernel_rfl
theorem p65_5_5 (x0 x16 : List Val) (x17 x18 : Int) (b2 r1 : Val) (r2 : Int) (r3 : Val) : run tt (AbsCalls Try.prog) I65 3000 true (stkAt 5 I65.body) ⟨(S65_5 x0 x16 x17 x18 b2), [false, false, true], [xAt r1, yAT r2, yCS r3], []⟩ = some (.done (xAa r3) [(decide ((x18 : Int) < x17)) = false, AbC 126 (xAD x0) (xAt r1), (decide (((List.length x0 : Int) : Int) > 8)) = false, AbC 127 (yBk r1) (yAT r2), (decide ((r2 : Int) > 3)) = true, AbC 75 (yDI 6) (yCS r3)]) := by kernel_rfl
theorem p65_5_6 (x0 x16 : List Val) (x17 x18 : Int) (b2 r1 : Val) (r2 : Int) : run tt (AbsCalls Try.prog) I65 3000 true (stkAt 5 I65.body) ⟨(S65_5 x0 x16 x17 x18 b2), [false, false, false], [xAt r1, yAT r2], []⟩ = some (.done (xAa r1) [(decide ((x18 : Int) < x17)) = false, AbC 126 (xAD x0) (xAt r1), (decide (((List.length x0 : Int) : Int) > 8)) = false, AbC 127 (yBk r1) (yAT r2), (decide ((r2 : Int) > 3)) = false]) := by kernel_rfl
theorem p65_e_7 (a0 : List Val) (r1 : Val × Bool × Bool) (r2 : Val) : run tt (AbsCalls Try.prog) I65 3000 false [.code I65.body] ⟨(zBg 0 (xAe a0)), [true], [yEM r1, xAh r2], []⟩ = some (.done (xAa r2) [AbC 114 (yD5 a0) (yEM r1), r1.2.1 = true, AbC 74 (xAk r1.1) (xAh r2)]) := by kernel_rfl
theorem p65_e_8 (a0 : List Val) (r1 : Val × Bool × Bool) : run tt (AbsCalls Try.prog) I65 3000 false [.code I65.body] ⟨(zBg 0 (xAe a0)), [false], [yEM r1], []⟩ = some (.stop (stkAt 5 I65.body) (S65_5 a0 a0 (List.length a0 : Int) 0 (Val.mk 0 0 0 [] [] [] [])) [AbC 114 (yD5 a0) (yEM r1), r1.2.1 = false]) := by kernel_rfl
theorem p65_e_9 (a0 : List Val) (r1 : Val × Bool × Bool) (r2 : Val) : run tt (AbsCalls Try.prog) I65 3000 false [.code I65.body] ⟨(zBg 0 (xAe a0)), [true], [yEL r1, xAh r2], []⟩ = some (.done (xAa r2) [AbC 114 (yD5 a0) (yEL r1), r1.2.1 = true, AbC 74 (xAk r1.1) (xAh r2)]) := by kernel_rfl
theorem p65_e_10 (a0 : List Val) (r1 : Val × Bool × Bool) : run tt (AbsCalls Try.prog) I65 3000 false [.code I65.body] ⟨(zBg 0 (xAe a0)), [false], [yEL r1], []⟩ = some (.stop (stkAt 5 I65.body) (S65_5 a0 a0 (List.length a0 : Int) 0 (Val.mk 0 0 0 [] [] [] [])) [AbC 114 (yD5 a0) (yEL r1), r1.2.1 = false]) := by kernel_rfl
theorem c65_5 {N : Nat} : ∀ n x0 x16 x17 x18 b2 r, xAo N n x0 x16 x17 x18 b2 = some r → Reach Try.prog Try.f65 I65 (stkAt 5 I65.body) (S65_5 x0 x16 x17 x18 b2) (xAa r) := by
 intro n
 induction n with
 | zero => intro x0 x16 x17 x18 b2 r h; have h' : (none : Option (Val)) = some r := h; cases h'
 | succ n ih =>
  intro x0 x16 x17 x18 b2 r h
  rw [xAo] at h
  rcases cond_inv h with ⟨h0, h⟩ | ⟨h0, h⟩
  ·obtain ⟨h1, h⟩ := ite_inv h
   rcases cond_inv h with ⟨h2, h⟩ | ⟨h2, h⟩
   ·rcases cond_inv h with ⟨h3, h⟩ | ⟨h3, h⟩
    ·rcases cond_inv h with ⟨h4, h⟩ | ⟨h4, h⟩
     ·obtain ⟨r1, h5, h⟩ := bind_inv h
      obtain rfl := Option.some.inj h
      exact Reach.done ttok mix fk65 (p65_5_0 x0 x16 x17 x18 b2 r1) (obs_cons h0 (obs_cons h1 (obs_cons h2 (obs_cons h3 (obs_cons h4 (obs_cons (impl_ErrorValue_ok h5) obs_nil))))))
     ·exact Reach.stop ttok mix fk65 (p65_5_1 x0 x16 x17 x18 b2) (obs_cons h0 (obs_cons h1 (obs_cons h2 (obs_cons h3 (obs_cons h4 obs_nil))))) (ih _ _ _ _ _ _ h)
    ·exact Reach.stop ttok mix fk65 (p65_5_2 x0 x16 x17 x18 b2) (obs_cons h0 (obs_cons h1 (obs_cons h2 (obs_cons h3 (obs_cons rfl obs_nil))))) (ih _ _ _ _ _ _ h)
   ·exact Reach.stop ttok mix fk65 (p65_5_3 x0 x16 x17 x18 b2) (obs_cons h0 (obs_cons h1 (obs_cons h2 (obs_cons rfl (obs_cons rfl obs_nil))))) (ih _ _ _ _ _ _ h)
  ·obtain ⟨r1, h1, h⟩ := bind_inv h
   rcases cond_inv h with ⟨h2, h⟩ | ⟨h2, h⟩
   ·obtain ⟨r2, h4, h⟩ := bind_inv h
    obtain rfl := Option.some.inj h
    exact Reach.done ttok mix fk65 (p65_5_4 x0 x16 x17 x18 b2 r1 r2) (obs_cons h0 (obs_cons (xAM h1) (obs_cons h2 (obs_cons rfl (obs_cons (impl_ErrorValue_ok h4) obs_nil)))))
   ·obtain ⟨r2, h3, h⟩ := bind_inv h
    rcases cond_inv h with ⟨h4, h⟩ | ⟨h4, h⟩
    ·obtain ⟨r3, h5, h⟩ := bind_inv h
     obtain rfl := Option.some.inj h
     exact Reach.done ttok mix fk65 (p65_5_5 x0 x16 x17 x18 b2 r1 r2 r3) (obs_cons h0 (obs_cons (xAM h1) (obs_cons h2 (obs_cons (impl_DepthOf_ok h3) (obs_cons h4 (obs_cons (impl_ErrorValue_ok h5) obs_nil))))))
    ·obtain rfl := Option.some.inj h
     exact Reach.done ttok mix fk65 (p65_5_6 x0 x16 x17 x18 b2 r1 r2) (obs_cons h0 (obs_cons (xAM h1) (obs_cons h2 (obs_cons (impl_DepthOf_ok h3) (obs_cons h4 obs_nil)))))
theorem c65_e {N : Nat} : ∀ a0 r, xAC N a0 = some r → Reach Try.prog Try.f65 I65 [.code I65.body] (zBg 0 (xAe a0)) (xAa r) := by
 intro a0 r h
 unfold xAC at h
 obtain ⟨r1, h0, h⟩ := bind_inv h
 rcases cond_inv h with ⟨h1, h⟩ | ⟨h1, h⟩
 ·rcases cond_inv h with ⟨h2, h⟩ | ⟨h2, h⟩
  ·obtain ⟨r2, h3, h⟩ := bind_inv h
   obtain rfl := Option.some.inj h
   exact Reach.done ttok mix fk65 (p65_e_7 a0 r1 r2) (obs_cons (impl_operandError_toR (impl_operandError_ok h0) h1) (obs_cons h2 (obs_cons (xAV h3) obs_nil)))
  ·exact Reach.stop ttok mix fk65 (p65_e_8 a0 r1) (obs_cons (impl_operandError_toR (impl_operandError_ok h0) h1) (obs_cons h2 obs_nil)) (c65_5   _ _ _ _ _ _ _ h)
 ·rcases cond_inv h with ⟨h2, h⟩ | ⟨h2, h⟩
  ·obtain ⟨r2, h3, h⟩ := bind_inv h
   obtain rfl := Option.some.inj h
   exact Reach.done ttok mix fk65 (p65_e_9 a0 r1 r2) (obs_cons (impl_operandError_toO (impl_operandError_ok h0) h1) (obs_cons h2 (obs_cons (xAV h3) obs_nil)))
  ·exact Reach.stop ttok mix fk65 (p65_e_10 a0 r1) (obs_cons (impl_operandError_toO (impl_operandError_ok h0) h1) (obs_cons h2 obs_nil)) (c65_5   _ _ _ _ _ _ _ h)
theorem xAj {N : Nat} {a0 : List Val} {r : Val} (h : xAC N  a0 = some r) : AbC 65 (xAe a0) (xAa r) :=
 AbsCalls.of_reach fk65 rfl rfl (Nat.le_of_ble_eq_true rfl) (c65_e a0 r h)
noncomputable def I13 : Info := { body := (Try.f13.body).getD .skip, nt := 69, results := [.tmp 2], keep := [0, 4, 6, 8, 10, 12, 14, 16, 18, 20, 30, 52, 62, 84, 100, 106, 120, 130, 136, 9, 13, 21], live := [], modes := [(13, [(0, .ref, false), (2, .ref, false)]), (14, [(2, .take, false)]), (17, [(0, .ref, false), (2, .ref, false)])], ext := [], lnt := [], casts := [], fcast := [] }
theorem fk13 : FnOk Try.prog 13 Try.f13 I13 := ⟨Try.func13, by kernel_rfl, by kernel_rfl, by kernel_rfl, by kernel_rfl⟩
theorem p13_e_0 (a0 : List Val) (r1 : Int) : run tt (AbsCalls Try.prog) I13 3000 false [.code I13.body] ⟨(zBg 0 (xAf a0)), [true], [yAl r1], []⟩ = some (.done (xAg true) [AbC 62 (yAE a0 1048576) (yAl r1), (decide ((r1 : Int) < 0)) = true]) := by kernel_rfl
theorem p13_e_1 (a0 : List Val) (r1 : Int) (r2 : (List Val)) (r3 : Val) (r4 : (List Val)) (r5 : Val) (r6 : Bool) : run tt (AbsCalls Try.prog) I13 3000 false [.code I13.body] ⟨(zBg 0 (xAf a0)), [false, true], [yAl r1, yAS r2, xAc r3, yAS r4, xAa r5, yAm r6], []⟩ = some (.done (xAg false) [AbC 62 (yAE a0 1048576) (yAl r1), (decide ((r1 : Int) < 0)) = false, AbC 64 (yBg a0) (yAS r2), AbC 63 (xAm r2) (xAc r3), AbC 64 (yBg a0) (yAS r4), AbC 65 (xAe r4) (xAa r5), AbC 19 (yAr r5 r3) (yAm r6), (!r6) = true]) := by kernel_rfl
theorem p13_e_2 (a0 : List Val) (r1 : Int) (r2 : (List Val)) (r3 : Val) (r4 : (List Val)) (r5 : Val) (r6 : Bool) (r7 : (List Val)) (r8 : Bool) : run tt (AbsCalls Try.prog) I13 3000 false [.code I13.body] ⟨(zBg 0 (xAf a0)), [false, false, true], [yAl r1, yAS r2, xAc r3, yAS r4, xAa r5, yAm r6, yAS r7, yAk r8], []⟩ = some (.done (xAg false) [AbC 62 (yAE a0 1048576) (yAl r1), (decide ((r1 : Int) < 0)) = false, AbC 64 (yBg a0) (yAS r2), AbC 63 (xAm r2) (xAc r3), AbC 64 (yBg a0) (yAS r4), AbC 65 (xAe r4) (xAa r5), AbC 19 (yAr r5 r3) (yAm r6), (!r6) = false, AbC 64 (yBg a0) (yAS r7), AbC 66 (yAC r4 r7) (yAk r8), (!r8) = true]) := by kernel_rfl
theorem p13_e_3 (a0 : List Val) (r1 : Int) (r2 : (List Val)) (r3 : Val) (r4 : (List Val)) (r5 : Val) (r6 : Bool) (r7 : (List Val)) (r8 : Bool) (r9 : Int × (List Val)) : run tt (AbsCalls Try.prog) I13 3000 false [.code I13.body] ⟨(zBg 0 (xAf a0)), [false, false, false, true, true], [yAl r1, yAS r2, xAc r3, yAS r4, xAa r5, yAm r6, yAS r7, yAk r8, yAx r9], []⟩ = some (.done (xAg false) [AbC 62 (yAE a0 1048576) (yAl r1), (decide ((r1 : Int) < 0)) = false, AbC 64 (yBg a0) (yAS r2), AbC 63 (xAm r2) (xAc r3), AbC 64 (yBg a0) (yAS r4), AbC 65 (xAe r4) (xAa r5), AbC 19 (yAr r5 r3) (yAm r6), (!r6) = false, AbC 64 (yBg a0) (yAS r7), AbC 66 (yAC r4 r7) (yAk r8), (!r8) = false, AbC 67 (yAZ r4 1) (yAx r9), List.length r9.2 = List.length r4, (decide ((r9.1 : Int) < 0)) = true, true = true]) := by kernel_rfl
theorem p13_e_4 (a0 : List Val) (r1 : Int) (r2 : (List Val)) (r3 : Val) (r4 : (List Val)) (r5 : Val) (r6 : Bool) (r7 : (List Val)) (r8 : Bool) (r9 : Int × (List Val)) (r10 : Bool) : run tt (AbsCalls Try.prog) I13 3000 false [.code I13.body] ⟨(zBg 0 (xAf a0)), [false, false, false, false, true], [yAl r1, yAS r2, xAc r3, yAS r4, xAa r5, yAm r6, yAS r7, yAk r8, yAx r9, yAm r10], []⟩ = some (.done (xAg false) [AbC 62 (yAE a0 1048576) (yAl r1), (decide ((r1 : Int) < 0)) = false, AbC 64 (yBg a0) (yAS r2), AbC 63 (xAm r2) (xAc r3), AbC 64 (yBg a0) (yAS r4), AbC 65 (xAe r4) (xAa r5), AbC 19 (yAr r5 r3) (yAm r6), (!r6) = false, AbC 64 (yBg a0) (yAS r7), AbC 66 (yAC r4 r7) (yAk r8), (!r8) = false, AbC 67 (yAZ r4 1) (yAx r9), List.length r9.2 = List.length r4, (decide ((r9.1 : Int) < 0)) = false, AbC 19 (yAr r5 r3) (yAm r10), (!r10) = true]) := by kernel_rfl
theorem p13_e_5 (a0 : List Val) (r1 : Int) (r2 : (List Val)) (r3 : Val) (r4 : (List Val)) (r5 : Val) (r6 : Bool) (r7 : (List Val)) (r8 : Bool) (r9 : Int × (List Val)) (r10 : Bool) (r11 : Int × (List Val) × (List Str) × (List Rowd)) (r12 : Int) : run tt (AbsCalls Try.prog) I13 3000 false [.code I13.body] ⟨(zBg 0 (xAf a0)), [false, false, false, false, false, true], [yAl r1, yAS r2, xAc r3, yAS r4, xAa r5, yAm r6, yAS r7, yAk r8, yAx r9, yAm r10, yEy r11, yCu r12], []⟩ = some (.done (xAg false) [AbC 62 (yAE a0 1048576) (yAl r1), (decide ((r1 : Int) < 0)) = false, AbC 64 (yBg a0) (yAS r2), AbC 63 (xAm r2) (xAc r3), AbC 64 (yBg a0) (yAS r4), AbC 65 (xAe r4) (xAa r5), AbC 19 (yAr r5 r3) (yAm r6), (!r6) = false, AbC 64 (yBg a0) (yAS r7), AbC 66 (yAC r4 r7) (yAk r8), (!r8) = false, AbC 67 (yAZ r4 1) (yAx r9), List.length r9.2 = List.length r4, (decide ((r9.1 : Int) < 0)) = false, AbC 19 (yAr r5 r3) (yAm r10), (!r10) = false, AbC 22 (yEx r5 1) (yEy r11), List.length r11.2.1 = List.length (Val.list r5), List.length r11.2.2.1 = List.length (Val.columns r5), List.length r11.2.2.2 = List.length (Val.rows r5), AbC 23 (yCt (Val.mk (Val.kind r5) (Val.n r5) (Val.step r5) (Val.text r5) r11.2.1 r11.2.2.1 r11.2.2.2) 1) (yCu r12), (decide ((r12 : Int) < 0)) = true]) := by kernel_rfl
theorem p13_e_6 (a0 : List Val) (r1 : Int) (r2 : (List Val)) (r3 : Val) (r4 : (List Val)) (r5 : Val) (r6 : Bool) (r7 : (List Val)) (r8 : Bool) (r9 : Int × (List Val)) (r10 : Bool) (r11 : Int × (List Val) × (List Str) × (List Rowd)) (r12 : Int) : run tt (AbsCalls Try.prog) I13 3000 false [.code I13.body] ⟨(zBg 0 (xAf a0)), [false, false, false, false, false, false, true], [yAl r1, yAS r2, xAc r3, yAS r4, xAa r5, yAm r6, yAS r7, yAk r8, yAx r9, yAm r10, yEy r11, yCu r12], []⟩ = some (.done (xAg false) [AbC 62 (yAE a0 1048576) (yAl r1), (decide ((r1 : Int) < 0)) = false, AbC 64 (yBg a0) (yAS r2), AbC 63 (xAm r2) (xAc r3), AbC 64 (yBg a0) (yAS r4), AbC 65 (xAe r4) (xAa r5), AbC 19 (yAr r5 r3) (yAm r6), (!r6) = false, AbC 64 (yBg a0) (yAS r7), AbC 66 (yAC r4 r7) (yAk r8), (!r8) = false, AbC 67 (yAZ r4 1) (yAx r9), List.length r9.2 = List.length r4, (decide ((r9.1 : Int) < 0)) = false, AbC 19 (yAr r5 r3) (yAm r10), (!r10) = false, AbC 22 (yEx r5 1) (yEy r11), List.length r11.2.1 = List.length (Val.list r5), List.length r11.2.2.1 = List.length (Val.columns r5), List.length r11.2.2.2 = List.length (Val.rows r5), AbC 23 (yCt (Val.mk (Val.kind r5) (Val.n r5) (Val.step r5) (Val.text r5) r11.2.1 r11.2.2.1 r11.2.2.2) 1) (yCu r12), (decide ((r12 : Int) < 0)) = false, ((r12 : Int) != r11.1) = true]) := by kernel_rfl
theorem p13_e_7 (a0 : List Val) (r1 : Int) (r2 : (List Val)) (r3 : Val) (r4 : (List Val)) (r5 : Val) (r6 : Bool) (r7 : (List Val)) (r8 : Bool) (r9 : Int × (List Val)) (r10 : Bool) (r11 : Int × (List Val) × (List Str) × (List Rowd)) (r12 : Int) (r13 : (List Val)) (r14 : Val) (r15 : Bool) : run tt (AbsCalls Try.prog) I13 3000 false [.code I13.body] ⟨(zBg 0 (xAf a0)), [false, false, false, false, false, false, false, true], [yAl r1, yAS r2, xAc r3, yAS r4, xAa r5, yAm r6, yAS r7, yAk r8, yAx r9, yAm r10, yEy r11, yCu r12, yAS r13, xAa r14, yAm r15], []⟩ = some (.done (xAg false) [AbC 62 (yAE a0 1048576) (yAl r1), (decide ((r1 : Int) < 0)) = false, AbC 64 (yBg a0) (yAS r2), AbC 63 (xAm r2) (xAc r3), AbC 64 (yBg a0) (yAS r4), AbC 65 (xAe r4) (xAa r5), AbC 19 (yAr r5 r3) (yAm r6), (!r6) = false, AbC 64 (yBg a0) (yAS r7), AbC 66 (yAC r4 r7) (yAk r8), (!r8) = false, AbC 67 (yAZ r4 1) (yAx r9), List.length r9.2 = List.length r4, (decide ((r9.1 : Int) < 0)) = false, AbC 19 (yAr r5 r3) (yAm r10), (!r10) = false, AbC 22 (yEx r5 1) (yEy r11), List.length r11.2.1 = List.length (Val.list r5), List.length r11.2.2.1 = List.length (Val.columns r5), List.length r11.2.2.2 = List.length (Val.rows r5), AbC 23 (yCt (Val.mk (Val.kind r5) (Val.n r5) (Val.step r5) (Val.text r5) r11.2.1 r11.2.2.1 r11.2.2.2) 1) (yCu r12), (decide ((r12 : Int) < 0)) = false, ((r12 : Int) != r11.1) = false, AbC 64 (yBg a0) (yAS r13), AbC 65 (xAe r13) (xAa r14), AbC 19 (yAr r14 r3) (yAm r15), (!r15) = true]) := by kernel_rfl
theorem p13_e_8 (a0 : List Val) (r1 : Int) (r2 : (List Val)) (r3 : Val) (r4 : (List Val)) (r5 : Val) (r6 : Bool) (r7 : (List Val)) (r8 : Bool) (r9 : Int × (List Val)) (r10 : Bool) (r11 : Int × (List Val) × (List Str) × (List Rowd)) (r12 : Int) (r13 : (List Val)) (r14 : Val) (r15 : Bool) (r16 : Int) : run tt (AbsCalls Try.prog) I13 3000 false [.code I13.body] ⟨(zBg 0 (xAf a0)), [false, false, false, false, false, false, false, false, true], [yAl r1, yAS r2, xAc r3, yAS r4, xAa r5, yAm r6, yAS r7, yAk r8, yAx r9, yAm r10, yEy r11, yCu r12, yAS r13, xAa r14, yAm r15, yCu r16], []⟩ = some (.done (xAg false) [AbC 62 (yAE a0 1048576) (yAl r1), (decide ((r1 : Int) < 0)) = false, AbC 64 (yBg a0) (yAS r2), AbC 63 (xAm r2) (xAc r3), AbC 64 (yBg a0) (yAS r4), AbC 65 (xAe r4) (xAa r5), AbC 19 (yAr r5 r3) (yAm r6), (!r6) = false, AbC 64 (yBg a0) (yAS r7), AbC 66 (yAC r4 r7) (yAk r8), (!r8) = false, AbC 67 (yAZ r4 1) (yAx r9), List.length r9.2 = List.length r4, (decide ((r9.1 : Int) < 0)) = false, AbC 19 (yAr r5 r3) (yAm r10), (!r10) = false, AbC 22 (yEx r5 1) (yEy r11), List.length r11.2.1 = List.length (Val.list r5), List.length r11.2.2.1 = List.length (Val.columns r5), List.length r11.2.2.2 = List.length (Val.rows r5), AbC 23 (yCt (Val.mk (Val.kind r5) (Val.n r5) (Val.step r5) (Val.text r5) r11.2.1 r11.2.2.1 r11.2.2.2) 1) (yCu r12), (decide ((r12 : Int) < 0)) = false, ((r12 : Int) != r11.1) = false, AbC 64 (yBg a0) (yAS r13), AbC 65 (xAe r13) (xAa r14), AbC 19 (yAr r14 r3) (yAm r15), (!r15) = false, AbC 23 (yCt (Val.mk (Val.kind r5) (Val.n r5) (Val.step r5) (Val.text r5) r11.2.1 r11.2.2.1 r11.2.2.2) 1) (yCu r16), (decide ((r16 : Int) < 0)) = true]) := by kernel_rfl
theorem p13_e_9 (a0 : List Val) (r1 : Int) (r2 : (List Val)) (r3 : Val) (r4 : (List Val)) (r5 : Val) (r6 : Bool) (r7 : (List Val)) (r8 : Bool) (r9 : Int × (List Val)) (r10 : Bool) (r11 : Int × (List Val) × (List Str) × (List Rowd)) (r12 : Int) (r13 : (List Val)) (r14 : Val) (r15 : Bool) (r16 : Int) : run tt (AbsCalls Try.prog) I13 3000 false [.code I13.body] ⟨(zBg 0 (xAf a0)), [false, false, false, false, false, false, false, false, false, true], [yAl r1, yAS r2, xAc r3, yAS r4, xAa r5, yAm r6, yAS r7, yAk r8, yAx r9, yAm r10, yEy r11, yCu r12, yAS r13, xAa r14, yAm r15, yCu r16], []⟩ = some (.done (xAg false) [AbC 62 (yAE a0 1048576) (yAl r1), (decide ((r1 : Int) < 0)) = false, AbC 64 (yBg a0) (yAS r2), AbC 63 (xAm r2) (xAc r3), AbC 64 (yBg a0) (yAS r4), AbC 65 (xAe r4) (xAa r5), AbC 19 (yAr r5 r3) (yAm r6), (!r6) = false, AbC 64 (yBg a0) (yAS r7), AbC 66 (yAC r4 r7) (yAk r8), (!r8) = false, AbC 67 (yAZ r4 1) (yAx r9), List.length r9.2 = List.length r4, (decide ((r9.1 : Int) < 0)) = false, AbC 19 (yAr r5 r3) (yAm r10), (!r10) = false, AbC 22 (yEx r5 1) (yEy r11), List.length r11.2.1 = List.length (Val.list r5), List.length r11.2.2.1 = List.length (Val.columns r5), List.length r11.2.2.2 = List.length (Val.rows r5), AbC 23 (yCt (Val.mk (Val.kind r5) (Val.n r5) (Val.step r5) (Val.text r5) r11.2.1 r11.2.2.1 r11.2.2.2) 1) (yCu r12), (decide ((r12 : Int) < 0)) = false, ((r12 : Int) != r11.1) = false, AbC 64 (yBg a0) (yAS r13), AbC 65 (xAe r13) (xAa r14), AbC 19 (yAr r14 r3) (yAm r15), (!r15) = false, AbC 23 (yCt (Val.mk (Val.kind r5) (Val.n r5) (Val.step r5) (Val.text r5) r11.2.1 r11.2.2.1 r11.2.2.2) 1) (yCu r16), (decide ((r16 : Int) < 0)) = false, ((r16 : Int) != r11.1) = true]) := by kernel_rfl
theorem p13_e_10 (a0 : List Val) (r1 : Int) (r2 : (List Val)) (r3 : Val) (r4 : (List Val)) (r5 : Val) (r6 : Bool) (r7 : (List Val)) (r8 : Bool) (r9 : Int × (List Val)) (r10 : Bool) (r11 : Int × (List Val) × (List Str) × (List Rowd)) (r12 : Int) (r13 : (List Val)) (r14 : Val) (r15 : Bool) (r16 : Int) : run tt (AbsCalls Try.prog) I13 3000 false [.code I13.body] ⟨(zBg 0 (xAf a0)), [false, false, false, false, false, false, false, false, false, false], [yAl r1, yAS r2, xAc r3, yAS r4, xAa r5, yAm r6, yAS r7, yAk r8, yAx r9, yAm r10, yEy r11, yCu r12, yAS r13, xAa r14, yAm r15, yCu r16], []⟩ = some (.done (xAg true) [AbC 62 (yAE a0 1048576) (yAl r1), (decide ((r1 : Int) < 0)) = false, AbC 64 (yBg a0) (yAS r2), AbC 63 (xAm r2) (xAc r3), AbC 64 (yBg a0) (yAS r4), AbC 65 (xAe r4) (xAa r5), AbC 19 (yAr r5 r3) (yAm r6), (!r6) = false, AbC 64 (yBg a0) (yAS r7), AbC 66 (yAC r4 r7) (yAk r8), (!r8) = false, AbC 67 (yAZ r4 1) (yAx r9), List.length r9.2 = List.length r4, (decide ((r9.1 : Int) < 0)) = false, AbC 19 (yAr r5 r3) (yAm r10), (!r10) = false, AbC 22 (yEx r5 1) (yEy r11), List.length r11.2.1 = List.length (Val.list r5), List.length r11.2.2.1 = List.length (Val.columns r5), List.length r11.2.2.2 = List.length (Val.rows r5), AbC 23 (yCt (Val.mk (Val.kind r5) (Val.n r5) (Val.step r5) (Val.text r5) r11.2.1 r11.2.2.1 r11.2.2.2) 1) (yCu r12), (decide ((r12 : Int) < 0)) = false, ((r12 : Int) != r11.1) = false, AbC 64 (yBg a0) (yAS r13), AbC 65 (xAe r13) (xAa r14), AbC 19 (yAr r14 r3) (yAm r15), (!r15) = false, AbC 23 (yCt (Val.mk (Val.kind r5) (Val.n r5) (Val.step r5) (Val.text r5) r11.2.1 r11.2.2.1 r11.2.2.2) 1) (yCu r16), (decide ((r16 : Int) < 0)) = false, ((r16 : Int) != r11.1) = false]) := by kernel_rfl
theorem c13_e {N : Nat} : ∀ a0 r, xAx N a0 = some r → Reach Try.prog Try.f13 I13 [.code I13.body] (zBg 0 (xAf a0)) (xAg r) := by
 intro a0 r h
 unfold xAx at h
 obtain ⟨r1, h0, h⟩ := bind_inv h
 rcases cond_inv h with ⟨h1, h⟩ | ⟨h1, h⟩
 ·obtain rfl := Option.some.inj h
  exact Reach.done ttok mix fk13 (p13_e_0 a0 r1) (obs_cons (xAp h0) (obs_cons h1 obs_nil))
 ·obtain ⟨r2, h2, h⟩ := bind_inv h
  obtain ⟨r3, h3, h⟩ := bind_inv h
  obtain ⟨r4, h4, h⟩ := bind_inv h
  obtain ⟨r5, h5, h⟩ := bind_inv h
  obtain ⟨r6, h6, h⟩ := bind_inv h
  rcases cond_inv h with ⟨h7, h⟩ | ⟨h7, h⟩
  ·obtain rfl := Option.some.inj h
   exact Reach.done ttok mix fk13 (p13_e_1 a0 r1 r2 r3 r4 r5 r6) (obs_cons (xAp h0) (obs_cons h1 (obs_cons (xAb h2) (obs_cons (xAq h3) (obs_cons (xAb h4) (obs_cons (xAj h5) (obs_cons (laws_eqValue_ok h6) (obs_cons h7 obs_nil))))))))
  ·obtain ⟨r7, h8, h⟩ := bind_inv h
   obtain ⟨r8, h9, h⟩ := bind_inv h
   rcases cond_inv h with ⟨h10, h⟩ | ⟨h10, h⟩
   ·obtain rfl := Option.some.inj h
    exact Reach.done ttok mix fk13 (p13_e_2 a0 r1 r2 r3 r4 r5 r6 r7 r8) (obs_cons (xAp h0) (obs_cons h1 (obs_cons (xAb h2) (obs_cons (xAq h3) (obs_cons (xAb h4) (obs_cons (xAj h5) (obs_cons (laws_eqValue_ok h6) (obs_cons h7 (obs_cons (xAb h8) (obs_cons (xAv h9) (obs_cons h10 obs_nil)))))))))))
   ·obtain ⟨r9, h11, h⟩ := bind_inv h
    obtain ⟨h12, h⟩ := ite_inv h
    rcases cond_inv h with ⟨h13, h⟩ | ⟨h13, h⟩
    ·obtain rfl := Option.some.inj h
     exact Reach.done ttok mix fk13 (p13_e_3 a0 r1 r2 r3 r4 r5 r6 r7 r8 r9) (obs_cons (xAp h0) (obs_cons h1 (obs_cons (xAb h2) (obs_cons (xAq h3) (obs_cons (xAb h4) (obs_cons (xAj h5) (obs_cons (laws_eqValue_ok h6) (obs_cons h7 (obs_cons (xAb h8) (obs_cons (xAv h9) (obs_cons h10 (obs_cons (laws_markValueS_ok h11) (obs_cons h12 (obs_cons h13 (obs_cons rfl obs_nil)))))))))))))))
    ·obtain ⟨r10, h14, h⟩ := bind_inv h
     rcases cond_inv h with ⟨h15, h⟩ | ⟨h15, h⟩
     ·obtain rfl := Option.some.inj h
      exact Reach.done ttok mix fk13 (p13_e_4 a0 r1 r2 r3 r4 r5 r6 r7 r8 r9 r10) (obs_cons (xAp h0) (obs_cons h1 (obs_cons (xAb h2) (obs_cons (xAq h3) (obs_cons (xAb h4) (obs_cons (xAj h5) (obs_cons (laws_eqValue_ok h6) (obs_cons h7 (obs_cons (xAb h8) (obs_cons (xAv h9) (obs_cons h10 (obs_cons (laws_markValueS_ok h11) (obs_cons h12 (obs_cons h13 (obs_cons (laws_eqValue_ok h14) (obs_cons h15 obs_nil))))))))))))))))
     ·obtain ⟨r11, h16, h⟩ := bind_inv h
      obtain ⟨h17, h⟩ := ite_inv h
      obtain ⟨h18, h⟩ := ite_inv h
      obtain ⟨h19, h⟩ := ite_inv h
      obtain ⟨r12, h20, h⟩ := bind_inv h
      rcases cond_inv h with ⟨h21, h⟩ | ⟨h21, h⟩
      ·obtain rfl := Option.some.inj h
       exact Reach.done ttok mix fk13 (p13_e_5 a0 r1 r2 r3 r4 r5 r6 r7 r8 r9 r10 r11 r12) (obs_cons (xAp h0) (obs_cons h1 (obs_cons (xAb h2) (obs_cons (xAq h3) (obs_cons (xAb h4) (obs_cons (xAj h5) (obs_cons (laws_eqValue_ok h6) (obs_cons h7 (obs_cons (xAb h8) (obs_cons (xAv h9) (obs_cons h10 (obs_cons (laws_markValueS_ok h11) (obs_cons h12 (obs_cons h13 (obs_cons (laws_eqValue_ok h14) (obs_cons h15 (obs_cons (laws_markValue_ok h16) (obs_cons h17 (obs_cons h18 (obs_cons h19 (obs_cons (laws_heldValue_ok h20) (obs_cons h21 obs_nil))))))))))))))))))))))
      ·rcases cond_inv h with ⟨h22, h⟩ | ⟨h22, h⟩
       ·obtain rfl := Option.some.inj h
        exact Reach.done ttok mix fk13 (p13_e_6 a0 r1 r2 r3 r4 r5 r6 r7 r8 r9 r10 r11 r12) (obs_cons (xAp h0) (obs_cons h1 (obs_cons (xAb h2) (obs_cons (xAq h3) (obs_cons (xAb h4) (obs_cons (xAj h5) (obs_cons (laws_eqValue_ok h6) (obs_cons h7 (obs_cons (xAb h8) (obs_cons (xAv h9) (obs_cons h10 (obs_cons (laws_markValueS_ok h11) (obs_cons h12 (obs_cons h13 (obs_cons (laws_eqValue_ok h14) (obs_cons h15 (obs_cons (laws_markValue_ok h16) (obs_cons h17 (obs_cons h18 (obs_cons h19 (obs_cons (laws_heldValue_ok h20) (obs_cons h21 (obs_cons h22 obs_nil)))))))))))))))))))))))
       ·obtain ⟨r13, h23, h⟩ := bind_inv h
        obtain ⟨r14, h24, h⟩ := bind_inv h
        obtain ⟨r15, h25, h⟩ := bind_inv h
        rcases cond_inv h with ⟨h26, h⟩ | ⟨h26, h⟩
        ·obtain rfl := Option.some.inj h
         exact Reach.done ttok mix fk13 (p13_e_7 a0 r1 r2 r3 r4 r5 r6 r7 r8 r9 r10 r11 r12 r13 r14 r15) (obs_cons (xAp h0) (obs_cons h1 (obs_cons (xAb h2) (obs_cons (xAq h3) (obs_cons (xAb h4) (obs_cons (xAj h5) (obs_cons (laws_eqValue_ok h6) (obs_cons h7 (obs_cons (xAb h8) (obs_cons (xAv h9) (obs_cons h10 (obs_cons (laws_markValueS_ok h11) (obs_cons h12 (obs_cons h13 (obs_cons (laws_eqValue_ok h14) (obs_cons h15 (obs_cons (laws_markValue_ok h16) (obs_cons h17 (obs_cons h18 (obs_cons h19 (obs_cons (laws_heldValue_ok h20) (obs_cons h21 (obs_cons h22 (obs_cons (xAb h23) (obs_cons (xAj h24) (obs_cons (laws_eqValue_ok h25) (obs_cons h26 obs_nil)))))))))))))))))))))))))))
        ·obtain ⟨r16, h27, h⟩ := bind_inv h
         rcases cond_inv h with ⟨h28, h⟩ | ⟨h28, h⟩
         ·obtain rfl := Option.some.inj h
          exact Reach.done ttok mix fk13 (p13_e_8 a0 r1 r2 r3 r4 r5 r6 r7 r8 r9 r10 r11 r12 r13 r14 r15 r16) (obs_cons (xAp h0) (obs_cons h1 (obs_cons (xAb h2) (obs_cons (xAq h3) (obs_cons (xAb h4) (obs_cons (xAj h5) (obs_cons (laws_eqValue_ok h6) (obs_cons h7 (obs_cons (xAb h8) (obs_cons (xAv h9) (obs_cons h10 (obs_cons (laws_markValueS_ok h11) (obs_cons h12 (obs_cons h13 (obs_cons (laws_eqValue_ok h14) (obs_cons h15 (obs_cons (laws_markValue_ok h16) (obs_cons h17 (obs_cons h18 (obs_cons h19 (obs_cons (laws_heldValue_ok h20) (obs_cons h21 (obs_cons h22 (obs_cons (xAb h23) (obs_cons (xAj h24) (obs_cons (laws_eqValue_ok h25) (obs_cons h26 (obs_cons (laws_heldValue_ok h27) (obs_cons h28 obs_nil)))))))))))))))))))))))))))))
         ·rcases cond_inv h with ⟨h29, h⟩ | ⟨h29, h⟩
          ·obtain rfl := Option.some.inj h
           exact Reach.done ttok mix fk13 (p13_e_9 a0 r1 r2 r3 r4 r5 r6 r7 r8 r9 r10 r11 r12 r13 r14 r15 r16) (obs_cons (xAp h0) (obs_cons h1 (obs_cons (xAb h2) (obs_cons (xAq h3) (obs_cons (xAb h4) (obs_cons (xAj h5) (obs_cons (laws_eqValue_ok h6) (obs_cons h7 (obs_cons (xAb h8) (obs_cons (xAv h9) (obs_cons h10 (obs_cons (laws_markValueS_ok h11) (obs_cons h12 (obs_cons h13 (obs_cons (laws_eqValue_ok h14) (obs_cons h15 (obs_cons (laws_markValue_ok h16) (obs_cons h17 (obs_cons h18 (obs_cons h19 (obs_cons (laws_heldValue_ok h20) (obs_cons h21 (obs_cons h22 (obs_cons (xAb h23) (obs_cons (xAj h24) (obs_cons (laws_eqValue_ok h25) (obs_cons h26 (obs_cons (laws_heldValue_ok h27) (obs_cons h28 (obs_cons h29 obs_nil))))))))))))))))))))))))))))))
          ·obtain rfl := Option.some.inj h
           exact Reach.done ttok mix fk13 (p13_e_10 a0 r1 r2 r3 r4 r5 r6 r7 r8 r9 r10 r11 r12 r13 r14 r15 r16) (obs_cons (xAp h0) (obs_cons h1 (obs_cons (xAb h2) (obs_cons (xAq h3) (obs_cons (xAb h4) (obs_cons (xAj h5) (obs_cons (laws_eqValue_ok h6) (obs_cons h7 (obs_cons (xAb h8) (obs_cons (xAv h9) (obs_cons h10 (obs_cons (laws_markValueS_ok h11) (obs_cons h12 (obs_cons h13 (obs_cons (laws_eqValue_ok h14) (obs_cons h15 (obs_cons (laws_markValue_ok h16) (obs_cons h17 (obs_cons h18 (obs_cons h19 (obs_cons (laws_heldValue_ok h20) (obs_cons h21 (obs_cons h22 (obs_cons (xAb h23) (obs_cons (xAj h24) (obs_cons (laws_eqValue_ok h25) (obs_cons h26 (obs_cons (laws_heldValue_ok h27) (obs_cons h28 (obs_cons h29 obs_nil))))))))))))))))))))))))))))))
theorem laws_FnExactBuildList_ok {N : Nat} {a0 : List Val} {r : Bool} (h : xAx N  a0 = some r) : AbC 13 (xAf a0) (xAg r) :=
 AbsCalls.of_reach fk13 rfl rfl (Nat.le_of_ble_eq_true rfl) (c13_e a0 r h)
end Go.Ab.T
end
section
namespace Go.Ab
set_option linter.unusedVariables false
set_option linter.unusedSimpArgs false
theorem guard {s : Nat} (h : ¬ left s 1048576 < 0) : s ≤ 1048576 := by unfold left at h; split at h <;> omega
end Go.Ab
end
section
namespace Go.Ab
set_option linter.unusedVariables false
set_option linter.unusedSimpArgs false
theorem szValueS_eq {x0 : List Val} (h : LFit maxLen (Val.Fit maxLen) x0) : Big fun N => ∀ l, 0 ≤ l → l ≤ 1048576 → xAY N x0 l = some (left (x0.length + (x0.map Val.size).sum) l) := by
  have key : Big2 fun N d => ∀ l, 0 ≤ l → l ≤ 1048576 → (yBf N d).c_laws_szValueS x0 l = some (left (x0.length + (x0.map Val.size).sum) l) := by
   refine Big2.succ ?_
   refine ((Big2.list fun x hx => szValue_big x (h.2 x hx)).and (yF0 x0.length).two).imp fun N d ⟨hx, hn⟩ l h0 l1 => ?_
   exact szThen h.1 h0 l1 rfl fun m m0 m1 =>
    szLoop (L := fun n x0 x1 x5 => yDr N (yBf N d).c_laws_szValue (yBf N d).c_laws_szValueS n x0 x1 x5) (d := Ty.val.dflt) (sz := (yBf N d).c_laws_szValue)
      (fun _ _ _ => rfl) h.1 (fun x hxm l h0 h1 => hx x hxm l h0 h1) hn m0 m1
  exact key.diag
theorem toValueS_eq {x0 : List Val} (h : LFit 1048576 (Val.Fit 1048576) x0) : Big fun N => xAI N x0 = some x0 := by
  have key : Big2 fun N d => (yAv N d).c_laws_toValueS x0 = some x0 :=
    Big2.succ (((Big2.list fun x hx => toValue_big x (h.2 x hx)).and (yF0 x0.length).two).imp fun N d ⟨hx, hn⟩ => toValueS_step h.1 hn hx)
  exact key.diag
theorem eqValueS_self {x0 : List Val} {K : Nat} (h : LFit K (Val.Fit K) x0) (hK : K ≤ 9223372036854775807) : Big fun N => xAX N x0 x0 = some true := by
  have hl : x0.length ≤ K := h.1
  have key : Big2 fun N d => (yAu N d).c_laws_eqValueS x0 x0 = some true :=
    Big2.succ (((Big2.list fun x hx => eqValue_big hK x (h.2 x hx)).and (yF0 x0.length).two).imp fun N d ⟨hx, hn⟩ => eqValueS_step (by omega) hn hx)
  exact key.diag
end Go.Ab
end
section
namespace Go.Ab
set_option linter.unusedVariables false
set_option linter.unusedSimpArgs false
theorem spec_l3Row_eq {N K : Nat} {r : Rowd} (h : r.Fit K) (hK : K ≤ 137438953472) : spec_l3Row N r = some r := by
  have h1 : r.cells.length ≤ K := h.1.1
  have h2 : r.frm.length ≤ K := h.2.1
  unfold spec_l3Row
  rw [if_pos (by unfold Lim; omega), if_pos (by unfold Lim; omega)]; rfl
theorem impl_copyRow_eq {N K : Nat} {r : Rowd} (h : r.Fit K) (hK : K ≤ 137438953472) : xAP N r = some r := spec_l3Row_eq (N := N) h hK
theorem spec_copy_b7_eq {N K : Nat} {rc : Val → Option Val} {v z : Val} {k n s : Int} {t : Str} {l : List Val} {c : List Str} (h : LFit K (Rowd.Fit K) v.rows) (hK : K ≤ 137438953472) (hN : K < N) :
    yF5 N rc N 0 v z (Val.mk k n s t l c []) = some (Val.mk k n s t l c v.rows) := by
  have hl : v.rows.length ≤ K := h.1
  exact yEP (L := fun m i q => yF5 N rc m i v z (Val.mk k n s t l c q)) v.rows (fun r q => Val.mk k n s t l c (q ++ r)) (fun i q => q.length = i) (fun m q hq => by simp [yF5])
    (fun i x r q hd hi hx hq => by
      have hq : q.length = i := hq
      have hi' : (i : Int) < (v.rows.length : Int) := by omega
      refine .inl ⟨q ++ [x], by simp [hq], by simp, fun m => ?_⟩
      simp only [yF5, decide_eq_true hi', cond_true, Int.toNat_natCast, yAF hx, spec_l3Row_eq (h.2 x (List.mem_of_getElem? hx)) hK, Option.bind_some, yAp hi (by omega : v.rows.length ≤ _), vk, vn, vs, vt, vl, vc, vr]
      rw [if_pos (by omega), if_pos (by simp only [List.length_cons, List.length_nil]; unfold Lim; omega)]) N 0 [] rfl (by omega) (by omega)
theorem spec_copy_step {N d K : Nat} {v : Val} (h : v.Fit K) (hK : K ≤ 137438953472) (hN : K < N) (hx : ∀ x ∈ v.list, spec_l3Copy_fix N d x = some x) : spec_l3Copy_body N (spec_l3Copy_fix N d) v = some v := by
  obtain ⟨h1, h2, h3, h4, h5, h6, h7⟩ := Val.fit_iff.1 h
  have hl : v.list.length ≤ K := h5.1
  have hc : v.columns.length ≤ K := h6.1
  unfold spec_l3Copy_body
  rw [if_pos (by unfold Lim; omega)]
  have key := yEP (L := fun m i q => yF4 N (spec_l3Copy_fix N d) m i v (Val.mk 0 0 0 [] [] [] []) (Val.mk v.kind v.n v.step v.text q ([] ++ v.columns) [])) v.list (fun l q => Val.mk v.kind v.n v.step v.text (q ++ l) v.columns v.rows) (fun i q => q.length = i)
    (fun m q hq => by
      simp only [yF4, Int.lt_irrefl, decide_false, cond_false, List.append_nil, List.nil_append]
      exact spec_copy_b7_eq h7 hK hN)
    (fun i x l q hd hi hxi hq => by
      have hq : q.length = i := hq
      have hi' : (i : Int) < (v.list.length : Int) := by omega
      refine .inl ⟨q ++ [x], by simp [hq], by simp, fun m => ?_⟩
      simp only [yF4, decide_eq_true hi', cond_true, Int.toNat_natCast, yAF hxi, hx x (List.mem_of_getElem? hxi), Option.bind_some, Val.re_eq, yAp hi (by omega : v.list.length ≤ _), vk, vn, vs, vt, vl, vc, vr]
      rw [if_pos (by omega), if_pos (by simp only [List.length_cons, List.length_nil]; unfold Lim; omega)]) N 0 [] rfl (by omega) (by omega)
  rw [List.drop_zero, List.nil_append, List.nil_append, Val.eta] at key
  exact key
theorem spec_copy_big {K : Nat} (hK : K ≤ 137438953472) : ∀ v : Val, v.Fit K → Big2 fun N d => spec_l3Copy_fix N d v = some v := by
  refine Val.ind fun k n s t a c r ih h => ?_
  have h5 := (Val.fit_iff.1 h).2.2.2.2.1
  refine Big2.succ ?_
  exact ((Big2.list fun x hx => ih x hx (h5.2 x hx)).and (yF0 K).two).imp fun N d ⟨hx, hN⟩ => spec_copy_step h hK hN hx
theorem spec_copy_eq' {K : Nat} {v : Val} (h : v.Fit K) (hK : K ≤ 137438953472) : Big fun N => xAT N v = some v := (spec_copy_big hK v h).diag
theorem impl_copy_b6_eq {N K : Nat} {rc : Val → Option Val} {rd : List Val → Option (List Val)} {z : Val} {k n s : Int} {t : Str} {l : List Val} {c : List Str} {rs : List Rowd} (h : LFit K (Rowd.Fit K) rs) (hK : K ≤ 137438953472) (hN : K < N) :
    xAw N rc rd N rs rs.length 0 z (Val.mk k n s t l c []) = some (Val.mk k n s t l c rs) := by
  have hl : rs.length ≤ K := h.1
  exact yEP (L := fun m i q => xAw N rc rd m rs rs.length i z (Val.mk k n s t l c q)) rs (fun r q => Val.mk k n s t l c (q ++ r)) (fun i q => q.length = i) (fun m q hq => by simp [xAw])
    (fun i x r q hd hi hx hq => by
      have hq : q.length = i := hq
      have hi' : (i : Int) < (rs.length : Int) := by omega
      refine .inl ⟨q ++ [x], by simp [hq], by simp, fun m => ?_⟩
      simp only [xAw, decide_eq_true hi', cond_true, Int.toNat_natCast, yAF hx, impl_copyRow_eq (h.2 x (List.mem_of_getElem? hx)) hK, Option.bind_some, yAp hi (by omega : rs.length ≤ _), vk, vn, vs, vt, vl, vc, vr]
      rw [if_pos (by omega), if_pos (by simp only [List.length_cons, List.length_nil]; unfold Lim; omega)]) N 0 [] rfl (by omega) (by omega)
theorem xA0 {N d : Nat} {a : List Val} (hl : a.length ≤ 137438953472) (hn : a.length < N) (hx : ∀ x ∈ a, (xAd N d).c_impl_copyValue x = some x) : (xAd N (d + 1)).c_impl_copyValues a = some a := by
  show xAz N (xAd N d).c_impl_copyValue (xAd N d).c_impl_copyValues a = _
  unfold xAz
  exact yEP (L := fun m i q => xAy N (xAd N d).c_impl_copyValue (xAd N d).c_impl_copyValues m q a a.length i) a (fun l q => q ++ l) (fun i q => q.length = i) (fun m q hq => by simp [xAy])
    (fun i x l q hd hi hxi hq => by
      have hq : q.length = i := hq
      have hi' : (i : Int) < (a.length : Int) := by omega
      refine .inl ⟨q ++ [x], by simp [hq], by simp, fun m => ?_⟩
      simp only [xAy, decide_eq_true hi', cond_true, Int.toNat_natCast, yAF hxi, hx x (List.mem_of_getElem? hxi), Option.bind_some, Val.re_eq, yAp hi (by omega : a.length ≤ _)]
      rw [if_pos (by omega), if_pos (by simp only [List.length_cons, List.length_nil]; unfold Lim; omega)]) N 0 [] rfl (by omega) (by omega)
theorem impl_copy_step {N d K : Nat} {v : Val} (h : v.Fit K) (hK : K ≤ 137438953472) (hN : K < N) (hx : (xAd N d).c_impl_copyValues v.list = some v.list) : (xAd N (d + 1)).c_impl_copyValue v = some v := by
  obtain ⟨h1, h2, h3, h4, h5, h6, h7⟩ := Val.fit_iff.1 h
  have hc : v.columns.length ≤ K := h6.1
  show xAA N (xAd N d).c_impl_copyValue (xAd N d).c_impl_copyValues v = _
  unfold xAA
  rw [hx, Option.bind_some, if_pos (by unfold Lim; omega), impl_copy_b6_eq h7 hK hN, List.nil_append, Val.eta]
theorem impl_copy_big {K : Nat} (hK : K ≤ 137438953472) : ∀ v : Val, v.Fit K → Big2 fun N d => (xAd N d).c_impl_copyValue v = some v := by
  refine Val.ind fun k n s t a c r ih h => ?_
  have h5 := (Val.fit_iff.1 h).2.2.2.2.1
  have hl : a.length ≤ K := h5.1
  refine Big2.succ (Big2.succ ?_)
  exact ((Big2.list fun x hx => ih x hx (h5.2 x hx)).and (yF0 K).two).imp fun N d ⟨hx, hN⟩ => impl_copy_step h hK hN (xA0 (a := a) (by omega) (by omega) hx)
theorem impl_copy_eq' {K : Nat} {v : Val} (h : v.Fit K) (hK : K ≤ 137438953472) : Big fun N => xAO N v = some v := (impl_copy_big hK v h).diag
theorem impl_copies_eq {K : Nat} {a : List Val} (h : LFit K (Val.Fit K) a) (hK : K ≤ 137438953472) : Big fun N => xAS N a = some a := by
  have hl : a.length ≤ K := h.1
  have key : Big2 fun N d => (xAd N d).c_impl_copyValues a = some a :=
    Big2.succ (((Big2.list fun x hx => impl_copy_big hK x (h.2 x hx)).and (yF0 K).two).imp fun N d ⟨hx, hN⟩ => xA0 (by omega) (by omega) hx)
  exact key.diag
end Go.Ab
end
section
namespace Go.Ab
set_option linter.unusedVariables false
set_option linter.unusedSimpArgs false
theorem listV_fit {K : Nat} {l : List Val} (h : LFit K (Val.Fit K) l) : (Val.mk 3 0 0 [] l [] []).Fit K :=
  Val.fit_iff.2 ⟨i64_of (by show (-1000000 : Int) ≤ 3; omega) (by show (3 : Int) ≤ 1000000; omega), i64_of (by show (-1000000 : Int) ≤ 0; omega) (by show (0 : Int) ≤ 1000000; omega), i64_of (by show (-1000000 : Int) ≤ 0; omega) (by show (0 : Int) ≤ 1000000; omega), Nat.zero_le _, h, lfit_nil, lfit_nil⟩
theorem listV_cnt (l : List Val) : (Val.mk 3 0 0 [] l [] []).cnt = 4 + (l.map Val.cnt).sum := by
  rw [valCnt, vl, vc, vr]; simp only [List.map_nil, List.sum_nil]; omega
def xAZ (l : List Val) : Val := bif (opG l).2.1 then (opG l).1 else bif !(l.all elemK) then errV 4 else bif decide ((l.length : Int) > 8) then errV 6 else bif decide ((Val.mk 3 0 0 [] l [] []).dep > 3) then errV 6 else .mk 3 0 0 [] l [] []
theorem spec_ListValue_eq {N : Nat} {l : List Val} (hl : l.length ≤ 137438953472) (hn : l.length < N) (hc : ∀ x ∈ l, xAT N x = some x) : xAJ N l = some (.mk 3 0 0 [] l [] []) :=
  yEP (L := fun m i q => xAB N m l i (Val.mk 0 0 0 [] [] [] []) (Val.mk 3 0 0 [] q [] [])) l (fun r q => Val.mk 3 0 0 [] (q ++ r) [] []) (fun i q => q.length = i) (fun m q _ => by simp [xAB])
    (fun i x r q hd hi hx hq => by
      have hq : q.length = i := hq
      have hi' : (i : Int) < (l.length : Int) := by omega
      refine .inl ⟨q ++ [x], by simp [hq], by simp, fun m => ?_⟩
      simp only [xAB, decide_eq_true hi', cond_true, Int.toNat_natCast, yAF hx, hc x (List.mem_of_getElem? hx), Option.bind_some, Val.re_eq, vk, vn, vs, vt, vl, vc, vr, yAp hi (by omega : l.length ≤ _)]
      rw [if_pos (by omega), if_pos (by simp only [List.length_cons, List.length_nil]; unfold Lim; omega)]) N 0 [] rfl (by omega) (by omega)
end Go.Ab
end
section
namespace Go.Ab
set_option linter.unusedVariables false
set_option linter.unusedSimpArgs false
theorem allLoopG {α ρ : Type} {L : Nat → Int → Option ρ} {x0 : List α} {p : α → Bool} {e b : Option ρ} (hend : ∀ n, L (n + 1) (x0.length : Nat) = e)
    (hcons : ∀ (i : Nat) x n, i < x0.length → x0[i]? = some x → x ∈ x0 → L (n + 1) (i : Nat) = bif p x then L n ((i + 1 : Nat) : Int) else b) {n : Nat} (hn : x0.length < n) :
    L n 0 = bif x0.all p then e else b := by
  have key : ∀ (m i : Nat), i ≤ x0.length → x0.length < m + i → L m (i : Nat) = bif (x0.drop i).all p then e else b := by
    intro m
    induction m with
    | zero => intro i h1 h2; omega
    | succ m ih =>
      intro i h1 h2
      cases hd : x0.drop i with
      | nil =>
        have := drop_nil hd
        obtain rfl : i = x0.length := by omega
        rw [hend]; rfl
      | cons x l =>
        obtain ⟨g1, g2, g3⟩ := drop_cons hd
        rw [hcons i x m g1 g2 (List.mem_of_getElem? g2), ih (i + 1) (by omega) (by omega), g3, List.all_cons]
        cases p x <;> rfl
  exact key n 0 (by omega) (by omega)
theorem build_eq {K : Nat} (hK : 24 ≤ K ∧ K ≤ 137438953472) {l : List Val} (h : LFit K (Val.Fit K) l) : Big fun N => xAC N l = some (xAZ l) ∧ xAF N l = some (xAZ l) := by
  have hl : l.length ≤ K := h.1
  have hv : (Val.mk 3 0 0 [] l [] []).Fit K := listV_fit h
  have hof : (opG l).1.Fit K := (flat_opG h.2).fit K
  refine ((operandError_eq (by omega) h.2 hl).and ((impl_copies_eq h (by omega)).and ((Big.list fun x hx => spec_copy_eq' (h.2 x hx) (by omega)).and ((depth_of (by omega) hv).and ((impl_copy_eq' hof (by omega)).and ((spec_copy_eq' hof (by omega)).and (yF0 K))))))).imp fun N ⟨⟨h1, h2⟩, h3, h4, h5, h6, h7, hN⟩ => ?_
  have hsl := spec_ListValue_eq (N := N) (by omega : l.length ≤ _) (by omega) h4
  have hil : xAG N l = some (.mk 3 0 0 [] l [] []) := by simp only [xAG, h3, Option.bind_some]
  cases g1 : (opG l).2.1
  · have hok := opG_ok g1
    obtain ⟨d1, d2⟩ := h5 hok
    have htag := opG_tag g1
    have hi1 : xAo N N l l l.length 0 (Val.mk 0 0 0 [] [] [] []) = some (xAZ l) := by
      have := allLoopG (L := fun m i => xAo N m l l l.length i (Val.mk 0 0 0 [] [] [] [])) (x0 := l) (p := elemK) (e := some (bif decide ((l.length : Int) > 8) then errV 6 else bif decide ((Val.mk 3 0 0 [] l [] []).dep > 3) then errV 6 else .mk 3 0 0 [] l [] [])) (b := some (errV 4)) (n := N)
        (fun n => by
          simp only [xAo, Int.lt_irrefl, decide_false, cond_false, hil, Option.bind_some, d1, yDN]
          cases decide ((l.length : Int) > 8) <;> cases decide ((Val.mk 3 0 0 [] l [] []).dep > 3) <;> rfl)
        (fun i x n hi hx hm => by
          have hi' : (i : Int) < (l.length : Int) := by omega
          simp only [xAo, decide_eq_true hi', cond_true, Int.toNat_natCast, yAF hx, yAp hi (by omega : l.length ≤ _), yDN, Option.bind_some, bne, elemK]
          rw [if_pos (by omega)]
          cases (x.kind == 1) <;> cases (x.kind == 2) <;> cases (x.kind == 3) <;> rfl) (by omega)
      have this : xAo N N l l l.length 0 (Val.mk 0 0 0 [] [] [] []) = _ := this
      rw [this, xAZ, g1]
      cases l.all elemK <;> rfl
    have hi2 : xAu N N l 0 (Val.mk 0 0 0 [] [] [] []) = some (xAZ l) := by
      have := allLoopG (L := fun m i => xAu N m l i (Val.mk 0 0 0 [] [] [] [])) (x0 := l) (p := elemK) (e := some (bif decide ((l.length : Int) > 8) then errV 6 else bif decide ((Val.mk 3 0 0 [] l [] []).dep > 3) then errV 6 else .mk 3 0 0 [] l [] [])) (b := some (errV 4)) (n := N)
        (fun n => by
          simp only [xAu, Int.lt_irrefl, decide_false, cond_false, hsl, Option.bind_some, d2, yCH]
          cases decide ((l.length : Int) > 8) <;> cases decide ((Val.mk 3 0 0 [] l [] []).dep > 3) <;> rfl)
        (fun i x n hi hx hm => by
          have hi' : (i : Int) < (l.length : Int) := by omega
          simp only [xAu, yEf, decide_eq_true hi', cond_true, Int.toNat_natCast, yAF hx, yAp hi (by omega : l.length ≤ _), yCH, Option.bind_some, elemK]
          rw [if_pos (by omega)]
          cases (x.kind == 1) <;> cases (x.kind == 2) <;> cases (x.kind == 3) <;> rfl) (by omega)
      have this : xAu N N l 0 (Val.mk 0 0 0 [] [] [] []) = _ := this
      rw [this, xAZ, g1]
      cases l.all elemK <;> rfl
    refine ⟨?_, ?_⟩
    · simp only [xAC, h1, Option.bind_some, htag, g1, cond_false, hi1]
    · simp only [xAF, h2, Option.bind_some, g1, cond_false, hi2]
  · refine ⟨?_, ?_⟩
    · simp only [xAC, h1, Option.bind_some, g1, cond_true, h6, xAZ]
      cases (opG l).2.2 <;> rfl
    · simp only [xAF, h2, Option.bind_some, g1, cond_true, h7, xAZ]
theorem buildG_good {l : List Val} (h : LFit 1048576 (Val.Fit 1048576) l) (hc : (l.map Val.cnt).sum ≤ 10000000000) : (xAZ l).Fit 1048576 ∧ (xAZ l).cnt ≤ 100000000000 := by
  have he : ∀ c : Int, -1000000 ≤ c → c ≤ 1000000 → (errV c).Fit 1048576 ∧ (errV c).cnt ≤ 100000000000 := fun c h1 h2 => ⟨(flat_err (i64_of h1 h2)).fit _, by rw [(flat_err (i64_of h1 h2)).cnt]; omega⟩
  unfold xAZ
  cases (opG l).2.1
  · cases l.all elemK
    · exact he 4 (by omega) (by omega)
    · cases decide ((l.length : Int) > 8)
      · cases decide ((Val.mk 3 0 0 [] l [] []).dep > 3)
        · refine ⟨listV_fit h, ?_⟩
          show (Val.mk 3 0 0 [] l [] []).cnt ≤ _
          rw [listV_cnt]; omega
        · exact he 6 (by omega) (by omega)
      · exact he 6 (by omega) (by omega)
  · exact ⟨(flat_opG h.2).fit _, by show (opG l).1.cnt ≤ _; rw [(flat_opG h.2).cnt]; omega⟩
theorem vals_of_cells {a0 : List Val} (f0 : ∀ z ∈ [CV.sl .ro .val a0], DFit z.toD) : LFit maxLen (Val.Fit maxLen) a0 := cell_sl (f0 _ List.mem_cons_self).dk
theorem markValueS_at {K : Nat} (hK : K ≤ 137438953472) {l : List Val} (h : LFit K (Val.Fit K) l) :
    Big fun N => ∀ k : Int, 0 ≤ k → k + ((l.map Val.cnt).sum : Nat) ≤ 137438953472 → ∃ ys, ys.length = l.length ∧ yE3 N l k = some (k + ((l.map Val.cnt).sum : Nat), ys) := by
  have hb : Big2 fun N d => ∀ x ∈ l, MarkV N d x.list := Big2.list fun x hx => markV_big hK x (h.2 x hx)
  have key : Big2 fun N d => MarkV N d l := Big2.succ ((hb.and (yF0 274877906944).two).imp fun N d ⟨hx, hN⟩ => markV_step hN (fun x hxm => by have := (Val.fit_iff.1 (h.2 x hxm)).2.2.2.2.2.2.1; omega) hx)
  exact key.diag.imp fun N hm k h0 h1 => by
    obtain ⟨ys, a1, a2, _⟩ := hm k h0 h1
    exact ⟨ys, a1, a2⟩
theorem xAU (a0 : List Val) (f0 : ∀ z ∈ [CV.sl .ro .val a0], DFit z.toD) : ∃ N, xAx N a0 = some true := by
  have hF := vals_of_cells f0
  by_cases h : left (a0.length + (a0.map Val.size).sum) 1048576 < 0
  · exact ((szValueS_eq hF).imp fun N hs => by simp [xAx, hs 1048576 (by omega) (by omega), h]).get
  · have hg := guard h
    have hs : LFit 1048576 (Val.Fit 1048576) a0 := lfit_size (f := Val.size) hF hg fun x _ => Val.fit_size x
    have hc := sum_le_mul (f := Val.cnt) (g := Val.size) (l := a0) (a := 4) fun x _ => Val.cnt_le x
    obtain ⟨hff, hfc⟩ := buildG_good hs (by omega)
    refine (((szValueS_eq hF).and ((toValueS_eq hs).and (eqValueS_self hs (by omega)))).and (((build_eq (by omega) hs).and (eqValue_self hff (by omega))).and ((markValueS_at (by omega) hs).and (markValue_held (by omega) hff (by omega))))).imp (fun N ⟨⟨k1, k2, k3⟩, ⟨⟨k4, k5⟩, k6⟩, k7, k8⟩ => ?_) |>.get
    obtain ⟨ys, p1, p2⟩ := k7 1 (by omega) (by omega)
    obtain ⟨k', ya, yb, yc, q0, q1, q2, q3, q4, q5⟩ := k8
    generalize xAZ a0 = r at *
    simp [xAx, k1 1048576 (by omega) (by omega), k2, k3, k4, k5, k6, h, p1, p2, decide_eq_false (by omega : ¬ (1 + (((a0.map Val.cnt).sum : Nat) : Int)) < 0), q1, q2, q3, q4, q5, decide_eq_false (by omega : ¬ k' < 0)]
end Go.Ab
end
section
namespace Go.Proofs.Ytkbojckenecnbaa
open Go.Ab Go.ChangeShapes Go.WideShapes Go.ChangeAt Go.RowKit
set_option linter.unusedVariables false
theorem own : ownKnob Try.prog.godebug = none := by kernel_rfl
theorem laidOut : laidOutB Try.prog = true := by kernel_rfl
theorem xA2 : ktChk Try.prog [(3, .int), (9, .str), (40, .val), (137, .org), (148, .row)] = true := by kernel_rfl
set_option maxRecDepth 100000 in
theorem fnExactBuildList_lifted (os : Os) (started : os.Started) (H : Type) (enc : TypeId × Value → H) :
    ReturnsInHanded {} Try.checked os 13 .any (Rows.fnExactBuildListSpec.pre6 enc Try.prog Try.f13 Rows.fnExactBuildListRow.domain false) (Rows.fnExactBuildListSpec.post enc Try.prog Try.f13 false true false false) := by
  refine returnsInHanded_of_change (C := Try.checked) own started (by kernel_rfl) Try.func13
    (ChangeSpec.witness6 (enc := enc) (C := Try.checked) false ⟨#[], #[.slice none 0 0], []⟩ 8 (by kernel_rfl) (by kernel_rfl) (by kernel_rfl) (by kernel_rfl)) ?_
  intro W base args ds gs before hval0 hW hcnd _
  have hval : ∀ (j : Nat) t v, Try.f13.params[j]? = some t → args[j]? = some v → Value.okWide Try.prog W .any base t v := hval0
  have hW' := hW
  obtain ⟨p, q, hA0, hV, rfl, hfz, hnd⟩ := hW
  have hA : DataW.TrodAll enc Try.prog W 0 (fun _ => true) true Try.f13.params.toList args.toList ds p := hA0
  rw [Try.params13] at hA hval
  obtain ⟨v0, vs0, d0, ds0, p0, q0, hargs, rfl, rfl, h0, r0⟩ := trodAll_cons hA
  obtain ⟨rfl, rfl, rfl⟩ := trodAll_nil r0
  obtain rfl : args = #[v0] := by cases args; simp_all
  obtain ⟨rfl, rfl⟩ := trodVars_none hV
  have lt0 : ∀ x ∈ p0, x.block < W.heap.size := by obtain ⟨m, hm⟩ := h0; exact DataW.trod_lt m _ _ _ hm
  obtain ⟨z0, e0, f0, vr0⟩ := vr_of xA2 (g := false) (t := 37) (ns := [.inr .val]) (by kernel_rfl) (hval 0 37 v0 rfl rfl) h0
  obtain ⟨x0_0, _, rfl, e0_0⟩ := AreOf.sl_inv e0
  obtain rfl := e0_0.nil_inv
  obtain ⟨N, hF⟩ := xAU x0_0 f0
  clear hA0 hval0
  refine (calls_of T.fk13 (T.laws_FnExactBuildList_ok hF) (W := W) (args := #[v0]) ⟨vr0 _, trivial⟩).mono fun e W' ⟨he, bel⟩ => ?_
  subst he
  exact ⟨_, rfl, _, _, _, [], _, [], hW', trodAll_mk1 (shut_bool Try.underlying4 _), (trodAll_cons_mk (Below.trod laidOut (by kernel_rfl) (of_decide_eq_true (by kernel_rfl)) h0 bel lt0) trodAll_mk0), rfl, bel.frame _, fun h => by cases h⟩
theorem fnExactBuildList_proved : Rows.FnExactBuildListSaid :=
  OpenClaim.holds_of_wide 13 Try.f13 rfl rfl rfl rfl rfl rfl rfl ⟨rfl, rfl, rfl, rfl, rfl⟩ rfl rfl rfl rfl rfl (by kernel_rfl) Try.func13 (by kernel_rfl)
    (of_decide_eq_true (by kernel_rfl)) (by unfold Func.isWrapper; first | (rw [if_pos (by decide +kernel)]; kernel_rfl) | (rw [if_neg (by decide +kernel)]; exact ⟨rfl, rfl⟩))
    (fun os started H enc _ => fnExactBuildList_lifted os started H enc)
end Go.Proofs.Ytkbojckenecnbaa
end
