/- The statement FnExactTableOf holds: plain functions, certificates, laws. Conditions: none. -/
import Derived.LaidMore
import Derived.Lay
import Derived.SevenTiedAt
import Derived.Shelf.Strings.Split
import Derived.Stop.Joined
import Derived.Test.YtkfoneofdidhkaaDoorCards
import Derived.Test.YtkfoneofdidhkaaDoorChecked
import Derived.Test.YtkfoneofdidhkaaDoorProg
import Derived.Test.YtkfoneofdidhkaaDoorRows
import Derived.Test.YtkfoneofdidhkaaDoorTie
import Derived.Test.YtkfoneofdidhkaaDoorK2
set_option linter.all false
section
namespace Go.Ab
set_option linter.unusedVariables false
def xAr (a0 : Val) : List Arg := [.val (.v true [.int .i64 (Val.kind a0), .int .i64 (Val.n a0), .int .i64 (Val.step a0), .str (Val.text a0), .sl .ro .val (Val.list a0), .sl .ro .str (Val.columns a0), .sl .ro .row (Val.rows a0)])]
def xAm (r : (List Int) × Bool) : CallO := ⟨.tup [(false, [.sl .own .int r.1]), (false, [.bool r.2])], [], []⟩
def xAq (N : Nat) : Nat → (List Int) → Int → Val → Option ((List Int) × Bool)
  | 0, _, _, _ => none
  | n + 1, x4, x5, b1 =>
    bif (decide ((x5 : Int) < (List.length (Val.list b1) : Int))) then (
      if (0 : Int) ≤ x5 ∧ x5 < (List.length (Val.list b1)) then
      bif (((Val.kind (List.getD (Val.list b1) (Int.toNat x5) Ty.val.dflt)) : Int) != 1) then (
        some (x4, false)
      ) else (
        if List.length x4 + List.length [(Val.n (List.getD (Val.list b1) (Int.toNat x5) Ty.val.dflt))] ≤ Lim then
        (xAq N n (x4 ++ [(Val.n (List.getD (Val.list b1) (Int.toNat x5) Ty.val.dflt))]) (IntKind.i64.wrap (x5 + 1)) b1)
        else none
      )
      else none
    ) else (
      some (x4, (((Val.kind b1) : Int) == 3))
    )
def xAu (N : Nat) (a0 : Val) : Option ((List Int) × Bool) :=
  (xAq N N [] 0 a0)
def xAh (a0 : Val) (a1 : Val) : List Arg := [.val (.v true [.int .i64 (Val.kind a0), .int .i64 (Val.n a0), .int .i64 (Val.step a0), .str (Val.text a0), .sl .ro .val (Val.list a0), .sl .ro .str (Val.columns a0), .sl .ro .row (Val.rows a0)]), .val (.v true [.int .i64 (Val.kind a1), .int .i64 (Val.n a1), .int .i64 (Val.step a1), .str (Val.text a1), .sl .ro .val (Val.list a1), .sl .ro .str (Val.columns a1), .sl .ro .row (Val.rows a1)])]
def xAa (r : Val) : CallO := ⟨.v true [.int .i64 (Val.kind r), .int .i64 (Val.n r), .int .i64 (Val.step r), .str (Val.text r), .sl .own .val (Val.list r), .sl .own .str (Val.columns r), .sl .own .row (Val.rows r)], [], []⟩
def xAo (N : Nat) : Nat → Int → Val → Val → Val → Option (Val)
  | 0, _, _, _, _ => none
  | n + 1, x8, b3, b4, b7 =>
    bif (decide ((x8 : Int) < (List.length (Val.list b3) : Int))) then (
      if (0 : Int) ≤ x8 ∧ x8 < (List.length (Val.list b3)) then
      Option.bind (xAu N (List.getD (Val.list b3) (Int.toNat x8) Ty.val.dflt)) fun r1 =>
      bif (!r1.2) then (
        Option.bind (yB2 N 4) fun r2 =>
        some r2
      ) else (
        bif (((List.length r1.1 : Int) : Int) != (List.length (Val.columns b7) : Int)) then (
          Option.bind (yB2 N 4) fun r2 =>
          some r2
        ) else (
          if List.length (Val.rows b7) + List.length [(Rowd.mk r1.1 [])] ≤ Lim then
          (xAo N n (IntKind.i64.wrap (x8 + 1)) b3 b4 (Val.mk (Val.kind b7) (Val.n b7) (Val.step b7) (Val.text b7) (Val.list b7) (Val.columns b7) ((Val.rows b7) ++ [(Rowd.mk r1.1 [])])))
          else none
        )
      )
      else none
    ) else (
      some b7
    )
def xAt (N : Nat) (a0 : Val) (a1 : Val) : Option (Val) :=
  Option.bind (yFU N [(Val.re a0), (Val.re a1)] [2, 3]) fun r1 =>
  bif r1.2 then (
    some r1.1
  ) else (
    Option.bind (yFc N (Val.text a0) 32) fun r2 =>
    Option.bind (yFd N r2) fun r3 =>
    bif (!r3) then (
      Option.bind (yB2 N 7) fun r4 =>
      some r4
    ) else (
      (xAo N N 0 a1 (Val.mk 0 0 0 [] [] [] []) (Val.mk 5 0 0 [] [] r2 []))
    )
  )
def xAd (a0 : Val) (a1 : Val) : List Arg := [.val (.v true [.int .i64 (Val.kind a0), .int .i64 (Val.n a0), .int .i64 (Val.step a0), .str (Val.text a0), .sl .ro .val (Val.list a0), .sl .ro .str (Val.columns a0), .sl .ro .row (Val.rows a0)]), .val (.v true [.int .i64 (Val.kind a1), .int .i64 (Val.n a1), .int .i64 (Val.step a1), .str (Val.text a1), .sl .ro .val (Val.list a1), .sl .ro .str (Val.columns a1), .sl .ro .row (Val.rows a1)])]
def xAy (r : Val × Bool) : CallO := ⟨.v true [.int .i64 (Val.kind r.1), .int .i64 (Val.n r.1), .int .i64 (Val.step r.1), .str (Val.text r.1), .sl .ro .val (Val.list r.1), .sl .ro .str (Val.columns r.1), .sl .ro .row (Val.rows r.1)], [], []⟩
def xAe (r : Val × Bool) : CallO := ⟨.v true [.int .i64 (Val.kind r.1), .int .i64 (Val.n r.1), .int .i64 (Val.step r.1), .str (Val.text r.1), .sl .own .val (Val.list r.1), .sl .own .str (Val.columns r.1), .sl .own .row (Val.rows r.1)], [], []⟩
def xAf (r : Val × Bool) : CallO := ⟨.v true [.int .i64 (Val.kind r.1), .int .i64 (Val.n r.1), .int .i64 (Val.step r.1), .str (Val.text r.1), .sl .ro .val [], .sl .ro .str [], .sl .ro .row []], [], []⟩
def xAl (r : Val × Bool) : CallO := bif r.2 then xAy r else xAe r
def xAp (N : Nat) (k8 : (List Val) → Int → Int → Val → Val → Option (Val × Bool)) : Nat → (List Val) → Int → Int → (List Val) → Int → Int → Val → Val → Rowd → Option (Val × Bool)
  | 0, _, _, _, _, _, _, _, _, _ => none
  | n + 1, x33, x34, x35, x54, x55, x56, b4, b7, b10 =>
    bif (decide ((x56 : Int) < x55)) then (
      if (0 : Int) ≤ x56 ∧ x56 < (List.length x54) then
      bif (((Val.kind (List.getD x54 (Int.toNat x56) Ty.val.dflt)) : Int) != 1) then (
        Option.bind (yC9 N 4) fun r1 =>
        some (r1, false)
      ) else (
        if List.length (Rowd.cells b10) + List.length [(Val.n (List.getD x54 (Int.toNat x56) Ty.val.dflt))] ≤ Lim then
        (xAp N k8 n x33 x34 x35 x54 x55 (IntKind.i64.wrap (x56 + 1)) b4 b7 (Rowd.mk ((Rowd.cells b10) ++ [(Val.n (List.getD x54 (Int.toNat x56) Ty.val.dflt))]) (Rowd.frm b10)))
        else none
      )
      else none
    ) else (
      if List.length (Val.rows b7) + List.length [b10] ≤ Lim then
      (k8 x33 x34 (IntKind.i64.wrap (x35 + 1)) b4 (Val.mk (Val.kind b7) (Val.n b7) (Val.step b7) (Val.text b7) (Val.list b7) (Val.columns b7) ((Val.rows b7) ++ [b10])))
      else none
    )
def xAn (N : Nat) : Nat → (List Val) → Int → Int → Val → Val → Option (Val × Bool)
  | 0, _, _, _, _, _ => none
  | n + 1, x33, x34, x35, b4, b7 =>
    bif (decide ((x35 : Int) < x34)) then (
      if (0 : Int) ≤ x35 ∧ x35 < (List.length x33) then
      bif (((Val.kind (List.getD x33 (Int.toNat x35) Ty.val.dflt)) : Int) != 3) then (
        Option.bind (yC9 N 4) fun r1 =>
        some (r1, false)
      ) else (
        bif (((List.length (Val.list (List.getD x33 (Int.toNat x35) Ty.val.dflt)) : Int) : Int) != (List.length (Val.columns b7) : Int)) then (
          Option.bind (yC9 N 4) fun r1 =>
          some (r1, false)
        ) else (
          (xAp N (fun z0 z1 z2 z3 z4 => (xAn N n z0 z1 z2 z3 z4)) N x33 x34 x35 (Val.list (List.getD x33 (Int.toNat x35) Ty.val.dflt)) (List.length (Val.list (List.getD x33 (Int.toNat x35) Ty.val.dflt)) : Int) 0 b4 b7 (Rowd.mk [] []))
        )
      )
      else none
    ) else (
      some (b7, false)
    )
def xAs (N : Nat) (a0 : Val) (a1 : Val) : Option (Val × Bool) :=
  Option.bind (yE3 N [2, 3] [(Val.re a0), (Val.re a1)]) fun r1 =>
  bif r1.2.2 then (
    if List.isEmpty (Val.list r1.1) = true then
    if List.isEmpty (Val.columns r1.1) = true then
    if List.isEmpty (Val.rows r1.1) = true then
    bif r1.2.1 then (
      some ((Val.mk (Val.kind r1.1) (Val.n r1.1) (Val.step r1.1) (Val.text r1.1) [] [] []), true)
    ) else (
      Option.bind (yE2 N (Val.text a0) 32) fun r2 =>
      Option.bind (yEw N r2) fun r3 =>
      bif (!r3) then (
        Option.bind (yC9 N 7) fun r4 =>
        some (r4, false)
      ) else (
        (xAn N N (Val.list a1) (List.length (Val.list a1) : Int) 0 (Val.mk 0 0 0 [] [] [] []) (Val.mk 5 0 0 [] [] r2 []))
      )
    )
    else none
    else none
    else none
  ) else (
    bif r1.2.1 then (
      some (r1.1, false)
    ) else (
      Option.bind (yE2 N (Val.text a0) 32) fun r2 =>
      Option.bind (yEw N r2) fun r3 =>
      bif (!r3) then (
        Option.bind (yC9 N 7) fun r4 =>
        some (r4, false)
      ) else (
        (xAn N N (Val.list a1) (List.length (Val.list a1) : Int) 0 (Val.mk 0 0 0 [] [] [] []) (Val.mk 5 0 0 [] [] r2 []))
      )
    )
  )
def xAb (a0 : Val) (a1 : Val) : List Arg := [.val (.v true [.int .i64 (Val.kind a0), .int .i64 (Val.n a0), .int .i64 (Val.step a0), .str (Val.text a0), .sl .ro .val (Val.list a0), .sl .ro .str (Val.columns a0), .sl .ro .row (Val.rows a0)]), .val (.v true [.int .i64 (Val.kind a1), .int .i64 (Val.n a1), .int .i64 (Val.step a1), .str (Val.text a1), .sl .ro .val (Val.list a1), .sl .ro .str (Val.columns a1), .sl .ro .row (Val.rows a1)])]
def xAc (r : Bool) : CallO := ⟨.v false [.bool r], [], []⟩
def xAv (N : Nat) (a0 : Val) (a1 : Val) : Option (Bool) :=
  Option.bind (yFO N a0 1048576) fun r1 =>
  bif (decide ((r1 : Int) < 0)) then (
    some true
  ) else (
    Option.bind (yFO N a1 r1) fun r2 =>
    bif (decide ((r2 : Int) < 0)) then (
      some true
    ) else (
      Option.bind (yBd N a0) fun r3 =>
      Option.bind (yBd N a1) fun r4 =>
      Option.bind (xAt N r3 r4) fun r5 =>
      Option.bind (yBd N a0) fun r6 =>
      Option.bind (yBd N a1) fun r7 =>
      Option.bind (xAs N r6 r7) fun r8 =>
      bif r8.2 then (
        if List.isEmpty (Val.list r8.1) = true then
        if List.isEmpty (Val.columns r8.1) = true then
        if List.isEmpty (Val.rows r8.1) = true then
        Option.bind (yBc N (Val.mk (Val.kind r8.1) (Val.n r8.1) (Val.step r8.1) (Val.text r8.1) [] [] []) r5) fun r9 =>
        bif (!r9) then (
          some false
        ) else (
          Option.bind (yBd N a0) fun r10 =>
          Option.bind (yBc N r6 r10) fun r11 =>
          bif (!r11) then (
            some false
          ) else (
            Option.bind (yBd N a1) fun r12 =>
            Option.bind (yBc N r7 r12) fun r13 =>
            bif (!r13) then (
              some false
            ) else (
              Option.bind (yBC N r6 1) fun r14 =>
              if List.length r14.2.1 = List.length (Val.list r6) then
              if List.length r14.2.2.1 = List.length (Val.columns r6) then
              if List.length r14.2.2.2 = List.length (Val.rows r6) then
              Option.bind (yBC N r7 r14.1) fun r15 =>
              if List.length r15.2.1 = List.length (Val.list r7) then
              if List.length r15.2.2.1 = List.length (Val.columns r7) then
              if List.length r15.2.2.2 = List.length (Val.rows r7) then
              bif (decide ((r15.1 : Int) < 0)) then (
                some false
              ) else (
                Option.bind (yBc N (Val.mk (Val.kind r8.1) (Val.n r8.1) (Val.step r8.1) (Val.text r8.1) [] [] []) r5) fun r16 =>
                bif (!r16) then (
                  some false
                ) else (
                  Option.bind (yDt N (Val.mk (Val.kind r8.1) (Val.n r8.1) (Val.step r8.1) (Val.text r8.1) [] [] []) 1) fun r17 =>
                  Option.bind (yAR N (Val.mk (Val.kind r8.1) (Val.n r8.1) (Val.step r8.1) (Val.text r8.1) [] [] []) 1) fun r18 =>
                  bif (decide ((r18 : Int) < 0)) then (
                    some false
                  ) else (
                    bif ((r18 : Int) != r17) then (
                      some false
                    ) else (
                      Option.bind (yBd N a0) fun r19 =>
                      Option.bind (yBd N a1) fun r20 =>
                      Option.bind (xAs N r19 r20) fun r21 =>
                      bif r21.2 then (
                        if List.isEmpty (Val.list r21.1) = true then
                        if List.isEmpty (Val.columns r21.1) = true then
                        if List.isEmpty (Val.rows r21.1) = true then
                        Option.bind (yBc N (Val.mk (Val.kind r21.1) (Val.n r21.1) (Val.step r21.1) (Val.text r21.1) [] [] []) r5) fun r22 =>
                        bif (!r22) then (
                          some false
                        ) else (
                          Option.bind (yAR N (Val.mk (Val.kind r8.1) (Val.n r8.1) (Val.step r8.1) (Val.text r8.1) [] [] []) 1) fun r23 =>
                          bif (decide ((r23 : Int) < 0)) then (
                            some false
                          ) else (
                            bif ((r23 : Int) != r17) then (
                              some false
                            ) else (
                              some true
                            )
                          )
                        )
                        else none
                        else none
                        else none
                      ) else (
                        Option.bind (yBc N r21.1 r5) fun r22 =>
                        bif (!r22) then (
                          some false
                        ) else (
                          Option.bind (yAR N (Val.mk (Val.kind r8.1) (Val.n r8.1) (Val.step r8.1) (Val.text r8.1) [] [] []) 1) fun r23 =>
                          bif (decide ((r23 : Int) < 0)) then (
                            some false
                          ) else (
                            bif ((r23 : Int) != r17) then (
                              some false
                            ) else (
                              some true
                            )
                          )
                        )
                      )
                    )
                  )
                )
              )
              else none
              else none
              else none
              else none
              else none
              else none
            )
          )
        )
        else none
        else none
        else none
      ) else (
        Option.bind (yBc N r8.1 r5) fun r9 =>
        bif (!r9) then (
          some false
        ) else (
          Option.bind (yBd N a0) fun r10 =>
          Option.bind (yBc N r6 r10) fun r11 =>
          bif (!r11) then (
            some false
          ) else (
            Option.bind (yBd N a1) fun r12 =>
            Option.bind (yBc N r7 r12) fun r13 =>
            bif (!r13) then (
              some false
            ) else (
              Option.bind (yBC N r6 1) fun r14 =>
              if List.length r14.2.1 = List.length (Val.list r6) then
              if List.length r14.2.2.1 = List.length (Val.columns r6) then
              if List.length r14.2.2.2 = List.length (Val.rows r6) then
              Option.bind (yBC N r7 r14.1) fun r15 =>
              if List.length r15.2.1 = List.length (Val.list r7) then
              if List.length r15.2.2.1 = List.length (Val.columns r7) then
              if List.length r15.2.2.2 = List.length (Val.rows r7) then
              bif (decide ((r15.1 : Int) < 0)) then (
                some false
              ) else (
                Option.bind (yBc N r8.1 r5) fun r16 =>
                bif (!r16) then (
                  some false
                ) else (
                  Option.bind (yBC N r8.1 1) fun r17 =>
                  if List.length r17.2.1 = List.length (Val.list r8.1) then
                  if List.length r17.2.2.1 = List.length (Val.columns r8.1) then
                  if List.length r17.2.2.2 = List.length (Val.rows r8.1) then
                  Option.bind (yAR N (Val.mk (Val.kind r8.1) (Val.n r8.1) (Val.step r8.1) (Val.text r8.1) r17.2.1 r17.2.2.1 r17.2.2.2) 1) fun r18 =>
                  bif (decide ((r18 : Int) < 0)) then (
                    some false
                  ) else (
                    bif ((r18 : Int) != r17.1) then (
                      some false
                    ) else (
                      Option.bind (yBd N a0) fun r19 =>
                      Option.bind (yBd N a1) fun r20 =>
                      Option.bind (xAs N r19 r20) fun r21 =>
                      bif r21.2 then (
                        if List.isEmpty (Val.list r21.1) = true then
                        if List.isEmpty (Val.columns r21.1) = true then
                        if List.isEmpty (Val.rows r21.1) = true then
                        Option.bind (yBc N (Val.mk (Val.kind r21.1) (Val.n r21.1) (Val.step r21.1) (Val.text r21.1) [] [] []) r5) fun r22 =>
                        bif (!r22) then (
                          some false
                        ) else (
                          Option.bind (yAR N (Val.mk (Val.kind r8.1) (Val.n r8.1) (Val.step r8.1) (Val.text r8.1) r17.2.1 r17.2.2.1 r17.2.2.2) 1) fun r23 =>
                          bif (decide ((r23 : Int) < 0)) then (
                            some false
                          ) else (
                            bif ((r23 : Int) != r17.1) then (
                              some false
                            ) else (
                              some true
                            )
                          )
                        )
                        else none
                        else none
                        else none
                      ) else (
                        Option.bind (yBc N r21.1 r5) fun r22 =>
                        bif (!r22) then (
                          some false
                        ) else (
                          Option.bind (yAR N (Val.mk (Val.kind r8.1) (Val.n r8.1) (Val.step r8.1) (Val.text r8.1) r17.2.1 r17.2.2.1 r17.2.2.2) 1) fun r23 =>
                          bif (decide ((r23 : Int) < 0)) then (
                            some false
                          ) else (
                            bif ((r23 : Int) != r17.1) then (
                              some false
                            ) else (
                              some true
                            )
                          )
                        )
                      )
                    )
                  )
                  else none
                  else none
                  else none
                )
              )
              else none
              else none
              else none
              else none
              else none
              else none
            )
          )
        )
      )
    )
  )
end Go.Ab
end
section
open Go.Proofs
namespace Go.Ab.T
set_option linter.unusedVariables false
set_option maxRecDepth 100000
section
variable {ρ : Type} {f : FuncId} {fn : Func} {I : Info} {ag : List Arg} {bs : List Bool} {cs : List CallO} {k j : Nat} {σ σ' : St} {ob : List Prop} {ro : ρ → CallO} {x r : ρ} {q : CallO}
end
noncomputable def I30 : Info := { body := (Tryd.f30.body).getD .skip, nt := 35, results := [.tmp 2, .tmp 3], keep := [0, 2, 4, 6, 8, 10, 22, 40, 3], live := [(3, [2, 8, 10, 3])], modes := [(6, [(0, .take, false)]), (7, [(0, .take, false)]), (8, [(0, .take, false)])] }
theorem fk30 : FnOk Tryd.prog 30 Tryd.f30 I30 := ⟨Tryd.func30, by kernel_rfl, by kernel_rfl, by kernel_rfl, by kernel_rfl⟩
def S30_3 (x4 : List Int) (x5 : Int) (b1 : Val) : St := [(2, .v false [.ptr 1 0]), (8, .v false [.sl .own .int x4]), (10, .v false [.int .i64 x5]), (3, .v true [.int .i64 (Val.kind b1), .int .i64 (Val.n b1), .int .i64 (Val.step b1), .str (Val.text b1), .sl .ro .val (Val.list b1), .sl .ro .str (Val.columns b1), .sl .ro .row (Val.rows b1)])]
theorem p30_3_0 (x4 : List Int) (x5 : Int) (b1 : Val) : rS 3 I30 (S30_3 x4 x5 b1) [Y, Y] [] = dn (xAm (x4, false)) [(decide ((x5 : Int) < (Ln (Val.list b1) : Int))) = true, (0 : Int) ≤ x5 ∧ x5 < (Ln (Val.list b1)), (((Val.kind (gD (Val.list b1) (tN x5) vd)) : Int) != 1) = true] := by kernel_rfl
theorem p30_3_1 (x4 : List Int) (x5 : Int) (b1 : Val) : rS 3 I30 (S30_3 x4 x5 b1) [Y, F] [] = st 3 I30 (S30_3 (x4 ++ [(Val.n (gD (Val.list b1) (tN x5) vd))]) (W (x5 + 1)) b1) [(decide ((x5 : Int) < (Ln (Val.list b1) : Int))) = true, (0 : Int) ≤ x5 ∧ x5 < (Ln (Val.list b1)), (((Val.kind (gD (Val.list b1) (tN x5) vd)) : Int) != 1) = false, (0 : Int) ≤ x5 ∧ x5 < (Ln (Val.list b1)), Ln x4 + Ln [(Val.n (gD (Val.list b1) (tN x5) vd))] ≤ Lim] := by kernel_rfl
theorem p30_3_2 (x4 : List Int) (x5 : Int) (b1 : Val) : rS 3 I30 (S30_3 x4 x5 b1) [F] [] = dn (xAm (x4, (((Val.kind b1) : Int) == 3))) [(decide ((x5 : Int) < (Ln (Val.list b1) : Int))) = false] := by kernel_rfl
theorem p30_e_3 (a0 : Val) : rE I30 (xAr a0) [] [] = st 3 I30 (S30_3 [] 0 a0) [] := by kernel_rfl
theorem c30_3 {N : Nat} : ∀ n x4 x5 b1 r, xAq N n x4 x5 b1 = some r → RS Tryd.f30 I30 3 (S30_3 x4 x5 b1) (xAm r) := by
 intro n
 induction n with
 | zero => exact fun _ _ _ _ h => nE h
 | succ n ih =>
  exact fun x4 x5 b1 r h =>
   cE h (fun h0 h => iE h fun h1 h => cE h (fun h2 h => dS h fk30 (p30_3_0 x4 x5 b1) (oc h0 (oc h1 (oc h2 on)))) fun h2 h =>
   iE h fun h4 h => tS fk30 (p30_3_1 x4 x5 b1) (oc h0 (oc h1 (oc h2 (oc h1 (oc h4 on))))) (ih _ _ _ _ h)) fun h0 h =>
   dS h fk30 (p30_3_2 x4 x5 b1) (oc h0 on)
theorem c30_e {N : Nat} : ∀ a0 r, xAu N a0 = some r → RE Tryd.f30 I30 (xAr a0) (xAm r) := fun a0 r h =>
 tE fk30 (p30_e_3 a0) on (c30_3 _ _ _ _ _ h)
theorem xAx {N : Nat} {a0 : Val} {r : (List Int) × Bool} (h : xAu N  a0 = some r) : AbC 30 (xAr a0) (xAm r) :=
 AbsCalls.of_reach fk30 rfl rfl (Nat.le_of_ble_eq_true rfl) (c30_e a0 r h)
noncomputable def I8 : Info := { body := (Tryd.f8.body).getD .skip, nt := 65, results := [.cell 4 31], keep := [0, 2, 4, 6, 8, 10, 12, 14, 16, 18, 20, 38, 56, 68, 110, 5, 7, 9, 11, 15], live := [(8, [6, 8, 14, 16, 7, 9, 15])], modes := [(1, [(5, .take, false)]), (2, [(0, .take, false)]), (3, [(0, .take, false)]), (10, [(6, .take, false)]), (11, [(0, .take, false), (2, .take, false)]), (13, [(1, .take, false), (2, .take, false), (5, .take, false)]), (14, [(0, .take, false)])] }
theorem fk8 : FnOk Tryd.prog 8 Tryd.f8 I8 := ⟨Tryd.func8, by kernel_rfl, by kernel_rfl, by kernel_rfl, by kernel_rfl⟩
def S8_8 (x8 : Int) (b3 b4 b7 : Val) : St := [(6, .v false [.ptr 3 0]), (8, .v false [.ptr 4 0]), (14, .v false [.ptr 7 0]), (16, .v false [.int .i64 x8]), (7, .v true [.int .i64 (Val.kind b3), .int .i64 (Val.n b3), .int .i64 (Val.step b3), .str (Val.text b3), .sl .ro .val (Val.list b3), .sl .ro .str (Val.columns b3), .sl .ro .row (Val.rows b3)]), (9, .v true [.int .i64 (Val.kind b4), .int .i64 (Val.n b4), .int .i64 (Val.step b4), .str (Val.text b4), .sl .own .val (Val.list b4), .sl .own .str (Val.columns b4), .sl .own .row (Val.rows b4)]), (15, .v true [.int .i64 (Val.kind b7), .int .i64 (Val.n b7), .int .i64 (Val.step b7), .str (Val.text b7), .sl .own .val (Val.list b7), .sl .own .str (Val.columns b7), .sl .own .row (Val.rows b7)])]
theorem p8_8_0 (x8 : Int) (b3 b4 b7 : Val) (r1 : (List Int) × Bool) (r2 : Val) : rS 8 I8 (S8_8 x8 b3 b4 b7) [Y, Y, Y] [xAm r1, yA1 r2] = dn (xAa r2) [(decide ((x8 : Int) < (Ln (Val.list b3) : Int))) = true, (0 : Int) ≤ x8 ∧ x8 < (Ln (Val.list b3)), AbC 30 (xAr (gD (Val.list b3) (tN x8) vd)) (xAm r1), (!r1.2) = true, true = true, AbC 29 (yB9 4) (yA1 r2)] := by kernel_rfl
theorem p8_8_1 (x8 : Int) (b3 b4 b7 : Val) (r1 : (List Int) × Bool) (r2 : Val) : rS 8 I8 (S8_8 x8 b3 b4 b7) [Y, F, Y] [xAm r1, yA1 r2] = dn (xAa r2) [(decide ((x8 : Int) < (Ln (Val.list b3) : Int))) = true, (0 : Int) ≤ x8 ∧ x8 < (Ln (Val.list b3)), AbC 30 (xAr (gD (Val.list b3) (tN x8) vd)) (xAm r1), (!r1.2) = false, (((Ln r1.1 : Int) : Int) != (Ln (Val.columns b7) : Int)) = true, AbC 29 (yB9 4) (yA1 r2)] := by kernel_rfl
theorem p8_8_2 (x8 : Int) (b3 b4 b7 : Val) (r1 : (List Int) × Bool) : rS 8 I8 (S8_8 x8 b3 b4 b7) [Y, F, F] [xAm r1] = st 8 I8 (S8_8 (W (x8 + 1)) b3 b4 (Val.mk (Val.kind b7) (Val.n b7) (Val.step b7) (Val.text b7) (Val.list b7) (Val.columns b7) ((Val.rows b7) ++ [(Rowd.mk r1.1 [])]))) [(decide ((x8 : Int) < (Ln (Val.list b3) : Int))) = true, (0 : Int) ≤ x8 ∧ x8 < (Ln (Val.list b3)), AbC 30 (xAr (gD (Val.list b3) (tN x8) vd)) (xAm r1), (!r1.2) = false, (((Ln r1.1 : Int) : Int) != (Ln (Val.columns b7) : Int)) = false, Ln (Val.rows b7) + Ln [(Rowd.mk r1.1 [])] ≤ Lim] := by kernel_rfl
theorem p8_8_3 (x8 : Int) (b3 b4 b7 : Val) : rS 8 I8 (S8_8 x8 b3 b4 b7) [F] [] = dn (xAa b7) [(decide ((x8 : Int) < (Ln (Val.list b3) : Int))) = false] := by kernel_rfl
theorem p8_e_4 (a0 a1 : Val) (r1 : Val × Bool) : rE I8 (xAh a0 a1) [Y] [yDg r1] = dn (xAa r1.1) [AbC 26 (yEK [(Val.re a0), (Val.re a1)] [2, 3]) (yDg r1), r1.2 = true] := by kernel_rfl
theorem p8_e_5 (a0 a1 : Val) (r1 : Val × Bool) (r2 : (List Str)) (r3 : Bool) (r4 : Val) : rE I8 (xAh a0 a1) [F, Y] [yDg r1, yDZ r2, yAH r3, yA1 r4] = dn (xAa r4) [AbC 26 (yEK [(Val.re a0), (Val.re a1)] [2, 3]) (yDg r1), r1.2 = false, AbC 27 (yEZ (Val.text a0) 32) (yDZ r2), AbC 28 (yCv r2) (yAH r3), (!r3) = true, AbC 29 (yB9 7) (yA1 r4)] := by kernel_rfl
theorem p8_e_6 (a0 a1 : Val) (r1 : Val × Bool) (r2 : (List Str)) (r3 : Bool) : rE I8 (xAh a0 a1) [F, F] [yDg r1, yDZ r2, yAH r3] = st 8 I8 (S8_8 0 a1 (Val.mk 0 0 0 [] [] [] []) (Val.mk 5 0 0 [] [] r2 [])) [AbC 26 (yEK [(Val.re a0), (Val.re a1)] [2, 3]) (yDg r1), r1.2 = false, AbC 27 (yEZ (Val.text a0) 32) (yDZ r2), AbC 28 (yCv r2) (yAH r3), (!r3) = false] := by kernel_rfl
theorem c8_8 {N : Nat} : ∀ n x8 b3 b4 b7 r, xAo N n x8 b3 b4 b7 = some r → RS Tryd.f8 I8 8 (S8_8 x8 b3 b4 b7) (xAa r) := by
 intro n
 induction n with
 | zero => exact fun _ _ _ _ _ h => nE h
 | succ n ih =>
  exact fun x8 b3 b4 b7 r h =>
   cE h (fun h0 h => iE h fun h1 h => bE h fun r1 h2 h => cE h (fun h3 h => bE h fun r2 h5 h => dS h fk8 (p8_8_0 x8 b3 b4 b7 r1 r2) (oc h0 (oc h1 (oc (xAx h2) (oc h3 (oc rfl (oc (yEG h5) on))))))) fun h3 h =>
   cE h (fun h4 h => bE h fun r2 h5 h => dS h fk8 (p8_8_1 x8 b3 b4 b7 r1 r2) (oc h0 (oc h1 (oc (xAx h2) (oc h3 (oc h4 (oc (yEG h5) on))))))) fun h4 h =>
   iE h fun h5 h => tS fk8 (p8_8_2 x8 b3 b4 b7 r1) (oc h0 (oc h1 (oc (xAx h2) (oc h3 (oc h4 (oc h5 on)))))) (ih _ _ _ _ _ h)) fun h0 h =>
   dS h fk8 (p8_8_3 x8 b3 b4 b7) (oc h0 on)
theorem c8_e {N : Nat} : ∀ a0 a1 r, xAt N a0 a1 = some r → RE Tryd.f8 I8 (xAh a0 a1) (xAa r) := fun a0 a1 r h =>
 bE h fun r1 h0 h => cE h (fun h1 h => dE h fk8 (p8_e_4 a0 a1 r1) (oc (spec_l7Check_ok h0) (oc h1 on))) fun h1 h =>
 bE h fun r2 h2 h => bE h fun r3 h3 h => cE h (fun h4 h => bE h fun r4 h5 h => dE h fk8 (p8_e_5 a0 a1 r1 r2 r3 r4) (oc (spec_l7Check_ok h0) (oc h1 (oc (spec_SplitByte_ok h2) (oc (yE0 h3) (oc h4 (oc (yEG h5) on))))))) fun h4 h =>
 tE fk8 (p8_e_6 a0 a1 r1 r2 r3) (oc (spec_l7Check_ok h0) (oc h1 (oc (spec_SplitByte_ok h2) (oc (yE0 h3) (oc h4 on))))) (c8_8 _ _ _ _ _ _ h)
theorem xAi {N : Nat} {a0 : Val} {a1 : Val} {r : Val} (h : xAt N  a0 a1 = some r) : AbC 8 (xAh a0 a1) (xAa r) :=
 AbsCalls.of_reach fk8 rfl rfl (Nat.le_of_ble_eq_true rfl) (c8_e a0 a1 r h)
end Go.Ab.T
end
section
open Go.Proofs
namespace Go.Ab.T
set_option linter.unusedVariables false
set_option maxRecDepth 100000
theorem impl_TableOf_toR {P : Program} {f : FuncId} {ags : List Arg} {r : Val × Bool} (h : AbsCalls P f ags (xAl r)) (ht : r.2 = true) : AbsCalls P f ags (xAy r) := by
 unfold xAl at h; rw [ht] at h; exact h
theorem xAk {P : Program} {f : FuncId} {ags : List Arg} {r : Val × Bool} (h : AbsCalls P f ags (xAl r)) (ht : r.2 = false) : AbsCalls P f ags (xAe r) := by
 unfold xAl at h; rw [ht] at h; exact h
theorem xAj {P : Program} {f : FuncId} {ags : List Arg} {r : Val × Bool} (h : AbsCalls P f ags (xAl r)) (ht : r.2 = true) (e0 : List.isEmpty (Val.list r.1) = true) (e1 : List.isEmpty (Val.columns r.1) = true) (e2 : List.isEmpty (Val.rows r.1) = true) : AbsCalls P f ags (xAf r) := by
 have h := impl_TableOf_toR h ht
 unfold xAy at h; rw [List.isEmpty_iff.1 e0, List.isEmpty_iff.1 e1, List.isEmpty_iff.1 e2] at h; exact h
noncomputable def I10 : Info := { body := (Tryd.f10.body).getD .skip, nt := 80, results := [.cell 4 31], keep := [0, 2, 4, 6, 8, 10, 12, 14, 18, 20, 24, 42, 60, 66, 68, 70, 72, 100, 108, 110, 112, 114, 124, 5, 7, 9, 11, 15, 19, 21, 25], live := [(8, [8, 14, 66, 68, 70, 9, 15]), (14, [8, 14, 20, 66, 68, 70, 108, 110, 112, 9, 15, 21])], modes := [(1, [(4, .take, true), (5, .take, false)]), (2, [(0, .take, false)]), (3, [(0, .take, false)]), (10, [(3, .take, false)]), (18, [(1, .take, false)]), (19, [(1, .take, false)]), (20, [(1, .take, false), (2, .take, false), (4, .take, false)]), (21, [(1, .take, false)]), (22, [(0, .take, false)])] }
theorem fk10 : FnOk Tryd.prog 10 Tryd.f10 I10 := ⟨Tryd.func10, by kernel_rfl, by kernel_rfl, by kernel_rfl, by kernel_rfl⟩
def S10_8 (x33 : List Val) (x34 x35 : Int) (b4 b7 : Val) : St := [(8, .v false [.ptr 4 0]), (14, .v false [.ptr 7 0]), (66, .v false [.sl .ro .val x33]), (68, .v false [.int .i64 x34]), (70, .v false [.int .i64 x35]), (9, .v true [.int .i64 (Val.kind b4), .int .i64 (Val.n b4), .int .i64 (Val.step b4), .str (Val.text b4), .sl .own .val (Val.list b4), .sl .own .str (Val.columns b4), .sl .own .row (Val.rows b4)]), (15, .v true [.int .i64 (Val.kind b7), .int .i64 (Val.n b7), .int .i64 (Val.step b7), .str (Val.text b7), .sl .own .val (Val.list b7), .sl .own .str (Val.columns b7), .sl .own .row (Val.rows b7)])]
def S10_14 (x33 : List Val) (x34 x35 : Int) (x54 : List Val) (x55 x56 : Int) (b4 b7 : Val) (b10 : Rowd) : St := [(8, .v false [.ptr 4 0]), (14, .v false [.ptr 7 0]), (20, .v false [.ptr 10 0]), (66, .v false [.sl .ro .val x33]), (68, .v false [.int .i64 x34]), (70, .v false [.int .i64 x35]), (108, .v false [.sl .ro .val x54]), (110, .v false [.int .i64 x55]), (112, .v false [.int .i64 x56]), (9, .v true [.int .i64 (Val.kind b4), .int .i64 (Val.n b4), .int .i64 (Val.step b4), .str (Val.text b4), .sl .own .val (Val.list b4), .sl .own .str (Val.columns b4), .sl .own .row (Val.rows b4)]), (15, .v true [.int .i64 (Val.kind b7), .int .i64 (Val.n b7), .int .i64 (Val.step b7), .str (Val.text b7), .sl .own .val (Val.list b7), .sl .own .str (Val.columns b7), .sl .own .row (Val.rows b7)]), (21, .v true [.sl .own .int (Rowd.cells b10), .sl .own .org (Rowd.frm b10)])]
theorem p10_14_0 (x33 : List Val) (x34 x35 : Int) (x54 : List Val) (x55 x56 : Int) (b4 b7 : Val) (b10 : Rowd) (r1 : Val) : rS 14 I10 (S10_14 x33 x34 x35 x54 x55 x56 b4 b7 b10) [Y, Y] [yBG r1] = dn (xAl (r1, false)) [(decide ((x56 : Int) < x55)) = true, (0 : Int) ≤ x56 ∧ x56 < (Ln x54), (((Val.kind (gD x54 (tN x56) vd)) : Int) != 1) = true, AbC 37 (yCV 4) (yBG r1)] := by kernel_rfl
theorem p10_14_1 (x33 : List Val) (x34 x35 : Int) (x54 : List Val) (x55 x56 : Int) (b4 b7 : Val) (b10 : Rowd) : rS 14 I10 (S10_14 x33 x34 x35 x54 x55 x56 b4 b7 b10) [Y, F] [] = st 14 I10 (S10_14 x33 x34 x35 x54 x55 (W (x56 + 1)) b4 b7 (Rowd.mk ((Rowd.cells b10) ++ [(Val.n (gD x54 (tN x56) vd))]) (Rowd.frm b10))) [(decide ((x56 : Int) < x55)) = true, (0 : Int) ≤ x56 ∧ x56 < (Ln x54), (((Val.kind (gD x54 (tN x56) vd)) : Int) != 1) = false, Ln (Rowd.cells b10) + Ln [(Val.n (gD x54 (tN x56) vd))] ≤ Lim] := by kernel_rfl
theorem p10_14_2 (x33 : List Val) (x34 x35 : Int) (x54 : List Val) (x55 x56 : Int) (b4 b7 : Val) (b10 : Rowd) : rS 14 I10 (S10_14 x33 x34 x35 x54 x55 x56 b4 b7 b10) [F] [] = st 8 I10 (S10_8 x33 x34 (W (x35 + 1)) b4 (Val.mk (Val.kind b7) (Val.n b7) (Val.step b7) (Val.text b7) (Val.list b7) (Val.columns b7) ((Val.rows b7) ++ [b10]))) [(decide ((x56 : Int) < x55)) = false, Ln (Val.rows b7) + Ln [b10] ≤ Lim] := by kernel_rfl
theorem p10_8_3 (x33 : List Val) (x34 x35 : Int) (b4 b7 r1 : Val) : rS 8 I10 (S10_8 x33 x34 x35 b4 b7) [Y, Y, Y] [yBG r1] = dn (xAl (r1, false)) [(decide ((x35 : Int) < x34)) = true, (0 : Int) ≤ x35 ∧ x35 < (Ln x33), (((Val.kind (gD x33 (tN x35) vd)) : Int) != 3) = true, true = true, AbC 37 (yCV 4) (yBG r1)] := by kernel_rfl
theorem p10_8_4 (x33 : List Val) (x34 x35 : Int) (b4 b7 r1 : Val) : rS 8 I10 (S10_8 x33 x34 x35 b4 b7) [Y, F, Y] [yBG r1] = dn (xAl (r1, false)) [(decide ((x35 : Int) < x34)) = true, (0 : Int) ≤ x35 ∧ x35 < (Ln x33), (((Val.kind (gD x33 (tN x35) vd)) : Int) != 3) = false, (((Ln (Val.list (gD x33 (tN x35) vd)) : Int) : Int) != (Ln (Val.columns b7) : Int)) = true, AbC 37 (yCV 4) (yBG r1)] := by kernel_rfl
theorem p10_8_5 (x33 : List Val) (x34 x35 : Int) (b4 b7 : Val) : rS 8 I10 (S10_8 x33 x34 x35 b4 b7) [Y, F, F] [] = st 14 I10 (S10_14 x33 x34 x35 (Val.list (gD x33 (tN x35) vd)) (Ln (Val.list (gD x33 (tN x35) vd)) : Int) 0 b4 b7 (Rowd.mk [] [])) [(decide ((x35 : Int) < x34)) = true, (0 : Int) ≤ x35 ∧ x35 < (Ln x33), (((Val.kind (gD x33 (tN x35) vd)) : Int) != 3) = false, (((Ln (Val.list (gD x33 (tN x35) vd)) : Int) : Int) != (Ln (Val.columns b7) : Int)) = false] := by kernel_rfl
theorem p10_8_6 (x33 : List Val) (x34 x35 : Int) (b4 b7 : Val) : rS 8 I10 (S10_8 x33 x34 x35 b4 b7) [F] [] = dn (xAl (b7, false)) [(decide ((x35 : Int) < x34)) = false] := by kernel_rfl
theorem p10_e_7 (a0 a1 : Val) (r1 : Val × Bool × Bool) : rE I10 (xAd a0 a1) [Y] [impl_kindError_roE r1] = dn (xAl ((Val.mk (Val.kind r1.1) (Val.n r1.1) (Val.step r1.1) (Val.text r1.1) [] [] []), true)) [AbC 34 (yCm [2, 3] [(Val.re a0), (Val.re a1)]) (impl_kindError_roE r1), r1.2.1 = true] := by kernel_rfl
theorem p10_e_8 (a0 a1 : Val) (r1 : Val × Bool × Bool) (r2 : (List Str)) (r3 : Bool) (r4 : Val) : rE I10 (xAd a0 a1) [F, Y] [impl_kindError_roE r1, yER r2, yAz r3, yBG r4] = dn (xAl (r4, false)) [AbC 34 (yCm [2, 3] [(Val.re a0), (Val.re a1)]) (impl_kindError_roE r1), r1.2.1 = false, AbC 35 (yEQ (Val.text a0) 32) (yER r2), AbC 36 (yB5 r2) (yAz r3), (!r3) = true, AbC 37 (yCV 7) (yBG r4)] := by kernel_rfl
theorem p10_e_9 (a0 a1 : Val) (r1 : Val × Bool × Bool) (r2 : (List Str)) (r3 : Bool) : rE I10 (xAd a0 a1) [F, F] [impl_kindError_roE r1, yER r2, yAz r3] = st 8 I10 (S10_8 (Val.list a1) (Ln (Val.list a1) : Int) 0 (Val.mk 0 0 0 [] [] [] []) (Val.mk 5 0 0 [] [] r2 [])) [AbC 34 (yCm [2, 3] [(Val.re a0), (Val.re a1)]) (impl_kindError_roE r1), r1.2.1 = false, AbC 35 (yEQ (Val.text a0) 32) (yER r2), AbC 36 (yB5 r2) (yAz r3), (!r3) = false] := by kernel_rfl
theorem p10_e_10 (a0 a1 : Val) (r1 : Val × Bool × Bool) : rE I10 (xAd a0 a1) [Y] [yFN r1] = dn (xAl (r1.1, false)) [AbC 34 (yCm [2, 3] [(Val.re a0), (Val.re a1)]) (yFN r1), r1.2.1 = true] := by kernel_rfl
theorem p10_e_11 (a0 a1 : Val) (r1 : Val × Bool × Bool) (r2 : (List Str)) (r3 : Bool) (r4 : Val) : rE I10 (xAd a0 a1) [F, Y] [yFN r1, yER r2, yAz r3, yBG r4] = dn (xAl (r4, false)) [AbC 34 (yCm [2, 3] [(Val.re a0), (Val.re a1)]) (yFN r1), r1.2.1 = false, AbC 35 (yEQ (Val.text a0) 32) (yER r2), AbC 36 (yB5 r2) (yAz r3), (!r3) = true, AbC 37 (yCV 7) (yBG r4)] := by kernel_rfl
theorem p10_e_12 (a0 a1 : Val) (r1 : Val × Bool × Bool) (r2 : (List Str)) (r3 : Bool) : rE I10 (xAd a0 a1) [F, F] [yFN r1, yER r2, yAz r3] = st 8 I10 (S10_8 (Val.list a1) (Ln (Val.list a1) : Int) 0 (Val.mk 0 0 0 [] [] [] []) (Val.mk 5 0 0 [] [] r2 [])) [AbC 34 (yCm [2, 3] [(Val.re a0), (Val.re a1)]) (yFN r1), r1.2.1 = false, AbC 35 (yEQ (Val.text a0) 32) (yER r2), AbC 36 (yB5 r2) (yAz r3), (!r3) = false] := by kernel_rfl
theorem c10_14 {N : Nat} {k8 : (List Val) → Int → Int → Val → Val → Option (Val × Bool)} (hk8 : ∀ z0 z1 z2 z3 z4 r, k8 z0 z1 z2 z3 z4 = some r → RS Tryd.f10 I10 8 (S10_8 z0 z1 z2 z3 z4) (xAl r)) : ∀ n x33 x34 x35 x54 x55 x56 b4 b7 b10 r, xAp N k8 n x33 x34 x35 x54 x55 x56 b4 b7 b10 = some r → RS Tryd.f10 I10 14 (S10_14 x33 x34 x35 x54 x55 x56 b4 b7 b10) (xAl r) := by
 intro n
 induction n with
 | zero => exact fun _ _ _ _ _ _ _ _ _ _ h => nE h
 | succ n ih =>
  exact fun x33 x34 x35 x54 x55 x56 b4 b7 b10 r h =>
   cE h (fun h0 h => iE h fun h1 h => cE h (fun h2 h => bE h fun r1 h3 h => dS h fk10 (p10_14_0 x33 x34 x35 x54 x55 x56 b4 b7 b10 r1) (oc h0 (oc h1 (oc h2 (oc (yFL h3) on))))) fun h2 h =>
   iE h fun h3 h => tS fk10 (p10_14_1 x33 x34 x35 x54 x55 x56 b4 b7 b10) (oc h0 (oc h1 (oc h2 (oc h3 on)))) (ih _ _ _ _ _ _ _ _ _ _ h)) fun h0 h =>
   iE h fun h1 h => tS fk10 (p10_14_2 x33 x34 x35 x54 x55 x56 b4 b7 b10) (oc h0 (oc h1 on)) (hk8 _ _ _ _ _ _ h)
theorem c10_8 {N : Nat} : ∀ n x33 x34 x35 b4 b7 r, xAn N n x33 x34 x35 b4 b7 = some r → RS Tryd.f10 I10 8 (S10_8 x33 x34 x35 b4 b7) (xAl r) := by
 intro n
 induction n with
 | zero => exact fun _ _ _ _ _ _ h => nE h
 | succ n ih =>
  exact fun x33 x34 x35 b4 b7 r h =>
   cE h (fun h0 h => iE h fun h1 h => cE h (fun h2 h => bE h fun r1 h4 h => dS h fk10 (p10_8_3 x33 x34 x35 b4 b7 r1) (oc h0 (oc h1 (oc h2 (oc rfl (oc (yFL h4) on)))))) fun h2 h =>
   cE h (fun h3 h => bE h fun r1 h4 h => dS h fk10 (p10_8_4 x33 x34 x35 b4 b7 r1) (oc h0 (oc h1 (oc h2 (oc h3 (oc (yFL h4) on)))))) fun h3 h =>
   tS fk10 (p10_8_5 x33 x34 x35 b4 b7) (oc h0 (oc h1 (oc h2 (oc h3 on)))) (c10_14 ih _ _ _ _ _ _ _ _ _ _ _ h)) fun h0 h =>
   dS h fk10 (p10_8_6 x33 x34 x35 b4 b7) (oc h0 on)
theorem c10_e {N : Nat} : ∀ a0 a1 r, xAs N a0 a1 = some r → RE Tryd.f10 I10 (xAd a0 a1) (xAl r) := fun a0 a1 r h =>
 bE h fun r1 h0 h => cE h (fun h1 h => iE h fun h2 h => iE h fun h3 h => iE h fun h4 h => cE h (fun h5 h => dE h fk10 (p10_e_7 a0 a1 r1) (oc (impl_kindError_toE (impl_kindError_ok h0) h1 h2 h3 h4) (oc h5 on))) fun h5 h =>
 bE h fun r2 h6 h => bE h fun r3 h7 h => cE h (fun h8 h => bE h fun r4 h9 h => dE h fk10 (p10_e_8 a0 a1 r1 r2 r3 r4) (oc (impl_kindError_toE (impl_kindError_ok h0) h1 h2 h3 h4) (oc h5 (oc (impl_SplitByte_ok h6) (oc (yEx h7) (oc h8 (oc (yFL h9) on))))))) fun h8 h =>
 tE fk10 (p10_e_9 a0 a1 r1 r2 r3) (oc (impl_kindError_toE (impl_kindError_ok h0) h1 h2 h3 h4) (oc h5 (oc (impl_SplitByte_ok h6) (oc (yEx h7) (oc h8 on))))) (c10_8 _ _ _ _ _ _ _ h)) fun h1 h =>
 cE h (fun h2 h => dE h fk10 (p10_e_10 a0 a1 r1) (oc (impl_kindError_toO (impl_kindError_ok h0) h1) (oc h2 on))) fun h2 h =>
 bE h fun r2 h3 h => bE h fun r3 h4 h => cE h (fun h5 h => bE h fun r4 h6 h => dE h fk10 (p10_e_11 a0 a1 r1 r2 r3 r4) (oc (impl_kindError_toO (impl_kindError_ok h0) h1) (oc h2 (oc (impl_SplitByte_ok h3) (oc (yEx h4) (oc h5 (oc (yFL h6) on))))))) fun h5 h =>
 tE fk10 (p10_e_12 a0 a1 r1 r2 r3) (oc (impl_kindError_toO (impl_kindError_ok h0) h1) (oc h2 (oc (impl_SplitByte_ok h3) (oc (yEx h4) (oc h5 on))))) (c10_8 _ _ _ _ _ _ _ h)
theorem xAg {N : Nat} {a0 : Val} {a1 : Val} {r : Val × Bool} (h : xAs N  a0 a1 = some r) : AbC 10 (xAd a0 a1) (xAl r) :=
 AbsCalls.of_reach fk10 rfl rfl (Nat.le_of_ble_eq_true rfl) (c10_e a0 a1 r h)
end Go.Ab.T
end
section
open Go.Proofs
namespace Go.Ab.T
set_option linter.unusedVariables false
set_option maxRecDepth 100000
noncomputable def I3 : Info := { body := (Tryd.f3.body).getD .skip, nt := 92, results := [.tmp 4], keep := [0, 2, 4, 6, 8, 10, 12, 14, 16, 18, 20, 22, 24, 26, 36, 46, 78, 88, 98, 126, 142, 148, 166, 176, 182, 5, 7, 13, 15, 17, 19, 27], live := [], modes := [(11, [(2, .take, true)]), (19, [(0, .ref, false), (2, .ref, false)]), (20, [(0, .ref, false), (2, .ref, false)]), (21, [(2, .take, false)]), (24, [(0, .ref, false), (2, .ref, false)]), (31, [(4, .take, true)])] }
theorem fk3 : FnOk Tryd.prog 3 Tryd.f3 I3 := ⟨Tryd.func3, by kernel_rfl, by kernel_rfl, by kernel_rfl, by kernel_rfl⟩
theorem p3_e_0 (a0 a1 : Val) (r1 : Int) : rE I3 (xAb a0 a1) [Y] [yAM r1] = dn (xAc true) [AbC 7 (yA4 a0 1048576) (yAM r1), (decide ((r1 : Int) < 0)) = true] := by kernel_rfl
theorem p3_e_1 (a0 a1 : Val) (r1 r2 : Int) : rE I3 (xAb a0 a1) [F, Y] [yAM r1, yAM r2] = dn (xAc true) [AbC 7 (yA4 a0 1048576) (yAM r1), (decide ((r1 : Int) < 0)) = false, AbC 7 (yA4 a1 r1) (yAM r2), (decide ((r2 : Int) < 0)) = true] := by kernel_rfl
theorem p3_e_2 (a0 a1 : Val) (r1 r2 : Int) (r3 r4 r5 r6 r7 : Val) (r8 : Val × Bool) (r9 : Bool) : rE I3 (xAb a0 a1) [F, F, Y] [yAM r1, yAM r2, yCG r3, yCG r4, xAa r5, yCG r6, yCG r7, xAf r8, yAx r9] = dn (xAc false) [AbC 7 (yA4 a0 1048576) (yAM r1), (decide ((r1 : Int) < 0)) = false, AbC 7 (yA4 a1 r1) (yAM r2), (decide ((r2 : Int) < 0)) = false, AbC 9 (yDb a0) (yCG r3), AbC 9 (yDb a1) (yCG r4), AbC 8 (xAh r3 r4) (xAa r5), AbC 9 (yDb a0) (yCG r6), AbC 9 (yDb a1) (yCG r7), AbC 10 (xAd r6 r7) (xAf r8), AbC 11 (yAJ (Val.mk (Val.kind r8.1) (Val.n r8.1) (Val.step r8.1) (Val.text r8.1) [] [] []) r5) (yAx r9), (!r9) = true] := by kernel_rfl
theorem p3_e_3 (a0 a1 : Val) (r1 r2 : Int) (r3 r4 r5 r6 r7 : Val) (r8 : Val × Bool) (r9 : Bool) (r10 : Val) (r11 : Bool) : rE I3 (xAb a0 a1) [F, F, F, Y] [yAM r1, yAM r2, yCG r3, yCG r4, xAa r5, yCG r6, yCG r7, xAf r8, yAx r9, yCG r10, yAx r11] = dn (xAc false) [AbC 7 (yA4 a0 1048576) (yAM r1), (decide ((r1 : Int) < 0)) = false, AbC 7 (yA4 a1 r1) (yAM r2), (decide ((r2 : Int) < 0)) = false, AbC 9 (yDb a0) (yCG r3), AbC 9 (yDb a1) (yCG r4), AbC 8 (xAh r3 r4) (xAa r5), AbC 9 (yDb a0) (yCG r6), AbC 9 (yDb a1) (yCG r7), AbC 10 (xAd r6 r7) (xAf r8), AbC 11 (yAJ (Val.mk (Val.kind r8.1) (Val.n r8.1) (Val.step r8.1) (Val.text r8.1) [] [] []) r5) (yAx r9), (!r9) = false, AbC 9 (yDb a0) (yCG r10), AbC 11 (yAJ r6 r10) (yAx r11), (!r11) = true] := by kernel_rfl
theorem p3_e_4 (a0 a1 : Val) (r1 r2 : Int) (r3 r4 r5 r6 r7 : Val) (r8 : Val × Bool) (r9 : Bool) (r10 : Val) (r11 : Bool) (r12 : Val) (r13 : Bool) : rE I3 (xAb a0 a1) [F, F, F, F, Y] [yAM r1, yAM r2, yCG r3, yCG r4, xAa r5, yCG r6, yCG r7, xAf r8, yAx r9, yCG r10, yAx r11, yCG r12, yAx r13] = dn (xAc false) [AbC 7 (yA4 a0 1048576) (yAM r1), (decide ((r1 : Int) < 0)) = false, AbC 7 (yA4 a1 r1) (yAM r2), (decide ((r2 : Int) < 0)) = false, AbC 9 (yDb a0) (yCG r3), AbC 9 (yDb a1) (yCG r4), AbC 8 (xAh r3 r4) (xAa r5), AbC 9 (yDb a0) (yCG r6), AbC 9 (yDb a1) (yCG r7), AbC 10 (xAd r6 r7) (xAf r8), AbC 11 (yAJ (Val.mk (Val.kind r8.1) (Val.n r8.1) (Val.step r8.1) (Val.text r8.1) [] [] []) r5) (yAx r9), (!r9) = false, AbC 9 (yDb a0) (yCG r10), AbC 11 (yAJ r6 r10) (yAx r11), (!r11) = false, AbC 9 (yDb a1) (yCG r12), AbC 11 (yAJ r7 r12) (yAx r13), (!r13) = true] := by kernel_rfl
theorem p3_e_5 (a0 a1 : Val) (r1 r2 : Int) (r3 r4 r5 r6 r7 : Val) (r8 : Val × Bool) (r9 : Bool) (r10 : Val) (r11 : Bool) (r12 : Val) (r13 : Bool) (r14 : Int × (List Val) × (List Str) × (List Rowd)) (r15 : Int × (List Val) × (List Str) × (List Rowd)) : rE I3 (xAb a0 a1) [F, F, F, F, F, Y, Y] [yAM r1, yAM r2, yCG r3, yCG r4, xAa r5, yCG r6, yCG r7, xAf r8, yAx r9, yCG r10, yAx r11, yCG r12, yAx r13, yEU r14, yEU r15] = dn (xAc false) [AbC 7 (yA4 a0 1048576) (yAM r1), (decide ((r1 : Int) < 0)) = false, AbC 7 (yA4 a1 r1) (yAM r2), (decide ((r2 : Int) < 0)) = false, AbC 9 (yDb a0) (yCG r3), AbC 9 (yDb a1) (yCG r4), AbC 8 (xAh r3 r4) (xAa r5), AbC 9 (yDb a0) (yCG r6), AbC 9 (yDb a1) (yCG r7), AbC 10 (xAd r6 r7) (xAf r8), AbC 11 (yAJ (Val.mk (Val.kind r8.1) (Val.n r8.1) (Val.step r8.1) (Val.text r8.1) [] [] []) r5) (yAx r9), (!r9) = false, AbC 9 (yDb a0) (yCG r10), AbC 11 (yAJ r6 r10) (yAx r11), (!r11) = false, AbC 9 (yDb a1) (yCG r12), AbC 11 (yAJ r7 r12) (yAx r13), (!r13) = false, AbC 12 (yET r6 1) (yEU r14), Ln r14.2.1 = Ln (Val.list r6), Ln r14.2.2.1 = Ln (Val.columns r6), Ln r14.2.2.2 = Ln (Val.rows r6), AbC 12 (yET r7 r14.1) (yEU r15), Ln r15.2.1 = Ln (Val.list r7), Ln r15.2.2.1 = Ln (Val.columns r7), Ln r15.2.2.2 = Ln (Val.rows r7), (decide ((r15.1 : Int) < 0)) = true, true = true] := by kernel_rfl
theorem p3_e_6 (a0 a1 : Val) (r1 r2 : Int) (r3 r4 r5 r6 r7 : Val) (r8 : Val × Bool) (r9 : Bool) (r10 : Val) (r11 : Bool) (r12 : Val) (r13 : Bool) (r14 : Int × (List Val) × (List Str) × (List Rowd)) (r15 : Int × (List Val) × (List Str) × (List Rowd)) (r16 : Bool) : rE I3 (xAb a0 a1) [F, F, F, F, F, F, Y] [yAM r1, yAM r2, yCG r3, yCG r4, xAa r5, yCG r6, yCG r7, xAf r8, yAx r9, yCG r10, yAx r11, yCG r12, yAx r13, yEU r14, yEU r15, yAx r16] = dn (xAc false) [AbC 7 (yA4 a0 1048576) (yAM r1), (decide ((r1 : Int) < 0)) = false, AbC 7 (yA4 a1 r1) (yAM r2), (decide ((r2 : Int) < 0)) = false, AbC 9 (yDb a0) (yCG r3), AbC 9 (yDb a1) (yCG r4), AbC 8 (xAh r3 r4) (xAa r5), AbC 9 (yDb a0) (yCG r6), AbC 9 (yDb a1) (yCG r7), AbC 10 (xAd r6 r7) (xAf r8), AbC 11 (yAJ (Val.mk (Val.kind r8.1) (Val.n r8.1) (Val.step r8.1) (Val.text r8.1) [] [] []) r5) (yAx r9), (!r9) = false, AbC 9 (yDb a0) (yCG r10), AbC 11 (yAJ r6 r10) (yAx r11), (!r11) = false, AbC 9 (yDb a1) (yCG r12), AbC 11 (yAJ r7 r12) (yAx r13), (!r13) = false, AbC 12 (yET r6 1) (yEU r14), Ln r14.2.1 = Ln (Val.list r6), Ln r14.2.2.1 = Ln (Val.columns r6), Ln r14.2.2.2 = Ln (Val.rows r6), AbC 12 (yET r7 r14.1) (yEU r15), Ln r15.2.1 = Ln (Val.list r7), Ln r15.2.2.1 = Ln (Val.columns r7), Ln r15.2.2.2 = Ln (Val.rows r7), (decide ((r15.1 : Int) < 0)) = false, AbC 11 (yAJ (Val.mk (Val.kind r8.1) (Val.n r8.1) (Val.step r8.1) (Val.text r8.1) [] [] []) r5) (yAx r16), (!r16) = true] := by kernel_rfl
theorem p3_e_7 (a0 a1 : Val) (r1 r2 : Int) (r3 r4 r5 r6 r7 : Val) (r8 : Val × Bool) (r9 : Bool) (r10 : Val) (r11 : Bool) (r12 : Val) (r13 : Bool) (r14 : Int × (List Val) × (List Str) × (List Rowd)) (r15 : Int × (List Val) × (List Str) × (List Rowd)) (r16 : Bool) (r17 r18 : Int) : rE I3 (xAb a0 a1) [F, F, F, F, F, F, F, Y] [yAM r1, yAM r2, yCG r3, yCG r4, xAa r5, yCG r6, yCG r7, xAf r8, yAx r9, yCG r10, yAx r11, yCG r12, yAx r13, yEU r14, yEU r15, yAx r16, yEr r17, yCr r18] = dn (xAc false) [AbC 7 (yA4 a0 1048576) (yAM r1), (decide ((r1 : Int) < 0)) = false, AbC 7 (yA4 a1 r1) (yAM r2), (decide ((r2 : Int) < 0)) = false, AbC 9 (yDb a0) (yCG r3), AbC 9 (yDb a1) (yCG r4), AbC 8 (xAh r3 r4) (xAa r5), AbC 9 (yDb a0) (yCG r6), AbC 9 (yDb a1) (yCG r7), AbC 10 (xAd r6 r7) (xAf r8), AbC 11 (yAJ (Val.mk (Val.kind r8.1) (Val.n r8.1) (Val.step r8.1) (Val.text r8.1) [] [] []) r5) (yAx r9), (!r9) = false, AbC 9 (yDb a0) (yCG r10), AbC 11 (yAJ r6 r10) (yAx r11), (!r11) = false, AbC 9 (yDb a1) (yCG r12), AbC 11 (yAJ r7 r12) (yAx r13), (!r13) = false, AbC 12 (yET r6 1) (yEU r14), Ln r14.2.1 = Ln (Val.list r6), Ln r14.2.2.1 = Ln (Val.columns r6), Ln r14.2.2.2 = Ln (Val.rows r6), AbC 12 (yET r7 r14.1) (yEU r15), Ln r15.2.1 = Ln (Val.list r7), Ln r15.2.2.1 = Ln (Val.columns r7), Ln r15.2.2.2 = Ln (Val.rows r7), (decide ((r15.1 : Int) < 0)) = false, AbC 11 (yAJ (Val.mk (Val.kind r8.1) (Val.n r8.1) (Val.step r8.1) (Val.text r8.1) [] [] []) r5) (yAx r16), (!r16) = false, AbC 12 (yEq (Val.mk (Val.kind r8.1) (Val.n r8.1) (Val.step r8.1) (Val.text r8.1) [] [] []) 1) (yEr r17), AbC 13 (yCq (Val.mk (Val.kind r8.1) (Val.n r8.1) (Val.step r8.1) (Val.text r8.1) [] [] []) 1) (yCr r18), (decide ((r18 : Int) < 0)) = true] := by kernel_rfl
theorem p3_e_8 (a0 a1 : Val) (r1 r2 : Int) (r3 r4 r5 r6 r7 : Val) (r8 : Val × Bool) (r9 : Bool) (r10 : Val) (r11 : Bool) (r12 : Val) (r13 : Bool) (r14 : Int × (List Val) × (List Str) × (List Rowd)) (r15 : Int × (List Val) × (List Str) × (List Rowd)) (r16 : Bool) (r17 r18 : Int) : rE I3 (xAb a0 a1) [F, F, F, F, F, F, F, F, Y] [yAM r1, yAM r2, yCG r3, yCG r4, xAa r5, yCG r6, yCG r7, xAf r8, yAx r9, yCG r10, yAx r11, yCG r12, yAx r13, yEU r14, yEU r15, yAx r16, yEr r17, yCr r18] = dn (xAc false) [AbC 7 (yA4 a0 1048576) (yAM r1), (decide ((r1 : Int) < 0)) = false, AbC 7 (yA4 a1 r1) (yAM r2), (decide ((r2 : Int) < 0)) = false, AbC 9 (yDb a0) (yCG r3), AbC 9 (yDb a1) (yCG r4), AbC 8 (xAh r3 r4) (xAa r5), AbC 9 (yDb a0) (yCG r6), AbC 9 (yDb a1) (yCG r7), AbC 10 (xAd r6 r7) (xAf r8), AbC 11 (yAJ (Val.mk (Val.kind r8.1) (Val.n r8.1) (Val.step r8.1) (Val.text r8.1) [] [] []) r5) (yAx r9), (!r9) = false, AbC 9 (yDb a0) (yCG r10), AbC 11 (yAJ r6 r10) (yAx r11), (!r11) = false, AbC 9 (yDb a1) (yCG r12), AbC 11 (yAJ r7 r12) (yAx r13), (!r13) = false, AbC 12 (yET r6 1) (yEU r14), Ln r14.2.1 = Ln (Val.list r6), Ln r14.2.2.1 = Ln (Val.columns r6), Ln r14.2.2.2 = Ln (Val.rows r6), AbC 12 (yET r7 r14.1) (yEU r15), Ln r15.2.1 = Ln (Val.list r7), Ln r15.2.2.1 = Ln (Val.columns r7), Ln r15.2.2.2 = Ln (Val.rows r7), (decide ((r15.1 : Int) < 0)) = false, AbC 11 (yAJ (Val.mk (Val.kind r8.1) (Val.n r8.1) (Val.step r8.1) (Val.text r8.1) [] [] []) r5) (yAx r16), (!r16) = false, AbC 12 (yEq (Val.mk (Val.kind r8.1) (Val.n r8.1) (Val.step r8.1) (Val.text r8.1) [] [] []) 1) (yEr r17), AbC 13 (yCq (Val.mk (Val.kind r8.1) (Val.n r8.1) (Val.step r8.1) (Val.text r8.1) [] [] []) 1) (yCr r18), (decide ((r18 : Int) < 0)) = false, ((r18 : Int) != r17) = true] := by kernel_rfl
theorem p3_e_9 (a0 a1 : Val) (r1 r2 : Int) (r3 r4 r5 r6 r7 : Val) (r8 : Val × Bool) (r9 : Bool) (r10 : Val) (r11 : Bool) (r12 : Val) (r13 : Bool) (r14 : Int × (List Val) × (List Str) × (List Rowd)) (r15 : Int × (List Val) × (List Str) × (List Rowd)) (r16 : Bool) (r17 r18 : Int) (r19 r20 : Val) (r21 : Val × Bool) (r22 : Bool) : rE I3 (xAb a0 a1) [F, F, F, F, F, F, F, F, F, Y] [yAM r1, yAM r2, yCG r3, yCG r4, xAa r5, yCG r6, yCG r7, xAf r8, yAx r9, yCG r10, yAx r11, yCG r12, yAx r13, yEU r14, yEU r15, yAx r16, yEr r17, yCr r18, yCG r19, yCG r20, xAf r21, yAx r22] = dn (xAc false) [AbC 7 (yA4 a0 1048576) (yAM r1), (decide ((r1 : Int) < 0)) = false, AbC 7 (yA4 a1 r1) (yAM r2), (decide ((r2 : Int) < 0)) = false, AbC 9 (yDb a0) (yCG r3), AbC 9 (yDb a1) (yCG r4), AbC 8 (xAh r3 r4) (xAa r5), AbC 9 (yDb a0) (yCG r6), AbC 9 (yDb a1) (yCG r7), AbC 10 (xAd r6 r7) (xAf r8), AbC 11 (yAJ (Val.mk (Val.kind r8.1) (Val.n r8.1) (Val.step r8.1) (Val.text r8.1) [] [] []) r5) (yAx r9), (!r9) = false, AbC 9 (yDb a0) (yCG r10), AbC 11 (yAJ r6 r10) (yAx r11), (!r11) = false, AbC 9 (yDb a1) (yCG r12), AbC 11 (yAJ r7 r12) (yAx r13), (!r13) = false, AbC 12 (yET r6 1) (yEU r14), Ln r14.2.1 = Ln (Val.list r6), Ln r14.2.2.1 = Ln (Val.columns r6), Ln r14.2.2.2 = Ln (Val.rows r6), AbC 12 (yET r7 r14.1) (yEU r15), Ln r15.2.1 = Ln (Val.list r7), Ln r15.2.2.1 = Ln (Val.columns r7), Ln r15.2.2.2 = Ln (Val.rows r7), (decide ((r15.1 : Int) < 0)) = false, AbC 11 (yAJ (Val.mk (Val.kind r8.1) (Val.n r8.1) (Val.step r8.1) (Val.text r8.1) [] [] []) r5) (yAx r16), (!r16) = false, AbC 12 (yEq (Val.mk (Val.kind r8.1) (Val.n r8.1) (Val.step r8.1) (Val.text r8.1) [] [] []) 1) (yEr r17), AbC 13 (yCq (Val.mk (Val.kind r8.1) (Val.n r8.1) (Val.step r8.1) (Val.text r8.1) [] [] []) 1) (yCr r18), (decide ((r18 : Int) < 0)) = false, ((r18 : Int) != r17) = false, AbC 9 (yDb a0) (yCG r19), AbC 9 (yDb a1) (yCG r20), AbC 10 (xAd r19 r20) (xAf r21), AbC 11 (yAJ (Val.mk (Val.kind r21.1) (Val.n r21.1) (Val.step r21.1) (Val.text r21.1) [] [] []) r5) (yAx r22), (!r22) = true] := by kernel_rfl
theorem p3_e_10 (a0 a1 : Val) (r1 r2 : Int) (r3 r4 r5 r6 r7 : Val) (r8 : Val × Bool) (r9 : Bool) (r10 : Val) (r11 : Bool) (r12 : Val) (r13 : Bool) (r14 : Int × (List Val) × (List Str) × (List Rowd)) (r15 : Int × (List Val) × (List Str) × (List Rowd)) (r16 : Bool) (r17 r18 : Int) (r19 r20 : Val) (r21 : Val × Bool) (r22 : Bool) (r23 : Int) : rE I3 (xAb a0 a1) [F, F, F, F, F, F, F, F, F, F, Y] [yAM r1, yAM r2, yCG r3, yCG r4, xAa r5, yCG r6, yCG r7, xAf r8, yAx r9, yCG r10, yAx r11, yCG r12, yAx r13, yEU r14, yEU r15, yAx r16, yEr r17, yCr r18, yCG r19, yCG r20, xAf r21, yAx r22, yCr r23] = dn (xAc false) [AbC 7 (yA4 a0 1048576) (yAM r1), (decide ((r1 : Int) < 0)) = false, AbC 7 (yA4 a1 r1) (yAM r2), (decide ((r2 : Int) < 0)) = false, AbC 9 (yDb a0) (yCG r3), AbC 9 (yDb a1) (yCG r4), AbC 8 (xAh r3 r4) (xAa r5), AbC 9 (yDb a0) (yCG r6), AbC 9 (yDb a1) (yCG r7), AbC 10 (xAd r6 r7) (xAf r8), AbC 11 (yAJ (Val.mk (Val.kind r8.1) (Val.n r8.1) (Val.step r8.1) (Val.text r8.1) [] [] []) r5) (yAx r9), (!r9) = false, AbC 9 (yDb a0) (yCG r10), AbC 11 (yAJ r6 r10) (yAx r11), (!r11) = false, AbC 9 (yDb a1) (yCG r12), AbC 11 (yAJ r7 r12) (yAx r13), (!r13) = false, AbC 12 (yET r6 1) (yEU r14), Ln r14.2.1 = Ln (Val.list r6), Ln r14.2.2.1 = Ln (Val.columns r6), Ln r14.2.2.2 = Ln (Val.rows r6), AbC 12 (yET r7 r14.1) (yEU r15), Ln r15.2.1 = Ln (Val.list r7), Ln r15.2.2.1 = Ln (Val.columns r7), Ln r15.2.2.2 = Ln (Val.rows r7), (decide ((r15.1 : Int) < 0)) = false, AbC 11 (yAJ (Val.mk (Val.kind r8.1) (Val.n r8.1) (Val.step r8.1) (Val.text r8.1) [] [] []) r5) (yAx r16), (!r16) = false, AbC 12 (yEq (Val.mk (Val.kind r8.1) (Val.n r8.1) (Val.step r8.1) (Val.text r8.1) [] [] []) 1) (yEr r17), AbC 13 (yCq (Val.mk (Val.kind r8.1) (Val.n r8.1) (Val.step r8.1) (Val.text r8.1) [] [] []) 1) (yCr r18), (decide ((r18 : Int) < 0)) = false, ((r18 : Int) != r17) = false, AbC 9 (yDb a0) (yCG r19), AbC 9 (yDb a1) (yCG r20), AbC 10 (xAd r19 r20) (xAf r21), AbC 11 (yAJ (Val.mk (Val.kind r21.1) (Val.n r21.1) (Val.step r21.1) (Val.text r21.1) [] [] []) r5) (yAx r22), (!r22) = false, AbC 13 (yCq (Val.mk (Val.kind r8.1) (Val.n r8.1) (Val.step r8.1) (Val.text r8.1) [] [] []) 1) (yCr r23), (decide ((r23 : Int) < 0)) = true] := by kernel_rfl
theorem p3_e_11 (a0 a1 : Val) (r1 r2 : Int) (r3 r4 r5 r6 r7 : Val) (r8 : Val × Bool) (r9 : Bool) (r10 : Val) (r11 : Bool) (r12 : Val) (r13 : Bool) (r14 : Int × (List Val) × (List Str) × (List Rowd)) (r15 : Int × (List Val) × (List Str) × (List Rowd)) (r16 : Bool) (r17 r18 : Int) (r19 r20 : Val) (r21 : Val × Bool) (r22 : Bool) (r23 : Int) : rE I3 (xAb a0 a1) [F, F, F, F, F, F, F, F, F, F, F, Y] [yAM r1, yAM r2, yCG r3, yCG r4, xAa r5, yCG r6, yCG r7, xAf r8, yAx r9, yCG r10, yAx r11, yCG r12, yAx r13, yEU r14, yEU r15, yAx r16, yEr r17, yCr r18, yCG r19, yCG r20, xAf r21, yAx r22, yCr r23] = dn (xAc false) [AbC 7 (yA4 a0 1048576) (yAM r1), (decide ((r1 : Int) < 0)) = false, AbC 7 (yA4 a1 r1) (yAM r2), (decide ((r2 : Int) < 0)) = false, AbC 9 (yDb a0) (yCG r3), AbC 9 (yDb a1) (yCG r4), AbC 8 (xAh r3 r4) (xAa r5), AbC 9 (yDb a0) (yCG r6), AbC 9 (yDb a1) (yCG r7), AbC 10 (xAd r6 r7) (xAf r8), AbC 11 (yAJ (Val.mk (Val.kind r8.1) (Val.n r8.1) (Val.step r8.1) (Val.text r8.1) [] [] []) r5) (yAx r9), (!r9) = false, AbC 9 (yDb a0) (yCG r10), AbC 11 (yAJ r6 r10) (yAx r11), (!r11) = false, AbC 9 (yDb a1) (yCG r12), AbC 11 (yAJ r7 r12) (yAx r13), (!r13) = false, AbC 12 (yET r6 1) (yEU r14), Ln r14.2.1 = Ln (Val.list r6), Ln r14.2.2.1 = Ln (Val.columns r6), Ln r14.2.2.2 = Ln (Val.rows r6), AbC 12 (yET r7 r14.1) (yEU r15), Ln r15.2.1 = Ln (Val.list r7), Ln r15.2.2.1 = Ln (Val.columns r7), Ln r15.2.2.2 = Ln (Val.rows r7), (decide ((r15.1 : Int) < 0)) = false, AbC 11 (yAJ (Val.mk (Val.kind r8.1) (Val.n r8.1) (Val.step r8.1) (Val.text r8.1) [] [] []) r5) (yAx r16), (!r16) = false, AbC 12 (yEq (Val.mk (Val.kind r8.1) (Val.n r8.1) (Val.step r8.1) (Val.text r8.1) [] [] []) 1) (yEr r17), AbC 13 (yCq (Val.mk (Val.kind r8.1) (Val.n r8.1) (Val.step r8.1) (Val.text r8.1) [] [] []) 1) (yCr r18), (decide ((r18 : Int) < 0)) = false, ((r18 : Int) != r17) = false, AbC 9 (yDb a0) (yCG r19), AbC 9 (yDb a1) (yCG r20), AbC 10 (xAd r19 r20) (xAf r21), AbC 11 (yAJ (Val.mk (Val.kind r21.1) (Val.n r21.1) (Val.step r21.1) (Val.text r21.1) [] [] []) r5) (yAx r22), (!r22) = false, AbC 13 (yCq (Val.mk (Val.kind r8.1) (Val.n r8.1) (Val.step r8.1) (Val.text r8.1) [] [] []) 1) (yCr r23), (decide ((r23 : Int) < 0)) = false, ((r23 : Int) != r17) = true] := by kernel_rfl
theorem p3_e_12 (a0 a1 : Val) (r1 r2 : Int) (r3 r4 r5 r6 r7 : Val) (r8 : Val × Bool) (r9 : Bool) (r10 : Val) (r11 : Bool) (r12 : Val) (r13 : Bool) (r14 : Int × (List Val) × (List Str) × (List Rowd)) (r15 : Int × (List Val) × (List Str) × (List Rowd)) (r16 : Bool) (r17 r18 : Int) (r19 r20 : Val) (r21 : Val × Bool) (r22 : Bool) (r23 : Int) : rE I3 (xAb a0 a1) [F, F, F, F, F, F, F, F, F, F, F, F] [yAM r1, yAM r2, yCG r3, yCG r4, xAa r5, yCG r6, yCG r7, xAf r8, yAx r9, yCG r10, yAx r11, yCG r12, yAx r13, yEU r14, yEU r15, yAx r16, yEr r17, yCr r18, yCG r19, yCG r20, xAf r21, yAx r22, yCr r23] = dn (xAc true) [AbC 7 (yA4 a0 1048576) (yAM r1), (decide ((r1 : Int) < 0)) = false, AbC 7 (yA4 a1 r1) (yAM r2), (decide ((r2 : Int) < 0)) = false, AbC 9 (yDb a0) (yCG r3), AbC 9 (yDb a1) (yCG r4), AbC 8 (xAh r3 r4) (xAa r5), AbC 9 (yDb a0) (yCG r6), AbC 9 (yDb a1) (yCG r7), AbC 10 (xAd r6 r7) (xAf r8), AbC 11 (yAJ (Val.mk (Val.kind r8.1) (Val.n r8.1) (Val.step r8.1) (Val.text r8.1) [] [] []) r5) (yAx r9), (!r9) = false, AbC 9 (yDb a0) (yCG r10), AbC 11 (yAJ r6 r10) (yAx r11), (!r11) = false, AbC 9 (yDb a1) (yCG r12), AbC 11 (yAJ r7 r12) (yAx r13), (!r13) = false, AbC 12 (yET r6 1) (yEU r14), Ln r14.2.1 = Ln (Val.list r6), Ln r14.2.2.1 = Ln (Val.columns r6), Ln r14.2.2.2 = Ln (Val.rows r6), AbC 12 (yET r7 r14.1) (yEU r15), Ln r15.2.1 = Ln (Val.list r7), Ln r15.2.2.1 = Ln (Val.columns r7), Ln r15.2.2.2 = Ln (Val.rows r7), (decide ((r15.1 : Int) < 0)) = false, AbC 11 (yAJ (Val.mk (Val.kind r8.1) (Val.n r8.1) (Val.step r8.1) (Val.text r8.1) [] [] []) r5) (yAx r16), (!r16) = false, AbC 12 (yEq (Val.mk (Val.kind r8.1) (Val.n r8.1) (Val.step r8.1) (Val.text r8.1) [] [] []) 1) (yEr r17), AbC 13 (yCq (Val.mk (Val.kind r8.1) (Val.n r8.1) (Val.step r8.1) (Val.text r8.1) [] [] []) 1) (yCr r18), (decide ((r18 : Int) < 0)) = false, ((r18 : Int) != r17) = false, AbC 9 (yDb a0) (yCG r19), AbC 9 (yDb a1) (yCG r20), AbC 10 (xAd r19 r20) (xAf r21), AbC 11 (yAJ (Val.mk (Val.kind r21.1) (Val.n r21.1) (Val.step r21.1) (Val.text r21.1) [] [] []) r5) (yAx r22), (!r22) = false, AbC 13 (yCq (Val.mk (Val.kind r8.1) (Val.n r8.1) (Val.step r8.1) (Val.text r8.1) [] [] []) 1) (yCr r23), (decide ((r23 : Int) < 0)) = false, ((r23 : Int) != r17) = false] := by kernel_rfl
theorem p3_e_13 (a0 a1 : Val) (r1 r2 : Int) (r3 r4 r5 r6 r7 : Val) (r8 : Val × Bool) (r9 : Bool) (r10 : Val) (r11 : Bool) (r12 : Val) (r13 : Bool) (r14 : Int × (List Val) × (List Str) × (List Rowd)) (r15 : Int × (List Val) × (List Str) × (List Rowd)) (r16 : Bool) (r17 r18 : Int) (r19 r20 : Val) (r21 : Val × Bool) (r22 : Bool) : rE I3 (xAb a0 a1) [F, F, F, F, F, F, F, F, F, Y] [yAM r1, yAM r2, yCG r3, yCG r4, xAa r5, yCG r6, yCG r7, xAf r8, yAx r9, yCG r10, yAx r11, yCG r12, yAx r13, yEU r14, yEU r15, yAx r16, yEr r17, yCr r18, yCG r19, yCG r20, xAe r21, yAx r22] = dn (xAc false) [AbC 7 (yA4 a0 1048576) (yAM r1), (decide ((r1 : Int) < 0)) = false, AbC 7 (yA4 a1 r1) (yAM r2), (decide ((r2 : Int) < 0)) = false, AbC 9 (yDb a0) (yCG r3), AbC 9 (yDb a1) (yCG r4), AbC 8 (xAh r3 r4) (xAa r5), AbC 9 (yDb a0) (yCG r6), AbC 9 (yDb a1) (yCG r7), AbC 10 (xAd r6 r7) (xAf r8), AbC 11 (yAJ (Val.mk (Val.kind r8.1) (Val.n r8.1) (Val.step r8.1) (Val.text r8.1) [] [] []) r5) (yAx r9), (!r9) = false, AbC 9 (yDb a0) (yCG r10), AbC 11 (yAJ r6 r10) (yAx r11), (!r11) = false, AbC 9 (yDb a1) (yCG r12), AbC 11 (yAJ r7 r12) (yAx r13), (!r13) = false, AbC 12 (yET r6 1) (yEU r14), Ln r14.2.1 = Ln (Val.list r6), Ln r14.2.2.1 = Ln (Val.columns r6), Ln r14.2.2.2 = Ln (Val.rows r6), AbC 12 (yET r7 r14.1) (yEU r15), Ln r15.2.1 = Ln (Val.list r7), Ln r15.2.2.1 = Ln (Val.columns r7), Ln r15.2.2.2 = Ln (Val.rows r7), (decide ((r15.1 : Int) < 0)) = false, AbC 11 (yAJ (Val.mk (Val.kind r8.1) (Val.n r8.1) (Val.step r8.1) (Val.text r8.1) [] [] []) r5) (yAx r16), (!r16) = false, AbC 12 (yEq (Val.mk (Val.kind r8.1) (Val.n r8.1) (Val.step r8.1) (Val.text r8.1) [] [] []) 1) (yEr r17), AbC 13 (yCq (Val.mk (Val.kind r8.1) (Val.n r8.1) (Val.step r8.1) (Val.text r8.1) [] [] []) 1) (yCr r18), (decide ((r18 : Int) < 0)) = false, ((r18 : Int) != r17) = false, AbC 9 (yDb a0) (yCG r19), AbC 9 (yDb a1) (yCG r20), AbC 10 (xAd r19 r20) (xAe r21), AbC 11 (yAJ r21.1 r5) (yAx r22), (!r22) = true] := by kernel_rfl
theorem p3_e_14 (a0 a1 : Val) (r1 r2 : Int) (r3 r4 r5 r6 r7 : Val) (r8 : Val × Bool) (r9 : Bool) (r10 : Val) (r11 : Bool) (r12 : Val) (r13 : Bool) (r14 : Int × (List Val) × (List Str) × (List Rowd)) (r15 : Int × (List Val) × (List Str) × (List Rowd)) (r16 : Bool) (r17 r18 : Int) (r19 r20 : Val) (r21 : Val × Bool) (r22 : Bool) (r23 : Int) : rE I3 (xAb a0 a1) [F, F, F, F, F, F, F, F, F, F, Y] [yAM r1, yAM r2, yCG r3, yCG r4, xAa r5, yCG r6, yCG r7, xAf r8, yAx r9, yCG r10, yAx r11, yCG r12, yAx r13, yEU r14, yEU r15, yAx r16, yEr r17, yCr r18, yCG r19, yCG r20, xAe r21, yAx r22, yCr r23] = dn (xAc false) [AbC 7 (yA4 a0 1048576) (yAM r1), (decide ((r1 : Int) < 0)) = false, AbC 7 (yA4 a1 r1) (yAM r2), (decide ((r2 : Int) < 0)) = false, AbC 9 (yDb a0) (yCG r3), AbC 9 (yDb a1) (yCG r4), AbC 8 (xAh r3 r4) (xAa r5), AbC 9 (yDb a0) (yCG r6), AbC 9 (yDb a1) (yCG r7), AbC 10 (xAd r6 r7) (xAf r8), AbC 11 (yAJ (Val.mk (Val.kind r8.1) (Val.n r8.1) (Val.step r8.1) (Val.text r8.1) [] [] []) r5) (yAx r9), (!r9) = false, AbC 9 (yDb a0) (yCG r10), AbC 11 (yAJ r6 r10) (yAx r11), (!r11) = false, AbC 9 (yDb a1) (yCG r12), AbC 11 (yAJ r7 r12) (yAx r13), (!r13) = false, AbC 12 (yET r6 1) (yEU r14), Ln r14.2.1 = Ln (Val.list r6), Ln r14.2.2.1 = Ln (Val.columns r6), Ln r14.2.2.2 = Ln (Val.rows r6), AbC 12 (yET r7 r14.1) (yEU r15), Ln r15.2.1 = Ln (Val.list r7), Ln r15.2.2.1 = Ln (Val.columns r7), Ln r15.2.2.2 = Ln (Val.rows r7), (decide ((r15.1 : Int) < 0)) = false, AbC 11 (yAJ (Val.mk (Val.kind r8.1) (Val.n r8.1) (Val.step r8.1) (Val.text r8.1) [] [] []) r5) (yAx r16), (!r16) = false, AbC 12 (yEq (Val.mk (Val.kind r8.1) (Val.n r8.1) (Val.step r8.1) (Val.text r8.1) [] [] []) 1) (yEr r17), AbC 13 (yCq (Val.mk (Val.kind r8.1) (Val.n r8.1) (Val.step r8.1) (Val.text r8.1) [] [] []) 1) (yCr r18), (decide ((r18 : Int) < 0)) = false, ((r18 : Int) != r17) = false, AbC 9 (yDb a0) (yCG r19), AbC 9 (yDb a1) (yCG r20), AbC 10 (xAd r19 r20) (xAe r21), AbC 11 (yAJ r21.1 r5) (yAx r22), (!r22) = false, AbC 13 (yCq (Val.mk (Val.kind r8.1) (Val.n r8.1) (Val.step r8.1) (Val.text r8.1) [] [] []) 1) (yCr r23), (decide ((r23 : Int) < 0)) = true] := by kernel_rfl
theorem p3_e_15 (a0 a1 : Val) (r1 r2 : Int) (r3 r4 r5 r6 r7 : Val) (r8 : Val × Bool) (r9 : Bool) (r10 : Val) (r11 : Bool) (r12 : Val) (r13 : Bool) (r14 : Int × (List Val) × (List Str) × (List Rowd)) (r15 : Int × (List Val) × (List Str) × (List Rowd)) (r16 : Bool) (r17 r18 : Int) (r19 r20 : Val) (r21 : Val × Bool) (r22 : Bool) (r23 : Int) : rE I3 (xAb a0 a1) [F, F, F, F, F, F, F, F, F, F, F, Y] [yAM r1, yAM r2, yCG r3, yCG r4, xAa r5, yCG r6, yCG r7, xAf r8, yAx r9, yCG r10, yAx r11, yCG r12, yAx r13, yEU r14, yEU r15, yAx r16, yEr r17, yCr r18, yCG r19, yCG r20, xAe r21, yAx r22, yCr r23] = dn (xAc false) [AbC 7 (yA4 a0 1048576) (yAM r1), (decide ((r1 : Int) < 0)) = false, AbC 7 (yA4 a1 r1) (yAM r2), (decide ((r2 : Int) < 0)) = false, AbC 9 (yDb a0) (yCG r3), AbC 9 (yDb a1) (yCG r4), AbC 8 (xAh r3 r4) (xAa r5), AbC 9 (yDb a0) (yCG r6), AbC 9 (yDb a1) (yCG r7), AbC 10 (xAd r6 r7) (xAf r8), AbC 11 (yAJ (Val.mk (Val.kind r8.1) (Val.n r8.1) (Val.step r8.1) (Val.text r8.1) [] [] []) r5) (yAx r9), (!r9) = false, AbC 9 (yDb a0) (yCG r10), AbC 11 (yAJ r6 r10) (yAx r11), (!r11) = false, AbC 9 (yDb a1) (yCG r12), AbC 11 (yAJ r7 r12) (yAx r13), (!r13) = false, AbC 12 (yET r6 1) (yEU r14), Ln r14.2.1 = Ln (Val.list r6), Ln r14.2.2.1 = Ln (Val.columns r6), Ln r14.2.2.2 = Ln (Val.rows r6), AbC 12 (yET r7 r14.1) (yEU r15), Ln r15.2.1 = Ln (Val.list r7), Ln r15.2.2.1 = Ln (Val.columns r7), Ln r15.2.2.2 = Ln (Val.rows r7), (decide ((r15.1 : Int) < 0)) = false, AbC 11 (yAJ (Val.mk (Val.kind r8.1) (Val.n r8.1) (Val.step r8.1) (Val.text r8.1) [] [] []) r5) (yAx r16), (!r16) = false, AbC 12 (yEq (Val.mk (Val.kind r8.1) (Val.n r8.1) (Val.step r8.1) (Val.text r8.1) [] [] []) 1) (yEr r17), AbC 13 (yCq (Val.mk (Val.kind r8.1) (Val.n r8.1) (Val.step r8.1) (Val.text r8.1) [] [] []) 1) (yCr r18), (decide ((r18 : Int) < 0)) = false, ((r18 : Int) != r17) = false, AbC 9 (yDb a0) (yCG r19), AbC 9 (yDb a1) (yCG r20), AbC 10 (xAd r19 r20) (xAe r21), AbC 11 (yAJ r21.1 r5) (yAx r22), (!r22) = false, AbC 13 (yCq (Val.mk (Val.kind r8.1) (Val.n r8.1) (Val.step r8.1) (Val.text r8.1) [] [] []) 1) (yCr r23), (decide ((r23 : Int) < 0)) = false, ((r23 : Int) != r17) = true] := by kernel_rfl
theorem p3_e_16 (a0 a1 : Val) (r1 r2 : Int) (r3 r4 r5 r6 r7 : Val) (r8 : Val × Bool) (r9 : Bool) (r10 : Val) (r11 : Bool) (r12 : Val) (r13 : Bool) (r14 : Int × (List Val) × (List Str) × (List Rowd)) (r15 : Int × (List Val) × (List Str) × (List Rowd)) (r16 : Bool) (r17 r18 : Int) (r19 r20 : Val) (r21 : Val × Bool) (r22 : Bool) (r23 : Int) : rE I3 (xAb a0 a1) [F, F, F, F, F, F, F, F, F, F, F, F] [yAM r1, yAM r2, yCG r3, yCG r4, xAa r5, yCG r6, yCG r7, xAf r8, yAx r9, yCG r10, yAx r11, yCG r12, yAx r13, yEU r14, yEU r15, yAx r16, yEr r17, yCr r18, yCG r19, yCG r20, xAe r21, yAx r22, yCr r23] = dn (xAc true) [AbC 7 (yA4 a0 1048576) (yAM r1), (decide ((r1 : Int) < 0)) = false, AbC 7 (yA4 a1 r1) (yAM r2), (decide ((r2 : Int) < 0)) = false, AbC 9 (yDb a0) (yCG r3), AbC 9 (yDb a1) (yCG r4), AbC 8 (xAh r3 r4) (xAa r5), AbC 9 (yDb a0) (yCG r6), AbC 9 (yDb a1) (yCG r7), AbC 10 (xAd r6 r7) (xAf r8), AbC 11 (yAJ (Val.mk (Val.kind r8.1) (Val.n r8.1) (Val.step r8.1) (Val.text r8.1) [] [] []) r5) (yAx r9), (!r9) = false, AbC 9 (yDb a0) (yCG r10), AbC 11 (yAJ r6 r10) (yAx r11), (!r11) = false, AbC 9 (yDb a1) (yCG r12), AbC 11 (yAJ r7 r12) (yAx r13), (!r13) = false, AbC 12 (yET r6 1) (yEU r14), Ln r14.2.1 = Ln (Val.list r6), Ln r14.2.2.1 = Ln (Val.columns r6), Ln r14.2.2.2 = Ln (Val.rows r6), AbC 12 (yET r7 r14.1) (yEU r15), Ln r15.2.1 = Ln (Val.list r7), Ln r15.2.2.1 = Ln (Val.columns r7), Ln r15.2.2.2 = Ln (Val.rows r7), (decide ((r15.1 : Int) < 0)) = false, AbC 11 (yAJ (Val.mk (Val.kind r8.1) (Val.n r8.1) (Val.step r8.1) (Val.text r8.1) [] [] []) r5) (yAx r16), (!r16) = false, AbC 12 (yEq (Val.mk (Val.kind r8.1) (Val.n r8.1) (Val.step r8.1) (Val.text r8.1) [] [] []) 1) (yEr r17), AbC 13 (yCq (Val.mk (Val.kind r8.1) (Val.n r8.1) (Val.step r8.1) (Val.text r8.1) [] [] []) 1) (yCr r18), (decide ((r18 : Int) < 0)) = false, ((r18 : Int) != r17) = false, AbC 9 (yDb a0) (yCG r19), AbC 9 (yDb a1) (yCG r20), AbC 10 (xAd r19 r20) (xAe r21), AbC 11 (yAJ r21.1 r5) (yAx r22), (!r22) = false, AbC 13 (yCq (Val.mk (Val.kind r8.1) (Val.n r8.1) (Val.step r8.1) (Val.text r8.1) [] [] []) 1) (yCr r23), (decide ((r23 : Int) < 0)) = false, ((r23 : Int) != r17) = false] := by kernel_rfl
theorem p3_e_17 (a0 a1 : Val) (r1 r2 : Int) (r3 r4 r5 r6 r7 : Val) (r8 : Val × Bool) (r9 : Bool) : rE I3 (xAb a0 a1) [F, F, Y] [yAM r1, yAM r2, yCG r3, yCG r4, xAa r5, yCG r6, yCG r7, xAe r8, yAx r9] = dn (xAc false) [AbC 7 (yA4 a0 1048576) (yAM r1), (decide ((r1 : Int) < 0)) = false, AbC 7 (yA4 a1 r1) (yAM r2), (decide ((r2 : Int) < 0)) = false, AbC 9 (yDb a0) (yCG r3), AbC 9 (yDb a1) (yCG r4), AbC 8 (xAh r3 r4) (xAa r5), AbC 9 (yDb a0) (yCG r6), AbC 9 (yDb a1) (yCG r7), AbC 10 (xAd r6 r7) (xAe r8), AbC 11 (yAJ r8.1 r5) (yAx r9), (!r9) = true] := by kernel_rfl
theorem p3_e_18 (a0 a1 : Val) (r1 r2 : Int) (r3 r4 r5 r6 r7 : Val) (r8 : Val × Bool) (r9 : Bool) (r10 : Val) (r11 : Bool) : rE I3 (xAb a0 a1) [F, F, F, Y] [yAM r1, yAM r2, yCG r3, yCG r4, xAa r5, yCG r6, yCG r7, xAe r8, yAx r9, yCG r10, yAx r11] = dn (xAc false) [AbC 7 (yA4 a0 1048576) (yAM r1), (decide ((r1 : Int) < 0)) = false, AbC 7 (yA4 a1 r1) (yAM r2), (decide ((r2 : Int) < 0)) = false, AbC 9 (yDb a0) (yCG r3), AbC 9 (yDb a1) (yCG r4), AbC 8 (xAh r3 r4) (xAa r5), AbC 9 (yDb a0) (yCG r6), AbC 9 (yDb a1) (yCG r7), AbC 10 (xAd r6 r7) (xAe r8), AbC 11 (yAJ r8.1 r5) (yAx r9), (!r9) = false, AbC 9 (yDb a0) (yCG r10), AbC 11 (yAJ r6 r10) (yAx r11), (!r11) = true] := by kernel_rfl
theorem p3_e_19 (a0 a1 : Val) (r1 r2 : Int) (r3 r4 r5 r6 r7 : Val) (r8 : Val × Bool) (r9 : Bool) (r10 : Val) (r11 : Bool) (r12 : Val) (r13 : Bool) : rE I3 (xAb a0 a1) [F, F, F, F, Y] [yAM r1, yAM r2, yCG r3, yCG r4, xAa r5, yCG r6, yCG r7, xAe r8, yAx r9, yCG r10, yAx r11, yCG r12, yAx r13] = dn (xAc false) [AbC 7 (yA4 a0 1048576) (yAM r1), (decide ((r1 : Int) < 0)) = false, AbC 7 (yA4 a1 r1) (yAM r2), (decide ((r2 : Int) < 0)) = false, AbC 9 (yDb a0) (yCG r3), AbC 9 (yDb a1) (yCG r4), AbC 8 (xAh r3 r4) (xAa r5), AbC 9 (yDb a0) (yCG r6), AbC 9 (yDb a1) (yCG r7), AbC 10 (xAd r6 r7) (xAe r8), AbC 11 (yAJ r8.1 r5) (yAx r9), (!r9) = false, AbC 9 (yDb a0) (yCG r10), AbC 11 (yAJ r6 r10) (yAx r11), (!r11) = false, AbC 9 (yDb a1) (yCG r12), AbC 11 (yAJ r7 r12) (yAx r13), (!r13) = true] := by kernel_rfl
theorem p3_e_20 (a0 a1 : Val) (r1 r2 : Int) (r3 r4 r5 r6 r7 : Val) (r8 : Val × Bool) (r9 : Bool) (r10 : Val) (r11 : Bool) (r12 : Val) (r13 : Bool) (r14 : Int × (List Val) × (List Str) × (List Rowd)) (r15 : Int × (List Val) × (List Str) × (List Rowd)) : rE I3 (xAb a0 a1) [F, F, F, F, F, Y, Y] [yAM r1, yAM r2, yCG r3, yCG r4, xAa r5, yCG r6, yCG r7, xAe r8, yAx r9, yCG r10, yAx r11, yCG r12, yAx r13, yEU r14, yEU r15] = dn (xAc false) [AbC 7 (yA4 a0 1048576) (yAM r1), (decide ((r1 : Int) < 0)) = false, AbC 7 (yA4 a1 r1) (yAM r2), (decide ((r2 : Int) < 0)) = false, AbC 9 (yDb a0) (yCG r3), AbC 9 (yDb a1) (yCG r4), AbC 8 (xAh r3 r4) (xAa r5), AbC 9 (yDb a0) (yCG r6), AbC 9 (yDb a1) (yCG r7), AbC 10 (xAd r6 r7) (xAe r8), AbC 11 (yAJ r8.1 r5) (yAx r9), (!r9) = false, AbC 9 (yDb a0) (yCG r10), AbC 11 (yAJ r6 r10) (yAx r11), (!r11) = false, AbC 9 (yDb a1) (yCG r12), AbC 11 (yAJ r7 r12) (yAx r13), (!r13) = false, AbC 12 (yET r6 1) (yEU r14), Ln r14.2.1 = Ln (Val.list r6), Ln r14.2.2.1 = Ln (Val.columns r6), Ln r14.2.2.2 = Ln (Val.rows r6), AbC 12 (yET r7 r14.1) (yEU r15), Ln r15.2.1 = Ln (Val.list r7), Ln r15.2.2.1 = Ln (Val.columns r7), Ln r15.2.2.2 = Ln (Val.rows r7), (decide ((r15.1 : Int) < 0)) = true, true = true] := by kernel_rfl
theorem p3_e_21 (a0 a1 : Val) (r1 r2 : Int) (r3 r4 r5 r6 r7 : Val) (r8 : Val × Bool) (r9 : Bool) (r10 : Val) (r11 : Bool) (r12 : Val) (r13 : Bool) (r14 : Int × (List Val) × (List Str) × (List Rowd)) (r15 : Int × (List Val) × (List Str) × (List Rowd)) (r16 : Bool) : rE I3 (xAb a0 a1) [F, F, F, F, F, F, Y] [yAM r1, yAM r2, yCG r3, yCG r4, xAa r5, yCG r6, yCG r7, xAe r8, yAx r9, yCG r10, yAx r11, yCG r12, yAx r13, yEU r14, yEU r15, yAx r16] = dn (xAc false) [AbC 7 (yA4 a0 1048576) (yAM r1), (decide ((r1 : Int) < 0)) = false, AbC 7 (yA4 a1 r1) (yAM r2), (decide ((r2 : Int) < 0)) = false, AbC 9 (yDb a0) (yCG r3), AbC 9 (yDb a1) (yCG r4), AbC 8 (xAh r3 r4) (xAa r5), AbC 9 (yDb a0) (yCG r6), AbC 9 (yDb a1) (yCG r7), AbC 10 (xAd r6 r7) (xAe r8), AbC 11 (yAJ r8.1 r5) (yAx r9), (!r9) = false, AbC 9 (yDb a0) (yCG r10), AbC 11 (yAJ r6 r10) (yAx r11), (!r11) = false, AbC 9 (yDb a1) (yCG r12), AbC 11 (yAJ r7 r12) (yAx r13), (!r13) = false, AbC 12 (yET r6 1) (yEU r14), Ln r14.2.1 = Ln (Val.list r6), Ln r14.2.2.1 = Ln (Val.columns r6), Ln r14.2.2.2 = Ln (Val.rows r6), AbC 12 (yET r7 r14.1) (yEU r15), Ln r15.2.1 = Ln (Val.list r7), Ln r15.2.2.1 = Ln (Val.columns r7), Ln r15.2.2.2 = Ln (Val.rows r7), (decide ((r15.1 : Int) < 0)) = false, AbC 11 (yAJ r8.1 r5) (yAx r16), (!r16) = true] := by kernel_rfl
theorem p3_e_22 (a0 a1 : Val) (r1 r2 : Int) (r3 r4 r5 r6 r7 : Val) (r8 : Val × Bool) (r9 : Bool) (r10 : Val) (r11 : Bool) (r12 : Val) (r13 : Bool) (r14 : Int × (List Val) × (List Str) × (List Rowd)) (r15 : Int × (List Val) × (List Str) × (List Rowd)) (r16 : Bool) (r17 : Int × (List Val) × (List Str) × (List Rowd)) (r18 : Int) : rE I3 (xAb a0 a1) [F, F, F, F, F, F, F, Y] [yAM r1, yAM r2, yCG r3, yCG r4, xAa r5, yCG r6, yCG r7, xAe r8, yAx r9, yCG r10, yAx r11, yCG r12, yAx r13, yEU r14, yEU r15, yAx r16, yEU r17, yCr r18] = dn (xAc false) [AbC 7 (yA4 a0 1048576) (yAM r1), (decide ((r1 : Int) < 0)) = false, AbC 7 (yA4 a1 r1) (yAM r2), (decide ((r2 : Int) < 0)) = false, AbC 9 (yDb a0) (yCG r3), AbC 9 (yDb a1) (yCG r4), AbC 8 (xAh r3 r4) (xAa r5), AbC 9 (yDb a0) (yCG r6), AbC 9 (yDb a1) (yCG r7), AbC 10 (xAd r6 r7) (xAe r8), AbC 11 (yAJ r8.1 r5) (yAx r9), (!r9) = false, AbC 9 (yDb a0) (yCG r10), AbC 11 (yAJ r6 r10) (yAx r11), (!r11) = false, AbC 9 (yDb a1) (yCG r12), AbC 11 (yAJ r7 r12) (yAx r13), (!r13) = false, AbC 12 (yET r6 1) (yEU r14), Ln r14.2.1 = Ln (Val.list r6), Ln r14.2.2.1 = Ln (Val.columns r6), Ln r14.2.2.2 = Ln (Val.rows r6), AbC 12 (yET r7 r14.1) (yEU r15), Ln r15.2.1 = Ln (Val.list r7), Ln r15.2.2.1 = Ln (Val.columns r7), Ln r15.2.2.2 = Ln (Val.rows r7), (decide ((r15.1 : Int) < 0)) = false, AbC 11 (yAJ r8.1 r5) (yAx r16), (!r16) = false, AbC 12 (yET r8.1 1) (yEU r17), Ln r17.2.1 = Ln (Val.list r8.1), Ln r17.2.2.1 = Ln (Val.columns r8.1), Ln r17.2.2.2 = Ln (Val.rows r8.1), AbC 13 (yCq (Val.mk (Val.kind r8.1) (Val.n r8.1) (Val.step r8.1) (Val.text r8.1) r17.2.1 r17.2.2.1 r17.2.2.2) 1) (yCr r18), (decide ((r18 : Int) < 0)) = true] := by kernel_rfl
theorem p3_e_23 (a0 a1 : Val) (r1 r2 : Int) (r3 r4 r5 r6 r7 : Val) (r8 : Val × Bool) (r9 : Bool) (r10 : Val) (r11 : Bool) (r12 : Val) (r13 : Bool) (r14 : Int × (List Val) × (List Str) × (List Rowd)) (r15 : Int × (List Val) × (List Str) × (List Rowd)) (r16 : Bool) (r17 : Int × (List Val) × (List Str) × (List Rowd)) (r18 : Int) : rE I3 (xAb a0 a1) [F, F, F, F, F, F, F, F, Y] [yAM r1, yAM r2, yCG r3, yCG r4, xAa r5, yCG r6, yCG r7, xAe r8, yAx r9, yCG r10, yAx r11, yCG r12, yAx r13, yEU r14, yEU r15, yAx r16, yEU r17, yCr r18] = dn (xAc false) [AbC 7 (yA4 a0 1048576) (yAM r1), (decide ((r1 : Int) < 0)) = false, AbC 7 (yA4 a1 r1) (yAM r2), (decide ((r2 : Int) < 0)) = false, AbC 9 (yDb a0) (yCG r3), AbC 9 (yDb a1) (yCG r4), AbC 8 (xAh r3 r4) (xAa r5), AbC 9 (yDb a0) (yCG r6), AbC 9 (yDb a1) (yCG r7), AbC 10 (xAd r6 r7) (xAe r8), AbC 11 (yAJ r8.1 r5) (yAx r9), (!r9) = false, AbC 9 (yDb a0) (yCG r10), AbC 11 (yAJ r6 r10) (yAx r11), (!r11) = false, AbC 9 (yDb a1) (yCG r12), AbC 11 (yAJ r7 r12) (yAx r13), (!r13) = false, AbC 12 (yET r6 1) (yEU r14), Ln r14.2.1 = Ln (Val.list r6), Ln r14.2.2.1 = Ln (Val.columns r6), Ln r14.2.2.2 = Ln (Val.rows r6), AbC 12 (yET r7 r14.1) (yEU r15), Ln r15.2.1 = Ln (Val.list r7), Ln r15.2.2.1 = Ln (Val.columns r7), Ln r15.2.2.2 = Ln (Val.rows r7), (decide ((r15.1 : Int) < 0)) = false, AbC 11 (yAJ r8.1 r5) (yAx r16), (!r16) = false, AbC 12 (yET r8.1 1) (yEU r17), Ln r17.2.1 = Ln (Val.list r8.1), Ln r17.2.2.1 = Ln (Val.columns r8.1), Ln r17.2.2.2 = Ln (Val.rows r8.1), AbC 13 (yCq (Val.mk (Val.kind r8.1) (Val.n r8.1) (Val.step r8.1) (Val.text r8.1) r17.2.1 r17.2.2.1 r17.2.2.2) 1) (yCr r18), (decide ((r18 : Int) < 0)) = false, ((r18 : Int) != r17.1) = true] := by kernel_rfl
theorem p3_e_24 (a0 a1 : Val) (r1 r2 : Int) (r3 r4 r5 r6 r7 : Val) (r8 : Val × Bool) (r9 : Bool) (r10 : Val) (r11 : Bool) (r12 : Val) (r13 : Bool) (r14 : Int × (List Val) × (List Str) × (List Rowd)) (r15 : Int × (List Val) × (List Str) × (List Rowd)) (r16 : Bool) (r17 : Int × (List Val) × (List Str) × (List Rowd)) (r18 : Int) (r19 r20 : Val) (r21 : Val × Bool) (r22 : Bool) : rE I3 (xAb a0 a1) [F, F, F, F, F, F, F, F, F, Y] [yAM r1, yAM r2, yCG r3, yCG r4, xAa r5, yCG r6, yCG r7, xAe r8, yAx r9, yCG r10, yAx r11, yCG r12, yAx r13, yEU r14, yEU r15, yAx r16, yEU r17, yCr r18, yCG r19, yCG r20, xAf r21, yAx r22] = dn (xAc false) [AbC 7 (yA4 a0 1048576) (yAM r1), (decide ((r1 : Int) < 0)) = false, AbC 7 (yA4 a1 r1) (yAM r2), (decide ((r2 : Int) < 0)) = false, AbC 9 (yDb a0) (yCG r3), AbC 9 (yDb a1) (yCG r4), AbC 8 (xAh r3 r4) (xAa r5), AbC 9 (yDb a0) (yCG r6), AbC 9 (yDb a1) (yCG r7), AbC 10 (xAd r6 r7) (xAe r8), AbC 11 (yAJ r8.1 r5) (yAx r9), (!r9) = false, AbC 9 (yDb a0) (yCG r10), AbC 11 (yAJ r6 r10) (yAx r11), (!r11) = false, AbC 9 (yDb a1) (yCG r12), AbC 11 (yAJ r7 r12) (yAx r13), (!r13) = false, AbC 12 (yET r6 1) (yEU r14), Ln r14.2.1 = Ln (Val.list r6), Ln r14.2.2.1 = Ln (Val.columns r6), Ln r14.2.2.2 = Ln (Val.rows r6), AbC 12 (yET r7 r14.1) (yEU r15), Ln r15.2.1 = Ln (Val.list r7), Ln r15.2.2.1 = Ln (Val.columns r7), Ln r15.2.2.2 = Ln (Val.rows r7), (decide ((r15.1 : Int) < 0)) = false, AbC 11 (yAJ r8.1 r5) (yAx r16), (!r16) = false, AbC 12 (yET r8.1 1) (yEU r17), Ln r17.2.1 = Ln (Val.list r8.1), Ln r17.2.2.1 = Ln (Val.columns r8.1), Ln r17.2.2.2 = Ln (Val.rows r8.1), AbC 13 (yCq (Val.mk (Val.kind r8.1) (Val.n r8.1) (Val.step r8.1) (Val.text r8.1) r17.2.1 r17.2.2.1 r17.2.2.2) 1) (yCr r18), (decide ((r18 : Int) < 0)) = false, ((r18 : Int) != r17.1) = false, AbC 9 (yDb a0) (yCG r19), AbC 9 (yDb a1) (yCG r20), AbC 10 (xAd r19 r20) (xAf r21), AbC 11 (yAJ (Val.mk (Val.kind r21.1) (Val.n r21.1) (Val.step r21.1) (Val.text r21.1) [] [] []) r5) (yAx r22), (!r22) = true] := by kernel_rfl
theorem p3_e_25 (a0 a1 : Val) (r1 r2 : Int) (r3 r4 r5 r6 r7 : Val) (r8 : Val × Bool) (r9 : Bool) (r10 : Val) (r11 : Bool) (r12 : Val) (r13 : Bool) (r14 : Int × (List Val) × (List Str) × (List Rowd)) (r15 : Int × (List Val) × (List Str) × (List Rowd)) (r16 : Bool) (r17 : Int × (List Val) × (List Str) × (List Rowd)) (r18 : Int) (r19 r20 : Val) (r21 : Val × Bool) (r22 : Bool) (r23 : Int) : rE I3 (xAb a0 a1) [F, F, F, F, F, F, F, F, F, F, Y] [yAM r1, yAM r2, yCG r3, yCG r4, xAa r5, yCG r6, yCG r7, xAe r8, yAx r9, yCG r10, yAx r11, yCG r12, yAx r13, yEU r14, yEU r15, yAx r16, yEU r17, yCr r18, yCG r19, yCG r20, xAf r21, yAx r22, yCr r23] = dn (xAc false) [AbC 7 (yA4 a0 1048576) (yAM r1), (decide ((r1 : Int) < 0)) = false, AbC 7 (yA4 a1 r1) (yAM r2), (decide ((r2 : Int) < 0)) = false, AbC 9 (yDb a0) (yCG r3), AbC 9 (yDb a1) (yCG r4), AbC 8 (xAh r3 r4) (xAa r5), AbC 9 (yDb a0) (yCG r6), AbC 9 (yDb a1) (yCG r7), AbC 10 (xAd r6 r7) (xAe r8), AbC 11 (yAJ r8.1 r5) (yAx r9), (!r9) = false, AbC 9 (yDb a0) (yCG r10), AbC 11 (yAJ r6 r10) (yAx r11), (!r11) = false, AbC 9 (yDb a1) (yCG r12), AbC 11 (yAJ r7 r12) (yAx r13), (!r13) = false, AbC 12 (yET r6 1) (yEU r14), Ln r14.2.1 = Ln (Val.list r6), Ln r14.2.2.1 = Ln (Val.columns r6), Ln r14.2.2.2 = Ln (Val.rows r6), AbC 12 (yET r7 r14.1) (yEU r15), Ln r15.2.1 = Ln (Val.list r7), Ln r15.2.2.1 = Ln (Val.columns r7), Ln r15.2.2.2 = Ln (Val.rows r7), (decide ((r15.1 : Int) < 0)) = false, AbC 11 (yAJ r8.1 r5) (yAx r16), (!r16) = false, AbC 12 (yET r8.1 1) (yEU r17), Ln r17.2.1 = Ln (Val.list r8.1), Ln r17.2.2.1 = Ln (Val.columns r8.1), Ln r17.2.2.2 = Ln (Val.rows r8.1), AbC 13 (yCq (Val.mk (Val.kind r8.1) (Val.n r8.1) (Val.step r8.1) (Val.text r8.1) r17.2.1 r17.2.2.1 r17.2.2.2) 1) (yCr r18), (decide ((r18 : Int) < 0)) = false, ((r18 : Int) != r17.1) = false, AbC 9 (yDb a0) (yCG r19), AbC 9 (yDb a1) (yCG r20), AbC 10 (xAd r19 r20) (xAf r21), AbC 11 (yAJ (Val.mk (Val.kind r21.1) (Val.n r21.1) (Val.step r21.1) (Val.text r21.1) [] [] []) r5) (yAx r22), (!r22) = false, AbC 13 (yCq (Val.mk (Val.kind r8.1) (Val.n r8.1) (Val.step r8.1) (Val.text r8.1) r17.2.1 r17.2.2.1 r17.2.2.2) 1) (yCr r23), (decide ((r23 : Int) < 0)) = true] := by kernel_rfl
theorem p3_e_26 (a0 a1 : Val) (r1 r2 : Int) (r3 r4 r5 r6 r7 : Val) (r8 : Val × Bool) (r9 : Bool) (r10 : Val) (r11 : Bool) (r12 : Val) (r13 : Bool) (r14 : Int × (List Val) × (List Str) × (List Rowd)) (r15 : Int × (List Val) × (List Str) × (List Rowd)) (r16 : Bool) (r17 : Int × (List Val) × (List Str) × (List Rowd)) (r18 : Int) (r19 r20 : Val) (r21 : Val × Bool) (r22 : Bool) (r23 : Int) : rE I3 (xAb a0 a1) [F, F, F, F, F, F, F, F, F, F, F, Y] [yAM r1, yAM r2, yCG r3, yCG r4, xAa r5, yCG r6, yCG r7, xAe r8, yAx r9, yCG r10, yAx r11, yCG r12, yAx r13, yEU r14, yEU r15, yAx r16, yEU r17, yCr r18, yCG r19, yCG r20, xAf r21, yAx r22, yCr r23] = dn (xAc false) [AbC 7 (yA4 a0 1048576) (yAM r1), (decide ((r1 : Int) < 0)) = false, AbC 7 (yA4 a1 r1) (yAM r2), (decide ((r2 : Int) < 0)) = false, AbC 9 (yDb a0) (yCG r3), AbC 9 (yDb a1) (yCG r4), AbC 8 (xAh r3 r4) (xAa r5), AbC 9 (yDb a0) (yCG r6), AbC 9 (yDb a1) (yCG r7), AbC 10 (xAd r6 r7) (xAe r8), AbC 11 (yAJ r8.1 r5) (yAx r9), (!r9) = false, AbC 9 (yDb a0) (yCG r10), AbC 11 (yAJ r6 r10) (yAx r11), (!r11) = false, AbC 9 (yDb a1) (yCG r12), AbC 11 (yAJ r7 r12) (yAx r13), (!r13) = false, AbC 12 (yET r6 1) (yEU r14), Ln r14.2.1 = Ln (Val.list r6), Ln r14.2.2.1 = Ln (Val.columns r6), Ln r14.2.2.2 = Ln (Val.rows r6), AbC 12 (yET r7 r14.1) (yEU r15), Ln r15.2.1 = Ln (Val.list r7), Ln r15.2.2.1 = Ln (Val.columns r7), Ln r15.2.2.2 = Ln (Val.rows r7), (decide ((r15.1 : Int) < 0)) = false, AbC 11 (yAJ r8.1 r5) (yAx r16), (!r16) = false, AbC 12 (yET r8.1 1) (yEU r17), Ln r17.2.1 = Ln (Val.list r8.1), Ln r17.2.2.1 = Ln (Val.columns r8.1), Ln r17.2.2.2 = Ln (Val.rows r8.1), AbC 13 (yCq (Val.mk (Val.kind r8.1) (Val.n r8.1) (Val.step r8.1) (Val.text r8.1) r17.2.1 r17.2.2.1 r17.2.2.2) 1) (yCr r18), (decide ((r18 : Int) < 0)) = false, ((r18 : Int) != r17.1) = false, AbC 9 (yDb a0) (yCG r19), AbC 9 (yDb a1) (yCG r20), AbC 10 (xAd r19 r20) (xAf r21), AbC 11 (yAJ (Val.mk (Val.kind r21.1) (Val.n r21.1) (Val.step r21.1) (Val.text r21.1) [] [] []) r5) (yAx r22), (!r22) = false, AbC 13 (yCq (Val.mk (Val.kind r8.1) (Val.n r8.1) (Val.step r8.1) (Val.text r8.1) r17.2.1 r17.2.2.1 r17.2.2.2) 1) (yCr r23), (decide ((r23 : Int) < 0)) = false, ((r23 : Int) != r17.1) = true] := by kernel_rfl
theorem p3_e_27 (a0 a1 : Val) (r1 r2 : Int) (r3 r4 r5 r6 r7 : Val) (r8 : Val × Bool) (r9 : Bool) (r10 : Val) (r11 : Bool) (r12 : Val) (r13 : Bool) (r14 : Int × (List Val) × (List Str) × (List Rowd)) (r15 : Int × (List Val) × (List Str) × (List Rowd)) (r16 : Bool) (r17 : Int × (List Val) × (List Str) × (List Rowd)) (r18 : Int) (r19 r20 : Val) (r21 : Val × Bool) (r22 : Bool) (r23 : Int) : rE I3 (xAb a0 a1) [F, F, F, F, F, F, F, F, F, F, F, F] [yAM r1, yAM r2, yCG r3, yCG r4, xAa r5, yCG r6, yCG r7, xAe r8, yAx r9, yCG r10, yAx r11, yCG r12, yAx r13, yEU r14, yEU r15, yAx r16, yEU r17, yCr r18, yCG r19, yCG r20, xAf r21, yAx r22, yCr r23] = dn (xAc true) [AbC 7 (yA4 a0 1048576) (yAM r1), (decide ((r1 : Int) < 0)) = false, AbC 7 (yA4 a1 r1) (yAM r2), (decide ((r2 : Int) < 0)) = false, AbC 9 (yDb a0) (yCG r3), AbC 9 (yDb a1) (yCG r4), AbC 8 (xAh r3 r4) (xAa r5), AbC 9 (yDb a0) (yCG r6), AbC 9 (yDb a1) (yCG r7), AbC 10 (xAd r6 r7) (xAe r8), AbC 11 (yAJ r8.1 r5) (yAx r9), (!r9) = false, AbC 9 (yDb a0) (yCG r10), AbC 11 (yAJ r6 r10) (yAx r11), (!r11) = false, AbC 9 (yDb a1) (yCG r12), AbC 11 (yAJ r7 r12) (yAx r13), (!r13) = false, AbC 12 (yET r6 1) (yEU r14), Ln r14.2.1 = Ln (Val.list r6), Ln r14.2.2.1 = Ln (Val.columns r6), Ln r14.2.2.2 = Ln (Val.rows r6), AbC 12 (yET r7 r14.1) (yEU r15), Ln r15.2.1 = Ln (Val.list r7), Ln r15.2.2.1 = Ln (Val.columns r7), Ln r15.2.2.2 = Ln (Val.rows r7), (decide ((r15.1 : Int) < 0)) = false, AbC 11 (yAJ r8.1 r5) (yAx r16), (!r16) = false, AbC 12 (yET r8.1 1) (yEU r17), Ln r17.2.1 = Ln (Val.list r8.1), Ln r17.2.2.1 = Ln (Val.columns r8.1), Ln r17.2.2.2 = Ln (Val.rows r8.1), AbC 13 (yCq (Val.mk (Val.kind r8.1) (Val.n r8.1) (Val.step r8.1) (Val.text r8.1) r17.2.1 r17.2.2.1 r17.2.2.2) 1) (yCr r18), (decide ((r18 : Int) < 0)) = false, ((r18 : Int) != r17.1) = false, AbC 9 (yDb a0) (yCG r19), AbC 9 (yDb a1) (yCG r20), AbC 10 (xAd r19 r20) (xAf r21), AbC 11 (yAJ (Val.mk (Val.kind r21.1) (Val.n r21.1) (Val.step r21.1) (Val.text r21.1) [] [] []) r5) (yAx r22), (!r22) = false, AbC 13 (yCq (Val.mk (Val.kind r8.1) (Val.n r8.1) (Val.step r8.1) (Val.text r8.1) r17.2.1 r17.2.2.1 r17.2.2.2) 1) (yCr r23), (decide ((r23 : Int) < 0)) = false, ((r23 : Int) != r17.1) = false] := by kernel_rfl
theorem p3_e_28 (a0 a1 : Val) (r1 r2 : Int) (r3 r4 r5 r6 r7 : Val) (r8 : Val × Bool) (r9 : Bool) (r10 : Val) (r11 : Bool) (r12 : Val) (r13 : Bool) (r14 : Int × (List Val) × (List Str) × (List Rowd)) (r15 : Int × (List Val) × (List Str) × (List Rowd)) (r16 : Bool) (r17 : Int × (List Val) × (List Str) × (List Rowd)) (r18 : Int) (r19 r20 : Val) (r21 : Val × Bool) (r22 : Bool) : rE I3 (xAb a0 a1) [F, F, F, F, F, F, F, F, F, Y] [yAM r1, yAM r2, yCG r3, yCG r4, xAa r5, yCG r6, yCG r7, xAe r8, yAx r9, yCG r10, yAx r11, yCG r12, yAx r13, yEU r14, yEU r15, yAx r16, yEU r17, yCr r18, yCG r19, yCG r20, xAe r21, yAx r22] = dn (xAc false) [AbC 7 (yA4 a0 1048576) (yAM r1), (decide ((r1 : Int) < 0)) = false, AbC 7 (yA4 a1 r1) (yAM r2), (decide ((r2 : Int) < 0)) = false, AbC 9 (yDb a0) (yCG r3), AbC 9 (yDb a1) (yCG r4), AbC 8 (xAh r3 r4) (xAa r5), AbC 9 (yDb a0) (yCG r6), AbC 9 (yDb a1) (yCG r7), AbC 10 (xAd r6 r7) (xAe r8), AbC 11 (yAJ r8.1 r5) (yAx r9), (!r9) = false, AbC 9 (yDb a0) (yCG r10), AbC 11 (yAJ r6 r10) (yAx r11), (!r11) = false, AbC 9 (yDb a1) (yCG r12), AbC 11 (yAJ r7 r12) (yAx r13), (!r13) = false, AbC 12 (yET r6 1) (yEU r14), Ln r14.2.1 = Ln (Val.list r6), Ln r14.2.2.1 = Ln (Val.columns r6), Ln r14.2.2.2 = Ln (Val.rows r6), AbC 12 (yET r7 r14.1) (yEU r15), Ln r15.2.1 = Ln (Val.list r7), Ln r15.2.2.1 = Ln (Val.columns r7), Ln r15.2.2.2 = Ln (Val.rows r7), (decide ((r15.1 : Int) < 0)) = false, AbC 11 (yAJ r8.1 r5) (yAx r16), (!r16) = false, AbC 12 (yET r8.1 1) (yEU r17), Ln r17.2.1 = Ln (Val.list r8.1), Ln r17.2.2.1 = Ln (Val.columns r8.1), Ln r17.2.2.2 = Ln (Val.rows r8.1), AbC 13 (yCq (Val.mk (Val.kind r8.1) (Val.n r8.1) (Val.step r8.1) (Val.text r8.1) r17.2.1 r17.2.2.1 r17.2.2.2) 1) (yCr r18), (decide ((r18 : Int) < 0)) = false, ((r18 : Int) != r17.1) = false, AbC 9 (yDb a0) (yCG r19), AbC 9 (yDb a1) (yCG r20), AbC 10 (xAd r19 r20) (xAe r21), AbC 11 (yAJ r21.1 r5) (yAx r22), (!r22) = true] := by kernel_rfl
theorem p3_e_29 (a0 a1 : Val) (r1 r2 : Int) (r3 r4 r5 r6 r7 : Val) (r8 : Val × Bool) (r9 : Bool) (r10 : Val) (r11 : Bool) (r12 : Val) (r13 : Bool) (r14 : Int × (List Val) × (List Str) × (List Rowd)) (r15 : Int × (List Val) × (List Str) × (List Rowd)) (r16 : Bool) (r17 : Int × (List Val) × (List Str) × (List Rowd)) (r18 : Int) (r19 r20 : Val) (r21 : Val × Bool) (r22 : Bool) (r23 : Int) : rE I3 (xAb a0 a1) [F, F, F, F, F, F, F, F, F, F, Y] [yAM r1, yAM r2, yCG r3, yCG r4, xAa r5, yCG r6, yCG r7, xAe r8, yAx r9, yCG r10, yAx r11, yCG r12, yAx r13, yEU r14, yEU r15, yAx r16, yEU r17, yCr r18, yCG r19, yCG r20, xAe r21, yAx r22, yCr r23] = dn (xAc false) [AbC 7 (yA4 a0 1048576) (yAM r1), (decide ((r1 : Int) < 0)) = false, AbC 7 (yA4 a1 r1) (yAM r2), (decide ((r2 : Int) < 0)) = false, AbC 9 (yDb a0) (yCG r3), AbC 9 (yDb a1) (yCG r4), AbC 8 (xAh r3 r4) (xAa r5), AbC 9 (yDb a0) (yCG r6), AbC 9 (yDb a1) (yCG r7), AbC 10 (xAd r6 r7) (xAe r8), AbC 11 (yAJ r8.1 r5) (yAx r9), (!r9) = false, AbC 9 (yDb a0) (yCG r10), AbC 11 (yAJ r6 r10) (yAx r11), (!r11) = false, AbC 9 (yDb a1) (yCG r12), AbC 11 (yAJ r7 r12) (yAx r13), (!r13) = false, AbC 12 (yET r6 1) (yEU r14), Ln r14.2.1 = Ln (Val.list r6), Ln r14.2.2.1 = Ln (Val.columns r6), Ln r14.2.2.2 = Ln (Val.rows r6), AbC 12 (yET r7 r14.1) (yEU r15), Ln r15.2.1 = Ln (Val.list r7), Ln r15.2.2.1 = Ln (Val.columns r7), Ln r15.2.2.2 = Ln (Val.rows r7), (decide ((r15.1 : Int) < 0)) = false, AbC 11 (yAJ r8.1 r5) (yAx r16), (!r16) = false, AbC 12 (yET r8.1 1) (yEU r17), Ln r17.2.1 = Ln (Val.list r8.1), Ln r17.2.2.1 = Ln (Val.columns r8.1), Ln r17.2.2.2 = Ln (Val.rows r8.1), AbC 13 (yCq (Val.mk (Val.kind r8.1) (Val.n r8.1) (Val.step r8.1) (Val.text r8.1) r17.2.1 r17.2.2.1 r17.2.2.2) 1) (yCr r18), (decide ((r18 : Int) < 0)) = false, ((r18 : Int) != r17.1) = false, AbC 9 (yDb a0) (yCG r19), AbC 9 (yDb a1) (yCG r20), AbC 10 (xAd r19 r20) (xAe r21), AbC 11 (yAJ r21.1 r5) (yAx r22), (!r22) = false, AbC 13 (yCq (Val.mk (Val.kind r8.1) (Val.n r8.1) (Val.step r8.1) (Val.text r8.1) r17.2.1 r17.2.2.1 r17.2.2.2) 1) (yCr r23), (decide ((r23 : Int) < 0)) = true] := by kernel_rfl
theorem p3_e_30 (a0 a1 : Val) (r1 r2 : Int) (r3 r4 r5 r6 r7 : Val) (r8 : Val × Bool) (r9 : Bool) (r10 : Val) (r11 : Bool) (r12 : Val) (r13 : Bool) (r14 : Int × (List Val) × (List Str) × (List Rowd)) (r15 : Int × (List Val) × (List Str) × (List Rowd)) (r16 : Bool) (r17 : Int × (List Val) × (List Str) × (List Rowd)) (r18 : Int) (r19 r20 : Val) (r21 : Val × Bool) (r22 : Bool) (r23 : Int) : rE I3 (xAb a0 a1) [F, F, F, F, F, F, F, F, F, F, F, Y] [yAM r1, yAM r2, yCG r3, yCG r4, xAa r5, yCG r6, yCG r7, xAe r8, yAx r9, yCG r10, yAx r11, yCG r12, yAx r13, yEU r14, yEU r15, yAx r16, yEU r17, yCr r18, yCG r19, yCG r20, xAe r21, yAx r22, yCr r23] = dn (xAc false) [AbC 7 (yA4 a0 1048576) (yAM r1), (decide ((r1 : Int) < 0)) = false, AbC 7 (yA4 a1 r1) (yAM r2), (decide ((r2 : Int) < 0)) = false, AbC 9 (yDb a0) (yCG r3), AbC 9 (yDb a1) (yCG r4), AbC 8 (xAh r3 r4) (xAa r5), AbC 9 (yDb a0) (yCG r6), AbC 9 (yDb a1) (yCG r7), AbC 10 (xAd r6 r7) (xAe r8), AbC 11 (yAJ r8.1 r5) (yAx r9), (!r9) = false, AbC 9 (yDb a0) (yCG r10), AbC 11 (yAJ r6 r10) (yAx r11), (!r11) = false, AbC 9 (yDb a1) (yCG r12), AbC 11 (yAJ r7 r12) (yAx r13), (!r13) = false, AbC 12 (yET r6 1) (yEU r14), Ln r14.2.1 = Ln (Val.list r6), Ln r14.2.2.1 = Ln (Val.columns r6), Ln r14.2.2.2 = Ln (Val.rows r6), AbC 12 (yET r7 r14.1) (yEU r15), Ln r15.2.1 = Ln (Val.list r7), Ln r15.2.2.1 = Ln (Val.columns r7), Ln r15.2.2.2 = Ln (Val.rows r7), (decide ((r15.1 : Int) < 0)) = false, AbC 11 (yAJ r8.1 r5) (yAx r16), (!r16) = false, AbC 12 (yET r8.1 1) (yEU r17), Ln r17.2.1 = Ln (Val.list r8.1), Ln r17.2.2.1 = Ln (Val.columns r8.1), Ln r17.2.2.2 = Ln (Val.rows r8.1), AbC 13 (yCq (Val.mk (Val.kind r8.1) (Val.n r8.1) (Val.step r8.1) (Val.text r8.1) r17.2.1 r17.2.2.1 r17.2.2.2) 1) (yCr r18), (decide ((r18 : Int) < 0)) = false, ((r18 : Int) != r17.1) = false, AbC 9 (yDb a0) (yCG r19), AbC 9 (yDb a1) (yCG r20), AbC 10 (xAd r19 r20) (xAe r21), AbC 11 (yAJ r21.1 r5) (yAx r22), (!r22) = false, AbC 13 (yCq (Val.mk (Val.kind r8.1) (Val.n r8.1) (Val.step r8.1) (Val.text r8.1) r17.2.1 r17.2.2.1 r17.2.2.2) 1) (yCr r23), (decide ((r23 : Int) < 0)) = false, ((r23 : Int) != r17.1) = true] := by kernel_rfl
theorem p3_e_31 (a0 a1 : Val) (r1 r2 : Int) (r3 r4 r5 r6 r7 : Val) (r8 : Val × Bool) (r9 : Bool) (r10 : Val) (r11 : Bool) (r12 : Val) (r13 : Bool) (r14 : Int × (List Val) × (List Str) × (List Rowd)) (r15 : Int × (List Val) × (List Str) × (List Rowd)) (r16 : Bool) (r17 : Int × (List Val) × (List Str) × (List Rowd)) (r18 : Int) (r19 r20 : Val) (r21 : Val × Bool) (r22 : Bool) (r23 : Int) : rE I3 (xAb a0 a1) [F, F, F, F, F, F, F, F, F, F, F, F] [yAM r1, yAM r2, yCG r3, yCG r4, xAa r5, yCG r6, yCG r7, xAe r8, yAx r9, yCG r10, yAx r11, yCG r12, yAx r13, yEU r14, yEU r15, yAx r16, yEU r17, yCr r18, yCG r19, yCG r20, xAe r21, yAx r22, yCr r23] = dn (xAc true) [AbC 7 (yA4 a0 1048576) (yAM r1), (decide ((r1 : Int) < 0)) = false, AbC 7 (yA4 a1 r1) (yAM r2), (decide ((r2 : Int) < 0)) = false, AbC 9 (yDb a0) (yCG r3), AbC 9 (yDb a1) (yCG r4), AbC 8 (xAh r3 r4) (xAa r5), AbC 9 (yDb a0) (yCG r6), AbC 9 (yDb a1) (yCG r7), AbC 10 (xAd r6 r7) (xAe r8), AbC 11 (yAJ r8.1 r5) (yAx r9), (!r9) = false, AbC 9 (yDb a0) (yCG r10), AbC 11 (yAJ r6 r10) (yAx r11), (!r11) = false, AbC 9 (yDb a1) (yCG r12), AbC 11 (yAJ r7 r12) (yAx r13), (!r13) = false, AbC 12 (yET r6 1) (yEU r14), Ln r14.2.1 = Ln (Val.list r6), Ln r14.2.2.1 = Ln (Val.columns r6), Ln r14.2.2.2 = Ln (Val.rows r6), AbC 12 (yET r7 r14.1) (yEU r15), Ln r15.2.1 = Ln (Val.list r7), Ln r15.2.2.1 = Ln (Val.columns r7), Ln r15.2.2.2 = Ln (Val.rows r7), (decide ((r15.1 : Int) < 0)) = false, AbC 11 (yAJ r8.1 r5) (yAx r16), (!r16) = false, AbC 12 (yET r8.1 1) (yEU r17), Ln r17.2.1 = Ln (Val.list r8.1), Ln r17.2.2.1 = Ln (Val.columns r8.1), Ln r17.2.2.2 = Ln (Val.rows r8.1), AbC 13 (yCq (Val.mk (Val.kind r8.1) (Val.n r8.1) (Val.step r8.1) (Val.text r8.1) r17.2.1 r17.2.2.1 r17.2.2.2) 1) (yCr r18), (decide ((r18 : Int) < 0)) = false, ((r18 : Int) != r17.1) = false, AbC 9 (yDb a0) (yCG r19), AbC 9 (yDb a1) (yCG r20), AbC 10 (xAd r19 r20) (xAe r21), AbC 11 (yAJ r21.1 r5) (yAx r22), (!r22) = false, AbC 13 (yCq (Val.mk (Val.kind r8.1) (Val.n r8.1) (Val.step r8.1) (Val.text r8.1) r17.2.1 r17.2.2.1 r17.2.2.2) 1) (yCr r23), (decide ((r23 : Int) < 0)) = false, ((r23 : Int) != r17.1) = false] := by kernel_rfl
theorem c3_e {N : Nat} : ∀ a0 a1 r, xAv N a0 a1 = some r → RE Tryd.f3 I3 (xAb a0 a1) (xAc r) := fun a0 a1 r h =>
 bE h fun r1 h0 h => cE h (fun h1 h => dE h fk3 (p3_e_0 a0 a1 r1) (oc (laws_szValue_ok h0) (oc h1 on))) fun h1 h =>
 bE h fun r2 h2 h => cE h (fun h3 h => dE h fk3 (p3_e_1 a0 a1 r1 r2) (oc (laws_szValue_ok h0) (oc h1 (oc (laws_szValue_ok h2) (oc h3 on))))) fun h3 h =>
 bE h fun r3 h4 h => bE h fun r4 h5 h => bE h fun r5 h6 h => bE h fun r6 h7 h => bE h fun r7 h8 h => bE h fun r8 h9 h => cE h (fun h10 h => iE h fun h11 h => iE h fun h12 h => iE h fun h13 h => bE h fun r9 h14 h => cE h (fun h15 h => dE h fk3 (p3_e_2 a0 a1 r1 r2 r3 r4 r5 r6 r7 r8 r9) (oc (laws_szValue_ok h0) (oc h1 (oc (laws_szValue_ok h2) (oc h3 (oc (laws_toValue_ok h4) (oc (laws_toValue_ok h5) (oc (xAi h6) (oc (laws_toValue_ok h7) (oc (laws_toValue_ok h8) (oc (xAj (xAg h9) h10 h11 h12 h13) (oc (laws_eqValue_ok h14) (oc h15 on))))))))))))) fun h15 h =>
 bE h fun r10 h16 h => bE h fun r11 h17 h => cE h (fun h18 h => dE h fk3 (p3_e_3 a0 a1 r1 r2 r3 r4 r5 r6 r7 r8 r9 r10 r11) (oc (laws_szValue_ok h0) (oc h1 (oc (laws_szValue_ok h2) (oc h3 (oc (laws_toValue_ok h4) (oc (laws_toValue_ok h5) (oc (xAi h6) (oc (laws_toValue_ok h7) (oc (laws_toValue_ok h8) (oc (xAj (xAg h9) h10 h11 h12 h13) (oc (laws_eqValue_ok h14) (oc h15 (oc (laws_toValue_ok h16) (oc (laws_eqValue_ok h17) (oc h18 on)))))))))))))))) fun h18 h =>
 bE h fun r12 h19 h => bE h fun r13 h20 h => cE h (fun h21 h => dE h fk3 (p3_e_4 a0 a1 r1 r2 r3 r4 r5 r6 r7 r8 r9 r10 r11 r12 r13) (oc (laws_szValue_ok h0) (oc h1 (oc (laws_szValue_ok h2) (oc h3 (oc (laws_toValue_ok h4) (oc (laws_toValue_ok h5) (oc (xAi h6) (oc (laws_toValue_ok h7) (oc (laws_toValue_ok h8) (oc (xAj (xAg h9) h10 h11 h12 h13) (oc (laws_eqValue_ok h14) (oc h15 (oc (laws_toValue_ok h16) (oc (laws_eqValue_ok h17) (oc h18 (oc (laws_toValue_ok h19) (oc (laws_eqValue_ok h20) (oc h21 on))))))))))))))))))) fun h21 h =>
 bE h fun r14 h22 h => iE h fun h23 h => iE h fun h24 h => iE h fun h25 h => bE h fun r15 h26 h => iE h fun h27 h => iE h fun h28 h => iE h fun h29 h => cE h (fun h30 h => dE h fk3 (p3_e_5 a0 a1 r1 r2 r3 r4 r5 r6 r7 r8 r9 r10 r11 r12 r13 r14 r15) (oc (laws_szValue_ok h0) (oc h1 (oc (laws_szValue_ok h2) (oc h3 (oc (laws_toValue_ok h4) (oc (laws_toValue_ok h5) (oc (xAi h6) (oc (laws_toValue_ok h7) (oc (laws_toValue_ok h8) (oc (xAj (xAg h9) h10 h11 h12 h13) (oc (laws_eqValue_ok h14) (oc h15 (oc (laws_toValue_ok h16) (oc (laws_eqValue_ok h17) (oc h18 (oc (laws_toValue_ok h19) (oc (laws_eqValue_ok h20) (oc h21 (oc (laws_markValue_ok h22) (oc h23 (oc h24 (oc h25 (oc (laws_markValue_ok h26) (oc h27 (oc h28 (oc h29 (oc h30 (oc rfl on))))))))))))))))))))))))))))) fun h30 h =>
 bE h fun r16 h31 h => cE h (fun h32 h => dE h fk3 (p3_e_6 a0 a1 r1 r2 r3 r4 r5 r6 r7 r8 r9 r10 r11 r12 r13 r14 r15 r16) (oc (laws_szValue_ok h0) (oc h1 (oc (laws_szValue_ok h2) (oc h3 (oc (laws_toValue_ok h4) (oc (laws_toValue_ok h5) (oc (xAi h6) (oc (laws_toValue_ok h7) (oc (laws_toValue_ok h8) (oc (xAj (xAg h9) h10 h11 h12 h13) (oc (laws_eqValue_ok h14) (oc h15 (oc (laws_toValue_ok h16) (oc (laws_eqValue_ok h17) (oc h18 (oc (laws_toValue_ok h19) (oc (laws_eqValue_ok h20) (oc h21 (oc (laws_markValue_ok h22) (oc h23 (oc h24 (oc h25 (oc (laws_markValue_ok h26) (oc h27 (oc h28 (oc h29 (oc h30 (oc (laws_eqValue_ok h31) (oc h32 on)))))))))))))))))))))))))))))) fun h32 h =>
 bE h fun r17 h33 h => bE h fun r18 h34 h => cE h (fun h35 h => dE h fk3 (p3_e_7 a0 a1 r1 r2 r3 r4 r5 r6 r7 r8 r9 r10 r11 r12 r13 r14 r15 r16 r17 r18) (oc (laws_szValue_ok h0) (oc h1 (oc (laws_szValue_ok h2) (oc h3 (oc (laws_toValue_ok h4) (oc (laws_toValue_ok h5) (oc (xAi h6) (oc (laws_toValue_ok h7) (oc (laws_toValue_ok h8) (oc (xAj (xAg h9) h10 h11 h12 h13) (oc (laws_eqValue_ok h14) (oc h15 (oc (laws_toValue_ok h16) (oc (laws_eqValue_ok h17) (oc h18 (oc (laws_toValue_ok h19) (oc (laws_eqValue_ok h20) (oc h21 (oc (laws_markValue_ok h22) (oc h23 (oc h24 (oc h25 (oc (laws_markValue_ok h26) (oc h27 (oc h28 (oc h29 (oc h30 (oc (laws_eqValue_ok h31) (oc h32 (oc (laws_markValue_E_ok h33) (oc (laws_heldValue_ok h34) (oc h35 on))))))))))))))))))))))))))))))))) fun h35 h =>
 cE h (fun h36 h => dE h fk3 (p3_e_8 a0 a1 r1 r2 r3 r4 r5 r6 r7 r8 r9 r10 r11 r12 r13 r14 r15 r16 r17 r18) (oc (laws_szValue_ok h0) (oc h1 (oc (laws_szValue_ok h2) (oc h3 (oc (laws_toValue_ok h4) (oc (laws_toValue_ok h5) (oc (xAi h6) (oc (laws_toValue_ok h7) (oc (laws_toValue_ok h8) (oc (xAj (xAg h9) h10 h11 h12 h13) (oc (laws_eqValue_ok h14) (oc h15 (oc (laws_toValue_ok h16) (oc (laws_eqValue_ok h17) (oc h18 (oc (laws_toValue_ok h19) (oc (laws_eqValue_ok h20) (oc h21 (oc (laws_markValue_ok h22) (oc h23 (oc h24 (oc h25 (oc (laws_markValue_ok h26) (oc h27 (oc h28 (oc h29 (oc h30 (oc (laws_eqValue_ok h31) (oc h32 (oc (laws_markValue_E_ok h33) (oc (laws_heldValue_ok h34) (oc h35 (oc h36 on)))))))))))))))))))))))))))))))))) fun h36 h =>
 bE h fun r19 h37 h => bE h fun r20 h38 h => bE h fun r21 h39 h => cE h (fun h40 h => iE h fun h41 h => iE h fun h42 h => iE h fun h43 h => bE h fun r22 h44 h => cE h (fun h45 h => dE h fk3 (p3_e_9 a0 a1 r1 r2 r3 r4 r5 r6 r7 r8 r9 r10 r11 r12 r13 r14 r15 r16 r17 r18 r19 r20 r21 r22) (oc (laws_szValue_ok h0) (oc h1 (oc (laws_szValue_ok h2) (oc h3 (oc (laws_toValue_ok h4) (oc (laws_toValue_ok h5) (oc (xAi h6) (oc (laws_toValue_ok h7) (oc (laws_toValue_ok h8) (oc (xAj (xAg h9) h10 h11 h12 h13) (oc (laws_eqValue_ok h14) (oc h15 (oc (laws_toValue_ok h16) (oc (laws_eqValue_ok h17) (oc h18 (oc (laws_toValue_ok h19) (oc (laws_eqValue_ok h20) (oc h21 (oc (laws_markValue_ok h22) (oc h23 (oc h24 (oc h25 (oc (laws_markValue_ok h26) (oc h27 (oc h28 (oc h29 (oc h30 (oc (laws_eqValue_ok h31) (oc h32 (oc (laws_markValue_E_ok h33) (oc (laws_heldValue_ok h34) (oc h35 (oc h36 (oc (laws_toValue_ok h37) (oc (laws_toValue_ok h38) (oc (xAj (xAg h39) h40 h41 h42 h43) (oc (laws_eqValue_ok h44) (oc h45 on))))))))))))))))))))))))))))))))))))))) fun h45 h =>
 bE h fun r23 h46 h => cE h (fun h47 h => dE h fk3 (p3_e_10 a0 a1 r1 r2 r3 r4 r5 r6 r7 r8 r9 r10 r11 r12 r13 r14 r15 r16 r17 r18 r19 r20 r21 r22 r23) (oc (laws_szValue_ok h0) (oc h1 (oc (laws_szValue_ok h2) (oc h3 (oc (laws_toValue_ok h4) (oc (laws_toValue_ok h5) (oc (xAi h6) (oc (laws_toValue_ok h7) (oc (laws_toValue_ok h8) (oc (xAj (xAg h9) h10 h11 h12 h13) (oc (laws_eqValue_ok h14) (oc h15 (oc (laws_toValue_ok h16) (oc (laws_eqValue_ok h17) (oc h18 (oc (laws_toValue_ok h19) (oc (laws_eqValue_ok h20) (oc h21 (oc (laws_markValue_ok h22) (oc h23 (oc h24 (oc h25 (oc (laws_markValue_ok h26) (oc h27 (oc h28 (oc h29 (oc h30 (oc (laws_eqValue_ok h31) (oc h32 (oc (laws_markValue_E_ok h33) (oc (laws_heldValue_ok h34) (oc h35 (oc h36 (oc (laws_toValue_ok h37) (oc (laws_toValue_ok h38) (oc (xAj (xAg h39) h40 h41 h42 h43) (oc (laws_eqValue_ok h44) (oc h45 (oc (laws_heldValue_ok h46) (oc h47 on))))))))))))))))))))))))))))))))))))))))) fun h47 h =>
 cE h (fun h48 h => dE h fk3 (p3_e_11 a0 a1 r1 r2 r3 r4 r5 r6 r7 r8 r9 r10 r11 r12 r13 r14 r15 r16 r17 r18 r19 r20 r21 r22 r23) (oc (laws_szValue_ok h0) (oc h1 (oc (laws_szValue_ok h2) (oc h3 (oc (laws_toValue_ok h4) (oc (laws_toValue_ok h5) (oc (xAi h6) (oc (laws_toValue_ok h7) (oc (laws_toValue_ok h8) (oc (xAj (xAg h9) h10 h11 h12 h13) (oc (laws_eqValue_ok h14) (oc h15 (oc (laws_toValue_ok h16) (oc (laws_eqValue_ok h17) (oc h18 (oc (laws_toValue_ok h19) (oc (laws_eqValue_ok h20) (oc h21 (oc (laws_markValue_ok h22) (oc h23 (oc h24 (oc h25 (oc (laws_markValue_ok h26) (oc h27 (oc h28 (oc h29 (oc h30 (oc (laws_eqValue_ok h31) (oc h32 (oc (laws_markValue_E_ok h33) (oc (laws_heldValue_ok h34) (oc h35 (oc h36 (oc (laws_toValue_ok h37) (oc (laws_toValue_ok h38) (oc (xAj (xAg h39) h40 h41 h42 h43) (oc (laws_eqValue_ok h44) (oc h45 (oc (laws_heldValue_ok h46) (oc h47 (oc h48 on)))))))))))))))))))))))))))))))))))))))))) fun h48 h =>
 dE h fk3 (p3_e_12 a0 a1 r1 r2 r3 r4 r5 r6 r7 r8 r9 r10 r11 r12 r13 r14 r15 r16 r17 r18 r19 r20 r21 r22 r23) (oc (laws_szValue_ok h0) (oc h1 (oc (laws_szValue_ok h2) (oc h3 (oc (laws_toValue_ok h4) (oc (laws_toValue_ok h5) (oc (xAi h6) (oc (laws_toValue_ok h7) (oc (laws_toValue_ok h8) (oc (xAj (xAg h9) h10 h11 h12 h13) (oc (laws_eqValue_ok h14) (oc h15 (oc (laws_toValue_ok h16) (oc (laws_eqValue_ok h17) (oc h18 (oc (laws_toValue_ok h19) (oc (laws_eqValue_ok h20) (oc h21 (oc (laws_markValue_ok h22) (oc h23 (oc h24 (oc h25 (oc (laws_markValue_ok h26) (oc h27 (oc h28 (oc h29 (oc h30 (oc (laws_eqValue_ok h31) (oc h32 (oc (laws_markValue_E_ok h33) (oc (laws_heldValue_ok h34) (oc h35 (oc h36 (oc (laws_toValue_ok h37) (oc (laws_toValue_ok h38) (oc (xAj (xAg h39) h40 h41 h42 h43) (oc (laws_eqValue_ok h44) (oc h45 (oc (laws_heldValue_ok h46) (oc h47 (oc h48 on)))))))))))))))))))))))))))))))))))))))))) fun h40 h =>
 bE h fun r22 h41 h => cE h (fun h42 h => dE h fk3 (p3_e_13 a0 a1 r1 r2 r3 r4 r5 r6 r7 r8 r9 r10 r11 r12 r13 r14 r15 r16 r17 r18 r19 r20 r21 r22) (oc (laws_szValue_ok h0) (oc h1 (oc (laws_szValue_ok h2) (oc h3 (oc (laws_toValue_ok h4) (oc (laws_toValue_ok h5) (oc (xAi h6) (oc (laws_toValue_ok h7) (oc (laws_toValue_ok h8) (oc (xAj (xAg h9) h10 h11 h12 h13) (oc (laws_eqValue_ok h14) (oc h15 (oc (laws_toValue_ok h16) (oc (laws_eqValue_ok h17) (oc h18 (oc (laws_toValue_ok h19) (oc (laws_eqValue_ok h20) (oc h21 (oc (laws_markValue_ok h22) (oc h23 (oc h24 (oc h25 (oc (laws_markValue_ok h26) (oc h27 (oc h28 (oc h29 (oc h30 (oc (laws_eqValue_ok h31) (oc h32 (oc (laws_markValue_E_ok h33) (oc (laws_heldValue_ok h34) (oc h35 (oc h36 (oc (laws_toValue_ok h37) (oc (laws_toValue_ok h38) (oc (xAk (xAg h39) h40) (oc (laws_eqValue_ok h41) (oc h42 on))))))))))))))))))))))))))))))))))))))) fun h42 h =>
 bE h fun r23 h43 h => cE h (fun h44 h => dE h fk3 (p3_e_14 a0 a1 r1 r2 r3 r4 r5 r6 r7 r8 r9 r10 r11 r12 r13 r14 r15 r16 r17 r18 r19 r20 r21 r22 r23) (oc (laws_szValue_ok h0) (oc h1 (oc (laws_szValue_ok h2) (oc h3 (oc (laws_toValue_ok h4) (oc (laws_toValue_ok h5) (oc (xAi h6) (oc (laws_toValue_ok h7) (oc (laws_toValue_ok h8) (oc (xAj (xAg h9) h10 h11 h12 h13) (oc (laws_eqValue_ok h14) (oc h15 (oc (laws_toValue_ok h16) (oc (laws_eqValue_ok h17) (oc h18 (oc (laws_toValue_ok h19) (oc (laws_eqValue_ok h20) (oc h21 (oc (laws_markValue_ok h22) (oc h23 (oc h24 (oc h25 (oc (laws_markValue_ok h26) (oc h27 (oc h28 (oc h29 (oc h30 (oc (laws_eqValue_ok h31) (oc h32 (oc (laws_markValue_E_ok h33) (oc (laws_heldValue_ok h34) (oc h35 (oc h36 (oc (laws_toValue_ok h37) (oc (laws_toValue_ok h38) (oc (xAk (xAg h39) h40) (oc (laws_eqValue_ok h41) (oc h42 (oc (laws_heldValue_ok h43) (oc h44 on))))))))))))))))))))))))))))))))))))))))) fun h44 h =>
 cE h (fun h45 h => dE h fk3 (p3_e_15 a0 a1 r1 r2 r3 r4 r5 r6 r7 r8 r9 r10 r11 r12 r13 r14 r15 r16 r17 r18 r19 r20 r21 r22 r23) (oc (laws_szValue_ok h0) (oc h1 (oc (laws_szValue_ok h2) (oc h3 (oc (laws_toValue_ok h4) (oc (laws_toValue_ok h5) (oc (xAi h6) (oc (laws_toValue_ok h7) (oc (laws_toValue_ok h8) (oc (xAj (xAg h9) h10 h11 h12 h13) (oc (laws_eqValue_ok h14) (oc h15 (oc (laws_toValue_ok h16) (oc (laws_eqValue_ok h17) (oc h18 (oc (laws_toValue_ok h19) (oc (laws_eqValue_ok h20) (oc h21 (oc (laws_markValue_ok h22) (oc h23 (oc h24 (oc h25 (oc (laws_markValue_ok h26) (oc h27 (oc h28 (oc h29 (oc h30 (oc (laws_eqValue_ok h31) (oc h32 (oc (laws_markValue_E_ok h33) (oc (laws_heldValue_ok h34) (oc h35 (oc h36 (oc (laws_toValue_ok h37) (oc (laws_toValue_ok h38) (oc (xAk (xAg h39) h40) (oc (laws_eqValue_ok h41) (oc h42 (oc (laws_heldValue_ok h43) (oc h44 (oc h45 on)))))))))))))))))))))))))))))))))))))))))) fun h45 h =>
 dE h fk3 (p3_e_16 a0 a1 r1 r2 r3 r4 r5 r6 r7 r8 r9 r10 r11 r12 r13 r14 r15 r16 r17 r18 r19 r20 r21 r22 r23) (oc (laws_szValue_ok h0) (oc h1 (oc (laws_szValue_ok h2) (oc h3 (oc (laws_toValue_ok h4) (oc (laws_toValue_ok h5) (oc (xAi h6) (oc (laws_toValue_ok h7) (oc (laws_toValue_ok h8) (oc (xAj (xAg h9) h10 h11 h12 h13) (oc (laws_eqValue_ok h14) (oc h15 (oc (laws_toValue_ok h16) (oc (laws_eqValue_ok h17) (oc h18 (oc (laws_toValue_ok h19) (oc (laws_eqValue_ok h20) (oc h21 (oc (laws_markValue_ok h22) (oc h23 (oc h24 (oc h25 (oc (laws_markValue_ok h26) (oc h27 (oc h28 (oc h29 (oc h30 (oc (laws_eqValue_ok h31) (oc h32 (oc (laws_markValue_E_ok h33) (oc (laws_heldValue_ok h34) (oc h35 (oc h36 (oc (laws_toValue_ok h37) (oc (laws_toValue_ok h38) (oc (xAk (xAg h39) h40) (oc (laws_eqValue_ok h41) (oc h42 (oc (laws_heldValue_ok h43) (oc h44 (oc h45 on)))))))))))))))))))))))))))))))))))))))))) fun h10 h =>
 bE h fun r9 h11 h => cE h (fun h12 h => dE h fk3 (p3_e_17 a0 a1 r1 r2 r3 r4 r5 r6 r7 r8 r9) (oc (laws_szValue_ok h0) (oc h1 (oc (laws_szValue_ok h2) (oc h3 (oc (laws_toValue_ok h4) (oc (laws_toValue_ok h5) (oc (xAi h6) (oc (laws_toValue_ok h7) (oc (laws_toValue_ok h8) (oc (xAk (xAg h9) h10) (oc (laws_eqValue_ok h11) (oc h12 on))))))))))))) fun h12 h =>
 bE h fun r10 h13 h => bE h fun r11 h14 h => cE h (fun h15 h => dE h fk3 (p3_e_18 a0 a1 r1 r2 r3 r4 r5 r6 r7 r8 r9 r10 r11) (oc (laws_szValue_ok h0) (oc h1 (oc (laws_szValue_ok h2) (oc h3 (oc (laws_toValue_ok h4) (oc (laws_toValue_ok h5) (oc (xAi h6) (oc (laws_toValue_ok h7) (oc (laws_toValue_ok h8) (oc (xAk (xAg h9) h10) (oc (laws_eqValue_ok h11) (oc h12 (oc (laws_toValue_ok h13) (oc (laws_eqValue_ok h14) (oc h15 on)))))))))))))))) fun h15 h =>
 bE h fun r12 h16 h => bE h fun r13 h17 h => cE h (fun h18 h => dE h fk3 (p3_e_19 a0 a1 r1 r2 r3 r4 r5 r6 r7 r8 r9 r10 r11 r12 r13) (oc (laws_szValue_ok h0) (oc h1 (oc (laws_szValue_ok h2) (oc h3 (oc (laws_toValue_ok h4) (oc (laws_toValue_ok h5) (oc (xAi h6) (oc (laws_toValue_ok h7) (oc (laws_toValue_ok h8) (oc (xAk (xAg h9) h10) (oc (laws_eqValue_ok h11) (oc h12 (oc (laws_toValue_ok h13) (oc (laws_eqValue_ok h14) (oc h15 (oc (laws_toValue_ok h16) (oc (laws_eqValue_ok h17) (oc h18 on))))))))))))))))))) fun h18 h =>
 bE h fun r14 h19 h => iE h fun h20 h => iE h fun h21 h => iE h fun h22 h => bE h fun r15 h23 h => iE h fun h24 h => iE h fun h25 h => iE h fun h26 h => cE h (fun h27 h => dE h fk3 (p3_e_20 a0 a1 r1 r2 r3 r4 r5 r6 r7 r8 r9 r10 r11 r12 r13 r14 r15) (oc (laws_szValue_ok h0) (oc h1 (oc (laws_szValue_ok h2) (oc h3 (oc (laws_toValue_ok h4) (oc (laws_toValue_ok h5) (oc (xAi h6) (oc (laws_toValue_ok h7) (oc (laws_toValue_ok h8) (oc (xAk (xAg h9) h10) (oc (laws_eqValue_ok h11) (oc h12 (oc (laws_toValue_ok h13) (oc (laws_eqValue_ok h14) (oc h15 (oc (laws_toValue_ok h16) (oc (laws_eqValue_ok h17) (oc h18 (oc (laws_markValue_ok h19) (oc h20 (oc h21 (oc h22 (oc (laws_markValue_ok h23) (oc h24 (oc h25 (oc h26 (oc h27 (oc rfl on))))))))))))))))))))))))))))) fun h27 h =>
 bE h fun r16 h28 h => cE h (fun h29 h => dE h fk3 (p3_e_21 a0 a1 r1 r2 r3 r4 r5 r6 r7 r8 r9 r10 r11 r12 r13 r14 r15 r16) (oc (laws_szValue_ok h0) (oc h1 (oc (laws_szValue_ok h2) (oc h3 (oc (laws_toValue_ok h4) (oc (laws_toValue_ok h5) (oc (xAi h6) (oc (laws_toValue_ok h7) (oc (laws_toValue_ok h8) (oc (xAk (xAg h9) h10) (oc (laws_eqValue_ok h11) (oc h12 (oc (laws_toValue_ok h13) (oc (laws_eqValue_ok h14) (oc h15 (oc (laws_toValue_ok h16) (oc (laws_eqValue_ok h17) (oc h18 (oc (laws_markValue_ok h19) (oc h20 (oc h21 (oc h22 (oc (laws_markValue_ok h23) (oc h24 (oc h25 (oc h26 (oc h27 (oc (laws_eqValue_ok h28) (oc h29 on)))))))))))))))))))))))))))))) fun h29 h =>
 bE h fun r17 h30 h => iE h fun h31 h => iE h fun h32 h => iE h fun h33 h => bE h fun r18 h34 h => cE h (fun h35 h => dE h fk3 (p3_e_22 a0 a1 r1 r2 r3 r4 r5 r6 r7 r8 r9 r10 r11 r12 r13 r14 r15 r16 r17 r18) (oc (laws_szValue_ok h0) (oc h1 (oc (laws_szValue_ok h2) (oc h3 (oc (laws_toValue_ok h4) (oc (laws_toValue_ok h5) (oc (xAi h6) (oc (laws_toValue_ok h7) (oc (laws_toValue_ok h8) (oc (xAk (xAg h9) h10) (oc (laws_eqValue_ok h11) (oc h12 (oc (laws_toValue_ok h13) (oc (laws_eqValue_ok h14) (oc h15 (oc (laws_toValue_ok h16) (oc (laws_eqValue_ok h17) (oc h18 (oc (laws_markValue_ok h19) (oc h20 (oc h21 (oc h22 (oc (laws_markValue_ok h23) (oc h24 (oc h25 (oc h26 (oc h27 (oc (laws_eqValue_ok h28) (oc h29 (oc (laws_markValue_ok h30) (oc h31 (oc h32 (oc h33 (oc (laws_heldValue_ok h34) (oc h35 on)))))))))))))))))))))))))))))))))))) fun h35 h =>
 cE h (fun h36 h => dE h fk3 (p3_e_23 a0 a1 r1 r2 r3 r4 r5 r6 r7 r8 r9 r10 r11 r12 r13 r14 r15 r16 r17 r18) (oc (laws_szValue_ok h0) (oc h1 (oc (laws_szValue_ok h2) (oc h3 (oc (laws_toValue_ok h4) (oc (laws_toValue_ok h5) (oc (xAi h6) (oc (laws_toValue_ok h7) (oc (laws_toValue_ok h8) (oc (xAk (xAg h9) h10) (oc (laws_eqValue_ok h11) (oc h12 (oc (laws_toValue_ok h13) (oc (laws_eqValue_ok h14) (oc h15 (oc (laws_toValue_ok h16) (oc (laws_eqValue_ok h17) (oc h18 (oc (laws_markValue_ok h19) (oc h20 (oc h21 (oc h22 (oc (laws_markValue_ok h23) (oc h24 (oc h25 (oc h26 (oc h27 (oc (laws_eqValue_ok h28) (oc h29 (oc (laws_markValue_ok h30) (oc h31 (oc h32 (oc h33 (oc (laws_heldValue_ok h34) (oc h35 (oc h36 on))))))))))))))))))))))))))))))))))))) fun h36 h =>
 bE h fun r19 h37 h => bE h fun r20 h38 h => bE h fun r21 h39 h => cE h (fun h40 h => iE h fun h41 h => iE h fun h42 h => iE h fun h43 h => bE h fun r22 h44 h => cE h (fun h45 h => dE h fk3 (p3_e_24 a0 a1 r1 r2 r3 r4 r5 r6 r7 r8 r9 r10 r11 r12 r13 r14 r15 r16 r17 r18 r19 r20 r21 r22) (oc (laws_szValue_ok h0) (oc h1 (oc (laws_szValue_ok h2) (oc h3 (oc (laws_toValue_ok h4) (oc (laws_toValue_ok h5) (oc (xAi h6) (oc (laws_toValue_ok h7) (oc (laws_toValue_ok h8) (oc (xAk (xAg h9) h10) (oc (laws_eqValue_ok h11) (oc h12 (oc (laws_toValue_ok h13) (oc (laws_eqValue_ok h14) (oc h15 (oc (laws_toValue_ok h16) (oc (laws_eqValue_ok h17) (oc h18 (oc (laws_markValue_ok h19) (oc h20 (oc h21 (oc h22 (oc (laws_markValue_ok h23) (oc h24 (oc h25 (oc h26 (oc h27 (oc (laws_eqValue_ok h28) (oc h29 (oc (laws_markValue_ok h30) (oc h31 (oc h32 (oc h33 (oc (laws_heldValue_ok h34) (oc h35 (oc h36 (oc (laws_toValue_ok h37) (oc (laws_toValue_ok h38) (oc (xAj (xAg h39) h40 h41 h42 h43) (oc (laws_eqValue_ok h44) (oc h45 on)))))))))))))))))))))))))))))))))))))))))) fun h45 h =>
 bE h fun r23 h46 h => cE h (fun h47 h => dE h fk3 (p3_e_25 a0 a1 r1 r2 r3 r4 r5 r6 r7 r8 r9 r10 r11 r12 r13 r14 r15 r16 r17 r18 r19 r20 r21 r22 r23) (oc (laws_szValue_ok h0) (oc h1 (oc (laws_szValue_ok h2) (oc h3 (oc (laws_toValue_ok h4) (oc (laws_toValue_ok h5) (oc (xAi h6) (oc (laws_toValue_ok h7) (oc (laws_toValue_ok h8) (oc (xAk (xAg h9) h10) (oc (laws_eqValue_ok h11) (oc h12 (oc (laws_toValue_ok h13) (oc (laws_eqValue_ok h14) (oc h15 (oc (laws_toValue_ok h16) (oc (laws_eqValue_ok h17) (oc h18 (oc (laws_markValue_ok h19) (oc h20 (oc h21 (oc h22 (oc (laws_markValue_ok h23) (oc h24 (oc h25 (oc h26 (oc h27 (oc (laws_eqValue_ok h28) (oc h29 (oc (laws_markValue_ok h30) (oc h31 (oc h32 (oc h33 (oc (laws_heldValue_ok h34) (oc h35 (oc h36 (oc (laws_toValue_ok h37) (oc (laws_toValue_ok h38) (oc (xAj (xAg h39) h40 h41 h42 h43) (oc (laws_eqValue_ok h44) (oc h45 (oc (laws_heldValue_ok h46) (oc h47 on)))))))))))))))))))))))))))))))))))))))))))) fun h47 h =>
 cE h (fun h48 h => dE h fk3 (p3_e_26 a0 a1 r1 r2 r3 r4 r5 r6 r7 r8 r9 r10 r11 r12 r13 r14 r15 r16 r17 r18 r19 r20 r21 r22 r23) (oc (laws_szValue_ok h0) (oc h1 (oc (laws_szValue_ok h2) (oc h3 (oc (laws_toValue_ok h4) (oc (laws_toValue_ok h5) (oc (xAi h6) (oc (laws_toValue_ok h7) (oc (laws_toValue_ok h8) (oc (xAk (xAg h9) h10) (oc (laws_eqValue_ok h11) (oc h12 (oc (laws_toValue_ok h13) (oc (laws_eqValue_ok h14) (oc h15 (oc (laws_toValue_ok h16) (oc (laws_eqValue_ok h17) (oc h18 (oc (laws_markValue_ok h19) (oc h20 (oc h21 (oc h22 (oc (laws_markValue_ok h23) (oc h24 (oc h25 (oc h26 (oc h27 (oc (laws_eqValue_ok h28) (oc h29 (oc (laws_markValue_ok h30) (oc h31 (oc h32 (oc h33 (oc (laws_heldValue_ok h34) (oc h35 (oc h36 (oc (laws_toValue_ok h37) (oc (laws_toValue_ok h38) (oc (xAj (xAg h39) h40 h41 h42 h43) (oc (laws_eqValue_ok h44) (oc h45 (oc (laws_heldValue_ok h46) (oc h47 (oc h48 on))))))))))))))))))))))))))))))))))))))))))))) fun h48 h =>
 dE h fk3 (p3_e_27 a0 a1 r1 r2 r3 r4 r5 r6 r7 r8 r9 r10 r11 r12 r13 r14 r15 r16 r17 r18 r19 r20 r21 r22 r23) (oc (laws_szValue_ok h0) (oc h1 (oc (laws_szValue_ok h2) (oc h3 (oc (laws_toValue_ok h4) (oc (laws_toValue_ok h5) (oc (xAi h6) (oc (laws_toValue_ok h7) (oc (laws_toValue_ok h8) (oc (xAk (xAg h9) h10) (oc (laws_eqValue_ok h11) (oc h12 (oc (laws_toValue_ok h13) (oc (laws_eqValue_ok h14) (oc h15 (oc (laws_toValue_ok h16) (oc (laws_eqValue_ok h17) (oc h18 (oc (laws_markValue_ok h19) (oc h20 (oc h21 (oc h22 (oc (laws_markValue_ok h23) (oc h24 (oc h25 (oc h26 (oc h27 (oc (laws_eqValue_ok h28) (oc h29 (oc (laws_markValue_ok h30) (oc h31 (oc h32 (oc h33 (oc (laws_heldValue_ok h34) (oc h35 (oc h36 (oc (laws_toValue_ok h37) (oc (laws_toValue_ok h38) (oc (xAj (xAg h39) h40 h41 h42 h43) (oc (laws_eqValue_ok h44) (oc h45 (oc (laws_heldValue_ok h46) (oc h47 (oc h48 on))))))))))))))))))))))))))))))))))))))))))))) fun h40 h =>
 bE h fun r22 h41 h => cE h (fun h42 h => dE h fk3 (p3_e_28 a0 a1 r1 r2 r3 r4 r5 r6 r7 r8 r9 r10 r11 r12 r13 r14 r15 r16 r17 r18 r19 r20 r21 r22) (oc (laws_szValue_ok h0) (oc h1 (oc (laws_szValue_ok h2) (oc h3 (oc (laws_toValue_ok h4) (oc (laws_toValue_ok h5) (oc (xAi h6) (oc (laws_toValue_ok h7) (oc (laws_toValue_ok h8) (oc (xAk (xAg h9) h10) (oc (laws_eqValue_ok h11) (oc h12 (oc (laws_toValue_ok h13) (oc (laws_eqValue_ok h14) (oc h15 (oc (laws_toValue_ok h16) (oc (laws_eqValue_ok h17) (oc h18 (oc (laws_markValue_ok h19) (oc h20 (oc h21 (oc h22 (oc (laws_markValue_ok h23) (oc h24 (oc h25 (oc h26 (oc h27 (oc (laws_eqValue_ok h28) (oc h29 (oc (laws_markValue_ok h30) (oc h31 (oc h32 (oc h33 (oc (laws_heldValue_ok h34) (oc h35 (oc h36 (oc (laws_toValue_ok h37) (oc (laws_toValue_ok h38) (oc (xAk (xAg h39) h40) (oc (laws_eqValue_ok h41) (oc h42 on)))))))))))))))))))))))))))))))))))))))))) fun h42 h =>
 bE h fun r23 h43 h => cE h (fun h44 h => dE h fk3 (p3_e_29 a0 a1 r1 r2 r3 r4 r5 r6 r7 r8 r9 r10 r11 r12 r13 r14 r15 r16 r17 r18 r19 r20 r21 r22 r23) (oc (laws_szValue_ok h0) (oc h1 (oc (laws_szValue_ok h2) (oc h3 (oc (laws_toValue_ok h4) (oc (laws_toValue_ok h5) (oc (xAi h6) (oc (laws_toValue_ok h7) (oc (laws_toValue_ok h8) (oc (xAk (xAg h9) h10) (oc (laws_eqValue_ok h11) (oc h12 (oc (laws_toValue_ok h13) (oc (laws_eqValue_ok h14) (oc h15 (oc (laws_toValue_ok h16) (oc (laws_eqValue_ok h17) (oc h18 (oc (laws_markValue_ok h19) (oc h20 (oc h21 (oc h22 (oc (laws_markValue_ok h23) (oc h24 (oc h25 (oc h26 (oc h27 (oc (laws_eqValue_ok h28) (oc h29 (oc (laws_markValue_ok h30) (oc h31 (oc h32 (oc h33 (oc (laws_heldValue_ok h34) (oc h35 (oc h36 (oc (laws_toValue_ok h37) (oc (laws_toValue_ok h38) (oc (xAk (xAg h39) h40) (oc (laws_eqValue_ok h41) (oc h42 (oc (laws_heldValue_ok h43) (oc h44 on)))))))))))))))))))))))))))))))))))))))))))) fun h44 h =>
 cE h (fun h45 h => dE h fk3 (p3_e_30 a0 a1 r1 r2 r3 r4 r5 r6 r7 r8 r9 r10 r11 r12 r13 r14 r15 r16 r17 r18 r19 r20 r21 r22 r23) (oc (laws_szValue_ok h0) (oc h1 (oc (laws_szValue_ok h2) (oc h3 (oc (laws_toValue_ok h4) (oc (laws_toValue_ok h5) (oc (xAi h6) (oc (laws_toValue_ok h7) (oc (laws_toValue_ok h8) (oc (xAk (xAg h9) h10) (oc (laws_eqValue_ok h11) (oc h12 (oc (laws_toValue_ok h13) (oc (laws_eqValue_ok h14) (oc h15 (oc (laws_toValue_ok h16) (oc (laws_eqValue_ok h17) (oc h18 (oc (laws_markValue_ok h19) (oc h20 (oc h21 (oc h22 (oc (laws_markValue_ok h23) (oc h24 (oc h25 (oc h26 (oc h27 (oc (laws_eqValue_ok h28) (oc h29 (oc (laws_markValue_ok h30) (oc h31 (oc h32 (oc h33 (oc (laws_heldValue_ok h34) (oc h35 (oc h36 (oc (laws_toValue_ok h37) (oc (laws_toValue_ok h38) (oc (xAk (xAg h39) h40) (oc (laws_eqValue_ok h41) (oc h42 (oc (laws_heldValue_ok h43) (oc h44 (oc h45 on))))))))))))))))))))))))))))))))))))))))))))) fun h45 h =>
 dE h fk3 (p3_e_31 a0 a1 r1 r2 r3 r4 r5 r6 r7 r8 r9 r10 r11 r12 r13 r14 r15 r16 r17 r18 r19 r20 r21 r22 r23) (oc (laws_szValue_ok h0) (oc h1 (oc (laws_szValue_ok h2) (oc h3 (oc (laws_toValue_ok h4) (oc (laws_toValue_ok h5) (oc (xAi h6) (oc (laws_toValue_ok h7) (oc (laws_toValue_ok h8) (oc (xAk (xAg h9) h10) (oc (laws_eqValue_ok h11) (oc h12 (oc (laws_toValue_ok h13) (oc (laws_eqValue_ok h14) (oc h15 (oc (laws_toValue_ok h16) (oc (laws_eqValue_ok h17) (oc h18 (oc (laws_markValue_ok h19) (oc h20 (oc h21 (oc h22 (oc (laws_markValue_ok h23) (oc h24 (oc h25 (oc h26 (oc h27 (oc (laws_eqValue_ok h28) (oc h29 (oc (laws_markValue_ok h30) (oc h31 (oc h32 (oc h33 (oc (laws_heldValue_ok h34) (oc h35 (oc h36 (oc (laws_toValue_ok h37) (oc (laws_toValue_ok h38) (oc (xAk (xAg h39) h40) (oc (laws_eqValue_ok h41) (oc h42 (oc (laws_heldValue_ok h43) (oc h44 (oc h45 on))))))))))))))))))))))))))))))))))))))))))))
theorem laws_FnExactTableOf_ok {N : Nat} {a0 : Val} {a1 : Val} {r : Bool} (h : xAv N  a0 a1 = some r) : AbC 3 (xAb a0 a1) (xAc r) :=
 AbsCalls.of_reach fk3 rfl rfl (Nat.le_of_ble_eq_true rfl) (c3_e a0 a1 r h)
end Go.Ab.T
end
section
namespace Go.Ab
set_option linter.unusedVariables false
set_option linter.unusedSimpArgs false
def xAw (y : Val) : Bool := y.kind == 1
def xAB (n : Nat) (x : Val) : Bool := x.kind == 3 && (x.list.length == n && x.list.all xAw)
def rowOf (x : Val) : Rowd := ⟨x.list.map Val.n, []⟩
def tblR (cs : List Str) (q : List Rowd) (l : List Val) : Val := bif l.all (xAB cs.length) then .mk 5 0 0 [] [] cs (q ++ l.map rowOf) else errV 4
theorem spec_numbers {N K : Nat} {x : Val} (hx : x.list.length ≤ K) (hK : K ≤ 137438953472) (hN : K < N) :
    ∃ q, xAu N x = some (q, x.list.all xAw && (x.kind == 3)) ∧ (x.list.all xAw = true → q = x.list.map Val.n) := by
  have := yEv (L := fun m i q => xAq N m q i x) x.list (fun l q => (q ++ (l.takeWhile xAw).map Val.n, l.all xAw && (x.kind == 3))) (fun i q => q.length = i) (fun m q _ => by simp [xAq])
    (fun i y l q hd hi hy hq => by
      have hq : q.length = i := hq
      have hi' : (i : Int) < (x.list.length : Int) := by omega
      cases hk : xAw y
      · refine .inr fun m => ?_
        have hk' : (y.kind != 1) = true := by unfold xAw at hk; simp only [bne, hk]; rfl
        simp only [xAq, decide_eq_true hi', cond_true, Int.toNat_natCast, yAp hy, hk', List.takeWhile_cons, hk, List.all_cons, Bool.false_and, Bool.false_eq_true, if_false, List.map_nil, List.append_nil]
        rw [if_pos (by omega)]
      · have hk' : (y.kind != 1) = false := by unfold xAw at hk; simp only [bne, hk]; rfl
        refine .inl ⟨q ++ [y.n], by simp [hq], by simp [List.takeWhile_cons, hk], fun m => ?_⟩
        simp only [xAq, decide_eq_true hi', cond_true, Int.toNat_natCast, yAp hy, hk', cond_false, yAk hi (by omega : x.list.length ≤ _)]
        rw [if_pos (by omega), if_pos (by simp only [List.length_cons, List.length_nil]; unfold Lim; omega)]) N 0 [] rfl (by omega) (by omega)
  refine ⟨(x.list.takeWhile xAw).map Val.n, by simpa [xAu] using this, fun h => ?_⟩
  have tw : ∀ l : List Val, l.all xAw = true → l.takeWhile xAw = l := by
    intro l
    induction l with
    | nil => intro _; rfl
    | cons y l ih =>
      intro h
      simp only [List.all_cons, Bool.and_eq_true] at h
      rw [List.takeWhile_cons, h.1, if_pos rfl, ih h.2]
  rw [tw _ h]
theorem spec_tbl_loop {N K : Nat} {v z : Val} {cs : List Str} (hl : v.list.length ≤ K) (hv : ∀ x ∈ v.list, x.list.length ≤ K) (hK : K ≤ 137438953472) (hN : K < N) :
    xAo N N 0 v z (.mk 5 0 0 [] [] cs []) = some (tblR cs [] v.list) :=
  yEv (L := fun m i q => xAo N m i v z (.mk 5 0 0 [] [] cs q)) v.list (fun l q => tblR cs q l) (fun i q => q.length = i) (fun m q _ => by simp [xAo, tblR])
    (fun i x l q hd hi hx hq => by
      have hq : q.length = i := hq
      have hi' : (i : Int) < (v.list.length : Int) := by omega
      obtain ⟨qs, n1, n2⟩ := spec_numbers (N := N) (hv x (List.mem_of_getElem? hx)) hK hN
      cases hk : (x.list.all xAw && (x.kind == 3))
      · rw [hk] at n1
        refine .inr fun m => ?_
        have hr : xAB cs.length x = false := by
          unfold xAB
          cases h1 : x.kind == 3
          · rfl
          · rw [h1, Bool.and_true] at hk; rw [hk]; simp
        simp only [xAo, decide_eq_true hi', cond_true, Int.toNat_natCast, yAp hx, n1, Option.bind_some, Bool.not_false, yB2, tblR, List.all_cons, hr, Bool.false_and, cond_false]
        rw [if_pos (by omega)]; rfl
      · rw [hk] at n1
        simp only [Bool.and_eq_true] at hk
        have hqs := n2 hk.1
        have hlen : qs.length = x.list.length := by rw [hqs, List.length_map]
        cases hc : (x.list.length == cs.length)
        · refine .inr fun m => ?_
          have hr : xAB cs.length x = false := by unfold xAB; rw [hc]; simp
          have hc' : ((qs.length : Int) != (cs.length : Int)) = true := by rw [hlen]; simp at hc ⊢; omega
          simp only [xAo, decide_eq_true hi', cond_true, Int.toNat_natCast, yAp hx, n1, Option.bind_some, Bool.not_true, cond_false, vc, hc', yB2, tblR, List.all_cons, hr, Bool.false_and]
          rw [if_pos (by omega)]; rfl
        · have hr : xAB cs.length x = true := by unfold xAB; rw [hc, hk.1, hk.2]; rfl
          have hc' : ((qs.length : Int) != (cs.length : Int)) = false := by rw [hlen]; simp at hc ⊢; omega
          refine .inl ⟨q ++ [rowOf x], by simp [hq], by simp [tblR, hr], fun m => ?_⟩
          simp only [xAo, decide_eq_true hi', cond_true, Int.toNat_natCast, yAp hx, n1, Option.bind_some, Bool.not_true, cond_false, vk, vn, vs, vt, vl, vc, vr, hc', yAk hi (by omega : v.list.length ≤ _)]
          rw [if_pos (by omega), if_pos (by simp only [List.length_cons, List.length_nil]; unfold Lim; omega), hqs]; rfl) N 0 [] rfl (by omega) (by omega)
theorem impl_row_loop {N K : Nat} {k8 : List Val → Int → Int → Val → Val → Option (Val × Bool)} {X : List Val} {L0 j : Int} {z b : Val} {l : List Val} (hl : l.length ≤ K) (hK : K ≤ 137438953472) (hN : K < N) (hb : b.rows.length ≤ K) :
    xAp N k8 N X L0 j l l.length 0 z b (Rowd.mk [] []) = bif l.all xAw then k8 X L0 (IntKind.i64.wrap (j + 1)) z (.mk b.kind b.n b.step b.text b.list b.columns (b.rows ++ [⟨l.map Val.n, []⟩])) else some (errV 4, false) := by
  have key : ∀ (n i : Nat) (q : List Int), q.length = i → i ≤ l.length → l.length < n + i → xAp N k8 n X L0 j l l.length (i : Nat) z b (Rowd.mk q []) = bif (l.drop i).all xAw then k8 X L0 (IntKind.i64.wrap (j + 1)) z (.mk b.kind b.n b.step b.text b.list b.columns (b.rows ++ [⟨q ++ (l.drop i).map Val.n, []⟩])) else some (errV 4, false) := by
    intro n
    induction n with
    | zero => intro i q _ h1 h2; omega
    | succ n ih =>
      intro i q hq hi hn
      cases hd : l.drop i with
      | nil =>
        have hi2 : i = l.length := by have := drop_nil hd; omega
        subst hi2
        simp only [xAp, Int.lt_irrefl, decide_false, cond_false, List.all_nil, cond_true, List.map_nil, List.append_nil]
        rw [if_pos (by simp only [List.length_cons, List.length_nil]; unfold Lim; omega)]
      | cons y r =>
        obtain ⟨h1, h2, h3⟩ := yGu hd
        have hi' : (i : Int) < (l.length : Int) := by omega
        have := ih (i + 1) (q ++ [y.n]) (by simp [hq]) (by omega) (by omega)
        rw [h3] at this
        cases hk : xAw y
        · have hk' : (y.kind != 1) = true := by unfold xAw at hk; simp only [bne, hk]; rfl
          simp only [xAp, decide_eq_true hi', cond_true, Int.toNat_natCast, yAp h2, hk', yC9, Option.bind_some, List.all_cons, hk, Bool.false_and, cond_false]
          rw [if_pos (by omega)]; rfl
        · have hk' : (y.kind != 1) = false := by unfold xAw at hk; simp only [bne, hk]; rfl
          simp only [xAp, decide_eq_true hi', cond_true, Int.toNat_natCast, yAp h2, hk', cond_false, yAk h1 (by omega : l.length ≤ _), List.all_cons, hk, Bool.true_and]
          rw [if_pos (by omega), if_pos (by simp only [List.length_cons, List.length_nil]; unfold Lim; omega), this]
          simp
  have := key N 0 [] rfl (Nat.zero_le _) (by omega)
  simpa using this
theorem impl_tbl_loop {N K : Nat} {l : List Val} {z : Val} {cs : List Str} (hl : l.length ≤ K) (hv : ∀ x ∈ l, x.list.length ≤ K) (hK : K ≤ 137438953472) (hN : K < N) :
    xAn N N l l.length 0 z (.mk 5 0 0 [] [] cs []) = some (tblR cs [] l, false) :=
  yEv (L := fun m i q => xAn N m l l.length i z (.mk 5 0 0 [] [] cs q)) l (fun r q => (tblR cs q r, false)) (fun i q => q.length = i) (fun m q _ => by simp [xAn, tblR])
    (fun i x r q hd hi hx hq => by
      have hq : q.length = i := hq
      have hi' : (i : Int) < (l.length : Int) := by omega
      have inner := fun m => impl_row_loop (N := N) (k8 := fun z0 z1 z2 z3 z4 => xAn N m z0 z1 z2 z3 z4) (X := l) (L0 := l.length) (j := (i : Nat)) (z := z) (b := .mk 5 0 0 [] [] cs q) (hv x (List.mem_of_getElem? hx)) hK hN (by rw [vr]; omega)
      simp only [vk, vn, vs, vt, vl, vc, vr] at inner
      cases h1 : (x.kind == 3)
      · refine .inr fun m => ?_
        have h1' : (x.kind != 3) = true := by simp only [bne, h1]; rfl
        have hr : xAB cs.length x = false := by unfold xAB; rw [h1]; rfl
        simp only [xAn, decide_eq_true hi', cond_true, Int.toNat_natCast, yAp hx, h1', yC9, Option.bind_some, tblR, List.all_cons, hr, Bool.false_and, cond_false]
        rw [if_pos (by omega)]; rfl
      · have h1' : (x.kind != 3) = false := by simp only [bne, h1]; rfl
        cases h2 : (x.list.length == cs.length)
        · refine .inr fun m => ?_
          have h2' : ((x.list.length : Int) != (cs.length : Int)) = true := by simp at h2 ⊢; omega
          have hr : xAB cs.length x = false := by unfold xAB; rw [h2]; simp
          simp only [xAn, decide_eq_true hi', cond_true, Int.toNat_natCast, yAp hx, h1', cond_false, vc, h2', yC9, Option.bind_some, tblR, List.all_cons, hr, Bool.false_and]
          rw [if_pos (by omega)]; rfl
        · have h2' : ((x.list.length : Int) != (cs.length : Int)) = false := by simp at h2 ⊢; omega
          cases h3 : x.list.all xAw
          · refine .inr fun m => ?_
            have hr : xAB cs.length x = false := by unfold xAB; rw [h3]; simp
            simp only [xAn, decide_eq_true hi', cond_true, Int.toNat_natCast, yAp hx, h1', cond_false, vc, h2', inner, h3, tblR, List.all_cons, hr, Bool.false_and]
            rw [if_pos (by omega)]
          · have hr : xAB cs.length x = true := by unfold xAB; rw [h1, h2, h3]; rfl
            refine .inl ⟨q ++ [rowOf x], by simp [hq], by simp [tblR, hr], fun m => ?_⟩
            simp only [xAn, decide_eq_true hi', cond_true, Int.toNat_natCast, yAp hx, h1', cond_false, vc, h2', inner, h3, yAk hi (by omega : l.length ≤ _)]
            rw [if_pos (by omega)]; rfl) N 0 [] rfl (by omega) (by omega)
def tblG (a v : Val) : Val × Bool := bif (kindG [2, 3] [a, v]).2.1 then ((kindG [2, 3] [a, v]).1, (kindG [2, 3] [a, v]).2.2) else
  (bif !colsOk (yCU 32 [] a.text) then errV 7 else tblR (yCU 32 [] a.text) [] v.list, false)
theorem tbl_eq {K : Nat} (hK : 24 ≤ K ∧ K ≤ 4294967000) {a v : Val} (ha : a.Fit K) (hv : v.Fit K) : Big fun N => xAs N a v = some (tblG a v) ∧ xAt N a v = some (tblG a v).1 := by
  obtain ⟨_, _, _, h5, _, _, _⟩ := Val.fit_iff.1 ha
  obtain ⟨_, _, _, _, h6, _, _⟩ := Val.fit_iff.1 hv
  have ht : a.text.length ≤ K := h5
  refine ((kindError_eq (by omega) (vs := [a, v]) (ks := [2, 3]) (two_fit ha hv) (by simp; omega) rfl).and (yGj (K + 1))).imp fun N ⟨⟨h1, h2⟩, hN⟩ => ?_
  obtain ⟨e1, e2, e3, _⟩ := flat_kindG (ks := [2, 3]) (two_fit ha hv)
  have hfit : LFit (K + 1) (Str.Fit (K + 1)) (yCU 32 [] a.text) := ⟨Nat.le_trans cutAcc_len (by omega), fun x hx => by have := cutAcc_mem hx; simp only [List.length_nil] at this; show x.length ≤ _; omega⟩
  have c1 := impl_areColumns_eq (N := N) hfit (by omega) hN
  have c2 := spec_l3Columns_eq (N := N) hfit (by omega) hN
  have s1 := impl_SplitByte_eq (N := N) (s := a.text) (by omega)
  have s2 := spec_SplitByte_eq (N := N) (s := a.text) ht (by omega) hN
  have hvl : ∀ x ∈ v.list, x.list.length ≤ K := fun x hx => (Val.fit_iff.1 (h6.2 x hx)).2.2.2.2.1.1
  have l1 := impl_tbl_loop (N := N) (z := Val.mk 0 0 0 [] [] [] []) (cs := yCU 32 [] a.text) h6.1 hvl (by omega) (by omega)
  have l2 := spec_tbl_loop (N := N) (v := v) (z := Val.mk 0 0 0 [] [] [] []) (cs := yCU 32 [] a.text) h6.1 hvl (by omega) (by omega)
  cases g1 : (kindG [2, 3] [a, v]).2.1
  · have htag := kindG_tag g1
    refine ⟨?_, ?_⟩
    · simp only [xAs, Val.re_eq, h1, Option.bind_some, g1, htag, cond_false, s1, c1, yC9, l1, tblG]
      cases colsOk (yCU 32 [] a.text) <;> rfl
    · simp only [xAt, Val.re_eq, h2, Option.bind_some, g1, cond_false, s2, c2, yB2, l2, tblG]
      cases colsOk (yCU 32 [] a.text) <;> rfl
  · refine ⟨?_, ?_⟩
    · simp only [xAs, Val.re_eq, h1, Option.bind_some, e1, e2, e3, List.isEmpty_nil, if_true, flat_eta e1 e2 e3, g1, cond_true, tblG]
      cases (kindG [2, 3] [a, v]).2.2 <;> rfl
    · simp only [xAt, Val.re_eq, h2, Option.bind_some, g1, cond_true, tblG]
theorem colsOk_len {c : List Str} (h : colsOk c = true) : c.length ≤ 4 := by
  unfold colsOk at h
  simp only [Bool.and_eq_true, decide_eq_true_eq] at h
  omega
theorem tblG_good {a v : Val} (ha : a.Fit 1048576) (hv : v.Fit 1048576) : Good1 1048576 (tblG a v) := by
  obtain ⟨_, _, _, h5, _, _, _⟩ := Val.fit_iff.1 ha
  obtain ⟨_, _, _, _, h6, _, _⟩ := Val.fit_iff.1 hv
  have ht : a.text.length ≤ 1048576 := h5
  have hl : v.list.length ≤ 1048576 := h6.1
  unfold tblG
  cases (kindG [2, 3] [a, v]).2.1
  · cases hc : colsOk (yCU 32 [] a.text)
    · exact Flat.good (flat_err (yFK (by omega) (by omega)))
    · simp only [cond_false, Bool.not_true]
      unfold tblR
      cases hr : v.list.all (xAB (yCU 32 [] a.text).length)
      · exact Flat.good (flat_err (yFK (by omega) (by omega)))
      · have h4 := colsOk_len hc
        have hrow : ∀ x ∈ v.list, x.list.length ≤ 4 := fun x hx => by
          have := List.all_eq_true.1 hr x hx
          unfold xAB at this
          simp only [Bool.and_eq_true, beq_iff_eq] at this
          omega
        simp only [cond_true, List.nil_append]
        refine ⟨tblV_fit ⟨by omega, fun x hx => by have := cutAcc_mem hx; simp only [List.length_nil] at this; show x.length ≤ _; omega⟩ ⟨by simpa using hl, fun r hm => ?_⟩, ?_, fun h => by cases h⟩
        · obtain ⟨x, hx, rfl⟩ := List.mem_map.1 hm
          have h7 := Val.fit_iff.1 (h6.2 x hx)
          refine ⟨⟨by have := hrow x hx; simp only [rowOf, List.length_map]; omega, fun n hn => ?_⟩, lfit_nil⟩
          obtain ⟨y, hy, rfl⟩ := List.mem_map.1 hn
          exact (Val.fit_iff.1 (h7.2.2.2.2.1.2 y hy)).2.1
        · show (Val.mk 5 0 0 [] [] _ _).cnt ≤ _
          rw [tblV_cnt, List.map_map]
          have := sum_le_const (f := cRow ∘ rowOf) (l := v.list) (a := 4) (fun x hx => by
            have := hrow x hx
            simp only [Function.comp, rowOf, cRow, cOne_sum, List.length_map, List.map_nil, List.sum_nil]; omega)
          omega
  · exact Flat.good (kindG_flat (two_fit ha hv))
theorem xAA (a0 a1 : Val) (f0 : ∀ z ∈ [CV.int .i64 (Val.kind a0), .int .i64 (Val.n a0), .int .i64 (Val.step a0), .str (Val.text a0), .sl .ro .val (Val.list a0), .sl .ro .str (Val.columns a0), .sl .ro .row (Val.rows a0)], DFit z.toD)
    (f1 : ∀ z ∈ [CV.int .i64 (Val.kind a1), .int .i64 (Val.n a1), .int .i64 (Val.step a1), .str (Val.text a1), .sl .ro .val (Val.list a1), .sl .ro .str (Val.columns a1), .sl .ro .row (Val.rows a1)], DFit z.toD) : ∃ N, xAv N a0 a1 = some true := by
  obtain ⟨N, h⟩ := law2_true (I := xAs) (S := xAt) (r := tblG a0 a1) f0 f1 fun h0 h1 hs => ⟨tblG_good h0 h1, tbl_eq (by omega) h0 h1⟩
  exact ⟨N, h⟩
end Go.Ab
end
section
namespace Go.Proofs.YtkfoneofdidhkaaDoor
open Go.Ab Go.ChangeShapes Go.WideShapes Go.ChangeAt Go.RowKit
set_option linter.unusedVariables false
theorem own : ownKnob Tryd.prog.godebug = none := by kernel_rfl
theorem laidOut : laidOutB Tryd.prog = true := by kernel_rfl
theorem xAz : ktChk Tryd.prog [(3, .int), (9, .str), (26, .val), (85, .row), (127, .org)] = true := by kernel_rfl
set_option maxRecDepth 100000 in
theorem fnExactTableOf_lifted (os : Os) (started : os.Started) (H : Type) (enc : TypeId × Value → H) :
    ReturnsInHanded {} Tryd.checked os 3 .any (fun w args => (Rows.fnExactTableOfSpec.pre enc Tryd.prog Tryd.f3 Rows.fnExactTableOfRow.domain false w args ∧ laidMetH Tryd.prog Rows.fnExactTableOfRow.laid w) ∧ sizedMet enc Tryd.prog Tryd.f3 (OpenSpec.ofChange Rows.fnExactTableOfSpec) false w args)
      (Rows.fnExactTableOfSpec.post enc Tryd.prog Tryd.f3 false true false false) := by
  refine returnsInHanded_of_change_and (C := Tryd.checked) (X := fun w _ => laidMetH Tryd.prog Rows.fnExactTableOfRow.laid w) (fun _ _ _ hh h => h.of_heap hh) own started (by kernel_rfl) Tryd.func3
    (ChangeSpec.witness_shaped (enc := enc) (C := Tryd.checked) (os := os) (X := fun w _ => laidMetH Tryd.prog Rows.fnExactTableOfRow.laid w) false (World.laidAll Tryd.prog os Rows.fnExactTableOfRow.laid) #[.agg #[.int .i64 0, .int .i64 0, .int .i64 0, .string ByteArray.empty, .slice none 0 0, .slice none 0 0, .slice none 0 0], .agg #[.int .i64 0, .int .i64 0, .int .i64 0, .string ByteArray.empty, .slice none 0 0, .slice none 0 0, .slice none 0 0]] 8 (World.laidAll_os _ _ _)
      (World.shaped_of_ZipB (by kernel_rfl) (by kernel_rfl)) (by kernel_rfl) (by kernel_rfl) (by kernel_rfl)
      (by rw [MakeChecks.laidMetH_plain _ _ _ (by kernel_rfl)]; exact laidMet_laidAll _ (by kernel_rfl) (by kernel_rfl))) ?_
  intro W base args ds gs before hval0 hW hcnd _ hL _
  have hval : ∀ (j : Nat) t v, Tryd.f3.params[j]? = some t → args[j]? = some v → Value.okWide Tryd.prog W .any base t v := hval0
  have hW' := hW
  obtain ⟨p, q, hA0, hV, rfl, hfz, hnd⟩ := hW
  have hA : DataW.TrodAll enc Tryd.prog W 0 (fun _ => true) true Tryd.f3.params.toList args.toList ds p := hA0
  rw [Tryd.params3] at hA hval
  obtain ⟨v0, vs0, d0, ds0, p0, q0, hargs, rfl, rfl, h0, r0⟩ := trodAll_cons hA
  obtain ⟨v1, vs1, d1, ds1, p1, q1, rfl, rfl, rfl, h1, r1⟩ := trodAll_cons r0
  obtain ⟨rfl, rfl, rfl⟩ := trodAll_nil r1
  obtain rfl : args = #[v0, v1] := by cases args; simp_all
  obtain ⟨rfl, rfl⟩ := trodVars_none hV
  have lt0 : ∀ x ∈ p0, x.block < W.heap.size := by obtain ⟨m, hm⟩ := h0; exact DataW.trod_lt m _ _ _ hm
  have lt1 : ∀ x ∈ p1, x.block < W.heap.size := by obtain ⟨m, hm⟩ := h1; exact DataW.trod_lt m _ _ _ hm
  obtain ⟨z0, e0, f0, vr0⟩ := vr_of xAz (g := true) (t := 26) (ns := [.inl (.int .i64), .inl (.int .i64), .inl (.int .i64), .inl .str, .inr .val, .inr .str, .inr .row]) (by kernel_rfl) (hval 0 26 v0 rfl rfl) h0
  obtain ⟨x0_0, _, rfl, e0_0⟩ := AreOf.int_inv e0
  obtain ⟨x0_1, _, rfl, e0_1⟩ := AreOf.int_inv e0_0
  obtain ⟨x0_2, _, rfl, e0_2⟩ := AreOf.int_inv e0_1
  obtain ⟨x0_3, _, rfl, e0_3⟩ := AreOf.str_inv e0_2
  obtain ⟨x0_4, _, rfl, e0_4⟩ := AreOf.sl_inv e0_3
  obtain ⟨x0_5, _, rfl, e0_5⟩ := AreOf.sl_inv e0_4
  obtain ⟨x0_6, _, rfl, e0_6⟩ := AreOf.sl_inv e0_5
  obtain rfl := e0_6.nil_inv
  obtain ⟨z1, e1, f1, vr1⟩ := vr_of xAz (g := true) (t := 26) (ns := [.inl (.int .i64), .inl (.int .i64), .inl (.int .i64), .inl .str, .inr .val, .inr .str, .inr .row]) (by kernel_rfl) (hval 1 26 v1 rfl rfl) h1
  obtain ⟨x1_0, _, rfl, e1_0⟩ := AreOf.int_inv e1
  obtain ⟨x1_1, _, rfl, e1_1⟩ := AreOf.int_inv e1_0
  obtain ⟨x1_2, _, rfl, e1_2⟩ := AreOf.int_inv e1_1
  obtain ⟨x1_3, _, rfl, e1_3⟩ := AreOf.str_inv e1_2
  obtain ⟨x1_4, _, rfl, e1_4⟩ := AreOf.sl_inv e1_3
  obtain ⟨x1_5, _, rfl, e1_5⟩ := AreOf.sl_inv e1_4
  obtain ⟨x1_6, _, rfl, e1_6⟩ := AreOf.sl_inv e1_5
  obtain rfl := e1_6.nil_inv
  obtain ⟨N, hF⟩ := xAA (Val.mk x0_0 x0_1 x0_2 x0_3 x0_4 x0_5 x0_6) (Val.mk x1_0 x1_1 x1_2 x1_3 x1_4 x1_5 x1_6) f0 f1
  clear hA0 hval0
  refine (calls_of T.fk3 (T.laws_FnExactTableOf_ok hF) (W := W) (args := #[v0, v1]) ⟨vr0 _, vr1 _, trivial⟩).mono fun e W' ⟨he, bel⟩ => ?_
  subst he
  exact ⟨_, rfl, _, _, _, [], _, [], hW', trodAll_mk1 (shut_bool Tryd.underlying4 _), (trodAll_cons_mk (Below.trod laidOut (by kernel_rfl) (of_decide_eq_true (by kernel_rfl)) h0 bel lt0) (trodAll_cons_mk (Below.trod laidOut (by kernel_rfl) (of_decide_eq_true (by kernel_rfl)) h1 bel lt1) trodAll_mk0)), rfl, bel.frame _, fun h => by cases h⟩
theorem fnExactTableOf_proved : Rows.FnExactTableOfSaid :=
  OpenClaim.holds_of_wide 3 Tryd.f3 rfl rfl rfl rfl rfl rfl rfl ⟨rfl, rfl, rfl, rfl, rfl⟩ rfl rfl rfl rfl rfl (by kernel_rfl) Tryd.func3 (by kernel_rfl)
    (of_decide_eq_true (by kernel_rfl)) (by unfold Func.isWrapper; first | (rw [if_pos (by decide +kernel)]; kernel_rfl) | (rw [if_neg (by decide +kernel)]; exact ⟨rfl, rfl⟩))
    (fun os started H enc _ => fnExactTableOf_lifted os started H enc)
theorem fnExactTableOf_card : Rows.FnExactTableOfCardSaid :=
  Claim7.holds_tied_plain_at .later [] Rows.fnExactTableOfCard.laidKinds true Rows.fnExactTableOfCard.stood.harness false fnExactTableOf_proved (fun _ h => by cases h) (by kernel_rfl) (fun _ h => by cases h) fnExactTableOf_row_tie rfl ⟨rfl, rfl⟩ (by kernel_rfl) rfl
    (fun f fn hf hfn => by
      obtain rfl : f = 3 := Option.some.inj ((show Tryd.prog.funcNamed Rows.fnExactTableOfRow.func = some 3 by kernel_rfl).symm.trans hf) |>.symm
      obtain rfl : fn = Tryd.f3 := (Option.some.inj (Tryd.func3.symm.trans hfn)).symm
      exact ⟨by kernel_rfl, fun j t ht => by
        rw [Tryd.params3] at ht
        have hm : t ∈ [26, 26] := by simpa using Array.mem_of_getElem? ht
        have hall : ([26, 26].all fun u => !Tryd.prog.wantsStandIn u) = true := by kernel_rfl
        exact (show Tryd.prog.wantsStandIn t = false by simpa using List.all_eq_true.1 hall t hm)⟩)
    (by kernel_rfl)
end Go.Proofs.YtkfoneofdidhkaaDoor
end
