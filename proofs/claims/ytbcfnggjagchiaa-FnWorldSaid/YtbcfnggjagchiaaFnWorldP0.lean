/- The statement FnWorld holds: plain functions, certificates, laws. Conditions: none. -/
import Derived.Test.YtbcfnggjagchiaaChecked
import Derived.Test.YtbcfnggjagchiaaProg
import Derived.Test.YtbcfnggjagchiaaRows
import Derived.Test.YtbcfnggjagchiaaL2
set_option linter.all false
section
namespace Go.Ab
set_option linter.unusedVariables false
def xBh (a0 : Int) (a1 : Int) (a2 : Int) : List Arg := [.val (.v false [.int .i64 a0]), .val (.v false [.int .i64 a1]), .val (.v false [.int .i64 a2])]
def xAP (r : Bool) : CallO := ⟨.v false [.bool r], [], []⟩
def xCi (N : Nat) (a0 : Int) (a1 : Int) (a2 : Int) : Option (Bool) :=
  bif (decide ((a0 : Int) ≥ a1)) then (
    some (decide ((a0 : Int) ≤ a2))
  ) else (
    some false
  )
def xBg (a0 : Int) : List Arg := [.val (.v false [.int .i64 a0])]
def xAN (r : Bool) : CallO := ⟨.v false [.bool r], [], []⟩
def xBW (N : Nat) (a0 : Int) : Option (Bool) :=
  Option.bind (xCi N a0 (-1000000000) 1000000000) fun r1 =>
  some r1
def xCR (N : Nat) : Nat → Str → Int → Option (Bool)
  | 0, _, _ => none
  | n + 1, x0, x3 =>
    bif (decide ((x3 : Int) < (List.length x0 : Int))) then (
      if (0 : Int) ≤ x3 ∧ x3 < (List.length x0) then
      bif (decide ((((List.getD x0 (Int.toNat x3) 0).toNat : Int) : Int) < 32)) then (
        some false
      ) else (
        bif (decide ((((List.getD x0 (Int.toNat x3) 0).toNat : Int) : Int) > 126)) then (
          some false
        ) else (
          bif ((((List.getD x0 (Int.toNat x3) 0).toNat : Int) : Int) == 34) then (
            some false
          ) else (
            (xCR N n x0 (IntKind.i64.wrap (x3 + 1)))
          )
        )
      )
      else none
    ) else (
      some (decide (((List.length x0 : Int) : Int) ≤ 20))
    )
def xBF (a0 : Str) : List Arg := [.val (.v false [.str a0])]
def xAq (r : Bool) : CallO := ⟨.v false [.bool r], [], []⟩
def xAU (N : Nat) : Nat → Str → Int → Option (Bool)
  | 0, _, _ => none
  | n + 1, x0, x3 =>
    bif (decide ((x3 : Int) < (List.length x0 : Int))) then (
      if (0 : Int) ≤ x3 ∧ x3 < (List.length x0) then
      bif (decide ((((List.getD x0 (Int.toNat x3) 0).toNat : Int) : Int) ≥ 97)) then (
        bif (decide ((((List.getD x0 (Int.toNat x3) 0).toNat : Int) : Int) ≥ 48)) then (
          bif (!(decide ((((List.getD x0 (Int.toNat x3) 0).toNat : Int) : Int) ≤ 122))) then (
            bif ((x3 : Int) == 0) then (
              some false
            ) else (
              bif (!(decide ((((List.getD x0 (Int.toNat x3) 0).toNat : Int) : Int) ≤ 57))) then (
                some false
              ) else (
                (xAU N n x0 (IntKind.i64.wrap (x3 + 1)))
              )
            )
          ) else (
            (xAU N n x0 (IntKind.i64.wrap (x3 + 1)))
          )
        ) else (
          bif (!(decide ((((List.getD x0 (Int.toNat x3) 0).toNat : Int) : Int) ≤ 122))) then (
            bif ((x3 : Int) == 0) then (
              some false
            ) else (
              some false
            )
          ) else (
            (xAU N n x0 (IntKind.i64.wrap (x3 + 1)))
          )
        )
      ) else (
        bif (decide ((((List.getD x0 (Int.toNat x3) 0).toNat : Int) : Int) ≥ 48)) then (
          bif ((x3 : Int) == 0) then (
            some false
          ) else (
            bif (!(decide ((((List.getD x0 (Int.toNat x3) 0).toNat : Int) : Int) ≤ 57))) then (
              some false
            ) else (
              (xAU N n x0 (IntKind.i64.wrap (x3 + 1)))
            )
          )
        ) else (
          bif ((x3 : Int) == 0) then (
            some false
          ) else (
            some false
          )
        )
      )
      else none
    ) else (
      some (decide (((List.length x0 : Int) : Int) > 0))
    )
def xCj (N : Nat) (a0 : Str) : Option (Bool) :=
  (xAU N N a0 0)
def xBQ : List Arg := []
def xBv (r : (List Str)) : CallO := ⟨.v false [.sl .own .str r], [], []⟩
def xBS (N : Nat) : Option ((List Str)) :=
  some [[108, 101, 116], [105, 110], [105, 102], [116, 104, 101, 110], [101, 108, 115, 101], [102, 111, 114], [100, 111], [108, 101, 110], [115, 117, 109], [116, 97, 107, 101], [115, 107, 105, 112], [114, 97, 110, 103, 101], [110, 116, 104], [119, 104, 101, 114, 101], [107, 101, 101, 112], [97, 100, 100], [103, 114, 111, 117, 112], [106, 111, 105, 110], [99, 111, 108, 117, 109, 110], [114, 111, 119, 115], [99, 108, 111, 99, 107], [99, 104, 97, 110, 99, 101], [102, 105, 108, 101], [116, 97, 98, 108, 101]]
def xCl (a0 : List Str) (a1 : Str) : List Arg := [.val (.v false [.sl .ro .str a0]), .val (.v false [.str a1])]
def xBI (r : Bool) : CallO := ⟨.v false [.bool r], [], []⟩
def xBu (N : Nat) : Nat → (List Str) → Str → Int → Option (Bool)
  | 0, _, _, _ => none
  | n + 1, x0, x1, x5 =>
    bif (decide ((x5 : Int) < (List.length x0 : Int))) then (
      if (0 : Int) ≤ x5 ∧ x5 < (List.length x0) then
      bif (((List.getD x0 (Int.toNat x5) Ty.str.dflt) : Str) == x1) then (
        some true
      ) else (
        (xBu N n x0 x1 (IntKind.i64.wrap (x5 + 1)))
      )
      else none
    ) else (
      some false
    )
def xCy (N : Nat) (a0 : List Str) (a1 : Str) : Option (Bool) :=
  (xBu N N a0 a1 0)
def xBP (a0 : Str) : List Arg := [.val (.v false [.str a0])]
def xBt (r : Bool) : CallO := ⟨.v false [.bool r], [], []⟩
def xBD (N : Nat) (a0 : Str) : Option (Bool) :=
  Option.bind (xBS N) fun r1 =>
  Option.bind (xCy N r1 a0) fun r2 =>
  some r2
def xAC (a0 : Str) : List Arg := [.val (.v false [.str a0])]
def xAm (r : Bool) : CallO := ⟨.v false [.bool r], [], []⟩
def xBr (N : Nat) (a0 : Str) : Option (Bool) :=
  Option.bind (xCj N a0) fun r1 =>
  bif r1 then (
    bif (decide (((List.length a0 : Int) : Int) ≤ 8)) then (
      Option.bind (xBD N a0) fun r2 =>
      some (!r2)
    ) else (
      some false
    )
  ) else (
    some false
  )
def xAW (a0 : Int) (a1 : Int) (a2 : Int) : List Arg := [.val (.v false [.int .i64 a0]), .val (.v false [.int .i64 a1]), .val (.v false [.int .i64 a2])]
def xAr (r : Bool) : CallO := ⟨.v false [.bool r], [], []⟩
def xBH (N : Nat) (a0 : Int) (a1 : Int) (a2 : Int) : Option (Bool) :=
  bif (decide ((a1 : Int) ≤ a0)) then (
    some (decide ((a0 : Int) ≤ a2))
  ) else (
    some false
  )
def xBf (a0 : Int) : List Arg := [.val (.v false [.int .i64 a0])]
def xAK (r : Bool) : CallO := ⟨.v false [.bool r], [], []⟩
def xBU (N : Nat) (a0 : Int) : Option (Bool) :=
  Option.bind (xBH N a0 (-1000000000) 1000000000) fun r1 =>
  some r1
def xBX (a0 : Str) : List Arg := [.val (.v false [.str a0])]
def xAG (r : Bool) : CallO := ⟨.v false [.bool r], [], []⟩
def xA4 (N : Nat) : Nat → Str → Int → Option (Bool)
  | 0, _, _ => none
  | n + 1, x0, x3 =>
    bif (decide ((x3 : Int) < (List.length x0 : Int))) then (
      if (0 : Int) ≤ x3 ∧ x3 < (List.length x0) then
      bif (decide ((((List.getD x0 (Int.toNat x3) 0).toNat : Int) : Int) ≥ 97)) then (
        bif (!(decide ((((List.getD x0 (Int.toNat x3) 0).toNat : Int) : Int) ≤ 122))) then (
          bif ((x3 : Int) == 0) then (
            some false
          ) else (
            bif (decide ((((List.getD x0 (Int.toNat x3) 0).toNat : Int) : Int) < 48)) then (
              some false
            ) else (
              bif (decide ((((List.getD x0 (Int.toNat x3) 0).toNat : Int) : Int) > 57)) then (
                some false
              ) else (
                (xA4 N n x0 (IntKind.i64.wrap (x3 + 1)))
              )
            )
          )
        ) else (
          (xA4 N n x0 (IntKind.i64.wrap (x3 + 1)))
        )
      ) else (
        bif ((x3 : Int) == 0) then (
          some false
        ) else (
          bif (decide ((((List.getD x0 (Int.toNat x3) 0).toNat : Int) : Int) < 48)) then (
            some false
          ) else (
            bif (decide ((((List.getD x0 (Int.toNat x3) 0).toNat : Int) : Int) > 57)) then (
              some false
            ) else (
              (xA4 N n x0 (IntKind.i64.wrap (x3 + 1)))
            )
          )
        )
      )
      else none
    ) else (
      Option.bind (xBH N (List.length x0 : Int) 1 8) fun r1 =>
      some r1
    )
def xCr (N : Nat) (a0 : Str) : Option (Bool) :=
  (xA4 N N a0 0)
def xAe (a0 : Str) : List Arg := [.val (.v false [.str a0])]
def xAc (r : Int) : CallO := ⟨.v false [.int .i64 r], [], []⟩
def xBs (N : Nat) (a0 : Str) : Option (Int) :=
  bif ((a0 : Str) == [99, 108, 111, 99, 107]) then (
    some 0
  ) else (
    bif ((a0 : Str) == [108, 101, 110]) then (
      some 1
    ) else (
      bif ((a0 : Str) == [115, 117, 109]) then (
        some 1
      ) else (
        bif ((a0 : Str) == [114, 111, 119, 115]) then (
          some 1
        ) else (
          bif ((a0 : Str) == [99, 104, 97, 110, 99, 101]) then (
            some 1
          ) else (
            bif ((a0 : Str) == [102, 105, 108, 101]) then (
              some 1
            ) else (
              bif ((a0 : Str) == [116, 97, 107, 101]) then (
                some 2
              ) else (
                bif ((a0 : Str) == [115, 107, 105, 112]) then (
                  some 2
                ) else (
                  bif ((a0 : Str) == [114, 97, 110, 103, 101]) then (
                    some 2
                  ) else (
                    bif ((a0 : Str) == [110, 116, 104]) then (
                      some 2
                    ) else (
                      bif ((a0 : Str) == [107, 101, 101, 112]) then (
                        some 2
                      ) else (
                        bif ((a0 : Str) == [99, 111, 108, 117, 109, 110]) then (
                          some 2
                        ) else (
                          bif ((a0 : Str) == [116, 97, 98, 108, 101]) then (
                            some 2
                          ) else (
                            bif ((a0 : Str) == [119, 104, 101, 114, 101]) then (
                              some 3
                            ) else (
                              bif ((a0 : Str) == [103, 114, 111, 117, 112]) then (
                                some 3
                              ) else (
                                bif ((a0 : Str) == [106, 111, 105, 110]) then (
                                  some 3
                                ) else (
                                  bif ((a0 : Str) == [97, 100, 100]) then (
                                    some 4
                                  ) else (
                                    some (-1)
                                  )
                                )
                              )
                            )
                          )
                        )
                      )
                    )
                  )
                )
              )
            )
          )
        )
      )
    )
  )
def xAy (a0 : Str) : List Arg := [.val (.v false [.str a0])]
def xAu (r : Bool) : CallO := ⟨.v false [.bool r], [], []⟩
def xBC (N : Nat) (a0 : Str) : Option (Bool) :=
  bif ((a0 : Str) == [108, 101, 116]) then (
    some true
  ) else (
    bif ((a0 : Str) == [105, 110]) then (
      some true
    ) else (
      bif ((a0 : Str) == [105, 102]) then (
        some true
      ) else (
        bif ((a0 : Str) == [116, 104, 101, 110]) then (
          some true
        ) else (
          bif ((a0 : Str) == [101, 108, 115, 101]) then (
            some true
          ) else (
            bif ((a0 : Str) == [102, 111, 114]) then (
              some true
            ) else (
              bif ((a0 : Str) == [100, 111]) then (
                some true
              ) else (
                Option.bind (xBs N a0) fun r1 =>
                some (decide ((r1 : Int) ≥ 0))
              )
            )
          )
        )
      )
    )
  )
def xAI (a0 : Str) : List Arg := [.val (.v false [.str a0])]
def xAo (r : Bool) : CallO := ⟨.v false [.bool r], [], []⟩
def xBq (N : Nat) (a0 : Str) : Option (Bool) :=
  Option.bind (xCr N a0) fun r1 =>
  bif r1 then (
    Option.bind (xBC N a0) fun r2 =>
    some (!r2)
  ) else (
    some false
  )
def laws_markIntS_b2 (N : Nat) : Nat → (List Int) → Int → Int → Option (Int × (List Int))
  | 0, _, _, _ => none
  | n + 1, x0, x1, x5 =>
    bif (decide ((x5 : Int) < (List.length x0 : Int))) then (
      if (0 : Int) ≤ x5 ∧ x5 < (List.length x0) then
      (laws_markIntS_b2 N n (List.set x0 (Int.toNat x5) x1) (IntKind.i64.wrap (x1 + 1)) (IntKind.i64.wrap (x5 + 1)))
      else none
    ) else (
      some (x1, x0)
    )
def xBk (a0 : List Int) : List Arg := [.val (.v false [.sl .ro .byte a0])]
def xAJ (r : Bool) : CallO := ⟨.v false [.bool r], [], []⟩
def laws_big (N : Nat) (a0 : List Int) : Option (Bool) :=
  some (decide (((List.length a0 : Int) : Int) > 1048576))
def xCm (a0 : List Int) : List Arg := [.val (.v false [.sl .ro .byte a0])]
def xBK (r : Cur) : CallO := ⟨.tup [(false, [.ptr 0 0]), (true, [.sl .ro .byte (Cur.b r), .int .i64 (Cur.i r), .int .i64 (Cur.h r)])], [], []⟩
def xBJ (N : Nat) : Nat → (List Int) → Int → Int → Option (Cur)
  | 0, _, _, _ => none
  | n + 1, x0, x3, x4 =>
    bif (decide ((x4 : Int) < (List.length x0 : Int))) then (
      bif (decide ((x4 : Int) < 4000)) then (
        if (0 : Int) ≤ x4 ∧ x4 < (List.length x0) then
        (xBJ N n x0 (andI .i64 (IntKind.i64.wrap ((IntKind.i64.wrap ((IntKind.i64.wrap (x3 * 131)) + (IntKind.i64.wrap ((List.getD x0 (Int.toNat x4) Ty.byte.dflt))))) + 7)) 1073741823) (IntKind.i64.wrap (x4 + 1)))
        else none
      ) else (
        some (Cur.mk x0 0 x3)
      )
    ) else (
      some (Cur.mk x0 0 x3)
    )
def xCn (N : Nat) (a0 : List Int) : Option (Cur) :=
  (xBJ N N a0 (IntKind.i64.wrap (26583 + (List.length a0 : Int))) 0)
def xBa (a0 : Cur) : List Arg := [.box [.sl .ro .byte (Cur.b a0), .int .i64 (Cur.i a0), .int .i64 (Cur.h a0)]]
def xAH (r : Int × Cur) : CallO := ⟨.v false [.int .i64 r.1], [[.sl .ro .byte (Cur.b r.2), .int .i64 (Cur.i r.2), .int .i64 (Cur.h r.2)]], []⟩
def xBy (N : Nat) (a0 : Cur) : Option (Int × Cur) :=
  bif (decide (((Cur.i a0) : Int) < (List.length (Cur.b a0) : Int))) then (
    if (0 : Int) ≤ (Cur.i a0) ∧ (Cur.i a0) < (List.length (Cur.b a0)) then
    some ((andI .i64 (IntKind.i64.wrap ((andI .i64 (xorI .i64 (Int.fdiv (IntKind.i64.wrap ((IntKind.i64.wrap ((Cur.h a0) * 6364136223846793005)) + 1442695040888963407)) ((2 : Int) ^ (Int.toNat 33))) (Int.fdiv (IntKind.i64.wrap ((IntKind.i64.wrap ((Cur.h a0) * 6364136223846793005)) + 1442695040888963407)) ((2 : Int) ^ (Int.toNat 45)))) 255) + (IntKind.i64.wrap ((List.getD (Cur.b a0) (Int.toNat (Cur.i a0)) Ty.byte.dflt))))) 255), (Cur.mk (Cur.b a0) (IntKind.i64.wrap ((Cur.i a0) + 1)) (IntKind.i64.wrap ((IntKind.i64.wrap ((Cur.h a0) * 6364136223846793005)) + 1442695040888963407))))
    else none
  ) else (
    some ((andI .i64 (xorI .i64 (Int.fdiv (IntKind.i64.wrap ((IntKind.i64.wrap ((Cur.h a0) * 6364136223846793005)) + 1442695040888963407)) ((2 : Int) ^ (Int.toNat 33))) (Int.fdiv (IntKind.i64.wrap ((IntKind.i64.wrap ((Cur.h a0) * 6364136223846793005)) + 1442695040888963407)) ((2 : Int) ^ (Int.toNat 45)))) 255), (Cur.mk (Cur.b a0) (Cur.i a0) (IntKind.i64.wrap ((IntKind.i64.wrap ((Cur.h a0) * 6364136223846793005)) + 1442695040888963407))))
  )
def xAp (a0 : Cur) (a1 : Int) : List Arg := [.box [.sl .ro .byte (Cur.b a0), .int .i64 (Cur.i a0), .int .i64 (Cur.h a0)], .val (.v false [.int .i64 a1])]
def xAd (r : Int × Cur) : CallO := ⟨.v false [.int .i64 r.1], [[.sl .ro .byte (Cur.b r.2), .int .i64 (Cur.i r.2), .int .i64 (Cur.h r.2)]], []⟩
def xAT (N : Nat) (a0 : Cur) (a1 : Int) : Option (Int × Cur) :=
  bif (decide ((a1 : Int) ≤ 0)) then (
    some (0, a0)
  ) else (
    bif (decide ((a1 : Int) ≤ 256)) then (
      Option.bind (xBy N a0) fun r1 =>
      if a1 ≠ (0 : Int) then
      some ((Int.tmod r1.1 a1), r1.2)
      else none
    ) else (
      Option.bind (xBy N a0) fun r1 =>
      Option.bind (xBy N r1.2) fun r2 =>
      Option.bind (xBy N r2.2) fun r3 =>
      Option.bind (xBy N r3.2) fun r4 =>
      if a1 ≠ (0 : Int) then
      some ((Int.tmod (IntKind.i64.wrap ((IntKind.i64.wrap ((IntKind.i64.wrap ((IntKind.i64.wrap (r1.1 * 16777216)) + (IntKind.i64.wrap (r2.1 * 65536)))) + (IntKind.i64.wrap (r3.1 * 256)))) + r4.1)) a1), r4.2)
      else none
    )
  )
def xBb (a0 : Cur) (a1 : Int) : List Arg := [.box [.sl .ro .byte (Cur.b a0), .int .i64 (Cur.i a0), .int .i64 (Cur.h a0)], .val (.v false [.int .i64 a1])]
def xAD (r : Bool × Cur) : CallO := ⟨.v false [.bool r.1], [[.sl .ro .byte (Cur.b r.2), .int .i64 (Cur.i r.2), .int .i64 (Cur.h r.2)]], []⟩
def xB4 (N : Nat) (a0 : Cur) (a1 : Int) : Option (Bool × Cur) :=
  Option.bind (xAT N a0 a1) fun r1 =>
  some (((r1.1 : Int) == 0), r1.2)
def xBe (a0 : Cur) : List Arg := [.box [.sl .ro .byte (Cur.b a0), .int .i64 (Cur.i a0), .int .i64 (Cur.h a0)]]
def xAL (r : Wld × Cur) : CallO := ⟨.v true [.int .i64 (Wld.clock r.1), .int .i64 (Wld.seed r.1), .sl .own .fil (Wld.files r.1)], [[.sl .ro .byte (Cur.b r.2), .int .i64 (Cur.i r.2), .int .i64 (Cur.h r.2)]], []⟩
def xAZ (N : Nat) : Nat → (List Str) → Int → Int → Cur → Wld → Wld → Option (Wld × Cur)
  | 0, _, _, _, _, _, _ => none
  | n + 1, x17, x18, x19, b0, b2, b3 =>
    bif (decide ((x19 : Int) < x18)) then (
      if (0 : Int) ≤ x19 ∧ x19 < (List.length x17) then
      Option.bind (xB4 N b0 3) fun r1 =>
      bif (!r1.1) then (
        Option.bind (xAT N r1.2 9) fun r2 =>
        if List.length (Wld.files b3) + List.length [(Fil.mk (List.getD x17 (Int.toNat x19) Ty.str.dflt) r2.1)] ≤ Lim then
        (xAZ N n x17 x18 (IntKind.i64.wrap (x19 + 1)) r2.2 b2 (Wld.mk (Wld.clock b3) (Wld.seed b3) ((Wld.files b3) ++ [(Fil.mk (List.getD x17 (Int.toNat x19) Ty.str.dflt) r2.1)])))
        else none
      ) else (
        (xAZ N n x17 x18 (IntKind.i64.wrap (x19 + 1)) r1.2 b2 b3)
      )
      else none
    ) else (
      some (b3, b0)
    )
def xCh (N : Nat) (a0 : Cur) : Option (Wld × Cur) :=
  Option.bind (xAT N a0 20) fun r1 =>
  Option.bind (xAT N r1.2 1000) fun r2 =>
  Option.bind (xB4 N r2.2 10) fun r3 =>
  bif r3.1 then (
    Option.bind (xAT N r3.2 2) fun r4 =>
    (xAZ N N [[102], [103], [104]] (List.length [[102], [103], [104]] : Int) 0 r4.2 (Wld.mk 0 0 []) (Wld.mk (IntKind.i64.wrap (999 + r4.1)) r2.1 []))
  ) else (
    (xAZ N N [[102], [103], [104]] (List.length [[102], [103], [104]] : Int) 0 r3.2 (Wld.mk 0 0 []) (Wld.mk r1.1 r2.1 []))
  )
def xBE (a0 : Cur) (a1 : List Int) : List Arg := [.box [.sl .ro .byte (Cur.b a0), .int .i64 (Cur.i a0), .int .i64 (Cur.h a0)], .val (.v false [.sl .ro .int a1])]
def xA9 (r : Int × Cur) : CallO := ⟨.v false [.int .i64 r.1], [[.sl .ro .byte (Cur.b r.2), .int .i64 (Cur.i r.2), .int .i64 (Cur.h r.2)]], []⟩
def xBO (N : Nat) (a0 : Cur) (a1 : List Int) : Option (Int × Cur) :=
  Option.bind (xAT N a0 (List.length a1 : Int)) fun r1 =>
  if (0 : Int) ≤ r1.1 ∧ r1.1 < (List.length a1) then
  some ((List.getD a1 (Int.toNat r1.1) Ty.int.dflt), r1.2)
  else none
def xBZ (a0 : Cur) (a1 : List Str) : List Arg := [.box [.sl .ro .byte (Cur.b a0), .int .i64 (Cur.i a0), .int .i64 (Cur.h a0)], .val (.v false [.sl .ro .str a1])]
def xBz (r : Str × Cur) : CallO := ⟨.v false [.str r.1], [[.sl .ro .byte (Cur.b r.2), .int .i64 (Cur.i r.2), .int .i64 (Cur.h r.2)]], []⟩
def xCe (N : Nat) (a0 : Cur) (a1 : List Str) : Option (Str × Cur) :=
  Option.bind (xAT N a0 (List.length a1 : Int)) fun r1 =>
  if (0 : Int) ≤ r1.1 ∧ r1.1 < (List.length a1) then
  some ((List.getD a1 (Int.toNat r1.1) Ty.str.dflt), r1.2)
  else none
def xBn (a0 : Cur) : List Arg := [.box [.sl .ro .byte (Cur.b a0), .int .i64 (Cur.i a0), .int .i64 (Cur.h a0)]]
def xBc (r : Wld × Cur) : CallO := ⟨.v true [.int .i64 (Wld.clock r.1), .int .i64 (Wld.seed r.1), .sl .own .fil (Wld.files r.1)], [[.sl .ro .byte (Cur.b r.2), .int .i64 (Cur.i r.2), .int .i64 (Cur.h r.2)]], []⟩
def xCg (N : Nat) (a0 : Cur) : Option (Wld × Cur) :=
  Option.bind (xCh N a0) fun r1 =>
  Option.bind (xAT N r1.2 10) fun r2 =>
  bif ((r2.1 : Int) == 0) then (
    Option.bind (xBO N r2.2 [(-1), 1001, 9223372036854775807]) fun r3 =>
    some ((Wld.mk r3.1 (Wld.seed r1.1) (Wld.files r1.1)), r3.2)
  ) else (
    bif ((r2.1 : Int) == 1) then (
      Option.bind (xCe N r2.2 [[102], [122], [108, 101, 116]]) fun r3 =>
      if List.length (Wld.files r1.1) + List.length [(Fil.mk r3.1 2000000000)] ≤ Lim then
      some ((Wld.mk (Wld.clock r1.1) (Wld.seed r1.1) ((Wld.files r1.1) ++ [(Fil.mk r3.1 2000000000)])), r3.2)
      else none
    ) else (
      bif ((r2.1 : Int) == 2) then (
        some ((Wld.mk (Wld.clock r1.1) 1000001 (Wld.files r1.1)), r2.2)
      ) else (
        some (r1.1, r2.2)
      )
    )
  )
def xCc (a0 : Cur) : List Arg := [.box [.sl .ro .byte (Cur.b a0), .int .i64 (Cur.i a0), .int .i64 (Cur.h a0)]]
def xBV (r : Int × Cur) : CallO := ⟨.v false [.int .i64 r.1], [[.sl .ro .byte (Cur.b r.2), .int .i64 (Cur.i r.2), .int .i64 (Cur.h r.2)]], []⟩
def xCA (N : Nat) (a0 : Cur) : Option (Int × Cur) :=
  Option.bind (xB4 N a0 12) fun r1 =>
  bif r1.1 then (
    Option.bind (xBO N r1.2 [1000000000, (-1000000000), 999999999, 500000000, 40000]) fun r2 =>
    some (r2.1, r2.2)
  ) else (
    Option.bind (xAT N r1.2 12) fun r2 =>
    some ((IntKind.i64.wrap (r2.1 - 3)), r2.2)
  )
def xAB (a0 : List Int) : List Arg := [.val (.v false [.sl .ro .byte a0])]
def xAj (r : Wld × Str × Int) : CallO := ⟨.tup [(true, [.int .i64 (Wld.clock r.1), .int .i64 (Wld.seed r.1), .sl .own .fil (Wld.files r.1)]), (false, [.str r.2.1]), (false, [.int .i64 r.2.2])], [], []⟩
def xBL (N : Nat) (a0 : List Int) : Option (Wld × Str × Int) :=
  Option.bind (xCn N a0) fun r1 =>
  Option.bind (xCg N r1) fun r2 =>
  Option.bind (xCe N r2.2 [[102], [103], [104], [97], [122], [107], [108, 101, 116]]) fun r3 =>
  Option.bind (xCA N r3.2) fun r4 =>
  some (r2.1, r3.1, r4.1)
def xAf (a0 : Wld) : List Arg := [.val (.v true [.int .i64 (Wld.clock a0), .int .i64 (Wld.seed a0), .sl .ro .fil (Wld.files a0)])]
def xAa (r : Bool) : CallO := ⟨.v false [.bool r], [], []⟩
def xAs (N : Nat) : Nat → (List Fil) → Int → Int → Wld → Option (Bool)
  | 0, _, _, _, _ => none
  | n + 1, x6, x7, x8, b1 =>
    bif (decide ((x8 : Int) < x7)) then (
      if (0 : Int) ≤ x8 ∧ x8 < (List.length x6) then
      Option.bind (xBq N (Fil.name (List.getD x6 (Int.toNat x8) Ty.fil.dflt))) fun r1 =>
      bif (!r1) then (
        some false
      ) else (
        Option.bind (xBU N (Fil.n (List.getD x6 (Int.toNat x8) Ty.fil.dflt))) fun r2 =>
        bif (!r2) then (
          some false
        ) else (
          bif (decide ((x8 : Int) > 0)) then (
            if (0 : Int) ≤ (IntKind.i64.wrap (x8 - 1)) ∧ (IntKind.i64.wrap (x8 - 1)) < (List.length (Wld.files b1)) then
            bif (!(Op.bytesLess (Fil.name (List.getD (Wld.files b1) (Int.toNat (IntKind.i64.wrap (x8 - 1))) Ty.fil.dflt)) (Fil.name (List.getD x6 (Int.toNat x8) Ty.fil.dflt)))) then (
              some false
            ) else (
              (xAs N n x6 x7 (IntKind.i64.wrap (x8 + 1)) b1)
            )
            else none
          ) else (
            (xAs N n x6 x7 (IntKind.i64.wrap (x8 + 1)) b1)
          )
        )
      )
      else none
    ) else (
      Option.bind (xBH N (Wld.clock b1) 0 1000) fun r1 =>
      bif r1 then (
        Option.bind (xBH N (Wld.seed b1) 0 1000000) fun r2 =>
        bif r2 then (
          some (decide (((List.length (Wld.files b1) : Int) : Int) ≤ 4))
        ) else (
          some false
        )
      ) else (
        some false
      )
    )
def xAE (N : Nat) (a0 : Wld) : Option (Bool) :=
  (xAs N N (Wld.files a0) (List.length (Wld.files a0) : Int) 0 a0)
def xAO (a0 : Wld) : List Arg := [.val (.v true [.int .i64 (Wld.clock a0), .int .i64 (Wld.seed a0), .sl .ro .fil (Wld.files a0)])]
def xAn (r : Wld) : CallO := ⟨.v true [.int .i64 (Wld.clock r), .int .i64 (Wld.seed r), .sl .own .fil (Wld.files r)], [], []⟩
def xAV (N : Nat) (a0 : Wld) : Option (Wld) :=
  if 0 + List.length (Wld.files a0) ≤ Lim then
  some (Wld.mk (Wld.clock a0) (Wld.seed a0) ([] ++ (Wld.files a0)))
  else none
def xAR (a0 : Wld) (a1 : Str) (a2 : Int) : List Arg := [.val (.v true [.int .i64 (Wld.clock a0), .int .i64 (Wld.seed a0), .sl .ro .fil (Wld.files a0)]), .val (.v false [.str a1]), .val (.v false [.int .i64 a2])]
def xAh (r : Wld × Bool) : CallO := ⟨.tup [(true, [.int .i64 (Wld.clock r.1), .int .i64 (Wld.seed r.1), .sl .own .fil (Wld.files r.1)]), (false, [.bool r.2])], [], []⟩
def xA5 (N : Nat) : Nat → Str → Int → Int → Wld → Wld → Wld → Option (Wld × Bool)
  | 0, _, _, _, _, _, _ => none
  | n + 1, x1, x2, x9, b3, b6, b8 =>
    bif (decide ((x9 : Int) < (List.length (Wld.files b3) : Int))) then (
      if (0 : Int) ≤ x9 ∧ x9 < (List.length (Wld.files b3)) then
      bif (Op.bytesLess (Fil.name (List.getD (Wld.files b3) (Int.toNat x9) Ty.fil.dflt)) x1) then (
        (xA5 N n x1 x2 (IntKind.i64.wrap (x9 + 1)) b3 b6 b8)
      ) else (
        bif (((Fil.name (List.getD (Wld.files b3) (Int.toNat x9) Ty.fil.dflt)) : Str) == x1) then (
          if (0 : Int) ≤ x9 ∧ x9 < (List.length (Wld.files b8)) then
          Option.bind (xAE N (Wld.mk (Wld.clock b8) (Wld.seed b8) (List.set (Wld.files b8) (Int.toNat x9) (Fil.mk (Fil.name (List.getD (Wld.files b8) (Int.toNat x9) Ty.fil.dflt)) x2)))) fun r1 =>
          bif (!r1) then (
            Option.bind (xAV N b3) fun r2 =>
            some (r2, false)
          ) else (
            some ((Wld.mk (Wld.clock b8) (Wld.seed b8) (List.set (Wld.files b8) (Int.toNat x9) (Fil.mk (Fil.name (List.getD (Wld.files b8) (Int.toNat x9) Ty.fil.dflt)) x2))), true)
          )
          else none
        ) else (
          if (0 : Int) ≤ x9 ∧ x9 ≤ (List.length (Wld.files b3)) then
          if 0 + List.length (List.take (Int.toNat x9) (Wld.files b3)) ≤ Lim then
          if List.length ([] ++ (List.take (Int.toNat x9) (Wld.files b3))) + List.length [(Fil.mk x1 x2)] ≤ Lim then
          if List.length (([] ++ (List.take (Int.toNat x9) (Wld.files b3))) ++ [(Fil.mk x1 x2)]) + List.length (List.drop (Int.toNat x9) (Wld.files b3)) ≤ Lim then
          Option.bind (xAE N (Wld.mk (Wld.clock b8) (Wld.seed b8) ((([] ++ (List.take (Int.toNat x9) (Wld.files b3))) ++ [(Fil.mk x1 x2)]) ++ (List.drop (Int.toNat x9) (Wld.files b3))))) fun r1 =>
          bif (!r1) then (
            Option.bind (xAV N b3) fun r2 =>
            some (r2, false)
          ) else (
            some ((Wld.mk (Wld.clock b8) (Wld.seed b8) ((([] ++ (List.take (Int.toNat x9) (Wld.files b3))) ++ [(Fil.mk x1 x2)]) ++ (List.drop (Int.toNat x9) (Wld.files b3)))), true)
          )
          else none
          else none
          else none
          else none
        )
      )
      else none
    ) else (
      if (0 : Int) ≤ x9 ∧ x9 ≤ (List.length (Wld.files b3)) then
      if 0 + List.length (List.take (Int.toNat x9) (Wld.files b3)) ≤ Lim then
      if List.length ([] ++ (List.take (Int.toNat x9) (Wld.files b3))) + List.length [(Fil.mk x1 x2)] ≤ Lim then
      if List.length (([] ++ (List.take (Int.toNat x9) (Wld.files b3))) ++ [(Fil.mk x1 x2)]) + List.length (List.drop (Int.toNat x9) (Wld.files b3)) ≤ Lim then
      Option.bind (xAE N (Wld.mk (Wld.clock b8) (Wld.seed b8) ((([] ++ (List.take (Int.toNat x9) (Wld.files b3))) ++ [(Fil.mk x1 x2)]) ++ (List.drop (Int.toNat x9) (Wld.files b3))))) fun r1 =>
      bif (!r1) then (
        Option.bind (xAV N b3) fun r2 =>
        some (r2, false)
      ) else (
        some ((Wld.mk (Wld.clock b8) (Wld.seed b8) ((([] ++ (List.take (Int.toNat x9) (Wld.files b3))) ++ [(Fil.mk x1 x2)]) ++ (List.drop (Int.toNat x9) (Wld.files b3)))), true)
      )
      else none
      else none
      else none
      else none
    )
def xB5 (N : Nat) (a0 : Wld) (a1 : Str) (a2 : Int) : Option (Wld × Bool) :=
  Option.bind (xAE N a0) fun r1 =>
  bif (!r1) then (
    Option.bind (xAV N a0) fun r2 =>
    some (r2, false)
  ) else (
    Option.bind (xAV N a0) fun r2 =>
    (xA5 N N a1 a2 0 a0 (Wld.mk 0 0 []) r2)
  )
def xB1 (a0 : List Fil) : List Arg := [.val (.v false [.sl .ro .fil a0])]
def xA0 (r : Bool) : CallO := ⟨.v false [.bool r], [], []⟩
def xAM (N : Nat) : Nat → (List Fil) → Int → Option (Bool)
  | 0, _, _ => none
  | n + 1, x0, x3 =>
    bif (decide ((x3 : Int) < (List.length x0 : Int))) then (
      if (0 : Int) ≤ x3 ∧ x3 < (List.length x0) then
      Option.bind (xBr N (Fil.name (List.getD x0 (Int.toNat x3) Ty.fil.dflt))) fun r1 =>
      bif (!r1) then (
        some false
      ) else (
        Option.bind (xBW N (Fil.n (List.getD x0 (Int.toNat x3) Ty.fil.dflt))) fun r2 =>
        bif (!r2) then (
          some false
        ) else (
          bif (decide ((x3 : Int) > 0)) then (
            if (0 : Int) ≤ (IntKind.i64.wrap (x3 - 1)) ∧ (IntKind.i64.wrap (x3 - 1)) < (List.length x0) then
            bif (!(Op.bytesLess (Fil.name (List.getD x0 (Int.toNat (IntKind.i64.wrap (x3 - 1))) Ty.fil.dflt)) (Fil.name (List.getD x0 (Int.toNat x3) Ty.fil.dflt)))) then (
              some false
            ) else (
              (xAM N n x0 (IntKind.i64.wrap (x3 + 1)))
            )
            else none
          ) else (
            (xAM N n x0 (IntKind.i64.wrap (x3 + 1)))
          )
        )
      )
      else none
    ) else (
      some (decide (((List.length x0 : Int) : Int) ≤ 4))
    )
def xCb (N : Nat) (a0 : List Fil) : Option (Bool) :=
  (xAM N N a0 0)
def xAl (a0 : Wld) : List Arg := [.val (.v true [.int .i64 (Wld.clock a0), .int .i64 (Wld.seed a0), .sl .ro .fil (Wld.files a0)])]
def xAb (r : Bool) : CallO := ⟨.v false [.bool r], [], []⟩
def xAF (N : Nat) (a0 : Wld) : Option (Bool) :=
  Option.bind (xCi N (Wld.clock a0) 0 1000) fun r1 =>
  bif r1 then (
    Option.bind (xCi N (Wld.seed a0) 0 1000000) fun r2 =>
    bif r2 then (
      Option.bind (xCb N (Wld.files a0)) fun r3 =>
      some r3
    ) else (
      some false
    )
  ) else (
    some false
  )
def xBo (a0 : Wld) : List Arg := [.val (.v true [.int .i64 (Wld.clock a0), .int .i64 (Wld.seed a0), .sl .ro .fil (Wld.files a0)])]
def xAS (r : Wld) : CallO := ⟨.v true [.int .i64 (Wld.clock r), .int .i64 (Wld.seed r), .sl .own .fil (Wld.files r)], [], []⟩
def xBd (N : Nat) (a0 : Wld) : Option (Wld) :=
  if 0 + List.length (Wld.files a0) ≤ Lim then
  some (Wld.mk (Wld.clock a0) (Wld.seed a0) ([] ++ (Wld.files a0)))
  else none
def xAY (a0 : Wld) (a1 : Str) (a2 : Int) : List Arg := [.val (.v true [.int .i64 (Wld.clock a0), .int .i64 (Wld.seed a0), .sl .ro .fil (Wld.files a0)]), .val (.v false [.str a1]), .val (.v false [.int .i64 a2])]
def xAk (r : Wld × Bool) : CallO := ⟨.tup [(true, [.int .i64 (Wld.clock r.1), .int .i64 (Wld.seed r.1), .sl .own .fil (Wld.files r.1)]), (false, [.bool r.2])], [], []⟩
def xAv (N : Nat) : Nat → Str → Int → Bool → Int → Wld → Wld → Wld → Option (Wld × Bool)
  | 0, _, _, _, _, _, _, _ => none
  | n + 1, x1, x2, x9, x10, b3, b6, b8 =>
    bif (decide ((x10 : Int) < (List.length (Wld.files b3) : Int))) then (
      if (0 : Int) ≤ x10 ∧ x10 < (List.length (Wld.files b3)) then
      bif (!x9) then (
        bif ((Op.bytesLess x1 (Fil.name (List.getD (Wld.files b3) (Int.toNat x10) Ty.fil.dflt))) || ((x1 : Str) == (Fil.name (List.getD (Wld.files b3) (Int.toNat x10) Ty.fil.dflt)))) then (
          if List.length (Wld.files b8) + List.length [(Fil.mk x1 x2)] ≤ Lim then
          bif (!(((Fil.name (List.getD (Wld.files b3) (Int.toNat x10) Ty.fil.dflt)) : Str) == x1)) then (
            if List.length ((Wld.files b8) ++ [(Fil.mk x1 x2)]) + List.length [(List.getD (Wld.files b3) (Int.toNat x10) Ty.fil.dflt)] ≤ Lim then
            (xAv N n x1 x2 true (IntKind.i64.wrap (x10 + 1)) b3 b6 (Wld.mk (Wld.clock b8) (Wld.seed b8) (((Wld.files b8) ++ [(Fil.mk x1 x2)]) ++ [(List.getD (Wld.files b3) (Int.toNat x10) Ty.fil.dflt)])))
            else none
          ) else (
            (xAv N n x1 x2 true (IntKind.i64.wrap (x10 + 1)) b3 b6 (Wld.mk (Wld.clock b8) (Wld.seed b8) ((Wld.files b8) ++ [(Fil.mk x1 x2)])))
          )
          else none
        ) else (
          bif (!(((Fil.name (List.getD (Wld.files b3) (Int.toNat x10) Ty.fil.dflt)) : Str) == x1)) then (
            if List.length (Wld.files b8) + List.length [(List.getD (Wld.files b3) (Int.toNat x10) Ty.fil.dflt)] ≤ Lim then
            (xAv N n x1 x2 x9 (IntKind.i64.wrap (x10 + 1)) b3 b6 (Wld.mk (Wld.clock b8) (Wld.seed b8) ((Wld.files b8) ++ [(List.getD (Wld.files b3) (Int.toNat x10) Ty.fil.dflt)])))
            else none
          ) else (
            (xAv N n x1 x2 x9 (IntKind.i64.wrap (x10 + 1)) b3 b6 b8)
          )
        )
      ) else (
        bif (!(((Fil.name (List.getD (Wld.files b3) (Int.toNat x10) Ty.fil.dflt)) : Str) == x1)) then (
          if List.length (Wld.files b8) + List.length [(List.getD (Wld.files b3) (Int.toNat x10) Ty.fil.dflt)] ≤ Lim then
          (xAv N n x1 x2 x9 (IntKind.i64.wrap (x10 + 1)) b3 b6 (Wld.mk (Wld.clock b8) (Wld.seed b8) ((Wld.files b8) ++ [(List.getD (Wld.files b3) (Int.toNat x10) Ty.fil.dflt)])))
          else none
        ) else (
          (xAv N n x1 x2 x9 (IntKind.i64.wrap (x10 + 1)) b3 b6 b8)
        )
      )
      else none
    ) else (
      bif (!x9) then (
        if List.length (Wld.files b8) + List.length [(Fil.mk x1 x2)] ≤ Lim then
        Option.bind (xAF N b3) fun r1 =>
        bif (!r1) then (
          Option.bind (xBd N b3) fun r2 =>
          some (r2, false)
        ) else (
          Option.bind (xAF N (Wld.mk (Wld.clock b8) (Wld.seed b8) ((Wld.files b8) ++ [(Fil.mk x1 x2)]))) fun r2 =>
          bif (!r2) then (
            Option.bind (xBd N b3) fun r3 =>
            some (r3, false)
          ) else (
            some ((Wld.mk (Wld.clock b8) (Wld.seed b8) ((Wld.files b8) ++ [(Fil.mk x1 x2)])), true)
          )
        )
        else none
      ) else (
        Option.bind (xAF N b3) fun r1 =>
        bif (!r1) then (
          Option.bind (xBd N b3) fun r2 =>
          some (r2, false)
        ) else (
          Option.bind (xAF N b8) fun r2 =>
          bif (!r2) then (
            Option.bind (xBd N b3) fun r3 =>
            some (r3, false)
          ) else (
            some (b8, true)
          )
        )
      )
    )
def xCf (N : Nat) (a0 : Wld) (a1 : Str) (a2 : Int) : Option (Wld × Bool) :=
  (xAv N N a1 a2 false 0 a0 (Wld.mk 0 0 []) (Wld.mk (Wld.clock a0) (Wld.seed a0) []))
def xAA (a0 : Wld) (a1 : Str) : List Arg := [.val (.v true [.int .i64 (Wld.clock a0), .int .i64 (Wld.seed a0), .sl .ro .fil (Wld.files a0)]), .val (.v false [.str a1])]
def xAg (r : Int × Bool) : CallO := ⟨.tup [(false, [.int .i64 r.1]), (false, [.bool r.2])], [], []⟩
def xAQ (N : Nat) : Nat → Str → (List Fil) → Int → Int → Option (Int × Bool)
  | 0, _, _, _, _ => none
  | n + 1, x1, x9, x10, x11 =>
    bif (decide ((x11 : Int) < x10)) then (
      if (0 : Int) ≤ x11 ∧ x11 < (List.length x9) then
      bif (((Fil.name (List.getD x9 (Int.toNat x11) Ty.fil.dflt)) : Str) == x1) then (
        some ((Fil.n (List.getD x9 (Int.toNat x11) Ty.fil.dflt)), true)
      ) else (
        (xAQ N n x1 x9 x10 (IntKind.i64.wrap (x11 + 1)))
      )
      else none
    ) else (
      some (0, false)
    )
def xBp (N : Nat) (a0 : Wld) (a1 : Str) : Option (Int × Bool) :=
  (xAQ N N a1 (Wld.files a0) (List.length (Wld.files a0) : Int) 0)
def xA3 (a0 : Wld) : List Arg := [.val (.v true [.int .i64 (Wld.clock a0), .int .i64 (Wld.seed a0), .sl .ro .fil (Wld.files a0)])]
def xAx (r : Wld) : CallO := ⟨.v true [.int .i64 (Wld.clock r), .int .i64 (Wld.seed r), .sl .own .fil (Wld.files r)], [], []⟩
def xBM (N : Nat) (a0 : Wld) : Option (Wld) :=
  Option.bind (xAV N a0) fun r1 =>
  bif (decide (((Wld.clock r1) : Int) < 1000)) then (
    some (Wld.mk (IntKind.i64.wrap ((Wld.clock r1) + 1)) (Wld.seed r1) (Wld.files r1))
  ) else (
    some r1
  )
def xAX (a0 : List Int) : List Arg := [.val (.v false [.sl .ro .byte a0])]
def xAt (r : Bool) : CallO := ⟨.v false [.bool r], [], []⟩
def xA6 (N : Nat) : Nat → Str → Int → Wld → Wld → Option (Bool)
  | 0, _, _, _, _ => none
  | n + 1, x4, x12, b3, b6 =>
    bif (decide ((x12 : Int) < (List.length (Wld.files b3) : Int))) then (
      if (0 : Int) ≤ x12 ∧ x12 < (List.length (Wld.files b3)) then
      Option.bind (xBp N b6 (Fil.name (List.getD (Wld.files b3) (Int.toNat x12) Ty.fil.dflt))) fun r1 =>
      bif (!r1.2) then (
        some false
      ) else (
        bif (!(((Fil.name (List.getD (Wld.files b3) (Int.toNat x12) Ty.fil.dflt)) : Str) == x4)) then (
          bif ((r1.1 : Int) != (Fil.n (List.getD (Wld.files b3) (Int.toNat x12) Ty.fil.dflt))) then (
            some false
          ) else (
            (xA6 N n x4 (IntKind.i64.wrap (x12 + 1)) b3 b6)
          )
        ) else (
          (xA6 N n x4 (IntKind.i64.wrap (x12 + 1)) b3 b6)
        )
      )
      else none
    ) else (
      Option.bind (xBM N b6) fun r1 =>
      Option.bind (xAE N r1) fun r2 =>
      bif r2 then (
        bif (((Wld.clock r1) : Int) == (IntKind.i64.wrap ((Wld.clock b6) + 1))) then (
          some true
        ) else (
          bif (((Wld.clock b6) : Int) == 1000) then (
            some (((Wld.clock r1) : Int) == (Wld.clock b6))
          ) else (
            some false
          )
        )
      ) else (
        some false
      )
    )
def xB6 (N : Nat) (a0 : List Int) : Option (Bool) :=
  Option.bind (laws_big N a0) fun r1 =>
  bif r1 then (
    some true
  ) else (
    Option.bind (xBL N a0) fun r2 =>
    Option.bind (xB5 N r2.1 r2.2.1 r2.2.2) fun r3 =>
    Option.bind (xCf N r2.1 r2.2.1 r2.2.2) fun r4 =>
    bif (!((r3.2 : Bool) == r4.2)) then (
      some false
    ) else (
      bif r3.2 then (
        Option.bind (xAE N r3.1) fun r5 =>
        bif (!r5) then (
          some false
        ) else (
          Option.bind (xBp N r3.1 r2.2.1) fun r6 =>
          bif (!r6.2) then (
            some false
          ) else (
            bif ((r6.1 : Int) != r2.2.2) then (
              some false
            ) else (
              (xA6 N N r2.2.1 0 r2.1 r3.1)
            )
          )
        )
      ) else (
        bif (((Wld.clock r3.1) : Int) == (Wld.clock r2.1)) then (
          some (((List.length (Wld.files r3.1) : Int) : Int) == (List.length (Wld.files r2.1) : Int))
        ) else (
          some false
        )
      )
    )
  )
def xA8 (N : Nat) : Nat → Str → Int → Wld → Option (Int × Bool)
  | 0, _, _, _ => none
  | n + 1, x1, x6, b2 =>
    bif (decide ((x6 : Int) < (List.length (Wld.files b2) : Int))) then (
      if (0 : Int) ≤ x6 ∧ x6 < (List.length (Wld.files b2)) then
      bif (((Fil.name (List.getD (Wld.files b2) (Int.toNat x6) Ty.fil.dflt)) : Str) == x1) then (
        some ((Fil.n (List.getD (Wld.files b2) (Int.toNat x6) Ty.fil.dflt)), true)
      ) else (
        (xA8 N n x1 (IntKind.i64.wrap (x6 + 1)) b2)
      )
      else none
    ) else (
      some (0, false)
    )
def spec_FileContent (N : Nat) (a0 : Wld) (a1 : Str) : Option (Int × Bool) :=
  (xA8 N N a1 0 a0)
end Go.Ab
end
section
open Go.Proofs
namespace Go.Ab.T
abbrev AbC (f : FuncId) (a : List Arg) (r : CallO) : Prop := AbsCalls Try.prog f a r
end Go.Ab.T
end
section
open Go.Proofs
namespace Go.Ab.T
set_option linter.unusedVariables false
set_option maxRecDepth 100000
def tt : TT := [(3, { zero := some [.int .i64 0], ik := some .i64 }),
 (4, { zero := some [.bool false], isBool := true }),
 (5, { zero := some [.int .u8 0], ik := some .u8 }),
 (9, { zero := some [.str []], isStr := true }),
 (22, { zero := some [.sl .own .val []], elem := some (26, .val) }),
 (23, { zero := some [.sl .own .str []], elem := some (9, .str) }),
 (24, { zero := some [.sl .own .row []], elem := some (133, .row) }),
 (26, { sz := 7, agg := true, zero := some [.int .i64 0, .int .i64 0, .int .i64 0, .str [], .sl .own .val [], .sl .own .str [], .sl .own .row []], offs := [0, 1, 2, 3, 4, 5, 6], fsz := [1, 1, 1, 1, 1, 1, 1] }),
 (28, { zero := some [.sl .own .val []], elem := some (31, .val) }),
 (29, { zero := some [.sl .own .row []], elem := some (107, .row) }),
 (31, { sz := 7, agg := true, zero := some [.int .i64 0, .int .i64 0, .int .i64 0, .str [], .sl .own .val [], .sl .own .str [], .sl .own .row []], offs := [0, 1, 2, 3, 4, 5, 6], fsz := [1, 1, 1, 1, 1, 1, 1] }),
 (49, { sz := 11, agg := true, zero := some [.int .i64 0, .int .i64 0, .int .i64 0, .str [], .int .i64 0, .int .i64 0, .int .i64 0, .str [], .sl .own .val [], .sl .own .str [], .sl .own .row []], offs := [0, 1, 2, 3, 4], fsz := [1, 1, 1, 1, 7] }),
 (56, { zero := some [.sl .own .byte []], elem := some (5, .byte) }),
 (58, { zero := some [.sl .own .fil []], elem := some (69, .fil) }),
 (60, { sz := 3, agg := true, zero := some [.int .i64 0, .int .i64 0, .sl .own .fil []], offs := [0, 1, 2], fsz := [1, 1, 1] }),
 (69, { sz := 2, agg := true, zero := some [.str [], .int .i64 0], offs := [0, 1], fsz := [1, 1] }),
 (102, { zero := some [.sl .own .int []], elem := some (3, .int) }),
 (105, { zero := some [.sl .own .org []], elem := some (156, .org) }),
 (107, { sz := 2, agg := true, zero := some [.sl .own .int [], .sl .own .org []], offs := [0, 1], fsz := [1, 1] }),
 (131, { zero := some [.sl .own .org []], elem := some (165, .org) }),
 (133, { sz := 2, agg := true, zero := some [.sl .own .int [], .sl .own .org []], offs := [0, 1], fsz := [1, 1] }),
 (141, { sz := 3, agg := true, zero := some [.sl .own .byte [], .int .i64 0, .int .i64 0], offs := [0, 1, 2], fsz := [1, 1, 1] }),
 (156, { sz := 2, agg := true, zero := some [.int .i64 0, .int .i64 0], offs := [0, 1], fsz := [1, 1], same := true }),
 (165, { sz := 2, agg := true, zero := some [.int .i64 0, .int .i64 0], offs := [0, 1], fsz := [1, 1], same := true })]
theorem ttok : TTok Try.prog tt := ttChk_ok (by kernel_rfl)
theorem mix : Try.prog.follows .mixedOrders = true := by kernel_rfl
noncomputable def I64 : Info := { body := (Try.f64.body).getD .skip, nt := 23, results := [.tmp 2], keep := [0, 4, 6, 8, 22], live := [(3, [0, 6, 8])], modes := [(5, [(0, .ref, false)]), (6, [(0, .take, false)])], ext := [], lnt := [], casts := [], fcast := [] }
noncomputable def I108 : Info := { body := (Try.f108.body).getD .skip, nt := 15, results := [.tmp 6], keep := [0, 2, 4, 12], live := [], modes := [(1, [(3, .take, false)])], ext := [], lnt := [], casts := [], fcast := [] }
theorem fk108 : FnOk Try.prog 108 Try.f108 I108 := ⟨Try.func108, by kernel_rfl, by kernel_rfl, by kernel_rfl, by kernel_rfl⟩
theorem p108_e_0 (a0 a1 a2 : Int) : run tt (AbsCalls Try.prog) I108 3000 false [.code I108.body] ⟨(zBm 0 (xBh a0 a1 a2)), [true], [], []⟩ = some (.done (xAP (decide ((a0 : Int) ≤ a2))) [(decide ((a0 : Int) ≥ a1)) = true]) := by kernel_rfl
theorem p108_e_1 (a0 a1 a2 : Int) : run tt (AbsCalls Try.prog) I108 3000 false [.code I108.body] ⟨(zBm 0 (xBh a0 a1 a2)), [false], [], []⟩ = some (.done (xAP false) [(decide ((a0 : Int) ≥ a1)) = false]) := by kernel_rfl
theorem c108_e {N : Nat} : ∀ a0 a1 a2 r, xCi N a0 a1 a2 = some r → Reach Try.prog Try.f108 I108 [.code I108.body] (zBm 0 (xBh a0 a1 a2)) (xAP r) := by
 intro a0 a1 a2 r h
 unfold xCi at h
 rcases cond_inv h with ⟨h0, h⟩ | ⟨h0, h⟩
 ·obtain rfl := Option.some.inj h
  exact Reach.done ttok mix fk108 (p108_e_0 a0 a1 a2) (obs_cons h0 obs_nil)
 ·obtain rfl := Option.some.inj h
  exact Reach.done ttok mix fk108 (p108_e_1 a0 a1 a2) (obs_cons h0 obs_nil)
theorem xB7 {N : Nat} {a0 : Int} {a1 : Int} {a2 : Int} {r : Bool} (h : xCi N  a0 a1 a2 = some r) : AbC 108 (xBh a0 a1 a2) (xAP r) :=
 AbsCalls.of_reach fk108 rfl rfl (Nat.le_of_ble_eq_true rfl) (c108_e a0 a1 a2 r h)
noncomputable def I85 : Info := { body := (Try.f85.body).getD .skip, nt := 5, results := [.tmp 2], keep := [0, 4], live := [], modes := [], ext := [], lnt := [], casts := [], fcast := [] }
theorem fk85 : FnOk Try.prog 85 Try.f85 I85 := ⟨Try.func85, by kernel_rfl, by kernel_rfl, by kernel_rfl, by kernel_rfl⟩
theorem p85_e_0 (a0 : Int) (r1 : Bool) : run tt (AbsCalls Try.prog) I85 3000 false [.code I85.body] ⟨(zBm 0 (xBg a0)), [], [xAP r1], []⟩ = some (.done (xAN r1) [AbC 108 (xBh a0 (-1000000000) 1000000000) (xAP r1)]) := by kernel_rfl
theorem c85_e {N : Nat} : ∀ a0 r, xBW N a0 = some r → Reach Try.prog Try.f85 I85 [.code I85.body] (zBm 0 (xBg a0)) (xAN r) := by
 intro a0 r h
 unfold xBW at h
 obtain ⟨r1, h0, h⟩ := bind_inv h
 obtain rfl := Option.some.inj h
 exact Reach.done ttok mix fk85 (p85_e_0 a0 r1) (obs_cons (xB7 h0) obs_nil)
theorem xB2 {N : Nat} {a0 : Int} {r : Bool} (h : xBW N  a0 = some r) : AbC 85 (xBg a0) (xAN r) :=
 AbsCalls.of_reach fk85 rfl rfl (Nat.le_of_ble_eq_true rfl) (c85_e a0 r h)
noncomputable def I137 : Info := { body := (Try.f137.body).getD .skip, nt := 45, results := [.tmp 2], keep := [0, 4, 6, 8, 10, 18, 82], live := [(2, [0, 6])], modes := [(4, [(4, .take, false)]), (5, [(4, .take, false)]), (6, [(0, .take, false), (2, .take, false), (5, .take, false), (6, .take, false)])], ext := [], lnt := [], casts := [], fcast := [] }
theorem xCN : FnOk Try.prog 137 Try.f137 I137 := ⟨Try.func137, by kernel_rfl, by kernel_rfl, by kernel_rfl, by kernel_rfl⟩
def xB8 (x0 : Str) (x3 : Int) : St := [(0, .v false [.str x0]), (6, .v false [.int .i64 x3])]
theorem p137_2_0 (x0 : Str) (x3 : Int) : run tt (AbsCalls Try.prog) I137 3000 true (stkAt 2 I137.body) ⟨(xB8 x0 x3), [true, true, true, true, true, true], [], []⟩ = some (.done (xAq false) [(decide ((x3 : Int) < (List.length x0 : Int))) = true, (0 : Int) ≤ x3 ∧ x3 < (List.length x0), (decide ((((List.getD x0 (Int.toNat x3) 0).toNat : Int) : Int) ≥ 97)) = true, (0 : Int) ≤ x3 ∧ x3 < (List.length x0), (0 : Int) ≤ x3 ∧ x3 < (List.length x0), (decide ((((List.getD x0 (Int.toNat x3) 0).toNat : Int) : Int) ≥ 48)) = true, (0 : Int) ≤ x3 ∧ x3 < (List.length x0), (!(decide ((((List.getD x0 (Int.toNat x3) 0).toNat : Int) : Int) ≤ 122))) = true, ((x3 : Int) == 0) = true, true = true]) := by kernel_rfl
theorem p137_2_1 (x0 : Str) (x3 : Int) : run tt (AbsCalls Try.prog) I137 3000 true (stkAt 2 I137.body) ⟨(xB8 x0 x3), [true, true, true, true, false, true], [], []⟩ = some (.done (xAq false) [(decide ((x3 : Int) < (List.length x0 : Int))) = true, (0 : Int) ≤ x3 ∧ x3 < (List.length x0), (decide ((((List.getD x0 (Int.toNat x3) 0).toNat : Int) : Int) ≥ 97)) = true, (0 : Int) ≤ x3 ∧ x3 < (List.length x0), (0 : Int) ≤ x3 ∧ x3 < (List.length x0), (decide ((((List.getD x0 (Int.toNat x3) 0).toNat : Int) : Int) ≥ 48)) = true, (0 : Int) ≤ x3 ∧ x3 < (List.length x0), (!(decide ((((List.getD x0 (Int.toNat x3) 0).toNat : Int) : Int) ≤ 122))) = true, ((x3 : Int) == 0) = false, (!(decide ((((List.getD x0 (Int.toNat x3) 0).toNat : Int) : Int) ≤ 57))) = true]) := by kernel_rfl
theorem p137_2_2 (x0 : Str) (x3 : Int) : run tt (AbsCalls Try.prog) I137 3000 true (stkAt 2 I137.body) ⟨(xB8 x0 x3), [true, true, true, true, false, false], [], []⟩ = some (.stop (stkAt 2 I137.body) (xB8 x0 (IntKind.i64.wrap (x3 + 1))) [(decide ((x3 : Int) < (List.length x0 : Int))) = true, (0 : Int) ≤ x3 ∧ x3 < (List.length x0), (decide ((((List.getD x0 (Int.toNat x3) 0).toNat : Int) : Int) ≥ 97)) = true, (0 : Int) ≤ x3 ∧ x3 < (List.length x0), (0 : Int) ≤ x3 ∧ x3 < (List.length x0), (decide ((((List.getD x0 (Int.toNat x3) 0).toNat : Int) : Int) ≥ 48)) = true, (0 : Int) ≤ x3 ∧ x3 < (List.length x0), (!(decide ((((List.getD x0 (Int.toNat x3) 0).toNat : Int) : Int) ≤ 122))) = true, ((x3 : Int) == 0) = false, (!(decide ((((List.getD x0 (Int.toNat x3) 0).toNat : Int) : Int) ≤ 57))) = false]) := by kernel_rfl
theorem p137_2_3 (x0 : Str) (x3 : Int) : run tt (AbsCalls Try.prog) I137 3000 true (stkAt 2 I137.body) ⟨(xB8 x0 x3), [true, true, true, false, false], [], []⟩ = some (.stop (stkAt 2 I137.body) (xB8 x0 (IntKind.i64.wrap (x3 + 1))) [(decide ((x3 : Int) < (List.length x0 : Int))) = true, (0 : Int) ≤ x3 ∧ x3 < (List.length x0), (decide ((((List.getD x0 (Int.toNat x3) 0).toNat : Int) : Int) ≥ 97)) = true, (0 : Int) ≤ x3 ∧ x3 < (List.length x0), (0 : Int) ≤ x3 ∧ x3 < (List.length x0), (decide ((((List.getD x0 (Int.toNat x3) 0).toNat : Int) : Int) ≥ 48)) = true, (0 : Int) ≤ x3 ∧ x3 < (List.length x0), (!(decide ((((List.getD x0 (Int.toNat x3) 0).toNat : Int) : Int) ≤ 122))) = false, false = false]) := by kernel_rfl
theorem p137_2_4 (x0 : Str) (x3 : Int) : run tt (AbsCalls Try.prog) I137 3000 true (stkAt 2 I137.body) ⟨(xB8 x0 x3), [true, true, false, true, true, true], [], []⟩ = some (.done (xAq false) [(decide ((x3 : Int) < (List.length x0 : Int))) = true, (0 : Int) ≤ x3 ∧ x3 < (List.length x0), (decide ((((List.getD x0 (Int.toNat x3) 0).toNat : Int) : Int) ≥ 97)) = true, (0 : Int) ≤ x3 ∧ x3 < (List.length x0), (0 : Int) ≤ x3 ∧ x3 < (List.length x0), (decide ((((List.getD x0 (Int.toNat x3) 0).toNat : Int) : Int) ≥ 48)) = false, (!(decide ((((List.getD x0 (Int.toNat x3) 0).toNat : Int) : Int) ≤ 122))) = true, ((x3 : Int) == 0) = true, true = true]) := by kernel_rfl
theorem p137_2_5 (x0 : Str) (x3 : Int) : run tt (AbsCalls Try.prog) I137 3000 true (stkAt 2 I137.body) ⟨(xB8 x0 x3), [true, true, false, true, false, true], [], []⟩ = some (.done (xAq false) [(decide ((x3 : Int) < (List.length x0 : Int))) = true, (0 : Int) ≤ x3 ∧ x3 < (List.length x0), (decide ((((List.getD x0 (Int.toNat x3) 0).toNat : Int) : Int) ≥ 97)) = true, (0 : Int) ≤ x3 ∧ x3 < (List.length x0), (0 : Int) ≤ x3 ∧ x3 < (List.length x0), (decide ((((List.getD x0 (Int.toNat x3) 0).toNat : Int) : Int) ≥ 48)) = false, (!(decide ((((List.getD x0 (Int.toNat x3) 0).toNat : Int) : Int) ≤ 122))) = true, ((x3 : Int) == 0) = false, (!false) = true]) := by kernel_rfl
theorem p137_2_6 (x0 : Str) (x3 : Int) : run tt (AbsCalls Try.prog) I137 3000 true (stkAt 2 I137.body) ⟨(xB8 x0 x3), [true, true, false, false, false], [], []⟩ = some (.stop (stkAt 2 I137.body) (xB8 x0 (IntKind.i64.wrap (x3 + 1))) [(decide ((x3 : Int) < (List.length x0 : Int))) = true, (0 : Int) ≤ x3 ∧ x3 < (List.length x0), (decide ((((List.getD x0 (Int.toNat x3) 0).toNat : Int) : Int) ≥ 97)) = true, (0 : Int) ≤ x3 ∧ x3 < (List.length x0), (0 : Int) ≤ x3 ∧ x3 < (List.length x0), (decide ((((List.getD x0 (Int.toNat x3) 0).toNat : Int) : Int) ≥ 48)) = false, (!(decide ((((List.getD x0 (Int.toNat x3) 0).toNat : Int) : Int) ≤ 122))) = false, false = false]) := by kernel_rfl
theorem p137_2_7 (x0 : Str) (x3 : Int) : run tt (AbsCalls Try.prog) I137 3000 true (stkAt 2 I137.body) ⟨(xB8 x0 x3), [true, false, true, true, true, true], [], []⟩ = some (.done (xAq false) [(decide ((x3 : Int) < (List.length x0 : Int))) = true, (0 : Int) ≤ x3 ∧ x3 < (List.length x0), (decide ((((List.getD x0 (Int.toNat x3) 0).toNat : Int) : Int) ≥ 97)) = false, (0 : Int) ≤ x3 ∧ x3 < (List.length x0), (decide ((((List.getD x0 (Int.toNat x3) 0).toNat : Int) : Int) ≥ 48)) = true, (0 : Int) ≤ x3 ∧ x3 < (List.length x0), (!false) = true, ((x3 : Int) == 0) = true, true = true]) := by kernel_rfl
theorem p137_2_8 (x0 : Str) (x3 : Int) : run tt (AbsCalls Try.prog) I137 3000 true (stkAt 2 I137.body) ⟨(xB8 x0 x3), [true, false, true, true, false, true], [], []⟩ = some (.done (xAq false) [(decide ((x3 : Int) < (List.length x0 : Int))) = true, (0 : Int) ≤ x3 ∧ x3 < (List.length x0), (decide ((((List.getD x0 (Int.toNat x3) 0).toNat : Int) : Int) ≥ 97)) = false, (0 : Int) ≤ x3 ∧ x3 < (List.length x0), (decide ((((List.getD x0 (Int.toNat x3) 0).toNat : Int) : Int) ≥ 48)) = true, (0 : Int) ≤ x3 ∧ x3 < (List.length x0), (!false) = true, ((x3 : Int) == 0) = false, (!(decide ((((List.getD x0 (Int.toNat x3) 0).toNat : Int) : Int) ≤ 57))) = true]) := by kernel_rfl
theorem p137_2_9 (x0 : Str) (x3 : Int) : run tt (AbsCalls Try.prog) I137 3000 true (stkAt 2 I137.body) ⟨(xB8 x0 x3), [true, false, true, true, false, false], [], []⟩ = some (.stop (stkAt 2 I137.body) (xB8 x0 (IntKind.i64.wrap (x3 + 1))) [(decide ((x3 : Int) < (List.length x0 : Int))) = true, (0 : Int) ≤ x3 ∧ x3 < (List.length x0), (decide ((((List.getD x0 (Int.toNat x3) 0).toNat : Int) : Int) ≥ 97)) = false, (0 : Int) ≤ x3 ∧ x3 < (List.length x0), (decide ((((List.getD x0 (Int.toNat x3) 0).toNat : Int) : Int) ≥ 48)) = true, (0 : Int) ≤ x3 ∧ x3 < (List.length x0), (!false) = true, ((x3 : Int) == 0) = false, (!(decide ((((List.getD x0 (Int.toNat x3) 0).toNat : Int) : Int) ≤ 57))) = false]) := by kernel_rfl
theorem p137_2_10 (x0 : Str) (x3 : Int) : run tt (AbsCalls Try.prog) I137 3000 true (stkAt 2 I137.body) ⟨(xB8 x0 x3), [true, false, false, true, true, true], [], []⟩ = some (.done (xAq false) [(decide ((x3 : Int) < (List.length x0 : Int))) = true, (0 : Int) ≤ x3 ∧ x3 < (List.length x0), (decide ((((List.getD x0 (Int.toNat x3) 0).toNat : Int) : Int) ≥ 97)) = false, (0 : Int) ≤ x3 ∧ x3 < (List.length x0), (decide ((((List.getD x0 (Int.toNat x3) 0).toNat : Int) : Int) ≥ 48)) = false, (!false) = true, ((x3 : Int) == 0) = true, true = true]) := by kernel_rfl
theorem p137_2_11 (x0 : Str) (x3 : Int) : run tt (AbsCalls Try.prog) I137 3000 true (stkAt 2 I137.body) ⟨(xB8 x0 x3), [true, false, false, true, false, true], [], []⟩ = some (.done (xAq false) [(decide ((x3 : Int) < (List.length x0 : Int))) = true, (0 : Int) ≤ x3 ∧ x3 < (List.length x0), (decide ((((List.getD x0 (Int.toNat x3) 0).toNat : Int) : Int) ≥ 97)) = false, (0 : Int) ≤ x3 ∧ x3 < (List.length x0), (decide ((((List.getD x0 (Int.toNat x3) 0).toNat : Int) : Int) ≥ 48)) = false, (!false) = true, ((x3 : Int) == 0) = false, (!false) = true]) := by kernel_rfl
theorem p137_2_12 (x0 : Str) (x3 : Int) : run tt (AbsCalls Try.prog) I137 3000 true (stkAt 2 I137.body) ⟨(xB8 x0 x3), [false], [], []⟩ = some (.done (xAq (decide (((List.length x0 : Int) : Int) > 0))) [(decide ((x3 : Int) < (List.length x0 : Int))) = false]) := by kernel_rfl
theorem p137_e_13 (a0 : Str) : run tt (AbsCalls Try.prog) I137 3000 false [.code I137.body] ⟨(zBm 0 (xBF a0)), [], [], []⟩ = some (.stop (stkAt 2 I137.body) (xB8 a0 0) []) := by kernel_rfl
theorem c137_2 {N : Nat} : ∀ n x0 x3 r, xAU N n x0 x3 = some r → Reach Try.prog Try.f137 I137 (stkAt 2 I137.body) (xB8 x0 x3) (xAq r) := by
 intro n
 induction n with
 | zero => intro x0 x3 r h; have h' : (none : Option (Bool)) = some r := h; cases h'
 | succ n ih =>
  intro x0 x3 r h
  rw [xAU] at h
  rcases cond_inv h with ⟨h0, h⟩ | ⟨h0, h⟩
  ·obtain ⟨h1, h⟩ := ite_inv h
   rcases cond_inv h with ⟨h2, h⟩ | ⟨h2, h⟩
   ·rcases cond_inv h with ⟨h5, h⟩ | ⟨h5, h⟩
    ·rcases cond_inv h with ⟨h7, h⟩ | ⟨h7, h⟩
     ·rcases cond_inv h with ⟨h8, h⟩ | ⟨h8, h⟩
      ·obtain rfl := Option.some.inj h
       exact Reach.done ttok mix xCN (p137_2_0 x0 x3) (obs_cons h0 (obs_cons h1 (obs_cons h2 (obs_cons h1 (obs_cons h1 (obs_cons h5 (obs_cons h1 (obs_cons h7 (obs_cons h8 (obs_cons rfl obs_nil))))))))))
      ·rcases cond_inv h with ⟨h9, h⟩ | ⟨h9, h⟩
       ·obtain rfl := Option.some.inj h
        exact Reach.done ttok mix xCN (p137_2_1 x0 x3) (obs_cons h0 (obs_cons h1 (obs_cons h2 (obs_cons h1 (obs_cons h1 (obs_cons h5 (obs_cons h1 (obs_cons h7 (obs_cons h8 (obs_cons h9 obs_nil))))))))))
       ·exact Reach.stop ttok mix xCN (p137_2_2 x0 x3) (obs_cons h0 (obs_cons h1 (obs_cons h2 (obs_cons h1 (obs_cons h1 (obs_cons h5 (obs_cons h1 (obs_cons h7 (obs_cons h8 (obs_cons h9 obs_nil)))))))))) (ih _ _ _ h)
     ·exact Reach.stop ttok mix xCN (p137_2_3 x0 x3) (obs_cons h0 (obs_cons h1 (obs_cons h2 (obs_cons h1 (obs_cons h1 (obs_cons h5 (obs_cons h1 (obs_cons h7 (obs_cons rfl obs_nil))))))))) (ih _ _ _ h)
    ·rcases cond_inv h with ⟨h6, h⟩ | ⟨h6, h⟩
     ·rcases cond_inv h with ⟨h7, h⟩ | ⟨h7, h⟩
      ·obtain rfl := Option.some.inj h
       exact Reach.done ttok mix xCN (p137_2_4 x0 x3) (obs_cons h0 (obs_cons h1 (obs_cons h2 (obs_cons h1 (obs_cons h1 (obs_cons h5 (obs_cons h6 (obs_cons h7 (obs_cons rfl obs_nil)))))))))
      ·obtain rfl := Option.some.inj h
       exact Reach.done ttok mix xCN (p137_2_5 x0 x3) (obs_cons h0 (obs_cons h1 (obs_cons h2 (obs_cons h1 (obs_cons h1 (obs_cons h5 (obs_cons h6 (obs_cons h7 (obs_cons rfl obs_nil)))))))))
     ·exact Reach.stop ttok mix xCN (p137_2_6 x0 x3) (obs_cons h0 (obs_cons h1 (obs_cons h2 (obs_cons h1 (obs_cons h1 (obs_cons h5 (obs_cons h6 (obs_cons rfl obs_nil)))))))) (ih _ _ _ h)
   ·rcases cond_inv h with ⟨h4, h⟩ | ⟨h4, h⟩
    ·rcases cond_inv h with ⟨h7, h⟩ | ⟨h7, h⟩
     ·obtain rfl := Option.some.inj h
      exact Reach.done ttok mix xCN (p137_2_7 x0 x3) (obs_cons h0 (obs_cons h1 (obs_cons h2 (obs_cons h1 (obs_cons h4 (obs_cons h1 (obs_cons rfl (obs_cons h7 (obs_cons rfl obs_nil)))))))))
     ·rcases cond_inv h with ⟨h8, h⟩ | ⟨h8, h⟩
      ·obtain rfl := Option.some.inj h
       exact Reach.done ttok mix xCN (p137_2_8 x0 x3) (obs_cons h0 (obs_cons h1 (obs_cons h2 (obs_cons h1 (obs_cons h4 (obs_cons h1 (obs_cons rfl (obs_cons h7 (obs_cons h8 obs_nil)))))))))
      ·exact Reach.stop ttok mix xCN (p137_2_9 x0 x3) (obs_cons h0 (obs_cons h1 (obs_cons h2 (obs_cons h1 (obs_cons h4 (obs_cons h1 (obs_cons rfl (obs_cons h7 (obs_cons h8 obs_nil))))))))) (ih _ _ _ h)
    ·rcases cond_inv h with ⟨h6, h⟩ | ⟨h6, h⟩
     ·obtain rfl := Option.some.inj h
      exact Reach.done ttok mix xCN (p137_2_10 x0 x3) (obs_cons h0 (obs_cons h1 (obs_cons h2 (obs_cons h1 (obs_cons h4 (obs_cons rfl (obs_cons h6 (obs_cons rfl obs_nil))))))))
     ·obtain rfl := Option.some.inj h
      exact Reach.done ttok mix xCN (p137_2_11 x0 x3) (obs_cons h0 (obs_cons h1 (obs_cons h2 (obs_cons h1 (obs_cons h4 (obs_cons rfl (obs_cons h6 (obs_cons rfl obs_nil))))))))
  ·obtain rfl := Option.some.inj h
   exact Reach.done ttok mix xCN (p137_2_12 x0 x3) (obs_cons h0 obs_nil)
theorem c137_e {N : Nat} : ∀ a0 r, xCj N a0 = some r → Reach Try.prog Try.f137 I137 [.code I137.body] (zBm 0 (xBF a0)) (xAq r) := by
 intro a0 r h
 unfold xCj at h
 exact Reach.stop ttok mix xCN (p137_e_13 a0) obs_nil (c137_2   _ _ _ _ h)
theorem xCs {N : Nat} {a0 : Str} {r : Bool} (h : xCj N  a0 = some r) : AbC 137 (xBF a0) (xAq r) :=
 AbsCalls.of_reach xCN rfl rfl (Nat.le_of_ble_eq_true rfl) (c137_e a0 r h)
noncomputable def I175 : Info := { body := (Try.f175.body).getD .skip, nt := 2, results := [.tmp 0], keep := [0], live := [], modes := [], ext := [], lnt := [], casts := [], fcast := [] }
theorem fk175 : FnOk Try.prog 175 Try.f175 I175 := ⟨Try.func175, by kernel_rfl, by kernel_rfl, by kernel_rfl, by kernel_rfl⟩
theorem p175_e_0 : run tt (AbsCalls Try.prog) I175 3000 false [.code I175.body] ⟨(zBm 0 (xBQ )), [], [], []⟩ = some (.done (xBv [[108, 101, 116], [105, 110], [105, 102], [116, 104, 101, 110], [101, 108, 115, 101], [102, 111, 114], [100, 111], [108, 101, 110], [115, 117, 109], [116, 97, 107, 101], [115, 107, 105, 112], [114, 97, 110, 103, 101], [110, 116, 104], [119, 104, 101, 114, 101], [107, 101, 101, 112], [97, 100, 100], [103, 114, 111, 117, 112], [106, 111, 105, 110], [99, 111, 108, 117, 109, 110], [114, 111, 119, 115], [99, 108, 111, 99, 107], [99, 104, 97, 110, 99, 101], [102, 105, 108, 101], [116, 97, 98, 108, 101]]) []) := by kernel_rfl
theorem c175_e {N : Nat} : ∀ r, xBS N = some r → Reach Try.prog Try.f175 I175 [.code I175.body] (zBm 0 (xBQ )) (xBv r) := by
 intro r h
 unfold xBS at h
 obtain rfl := Option.some.inj h
 exact Reach.done ttok mix fk175 (p175_e_0) obs_nil
theorem spec_l2Reserved_ok {N : Nat} {r : (List Str)} (h : xBS N   = some r) : AbC 175 (xBQ ) (xBv r) :=
 AbsCalls.of_reach fk175 rfl rfl (Nat.le_of_ble_eq_true rfl) (c175_e  r h)
noncomputable def I174 : Info := { body := (Try.f174.body).getD .skip, nt := 18, results := [.tmp 4], keep := [0, 2, 8, 10, 18, 34], live := [(2, [0, 2, 10])], modes := [], ext := [], lnt := [], casts := [], fcast := [] }
theorem fk174 : FnOk Try.prog 174 Try.f174 I174 := ⟨Try.func174, by kernel_rfl, by kernel_rfl, by kernel_rfl, by kernel_rfl⟩
def S174_2 (x0 : List Str) (x1 : Str) (x5 : Int) : St := [(0, .v false [.sl .ro .str x0]), (2, .v false [.str x1]), (10, .v false [.int .i64 x5])]
theorem p174_2_0 (x0 : List Str) (x1 : Str) (x5 : Int) : run tt (AbsCalls Try.prog) I174 3000 true (stkAt 2 I174.body) ⟨(S174_2 x0 x1 x5), [true, true], [], []⟩ = some (.done (xBI true) [(decide ((x5 : Int) < (List.length x0 : Int))) = true, (0 : Int) ≤ x5 ∧ x5 < (List.length x0), (((List.getD x0 (Int.toNat x5) Ty.str.dflt) : Str) == x1) = true]) := by kernel_rfl
theorem p174_2_1 (x0 : List Str) (x1 : Str) (x5 : Int) : run tt (AbsCalls Try.prog) I174 3000 true (stkAt 2 I174.body) ⟨(S174_2 x0 x1 x5), [true, false], [], []⟩ = some (.stop (stkAt 2 I174.body) (S174_2 x0 x1 (IntKind.i64.wrap (x5 + 1))) [(decide ((x5 : Int) < (List.length x0 : Int))) = true, (0 : Int) ≤ x5 ∧ x5 < (List.length x0), (((List.getD x0 (Int.toNat x5) Ty.str.dflt) : Str) == x1) = false]) := by kernel_rfl
theorem p174_2_2 (x0 : List Str) (x1 : Str) (x5 : Int) : run tt (AbsCalls Try.prog) I174 3000 true (stkAt 2 I174.body) ⟨(S174_2 x0 x1 x5), [false], [], []⟩ = some (.done (xBI false) [(decide ((x5 : Int) < (List.length x0 : Int))) = false]) := by kernel_rfl
theorem p174_e_3 (a0 : List Str) (a1 : Str) : run tt (AbsCalls Try.prog) I174 3000 false [.code I174.body] ⟨(zBm 0 (xCl a0 a1)), [], [], []⟩ = some (.stop (stkAt 2 I174.body) (S174_2 a0 a1 0) []) := by kernel_rfl
theorem c174_2 {N : Nat} : ∀ n x0 x1 x5 r, xBu N n x0 x1 x5 = some r → Reach Try.prog Try.f174 I174 (stkAt 2 I174.body) (S174_2 x0 x1 x5) (xBI r) := by
 intro n
 induction n with
 | zero => intro x0 x1 x5 r h; have h' : (none : Option (Bool)) = some r := h; cases h'
 | succ n ih =>
  intro x0 x1 x5 r h
  rw [xBu] at h
  rcases cond_inv h with ⟨h0, h⟩ | ⟨h0, h⟩
  ·obtain ⟨h1, h⟩ := ite_inv h
   rcases cond_inv h with ⟨h2, h⟩ | ⟨h2, h⟩
   ·obtain rfl := Option.some.inj h
    exact Reach.done ttok mix fk174 (p174_2_0 x0 x1 x5) (obs_cons h0 (obs_cons h1 (obs_cons h2 obs_nil)))
   ·exact Reach.stop ttok mix fk174 (p174_2_1 x0 x1 x5) (obs_cons h0 (obs_cons h1 (obs_cons h2 obs_nil))) (ih _ _ _ _ h)
  ·obtain rfl := Option.some.inj h
   exact Reach.done ttok mix fk174 (p174_2_2 x0 x1 x5) (obs_cons h0 obs_nil)
theorem c174_e {N : Nat} : ∀ a0 a1 r, xCy N a0 a1 = some r → Reach Try.prog Try.f174 I174 [.code I174.body] (zBm 0 (xCl a0 a1)) (xBI r) := by
 intro a0 a1 r h
 unfold xCy at h
 exact Reach.stop ttok mix fk174 (p174_e_3 a0 a1) obs_nil (c174_2   _ _ _ _ _ h)
theorem spec_l1Has_ok {N : Nat} {a0 : List Str} {a1 : Str} {r : Bool} (h : xCy N  a0 a1 = some r) : AbC 174 (xCl a0 a1) (xBI r) :=
 AbsCalls.of_reach fk174 rfl rfl (Nat.le_of_ble_eq_true rfl) (c174_e a0 a1 r h)
noncomputable def I138 : Info := { body := (Try.f138.body).getD .skip, nt := 6, results := [.tmp 2], keep := [0, 4], live := [], modes := [], ext := [], lnt := [], casts := [], fcast := [] }
theorem fk138 : FnOk Try.prog 138 Try.f138 I138 := ⟨Try.func138, by kernel_rfl, by kernel_rfl, by kernel_rfl, by kernel_rfl⟩
theorem p138_e_0 (a0 : Str) (r1 : (List Str)) (r2 : Bool) : run tt (AbsCalls Try.prog) I138 3000 false [.code I138.body] ⟨(zBm 0 (xBP a0)), [], [xBv r1, xBI r2], []⟩ = some (.done (xBt r2) [AbC 175 xBQ (xBv r1), AbC 174 (xCl r1 a0) (xBI r2)]) := by kernel_rfl
theorem c138_e {N : Nat} : ∀ a0 r, xBD N a0 = some r → Reach Try.prog Try.f138 I138 [.code I138.body] (zBm 0 (xBP a0)) (xBt r) := by
 intro a0 r h
 unfold xBD at h
 obtain ⟨r1, h0, h⟩ := bind_inv h
 obtain ⟨r2, h1, h⟩ := bind_inv h
 obtain rfl := Option.some.inj h
 exact Reach.done ttok mix fk138 (p138_e_0 a0 r1 r2) (obs_cons (spec_l2Reserved_ok h0) (obs_cons (spec_l1Has_ok h1) obs_nil))
theorem spec_IsReserved_ok {N : Nat} {a0 : Str} {r : Bool} (h : xBD N  a0 = some r) : AbC 138 (xBP a0) (xBt r) :=
 AbsCalls.of_reach fk138 rfl rfl (Nat.le_of_ble_eq_true rfl) (c138_e a0 r h)
noncomputable def I83 : Info := { body := (Try.f83.body).getD .skip, nt := 15, results := [.tmp 2], keep := [0, 4], live := [], modes := [(1, [(2, .take, false), (7, .take, false)])], ext := [], lnt := [], casts := [], fcast := [] }
theorem fk83 : FnOk Try.prog 83 Try.f83 I83 := ⟨Try.func83, by kernel_rfl, by kernel_rfl, by kernel_rfl, by kernel_rfl⟩
theorem p83_e_0 (a0 : Str) (r1 r2 : Bool) : run tt (AbsCalls Try.prog) I83 3000 false [.code I83.body] ⟨(zBm 0 (xAC a0)), [true, true], [xAq r1, xBt r2], []⟩ = some (.done (xAm (!r2)) [AbC 137 (xBF a0) (xAq r1), r1 = true, (decide (((List.length a0 : Int) : Int) ≤ 8)) = true, AbC 138 (xBP a0) (xBt r2)]) := by kernel_rfl
theorem p83_e_1 (a0 : Str) (r1 : Bool) : run tt (AbsCalls Try.prog) I83 3000 false [.code I83.body] ⟨(zBm 0 (xAC a0)), [true, false], [xAq r1], []⟩ = some (.done (xAm false) [AbC 137 (xBF a0) (xAq r1), r1 = true, (decide (((List.length a0 : Int) : Int) ≤ 8)) = false]) := by kernel_rfl
theorem p83_e_2 (a0 : Str) (r1 : Bool) : run tt (AbsCalls Try.prog) I83 3000 false [.code I83.body] ⟨(zBm 0 (xAC a0)), [false, false], [xAq r1], []⟩ = some (.done (xAm false) [AbC 137 (xBF a0) (xAq r1), r1 = false, false = false]) := by kernel_rfl
theorem c83_e {N : Nat} : ∀ a0 r, xBr N a0 = some r → Reach Try.prog Try.f83 I83 [.code I83.body] (zBm 0 (xAC a0)) (xAm r) := by
 intro a0 r h
 unfold xBr at h
 obtain ⟨r1, h0, h⟩ := bind_inv h
 rcases cond_inv h with ⟨h1, h⟩ | ⟨h1, h⟩
 ·rcases cond_inv h with ⟨h2, h⟩ | ⟨h2, h⟩
  ·obtain ⟨r2, h3, h⟩ := bind_inv h
   obtain rfl := Option.some.inj h
   exact Reach.done ttok mix fk83 (p83_e_0 a0 r1 r2) (obs_cons (xCs h0) (obs_cons h1 (obs_cons h2 (obs_cons (spec_IsReserved_ok h3) obs_nil))))
  ·obtain rfl := Option.some.inj h
   exact Reach.done ttok mix fk83 (p83_e_1 a0 r1) (obs_cons (xCs h0) (obs_cons h1 (obs_cons h2 obs_nil)))
 ·obtain rfl := Option.some.inj h
  exact Reach.done ttok mix fk83 (p83_e_2 a0 r1) (obs_cons (xCs h0) (obs_cons h1 (obs_cons rfl obs_nil)))
theorem xBl {N : Nat} {a0 : Str} {r : Bool} (h : xBr N  a0 = some r) : AbC 83 (xAC a0) (xAm r) :=
 AbsCalls.of_reach fk83 rfl rfl (Nat.le_of_ble_eq_true rfl) (c83_e a0 r h)
end Go.Ab.T
end
section
open Go.Proofs
namespace Go.Ab.T
set_option linter.unusedVariables false
set_option maxRecDepth 100000
noncomputable def I101 : Info := { body := (Try.f101.body).getD .skip, nt := 15, results := [.tmp 6], keep := [0, 2, 4, 12], live := [], modes := [(1, [(3, .take, false)])], ext := [], lnt := [], casts := [], fcast := [] }
theorem fk101 : FnOk Try.prog 101 Try.f101 I101 := ⟨Try.func101, by kernel_rfl, by kernel_rfl, by kernel_rfl, by kernel_rfl⟩
theorem p101_e_0 (a0 a1 a2 : Int) : run tt (AbsCalls Try.prog) I101 3000 false [.code I101.body] ⟨(zBm 0 (xAW a0 a1 a2)), [true], [], []⟩ = some (.done (xAr (decide ((a0 : Int) ≤ a2))) [(decide ((a1 : Int) ≤ a0)) = true]) := by kernel_rfl
theorem p101_e_1 (a0 a1 a2 : Int) : run tt (AbsCalls Try.prog) I101 3000 false [.code I101.body] ⟨(zBm 0 (xAW a0 a1 a2)), [false], [], []⟩ = some (.done (xAr false) [(decide ((a1 : Int) ≤ a0)) = false]) := by kernel_rfl
theorem c101_e {N : Nat} : ∀ a0 a1 a2 r, xBH N a0 a1 a2 = some r → Reach Try.prog Try.f101 I101 [.code I101.body] (zBm 0 (xAW a0 a1 a2)) (xAr r) := by
 intro a0 a1 a2 r h
 unfold xBH at h
 rcases cond_inv h with ⟨h0, h⟩ | ⟨h0, h⟩
 ·obtain rfl := Option.some.inj h
  exact Reach.done ttok mix fk101 (p101_e_0 a0 a1 a2) (obs_cons h0 obs_nil)
 ·obtain rfl := Option.some.inj h
  exact Reach.done ttok mix fk101 (p101_e_1 a0 a1 a2) (obs_cons h0 obs_nil)
theorem xBx {N : Nat} {a0 : Int} {a1 : Int} {a2 : Int} {r : Bool} (h : xBH N  a0 a1 a2 = some r) : AbC 101 (xAW a0 a1 a2) (xAr r) :=
 AbsCalls.of_reach fk101 rfl rfl (Nat.le_of_ble_eq_true rfl) (c101_e a0 a1 a2 r h)
noncomputable def I90 : Info := { body := (Try.f90.body).getD .skip, nt := 5, results := [.tmp 2], keep := [0, 4], live := [], modes := [], ext := [], lnt := [], casts := [], fcast := [] }
theorem fk90 : FnOk Try.prog 90 Try.f90 I90 := ⟨Try.func90, by kernel_rfl, by kernel_rfl, by kernel_rfl, by kernel_rfl⟩
theorem p90_e_0 (a0 : Int) (r1 : Bool) : run tt (AbsCalls Try.prog) I90 3000 false [.code I90.body] ⟨(zBm 0 (xBf a0)), [], [xAr r1], []⟩ = some (.done (xAK r1) [AbC 101 (xAW a0 (-1000000000) 1000000000) (xAr r1)]) := by kernel_rfl
theorem c90_e {N : Nat} : ∀ a0 r, xBU N a0 = some r → Reach Try.prog Try.f90 I90 [.code I90.body] (zBm 0 (xBf a0)) (xAK r) := by
 intro a0 r h
 unfold xBU at h
 obtain ⟨r1, h0, h⟩ := bind_inv h
 obtain rfl := Option.some.inj h
 exact Reach.done ttok mix fk90 (p90_e_0 a0 r1) (obs_cons (xBx h0) obs_nil)
theorem xB0 {N : Nat} {a0 : Int} {r : Bool} (h : xBU N  a0 = some r) : AbC 90 (xBf a0) (xAK r) :=
 AbsCalls.of_reach fk90 rfl rfl (Nat.le_of_ble_eq_true rfl) (c90_e a0 r h)
noncomputable def I141 : Info := { body := (Try.f141.body).getD .skip, nt := 42, results := [.tmp 2], keep := [0, 4, 6, 8, 16, 76], live := [(2, [0, 6])], modes := [(4, [(4, .take, false)]), (5, [(0, .take, false), (2, .take, false), (5, .take, false), (11, .take, false)])], ext := [], lnt := [], casts := [], fcast := [] }
theorem fk141 : FnOk Try.prog 141 Try.f141 I141 := ⟨Try.func141, by kernel_rfl, by kernel_rfl, by kernel_rfl, by kernel_rfl⟩
def xCo (x0 : Str) (x3 : Int) : St := [(0, .v false [.str x0]), (6, .v false [.int .i64 x3])]
theorem p141_2_0 (x0 : Str) (x3 : Int) : run tt (AbsCalls Try.prog) I141 3000 true (stkAt 2 I141.body) ⟨(xCo x0 x3), [true, true, true, true, true, true], [], []⟩ = some (.done (xAG false) [(decide ((x3 : Int) < (List.length x0 : Int))) = true, (0 : Int) ≤ x3 ∧ x3 < (List.length x0), (decide ((((List.getD x0 (Int.toNat x3) 0).toNat : Int) : Int) ≥ 97)) = true, (0 : Int) ≤ x3 ∧ x3 < (List.length x0), (!(decide ((((List.getD x0 (Int.toNat x3) 0).toNat : Int) : Int) ≤ 122))) = true, ((x3 : Int) == 0) = true, true = true, true = true]) := by kernel_rfl
theorem p141_2_1 (x0 : Str) (x3 : Int) : run tt (AbsCalls Try.prog) I141 3000 true (stkAt 2 I141.body) ⟨(xCo x0 x3), [true, true, true, false, true, true], [], []⟩ = some (.done (xAG false) [(decide ((x3 : Int) < (List.length x0 : Int))) = true, (0 : Int) ≤ x3 ∧ x3 < (List.length x0), (decide ((((List.getD x0 (Int.toNat x3) 0).toNat : Int) : Int) ≥ 97)) = true, (0 : Int) ≤ x3 ∧ x3 < (List.length x0), (!(decide ((((List.getD x0 (Int.toNat x3) 0).toNat : Int) : Int) ≤ 122))) = true, ((x3 : Int) == 0) = false, (0 : Int) ≤ x3 ∧ x3 < (List.length x0), (decide ((((List.getD x0 (Int.toNat x3) 0).toNat : Int) : Int) < 48)) = true, true = true]) := by kernel_rfl
theorem p141_2_2 (x0 : Str) (x3 : Int) : run tt (AbsCalls Try.prog) I141 3000 true (stkAt 2 I141.body) ⟨(xCo x0 x3), [true, true, true, false, false, true], [], []⟩ = some (.done (xAG false) [(decide ((x3 : Int) < (List.length x0 : Int))) = true, (0 : Int) ≤ x3 ∧ x3 < (List.length x0), (decide ((((List.getD x0 (Int.toNat x3) 0).toNat : Int) : Int) ≥ 97)) = true, (0 : Int) ≤ x3 ∧ x3 < (List.length x0), (!(decide ((((List.getD x0 (Int.toNat x3) 0).toNat : Int) : Int) ≤ 122))) = true, ((x3 : Int) == 0) = false, (0 : Int) ≤ x3 ∧ x3 < (List.length x0), (decide ((((List.getD x0 (Int.toNat x3) 0).toNat : Int) : Int) < 48)) = false, (0 : Int) ≤ x3 ∧ x3 < (List.length x0), (decide ((((List.getD x0 (Int.toNat x3) 0).toNat : Int) : Int) > 57)) = true]) := by kernel_rfl
theorem p141_2_3 (x0 : Str) (x3 : Int) : run tt (AbsCalls Try.prog) I141 3000 true (stkAt 2 I141.body) ⟨(xCo x0 x3), [true, true, true, false, false, false], [], []⟩ = some (.stop (stkAt 2 I141.body) (xCo x0 (IntKind.i64.wrap (x3 + 1))) [(decide ((x3 : Int) < (List.length x0 : Int))) = true, (0 : Int) ≤ x3 ∧ x3 < (List.length x0), (decide ((((List.getD x0 (Int.toNat x3) 0).toNat : Int) : Int) ≥ 97)) = true, (0 : Int) ≤ x3 ∧ x3 < (List.length x0), (!(decide ((((List.getD x0 (Int.toNat x3) 0).toNat : Int) : Int) ≤ 122))) = true, ((x3 : Int) == 0) = false, (0 : Int) ≤ x3 ∧ x3 < (List.length x0), (decide ((((List.getD x0 (Int.toNat x3) 0).toNat : Int) : Int) < 48)) = false, (0 : Int) ≤ x3 ∧ x3 < (List.length x0), (decide ((((List.getD x0 (Int.toNat x3) 0).toNat : Int) : Int) > 57)) = false]) := by kernel_rfl
theorem p141_2_4 (x0 : Str) (x3 : Int) : run tt (AbsCalls Try.prog) I141 3000 true (stkAt 2 I141.body) ⟨(xCo x0 x3), [true, true, false, false], [], []⟩ = some (.stop (stkAt 2 I141.body) (xCo x0 (IntKind.i64.wrap (x3 + 1))) [(decide ((x3 : Int) < (List.length x0 : Int))) = true, (0 : Int) ≤ x3 ∧ x3 < (List.length x0), (decide ((((List.getD x0 (Int.toNat x3) 0).toNat : Int) : Int) ≥ 97)) = true, (0 : Int) ≤ x3 ∧ x3 < (List.length x0), (!(decide ((((List.getD x0 (Int.toNat x3) 0).toNat : Int) : Int) ≤ 122))) = false, false = false]) := by kernel_rfl
theorem p141_2_5 (x0 : Str) (x3 : Int) : run tt (AbsCalls Try.prog) I141 3000 true (stkAt 2 I141.body) ⟨(xCo x0 x3), [true, false, true, true, true, true], [], []⟩ = some (.done (xAG false) [(decide ((x3 : Int) < (List.length x0 : Int))) = true, (0 : Int) ≤ x3 ∧ x3 < (List.length x0), (decide ((((List.getD x0 (Int.toNat x3) 0).toNat : Int) : Int) ≥ 97)) = false, (!false) = true, ((x3 : Int) == 0) = true, true = true, true = true]) := by kernel_rfl
theorem p141_2_6 (x0 : Str) (x3 : Int) : run tt (AbsCalls Try.prog) I141 3000 true (stkAt 2 I141.body) ⟨(xCo x0 x3), [true, false, true, false, true, true], [], []⟩ = some (.done (xAG false) [(decide ((x3 : Int) < (List.length x0 : Int))) = true, (0 : Int) ≤ x3 ∧ x3 < (List.length x0), (decide ((((List.getD x0 (Int.toNat x3) 0).toNat : Int) : Int) ≥ 97)) = false, (!false) = true, ((x3 : Int) == 0) = false, (0 : Int) ≤ x3 ∧ x3 < (List.length x0), (decide ((((List.getD x0 (Int.toNat x3) 0).toNat : Int) : Int) < 48)) = true, true = true]) := by kernel_rfl
theorem p141_2_7 (x0 : Str) (x3 : Int) : run tt (AbsCalls Try.prog) I141 3000 true (stkAt 2 I141.body) ⟨(xCo x0 x3), [true, false, true, false, false, true], [], []⟩ = some (.done (xAG false) [(decide ((x3 : Int) < (List.length x0 : Int))) = true, (0 : Int) ≤ x3 ∧ x3 < (List.length x0), (decide ((((List.getD x0 (Int.toNat x3) 0).toNat : Int) : Int) ≥ 97)) = false, (!false) = true, ((x3 : Int) == 0) = false, (0 : Int) ≤ x3 ∧ x3 < (List.length x0), (decide ((((List.getD x0 (Int.toNat x3) 0).toNat : Int) : Int) < 48)) = false, (0 : Int) ≤ x3 ∧ x3 < (List.length x0), (decide ((((List.getD x0 (Int.toNat x3) 0).toNat : Int) : Int) > 57)) = true]) := by kernel_rfl
theorem p141_2_8 (x0 : Str) (x3 : Int) : run tt (AbsCalls Try.prog) I141 3000 true (stkAt 2 I141.body) ⟨(xCo x0 x3), [true, false, true, false, false, false], [], []⟩ = some (.stop (stkAt 2 I141.body) (xCo x0 (IntKind.i64.wrap (x3 + 1))) [(decide ((x3 : Int) < (List.length x0 : Int))) = true, (0 : Int) ≤ x3 ∧ x3 < (List.length x0), (decide ((((List.getD x0 (Int.toNat x3) 0).toNat : Int) : Int) ≥ 97)) = false, (!false) = true, ((x3 : Int) == 0) = false, (0 : Int) ≤ x3 ∧ x3 < (List.length x0), (decide ((((List.getD x0 (Int.toNat x3) 0).toNat : Int) : Int) < 48)) = false, (0 : Int) ≤ x3 ∧ x3 < (List.length x0), (decide ((((List.getD x0 (Int.toNat x3) 0).toNat : Int) : Int) > 57)) = false]) := by kernel_rfl
theorem p141_2_9 (x0 : Str) (x3 : Int) (r1 : Bool) : run tt (AbsCalls Try.prog) I141 3000 true (stkAt 2 I141.body) ⟨(xCo x0 x3), [false], [xAr r1], []⟩ = some (.done (xAG r1) [(decide ((x3 : Int) < (List.length x0 : Int))) = false, AbC 101 (xAW (List.length x0 : Int) 1 8) (xAr r1)]) := by kernel_rfl
theorem p141_e_10 (a0 : Str) : run tt (AbsCalls Try.prog) I141 3000 false [.code I141.body] ⟨(zBm 0 (xBX a0)), [], [], []⟩ = some (.stop (stkAt 2 I141.body) (xCo a0 0) []) := by kernel_rfl
theorem c141_2 {N : Nat} : ∀ n x0 x3 r, xA4 N n x0 x3 = some r → Reach Try.prog Try.f141 I141 (stkAt 2 I141.body) (xCo x0 x3) (xAG r) := by
 intro n
 induction n with
 | zero => intro x0 x3 r h; have h' : (none : Option (Bool)) = some r := h; cases h'
 | succ n ih =>
  intro x0 x3 r h
  rw [xA4] at h
  rcases cond_inv h with ⟨h0, h⟩ | ⟨h0, h⟩
  ·obtain ⟨h1, h⟩ := ite_inv h
   rcases cond_inv h with ⟨h2, h⟩ | ⟨h2, h⟩
   ·rcases cond_inv h with ⟨h4, h⟩ | ⟨h4, h⟩
    ·rcases cond_inv h with ⟨h5, h⟩ | ⟨h5, h⟩
     ·obtain rfl := Option.some.inj h
      exact Reach.done ttok mix fk141 (p141_2_0 x0 x3) (obs_cons h0 (obs_cons h1 (obs_cons h2 (obs_cons h1 (obs_cons h4 (obs_cons h5 (obs_cons rfl (obs_cons rfl obs_nil))))))))
     ·rcases cond_inv h with ⟨h7, h⟩ | ⟨h7, h⟩
      ·obtain rfl := Option.some.inj h
       exact Reach.done ttok mix fk141 (p141_2_1 x0 x3) (obs_cons h0 (obs_cons h1 (obs_cons h2 (obs_cons h1 (obs_cons h4 (obs_cons h5 (obs_cons h1 (obs_cons h7 (obs_cons rfl obs_nil)))))))))
      ·rcases cond_inv h with ⟨h9, h⟩ | ⟨h9, h⟩
       ·obtain rfl := Option.some.inj h
        exact Reach.done ttok mix fk141 (p141_2_2 x0 x3) (obs_cons h0 (obs_cons h1 (obs_cons h2 (obs_cons h1 (obs_cons h4 (obs_cons h5 (obs_cons h1 (obs_cons h7 (obs_cons h1 (obs_cons h9 obs_nil))))))))))
       ·exact Reach.stop ttok mix fk141 (p141_2_3 x0 x3) (obs_cons h0 (obs_cons h1 (obs_cons h2 (obs_cons h1 (obs_cons h4 (obs_cons h5 (obs_cons h1 (obs_cons h7 (obs_cons h1 (obs_cons h9 obs_nil)))))))))) (ih _ _ _ h)
    ·exact Reach.stop ttok mix fk141 (p141_2_4 x0 x3) (obs_cons h0 (obs_cons h1 (obs_cons h2 (obs_cons h1 (obs_cons h4 (obs_cons rfl obs_nil)))))) (ih _ _ _ h)
   ·rcases cond_inv h with ⟨h4, h⟩ | ⟨h4, h⟩
    ·obtain rfl := Option.some.inj h
     exact Reach.done ttok mix fk141 (p141_2_5 x0 x3) (obs_cons h0 (obs_cons h1 (obs_cons h2 (obs_cons rfl (obs_cons h4 (obs_cons rfl (obs_cons rfl obs_nil)))))))
    ·rcases cond_inv h with ⟨h6, h⟩ | ⟨h6, h⟩
     ·obtain rfl := Option.some.inj h
      exact Reach.done ttok mix fk141 (p141_2_6 x0 x3) (obs_cons h0 (obs_cons h1 (obs_cons h2 (obs_cons rfl (obs_cons h4 (obs_cons h1 (obs_cons h6 (obs_cons rfl obs_nil))))))))
     ·rcases cond_inv h with ⟨h8, h⟩ | ⟨h8, h⟩
      ·obtain rfl := Option.some.inj h
       exact Reach.done ttok mix fk141 (p141_2_7 x0 x3) (obs_cons h0 (obs_cons h1 (obs_cons h2 (obs_cons rfl (obs_cons h4 (obs_cons h1 (obs_cons h6 (obs_cons h1 (obs_cons h8 obs_nil)))))))))
      ·exact Reach.stop ttok mix fk141 (p141_2_8 x0 x3) (obs_cons h0 (obs_cons h1 (obs_cons h2 (obs_cons rfl (obs_cons h4 (obs_cons h1 (obs_cons h6 (obs_cons h1 (obs_cons h8 obs_nil))))))))) (ih _ _ _ h)
  ·obtain ⟨r1, h1, h⟩ := bind_inv h
   obtain rfl := Option.some.inj h
   exact Reach.done ttok mix fk141 (p141_2_9 x0 x3 r1) (obs_cons h0 (obs_cons (xBx h1) obs_nil))
theorem c141_e {N : Nat} : ∀ a0 r, xCr N a0 = some r → Reach Try.prog Try.f141 I141 [.code I141.body] (zBm 0 (xBX a0)) (xAG r) := by
 intro a0 r h
 unfold xCr at h
 exact Reach.stop ttok mix fk141 (p141_e_10 a0) obs_nil (c141_2   _ _ _ _ h)
theorem xCK {N : Nat} {a0 : Str} {r : Bool} (h : xCr N  a0 = some r) : AbC 141 (xBX a0) (xAG r) :=
 AbsCalls.of_reach fk141 rfl rfl (Nat.le_of_ble_eq_true rfl) (c141_e a0 r h)
end Go.Ab.T
end
section
open Go.Proofs
namespace Go.Ab.T
set_option linter.unusedVariables false
set_option maxRecDepth 100000
noncomputable def I176 : Info := { body := (Try.f176.body).getD .skip, nt := 26, results := [.tmp 2], keep := [0, 4, 6, 8, 12, 24, 40, 48], live := [], modes := [], ext := [], lnt := [], casts := [], fcast := [] }
theorem xCC : FnOk Try.prog 176 Try.f176 I176 := ⟨Try.func176, by kernel_rfl, by kernel_rfl, by kernel_rfl, by kernel_rfl⟩
theorem p176_e_0 (a0 : Str) : run tt (AbsCalls Try.prog) I176 3000 false [.code I176.body] ⟨(zBm 0 (xAe a0)), [true], [], []⟩ = some (.done (xAc 0) [((a0 : Str) == [99, 108, 111, 99, 107]) = true]) := by kernel_rfl
theorem p176_e_1 (a0 : Str) : run tt (AbsCalls Try.prog) I176 3000 false [.code I176.body] ⟨(zBm 0 (xAe a0)), [false, true, true], [], []⟩ = some (.done (xAc 1) [((a0 : Str) == [99, 108, 111, 99, 107]) = false, ((a0 : Str) == [108, 101, 110]) = true, ((a0 : Str) == [108, 101, 110]) = true]) := by kernel_rfl
theorem p176_e_2 (a0 : Str) : run tt (AbsCalls Try.prog) I176 3000 false [.code I176.body] ⟨(zBm 0 (xAe a0)), [false, false, true, true], [], []⟩ = some (.done (xAc 1) [((a0 : Str) == [99, 108, 111, 99, 107]) = false, ((a0 : Str) == [108, 101, 110]) = false, ((a0 : Str) == [115, 117, 109]) = true, ((a0 : Str) == [115, 117, 109]) = true]) := by kernel_rfl
theorem p176_e_3 (a0 : Str) : run tt (AbsCalls Try.prog) I176 3000 false [.code I176.body] ⟨(zBm 0 (xAe a0)), [false, false, false, true, true], [], []⟩ = some (.done (xAc 1) [((a0 : Str) == [99, 108, 111, 99, 107]) = false, ((a0 : Str) == [108, 101, 110]) = false, ((a0 : Str) == [115, 117, 109]) = false, ((a0 : Str) == [114, 111, 119, 115]) = true, ((a0 : Str) == [114, 111, 119, 115]) = true]) := by kernel_rfl
theorem p176_e_4 (a0 : Str) : run tt (AbsCalls Try.prog) I176 3000 false [.code I176.body] ⟨(zBm 0 (xAe a0)), [false, false, false, false, true, true], [], []⟩ = some (.done (xAc 1) [((a0 : Str) == [99, 108, 111, 99, 107]) = false, ((a0 : Str) == [108, 101, 110]) = false, ((a0 : Str) == [115, 117, 109]) = false, ((a0 : Str) == [114, 111, 119, 115]) = false, ((a0 : Str) == [99, 104, 97, 110, 99, 101]) = true, ((a0 : Str) == [99, 104, 97, 110, 99, 101]) = true]) := by kernel_rfl
theorem p176_e_5 (a0 : Str) : run tt (AbsCalls Try.prog) I176 3000 false [.code I176.body] ⟨(zBm 0 (xAe a0)), [false, false, false, false, false, true], [], []⟩ = some (.done (xAc 1) [((a0 : Str) == [99, 108, 111, 99, 107]) = false, ((a0 : Str) == [108, 101, 110]) = false, ((a0 : Str) == [115, 117, 109]) = false, ((a0 : Str) == [114, 111, 119, 115]) = false, ((a0 : Str) == [99, 104, 97, 110, 99, 101]) = false, ((a0 : Str) == [102, 105, 108, 101]) = true]) := by kernel_rfl
theorem p176_e_6 (a0 : Str) : run tt (AbsCalls Try.prog) I176 3000 false [.code I176.body] ⟨(zBm 0 (xAe a0)), [false, false, false, false, false, false, true, true], [], []⟩ = some (.done (xAc 2) [((a0 : Str) == [99, 108, 111, 99, 107]) = false, ((a0 : Str) == [108, 101, 110]) = false, ((a0 : Str) == [115, 117, 109]) = false, ((a0 : Str) == [114, 111, 119, 115]) = false, ((a0 : Str) == [99, 104, 97, 110, 99, 101]) = false, ((a0 : Str) == [102, 105, 108, 101]) = false, ((a0 : Str) == [116, 97, 107, 101]) = true, ((a0 : Str) == [116, 97, 107, 101]) = true]) := by kernel_rfl
theorem p176_e_7 (a0 : Str) : run tt (AbsCalls Try.prog) I176 3000 false [.code I176.body] ⟨(zBm 0 (xAe a0)), [false, false, false, false, false, false, false, true, true], [], []⟩ = some (.done (xAc 2) [((a0 : Str) == [99, 108, 111, 99, 107]) = false, ((a0 : Str) == [108, 101, 110]) = false, ((a0 : Str) == [115, 117, 109]) = false, ((a0 : Str) == [114, 111, 119, 115]) = false, ((a0 : Str) == [99, 104, 97, 110, 99, 101]) = false, ((a0 : Str) == [102, 105, 108, 101]) = false, ((a0 : Str) == [116, 97, 107, 101]) = false, ((a0 : Str) == [115, 107, 105, 112]) = true, ((a0 : Str) == [115, 107, 105, 112]) = true]) := by kernel_rfl
theorem p176_e_8 (a0 : Str) : run tt (AbsCalls Try.prog) I176 3000 false [.code I176.body] ⟨(zBm 0 (xAe a0)), [false, false, false, false, false, false, false, false, true, true], [], []⟩ = some (.done (xAc 2) [((a0 : Str) == [99, 108, 111, 99, 107]) = false, ((a0 : Str) == [108, 101, 110]) = false, ((a0 : Str) == [115, 117, 109]) = false, ((a0 : Str) == [114, 111, 119, 115]) = false, ((a0 : Str) == [99, 104, 97, 110, 99, 101]) = false, ((a0 : Str) == [102, 105, 108, 101]) = false, ((a0 : Str) == [116, 97, 107, 101]) = false, ((a0 : Str) == [115, 107, 105, 112]) = false, ((a0 : Str) == [114, 97, 110, 103, 101]) = true, ((a0 : Str) == [114, 97, 110, 103, 101]) = true]) := by kernel_rfl
theorem p176_e_9 (a0 : Str) : run tt (AbsCalls Try.prog) I176 3000 false [.code I176.body] ⟨(zBm 0 (xAe a0)), [false, false, false, false, false, false, false, false, false, true, true], [], []⟩ = some (.done (xAc 2) [((a0 : Str) == [99, 108, 111, 99, 107]) = false, ((a0 : Str) == [108, 101, 110]) = false, ((a0 : Str) == [115, 117, 109]) = false, ((a0 : Str) == [114, 111, 119, 115]) = false, ((a0 : Str) == [99, 104, 97, 110, 99, 101]) = false, ((a0 : Str) == [102, 105, 108, 101]) = false, ((a0 : Str) == [116, 97, 107, 101]) = false, ((a0 : Str) == [115, 107, 105, 112]) = false, ((a0 : Str) == [114, 97, 110, 103, 101]) = false, ((a0 : Str) == [110, 116, 104]) = true, ((a0 : Str) == [110, 116, 104]) = true]) := by kernel_rfl
theorem p176_e_10 (a0 : Str) : run tt (AbsCalls Try.prog) I176 3000 false [.code I176.body] ⟨(zBm 0 (xAe a0)), [false, false, false, false, false, false, false, false, false, false, true, true], [], []⟩ = some (.done (xAc 2) [((a0 : Str) == [99, 108, 111, 99, 107]) = false, ((a0 : Str) == [108, 101, 110]) = false, ((a0 : Str) == [115, 117, 109]) = false, ((a0 : Str) == [114, 111, 119, 115]) = false, ((a0 : Str) == [99, 104, 97, 110, 99, 101]) = false, ((a0 : Str) == [102, 105, 108, 101]) = false, ((a0 : Str) == [116, 97, 107, 101]) = false, ((a0 : Str) == [115, 107, 105, 112]) = false, ((a0 : Str) == [114, 97, 110, 103, 101]) = false, ((a0 : Str) == [110, 116, 104]) = false, ((a0 : Str) == [107, 101, 101, 112]) = true, ((a0 : Str) == [107, 101, 101, 112]) = true]) := by kernel_rfl
theorem p176_e_11 (a0 : Str) : run tt (AbsCalls Try.prog) I176 3000 false [.code I176.body] ⟨(zBm 0 (xAe a0)), [false, false, false, false, false, false, false, false, false, false, false, true, true], [], []⟩ = some (.done (xAc 2) [((a0 : Str) == [99, 108, 111, 99, 107]) = false, ((a0 : Str) == [108, 101, 110]) = false, ((a0 : Str) == [115, 117, 109]) = false, ((a0 : Str) == [114, 111, 119, 115]) = false, ((a0 : Str) == [99, 104, 97, 110, 99, 101]) = false, ((a0 : Str) == [102, 105, 108, 101]) = false, ((a0 : Str) == [116, 97, 107, 101]) = false, ((a0 : Str) == [115, 107, 105, 112]) = false, ((a0 : Str) == [114, 97, 110, 103, 101]) = false, ((a0 : Str) == [110, 116, 104]) = false, ((a0 : Str) == [107, 101, 101, 112]) = false, ((a0 : Str) == [99, 111, 108, 117, 109, 110]) = true, ((a0 : Str) == [99, 111, 108, 117, 109, 110]) = true]) := by kernel_rfl
theorem p176_e_12 (a0 : Str) : run tt (AbsCalls Try.prog) I176 3000 false [.code I176.body] ⟨(zBm 0 (xAe a0)), [false, false, false, false, false, false, false, false, false, false, false, false, true], [], []⟩ = some (.done (xAc 2) [((a0 : Str) == [99, 108, 111, 99, 107]) = false, ((a0 : Str) == [108, 101, 110]) = false, ((a0 : Str) == [115, 117, 109]) = false, ((a0 : Str) == [114, 111, 119, 115]) = false, ((a0 : Str) == [99, 104, 97, 110, 99, 101]) = false, ((a0 : Str) == [102, 105, 108, 101]) = false, ((a0 : Str) == [116, 97, 107, 101]) = false, ((a0 : Str) == [115, 107, 105, 112]) = false, ((a0 : Str) == [114, 97, 110, 103, 101]) = false, ((a0 : Str) == [110, 116, 104]) = false, ((a0 : Str) == [107, 101, 101, 112]) = false, ((a0 : Str) == [99, 111, 108, 117, 109, 110]) = false, ((a0 : Str) == [116, 97, 98, 108, 101]) = true]) := by kernel_rfl
theorem p176_e_13 (a0 : Str) : run tt (AbsCalls Try.prog) I176 3000 false [.code I176.body] ⟨(zBm 0 (xAe a0)), [false, false, false, false, false, false, false, false, false, false, false, false, false, true, true], [], []⟩ = some (.done (xAc 3) [((a0 : Str) == [99, 108, 111, 99, 107]) = false, ((a0 : Str) == [108, 101, 110]) = false, ((a0 : Str) == [115, 117, 109]) = false, ((a0 : Str) == [114, 111, 119, 115]) = false, ((a0 : Str) == [99, 104, 97, 110, 99, 101]) = false, ((a0 : Str) == [102, 105, 108, 101]) = false, ((a0 : Str) == [116, 97, 107, 101]) = false, ((a0 : Str) == [115, 107, 105, 112]) = false, ((a0 : Str) == [114, 97, 110, 103, 101]) = false, ((a0 : Str) == [110, 116, 104]) = false, ((a0 : Str) == [107, 101, 101, 112]) = false, ((a0 : Str) == [99, 111, 108, 117, 109, 110]) = false, ((a0 : Str) == [116, 97, 98, 108, 101]) = false, ((a0 : Str) == [119, 104, 101, 114, 101]) = true, ((a0 : Str) == [119, 104, 101, 114, 101]) = true]) := by kernel_rfl
theorem p176_e_14 (a0 : Str) : run tt (AbsCalls Try.prog) I176 3000 false [.code I176.body] ⟨(zBm 0 (xAe a0)), [false, false, false, false, false, false, false, false, false, false, false, false, false, false, true, true], [], []⟩ = some (.done (xAc 3) [((a0 : Str) == [99, 108, 111, 99, 107]) = false, ((a0 : Str) == [108, 101, 110]) = false, ((a0 : Str) == [115, 117, 109]) = false, ((a0 : Str) == [114, 111, 119, 115]) = false, ((a0 : Str) == [99, 104, 97, 110, 99, 101]) = false, ((a0 : Str) == [102, 105, 108, 101]) = false, ((a0 : Str) == [116, 97, 107, 101]) = false, ((a0 : Str) == [115, 107, 105, 112]) = false, ((a0 : Str) == [114, 97, 110, 103, 101]) = false, ((a0 : Str) == [110, 116, 104]) = false, ((a0 : Str) == [107, 101, 101, 112]) = false, ((a0 : Str) == [99, 111, 108, 117, 109, 110]) = false, ((a0 : Str) == [116, 97, 98, 108, 101]) = false, ((a0 : Str) == [119, 104, 101, 114, 101]) = false, ((a0 : Str) == [103, 114, 111, 117, 112]) = true, ((a0 : Str) == [103, 114, 111, 117, 112]) = true]) := by kernel_rfl
theorem p176_e_15 (a0 : Str) : run tt (AbsCalls Try.prog) I176 3000 false [.code I176.body] ⟨(zBm 0 (xAe a0)), [false, false, false, false, false, false, false, false, false, false, false, false, false, false, false, true], [], []⟩ = some (.done (xAc 3) [((a0 : Str) == [99, 108, 111, 99, 107]) = false, ((a0 : Str) == [108, 101, 110]) = false, ((a0 : Str) == [115, 117, 109]) = false, ((a0 : Str) == [114, 111, 119, 115]) = false, ((a0 : Str) == [99, 104, 97, 110, 99, 101]) = false, ((a0 : Str) == [102, 105, 108, 101]) = false, ((a0 : Str) == [116, 97, 107, 101]) = false, ((a0 : Str) == [115, 107, 105, 112]) = false, ((a0 : Str) == [114, 97, 110, 103, 101]) = false, ((a0 : Str) == [110, 116, 104]) = false, ((a0 : Str) == [107, 101, 101, 112]) = false, ((a0 : Str) == [99, 111, 108, 117, 109, 110]) = false, ((a0 : Str) == [116, 97, 98, 108, 101]) = false, ((a0 : Str) == [119, 104, 101, 114, 101]) = false, ((a0 : Str) == [103, 114, 111, 117, 112]) = false, ((a0 : Str) == [106, 111, 105, 110]) = true]) := by kernel_rfl
theorem p176_e_16 (a0 : Str) : run tt (AbsCalls Try.prog) I176 3000 false [.code I176.body] ⟨(zBm 0 (xAe a0)), [false, false, false, false, false, false, false, false, false, false, false, false, false, false, false, false, true], [], []⟩ = some (.done (xAc 4) [((a0 : Str) == [99, 108, 111, 99, 107]) = false, ((a0 : Str) == [108, 101, 110]) = false, ((a0 : Str) == [115, 117, 109]) = false, ((a0 : Str) == [114, 111, 119, 115]) = false, ((a0 : Str) == [99, 104, 97, 110, 99, 101]) = false, ((a0 : Str) == [102, 105, 108, 101]) = false, ((a0 : Str) == [116, 97, 107, 101]) = false, ((a0 : Str) == [115, 107, 105, 112]) = false, ((a0 : Str) == [114, 97, 110, 103, 101]) = false, ((a0 : Str) == [110, 116, 104]) = false, ((a0 : Str) == [107, 101, 101, 112]) = false, ((a0 : Str) == [99, 111, 108, 117, 109, 110]) = false, ((a0 : Str) == [116, 97, 98, 108, 101]) = false, ((a0 : Str) == [119, 104, 101, 114, 101]) = false, ((a0 : Str) == [103, 114, 111, 117, 112]) = false, ((a0 : Str) == [106, 111, 105, 110]) = false, ((a0 : Str) == [97, 100, 100]) = true]) := by kernel_rfl
theorem p176_e_17 (a0 : Str) : run tt (AbsCalls Try.prog) I176 3000 false [.code I176.body] ⟨(zBm 0 (xAe a0)), [false, false, false, false, false, false, false, false, false, false, false, false, false, false, false, false, false], [], []⟩ = some (.done (xAc (-1)) [((a0 : Str) == [99, 108, 111, 99, 107]) = false, ((a0 : Str) == [108, 101, 110]) = false, ((a0 : Str) == [115, 117, 109]) = false, ((a0 : Str) == [114, 111, 119, 115]) = false, ((a0 : Str) == [99, 104, 97, 110, 99, 101]) = false, ((a0 : Str) == [102, 105, 108, 101]) = false, ((a0 : Str) == [116, 97, 107, 101]) = false, ((a0 : Str) == [115, 107, 105, 112]) = false, ((a0 : Str) == [114, 97, 110, 103, 101]) = false, ((a0 : Str) == [110, 116, 104]) = false, ((a0 : Str) == [107, 101, 101, 112]) = false, ((a0 : Str) == [99, 111, 108, 117, 109, 110]) = false, ((a0 : Str) == [116, 97, 98, 108, 101]) = false, ((a0 : Str) == [119, 104, 101, 114, 101]) = false, ((a0 : Str) == [103, 114, 111, 117, 112]) = false, ((a0 : Str) == [106, 111, 105, 110]) = false, ((a0 : Str) == [97, 100, 100]) = false]) := by kernel_rfl
theorem c176_e {N : Nat} : ∀ a0 r, xBs N a0 = some r → Reach Try.prog Try.f176 I176 [.code I176.body] (zBm 0 (xAe a0)) (xAc r) := by
 intro a0 r h
 unfold xBs at h
 rcases cond_inv h with ⟨h0, h⟩ | ⟨h0, h⟩
 ·obtain rfl := Option.some.inj h
  exact Reach.done ttok mix xCC (p176_e_0 a0) (obs_cons h0 obs_nil)
 ·rcases cond_inv h with ⟨h1, h⟩ | ⟨h1, h⟩
  ·obtain rfl := Option.some.inj h
   exact Reach.done ttok mix xCC (p176_e_1 a0) (obs_cons h0 (obs_cons h1 (obs_cons h1 obs_nil)))
  ·rcases cond_inv h with ⟨h2, h⟩ | ⟨h2, h⟩
   ·obtain rfl := Option.some.inj h
    exact Reach.done ttok mix xCC (p176_e_2 a0) (obs_cons h0 (obs_cons h1 (obs_cons h2 (obs_cons h2 obs_nil))))
   ·rcases cond_inv h with ⟨h3, h⟩ | ⟨h3, h⟩
    ·obtain rfl := Option.some.inj h
     exact Reach.done ttok mix xCC (p176_e_3 a0) (obs_cons h0 (obs_cons h1 (obs_cons h2 (obs_cons h3 (obs_cons h3 obs_nil)))))
    ·rcases cond_inv h with ⟨h4, h⟩ | ⟨h4, h⟩
     ·obtain rfl := Option.some.inj h
      exact Reach.done ttok mix xCC (p176_e_4 a0) (obs_cons h0 (obs_cons h1 (obs_cons h2 (obs_cons h3 (obs_cons h4 (obs_cons h4 obs_nil))))))
     ·rcases cond_inv h with ⟨h5, h⟩ | ⟨h5, h⟩
      ·obtain rfl := Option.some.inj h
       exact Reach.done ttok mix xCC (p176_e_5 a0) (obs_cons h0 (obs_cons h1 (obs_cons h2 (obs_cons h3 (obs_cons h4 (obs_cons h5 obs_nil))))))
      ·rcases cond_inv h with ⟨h6, h⟩ | ⟨h6, h⟩
       ·obtain rfl := Option.some.inj h
        exact Reach.done ttok mix xCC (p176_e_6 a0) (obs_cons h0 (obs_cons h1 (obs_cons h2 (obs_cons h3 (obs_cons h4 (obs_cons h5 (obs_cons h6 (obs_cons h6 obs_nil))))))))
       ·rcases cond_inv h with ⟨h7, h⟩ | ⟨h7, h⟩
        ·obtain rfl := Option.some.inj h
         exact Reach.done ttok mix xCC (p176_e_7 a0) (obs_cons h0 (obs_cons h1 (obs_cons h2 (obs_cons h3 (obs_cons h4 (obs_cons h5 (obs_cons h6 (obs_cons h7 (obs_cons h7 obs_nil)))))))))
        ·rcases cond_inv h with ⟨h8, h⟩ | ⟨h8, h⟩
         ·obtain rfl := Option.some.inj h
          exact Reach.done ttok mix xCC (p176_e_8 a0) (obs_cons h0 (obs_cons h1 (obs_cons h2 (obs_cons h3 (obs_cons h4 (obs_cons h5 (obs_cons h6 (obs_cons h7 (obs_cons h8 (obs_cons h8 obs_nil))))))))))
         ·rcases cond_inv h with ⟨h9, h⟩ | ⟨h9, h⟩
          ·obtain rfl := Option.some.inj h
           exact Reach.done ttok mix xCC (p176_e_9 a0) (obs_cons h0 (obs_cons h1 (obs_cons h2 (obs_cons h3 (obs_cons h4 (obs_cons h5 (obs_cons h6 (obs_cons h7 (obs_cons h8 (obs_cons h9 (obs_cons h9 obs_nil)))))))))))
          ·rcases cond_inv h with ⟨h10, h⟩ | ⟨h10, h⟩
           ·obtain rfl := Option.some.inj h
            exact Reach.done ttok mix xCC (p176_e_10 a0) (obs_cons h0 (obs_cons h1 (obs_cons h2 (obs_cons h3 (obs_cons h4 (obs_cons h5 (obs_cons h6 (obs_cons h7 (obs_cons h8 (obs_cons h9 (obs_cons h10 (obs_cons h10 obs_nil))))))))))))
           ·rcases cond_inv h with ⟨h11, h⟩ | ⟨h11, h⟩
            ·obtain rfl := Option.some.inj h
             exact Reach.done ttok mix xCC (p176_e_11 a0) (obs_cons h0 (obs_cons h1 (obs_cons h2 (obs_cons h3 (obs_cons h4 (obs_cons h5 (obs_cons h6 (obs_cons h7 (obs_cons h8 (obs_cons h9 (obs_cons h10 (obs_cons h11 (obs_cons h11 obs_nil)))))))))))))
            ·rcases cond_inv h with ⟨h12, h⟩ | ⟨h12, h⟩
             ·obtain rfl := Option.some.inj h
              exact Reach.done ttok mix xCC (p176_e_12 a0) (obs_cons h0 (obs_cons h1 (obs_cons h2 (obs_cons h3 (obs_cons h4 (obs_cons h5 (obs_cons h6 (obs_cons h7 (obs_cons h8 (obs_cons h9 (obs_cons h10 (obs_cons h11 (obs_cons h12 obs_nil)))))))))))))
             ·rcases cond_inv h with ⟨h13, h⟩ | ⟨h13, h⟩
              ·obtain rfl := Option.some.inj h
               exact Reach.done ttok mix xCC (p176_e_13 a0) (obs_cons h0 (obs_cons h1 (obs_cons h2 (obs_cons h3 (obs_cons h4 (obs_cons h5 (obs_cons h6 (obs_cons h7 (obs_cons h8 (obs_cons h9 (obs_cons h10 (obs_cons h11 (obs_cons h12 (obs_cons h13 (obs_cons h13 obs_nil)))))))))))))))
              ·rcases cond_inv h with ⟨h14, h⟩ | ⟨h14, h⟩
               ·obtain rfl := Option.some.inj h
                exact Reach.done ttok mix xCC (p176_e_14 a0) (obs_cons h0 (obs_cons h1 (obs_cons h2 (obs_cons h3 (obs_cons h4 (obs_cons h5 (obs_cons h6 (obs_cons h7 (obs_cons h8 (obs_cons h9 (obs_cons h10 (obs_cons h11 (obs_cons h12 (obs_cons h13 (obs_cons h14 (obs_cons h14 obs_nil))))))))))))))))
               ·rcases cond_inv h with ⟨h15, h⟩ | ⟨h15, h⟩
                ·obtain rfl := Option.some.inj h
                 exact Reach.done ttok mix xCC (p176_e_15 a0) (obs_cons h0 (obs_cons h1 (obs_cons h2 (obs_cons h3 (obs_cons h4 (obs_cons h5 (obs_cons h6 (obs_cons h7 (obs_cons h8 (obs_cons h9 (obs_cons h10 (obs_cons h11 (obs_cons h12 (obs_cons h13 (obs_cons h14 (obs_cons h15 obs_nil))))))))))))))))
                ·rcases cond_inv h with ⟨h16, h⟩ | ⟨h16, h⟩
                 ·obtain rfl := Option.some.inj h
                  exact Reach.done ttok mix xCC (p176_e_16 a0) (obs_cons h0 (obs_cons h1 (obs_cons h2 (obs_cons h3 (obs_cons h4 (obs_cons h5 (obs_cons h6 (obs_cons h7 (obs_cons h8 (obs_cons h9 (obs_cons h10 (obs_cons h11 (obs_cons h12 (obs_cons h13 (obs_cons h14 (obs_cons h15 (obs_cons h16 obs_nil)))))))))))))))))
                 ·obtain rfl := Option.some.inj h
                  exact Reach.done ttok mix xCC (p176_e_17 a0) (obs_cons h0 (obs_cons h1 (obs_cons h2 (obs_cons h3 (obs_cons h4 (obs_cons h5 (obs_cons h6 (obs_cons h7 (obs_cons h8 (obs_cons h9 (obs_cons h10 (obs_cons h11 (obs_cons h12 (obs_cons h13 (obs_cons h14 (obs_cons h15 (obs_cons h16 obs_nil)))))))))))))))))
theorem xCG {N : Nat} {a0 : Str} {r : Int} (h : xBs N  a0 = some r) : AbC 176 (xAe a0) (xAc r) :=
 AbsCalls.of_reach xCC rfl rfl (Nat.le_of_ble_eq_true rfl) (c176_e a0 r h)
noncomputable def I142 : Info := { body := (Try.f142.body).getD .skip, nt := 15, results := [.tmp 2], keep := [0, 4, 6, 8], live := [], modes := [], ext := [], lnt := [], casts := [], fcast := [] }
theorem fk142 : FnOk Try.prog 142 Try.f142 I142 := ⟨Try.func142, by kernel_rfl, by kernel_rfl, by kernel_rfl, by kernel_rfl⟩
theorem p142_e_0 (a0 : Str) : run tt (AbsCalls Try.prog) I142 3000 false [.code I142.body] ⟨(zBm 0 (xAy a0)), [true, true], [], []⟩ = some (.done (xAu true) [((a0 : Str) == [108, 101, 116]) = true, ((a0 : Str) == [108, 101, 116]) = true]) := by kernel_rfl
theorem p142_e_1 (a0 : Str) : run tt (AbsCalls Try.prog) I142 3000 false [.code I142.body] ⟨(zBm 0 (xAy a0)), [false, true, true], [], []⟩ = some (.done (xAu true) [((a0 : Str) == [108, 101, 116]) = false, ((a0 : Str) == [105, 110]) = true, ((a0 : Str) == [105, 110]) = true]) := by kernel_rfl
theorem p142_e_2 (a0 : Str) : run tt (AbsCalls Try.prog) I142 3000 false [.code I142.body] ⟨(zBm 0 (xAy a0)), [false, false, true, true], [], []⟩ = some (.done (xAu true) [((a0 : Str) == [108, 101, 116]) = false, ((a0 : Str) == [105, 110]) = false, ((a0 : Str) == [105, 102]) = true, ((a0 : Str) == [105, 102]) = true]) := by kernel_rfl
theorem p142_e_3 (a0 : Str) : run tt (AbsCalls Try.prog) I142 3000 false [.code I142.body] ⟨(zBm 0 (xAy a0)), [false, false, false, true, true], [], []⟩ = some (.done (xAu true) [((a0 : Str) == [108, 101, 116]) = false, ((a0 : Str) == [105, 110]) = false, ((a0 : Str) == [105, 102]) = false, ((a0 : Str) == [116, 104, 101, 110]) = true, ((a0 : Str) == [116, 104, 101, 110]) = true]) := by kernel_rfl
theorem p142_e_4 (a0 : Str) : run tt (AbsCalls Try.prog) I142 3000 false [.code I142.body] ⟨(zBm 0 (xAy a0)), [false, false, false, false, true, true], [], []⟩ = some (.done (xAu true) [((a0 : Str) == [108, 101, 116]) = false, ((a0 : Str) == [105, 110]) = false, ((a0 : Str) == [105, 102]) = false, ((a0 : Str) == [116, 104, 101, 110]) = false, ((a0 : Str) == [101, 108, 115, 101]) = true, ((a0 : Str) == [101, 108, 115, 101]) = true]) := by kernel_rfl
theorem p142_e_5 (a0 : Str) : run tt (AbsCalls Try.prog) I142 3000 false [.code I142.body] ⟨(zBm 0 (xAy a0)), [false, false, false, false, false, true, true], [], []⟩ = some (.done (xAu true) [((a0 : Str) == [108, 101, 116]) = false, ((a0 : Str) == [105, 110]) = false, ((a0 : Str) == [105, 102]) = false, ((a0 : Str) == [116, 104, 101, 110]) = false, ((a0 : Str) == [101, 108, 115, 101]) = false, ((a0 : Str) == [102, 111, 114]) = true, ((a0 : Str) == [102, 111, 114]) = true]) := by kernel_rfl
theorem p142_e_6 (a0 : Str) : run tt (AbsCalls Try.prog) I142 3000 false [.code I142.body] ⟨(zBm 0 (xAy a0)), [false, false, false, false, false, false, true], [], []⟩ = some (.done (xAu true) [((a0 : Str) == [108, 101, 116]) = false, ((a0 : Str) == [105, 110]) = false, ((a0 : Str) == [105, 102]) = false, ((a0 : Str) == [116, 104, 101, 110]) = false, ((a0 : Str) == [101, 108, 115, 101]) = false, ((a0 : Str) == [102, 111, 114]) = false, ((a0 : Str) == [100, 111]) = true]) := by kernel_rfl
theorem p142_e_7 (a0 : Str) (r1 : Int) : run tt (AbsCalls Try.prog) I142 3000 false [.code I142.body] ⟨(zBm 0 (xAy a0)), [false, false, false, false, false, false, false], [xAc r1], []⟩ = some (.done (xAu (decide ((r1 : Int) ≥ 0))) [((a0 : Str) == [108, 101, 116]) = false, ((a0 : Str) == [105, 110]) = false, ((a0 : Str) == [105, 102]) = false, ((a0 : Str) == [116, 104, 101, 110]) = false, ((a0 : Str) == [101, 108, 115, 101]) = false, ((a0 : Str) == [102, 111, 114]) = false, ((a0 : Str) == [100, 111]) = false, AbC 176 (xAe a0) (xAc r1)]) := by kernel_rfl
theorem c142_e {N : Nat} : ∀ a0 r, xBC N a0 = some r → Reach Try.prog Try.f142 I142 [.code I142.body] (zBm 0 (xAy a0)) (xAu r) := by
 intro a0 r h
 unfold xBC at h
 rcases cond_inv h with ⟨h0, h⟩ | ⟨h0, h⟩
 ·obtain rfl := Option.some.inj h
  exact Reach.done ttok mix fk142 (p142_e_0 a0) (obs_cons h0 (obs_cons h0 obs_nil))
 ·rcases cond_inv h with ⟨h1, h⟩ | ⟨h1, h⟩
  ·obtain rfl := Option.some.inj h
   exact Reach.done ttok mix fk142 (p142_e_1 a0) (obs_cons h0 (obs_cons h1 (obs_cons h1 obs_nil)))
  ·rcases cond_inv h with ⟨h2, h⟩ | ⟨h2, h⟩
   ·obtain rfl := Option.some.inj h
    exact Reach.done ttok mix fk142 (p142_e_2 a0) (obs_cons h0 (obs_cons h1 (obs_cons h2 (obs_cons h2 obs_nil))))
   ·rcases cond_inv h with ⟨h3, h⟩ | ⟨h3, h⟩
    ·obtain rfl := Option.some.inj h
     exact Reach.done ttok mix fk142 (p142_e_3 a0) (obs_cons h0 (obs_cons h1 (obs_cons h2 (obs_cons h3 (obs_cons h3 obs_nil)))))
    ·rcases cond_inv h with ⟨h4, h⟩ | ⟨h4, h⟩
     ·obtain rfl := Option.some.inj h
      exact Reach.done ttok mix fk142 (p142_e_4 a0) (obs_cons h0 (obs_cons h1 (obs_cons h2 (obs_cons h3 (obs_cons h4 (obs_cons h4 obs_nil))))))
     ·rcases cond_inv h with ⟨h5, h⟩ | ⟨h5, h⟩
      ·obtain rfl := Option.some.inj h
       exact Reach.done ttok mix fk142 (p142_e_5 a0) (obs_cons h0 (obs_cons h1 (obs_cons h2 (obs_cons h3 (obs_cons h4 (obs_cons h5 (obs_cons h5 obs_nil)))))))
      ·rcases cond_inv h with ⟨h6, h⟩ | ⟨h6, h⟩
       ·obtain rfl := Option.some.inj h
        exact Reach.done ttok mix fk142 (p142_e_6 a0) (obs_cons h0 (obs_cons h1 (obs_cons h2 (obs_cons h3 (obs_cons h4 (obs_cons h5 (obs_cons h6 obs_nil)))))))
       ·obtain ⟨r1, h7, h⟩ := bind_inv h
        obtain rfl := Option.some.inj h
        exact Reach.done ttok mix fk142 (p142_e_7 a0 r1) (obs_cons h0 (obs_cons h1 (obs_cons h2 (obs_cons h3 (obs_cons h4 (obs_cons h5 (obs_cons h6 (obs_cons (xCG h7) obs_nil))))))))
theorem impl_IsReserved_ok {N : Nat} {a0 : Str} {r : Bool} (h : xBC N  a0 = some r) : AbC 142 (xAy a0) (xAu r) :=
 AbsCalls.of_reach fk142 rfl rfl (Nat.le_of_ble_eq_true rfl) (c142_e a0 r h)
noncomputable def I88 : Info := { body := (Try.f88.body).getD .skip, nt := 10, results := [.tmp 2], keep := [0, 4], live := [], modes := [(1, [(2, .take, false)])], ext := [], lnt := [], casts := [], fcast := [] }
theorem fk88 : FnOk Try.prog 88 Try.f88 I88 := ⟨Try.func88, by kernel_rfl, by kernel_rfl, by kernel_rfl, by kernel_rfl⟩
theorem p88_e_0 (a0 : Str) (r1 r2 : Bool) : run tt (AbsCalls Try.prog) I88 3000 false [.code I88.body] ⟨(zBm 0 (xAI a0)), [true], [xAG r1, xAu r2], []⟩ = some (.done (xAo (!r2)) [AbC 141 (xBX a0) (xAG r1), r1 = true, AbC 142 (xAy a0) (xAu r2)]) := by kernel_rfl
theorem p88_e_1 (a0 : Str) (r1 : Bool) : run tt (AbsCalls Try.prog) I88 3000 false [.code I88.body] ⟨(zBm 0 (xAI a0)), [false], [xAG r1], []⟩ = some (.done (xAo false) [AbC 141 (xBX a0) (xAG r1), r1 = false]) := by kernel_rfl
theorem c88_e {N : Nat} : ∀ a0 r, xBq N a0 = some r → Reach Try.prog Try.f88 I88 [.code I88.body] (zBm 0 (xAI a0)) (xAo r) := by
 intro a0 r h
 unfold xBq at h
 obtain ⟨r1, h0, h⟩ := bind_inv h
 rcases cond_inv h with ⟨h1, h⟩ | ⟨h1, h⟩
 ·obtain ⟨r2, h2, h⟩ := bind_inv h
  obtain rfl := Option.some.inj h
  exact Reach.done ttok mix fk88 (p88_e_0 a0 r1 r2) (obs_cons (xCK h0) (obs_cons h1 (obs_cons (impl_IsReserved_ok h2) obs_nil)))
 ·obtain rfl := Option.some.inj h
  exact Reach.done ttok mix fk88 (p88_e_1 a0 r1) (obs_cons (xCK h0) (obs_cons h1 obs_nil))
theorem xBi {N : Nat} {a0 : Str} {r : Bool} (h : xBq N  a0 = some r) : AbC 88 (xAI a0) (xAo r) :=
 AbsCalls.of_reach fk88 rfl rfl (Nat.le_of_ble_eq_true rfl) (c88_e a0 r h)
end Go.Ab.T
end
section
open Go.Proofs
namespace Go.Ab.T
set_option linter.unusedVariables false
set_option maxRecDepth 100000
noncomputable def I29 : Info := { body := (Try.f29.body).getD .skip, nt := 6, results := [.tmp 2], keep := [0, 4], live := [], modes := [], ext := [], lnt := [], casts := [], fcast := [] }
theorem fk29 : FnOk Try.prog 29 Try.f29 I29 := ⟨Try.func29, by kernel_rfl, by kernel_rfl, by kernel_rfl, by kernel_rfl⟩
theorem p29_e_0 (a0 : List Int) : run tt (AbsCalls Try.prog) I29 3000 false [.code I29.body] ⟨(zBm 0 (xBk a0)), [], [], []⟩ = some (.done (xAJ (decide (((List.length a0 : Int) : Int) > 1048576))) []) := by kernel_rfl
theorem c29_e {N : Nat} : ∀ a0 r, laws_big N a0 = some r → Reach Try.prog Try.f29 I29 [.code I29.body] (zBm 0 (xBk a0)) (xAJ r) := by
 intro a0 r h
 unfold laws_big at h
 obtain rfl := Option.some.inj h
 exact Reach.done ttok mix fk29 (p29_e_0 a0) obs_nil
theorem xBR {N : Nat} {a0 : List Int} {r : Bool} (h : laws_big N  a0 = some r) : AbC 29 (xBk a0) (xAJ r) :=
 AbsCalls.of_reach fk29 rfl rfl (Nat.le_of_ble_eq_true rfl) (c29_e a0 r h)
noncomputable def I94 : Info := { body := (Try.f94.body).getD .skip, nt := 32, results := [.tmp 2], keep := [0, 4, 6, 8, 30, 63], live := [(3, [0, 6, 8])], modes := [(3, [(4, .take, false)])], ext := [], lnt := [], casts := [], fcast := [] }
theorem fk94 : FnOk Try.prog 94 Try.f94 I94 := ⟨Try.func94, by kernel_rfl, by kernel_rfl, by kernel_rfl, by kernel_rfl⟩
def S94_3 (x0 : List Int) (x3 x4 : Int) : St := [(0, .v false [.sl .ro .byte x0]), (6, .v false [.int .i64 x3]), (8, .v false [.int .i64 x4])]
theorem p94_3_0 (x0 : List Int) (x3 x4 : Int) : run tt (AbsCalls Try.prog) I94 3000 true (stkAt 3 I94.body) ⟨(S94_3 x0 x3 x4), [true, true], [], []⟩ = some (.stop (stkAt 3 I94.body) (S94_3 x0 (andI .i64 (IntKind.i64.wrap ((IntKind.i64.wrap ((IntKind.i64.wrap (x3 * 131)) + (IntKind.i64.wrap ((List.getD x0 (Int.toNat x4) Ty.byte.dflt))))) + 7)) 1073741823) (IntKind.i64.wrap (x4 + 1))) [(decide ((x4 : Int) < (List.length x0 : Int))) = true, (decide ((x4 : Int) < 4000)) = true, (0 : Int) ≤ x4 ∧ x4 < (List.length x0)]) := by kernel_rfl
theorem p94_3_1 (x0 : List Int) (x3 x4 : Int) : run tt (AbsCalls Try.prog) I94 3000 true (stkAt 3 I94.body) ⟨(S94_3 x0 x3 x4), [true, false], [], []⟩ = some (.done (xBK (Cur.mk x0 0 x3)) [(decide ((x4 : Int) < (List.length x0 : Int))) = true, (decide ((x4 : Int) < 4000)) = false]) := by kernel_rfl
theorem p94_3_2 (x0 : List Int) (x3 x4 : Int) : run tt (AbsCalls Try.prog) I94 3000 true (stkAt 3 I94.body) ⟨(S94_3 x0 x3 x4), [false, false], [], []⟩ = some (.done (xBK (Cur.mk x0 0 x3)) [(decide ((x4 : Int) < (List.length x0 : Int))) = false, false = false]) := by kernel_rfl
theorem p94_e_3 (a0 : List Int) : run tt (AbsCalls Try.prog) I94 3000 false [.code I94.body] ⟨(zBm 0 (xCm a0)), [], [], []⟩ = some (.stop (stkAt 3 I94.body) (S94_3 a0 (IntKind.i64.wrap (26583 + (List.length a0 : Int))) 0) []) := by kernel_rfl
theorem c94_3 {N : Nat} : ∀ n x0 x3 x4 r, xBJ N n x0 x3 x4 = some r → Reach Try.prog Try.f94 I94 (stkAt 3 I94.body) (S94_3 x0 x3 x4) (xBK r) := by
 intro n
 induction n with
 | zero => intro x0 x3 x4 r h; have h' : (none : Option (Cur)) = some r := h; cases h'
 | succ n ih =>
  intro x0 x3 x4 r h
  rw [xBJ] at h
  rcases cond_inv h with ⟨h0, h⟩ | ⟨h0, h⟩
  ·rcases cond_inv h with ⟨h1, h⟩ | ⟨h1, h⟩
   ·obtain ⟨h2, h⟩ := ite_inv h
    exact Reach.stop ttok mix fk94 (p94_3_0 x0 x3 x4) (obs_cons h0 (obs_cons h1 (obs_cons h2 obs_nil))) (ih _ _ _ _ h)
   ·obtain rfl := Option.some.inj h
    exact Reach.done ttok mix fk94 (p94_3_1 x0 x3 x4) (obs_cons h0 (obs_cons h1 obs_nil))
  ·obtain rfl := Option.some.inj h
   exact Reach.done ttok mix fk94 (p94_3_2 x0 x3 x4) (obs_cons h0 (obs_cons rfl obs_nil))
theorem c94_e {N : Nat} : ∀ a0 r, xCn N a0 = some r → Reach Try.prog Try.f94 I94 [.code I94.body] (zBm 0 (xCm a0)) (xBK r) := by
 intro a0 r h
 unfold xCn at h
 exact Reach.stop ttok mix fk94 (p94_e_3 a0) obs_nil (c94_3   _ _ _ _ _ h)
theorem spec_l1New_ok {N : Nat} {a0 : List Int} {r : Cur} (h : xCn N  a0 = some r) : AbC 94 (xCm a0) (xBK r) :=
 AbsCalls.of_reach fk94 rfl rfl (Nat.le_of_ble_eq_true rfl) (c94_e a0 r h)
noncomputable def I147 : Info := { body := (Try.f147.body).getD .skip, nt := 58, results := [.tmp 2], keep := [0, 4, 6, 68, 1], live := [], modes := [], ext := [0], lnt := [], casts := [], fcast := [] }
theorem fk147 : FnOk Try.prog 147 Try.f147 I147 := ⟨Try.func147, by kernel_rfl, by kernel_rfl, by kernel_rfl, by kernel_rfl⟩
theorem p147_e_0 (a0 : Cur) : run tt (AbsCalls Try.prog) I147 3000 false [.code I147.body] ⟨(zBm 0 (xBa a0)), [true], [], []⟩ = some (.done (xAH ((andI .i64 (IntKind.i64.wrap ((andI .i64 (xorI .i64 (Int.fdiv (IntKind.i64.wrap ((IntKind.i64.wrap ((Cur.h a0) * 6364136223846793005)) + 1442695040888963407)) ((2 : Int) ^ (Int.toNat 33))) (Int.fdiv (IntKind.i64.wrap ((IntKind.i64.wrap ((Cur.h a0) * 6364136223846793005)) + 1442695040888963407)) ((2 : Int) ^ (Int.toNat 45)))) 255) + (IntKind.i64.wrap ((List.getD (Cur.b a0) (Int.toNat (Cur.i a0)) Ty.byte.dflt))))) 255), (Cur.mk (Cur.b a0) (IntKind.i64.wrap ((Cur.i a0) + 1)) (IntKind.i64.wrap ((IntKind.i64.wrap ((Cur.h a0) * 6364136223846793005)) + 1442695040888963407))))) [(0 : Int) ≤ 33 ∧ (33 : Int) < 64, (0 : Int) ≤ 45 ∧ (45 : Int) < 64, (decide (((Cur.i a0) : Int) < (List.length (Cur.b a0) : Int))) = true, (0 : Int) ≤ (Cur.i a0) ∧ (Cur.i a0) < (List.length (Cur.b a0))]) := by kernel_rfl
theorem p147_e_1 (a0 : Cur) : run tt (AbsCalls Try.prog) I147 3000 false [.code I147.body] ⟨(zBm 0 (xBa a0)), [false], [], []⟩ = some (.done (xAH ((andI .i64 (xorI .i64 (Int.fdiv (IntKind.i64.wrap ((IntKind.i64.wrap ((Cur.h a0) * 6364136223846793005)) + 1442695040888963407)) ((2 : Int) ^ (Int.toNat 33))) (Int.fdiv (IntKind.i64.wrap ((IntKind.i64.wrap ((Cur.h a0) * 6364136223846793005)) + 1442695040888963407)) ((2 : Int) ^ (Int.toNat 45)))) 255), (Cur.mk (Cur.b a0) (Cur.i a0) (IntKind.i64.wrap ((IntKind.i64.wrap ((Cur.h a0) * 6364136223846793005)) + 1442695040888963407))))) [(0 : Int) ≤ 33 ∧ (33 : Int) < 64, (0 : Int) ≤ 45 ∧ (45 : Int) < 64, (decide (((Cur.i a0) : Int) < (List.length (Cur.b a0) : Int))) = false]) := by kernel_rfl
theorem c147_e {N : Nat} : ∀ a0 r, xBy N a0 = some r → Reach Try.prog Try.f147 I147 [.code I147.body] (zBm 0 (xBa a0)) (xAH r) := by
 intro a0 r h
 unfold xBy at h
 rcases cond_inv h with ⟨h2, h⟩ | ⟨h2, h⟩
 ·obtain ⟨h3, h⟩ := ite_inv h
  obtain rfl := Option.some.inj h
  exact Reach.done ttok mix fk147 (p147_e_0 a0) (obs_cons (by decide) (obs_cons (by decide) (obs_cons h2 (obs_cons h3 obs_nil))))
 ·obtain rfl := Option.some.inj h
  exact Reach.done ttok mix fk147 (p147_e_1 a0) (obs_cons (by decide) (obs_cons (by decide) (obs_cons h2 obs_nil)))
theorem xBY {N : Nat} {a0 : Cur} {r : Int × Cur} (h : xBy N  a0 = some r) : AbC 147 (xBa a0) (xAH r) :=
 AbsCalls.of_reach fk147 rfl rfl (Nat.le_of_ble_eq_true rfl) (c147_e a0 r h)
noncomputable def I104 : Info := { body := (Try.f104.body).getD .skip, nt := 37, results := [.tmp 4], keep := [0, 2, 8, 10, 12, 14, 16, 20, 24, 1], live := [], modes := [(9, [(0, .take, false), (2, .take, false), (5, .take, false), (8, .take, false)])], ext := [0], lnt := [], casts := [], fcast := [] }
theorem fk104 : FnOk Try.prog 104 Try.f104 I104 := ⟨Try.func104, by kernel_rfl, by kernel_rfl, by kernel_rfl, by kernel_rfl⟩
theorem p104_e_0 (a0 : Cur) (a1 : Int) : run tt (AbsCalls Try.prog) I104 3000 false [.code I104.body] ⟨(zBm 0 (xAp a0 a1)), [true], [], []⟩ = some (.done (xAd (0, a0)) [(decide ((a1 : Int) ≤ 0)) = true]) := by kernel_rfl
theorem p104_e_1 (a0 : Cur) (a1 : Int) (r1 : Int × Cur) : run tt (AbsCalls Try.prog) I104 3000 false [.code I104.body] ⟨(zBm 0 (xAp a0 a1)), [false, true], [xAH r1], []⟩ = some (.done (xAd ((Int.tmod r1.1 a1), r1.2)) [(decide ((a1 : Int) ≤ 0)) = false, (decide ((a1 : Int) ≤ 256)) = true, AbC 147 (xBa a0) (xAH r1), a1 ≠ (0 : Int)]) := by kernel_rfl
theorem p104_e_2 (a0 : Cur) (a1 : Int) (r1 : Int × Cur) (r2 : Int × Cur) (r3 : Int × Cur) (r4 : Int × Cur) : run tt (AbsCalls Try.prog) I104 3000 false [.code I104.body] ⟨(zBm 0 (xAp a0 a1)), [false, false], [xAH r1, xAH r2, xAH r3, xAH r4], []⟩ = some (.done (xAd ((Int.tmod (IntKind.i64.wrap ((IntKind.i64.wrap ((IntKind.i64.wrap ((IntKind.i64.wrap (r1.1 * 16777216)) + (IntKind.i64.wrap (r2.1 * 65536)))) + (IntKind.i64.wrap (r3.1 * 256)))) + r4.1)) a1), r4.2)) [(decide ((a1 : Int) ≤ 0)) = false, (decide ((a1 : Int) ≤ 256)) = false, AbC 147 (xBa a0) (xAH r1), AbC 147 (xBa r1.2) (xAH r2), AbC 147 (xBa r2.2) (xAH r3), AbC 147 (xBa r3.2) (xAH r4), a1 ≠ (0 : Int)]) := by kernel_rfl
theorem c104_e {N : Nat} : ∀ a0 a1 r, xAT N a0 a1 = some r → Reach Try.prog Try.f104 I104 [.code I104.body] (zBm 0 (xAp a0 a1)) (xAd r) := by
 intro a0 a1 r h
 unfold xAT at h
 rcases cond_inv h with ⟨h0, h⟩ | ⟨h0, h⟩
 ·obtain rfl := Option.some.inj h
  exact Reach.done ttok mix fk104 (p104_e_0 a0 a1) (obs_cons h0 obs_nil)
 ·rcases cond_inv h with ⟨h1, h⟩ | ⟨h1, h⟩
  ·obtain ⟨r1, h2, h⟩ := bind_inv h
   obtain ⟨h3, h⟩ := ite_inv h
   obtain rfl := Option.some.inj h
   exact Reach.done ttok mix fk104 (p104_e_1 a0 a1 r1) (obs_cons h0 (obs_cons h1 (obs_cons (xBY h2) (obs_cons h3 obs_nil))))
  ·obtain ⟨r1, h2, h⟩ := bind_inv h
   obtain ⟨r2, h3, h⟩ := bind_inv h
   obtain ⟨r3, h4, h⟩ := bind_inv h
   obtain ⟨r4, h5, h⟩ := bind_inv h
   obtain ⟨h6, h⟩ := ite_inv h
   obtain rfl := Option.some.inj h
   exact Reach.done ttok mix fk104 (p104_e_2 a0 a1 r1 r2 r3 r4) (obs_cons h0 (obs_cons h1 (obs_cons (xBY h2) (obs_cons (xBY h3) (obs_cons (xBY h4) (obs_cons (xBY h5) (obs_cons h6 obs_nil)))))))
theorem xAz {N : Nat} {a0 : Cur} {a1 : Int} {r : Int × Cur} (h : xAT N  a0 a1 = some r) : AbC 104 (xAp a0 a1) (xAd r) :=
 AbsCalls.of_reach fk104 rfl rfl (Nat.le_of_ble_eq_true rfl) (c104_e a0 a1 r h)
noncomputable def I103 : Info := { body := (Try.f103.body).getD .skip, nt := 9, results := [.tmp 4], keep := [0, 2, 8, 1], live := [], modes := [], ext := [0], lnt := [], casts := [], fcast := [] }
theorem fk103 : FnOk Try.prog 103 Try.f103 I103 := ⟨Try.func103, by kernel_rfl, by kernel_rfl, by kernel_rfl, by kernel_rfl⟩
theorem p103_e_0 (a0 : Cur) (a1 : Int) (r1 : Int × Cur) : run tt (AbsCalls Try.prog) I103 3000 false [.code I103.body] ⟨(zBm 0 (xBb a0 a1)), [], [xAd r1], []⟩ = some (.done (xAD (((r1.1 : Int) == 0), r1.2)) [AbC 104 (xAp a0 a1) (xAd r1)]) := by kernel_rfl
theorem c103_e {N : Nat} : ∀ a0 a1 r, xB4 N a0 a1 = some r → Reach Try.prog Try.f103 I103 [.code I103.body] (zBm 0 (xBb a0 a1)) (xAD r) := by
 intro a0 a1 r h
 unfold xB4 at h
 obtain ⟨r1, h0, h⟩ := bind_inv h
 obtain rfl := Option.some.inj h
 exact Reach.done ttok mix fk103 (p103_e_0 a0 a1 r1) (obs_cons (xAz h0) obs_nil)
theorem xBN {N : Nat} {a0 : Cur} {a1 : Int} {r : Bool × Cur} (h : xB4 N  a0 a1 = some r) : AbC 103 (xBb a0 a1) (xAD r) :=
 AbsCalls.of_reach fk103 rfl rfl (Nat.le_of_ble_eq_true rfl) (c103_e a0 a1 r h)
end Go.Ab.T
end
section
open Go.Proofs
namespace Go.Ab.T
set_option linter.unusedVariables false
set_option maxRecDepth 100000
noncomputable def I144 : Info := { body := (Try.f144.body).getD .skip, nt := 37, results := [.cell 2 60], keep := [0, 4, 6, 10, 24, 34, 36, 38, 40, 50, 1, 5, 7], live := [(5, [0, 4, 6, 34, 36, 38, 1, 5, 7])], modes := [(8, [(1, .take, false), (2, .take, false)]), (9, [(1, .take, false)]), (10, [(0, .take, false)])], ext := [0], lnt := [], casts := [], fcast := [] }
theorem fk144 : FnOk Try.prog 144 Try.f144 I144 := ⟨Try.func144, by kernel_rfl, by kernel_rfl, by kernel_rfl, by kernel_rfl⟩
def S144_5 (x17 : List Str) (x18 x19 : Int) (b0 : Cur) (b2 b3 : Wld) : St := [(0, .v false [.ptr 0 0]), (4, .v false [.ptr 2 0]), (6, .v false [.ptr 3 0]), (34, .v false [.sl .own .str x17]), (36, .v false [.int .i64 x18]), (38, .v false [.int .i64 x19]), (1, .v true [.sl .ro .byte (Cur.b b0), .int .i64 (Cur.i b0), .int .i64 (Cur.h b0)]), (5, .v true [.int .i64 (Wld.clock b2), .int .i64 (Wld.seed b2), .sl .own .fil (Wld.files b2)]), (7, .v true [.int .i64 (Wld.clock b3), .int .i64 (Wld.seed b3), .sl .own .fil (Wld.files b3)])]
theorem p144_5_0 (x17 : List Str) (x18 x19 : Int) (b0 : Cur) (b2 b3 : Wld) (r1 : Bool × Cur) (r2 : Int × Cur) : run tt (AbsCalls Try.prog) I144 3000 true (stkAt 5 I144.body) ⟨(S144_5 x17 x18 x19 b0 b2 b3), [true, true], [xAD r1, xAd r2], []⟩ = some (.stop (stkAt 5 I144.body) (S144_5 x17 x18 (IntKind.i64.wrap (x19 + 1)) r2.2 b2 (Wld.mk (Wld.clock b3) (Wld.seed b3) ((Wld.files b3) ++ [(Fil.mk (List.getD x17 (Int.toNat x19) Ty.str.dflt) r2.1)]))) [(decide ((x19 : Int) < x18)) = true, (0 : Int) ≤ x19 ∧ x19 < (List.length x17), AbC 103 (xBb b0 3) (xAD r1), (!r1.1) = true, AbC 104 (xAp r1.2 9) (xAd r2), List.length (Wld.files b3) + List.length [(Fil.mk (List.getD x17 (Int.toNat x19) Ty.str.dflt) r2.1)] ≤ Lim]) := by kernel_rfl
theorem p144_5_1 (x17 : List Str) (x18 x19 : Int) (b0 : Cur) (b2 b3 : Wld) (r1 : Bool × Cur) : run tt (AbsCalls Try.prog) I144 3000 true (stkAt 5 I144.body) ⟨(S144_5 x17 x18 x19 b0 b2 b3), [true, false], [xAD r1], []⟩ = some (.stop (stkAt 5 I144.body) (S144_5 x17 x18 (IntKind.i64.wrap (x19 + 1)) r1.2 b2 b3) [(decide ((x19 : Int) < x18)) = true, (0 : Int) ≤ x19 ∧ x19 < (List.length x17), AbC 103 (xBb b0 3) (xAD r1), (!r1.1) = false]) := by kernel_rfl
theorem p144_5_2 (x17 : List Str) (x18 x19 : Int) (b0 : Cur) (b2 b3 : Wld) : run tt (AbsCalls Try.prog) I144 3000 true (stkAt 5 I144.body) ⟨(S144_5 x17 x18 x19 b0 b2 b3), [false], [], []⟩ = some (.done (xAL (b3, b0)) [(decide ((x19 : Int) < x18)) = false]) := by kernel_rfl
theorem p144_e_3 (a0 : Cur) (r1 : Int × Cur) (r2 : Int × Cur) (r3 : Bool × Cur) (r4 : Int × Cur) : run tt (AbsCalls Try.prog) I144 3000 false [.code I144.body] ⟨(zBm 0 (xBe a0)), [true], [xAd r1, xAd r2, xAD r3, xAd r4], []⟩ = some (.stop (stkAt 5 I144.body) (S144_5 [[102], [103], [104]] (List.length [[102], [103], [104]] : Int) 0 r4.2 (Wld.mk 0 0 []) (Wld.mk (IntKind.i64.wrap (999 + r4.1)) r2.1 [])) [AbC 104 (xAp a0 20) (xAd r1), AbC 104 (xAp r1.2 1000) (xAd r2), AbC 103 (xBb r2.2 10) (xAD r3), r3.1 = true, AbC 104 (xAp r3.2 2) (xAd r4)]) := by kernel_rfl
theorem p144_e_4 (a0 : Cur) (r1 : Int × Cur) (r2 : Int × Cur) (r3 : Bool × Cur) : run tt (AbsCalls Try.prog) I144 3000 false [.code I144.body] ⟨(zBm 0 (xBe a0)), [false], [xAd r1, xAd r2, xAD r3], []⟩ = some (.stop (stkAt 5 I144.body) (S144_5 [[102], [103], [104]] (List.length [[102], [103], [104]] : Int) 0 r3.2 (Wld.mk 0 0 []) (Wld.mk r1.1 r2.1 [])) [AbC 104 (xAp a0 20) (xAd r1), AbC 104 (xAp r1.2 1000) (xAd r2), AbC 103 (xBb r2.2 10) (xAD r3), r3.1 = false]) := by kernel_rfl
theorem c144_5 {N : Nat} : ∀ n x17 x18 x19 b0 b2 b3 r, xAZ N n x17 x18 x19 b0 b2 b3 = some r → Reach Try.prog Try.f144 I144 (stkAt 5 I144.body) (S144_5 x17 x18 x19 b0 b2 b3) (xAL r) := by
 intro n
 induction n with
 | zero => intro x17 x18 x19 b0 b2 b3 r h; have h' : (none : Option (Wld × Cur)) = some r := h; cases h'
 | succ n ih =>
  intro x17 x18 x19 b0 b2 b3 r h
  rw [xAZ] at h
  rcases cond_inv h with ⟨h0, h⟩ | ⟨h0, h⟩
  ·obtain ⟨h1, h⟩ := ite_inv h
   obtain ⟨r1, h2, h⟩ := bind_inv h
   rcases cond_inv h with ⟨h3, h⟩ | ⟨h3, h⟩
   ·obtain ⟨r2, h4, h⟩ := bind_inv h
    obtain ⟨h5, h⟩ := ite_inv h
    exact Reach.stop ttok mix fk144 (p144_5_0 x17 x18 x19 b0 b2 b3 r1 r2) (obs_cons h0 (obs_cons h1 (obs_cons (xBN h2) (obs_cons h3 (obs_cons (xAz h4) (obs_cons h5 obs_nil)))))) (ih _ _ _ _ _ _ _ h)
   ·exact Reach.stop ttok mix fk144 (p144_5_1 x17 x18 x19 b0 b2 b3 r1) (obs_cons h0 (obs_cons h1 (obs_cons (xBN h2) (obs_cons h3 obs_nil)))) (ih _ _ _ _ _ _ _ h)
  ·obtain rfl := Option.some.inj h
   exact Reach.done ttok mix fk144 (p144_5_2 x17 x18 x19 b0 b2 b3) (obs_cons h0 obs_nil)
theorem c144_e {N : Nat} : ∀ a0 r, xCh N a0 = some r → Reach Try.prog Try.f144 I144 [.code I144.body] (zBm 0 (xBe a0)) (xAL r) := by
 intro a0 r h
 unfold xCh at h
 obtain ⟨r1, h0, h⟩ := bind_inv h
 obtain ⟨r2, h1, h⟩ := bind_inv h
 obtain ⟨r3, h2, h⟩ := bind_inv h
 rcases cond_inv h with ⟨h3, h⟩ | ⟨h3, h⟩
 ·obtain ⟨r4, h4, h⟩ := bind_inv h
  exact Reach.stop ttok mix fk144 (p144_e_3 a0 r1 r2 r3 r4) (obs_cons (xAz h0) (obs_cons (xAz h1) (obs_cons (xBN h2) (obs_cons h3 (obs_cons (xAz h4) obs_nil))))) (c144_5   _ _ _ _ _ _ _ _ h)
 ·exact Reach.stop ttok mix fk144 (p144_e_4 a0 r1 r2 r3) (obs_cons (xAz h0) (obs_cons (xAz h1) (obs_cons (xBN h2) (obs_cons h3 obs_nil)))) (c144_5   _ _ _ _ _ _ _ _ h)
theorem xCa {N : Nat} {a0 : Cur} {r : Wld × Cur} (h : xCh N  a0 = some r) : AbC 144 (xBe a0) (xAL r) :=
 AbsCalls.of_reach fk144 rfl rfl (Nat.le_of_ble_eq_true rfl) (c144_e a0 r h)
noncomputable def I145 : Info := { body := (Try.f145.body).getD .skip, nt := 12, results := [.tmp 4], keep := [0, 2, 8, 1], live := [], modes := [], ext := [0], lnt := [], casts := [], fcast := [] }
theorem fk145 : FnOk Try.prog 145 Try.f145 I145 := ⟨Try.func145, by kernel_rfl, by kernel_rfl, by kernel_rfl, by kernel_rfl⟩
theorem p145_e_0 (a0 : Cur) (a1 : List Int) (r1 : Int × Cur) : run tt (AbsCalls Try.prog) I145 3000 false [.code I145.body] ⟨(zBm 0 (xBE a0 a1)), [], [xAd r1], []⟩ = some (.done (xA9 ((List.getD a1 (Int.toNat r1.1) Ty.int.dflt), r1.2)) [AbC 104 (xAp a0 (List.length a1 : Int)) (xAd r1), (0 : Int) ≤ r1.1 ∧ r1.1 < (List.length a1)]) := by kernel_rfl
theorem c145_e {N : Nat} : ∀ a0 a1 r, xBO N a0 a1 = some r → Reach Try.prog Try.f145 I145 [.code I145.body] (zBm 0 (xBE a0 a1)) (xA9 r) := by
 intro a0 a1 r h
 unfold xBO at h
 obtain ⟨r1, h0, h⟩ := bind_inv h
 obtain ⟨h1, h⟩ := ite_inv h
 obtain rfl := Option.some.inj h
 exact Reach.done ttok mix fk145 (p145_e_0 a0 a1 r1) (obs_cons (xAz h0) (obs_cons h1 obs_nil))
theorem xCz {N : Nat} {a0 : Cur} {a1 : List Int} {r : Int × Cur} (h : xBO N  a0 a1 = some r) : AbC 145 (xBE a0 a1) (xA9 r) :=
 AbsCalls.of_reach fk145 rfl rfl (Nat.le_of_ble_eq_true rfl) (c145_e a0 a1 r h)
noncomputable def I96 : Info := { body := (Try.f96.body).getD .skip, nt := 12, results := [.tmp 4], keep := [0, 2, 8, 1], live := [], modes := [], ext := [0], lnt := [], casts := [], fcast := [] }
theorem fk96 : FnOk Try.prog 96 Try.f96 I96 := ⟨Try.func96, by kernel_rfl, by kernel_rfl, by kernel_rfl, by kernel_rfl⟩
theorem p96_e_0 (a0 : Cur) (a1 : List Str) (r1 : Int × Cur) : run tt (AbsCalls Try.prog) I96 3000 false [.code I96.body] ⟨(zBm 0 (xBZ a0 a1)), [], [xAd r1], []⟩ = some (.done (xBz ((List.getD a1 (Int.toNat r1.1) Ty.str.dflt), r1.2)) [AbC 104 (xAp a0 (List.length a1 : Int)) (xAd r1), (0 : Int) ≤ r1.1 ∧ r1.1 < (List.length a1)]) := by kernel_rfl
theorem c96_e {N : Nat} : ∀ a0 a1 r, xCe N a0 a1 = some r → Reach Try.prog Try.f96 I96 [.code I96.body] (zBm 0 (xBZ a0 a1)) (xBz r) := by
 intro a0 a1 r h
 unfold xCe at h
 obtain ⟨r1, h0, h⟩ := bind_inv h
 obtain ⟨h1, h⟩ := ite_inv h
 obtain rfl := Option.some.inj h
 exact Reach.done ttok mix fk96 (p96_e_0 a0 a1 r1) (obs_cons (xAz h0) (obs_cons h1 obs_nil))
theorem xCM {N : Nat} {a0 : Cur} {a1 : List Str} {r : Str × Cur} (h : xCe N  a0 a1 = some r) : AbC 96 (xBZ a0 a1) (xBz r) :=
 AbsCalls.of_reach fk96 rfl rfl (Nat.le_of_ble_eq_true rfl) (c96_e a0 a1 r h)
noncomputable def I95 : Info := { body := (Try.f95.body).getD .skip, nt := 29, results := [.cell 2 60], keep := [0, 4, 6, 14, 16, 28, 50, 1, 5, 7], live := [], modes := [(4, [(1, .cp, true)]), (6, [(1, .take, false), (3, .cp, true)]), (9, [(0, .take, false)])], ext := [0], lnt := [], casts := [], fcast := [] }
theorem fk95 : FnOk Try.prog 95 Try.f95 I95 := ⟨Try.func95, by kernel_rfl, by kernel_rfl, by kernel_rfl, by kernel_rfl⟩
theorem p95_e_0 (a0 : Cur) (r1 : Wld × Cur) (r2 : Int × Cur) (r3 : Int × Cur) : run tt (AbsCalls Try.prog) I95 3000 false [.code I95.body] ⟨(zBm 0 (xBn a0)), [true], [xAL r1, xAd r2, xA9 r3], []⟩ = some (.done (xBc ((Wld.mk r3.1 (Wld.seed r1.1) (Wld.files r1.1)), r3.2)) [AbC 144 (xBe a0) (xAL r1), AbC 104 (xAp r1.2 10) (xAd r2), ((r2.1 : Int) == 0) = true, AbC 145 (xBE r2.2 [(-1), 1001, 9223372036854775807]) (xA9 r3)]) := by kernel_rfl
theorem p95_e_1 (a0 : Cur) (r1 : Wld × Cur) (r2 : Int × Cur) (r3 : Str × Cur) : run tt (AbsCalls Try.prog) I95 3000 false [.code I95.body] ⟨(zBm 0 (xBn a0)), [false, true], [xAL r1, xAd r2, xBz r3], []⟩ = some (.done (xBc ((Wld.mk (Wld.clock r1.1) (Wld.seed r1.1) ((Wld.files r1.1) ++ [(Fil.mk r3.1 2000000000)])), r3.2)) [AbC 144 (xBe a0) (xAL r1), AbC 104 (xAp r1.2 10) (xAd r2), ((r2.1 : Int) == 0) = false, ((r2.1 : Int) == 1) = true, AbC 96 (xBZ r2.2 [[102], [122], [108, 101, 116]]) (xBz r3), List.length (Wld.files r1.1) + List.length [(Fil.mk r3.1 2000000000)] ≤ Lim]) := by kernel_rfl
theorem p95_e_2 (a0 : Cur) (r1 : Wld × Cur) (r2 : Int × Cur) : run tt (AbsCalls Try.prog) I95 3000 false [.code I95.body] ⟨(zBm 0 (xBn a0)), [false, false, true], [xAL r1, xAd r2], []⟩ = some (.done (xBc ((Wld.mk (Wld.clock r1.1) 1000001 (Wld.files r1.1)), r2.2)) [AbC 144 (xBe a0) (xAL r1), AbC 104 (xAp r1.2 10) (xAd r2), ((r2.1 : Int) == 0) = false, ((r2.1 : Int) == 1) = false, ((r2.1 : Int) == 2) = true]) := by kernel_rfl
theorem p95_e_3 (a0 : Cur) (r1 : Wld × Cur) (r2 : Int × Cur) : run tt (AbsCalls Try.prog) I95 3000 false [.code I95.body] ⟨(zBm 0 (xBn a0)), [false, false, false], [xAL r1, xAd r2], []⟩ = some (.done (xBc (r1.1, r2.2)) [AbC 144 (xBe a0) (xAL r1), AbC 104 (xAp r1.2 10) (xAd r2), ((r2.1 : Int) == 0) = false, ((r2.1 : Int) == 1) = false, ((r2.1 : Int) == 2) = false]) := by kernel_rfl
theorem c95_e {N : Nat} : ∀ a0 r, xCg N a0 = some r → Reach Try.prog Try.f95 I95 [.code I95.body] (zBm 0 (xBn a0)) (xBc r) := by
 intro a0 r h
 unfold xCg at h
 obtain ⟨r1, h0, h⟩ := bind_inv h
 obtain ⟨r2, h1, h⟩ := bind_inv h
 rcases cond_inv h with ⟨h2, h⟩ | ⟨h2, h⟩
 ·obtain ⟨r3, h3, h⟩ := bind_inv h
  obtain rfl := Option.some.inj h
  exact Reach.done ttok mix fk95 (p95_e_0 a0 r1 r2 r3) (obs_cons (xCa h0) (obs_cons (xAz h1) (obs_cons h2 (obs_cons (xCz h3) obs_nil))))
 ·rcases cond_inv h with ⟨h3, h⟩ | ⟨h3, h⟩
  ·obtain ⟨r3, h4, h⟩ := bind_inv h
   obtain ⟨h5, h⟩ := ite_inv h
   obtain rfl := Option.some.inj h
   exact Reach.done ttok mix fk95 (p95_e_1 a0 r1 r2 r3) (obs_cons (xCa h0) (obs_cons (xAz h1) (obs_cons h2 (obs_cons h3 (obs_cons (xCM h4) (obs_cons h5 obs_nil))))))
  ·rcases cond_inv h with ⟨h4, h⟩ | ⟨h4, h⟩
   ·obtain rfl := Option.some.inj h
    exact Reach.done ttok mix fk95 (p95_e_2 a0 r1 r2) (obs_cons (xCa h0) (obs_cons (xAz h1) (obs_cons h2 (obs_cons h3 (obs_cons h4 obs_nil)))))
   ·obtain rfl := Option.some.inj h
    exact Reach.done ttok mix fk95 (p95_e_3 a0 r1 r2) (obs_cons (xCa h0) (obs_cons (xAz h1) (obs_cons h2 (obs_cons h3 (obs_cons h4 obs_nil)))))
theorem spec_l14Bent_ok {N : Nat} {a0 : Cur} {r : Wld × Cur} (h : xCg N  a0 = some r) : AbC 95 (xBn a0) (xBc r) :=
 AbsCalls.of_reach fk95 rfl rfl (Nat.le_of_ble_eq_true rfl) (c95_e a0 r h)
noncomputable def I97 : Info := { body := (Try.f97.body).getD .skip, nt := 11, results := [.tmp 2], keep := [0, 4, 8, 1], live := [], modes := [(2, [(1, .cp, true)])], ext := [0], lnt := [], casts := [], fcast := [] }
theorem fk97 : FnOk Try.prog 97 Try.f97 I97 := ⟨Try.func97, by kernel_rfl, by kernel_rfl, by kernel_rfl, by kernel_rfl⟩
theorem p97_e_0 (a0 : Cur) (r1 : Bool × Cur) (r2 : Int × Cur) : run tt (AbsCalls Try.prog) I97 3000 false [.code I97.body] ⟨(zBm 0 (xCc a0)), [true], [xAD r1, xA9 r2], []⟩ = some (.done (xBV (r2.1, r2.2)) [AbC 103 (xBb a0 12) (xAD r1), r1.1 = true, AbC 145 (xBE r1.2 [1000000000, (-1000000000), 999999999, 500000000, 40000]) (xA9 r2)]) := by kernel_rfl
theorem p97_e_1 (a0 : Cur) (r1 : Bool × Cur) (r2 : Int × Cur) : run tt (AbsCalls Try.prog) I97 3000 false [.code I97.body] ⟨(zBm 0 (xCc a0)), [false], [xAD r1, xAd r2], []⟩ = some (.done (xBV ((IntKind.i64.wrap (r2.1 - 3)), r2.2)) [AbC 103 (xBb a0 12) (xAD r1), r1.1 = false, AbC 104 (xAp r1.2 12) (xAd r2)]) := by kernel_rfl
theorem c97_e {N : Nat} : ∀ a0 r, xCA N a0 = some r → Reach Try.prog Try.f97 I97 [.code I97.body] (zBm 0 (xCc a0)) (xBV r) := by
 intro a0 r h
 unfold xCA at h
 obtain ⟨r1, h0, h⟩ := bind_inv h
 rcases cond_inv h with ⟨h1, h⟩ | ⟨h1, h⟩
 ·obtain ⟨r2, h2, h⟩ := bind_inv h
  obtain rfl := Option.some.inj h
  exact Reach.done ttok mix fk97 (p97_e_0 a0 r1 r2) (obs_cons (xBN h0) (obs_cons h1 (obs_cons (xCz h2) obs_nil)))
 ·obtain ⟨r2, h2, h⟩ := bind_inv h
  obtain rfl := Option.some.inj h
  exact Reach.done ttok mix fk97 (p97_e_1 a0 r1 r2) (obs_cons (xBN h0) (obs_cons h1 (obs_cons (xAz h2) obs_nil)))
theorem spec_l3Num_ok {N : Nat} {a0 : Cur} {r : Int × Cur} (h : xCA N  a0 = some r) : AbC 97 (xCc a0) (xBV r) :=
 AbsCalls.of_reach fk97 rfl rfl (Nat.le_of_ble_eq_true rfl) (c97_e a0 r h)
noncomputable def I30 : Info := { body := (Try.f30.body).getD .skip, nt := 15, results := [.cell 2 60, .tmp 3, .tmp 4], keep := [0, 4, 6, 8, 10, 5, 15], live := [], modes := [], ext := [], lnt := [], casts := [], fcast := [] }
theorem fk30 : FnOk Try.prog 30 Try.f30 I30 := ⟨Try.func30, by kernel_rfl, by kernel_rfl, by kernel_rfl, by kernel_rfl⟩
theorem p30_e_0 (a0 : List Int) (r1 : Cur) (r2 : Wld × Cur) (r3 : Str × Cur) (r4 : Int × Cur) : run tt (AbsCalls Try.prog) I30 3000 false [.code I30.body] ⟨(zBm 0 (xAB a0)), [], [xBK r1, xBc r2, xBz r3, xBV r4], []⟩ = some (.done (xAj (r2.1, r3.1, r4.1)) [AbC 94 (xCm a0) (xBK r1), AbC 95 (xBn r1) (xBc r2), AbC 96 (xBZ r2.2 [[102], [103], [104], [97], [122], [107], [108, 101, 116]]) (xBz r3), AbC 97 (xCc r3.2) (xBV r4)]) := by kernel_rfl
theorem c30_e {N : Nat} : ∀ a0 r, xBL N a0 = some r → Reach Try.prog Try.f30 I30 [.code I30.body] (zBm 0 (xAB a0)) (xAj r) := by
 intro a0 r h
 unfold xBL at h
 obtain ⟨r1, h0, h⟩ := bind_inv h
 obtain ⟨r2, h1, h⟩ := bind_inv h
 obtain ⟨r3, h2, h⟩ := bind_inv h
 obtain ⟨r4, h3, h⟩ := bind_inv h
 obtain rfl := Option.some.inj h
 exact Reach.done ttok mix fk30 (p30_e_0 a0 r1 r2 r3 r4) (obs_cons (spec_l1New_ok h0) (obs_cons (spec_l14Bent_ok h1) (obs_cons (xCM h2) (obs_cons (spec_l3Num_ok h3) obs_nil))))
theorem xA2 {N : Nat} {a0 : List Int} {r : Wld × Str × Int} (h : xBL N  a0 = some r) : AbC 30 (xAB a0) (xAj r) :=
 AbsCalls.of_reach fk30 rfl rfl (Nat.le_of_ble_eq_true rfl) (c30_e a0 r h)
noncomputable def I33 : Info := { body := (Try.f33.body).getD .skip, nt := 54, results := [.tmp 2], keep := [0, 2, 4, 6, 8, 12, 14, 16, 18, 76, 3, 9], live := [(2, [2, 12, 14, 16, 3])], modes := [(4, [(4, .take, false), (10, .take, false), (13, .take, false)]), (6, [(1, .take, false)]), (7, [(3, .take, false), (8, .take, false)])], ext := [], lnt := [], casts := [], fcast := [] }
theorem fk33 : FnOk Try.prog 33 Try.f33 I33 := ⟨Try.func33, by kernel_rfl, by kernel_rfl, by kernel_rfl, by kernel_rfl⟩
def S33_2 (x6 : List Fil) (x7 x8 : Int) (b1 : Wld) : St := [(2, .v false [.ptr 1 0]), (12, .v false [.sl .ro .fil x6]), (14, .v false [.int .i64 x7]), (16, .v false [.int .i64 x8]), (3, .v true [.int .i64 (Wld.clock b1), .int .i64 (Wld.seed b1), .sl .ro .fil (Wld.files b1)])]
theorem p33_2_0 (x6 : List Fil) (x7 x8 : Int) (b1 : Wld) (r1 : Bool) : run tt (AbsCalls Try.prog) I33 3000 true (stkAt 2 I33.body) ⟨(S33_2 x6 x7 x8 b1), [true, true, true, true], [xAo r1], []⟩ = some (.done (xAa false) [(decide ((x8 : Int) < x7)) = true, (0 : Int) ≤ x8 ∧ x8 < (List.length x6), AbC 88 (xAI (Fil.name (List.getD x6 (Int.toNat x8) Ty.fil.dflt))) (xAo r1), (!r1) = true, true = true, true = true]) := by kernel_rfl
theorem p33_2_1 (x6 : List Fil) (x7 x8 : Int) (b1 : Wld) (r1 r2 : Bool) : run tt (AbsCalls Try.prog) I33 3000 true (stkAt 2 I33.body) ⟨(S33_2 x6 x7 x8 b1), [true, false, true, true], [xAo r1, xAK r2], []⟩ = some (.done (xAa false) [(decide ((x8 : Int) < x7)) = true, (0 : Int) ≤ x8 ∧ x8 < (List.length x6), AbC 88 (xAI (Fil.name (List.getD x6 (Int.toNat x8) Ty.fil.dflt))) (xAo r1), (!r1) = false, AbC 90 (xBf (Fil.n (List.getD x6 (Int.toNat x8) Ty.fil.dflt))) (xAK r2), (!r2) = true, true = true]) := by kernel_rfl
theorem p33_2_2 (x6 : List Fil) (x7 x8 : Int) (b1 : Wld) (r1 r2 : Bool) : run tt (AbsCalls Try.prog) I33 3000 true (stkAt 2 I33.body) ⟨(S33_2 x6 x7 x8 b1), [true, false, false, true, true], [xAo r1, xAK r2], []⟩ = some (.done (xAa false) [(decide ((x8 : Int) < x7)) = true, (0 : Int) ≤ x8 ∧ x8 < (List.length x6), AbC 88 (xAI (Fil.name (List.getD x6 (Int.toNat x8) Ty.fil.dflt))) (xAo r1), (!r1) = false, AbC 90 (xBf (Fil.n (List.getD x6 (Int.toNat x8) Ty.fil.dflt))) (xAK r2), (!r2) = false, (decide ((x8 : Int) > 0)) = true, (0 : Int) ≤ (IntKind.i64.wrap (x8 - 1)) ∧ (IntKind.i64.wrap (x8 - 1)) < (List.length (Wld.files b1)), (!(Op.bytesLess (Fil.name (List.getD (Wld.files b1) (Int.toNat (IntKind.i64.wrap (x8 - 1))) Ty.fil.dflt)) (Fil.name (List.getD x6 (Int.toNat x8) Ty.fil.dflt)))) = true]) := by kernel_rfl
theorem p33_2_3 (x6 : List Fil) (x7 x8 : Int) (b1 : Wld) (r1 r2 : Bool) : run tt (AbsCalls Try.prog) I33 3000 true (stkAt 2 I33.body) ⟨(S33_2 x6 x7 x8 b1), [true, false, false, true, false], [xAo r1, xAK r2], []⟩ = some (.stop (stkAt 2 I33.body) (S33_2 x6 x7 (IntKind.i64.wrap (x8 + 1)) b1) [(decide ((x8 : Int) < x7)) = true, (0 : Int) ≤ x8 ∧ x8 < (List.length x6), AbC 88 (xAI (Fil.name (List.getD x6 (Int.toNat x8) Ty.fil.dflt))) (xAo r1), (!r1) = false, AbC 90 (xBf (Fil.n (List.getD x6 (Int.toNat x8) Ty.fil.dflt))) (xAK r2), (!r2) = false, (decide ((x8 : Int) > 0)) = true, (0 : Int) ≤ (IntKind.i64.wrap (x8 - 1)) ∧ (IntKind.i64.wrap (x8 - 1)) < (List.length (Wld.files b1)), (!(Op.bytesLess (Fil.name (List.getD (Wld.files b1) (Int.toNat (IntKind.i64.wrap (x8 - 1))) Ty.fil.dflt)) (Fil.name (List.getD x6 (Int.toNat x8) Ty.fil.dflt)))) = false]) := by kernel_rfl
theorem p33_2_4 (x6 : List Fil) (x7 x8 : Int) (b1 : Wld) (r1 r2 : Bool) : run tt (AbsCalls Try.prog) I33 3000 true (stkAt 2 I33.body) ⟨(S33_2 x6 x7 x8 b1), [true, false, false, false, false], [xAo r1, xAK r2], []⟩ = some (.stop (stkAt 2 I33.body) (S33_2 x6 x7 (IntKind.i64.wrap (x8 + 1)) b1) [(decide ((x8 : Int) < x7)) = true, (0 : Int) ≤ x8 ∧ x8 < (List.length x6), AbC 88 (xAI (Fil.name (List.getD x6 (Int.toNat x8) Ty.fil.dflt))) (xAo r1), (!r1) = false, AbC 90 (xBf (Fil.n (List.getD x6 (Int.toNat x8) Ty.fil.dflt))) (xAK r2), (!r2) = false, (decide ((x8 : Int) > 0)) = false, false = false]) := by kernel_rfl
theorem p33_2_5 (x6 : List Fil) (x7 x8 : Int) (b1 : Wld) (r1 r2 : Bool) : run tt (AbsCalls Try.prog) I33 3000 true (stkAt 2 I33.body) ⟨(S33_2 x6 x7 x8 b1), [false, true, true], [xAr r1, xAr r2], []⟩ = some (.done (xAa (decide (((List.length (Wld.files b1) : Int) : Int) ≤ 4))) [(decide ((x8 : Int) < x7)) = false, AbC 101 (xAW (Wld.clock b1) 0 1000) (xAr r1), r1 = true, AbC 101 (xAW (Wld.seed b1) 0 1000000) (xAr r2), r2 = true]) := by kernel_rfl
theorem p33_2_6 (x6 : List Fil) (x7 x8 : Int) (b1 : Wld) (r1 r2 : Bool) : run tt (AbsCalls Try.prog) I33 3000 true (stkAt 2 I33.body) ⟨(S33_2 x6 x7 x8 b1), [false, true, false], [xAr r1, xAr r2], []⟩ = some (.done (xAa false) [(decide ((x8 : Int) < x7)) = false, AbC 101 (xAW (Wld.clock b1) 0 1000) (xAr r1), r1 = true, AbC 101 (xAW (Wld.seed b1) 0 1000000) (xAr r2), r2 = false]) := by kernel_rfl
theorem p33_2_7 (x6 : List Fil) (x7 x8 : Int) (b1 : Wld) (r1 : Bool) : run tt (AbsCalls Try.prog) I33 3000 true (stkAt 2 I33.body) ⟨(S33_2 x6 x7 x8 b1), [false, false, false], [xAr r1], []⟩ = some (.done (xAa false) [(decide ((x8 : Int) < x7)) = false, AbC 101 (xAW (Wld.clock b1) 0 1000) (xAr r1), r1 = false, false = false]) := by kernel_rfl
theorem p33_e_8 (a0 : Wld) : run tt (AbsCalls Try.prog) I33 3000 false [.code I33.body] ⟨(zBm 0 (xAf a0)), [], [], []⟩ = some (.stop (stkAt 2 I33.body) (S33_2 (Wld.files a0) (List.length (Wld.files a0) : Int) 0 a0) []) := by kernel_rfl
theorem c33_2 {N : Nat} : ∀ n x6 x7 x8 b1 r, xAs N n x6 x7 x8 b1 = some r → Reach Try.prog Try.f33 I33 (stkAt 2 I33.body) (S33_2 x6 x7 x8 b1) (xAa r) := by
 intro n
 induction n with
 | zero => intro x6 x7 x8 b1 r h; have h' : (none : Option (Bool)) = some r := h; cases h'
 | succ n ih =>
  intro x6 x7 x8 b1 r h
  rw [xAs] at h
  rcases cond_inv h with ⟨h0, h⟩ | ⟨h0, h⟩
  ·obtain ⟨h1, h⟩ := ite_inv h
   obtain ⟨r1, h2, h⟩ := bind_inv h
   rcases cond_inv h with ⟨h3, h⟩ | ⟨h3, h⟩
   ·obtain rfl := Option.some.inj h
    exact Reach.done ttok mix fk33 (p33_2_0 x6 x7 x8 b1 r1) (obs_cons h0 (obs_cons h1 (obs_cons (xBi h2) (obs_cons h3 (obs_cons rfl (obs_cons rfl obs_nil))))))
   ·obtain ⟨r2, h4, h⟩ := bind_inv h
    rcases cond_inv h with ⟨h5, h⟩ | ⟨h5, h⟩
    ·obtain rfl := Option.some.inj h
     exact Reach.done ttok mix fk33 (p33_2_1 x6 x7 x8 b1 r1 r2) (obs_cons h0 (obs_cons h1 (obs_cons (xBi h2) (obs_cons h3 (obs_cons (xB0 h4) (obs_cons h5 (obs_cons rfl obs_nil)))))))
    ·rcases cond_inv h with ⟨h6, h⟩ | ⟨h6, h⟩
     ·obtain ⟨h7, h⟩ := ite_inv h
      rcases cond_inv h with ⟨h8, h⟩ | ⟨h8, h⟩
      ·obtain rfl := Option.some.inj h
       exact Reach.done ttok mix fk33 (p33_2_2 x6 x7 x8 b1 r1 r2) (obs_cons h0 (obs_cons h1 (obs_cons (xBi h2) (obs_cons h3 (obs_cons (xB0 h4) (obs_cons h5 (obs_cons h6 (obs_cons h7 (obs_cons h8 obs_nil)))))))))
      ·exact Reach.stop ttok mix fk33 (p33_2_3 x6 x7 x8 b1 r1 r2) (obs_cons h0 (obs_cons h1 (obs_cons (xBi h2) (obs_cons h3 (obs_cons (xB0 h4) (obs_cons h5 (obs_cons h6 (obs_cons h7 (obs_cons h8 obs_nil))))))))) (ih _ _ _ _ _ h)
     ·exact Reach.stop ttok mix fk33 (p33_2_4 x6 x7 x8 b1 r1 r2) (obs_cons h0 (obs_cons h1 (obs_cons (xBi h2) (obs_cons h3 (obs_cons (xB0 h4) (obs_cons h5 (obs_cons h6 (obs_cons rfl obs_nil)))))))) (ih _ _ _ _ _ h)
  ·obtain ⟨r1, h1, h⟩ := bind_inv h
   rcases cond_inv h with ⟨h2, h⟩ | ⟨h2, h⟩
   ·obtain ⟨r2, h3, h⟩ := bind_inv h
    rcases cond_inv h with ⟨h4, h⟩ | ⟨h4, h⟩
    ·obtain rfl := Option.some.inj h
     exact Reach.done ttok mix fk33 (p33_2_5 x6 x7 x8 b1 r1 r2) (obs_cons h0 (obs_cons (xBx h1) (obs_cons h2 (obs_cons (xBx h3) (obs_cons h4 obs_nil)))))
    ·obtain rfl := Option.some.inj h
     exact Reach.done ttok mix fk33 (p33_2_6 x6 x7 x8 b1 r1 r2) (obs_cons h0 (obs_cons (xBx h1) (obs_cons h2 (obs_cons (xBx h3) (obs_cons h4 obs_nil)))))
   ·obtain rfl := Option.some.inj h
    exact Reach.done ttok mix fk33 (p33_2_7 x6 x7 x8 b1 r1) (obs_cons h0 (obs_cons (xBx h1) (obs_cons h2 (obs_cons rfl obs_nil))))
theorem c33_e {N : Nat} : ∀ a0 r, xAE N a0 = some r → Reach Try.prog Try.f33 I33 [.code I33.body] (zBm 0 (xAf a0)) (xAa r) := by
 intro a0 r h
 unfold xAE at h
 exact Reach.stop ttok mix fk33 (p33_e_8 a0) obs_nil (c33_2   _ _ _ _ _ _ h)
theorem xAi {N : Nat} {a0 : Wld} {r : Bool} (h : xAE N  a0 = some r) : AbC 33 (xAf a0) (xAa r) :=
 AbsCalls.of_reach fk33 rfl rfl (Nat.le_of_ble_eq_true rfl) (c33_e a0 r h)
noncomputable def I98 : Info := { body := (Try.f98.body).getD .skip, nt := 9, results := [.cell 2 60], keep := [0, 2, 4, 3, 5], live := [], modes := [(2, [(0, .take, false)])], ext := [], lnt := [], casts := [], fcast := [] }
theorem fk98 : FnOk Try.prog 98 Try.f98 I98 := ⟨Try.func98, by kernel_rfl, by kernel_rfl, by kernel_rfl, by kernel_rfl⟩
theorem p98_e_0 (a0 : Wld) : run tt (AbsCalls Try.prog) I98 3000 false [.code I98.body] ⟨(zBm 0 (xAO a0)), [], [], []⟩ = some (.done (xAn (Wld.mk (Wld.clock a0) (Wld.seed a0) ([] ++ (Wld.files a0)))) [0 + List.length (Wld.files a0) ≤ Lim]) := by kernel_rfl
theorem c98_e {N : Nat} : ∀ a0 r, xAV N a0 = some r → Reach Try.prog Try.f98 I98 [.code I98.body] (zBm 0 (xAO a0)) (xAn r) := by
 intro a0 r h
 unfold xAV at h
 obtain ⟨h0, h⟩ := ite_inv h
 obtain rfl := Option.some.inj h
 exact Reach.done ttok mix fk98 (p98_e_0 a0) (obs_cons h0 obs_nil)
theorem xA7 {N : Nat} {a0 : Wld} {r : Wld} (h : xAV N  a0 = some r) : AbC 98 (xAO a0) (xAn r) :=
 AbsCalls.of_reach fk98 rfl rfl (Nat.le_of_ble_eq_true rfl) (c98_e a0 r h)
noncomputable def I31 : Info := { body := (Try.f31.body).getD .skip, nt := 78, results := [.cell 6 60, .tmp 7], keep := [0, 2, 4, 6, 12, 14, 16, 18, 24, 62, 96, 148, 7, 13, 17], live := [(5, [2, 4, 6, 12, 16, 18, 7, 13, 17])], modes := [(5, [(5, .take, false)]), (7, [(5, .take, false)]), (8, [(1, .ref, false)]), (12, [(0, .take, false)])], ext := [], lnt := [], casts := [], fcast := [] }
theorem fk31 : FnOk Try.prog 31 Try.f31 I31 := ⟨Try.func31, by kernel_rfl, by kernel_rfl, by kernel_rfl, by kernel_rfl⟩
def S31_5 (x1 : Str) (x2 x9 : Int) (b3 b6 b8 : Wld) : St := [(2, .v false [.str x1]), (4, .v false [.int .i64 x2]), (6, .v false [.ptr 3 0]), (12, .v false [.ptr 6 0]), (16, .v false [.ptr 8 0]), (18, .v false [.int .i64 x9]), (7, .v true [.int .i64 (Wld.clock b3), .int .i64 (Wld.seed b3), .sl .ro .fil (Wld.files b3)]), (13, .v true [.int .i64 (Wld.clock b6), .int .i64 (Wld.seed b6), .sl .own .fil (Wld.files b6)]), (17, .v true [.int .i64 (Wld.clock b8), .int .i64 (Wld.seed b8), .sl .own .fil (Wld.files b8)])]
theorem p31_5_0 (x1 : Str) (x2 x9 : Int) (b3 b6 b8 : Wld) : run tt (AbsCalls Try.prog) I31 3000 true (stkAt 5 I31.body) ⟨(S31_5 x1 x2 x9 b3 b6 b8), [true, true], [], []⟩ = some (.stop (stkAt 5 I31.body) (S31_5 x1 x2 (IntKind.i64.wrap (x9 + 1)) b3 b6 b8) [(decide ((x9 : Int) < (List.length (Wld.files b3) : Int))) = true, (0 : Int) ≤ x9 ∧ x9 < (List.length (Wld.files b3)), (Op.bytesLess (Fil.name (List.getD (Wld.files b3) (Int.toNat x9) Ty.fil.dflt)) x1) = true]) := by kernel_rfl
theorem p31_5_1 (x1 : Str) (x2 x9 : Int) (b3 b6 b8 : Wld) (r1 : Bool) (r2 : Wld) : run tt (AbsCalls Try.prog) I31 3000 true (stkAt 5 I31.body) ⟨(S31_5 x1 x2 x9 b3 b6 b8), [true, false, true, true, true], [xAa r1, xAn r2], []⟩ = some (.done (xAh (r2, false)) [(decide ((x9 : Int) < (List.length (Wld.files b3) : Int))) = true, (0 : Int) ≤ x9 ∧ x9 < (List.length (Wld.files b3)), (Op.bytesLess (Fil.name (List.getD (Wld.files b3) (Int.toNat x9) Ty.fil.dflt)) x1) = false, (decide ((x9 : Int) < (List.length (Wld.files b3) : Int))) = true, (0 : Int) ≤ x9 ∧ x9 < (List.length (Wld.files b3)), (((Fil.name (List.getD (Wld.files b3) (Int.toNat x9) Ty.fil.dflt)) : Str) == x1) = true, (0 : Int) ≤ x9 ∧ x9 < (List.length (Wld.files b8)), AbC 33 (xAf (Wld.mk (Wld.clock b8) (Wld.seed b8) (List.set (Wld.files b8) (Int.toNat x9) (Fil.mk (Fil.name (List.getD (Wld.files b8) (Int.toNat x9) Ty.fil.dflt)) x2)))) (xAa r1), (!r1) = true, AbC 98 (xAO b3) (xAn r2)]) := by kernel_rfl
theorem p31_5_2 (x1 : Str) (x2 x9 : Int) (b3 b6 b8 : Wld) (r1 : Bool) : run tt (AbsCalls Try.prog) I31 3000 true (stkAt 5 I31.body) ⟨(S31_5 x1 x2 x9 b3 b6 b8), [true, false, true, true, false], [xAa r1], []⟩ = some (.done (xAh ((Wld.mk (Wld.clock b8) (Wld.seed b8) (List.set (Wld.files b8) (Int.toNat x9) (Fil.mk (Fil.name (List.getD (Wld.files b8) (Int.toNat x9) Ty.fil.dflt)) x2))), true)) [(decide ((x9 : Int) < (List.length (Wld.files b3) : Int))) = true, (0 : Int) ≤ x9 ∧ x9 < (List.length (Wld.files b3)), (Op.bytesLess (Fil.name (List.getD (Wld.files b3) (Int.toNat x9) Ty.fil.dflt)) x1) = false, (decide ((x9 : Int) < (List.length (Wld.files b3) : Int))) = true, (0 : Int) ≤ x9 ∧ x9 < (List.length (Wld.files b3)), (((Fil.name (List.getD (Wld.files b3) (Int.toNat x9) Ty.fil.dflt)) : Str) == x1) = true, (0 : Int) ≤ x9 ∧ x9 < (List.length (Wld.files b8)), AbC 33 (xAf (Wld.mk (Wld.clock b8) (Wld.seed b8) (List.set (Wld.files b8) (Int.toNat x9) (Fil.mk (Fil.name (List.getD (Wld.files b8) (Int.toNat x9) Ty.fil.dflt)) x2)))) (xAa r1), (!r1) = false]) := by kernel_rfl
theorem p31_5_3 (x1 : Str) (x2 x9 : Int) (b3 b6 b8 : Wld) (r1 : Bool) (r2 : Wld) : run tt (AbsCalls Try.prog) I31 3000 true (stkAt 5 I31.body) ⟨(S31_5 x1 x2 x9 b3 b6 b8), [true, false, true, false, true], [xAa r1, xAn r2], []⟩ = some (.done (xAh (r2, false)) [(decide ((x9 : Int) < (List.length (Wld.files b3) : Int))) = true, (0 : Int) ≤ x9 ∧ x9 < (List.length (Wld.files b3)), (Op.bytesLess (Fil.name (List.getD (Wld.files b3) (Int.toNat x9) Ty.fil.dflt)) x1) = false, (decide ((x9 : Int) < (List.length (Wld.files b3) : Int))) = true, (0 : Int) ≤ x9 ∧ x9 < (List.length (Wld.files b3)), (((Fil.name (List.getD (Wld.files b3) (Int.toNat x9) Ty.fil.dflt)) : Str) == x1) = false, (0 : Int) ≤ x9 ∧ x9 ≤ (List.length (Wld.files b3)), 0 + List.length (List.take (Int.toNat x9) (Wld.files b3)) ≤ Lim, List.length ([] ++ (List.take (Int.toNat x9) (Wld.files b3))) + List.length [(Fil.mk x1 x2)] ≤ Lim, (0 : Int) ≤ x9 ∧ x9 ≤ (List.length (Wld.files b3)), List.length (([] ++ (List.take (Int.toNat x9) (Wld.files b3))) ++ [(Fil.mk x1 x2)]) + List.length (List.drop (Int.toNat x9) (Wld.files b3)) ≤ Lim, AbC 33 (xAf (Wld.mk (Wld.clock b8) (Wld.seed b8) ((([] ++ (List.take (Int.toNat x9) (Wld.files b3))) ++ [(Fil.mk x1 x2)]) ++ (List.drop (Int.toNat x9) (Wld.files b3))))) (xAa r1), (!r1) = true, AbC 98 (xAO b3) (xAn r2)]) := by kernel_rfl
theorem p31_5_4 (x1 : Str) (x2 x9 : Int) (b3 b6 b8 : Wld) (r1 : Bool) : run tt (AbsCalls Try.prog) I31 3000 true (stkAt 5 I31.body) ⟨(S31_5 x1 x2 x9 b3 b6 b8), [true, false, true, false, false], [xAa r1], []⟩ = some (.done (xAh ((Wld.mk (Wld.clock b8) (Wld.seed b8) ((([] ++ (List.take (Int.toNat x9) (Wld.files b3))) ++ [(Fil.mk x1 x2)]) ++ (List.drop (Int.toNat x9) (Wld.files b3)))), true)) [(decide ((x9 : Int) < (List.length (Wld.files b3) : Int))) = true, (0 : Int) ≤ x9 ∧ x9 < (List.length (Wld.files b3)), (Op.bytesLess (Fil.name (List.getD (Wld.files b3) (Int.toNat x9) Ty.fil.dflt)) x1) = false, (decide ((x9 : Int) < (List.length (Wld.files b3) : Int))) = true, (0 : Int) ≤ x9 ∧ x9 < (List.length (Wld.files b3)), (((Fil.name (List.getD (Wld.files b3) (Int.toNat x9) Ty.fil.dflt)) : Str) == x1) = false, (0 : Int) ≤ x9 ∧ x9 ≤ (List.length (Wld.files b3)), 0 + List.length (List.take (Int.toNat x9) (Wld.files b3)) ≤ Lim, List.length ([] ++ (List.take (Int.toNat x9) (Wld.files b3))) + List.length [(Fil.mk x1 x2)] ≤ Lim, (0 : Int) ≤ x9 ∧ x9 ≤ (List.length (Wld.files b3)), List.length (([] ++ (List.take (Int.toNat x9) (Wld.files b3))) ++ [(Fil.mk x1 x2)]) + List.length (List.drop (Int.toNat x9) (Wld.files b3)) ≤ Lim, AbC 33 (xAf (Wld.mk (Wld.clock b8) (Wld.seed b8) ((([] ++ (List.take (Int.toNat x9) (Wld.files b3))) ++ [(Fil.mk x1 x2)]) ++ (List.drop (Int.toNat x9) (Wld.files b3))))) (xAa r1), (!r1) = false]) := by kernel_rfl
theorem p31_5_5 (x1 : Str) (x2 x9 : Int) (b3 b6 b8 : Wld) (r1 : Bool) (r2 : Wld) : run tt (AbsCalls Try.prog) I31 3000 true (stkAt 5 I31.body) ⟨(S31_5 x1 x2 x9 b3 b6 b8), [false, false, false, false, true], [xAa r1, xAn r2], []⟩ = some (.done (xAh (r2, false)) [(decide ((x9 : Int) < (List.length (Wld.files b3) : Int))) = false, false = false, (decide ((x9 : Int) < (List.length (Wld.files b3) : Int))) = false, false = false, (0 : Int) ≤ x9 ∧ x9 ≤ (List.length (Wld.files b3)), 0 + List.length (List.take (Int.toNat x9) (Wld.files b3)) ≤ Lim, List.length ([] ++ (List.take (Int.toNat x9) (Wld.files b3))) + List.length [(Fil.mk x1 x2)] ≤ Lim, (0 : Int) ≤ x9 ∧ x9 ≤ (List.length (Wld.files b3)), List.length (([] ++ (List.take (Int.toNat x9) (Wld.files b3))) ++ [(Fil.mk x1 x2)]) + List.length (List.drop (Int.toNat x9) (Wld.files b3)) ≤ Lim, AbC 33 (xAf (Wld.mk (Wld.clock b8) (Wld.seed b8) ((([] ++ (List.take (Int.toNat x9) (Wld.files b3))) ++ [(Fil.mk x1 x2)]) ++ (List.drop (Int.toNat x9) (Wld.files b3))))) (xAa r1), (!r1) = true, AbC 98 (xAO b3) (xAn r2)]) := by kernel_rfl
theorem p31_5_6 (x1 : Str) (x2 x9 : Int) (b3 b6 b8 : Wld) (r1 : Bool) : run tt (AbsCalls Try.prog) I31 3000 true (stkAt 5 I31.body) ⟨(S31_5 x1 x2 x9 b3 b6 b8), [false, false, false, false, false], [xAa r1], []⟩ = some (.done (xAh ((Wld.mk (Wld.clock b8) (Wld.seed b8) ((([] ++ (List.take (Int.toNat x9) (Wld.files b3))) ++ [(Fil.mk x1 x2)]) ++ (List.drop (Int.toNat x9) (Wld.files b3)))), true)) [(decide ((x9 : Int) < (List.length (Wld.files b3) : Int))) = false, false = false, (decide ((x9 : Int) < (List.length (Wld.files b3) : Int))) = false, false = false, (0 : Int) ≤ x9 ∧ x9 ≤ (List.length (Wld.files b3)), 0 + List.length (List.take (Int.toNat x9) (Wld.files b3)) ≤ Lim, List.length ([] ++ (List.take (Int.toNat x9) (Wld.files b3))) + List.length [(Fil.mk x1 x2)] ≤ Lim, (0 : Int) ≤ x9 ∧ x9 ≤ (List.length (Wld.files b3)), List.length (([] ++ (List.take (Int.toNat x9) (Wld.files b3))) ++ [(Fil.mk x1 x2)]) + List.length (List.drop (Int.toNat x9) (Wld.files b3)) ≤ Lim, AbC 33 (xAf (Wld.mk (Wld.clock b8) (Wld.seed b8) ((([] ++ (List.take (Int.toNat x9) (Wld.files b3))) ++ [(Fil.mk x1 x2)]) ++ (List.drop (Int.toNat x9) (Wld.files b3))))) (xAa r1), (!r1) = false]) := by kernel_rfl
theorem p31_e_7 (a0 : Wld) (a1 : Str) (a2 : Int) (r1 : Bool) (r2 : Wld) : run tt (AbsCalls Try.prog) I31 3000 false [.code I31.body] ⟨(zBm 0 (xAR a0 a1 a2)), [true], [xAa r1, xAn r2], []⟩ = some (.done (xAh (r2, false)) [AbC 33 (xAf a0) (xAa r1), (!r1) = true, AbC 98 (xAO a0) (xAn r2)]) := by kernel_rfl
theorem p31_e_8 (a0 : Wld) (a1 : Str) (a2 : Int) (r1 : Bool) (r2 : Wld) : run tt (AbsCalls Try.prog) I31 3000 false [.code I31.body] ⟨(zBm 0 (xAR a0 a1 a2)), [false], [xAa r1, xAn r2], []⟩ = some (.stop (stkAt 5 I31.body) (S31_5 a1 a2 0 a0 (Wld.mk 0 0 []) r2) [AbC 33 (xAf a0) (xAa r1), (!r1) = false, AbC 98 (xAO a0) (xAn r2)]) := by kernel_rfl
theorem c31_5 {N : Nat} : ∀ n x1 x2 x9 b3 b6 b8 r, xA5 N n x1 x2 x9 b3 b6 b8 = some r → Reach Try.prog Try.f31 I31 (stkAt 5 I31.body) (S31_5 x1 x2 x9 b3 b6 b8) (xAh r) := by
 intro n
 induction n with
 | zero => intro x1 x2 x9 b3 b6 b8 r h; have h' : (none : Option (Wld × Bool)) = some r := h; cases h'
 | succ n ih =>
  intro x1 x2 x9 b3 b6 b8 r h
  rw [xA5] at h
  rcases cond_inv h with ⟨h0, h⟩ | ⟨h0, h⟩
  ·obtain ⟨h1, h⟩ := ite_inv h
   rcases cond_inv h with ⟨h2, h⟩ | ⟨h2, h⟩
   ·exact Reach.stop ttok mix fk31 (p31_5_0 x1 x2 x9 b3 b6 b8) (obs_cons h0 (obs_cons h1 (obs_cons h2 obs_nil))) (ih _ _ _ _ _ _ _ h)
   ·rcases cond_inv h with ⟨h5, h⟩ | ⟨h5, h⟩
    ·obtain ⟨h6, h⟩ := ite_inv h
     obtain ⟨r1, h7, h⟩ := bind_inv h
     rcases cond_inv h with ⟨h8, h⟩ | ⟨h8, h⟩
     ·obtain ⟨r2, h9, h⟩ := bind_inv h
      obtain rfl := Option.some.inj h
      exact Reach.done ttok mix fk31 (p31_5_1 x1 x2 x9 b3 b6 b8 r1 r2) (obs_cons h0 (obs_cons h1 (obs_cons h2 (obs_cons h0 (obs_cons h1 (obs_cons h5 (obs_cons h6 (obs_cons (xAi h7) (obs_cons h8 (obs_cons (xA7 h9) obs_nil))))))))))
     ·obtain rfl := Option.some.inj h
      exact Reach.done ttok mix fk31 (p31_5_2 x1 x2 x9 b3 b6 b8 r1) (obs_cons h0 (obs_cons h1 (obs_cons h2 (obs_cons h0 (obs_cons h1 (obs_cons h5 (obs_cons h6 (obs_cons (xAi h7) (obs_cons h8 obs_nil)))))))))
    ·obtain ⟨h6, h⟩ := ite_inv h
     obtain ⟨h7, h⟩ := ite_inv h
     obtain ⟨h8, h⟩ := ite_inv h
     obtain ⟨h10, h⟩ := ite_inv h
     obtain ⟨r1, h11, h⟩ := bind_inv h
     rcases cond_inv h with ⟨h12, h⟩ | ⟨h12, h⟩
     ·obtain ⟨r2, h13, h⟩ := bind_inv h
      obtain rfl := Option.some.inj h
      exact Reach.done ttok mix fk31 (p31_5_3 x1 x2 x9 b3 b6 b8 r1 r2) (obs_cons h0 (obs_cons h1 (obs_cons h2 (obs_cons h0 (obs_cons h1 (obs_cons h5 (obs_cons h6 (obs_cons h7 (obs_cons h8 (obs_cons h6 (obs_cons h10 (obs_cons (xAi h11) (obs_cons h12 (obs_cons (xA7 h13) obs_nil))))))))))))))
     ·obtain rfl := Option.some.inj h
      exact Reach.done ttok mix fk31 (p31_5_4 x1 x2 x9 b3 b6 b8 r1) (obs_cons h0 (obs_cons h1 (obs_cons h2 (obs_cons h0 (obs_cons h1 (obs_cons h5 (obs_cons h6 (obs_cons h7 (obs_cons h8 (obs_cons h6 (obs_cons h10 (obs_cons (xAi h11) (obs_cons h12 obs_nil)))))))))))))
  ·obtain ⟨h4, h⟩ := ite_inv h
   obtain ⟨h5, h⟩ := ite_inv h
   obtain ⟨h6, h⟩ := ite_inv h
   obtain ⟨h8, h⟩ := ite_inv h
   obtain ⟨r1, h9, h⟩ := bind_inv h
   rcases cond_inv h with ⟨h10, h⟩ | ⟨h10, h⟩
   ·obtain ⟨r2, h11, h⟩ := bind_inv h
    obtain rfl := Option.some.inj h
    exact Reach.done ttok mix fk31 (p31_5_5 x1 x2 x9 b3 b6 b8 r1 r2) (obs_cons h0 (obs_cons rfl (obs_cons h0 (obs_cons rfl (obs_cons h4 (obs_cons h5 (obs_cons h6 (obs_cons h4 (obs_cons h8 (obs_cons (xAi h9) (obs_cons h10 (obs_cons (xA7 h11) obs_nil))))))))))))
   ·obtain rfl := Option.some.inj h
    exact Reach.done ttok mix fk31 (p31_5_6 x1 x2 x9 b3 b6 b8 r1) (obs_cons h0 (obs_cons rfl (obs_cons h0 (obs_cons rfl (obs_cons h4 (obs_cons h5 (obs_cons h6 (obs_cons h4 (obs_cons h8 (obs_cons (xAi h9) (obs_cons h10 obs_nil)))))))))))
theorem c31_e {N : Nat} : ∀ a0 a1 a2 r, xB5 N a0 a1 a2 = some r → Reach Try.prog Try.f31 I31 [.code I31.body] (zBm 0 (xAR a0 a1 a2)) (xAh r) := by
 intro a0 a1 a2 r h
 unfold xB5 at h
 obtain ⟨r1, h0, h⟩ := bind_inv h
 rcases cond_inv h with ⟨h1, h⟩ | ⟨h1, h⟩
 ·obtain ⟨r2, h2, h⟩ := bind_inv h
  obtain rfl := Option.some.inj h
  exact Reach.done ttok mix fk31 (p31_e_7 a0 a1 a2 r1 r2) (obs_cons (xAi h0) (obs_cons h1 (obs_cons (xA7 h2) obs_nil)))
 ·obtain ⟨r2, h2, h⟩ := bind_inv h
  exact Reach.stop ttok mix fk31 (p31_e_8 a0 a1 a2 r1 r2) (obs_cons (xAi h0) (obs_cons h1 (obs_cons (xA7 h2) obs_nil))) (c31_5   _ _ _ _ _ _ _ _ h)
theorem xBj {N : Nat} {a0 : Wld} {a1 : Str} {a2 : Int} {r : Wld × Bool} (h : xB5 N  a0 a1 a2 = some r) : AbC 31 (xAR a0 a1 a2) (xAh r) :=
 AbsCalls.of_reach fk31 rfl rfl (Nat.le_of_ble_eq_true rfl) (c31_e a0 a1 a2 r h)
noncomputable def I146 : Info := { body := (Try.f146.body).getD .skip, nt := 47, results := [.tmp 2], keep := [0, 4, 6, 14, 86], live := [(2, [0, 6])], modes := [(4, [(7, .take, false), (16, .take, false), (19, .take, false)])], ext := [], lnt := [], casts := [], fcast := [] }
theorem fk146 : FnOk Try.prog 146 Try.f146 I146 := ⟨Try.func146, by kernel_rfl, by kernel_rfl, by kernel_rfl, by kernel_rfl⟩
def xCJ (x0 : List Fil) (x3 : Int) : St := [(0, .v false [.sl .ro .fil x0]), (6, .v false [.int .i64 x3])]
theorem p146_2_0 (x0 : List Fil) (x3 : Int) (r1 : Bool) : run tt (AbsCalls Try.prog) I146 3000 true (stkAt 2 I146.body) ⟨(xCJ x0 x3), [true, true, true, true], [xAm r1], []⟩ = some (.done (xA0 false) [(decide ((x3 : Int) < (List.length x0 : Int))) = true, (0 : Int) ≤ x3 ∧ x3 < (List.length x0), AbC 83 (xAC (Fil.name (List.getD x0 (Int.toNat x3) Ty.fil.dflt))) (xAm r1), (!r1) = true, true = true, true = true]) := by kernel_rfl
theorem p146_2_1 (x0 : List Fil) (x3 : Int) (r1 r2 : Bool) : run tt (AbsCalls Try.prog) I146 3000 true (stkAt 2 I146.body) ⟨(xCJ x0 x3), [true, false, true, true], [xAm r1, xAN r2], []⟩ = some (.done (xA0 false) [(decide ((x3 : Int) < (List.length x0 : Int))) = true, (0 : Int) ≤ x3 ∧ x3 < (List.length x0), AbC 83 (xAC (Fil.name (List.getD x0 (Int.toNat x3) Ty.fil.dflt))) (xAm r1), (!r1) = false, (0 : Int) ≤ x3 ∧ x3 < (List.length x0), AbC 85 (xBg (Fil.n (List.getD x0 (Int.toNat x3) Ty.fil.dflt))) (xAN r2), (!r2) = true, true = true]) := by kernel_rfl
theorem p146_2_2 (x0 : List Fil) (x3 : Int) (r1 r2 : Bool) : run tt (AbsCalls Try.prog) I146 3000 true (stkAt 2 I146.body) ⟨(xCJ x0 x3), [true, false, false, true, true], [xAm r1, xAN r2], []⟩ = some (.done (xA0 false) [(decide ((x3 : Int) < (List.length x0 : Int))) = true, (0 : Int) ≤ x3 ∧ x3 < (List.length x0), AbC 83 (xAC (Fil.name (List.getD x0 (Int.toNat x3) Ty.fil.dflt))) (xAm r1), (!r1) = false, (0 : Int) ≤ x3 ∧ x3 < (List.length x0), AbC 85 (xBg (Fil.n (List.getD x0 (Int.toNat x3) Ty.fil.dflt))) (xAN r2), (!r2) = false, (decide ((x3 : Int) > 0)) = true, (0 : Int) ≤ (IntKind.i64.wrap (x3 - 1)) ∧ (IntKind.i64.wrap (x3 - 1)) < (List.length x0), (0 : Int) ≤ x3 ∧ x3 < (List.length x0), (!(Op.bytesLess (Fil.name (List.getD x0 (Int.toNat (IntKind.i64.wrap (x3 - 1))) Ty.fil.dflt)) (Fil.name (List.getD x0 (Int.toNat x3) Ty.fil.dflt)))) = true]) := by kernel_rfl
theorem p146_2_3 (x0 : List Fil) (x3 : Int) (r1 r2 : Bool) : run tt (AbsCalls Try.prog) I146 3000 true (stkAt 2 I146.body) ⟨(xCJ x0 x3), [true, false, false, true, false], [xAm r1, xAN r2], []⟩ = some (.stop (stkAt 2 I146.body) (xCJ x0 (IntKind.i64.wrap (x3 + 1))) [(decide ((x3 : Int) < (List.length x0 : Int))) = true, (0 : Int) ≤ x3 ∧ x3 < (List.length x0), AbC 83 (xAC (Fil.name (List.getD x0 (Int.toNat x3) Ty.fil.dflt))) (xAm r1), (!r1) = false, (0 : Int) ≤ x3 ∧ x3 < (List.length x0), AbC 85 (xBg (Fil.n (List.getD x0 (Int.toNat x3) Ty.fil.dflt))) (xAN r2), (!r2) = false, (decide ((x3 : Int) > 0)) = true, (0 : Int) ≤ (IntKind.i64.wrap (x3 - 1)) ∧ (IntKind.i64.wrap (x3 - 1)) < (List.length x0), (0 : Int) ≤ x3 ∧ x3 < (List.length x0), (!(Op.bytesLess (Fil.name (List.getD x0 (Int.toNat (IntKind.i64.wrap (x3 - 1))) Ty.fil.dflt)) (Fil.name (List.getD x0 (Int.toNat x3) Ty.fil.dflt)))) = false]) := by kernel_rfl
theorem p146_2_4 (x0 : List Fil) (x3 : Int) (r1 r2 : Bool) : run tt (AbsCalls Try.prog) I146 3000 true (stkAt 2 I146.body) ⟨(xCJ x0 x3), [true, false, false, false, false], [xAm r1, xAN r2], []⟩ = some (.stop (stkAt 2 I146.body) (xCJ x0 (IntKind.i64.wrap (x3 + 1))) [(decide ((x3 : Int) < (List.length x0 : Int))) = true, (0 : Int) ≤ x3 ∧ x3 < (List.length x0), AbC 83 (xAC (Fil.name (List.getD x0 (Int.toNat x3) Ty.fil.dflt))) (xAm r1), (!r1) = false, (0 : Int) ≤ x3 ∧ x3 < (List.length x0), AbC 85 (xBg (Fil.n (List.getD x0 (Int.toNat x3) Ty.fil.dflt))) (xAN r2), (!r2) = false, (decide ((x3 : Int) > 0)) = false, false = false]) := by kernel_rfl
theorem p146_2_5 (x0 : List Fil) (x3 : Int) : run tt (AbsCalls Try.prog) I146 3000 true (stkAt 2 I146.body) ⟨(xCJ x0 x3), [false], [], []⟩ = some (.done (xA0 (decide (((List.length x0 : Int) : Int) ≤ 4))) [(decide ((x3 : Int) < (List.length x0 : Int))) = false]) := by kernel_rfl
theorem p146_e_6 (a0 : List Fil) : run tt (AbsCalls Try.prog) I146 3000 false [.code I146.body] ⟨(zBm 0 (xB1 a0)), [], [], []⟩ = some (.stop (stkAt 2 I146.body) (xCJ a0 0) []) := by kernel_rfl
theorem c146_2 {N : Nat} : ∀ n x0 x3 r, xAM N n x0 x3 = some r → Reach Try.prog Try.f146 I146 (stkAt 2 I146.body) (xCJ x0 x3) (xA0 r) := by
 intro n
 induction n with
 | zero => intro x0 x3 r h; have h' : (none : Option (Bool)) = some r := h; cases h'
 | succ n ih =>
  intro x0 x3 r h
  rw [xAM] at h
  rcases cond_inv h with ⟨h0, h⟩ | ⟨h0, h⟩
  ·obtain ⟨h1, h⟩ := ite_inv h
   obtain ⟨r1, h2, h⟩ := bind_inv h
   rcases cond_inv h with ⟨h3, h⟩ | ⟨h3, h⟩
   ·obtain rfl := Option.some.inj h
    exact Reach.done ttok mix fk146 (p146_2_0 x0 x3 r1) (obs_cons h0 (obs_cons h1 (obs_cons (xBl h2) (obs_cons h3 (obs_cons rfl (obs_cons rfl obs_nil))))))
   ·obtain ⟨r2, h5, h⟩ := bind_inv h
    rcases cond_inv h with ⟨h6, h⟩ | ⟨h6, h⟩
    ·obtain rfl := Option.some.inj h
     exact Reach.done ttok mix fk146 (p146_2_1 x0 x3 r1 r2) (obs_cons h0 (obs_cons h1 (obs_cons (xBl h2) (obs_cons h3 (obs_cons h1 (obs_cons (xB2 h5) (obs_cons h6 (obs_cons rfl obs_nil))))))))
    ·rcases cond_inv h with ⟨h7, h⟩ | ⟨h7, h⟩
     ·obtain ⟨h8, h⟩ := ite_inv h
      rcases cond_inv h with ⟨h10, h⟩ | ⟨h10, h⟩
      ·obtain rfl := Option.some.inj h
       exact Reach.done ttok mix fk146 (p146_2_2 x0 x3 r1 r2) (obs_cons h0 (obs_cons h1 (obs_cons (xBl h2) (obs_cons h3 (obs_cons h1 (obs_cons (xB2 h5) (obs_cons h6 (obs_cons h7 (obs_cons h8 (obs_cons h1 (obs_cons h10 obs_nil)))))))))))
      ·exact Reach.stop ttok mix fk146 (p146_2_3 x0 x3 r1 r2) (obs_cons h0 (obs_cons h1 (obs_cons (xBl h2) (obs_cons h3 (obs_cons h1 (obs_cons (xB2 h5) (obs_cons h6 (obs_cons h7 (obs_cons h8 (obs_cons h1 (obs_cons h10 obs_nil))))))))))) (ih _ _ _ h)
     ·exact Reach.stop ttok mix fk146 (p146_2_4 x0 x3 r1 r2) (obs_cons h0 (obs_cons h1 (obs_cons (xBl h2) (obs_cons h3 (obs_cons h1 (obs_cons (xB2 h5) (obs_cons h6 (obs_cons h7 (obs_cons rfl obs_nil))))))))) (ih _ _ _ h)
  ·obtain rfl := Option.some.inj h
   exact Reach.done ttok mix fk146 (p146_2_5 x0 x3) (obs_cons h0 obs_nil)
theorem c146_e {N : Nat} : ∀ a0 r, xCb N a0 = some r → Reach Try.prog Try.f146 I146 [.code I146.body] (zBm 0 (xB1 a0)) (xA0 r) := by
 intro a0 r h
 unfold xCb at h
 exact Reach.stop ttok mix fk146 (p146_e_6 a0) obs_nil (c146_2   _ _ _ _ h)
theorem spec_l14Files_ok {N : Nat} {a0 : List Fil} {r : Bool} (h : xCb N  a0 = some r) : AbC 146 (xB1 a0) (xA0 r) :=
 AbsCalls.of_reach fk146 rfl rfl (Nat.le_of_ble_eq_true rfl) (c146_e a0 r h)
noncomputable def I99 : Info := { body := (Try.f99.body).getD .skip, nt := 16, results := [.tmp 2], keep := [0, 2, 4, 3], live := [], modes := [(1, [(3, .take, false), (8, .take, false)])], ext := [], lnt := [], casts := [], fcast := [] }
theorem fk99 : FnOk Try.prog 99 Try.f99 I99 := ⟨Try.func99, by kernel_rfl, by kernel_rfl, by kernel_rfl, by kernel_rfl⟩
theorem p99_e_0 (a0 : Wld) (r1 r2 r3 : Bool) : run tt (AbsCalls Try.prog) I99 3000 false [.code I99.body] ⟨(zBm 0 (xAl a0)), [true, true], [xAP r1, xAP r2, xA0 r3], []⟩ = some (.done (xAb r3) [AbC 108 (xBh (Wld.clock a0) 0 1000) (xAP r1), r1 = true, AbC 108 (xBh (Wld.seed a0) 0 1000000) (xAP r2), r2 = true, AbC 146 (xB1 (Wld.files a0)) (xA0 r3)]) := by kernel_rfl
theorem p99_e_1 (a0 : Wld) (r1 r2 : Bool) : run tt (AbsCalls Try.prog) I99 3000 false [.code I99.body] ⟨(zBm 0 (xAl a0)), [true, false], [xAP r1, xAP r2], []⟩ = some (.done (xAb false) [AbC 108 (xBh (Wld.clock a0) 0 1000) (xAP r1), r1 = true, AbC 108 (xBh (Wld.seed a0) 0 1000000) (xAP r2), r2 = false]) := by kernel_rfl
theorem p99_e_2 (a0 : Wld) (r1 : Bool) : run tt (AbsCalls Try.prog) I99 3000 false [.code I99.body] ⟨(zBm 0 (xAl a0)), [false, false], [xAP r1], []⟩ = some (.done (xAb false) [AbC 108 (xBh (Wld.clock a0) 0 1000) (xAP r1), r1 = false, false = false]) := by kernel_rfl
theorem c99_e {N : Nat} : ∀ a0 r, xAF N a0 = some r → Reach Try.prog Try.f99 I99 [.code I99.body] (zBm 0 (xAl a0)) (xAb r) := by
 intro a0 r h
 unfold xAF at h
 obtain ⟨r1, h0, h⟩ := bind_inv h
 rcases cond_inv h with ⟨h1, h⟩ | ⟨h1, h⟩
 ·obtain ⟨r2, h2, h⟩ := bind_inv h
  rcases cond_inv h with ⟨h3, h⟩ | ⟨h3, h⟩
  ·obtain ⟨r3, h4, h⟩ := bind_inv h
   obtain rfl := Option.some.inj h
   exact Reach.done ttok mix fk99 (p99_e_0 a0 r1 r2 r3) (obs_cons (xB7 h0) (obs_cons h1 (obs_cons (xB7 h2) (obs_cons h3 (obs_cons (spec_l14Files_ok h4) obs_nil)))))
  ·obtain rfl := Option.some.inj h
   exact Reach.done ttok mix fk99 (p99_e_1 a0 r1 r2) (obs_cons (xB7 h0) (obs_cons h1 (obs_cons (xB7 h2) (obs_cons h3 obs_nil))))
 ·obtain rfl := Option.some.inj h
  exact Reach.done ttok mix fk99 (p99_e_2 a0 r1) (obs_cons (xB7 h0) (obs_cons h1 (obs_cons rfl obs_nil)))
theorem xAw {N : Nat} {a0 : Wld} {r : Bool} (h : xAF N  a0 = some r) : AbC 99 (xAl a0) (xAb r) :=
 AbsCalls.of_reach fk99 rfl rfl (Nat.le_of_ble_eq_true rfl) (c99_e a0 r h)
noncomputable def I100 : Info := { body := (Try.f100.body).getD .skip, nt := 9, results := [.cell 2 60], keep := [0, 2, 4, 3, 5], live := [], modes := [(2, [(0, .take, false)])], ext := [], lnt := [], casts := [], fcast := [] }
theorem fk100 : FnOk Try.prog 100 Try.f100 I100 := ⟨Try.func100, by kernel_rfl, by kernel_rfl, by kernel_rfl, by kernel_rfl⟩
theorem p100_e_0 (a0 : Wld) : run tt (AbsCalls Try.prog) I100 3000 false [.code I100.body] ⟨(zBm 0 (xBo a0)), [], [], []⟩ = some (.done (xAS (Wld.mk (Wld.clock a0) (Wld.seed a0) ([] ++ (Wld.files a0)))) [0 + List.length (Wld.files a0) ≤ Lim]) := by kernel_rfl
theorem c100_e {N : Nat} : ∀ a0 r, xBd N a0 = some r → Reach Try.prog Try.f100 I100 [.code I100.body] (zBm 0 (xBo a0)) (xAS r) := by
 intro a0 r h
 unfold xBd at h
 obtain ⟨h0, h⟩ := ite_inv h
 obtain rfl := Option.some.inj h
 exact Reach.done ttok mix fk100 (p100_e_0 a0) (obs_cons h0 obs_nil)
theorem xB9 {N : Nat} {a0 : Wld} {r : Wld} (h : xBd N  a0 = some r) : AbC 100 (xBo a0) (xAS r) :=
 AbsCalls.of_reach fk100 rfl rfl (Nat.le_of_ble_eq_true rfl) (c100_e a0 r h)
noncomputable def I32 : Info := { body := (Try.f32.body).getD .skip, nt := 76, results := [.cell 6 60, .tmp 7], keep := [0, 2, 4, 6, 12, 14, 16, 18, 20, 22, 42, 72, 96, 112, 144, 7, 13, 17, 23], live := [(4, [2, 4, 6, 12, 16, 18, 20, 7, 13, 17])], modes := [(7, [(2, .take, false)]), (8, [(1, .take, false)]), (11, [(1, .take, false)]), (13, [(1, .take, false)]), (14, [(3, .take, false)]), (16, [(0, .take, false)])], ext := [], lnt := [], casts := [], fcast := [] }
theorem fk32 : FnOk Try.prog 32 Try.f32 I32 := ⟨Try.func32, by kernel_rfl, by kernel_rfl, by kernel_rfl, by kernel_rfl⟩
def xCw (x1 : Str) (x2 : Int) (x9 : Bool) (x10 : Int) (b3 b6 b8 : Wld) : St := [(2, .v false [.str x1]), (4, .v false [.int .i64 x2]), (6, .v false [.ptr 3 0]), (12, .v false [.ptr 6 0]), (16, .v false [.ptr 8 0]), (18, .v false [.bool x9]), (20, .v false [.int .i64 x10]), (7, .v true [.int .i64 (Wld.clock b3), .int .i64 (Wld.seed b3), .sl .ro .fil (Wld.files b3)]), (13, .v true [.int .i64 (Wld.clock b6), .int .i64 (Wld.seed b6), .sl .own .fil (Wld.files b6)]), (17, .v true [.int .i64 (Wld.clock b8), .int .i64 (Wld.seed b8), .sl .own .fil (Wld.files b8)])]
theorem p32_4_0 (x1 : Str) (x2 : Int) (x9 : Bool) (x10 : Int) (b3 b6 b8 : Wld) : run tt (AbsCalls Try.prog) I32 3000 true (stkAt 4 I32.body) ⟨(xCw x1 x2 x9 x10 b3 b6 b8), [true, true, true, true], [], []⟩ = some (.stop (stkAt 4 I32.body) (xCw x1 x2 true (IntKind.i64.wrap (x10 + 1)) b3 b6 (Wld.mk (Wld.clock b8) (Wld.seed b8) (((Wld.files b8) ++ [(Fil.mk x1 x2)]) ++ [(List.getD (Wld.files b3) (Int.toNat x10) Ty.fil.dflt)]))) [(decide ((x10 : Int) < (List.length (Wld.files b3) : Int))) = true, (0 : Int) ≤ x10 ∧ x10 < (List.length (Wld.files b3)), (!x9) = true, ((Op.bytesLess x1 (Fil.name (List.getD (Wld.files b3) (Int.toNat x10) Ty.fil.dflt))) || ((x1 : Str) == (Fil.name (List.getD (Wld.files b3) (Int.toNat x10) Ty.fil.dflt)))) = true, List.length (Wld.files b8) + List.length [(Fil.mk x1 x2)] ≤ Lim, (!(((Fil.name (List.getD (Wld.files b3) (Int.toNat x10) Ty.fil.dflt)) : Str) == x1)) = true, List.length ((Wld.files b8) ++ [(Fil.mk x1 x2)]) + List.length [(List.getD (Wld.files b3) (Int.toNat x10) Ty.fil.dflt)] ≤ Lim]) := by kernel_rfl
theorem p32_4_1 (x1 : Str) (x2 : Int) (x9 : Bool) (x10 : Int) (b3 b6 b8 : Wld) : run tt (AbsCalls Try.prog) I32 3000 true (stkAt 4 I32.body) ⟨(xCw x1 x2 x9 x10 b3 b6 b8), [true, true, true, false], [], []⟩ = some (.stop (stkAt 4 I32.body) (xCw x1 x2 true (IntKind.i64.wrap (x10 + 1)) b3 b6 (Wld.mk (Wld.clock b8) (Wld.seed b8) ((Wld.files b8) ++ [(Fil.mk x1 x2)]))) [(decide ((x10 : Int) < (List.length (Wld.files b3) : Int))) = true, (0 : Int) ≤ x10 ∧ x10 < (List.length (Wld.files b3)), (!x9) = true, ((Op.bytesLess x1 (Fil.name (List.getD (Wld.files b3) (Int.toNat x10) Ty.fil.dflt))) || ((x1 : Str) == (Fil.name (List.getD (Wld.files b3) (Int.toNat x10) Ty.fil.dflt)))) = true, List.length (Wld.files b8) + List.length [(Fil.mk x1 x2)] ≤ Lim, (!(((Fil.name (List.getD (Wld.files b3) (Int.toNat x10) Ty.fil.dflt)) : Str) == x1)) = false]) := by kernel_rfl
theorem p32_4_2 (x1 : Str) (x2 : Int) (x9 : Bool) (x10 : Int) (b3 b6 b8 : Wld) : run tt (AbsCalls Try.prog) I32 3000 true (stkAt 4 I32.body) ⟨(xCw x1 x2 x9 x10 b3 b6 b8), [true, true, false, true], [], []⟩ = some (.stop (stkAt 4 I32.body) (xCw x1 x2 x9 (IntKind.i64.wrap (x10 + 1)) b3 b6 (Wld.mk (Wld.clock b8) (Wld.seed b8) ((Wld.files b8) ++ [(List.getD (Wld.files b3) (Int.toNat x10) Ty.fil.dflt)]))) [(decide ((x10 : Int) < (List.length (Wld.files b3) : Int))) = true, (0 : Int) ≤ x10 ∧ x10 < (List.length (Wld.files b3)), (!x9) = true, ((Op.bytesLess x1 (Fil.name (List.getD (Wld.files b3) (Int.toNat x10) Ty.fil.dflt))) || ((x1 : Str) == (Fil.name (List.getD (Wld.files b3) (Int.toNat x10) Ty.fil.dflt)))) = false, (!(((Fil.name (List.getD (Wld.files b3) (Int.toNat x10) Ty.fil.dflt)) : Str) == x1)) = true, List.length (Wld.files b8) + List.length [(List.getD (Wld.files b3) (Int.toNat x10) Ty.fil.dflt)] ≤ Lim]) := by kernel_rfl
theorem p32_4_3 (x1 : Str) (x2 : Int) (x9 : Bool) (x10 : Int) (b3 b6 b8 : Wld) : run tt (AbsCalls Try.prog) I32 3000 true (stkAt 4 I32.body) ⟨(xCw x1 x2 x9 x10 b3 b6 b8), [true, true, false, false], [], []⟩ = some (.stop (stkAt 4 I32.body) (xCw x1 x2 x9 (IntKind.i64.wrap (x10 + 1)) b3 b6 b8) [(decide ((x10 : Int) < (List.length (Wld.files b3) : Int))) = true, (0 : Int) ≤ x10 ∧ x10 < (List.length (Wld.files b3)), (!x9) = true, ((Op.bytesLess x1 (Fil.name (List.getD (Wld.files b3) (Int.toNat x10) Ty.fil.dflt))) || ((x1 : Str) == (Fil.name (List.getD (Wld.files b3) (Int.toNat x10) Ty.fil.dflt)))) = false, (!(((Fil.name (List.getD (Wld.files b3) (Int.toNat x10) Ty.fil.dflt)) : Str) == x1)) = false]) := by kernel_rfl
theorem p32_4_4 (x1 : Str) (x2 : Int) (x9 : Bool) (x10 : Int) (b3 b6 b8 : Wld) : run tt (AbsCalls Try.prog) I32 3000 true (stkAt 4 I32.body) ⟨(xCw x1 x2 x9 x10 b3 b6 b8), [true, false, false, true], [], []⟩ = some (.stop (stkAt 4 I32.body) (xCw x1 x2 x9 (IntKind.i64.wrap (x10 + 1)) b3 b6 (Wld.mk (Wld.clock b8) (Wld.seed b8) ((Wld.files b8) ++ [(List.getD (Wld.files b3) (Int.toNat x10) Ty.fil.dflt)]))) [(decide ((x10 : Int) < (List.length (Wld.files b3) : Int))) = true, (0 : Int) ≤ x10 ∧ x10 < (List.length (Wld.files b3)), (!x9) = false, false = false, (!(((Fil.name (List.getD (Wld.files b3) (Int.toNat x10) Ty.fil.dflt)) : Str) == x1)) = true, List.length (Wld.files b8) + List.length [(List.getD (Wld.files b3) (Int.toNat x10) Ty.fil.dflt)] ≤ Lim]) := by kernel_rfl
theorem p32_4_5 (x1 : Str) (x2 : Int) (x9 : Bool) (x10 : Int) (b3 b6 b8 : Wld) : run tt (AbsCalls Try.prog) I32 3000 true (stkAt 4 I32.body) ⟨(xCw x1 x2 x9 x10 b3 b6 b8), [true, false, false, false], [], []⟩ = some (.stop (stkAt 4 I32.body) (xCw x1 x2 x9 (IntKind.i64.wrap (x10 + 1)) b3 b6 b8) [(decide ((x10 : Int) < (List.length (Wld.files b3) : Int))) = true, (0 : Int) ≤ x10 ∧ x10 < (List.length (Wld.files b3)), (!x9) = false, false = false, (!(((Fil.name (List.getD (Wld.files b3) (Int.toNat x10) Ty.fil.dflt)) : Str) == x1)) = false]) := by kernel_rfl
theorem p32_4_6 (x1 : Str) (x2 : Int) (x9 : Bool) (x10 : Int) (b3 b6 b8 : Wld) (r1 : Bool) (r2 : Wld) : run tt (AbsCalls Try.prog) I32 3000 true (stkAt 4 I32.body) ⟨(xCw x1 x2 x9 x10 b3 b6 b8), [false, true, true, true], [xAb r1, xAS r2], []⟩ = some (.done (xAk (r2, false)) [(decide ((x10 : Int) < (List.length (Wld.files b3) : Int))) = false, (!x9) = true, List.length (Wld.files b8) + List.length [(Fil.mk x1 x2)] ≤ Lim, AbC 99 (xAl b3) (xAb r1), (!r1) = true, true = true, AbC 100 (xBo b3) (xAS r2)]) := by kernel_rfl
theorem p32_4_7 (x1 : Str) (x2 : Int) (x9 : Bool) (x10 : Int) (b3 b6 b8 : Wld) (r1 r2 : Bool) (r3 : Wld) : run tt (AbsCalls Try.prog) I32 3000 true (stkAt 4 I32.body) ⟨(xCw x1 x2 x9 x10 b3 b6 b8), [false, true, false, true], [xAb r1, xAb r2, xAS r3], []⟩ = some (.done (xAk (r3, false)) [(decide ((x10 : Int) < (List.length (Wld.files b3) : Int))) = false, (!x9) = true, List.length (Wld.files b8) + List.length [(Fil.mk x1 x2)] ≤ Lim, AbC 99 (xAl b3) (xAb r1), (!r1) = false, AbC 99 (xAl (Wld.mk (Wld.clock b8) (Wld.seed b8) ((Wld.files b8) ++ [(Fil.mk x1 x2)]))) (xAb r2), (!r2) = true, AbC 100 (xBo b3) (xAS r3)]) := by kernel_rfl
theorem p32_4_8 (x1 : Str) (x2 : Int) (x9 : Bool) (x10 : Int) (b3 b6 b8 : Wld) (r1 r2 : Bool) : run tt (AbsCalls Try.prog) I32 3000 true (stkAt 4 I32.body) ⟨(xCw x1 x2 x9 x10 b3 b6 b8), [false, true, false, false], [xAb r1, xAb r2], []⟩ = some (.done (xAk ((Wld.mk (Wld.clock b8) (Wld.seed b8) ((Wld.files b8) ++ [(Fil.mk x1 x2)])), true)) [(decide ((x10 : Int) < (List.length (Wld.files b3) : Int))) = false, (!x9) = true, List.length (Wld.files b8) + List.length [(Fil.mk x1 x2)] ≤ Lim, AbC 99 (xAl b3) (xAb r1), (!r1) = false, AbC 99 (xAl (Wld.mk (Wld.clock b8) (Wld.seed b8) ((Wld.files b8) ++ [(Fil.mk x1 x2)]))) (xAb r2), (!r2) = false]) := by kernel_rfl
theorem p32_4_9 (x1 : Str) (x2 : Int) (x9 : Bool) (x10 : Int) (b3 b6 b8 : Wld) (r1 : Bool) (r2 : Wld) : run tt (AbsCalls Try.prog) I32 3000 true (stkAt 4 I32.body) ⟨(xCw x1 x2 x9 x10 b3 b6 b8), [false, false, true, true], [xAb r1, xAS r2], []⟩ = some (.done (xAk (r2, false)) [(decide ((x10 : Int) < (List.length (Wld.files b3) : Int))) = false, (!x9) = false, AbC 99 (xAl b3) (xAb r1), (!r1) = true, true = true, AbC 100 (xBo b3) (xAS r2)]) := by kernel_rfl
theorem p32_4_10 (x1 : Str) (x2 : Int) (x9 : Bool) (x10 : Int) (b3 b6 b8 : Wld) (r1 r2 : Bool) (r3 : Wld) : run tt (AbsCalls Try.prog) I32 3000 true (stkAt 4 I32.body) ⟨(xCw x1 x2 x9 x10 b3 b6 b8), [false, false, false, true], [xAb r1, xAb r2, xAS r3], []⟩ = some (.done (xAk (r3, false)) [(decide ((x10 : Int) < (List.length (Wld.files b3) : Int))) = false, (!x9) = false, AbC 99 (xAl b3) (xAb r1), (!r1) = false, AbC 99 (xAl b8) (xAb r2), (!r2) = true, AbC 100 (xBo b3) (xAS r3)]) := by kernel_rfl
theorem p32_4_11 (x1 : Str) (x2 : Int) (x9 : Bool) (x10 : Int) (b3 b6 b8 : Wld) (r1 r2 : Bool) : run tt (AbsCalls Try.prog) I32 3000 true (stkAt 4 I32.body) ⟨(xCw x1 x2 x9 x10 b3 b6 b8), [false, false, false, false], [xAb r1, xAb r2], []⟩ = some (.done (xAk (b8, true)) [(decide ((x10 : Int) < (List.length (Wld.files b3) : Int))) = false, (!x9) = false, AbC 99 (xAl b3) (xAb r1), (!r1) = false, AbC 99 (xAl b8) (xAb r2), (!r2) = false]) := by kernel_rfl
theorem p32_e_12 (a0 : Wld) (a1 : Str) (a2 : Int) : run tt (AbsCalls Try.prog) I32 3000 false [.code I32.body] ⟨(zBm 0 (xAY a0 a1 a2)), [], [], []⟩ = some (.stop (stkAt 4 I32.body) (xCw a1 a2 false 0 a0 (Wld.mk 0 0 []) (Wld.mk (Wld.clock a0) (Wld.seed a0) [])) []) := by kernel_rfl
theorem c32_4 {N : Nat} : ∀ n x1 x2 x9 x10 b3 b6 b8 r, xAv N n x1 x2 x9 x10 b3 b6 b8 = some r → Reach Try.prog Try.f32 I32 (stkAt 4 I32.body) (xCw x1 x2 x9 x10 b3 b6 b8) (xAk r) := by
 intro n
 induction n with
 | zero => intro x1 x2 x9 x10 b3 b6 b8 r h; have h' : (none : Option (Wld × Bool)) = some r := h; cases h'
 | succ n ih =>
  intro x1 x2 x9 x10 b3 b6 b8 r h
  rw [xAv] at h
  rcases cond_inv h with ⟨h0, h⟩ | ⟨h0, h⟩
  ·obtain ⟨h1, h⟩ := ite_inv h
   rcases cond_inv h with ⟨h2, h⟩ | ⟨h2, h⟩
   ·rcases cond_inv h with ⟨h3, h⟩ | ⟨h3, h⟩
    ·obtain ⟨h4, h⟩ := ite_inv h
     rcases cond_inv h with ⟨h5, h⟩ | ⟨h5, h⟩
     ·obtain ⟨h6, h⟩ := ite_inv h
      exact Reach.stop ttok mix fk32 (p32_4_0 x1 x2 x9 x10 b3 b6 b8) (obs_cons h0 (obs_cons h1 (obs_cons h2 (obs_cons h3 (obs_cons h4 (obs_cons h5 (obs_cons h6 obs_nil))))))) (ih _ _ _ _ _ _ _ _ h)
     ·exact Reach.stop ttok mix fk32 (p32_4_1 x1 x2 x9 x10 b3 b6 b8) (obs_cons h0 (obs_cons h1 (obs_cons h2 (obs_cons h3 (obs_cons h4 (obs_cons h5 obs_nil)))))) (ih _ _ _ _ _ _ _ _ h)
    ·rcases cond_inv h with ⟨h4, h⟩ | ⟨h4, h⟩
     ·obtain ⟨h5, h⟩ := ite_inv h
      exact Reach.stop ttok mix fk32 (p32_4_2 x1 x2 x9 x10 b3 b6 b8) (obs_cons h0 (obs_cons h1 (obs_cons h2 (obs_cons h3 (obs_cons h4 (obs_cons h5 obs_nil)))))) (ih _ _ _ _ _ _ _ _ h)
     ·exact Reach.stop ttok mix fk32 (p32_4_3 x1 x2 x9 x10 b3 b6 b8) (obs_cons h0 (obs_cons h1 (obs_cons h2 (obs_cons h3 (obs_cons h4 obs_nil))))) (ih _ _ _ _ _ _ _ _ h)
   ·rcases cond_inv h with ⟨h4, h⟩ | ⟨h4, h⟩
    ·obtain ⟨h5, h⟩ := ite_inv h
     exact Reach.stop ttok mix fk32 (p32_4_4 x1 x2 x9 x10 b3 b6 b8) (obs_cons h0 (obs_cons h1 (obs_cons h2 (obs_cons rfl (obs_cons h4 (obs_cons h5 obs_nil)))))) (ih _ _ _ _ _ _ _ _ h)
    ·exact Reach.stop ttok mix fk32 (p32_4_5 x1 x2 x9 x10 b3 b6 b8) (obs_cons h0 (obs_cons h1 (obs_cons h2 (obs_cons rfl (obs_cons h4 obs_nil))))) (ih _ _ _ _ _ _ _ _ h)
  ·rcases cond_inv h with ⟨h1, h⟩ | ⟨h1, h⟩
   ·obtain ⟨h2, h⟩ := ite_inv h
    obtain ⟨r1, h3, h⟩ := bind_inv h
    rcases cond_inv h with ⟨h4, h⟩ | ⟨h4, h⟩
    ·obtain ⟨r2, h6, h⟩ := bind_inv h
     obtain rfl := Option.some.inj h
     exact Reach.done ttok mix fk32 (p32_4_6 x1 x2 x9 x10 b3 b6 b8 r1 r2) (obs_cons h0 (obs_cons h1 (obs_cons h2 (obs_cons (xAw h3) (obs_cons h4 (obs_cons rfl (obs_cons (xB9 h6) obs_nil)))))))
    ·obtain ⟨r2, h5, h⟩ := bind_inv h
     rcases cond_inv h with ⟨h6, h⟩ | ⟨h6, h⟩
     ·obtain ⟨r3, h7, h⟩ := bind_inv h
      obtain rfl := Option.some.inj h
      exact Reach.done ttok mix fk32 (p32_4_7 x1 x2 x9 x10 b3 b6 b8 r1 r2 r3) (obs_cons h0 (obs_cons h1 (obs_cons h2 (obs_cons (xAw h3) (obs_cons h4 (obs_cons (xAw h5) (obs_cons h6 (obs_cons (xB9 h7) obs_nil))))))))
     ·obtain rfl := Option.some.inj h
      exact Reach.done ttok mix fk32 (p32_4_8 x1 x2 x9 x10 b3 b6 b8 r1 r2) (obs_cons h0 (obs_cons h1 (obs_cons h2 (obs_cons (xAw h3) (obs_cons h4 (obs_cons (xAw h5) (obs_cons h6 obs_nil)))))))
   ·obtain ⟨r1, h2, h⟩ := bind_inv h
    rcases cond_inv h with ⟨h3, h⟩ | ⟨h3, h⟩
    ·obtain ⟨r2, h5, h⟩ := bind_inv h
     obtain rfl := Option.some.inj h
     exact Reach.done ttok mix fk32 (p32_4_9 x1 x2 x9 x10 b3 b6 b8 r1 r2) (obs_cons h0 (obs_cons h1 (obs_cons (xAw h2) (obs_cons h3 (obs_cons rfl (obs_cons (xB9 h5) obs_nil))))))
    ·obtain ⟨r2, h4, h⟩ := bind_inv h
     rcases cond_inv h with ⟨h5, h⟩ | ⟨h5, h⟩
     ·obtain ⟨r3, h6, h⟩ := bind_inv h
      obtain rfl := Option.some.inj h
      exact Reach.done ttok mix fk32 (p32_4_10 x1 x2 x9 x10 b3 b6 b8 r1 r2 r3) (obs_cons h0 (obs_cons h1 (obs_cons (xAw h2) (obs_cons h3 (obs_cons (xAw h4) (obs_cons h5 (obs_cons (xB9 h6) obs_nil)))))))
     ·obtain rfl := Option.some.inj h
      exact Reach.done ttok mix fk32 (p32_4_11 x1 x2 x9 x10 b3 b6 b8 r1 r2) (obs_cons h0 (obs_cons h1 (obs_cons (xAw h2) (obs_cons h3 (obs_cons (xAw h4) (obs_cons h5 obs_nil))))))
theorem c32_e {N : Nat} : ∀ a0 a1 a2 r, xCf N a0 a1 a2 = some r → Reach Try.prog Try.f32 I32 [.code I32.body] (zBm 0 (xAY a0 a1 a2)) (xAk r) := by
 intro a0 a1 a2 r h
 unfold xCf at h
 exact Reach.stop ttok mix fk32 (p32_e_12 a0 a1 a2) obs_nil (c32_4   _ _ _ _ _ _ _ _ _ h)
theorem xBm {N : Nat} {a0 : Wld} {a1 : Str} {a2 : Int} {r : Wld × Bool} (h : xCf N  a0 a1 a2 = some r) : AbC 32 (xAY a0 a1 a2) (xAk r) :=
 AbsCalls.of_reach fk32 rfl rfl (Nat.le_of_ble_eq_true rfl) (c32_e a0 a1 a2 r h)
noncomputable def I34 : Info := { body := (Try.f34.body).getD .skip, nt := 22, results := [.tmp 4, .tmp 5], keep := [0, 2, 4, 8, 10, 14, 18, 20, 22, 24, 36, 5, 15], live := [(2, [2, 18, 20, 22])], modes := [(6, [(1, .take, false)])], ext := [], lnt := [], casts := [], fcast := [] }
theorem fk34 : FnOk Try.prog 34 Try.f34 I34 := ⟨Try.func34, by kernel_rfl, by kernel_rfl, by kernel_rfl, by kernel_rfl⟩
def S34_2 (x1 : Str) (x9 : List Fil) (x10 x11 : Int) : St := [(2, .v false [.str x1]), (18, .v false [.sl .ro .fil x9]), (20, .v false [.int .i64 x10]), (22, .v false [.int .i64 x11])]
theorem p34_2_0 (x1 : Str) (x9 : List Fil) (x10 x11 : Int) : run tt (AbsCalls Try.prog) I34 3000 true (stkAt 2 I34.body) ⟨(S34_2 x1 x9 x10 x11), [true, true], [], []⟩ = some (.done (xAg ((Fil.n (List.getD x9 (Int.toNat x11) Ty.fil.dflt)), true)) [(decide ((x11 : Int) < x10)) = true, (0 : Int) ≤ x11 ∧ x11 < (List.length x9), (((Fil.name (List.getD x9 (Int.toNat x11) Ty.fil.dflt)) : Str) == x1) = true]) := by kernel_rfl
theorem p34_2_1 (x1 : Str) (x9 : List Fil) (x10 x11 : Int) : run tt (AbsCalls Try.prog) I34 3000 true (stkAt 2 I34.body) ⟨(S34_2 x1 x9 x10 x11), [true, false], [], []⟩ = some (.stop (stkAt 2 I34.body) (S34_2 x1 x9 x10 (IntKind.i64.wrap (x11 + 1))) [(decide ((x11 : Int) < x10)) = true, (0 : Int) ≤ x11 ∧ x11 < (List.length x9), (((Fil.name (List.getD x9 (Int.toNat x11) Ty.fil.dflt)) : Str) == x1) = false]) := by kernel_rfl
theorem p34_2_2 (x1 : Str) (x9 : List Fil) (x10 x11 : Int) : run tt (AbsCalls Try.prog) I34 3000 true (stkAt 2 I34.body) ⟨(S34_2 x1 x9 x10 x11), [false], [], []⟩ = some (.done (xAg (0, false)) [(decide ((x11 : Int) < x10)) = false]) := by kernel_rfl
theorem p34_e_3 (a0 : Wld) (a1 : Str) : run tt (AbsCalls Try.prog) I34 3000 false [.code I34.body] ⟨(zBm 0 (xAA a0 a1)), [], [], []⟩ = some (.stop (stkAt 2 I34.body) (S34_2 a1 (Wld.files a0) (List.length (Wld.files a0) : Int) 0) []) := by kernel_rfl
theorem c34_2 {N : Nat} : ∀ n x1 x9 x10 x11 r, xAQ N n x1 x9 x10 x11 = some r → Reach Try.prog Try.f34 I34 (stkAt 2 I34.body) (S34_2 x1 x9 x10 x11) (xAg r) := by
 intro n
 induction n with
 | zero => intro x1 x9 x10 x11 r h; have h' : (none : Option (Int × Bool)) = some r := h; cases h'
 | succ n ih =>
  intro x1 x9 x10 x11 r h
  rw [xAQ] at h
  rcases cond_inv h with ⟨h0, h⟩ | ⟨h0, h⟩
  ·obtain ⟨h1, h⟩ := ite_inv h
   rcases cond_inv h with ⟨h2, h⟩ | ⟨h2, h⟩
   ·obtain rfl := Option.some.inj h
    exact Reach.done ttok mix fk34 (p34_2_0 x1 x9 x10 x11) (obs_cons h0 (obs_cons h1 (obs_cons h2 obs_nil)))
   ·exact Reach.stop ttok mix fk34 (p34_2_1 x1 x9 x10 x11) (obs_cons h0 (obs_cons h1 (obs_cons h2 obs_nil))) (ih _ _ _ _ _ h)
  ·obtain rfl := Option.some.inj h
   exact Reach.done ttok mix fk34 (p34_2_2 x1 x9 x10 x11) (obs_cons h0 obs_nil)
theorem c34_e {N : Nat} : ∀ a0 a1 r, xBp N a0 a1 = some r → Reach Try.prog Try.f34 I34 [.code I34.body] (zBm 0 (xAA a0 a1)) (xAg r) := by
 intro a0 a1 r h
 unfold xBp at h
 exact Reach.stop ttok mix fk34 (p34_e_3 a0 a1) obs_nil (c34_2   _ _ _ _ _ _ h)
theorem xA1 {N : Nat} {a0 : Wld} {a1 : Str} {r : Int × Bool} (h : xBp N  a0 a1 = some r) : AbC 34 (xAA a0 a1) (xAg r) :=
 AbsCalls.of_reach fk34 rfl rfl (Nat.le_of_ble_eq_true rfl) (c34_e a0 a1 r h)
noncomputable def I35 : Info := { body := (Try.f35.body).getD .skip, nt := 14, results := [.cell 2 60], keep := [0, 2, 4, 6, 16, 3, 5, 7], live := [], modes := [(4, [(0, .take, false)])], ext := [], lnt := [], casts := [], fcast := [] }
theorem fk35 : FnOk Try.prog 35 Try.f35 I35 := ⟨Try.func35, by kernel_rfl, by kernel_rfl, by kernel_rfl, by kernel_rfl⟩
theorem p35_e_0 (a0 r1 : Wld) : run tt (AbsCalls Try.prog) I35 3000 false [.code I35.body] ⟨(zBm 0 (xA3 a0)), [true], [xAn r1], []⟩ = some (.done (xAx (Wld.mk (IntKind.i64.wrap ((Wld.clock r1) + 1)) (Wld.seed r1) (Wld.files r1))) [AbC 98 (xAO a0) (xAn r1), (decide (((Wld.clock r1) : Int) < 1000)) = true]) := by kernel_rfl
theorem p35_e_1 (a0 r1 : Wld) : run tt (AbsCalls Try.prog) I35 3000 false [.code I35.body] ⟨(zBm 0 (xA3 a0)), [false], [xAn r1], []⟩ = some (.done (xAx r1) [AbC 98 (xAO a0) (xAn r1), (decide (((Wld.clock r1) : Int) < 1000)) = false]) := by kernel_rfl
theorem c35_e {N : Nat} : ∀ a0 r, xBM N a0 = some r → Reach Try.prog Try.f35 I35 [.code I35.body] (zBm 0 (xA3 a0)) (xAx r) := by
 intro a0 r h
 unfold xBM at h
 obtain ⟨r1, h0, h⟩ := bind_inv h
 rcases cond_inv h with ⟨h1, h⟩ | ⟨h1, h⟩
 ·obtain rfl := Option.some.inj h
  exact Reach.done ttok mix fk35 (p35_e_0 a0 r1) (obs_cons (xA7 h0) (obs_cons h1 obs_nil))
 ·obtain rfl := Option.some.inj h
  exact Reach.done ttok mix fk35 (p35_e_1 a0 r1) (obs_cons (xA7 h0) (obs_cons h1 obs_nil))
theorem xBT {N : Nat} {a0 : Wld} {r : Wld} (h : xBM N  a0 = some r) : AbC 35 (xA3 a0) (xAx r) :=
 AbsCalls.of_reach fk35 rfl rfl (Nat.le_of_ble_eq_true rfl) (c35_e a0 r h)
noncomputable def I6 : Info := { body := (Try.f6.body).getD .skip, nt := 142, results := [.tmp 2], keep := [0, 4, 6, 8, 10, 12, 14, 18, 20, 22, 24, 26, 28, 30, 34, 96, 100, 154, 164, 234, 7, 13, 17, 31], live := [(14, [6, 8, 12, 24, 7, 13])], modes := [(3, [(2, .take, false)]), (4, [(4, .take, false)]), (5, [(4, .take, false)]), (6, [(1, .take, false), (3, .take, false), (5, .take, false)]), (9, [(5, .take, false)]), (10, [(3, .take, false)]), (11, [(0, .take, false), (2, .take, false), (3, .take, false)]), (16, [(8, .take, false), (9, .ref, false), (10, .ref, false)]), (17, [(0, .take, false), (2, .take, false), (11, .take, false), (12, .take, false)]), (20, [(2, .take, false), (9, .take, false), (13, .take, false)])], ext := [], lnt := [], casts := [], fcast := [] }
theorem fk6 : FnOk Try.prog 6 Try.f6 I6 := ⟨Try.func6, by kernel_rfl, by kernel_rfl, by kernel_rfl, by kernel_rfl⟩
def S6_14 (x4 : Str) (x12 : Int) (b3 b6 : Wld) : St := [(6, .v false [.ptr 3 0]), (8, .v false [.str x4]), (12, .v false [.ptr 6 0]), (24, .v false [.int .i64 x12]), (7, .v true [.int .i64 (Wld.clock b3), .int .i64 (Wld.seed b3), .sl .own .fil (Wld.files b3)]), (13, .v true [.int .i64 (Wld.clock b6), .int .i64 (Wld.seed b6), .sl .own .fil (Wld.files b6)])]
theorem p6_14_0 (x4 : Str) (x12 : Int) (b3 b6 : Wld) (r1 : Int × Bool) : run tt (AbsCalls Try.prog) I6 3000 true (stkAt 14 I6.body) ⟨(S6_14 x4 x12 b3 b6), [true, true, true], [xAg r1], []⟩ = some (.done (xAt false) [(decide ((x12 : Int) < (List.length (Wld.files b3) : Int))) = true, (0 : Int) ≤ x12 ∧ x12 < (List.length (Wld.files b3)), AbC 34 (xAA b6 (Fil.name (List.getD (Wld.files b3) (Int.toNat x12) Ty.fil.dflt))) (xAg r1), (!r1.2) = true, true = true]) := by kernel_rfl
theorem p6_14_1 (x4 : Str) (x12 : Int) (b3 b6 : Wld) (r1 : Int × Bool) : run tt (AbsCalls Try.prog) I6 3000 true (stkAt 14 I6.body) ⟨(S6_14 x4 x12 b3 b6), [true, false, true, true], [xAg r1], []⟩ = some (.done (xAt false) [(decide ((x12 : Int) < (List.length (Wld.files b3) : Int))) = true, (0 : Int) ≤ x12 ∧ x12 < (List.length (Wld.files b3)), AbC 34 (xAA b6 (Fil.name (List.getD (Wld.files b3) (Int.toNat x12) Ty.fil.dflt))) (xAg r1), (!r1.2) = false, (0 : Int) ≤ x12 ∧ x12 < (List.length (Wld.files b3)), (!(((Fil.name (List.getD (Wld.files b3) (Int.toNat x12) Ty.fil.dflt)) : Str) == x4)) = true, (0 : Int) ≤ x12 ∧ x12 < (List.length (Wld.files b3)), ((r1.1 : Int) != (Fil.n (List.getD (Wld.files b3) (Int.toNat x12) Ty.fil.dflt))) = true]) := by kernel_rfl
theorem p6_14_2 (x4 : Str) (x12 : Int) (b3 b6 : Wld) (r1 : Int × Bool) : run tt (AbsCalls Try.prog) I6 3000 true (stkAt 14 I6.body) ⟨(S6_14 x4 x12 b3 b6), [true, false, true, false], [xAg r1], []⟩ = some (.stop (stkAt 14 I6.body) (S6_14 x4 (IntKind.i64.wrap (x12 + 1)) b3 b6) [(decide ((x12 : Int) < (List.length (Wld.files b3) : Int))) = true, (0 : Int) ≤ x12 ∧ x12 < (List.length (Wld.files b3)), AbC 34 (xAA b6 (Fil.name (List.getD (Wld.files b3) (Int.toNat x12) Ty.fil.dflt))) (xAg r1), (!r1.2) = false, (0 : Int) ≤ x12 ∧ x12 < (List.length (Wld.files b3)), (!(((Fil.name (List.getD (Wld.files b3) (Int.toNat x12) Ty.fil.dflt)) : Str) == x4)) = true, (0 : Int) ≤ x12 ∧ x12 < (List.length (Wld.files b3)), ((r1.1 : Int) != (Fil.n (List.getD (Wld.files b3) (Int.toNat x12) Ty.fil.dflt))) = false]) := by kernel_rfl
theorem p6_14_3 (x4 : Str) (x12 : Int) (b3 b6 : Wld) (r1 : Int × Bool) : run tt (AbsCalls Try.prog) I6 3000 true (stkAt 14 I6.body) ⟨(S6_14 x4 x12 b3 b6), [true, false, false, false], [xAg r1], []⟩ = some (.stop (stkAt 14 I6.body) (S6_14 x4 (IntKind.i64.wrap (x12 + 1)) b3 b6) [(decide ((x12 : Int) < (List.length (Wld.files b3) : Int))) = true, (0 : Int) ≤ x12 ∧ x12 < (List.length (Wld.files b3)), AbC 34 (xAA b6 (Fil.name (List.getD (Wld.files b3) (Int.toNat x12) Ty.fil.dflt))) (xAg r1), (!r1.2) = false, (0 : Int) ≤ x12 ∧ x12 < (List.length (Wld.files b3)), (!(((Fil.name (List.getD (Wld.files b3) (Int.toNat x12) Ty.fil.dflt)) : Str) == x4)) = false, false = false]) := by kernel_rfl
theorem p6_14_4 (x4 : Str) (x12 : Int) (b3 b6 r1 : Wld) (r2 : Bool) : run tt (AbsCalls Try.prog) I6 3000 true (stkAt 14 I6.body) ⟨(S6_14 x4 x12 b3 b6), [false, true, true], [xAx r1, xAa r2], []⟩ = some (.done (xAt true) [(decide ((x12 : Int) < (List.length (Wld.files b3) : Int))) = false, AbC 35 (xA3 b6) (xAx r1), AbC 33 (xAf r1) (xAa r2), r2 = true, (((Wld.clock r1) : Int) == (IntKind.i64.wrap ((Wld.clock b6) + 1))) = true]) := by kernel_rfl
theorem p6_14_5 (x4 : Str) (x12 : Int) (b3 b6 r1 : Wld) (r2 : Bool) : run tt (AbsCalls Try.prog) I6 3000 true (stkAt 14 I6.body) ⟨(S6_14 x4 x12 b3 b6), [false, true, false, true], [xAx r1, xAa r2], []⟩ = some (.done (xAt (((Wld.clock r1) : Int) == (Wld.clock b6))) [(decide ((x12 : Int) < (List.length (Wld.files b3) : Int))) = false, AbC 35 (xA3 b6) (xAx r1), AbC 33 (xAf r1) (xAa r2), r2 = true, (((Wld.clock r1) : Int) == (IntKind.i64.wrap ((Wld.clock b6) + 1))) = false, (((Wld.clock b6) : Int) == 1000) = true]) := by kernel_rfl
theorem p6_14_6 (x4 : Str) (x12 : Int) (b3 b6 r1 : Wld) (r2 : Bool) : run tt (AbsCalls Try.prog) I6 3000 true (stkAt 14 I6.body) ⟨(S6_14 x4 x12 b3 b6), [false, true, false, false], [xAx r1, xAa r2], []⟩ = some (.done (xAt false) [(decide ((x12 : Int) < (List.length (Wld.files b3) : Int))) = false, AbC 35 (xA3 b6) (xAx r1), AbC 33 (xAf r1) (xAa r2), r2 = true, (((Wld.clock r1) : Int) == (IntKind.i64.wrap ((Wld.clock b6) + 1))) = false, (((Wld.clock b6) : Int) == 1000) = false]) := by kernel_rfl
theorem p6_14_7 (x4 : Str) (x12 : Int) (b3 b6 r1 : Wld) (r2 : Bool) : run tt (AbsCalls Try.prog) I6 3000 true (stkAt 14 I6.body) ⟨(S6_14 x4 x12 b3 b6), [false, false], [xAx r1, xAa r2], []⟩ = some (.done (xAt false) [(decide ((x12 : Int) < (List.length (Wld.files b3) : Int))) = false, AbC 35 (xA3 b6) (xAx r1), AbC 33 (xAf r1) (xAa r2), r2 = false]) := by kernel_rfl
theorem p6_e_8 (a0 : List Int) (r1 : Bool) : run tt (AbsCalls Try.prog) I6 3000 false [.code I6.body] ⟨(zBm 0 (xAX a0)), [true], [xAJ r1], []⟩ = some (.done (xAt true) [AbC 29 (xBk a0) (xAJ r1), r1 = true]) := by kernel_rfl
theorem p6_e_9 (a0 : List Int) (r1 : Bool) (r2 : Wld × Str × Int) (r3 : Wld × Bool) (r4 : Wld × Bool) : run tt (AbsCalls Try.prog) I6 3000 false [.code I6.body] ⟨(zBm 0 (xAX a0)), [false, true, true], [xAJ r1, xAj r2, xAh r3, xAk r4], []⟩ = some (.done (xAt false) [AbC 29 (xBk a0) (xAJ r1), r1 = false, AbC 30 (xAB a0) (xAj r2), AbC 31 (xAR r2.1 r2.2.1 r2.2.2) (xAh r3), AbC 32 (xAY r2.1 r2.2.1 r2.2.2) (xAk r4), (!((r3.2 : Bool) == r4.2)) = true, true = true]) := by kernel_rfl
theorem p6_e_10 (a0 : List Int) (r1 : Bool) (r2 : Wld × Str × Int) (r3 : Wld × Bool) (r4 : Wld × Bool) (r5 : Bool) : run tt (AbsCalls Try.prog) I6 3000 false [.code I6.body] ⟨(zBm 0 (xAX a0)), [false, false, true, true], [xAJ r1, xAj r2, xAh r3, xAk r4, xAa r5], []⟩ = some (.done (xAt false) [AbC 29 (xBk a0) (xAJ r1), r1 = false, AbC 30 (xAB a0) (xAj r2), AbC 31 (xAR r2.1 r2.2.1 r2.2.2) (xAh r3), AbC 32 (xAY r2.1 r2.2.1 r2.2.2) (xAk r4), (!((r3.2 : Bool) == r4.2)) = false, r3.2 = true, AbC 33 (xAf r3.1) (xAa r5), (!r5) = true]) := by kernel_rfl
theorem p6_e_11 (a0 : List Int) (r1 : Bool) (r2 : Wld × Str × Int) (r3 : Wld × Bool) (r4 : Wld × Bool) (r5 : Bool) (r6 : Int × Bool) : run tt (AbsCalls Try.prog) I6 3000 false [.code I6.body] ⟨(zBm 0 (xAX a0)), [false, false, true, false, false, true, true], [xAJ r1, xAj r2, xAh r3, xAk r4, xAa r5, xAg r6], []⟩ = some (.done (xAt false) [AbC 29 (xBk a0) (xAJ r1), r1 = false, AbC 30 (xAB a0) (xAj r2), AbC 31 (xAR r2.1 r2.2.1 r2.2.2) (xAh r3), AbC 32 (xAY r2.1 r2.2.1 r2.2.2) (xAk r4), (!((r3.2 : Bool) == r4.2)) = false, r3.2 = true, AbC 33 (xAf r3.1) (xAa r5), (!r5) = false, (!r3.2) = false, AbC 34 (xAA r3.1 r2.2.1) (xAg r6), (!r6.2) = true, true = true]) := by kernel_rfl
theorem p6_e_12 (a0 : List Int) (r1 : Bool) (r2 : Wld × Str × Int) (r3 : Wld × Bool) (r4 : Wld × Bool) (r5 : Bool) (r6 : Int × Bool) : run tt (AbsCalls Try.prog) I6 3000 false [.code I6.body] ⟨(zBm 0 (xAX a0)), [false, false, true, false, false, false, true], [xAJ r1, xAj r2, xAh r3, xAk r4, xAa r5, xAg r6], []⟩ = some (.done (xAt false) [AbC 29 (xBk a0) (xAJ r1), r1 = false, AbC 30 (xAB a0) (xAj r2), AbC 31 (xAR r2.1 r2.2.1 r2.2.2) (xAh r3), AbC 32 (xAY r2.1 r2.2.1 r2.2.2) (xAk r4), (!((r3.2 : Bool) == r4.2)) = false, r3.2 = true, AbC 33 (xAf r3.1) (xAa r5), (!r5) = false, (!r3.2) = false, AbC 34 (xAA r3.1 r2.2.1) (xAg r6), (!r6.2) = false, ((r6.1 : Int) != r2.2.2) = true]) := by kernel_rfl
theorem p6_e_13 (a0 : List Int) (r1 : Bool) (r2 : Wld × Str × Int) (r3 : Wld × Bool) (r4 : Wld × Bool) (r5 : Bool) (r6 : Int × Bool) : run tt (AbsCalls Try.prog) I6 3000 false [.code I6.body] ⟨(zBm 0 (xAX a0)), [false, false, true, false, false, false, false], [xAJ r1, xAj r2, xAh r3, xAk r4, xAa r5, xAg r6], []⟩ = some (.stop (stkAt 14 I6.body) (S6_14 r2.2.1 0 r2.1 r3.1) [AbC 29 (xBk a0) (xAJ r1), r1 = false, AbC 30 (xAB a0) (xAj r2), AbC 31 (xAR r2.1 r2.2.1 r2.2.2) (xAh r3), AbC 32 (xAY r2.1 r2.2.1 r2.2.2) (xAk r4), (!((r3.2 : Bool) == r4.2)) = false, r3.2 = true, AbC 33 (xAf r3.1) (xAa r5), (!r5) = false, (!r3.2) = false, AbC 34 (xAA r3.1 r2.2.1) (xAg r6), (!r6.2) = false, ((r6.1 : Int) != r2.2.2) = false]) := by kernel_rfl
theorem p6_e_14 (a0 : List Int) (r1 : Bool) (r2 : Wld × Str × Int) (r3 : Wld × Bool) (r4 : Wld × Bool) : run tt (AbsCalls Try.prog) I6 3000 false [.code I6.body] ⟨(zBm 0 (xAX a0)), [false, false, false, false, true, true], [xAJ r1, xAj r2, xAh r3, xAk r4], []⟩ = some (.done (xAt (((List.length (Wld.files r3.1) : Int) : Int) == (List.length (Wld.files r2.1) : Int))) [AbC 29 (xBk a0) (xAJ r1), r1 = false, AbC 30 (xAB a0) (xAj r2), AbC 31 (xAR r2.1 r2.2.1 r2.2.2) (xAh r3), AbC 32 (xAY r2.1 r2.2.1 r2.2.2) (xAk r4), (!((r3.2 : Bool) == r4.2)) = false, r3.2 = false, false = false, (!r3.2) = true, (((Wld.clock r3.1) : Int) == (Wld.clock r2.1)) = true]) := by kernel_rfl
theorem p6_e_15 (a0 : List Int) (r1 : Bool) (r2 : Wld × Str × Int) (r3 : Wld × Bool) (r4 : Wld × Bool) : run tt (AbsCalls Try.prog) I6 3000 false [.code I6.body] ⟨(zBm 0 (xAX a0)), [false, false, false, false, true, false], [xAJ r1, xAj r2, xAh r3, xAk r4], []⟩ = some (.done (xAt false) [AbC 29 (xBk a0) (xAJ r1), r1 = false, AbC 30 (xAB a0) (xAj r2), AbC 31 (xAR r2.1 r2.2.1 r2.2.2) (xAh r3), AbC 32 (xAY r2.1 r2.2.1 r2.2.2) (xAk r4), (!((r3.2 : Bool) == r4.2)) = false, r3.2 = false, false = false, (!r3.2) = true, (((Wld.clock r3.1) : Int) == (Wld.clock r2.1)) = false]) := by kernel_rfl
theorem c6_14 {N : Nat} : ∀ n x4 x12 b3 b6 r, xA6 N n x4 x12 b3 b6 = some r → Reach Try.prog Try.f6 I6 (stkAt 14 I6.body) (S6_14 x4 x12 b3 b6) (xAt r) := by
 intro n
 induction n with
 | zero => intro x4 x12 b3 b6 r h; have h' : (none : Option (Bool)) = some r := h; cases h'
 | succ n ih =>
  intro x4 x12 b3 b6 r h
  rw [xA6] at h
  rcases cond_inv h with ⟨h0, h⟩ | ⟨h0, h⟩
  ·obtain ⟨h1, h⟩ := ite_inv h
   obtain ⟨r1, h2, h⟩ := bind_inv h
   rcases cond_inv h with ⟨h3, h⟩ | ⟨h3, h⟩
   ·obtain rfl := Option.some.inj h
    exact Reach.done ttok mix fk6 (p6_14_0 x4 x12 b3 b6 r1) (obs_cons h0 (obs_cons h1 (obs_cons (xA1 h2) (obs_cons h3 (obs_cons rfl obs_nil)))))
   ·rcases cond_inv h with ⟨h5, h⟩ | ⟨h5, h⟩
    ·rcases cond_inv h with ⟨h7, h⟩ | ⟨h7, h⟩
     ·obtain rfl := Option.some.inj h
      exact Reach.done ttok mix fk6 (p6_14_1 x4 x12 b3 b6 r1) (obs_cons h0 (obs_cons h1 (obs_cons (xA1 h2) (obs_cons h3 (obs_cons h1 (obs_cons h5 (obs_cons h1 (obs_cons h7 obs_nil))))))))
     ·exact Reach.stop ttok mix fk6 (p6_14_2 x4 x12 b3 b6 r1) (obs_cons h0 (obs_cons h1 (obs_cons (xA1 h2) (obs_cons h3 (obs_cons h1 (obs_cons h5 (obs_cons h1 (obs_cons h7 obs_nil)))))))) (ih _ _ _ _ _ h)
    ·exact Reach.stop ttok mix fk6 (p6_14_3 x4 x12 b3 b6 r1) (obs_cons h0 (obs_cons h1 (obs_cons (xA1 h2) (obs_cons h3 (obs_cons h1 (obs_cons h5 (obs_cons rfl obs_nil))))))) (ih _ _ _ _ _ h)
  ·obtain ⟨r1, h1, h⟩ := bind_inv h
   obtain ⟨r2, h2, h⟩ := bind_inv h
   rcases cond_inv h with ⟨h3, h⟩ | ⟨h3, h⟩
   ·rcases cond_inv h with ⟨h4, h⟩ | ⟨h4, h⟩
    ·obtain rfl := Option.some.inj h
     exact Reach.done ttok mix fk6 (p6_14_4 x4 x12 b3 b6 r1 r2) (obs_cons h0 (obs_cons (xBT h1) (obs_cons (xAi h2) (obs_cons h3 (obs_cons h4 obs_nil)))))
    ·rcases cond_inv h with ⟨h5, h⟩ | ⟨h5, h⟩
     ·obtain rfl := Option.some.inj h
      exact Reach.done ttok mix fk6 (p6_14_5 x4 x12 b3 b6 r1 r2) (obs_cons h0 (obs_cons (xBT h1) (obs_cons (xAi h2) (obs_cons h3 (obs_cons h4 (obs_cons h5 obs_nil))))))
     ·obtain rfl := Option.some.inj h
      exact Reach.done ttok mix fk6 (p6_14_6 x4 x12 b3 b6 r1 r2) (obs_cons h0 (obs_cons (xBT h1) (obs_cons (xAi h2) (obs_cons h3 (obs_cons h4 (obs_cons h5 obs_nil))))))
   ·obtain rfl := Option.some.inj h
    exact Reach.done ttok mix fk6 (p6_14_7 x4 x12 b3 b6 r1 r2) (obs_cons h0 (obs_cons (xBT h1) (obs_cons (xAi h2) (obs_cons h3 obs_nil))))
theorem c6_e {N : Nat} : ∀ a0 r, xB6 N a0 = some r → Reach Try.prog Try.f6 I6 [.code I6.body] (zBm 0 (xAX a0)) (xAt r) := by
 intro a0 r h
 unfold xB6 at h
 obtain ⟨r1, h0, h⟩ := bind_inv h
 rcases cond_inv h with ⟨h1, h⟩ | ⟨h1, h⟩
 ·obtain rfl := Option.some.inj h
  exact Reach.done ttok mix fk6 (p6_e_8 a0 r1) (obs_cons (xBR h0) (obs_cons h1 obs_nil))
 ·obtain ⟨r2, h2, h⟩ := bind_inv h
  obtain ⟨r3, h3, h⟩ := bind_inv h
  obtain ⟨r4, h4, h⟩ := bind_inv h
  rcases cond_inv h with ⟨h5, h⟩ | ⟨h5, h⟩
  ·obtain rfl := Option.some.inj h
   exact Reach.done ttok mix fk6 (p6_e_9 a0 r1 r2 r3 r4) (obs_cons (xBR h0) (obs_cons h1 (obs_cons (xA2 h2) (obs_cons (xBj h3) (obs_cons (xBm h4) (obs_cons h5 (obs_cons rfl obs_nil)))))))
  ·rcases cond_inv h with ⟨h6, h⟩ | ⟨h6, h⟩
   ·obtain ⟨r5, h7, h⟩ := bind_inv h
    rcases cond_inv h with ⟨h8, h⟩ | ⟨h8, h⟩
    ·obtain rfl := Option.some.inj h
     exact Reach.done ttok mix fk6 (p6_e_10 a0 r1 r2 r3 r4 r5) (obs_cons (xBR h0) (obs_cons h1 (obs_cons (xA2 h2) (obs_cons (xBj h3) (obs_cons (xBm h4) (obs_cons h5 (obs_cons h6 (obs_cons (xAi h7) (obs_cons h8 obs_nil)))))))))
    ·obtain ⟨r6, h10, h⟩ := bind_inv h
     rcases cond_inv h with ⟨h11, h⟩ | ⟨h11, h⟩
     ·obtain rfl := Option.some.inj h
      exact Reach.done ttok mix fk6 (p6_e_11 a0 r1 r2 r3 r4 r5 r6) (obs_cons (xBR h0) (obs_cons h1 (obs_cons (xA2 h2) (obs_cons (xBj h3) (obs_cons (xBm h4) (obs_cons h5 (obs_cons h6 (obs_cons (xAi h7) (obs_cons h8 (obs_cons (not_of h6) (obs_cons (xA1 h10) (obs_cons h11 (obs_cons rfl obs_nil)))))))))))))
     ·rcases cond_inv h with ⟨h12, h⟩ | ⟨h12, h⟩
      ·obtain rfl := Option.some.inj h
       exact Reach.done ttok mix fk6 (p6_e_12 a0 r1 r2 r3 r4 r5 r6) (obs_cons (xBR h0) (obs_cons h1 (obs_cons (xA2 h2) (obs_cons (xBj h3) (obs_cons (xBm h4) (obs_cons h5 (obs_cons h6 (obs_cons (xAi h7) (obs_cons h8 (obs_cons (not_of h6) (obs_cons (xA1 h10) (obs_cons h11 (obs_cons h12 obs_nil)))))))))))))
      ·exact Reach.stop ttok mix fk6 (p6_e_13 a0 r1 r2 r3 r4 r5 r6) (obs_cons (xBR h0) (obs_cons h1 (obs_cons (xA2 h2) (obs_cons (xBj h3) (obs_cons (xBm h4) (obs_cons h5 (obs_cons h6 (obs_cons (xAi h7) (obs_cons h8 (obs_cons (not_of h6) (obs_cons (xA1 h10) (obs_cons h11 (obs_cons h12 obs_nil))))))))))))) (c6_14   _ _ _ _ _ _ h)
   ·rcases cond_inv h with ⟨h9, h⟩ | ⟨h9, h⟩
    ·obtain rfl := Option.some.inj h
     exact Reach.done ttok mix fk6 (p6_e_14 a0 r1 r2 r3 r4) (obs_cons (xBR h0) (obs_cons h1 (obs_cons (xA2 h2) (obs_cons (xBj h3) (obs_cons (xBm h4) (obs_cons h5 (obs_cons h6 (obs_cons rfl (obs_cons (not_of h6) (obs_cons h9 obs_nil))))))))))
    ·obtain rfl := Option.some.inj h
     exact Reach.done ttok mix fk6 (p6_e_15 a0 r1 r2 r3 r4) (obs_cons (xBR h0) (obs_cons h1 (obs_cons (xA2 h2) (obs_cons (xBj h3) (obs_cons (xBm h4) (obs_cons h5 (obs_cons h6 (obs_cons rfl (obs_cons (not_of h6) (obs_cons h9 obs_nil))))))))))
theorem laws_FnWorld_ok {N : Nat} {a0 : List Int} {r : Bool} (h : xB6 N  a0 = some r) : AbC 6 (xAX a0) (xAt r) :=
 AbsCalls.of_reach fk6 rfl rfl (Nat.le_of_ble_eq_true rfl) (c6_e a0 r h)
end Go.Ab.T
end
section
namespace Go.Ab
set_option linter.unusedVariables false
def I64 (x : Int) : Prop := -9223372036854775808 ≤ x ∧ x ≤ 9223372036854775807
theorem wrap_i64_def (x : Int) : IntKind.i64.wrap x = if x % 18446744073709551616 ≥ 9223372036854775808 then x % 18446744073709551616 - 18446744073709551616 else x % 18446744073709551616 := by
  show (if (true && decide (x % 18446744073709551616 ≥ 9223372036854775808)) = true then x % 18446744073709551616 - 18446744073709551616 else x % 18446744073709551616) = _
  simp only [Bool.true_and, decide_eq_true_eq]
theorem xB3 {x : Int} (h1 : -9223372036854775808 ≤ x) (h2 : x ≤ 9223372036854775807) : IntKind.i64.wrap x = x := by
  rw [wrap_i64_def]
  split <;> omega
theorem i64_wrap (x : Int) : I64 (IntKind.i64.wrap x) := by
  rw [wrap_i64_def]
  unfold I64
  split <;> omega
theorem drop_cons {α : Type} {xs : List α} {i : Nat} {x : α} {l : List α} (h : xs.drop i = x :: l) : i < xs.length ∧ xs[i]? = some x ∧ xs.drop (i + 1) = l := by
  have h1 : i < xs.length := by
    rcases Nat.lt_or_ge i xs.length with h1 | h1
    · exact h1
    · rw [List.drop_eq_nil_of_le h1] at h; cases h
  rw [List.drop_eq_getElem_cons h1] at h
  cases h
  exact ⟨h1, by simp [h1], rfl⟩
theorem drop_nil {α : Type} {xs : List α} {i : Nat} (h : xs.drop i = []) : xs.length ≤ i := by simpa using h
end Go.Ab
end
section
namespace Go.Ab
set_option linter.unusedVariables false
def LFit {α : Type} (K : Nat) (p : α → Prop) (l : List α) : Prop := l.length ≤ K ∧ ∀ x ∈ l, p x
def Str.Fit (K : Nat) (s : Str) : Prop := s.length ≤ K
def Fil.Fit (K : Nat) (v : Fil) : Prop := Str.Fit K v.name ∧ I64 v.n
def Wld.Fit (K : Nat) (v : Wld) : Prop := I64 v.clock ∧ I64 v.seed ∧ LFit K (Fil.Fit K) v.files
end Go.Ab
end
section
namespace Go.Ab
set_option linter.unusedVariables false
theorem xCD {α σ ρ : Type} {L : Nat → Int → σ → Option ρ} (x0 : List α) (g : List α → σ → ρ) (Inv : Nat → σ → Prop)
    (hnil : ∀ n s, Inv x0.length s → L (n + 1) (x0.length : Nat) s = some (g [] s))
    (hcons : ∀ i x l s, x0.drop i = x :: l → i < x0.length → x0[i]? = some x → Inv i s →
      (∃ s', Inv (i + 1) s' ∧ g (x :: l) s = g l s' ∧ ∀ n, L (n + 1) (i : Nat) s = L n ((i + 1 : Nat) : Int) s') ∨ (∀ n, L (n + 1) (i : Nat) s = some (g (x :: l) s))) :
    ∀ n i s, Inv i s → i ≤ x0.length → x0.length < n + i → L n (i : Nat) s = some (g (x0.drop i) s) := by
  intro n
  induction n with
  | zero => intro i s _ h1 h2; omega
  | succ n ih =>
    intro i s hs hi hn
    cases hd : x0.drop i with
    | nil =>
      have := drop_nil hd
      obtain rfl : i = x0.length := by omega
      exact hnil n s hs
    | cons x l =>
      obtain ⟨h1, h2, h3⟩ := drop_cons hd
      rcases hcons i x l s hd h1 h2 hs with ⟨s', h4, h5, h6⟩ | h
      · rw [h6, ih (i + 1) s' h4 (by omega) (by omega), h3, h5]
      · exact h n
theorem xBG {α : Type} {xs : List α} {i : Nat} {x : α} (h : xs[i]? = some x) (d : α) : xs.getD i d = x := by simp [List.getD, h]
theorem xBw {i : Nat} {len : Nat} (h : i < len) (hl : len ≤ 9223372036854775807) : IntKind.i64.wrap ((i : Int) + 1) = ((i + 1 : Nat) : Int) := by
  rw [xB3 (by omega) (by omega)]; omega
def left (s : Nat) (l : Int) : Int := if (s : Int) ≤ l then l - s else -1
section
variable {α : Type} {d : α}
end
end Go.Ab
end
section
namespace Go.Ab
set_option linter.unusedVariables false
theorem vk (a b c : Int) (t : Str) (l : List Val) (k : List Str) (r : List Rowd) : (Val.mk a b c t l k r).kind = a := rfl
theorem vs (a b c : Int) (t : Str) (l : List Val) (k : List Str) (r : List Rowd) : (Val.mk a b c t l k r).step = c := rfl
theorem vl (a b c : Int) (t : Str) (l : List Val) (k : List Str) (r : List Rowd) : (Val.mk a b c t l k r).list = l := rfl
theorem ek (a b : Int) (t : Str) (l : List Exp) : (Exp.mk a b t l).kind = a := rfl
theorem ea (a b : Int) (t : Str) (l : List Exp) : (Exp.mk a b t l).args = l := rfl
end Go.Ab
end
section
namespace Go.Ab
set_option linter.unusedVariables false
set_option linter.unusedSimpArgs false
def xCP (c : UInt8) : Bool := decide ((c.toNat : Int) ≥ 97) && decide ((c.toNat : Int) ≤ 122)
def digitC (c : UInt8) : Bool := decide ((c.toNat : Int) ≥ 48) && decide ((c.toNat : Int) ≤ 57)
def xCu : List UInt8 → Bool → Bool
  | [], _ => true
  | x :: r, f => (xCP x || (!f && digitC x)) && xCu r false
theorem spec_l2Shape_eq {N : Nat} {s : Str} (hl : s.length ≤ 9223372036854775807) (hn : s.length < N) : xCj N s = some (xCu s true && decide ((s.length : Int) > 0)) :=
  xCD (L := fun n i _ => xAU N n s i) s (fun l f => xCu l f && decide ((s.length : Int) > 0)) (fun i f => f = (i == 0)) (fun n _ _ => by simp [xAU, xCu])
    (fun i x l f hd hi hx hf => by
      have hi' : (i : Int) < (s.length : Int) := by omega
      have hi0 : ((i : Int) == 0) = f := by rw [hf]; cases i <;> simp <;> omega
      by_cases h1 : (xCP x || (!f && digitC x)) = true
      · refine .inl ⟨false, by simp, by simp [xCu, h1], fun n => ?_⟩
        simp only [xAU, decide_eq_true hi', cond_true, Int.toNat_natCast, xBG hx, xBw hi hl, hi0]
        rw [if_pos (by omega)]
        unfold xCP digitC at h1
        by_cases c1 : (x.toNat : Int) ≥ 97 <;> by_cases c2 : (x.toNat : Int) ≤ 122 <;> by_cases c3 : (x.toNat : Int) ≥ 48 <;> by_cases c4 : (x.toNat : Int) ≤ 57 <;> cases f <;>
          simp only [c1, c2, c3, c4, decide_true, decide_false, cond_true, cond_false, Bool.not_true, Bool.not_false, Bool.and_true, Bool.and_false, Bool.or_true, Bool.or_false, Bool.false_and, Bool.true_and, Bool.false_or, Bool.false_eq_true] at h1 ⊢
      · refine .inr fun n => ?_
        have h1 := Bool.eq_false_iff.2 h1
        simp only [xAU, decide_eq_true hi', cond_true, Int.toNat_natCast, xBG hx, xBw hi hl, hi0, xCu, h1, Bool.false_and]
        rw [if_pos (by omega)]
        unfold xCP digitC at h1
        by_cases c1 : (x.toNat : Int) ≥ 97 <;> by_cases c2 : (x.toNat : Int) ≤ 122 <;> by_cases c3 : (x.toNat : Int) ≥ 48 <;> by_cases c4 : (x.toNat : Int) ≤ 57 <;> cases f <;>
          simp only [c1, c2, c3, c4, decide_true, decide_false, cond_true, cond_false, Bool.not_true, Bool.not_false, Bool.and_true, Bool.and_false, Bool.or_true, Bool.or_false, Bool.false_and, Bool.true_and, Bool.false_or, Bool.true_eq_false] at h1 ⊢) N 0 true rfl (by omega) (by omega)
theorem xCv (N : Nat) (a b c : Int) : xBH N a b c = some (decide (b ≤ a) && decide (a ≤ c)) := by
  unfold xBH
  cases h : decide (b ≤ a) <;> simp
theorem xCH (N : Nat) (a b c : Int) : xCi N a b c = some (decide (b ≤ a) && decide (a ≤ c)) := by
  unfold xCi
  cases h : decide (b ≤ a)
  · rfl
  · rfl
theorem impl_isWord_eq {N : Nat} {s : Str} (hl : s.length ≤ 9223372036854775807) (hn : s.length < N) : xCr N s = some (xCu s true && (decide ((1 : Int) ≤ s.length) && decide ((s.length : Int) ≤ 8))) :=
  xCD (L := fun n i _ => xA4 N n s i) s (fun l f => xCu l f && (decide ((1 : Int) ≤ s.length) && decide ((s.length : Int) ≤ 8))) (fun i f => f = (i == 0)) (fun n _ _ => by simp [xA4, xCu, xCv])
    (fun i x l f hd hi hx hf => by
      have hi' : (i : Int) < (s.length : Int) := by omega
      have hi0 : ((i : Int) == 0) = f := by rw [hf]; cases i <;> simp <;> omega
      have e1 : decide ((x.toNat : Int) < 48) = !decide ((x.toNat : Int) ≥ 48) := by by_cases c : (x.toNat : Int) ≥ 48 <;> simp [c] <;> omega
      have e2 : decide ((x.toNat : Int) > 57) = !decide ((x.toNat : Int) ≤ 57) := by by_cases c : (x.toNat : Int) ≤ 57 <;> simp [c] <;> omega
      by_cases h1 : (xCP x || (!f && digitC x)) = true
      · refine .inl ⟨false, by simp, by simp [xCu, h1], fun n => ?_⟩
        simp only [xA4, decide_eq_true hi', cond_true, Int.toNat_natCast, xBG hx, xBw hi hl, hi0, e1, e2]
        rw [if_pos (by omega)]
        unfold xCP digitC at h1
        by_cases c1 : (x.toNat : Int) ≥ 97 <;> by_cases c2 : (x.toNat : Int) ≤ 122 <;> by_cases c3 : (x.toNat : Int) ≥ 48 <;> by_cases c4 : (x.toNat : Int) ≤ 57 <;> cases f <;>
          simp only [c1, c2, c3, c4, decide_true, decide_false, cond_true, cond_false, Bool.not_true, Bool.not_false, Bool.and_true, Bool.and_false, Bool.or_true, Bool.or_false, Bool.false_and, Bool.true_and, Bool.false_or, Bool.false_eq_true] at h1 ⊢
      · refine .inr fun n => ?_
        have h1 := Bool.eq_false_iff.2 h1
        simp only [xA4, decide_eq_true hi', cond_true, Int.toNat_natCast, xBG hx, xBw hi hl, hi0, e1, e2, xCu, h1, Bool.false_and]
        rw [if_pos (by omega)]
        unfold xCP digitC at h1
        by_cases c1 : (x.toNat : Int) ≥ 97 <;> by_cases c2 : (x.toNat : Int) ≤ 122 <;> by_cases c3 : (x.toNat : Int) ≥ 48 <;> by_cases c4 : (x.toNat : Int) ≤ 57 <;> cases f <;>
          simp only [c1, c2, c3, c4, decide_true, decide_false, cond_true, cond_false, Bool.not_true, Bool.not_false, Bool.and_true, Bool.and_false, Bool.or_true, Bool.or_false, Bool.false_and, Bool.true_and, Bool.false_or, Bool.true_eq_false] at h1 ⊢) N 0 true rfl (by omega) (by omega)
def xCx : List Str := [[108, 101, 116], [105, 110], [105, 102], [116, 104, 101, 110], [101, 108, 115, 101], [102, 111, 114], [100, 111], [108, 101, 110], [115, 117, 109], [116, 97, 107, 101], [115, 107, 105, 112], [114, 97, 110, 103, 101], [110, 116, 104], [119, 104, 101, 114, 101], [107, 101, 101, 112], [97, 100, 100], [103, 114, 111, 117, 112], [106, 111, 105, 110], [99, 111, 108, 117, 109, 110], [114, 111, 119, 115], [99, 108, 111, 99, 107], [99, 104, 97, 110, 99, 101], [102, 105, 108, 101], [116, 97, 98, 108, 101]]
theorem spec_l1Has_eq {N : Nat} {xs : List Str} {s : Str} (hl : xs.length ≤ 9223372036854775807) (hn : xs.length < N) : xCy N xs s = some (xs.any (· == s)) :=
  xCD (σ := Unit) (L := fun n i _ => xBu N n xs s i) xs (fun l _ => l.any (· == s)) (fun _ _ => True) (fun n _ _ => by simp [xBu])
    (fun i x l _ hd hi hx _ => by
      have hi' : (i : Int) < (xs.length : Int) := by omega
      cases h1 : x == s
      · refine .inl ⟨(), trivial, by simp [h1], fun n => ?_⟩
        simp only [xBu, decide_eq_true hi', cond_true, Int.toNat_natCast, xBG hx, h1, cond_false, xBw hi hl]
        rw [if_pos (by omega)]
      · refine .inr fun n => ?_
        simp only [xBu, decide_eq_true hi', cond_true, Int.toNat_natCast, xBG hx, h1]
        rw [if_pos (by omega)]
        simp [h1]) N 0 () trivial (by omega) (by omega)
def xCI (s : Str) : Bool := xCx.any (· == s)
theorem spec_IsReserved_eq {N : Nat} {s : Str} (hn : 24 < N) : xBD N s = some (xCI s) := by
  unfold xBD xBS
  rw [Option.bind_some, show ([[108, 101, 116], [105, 110], [105, 102], [116, 104, 101, 110], [101, 108, 115, 101], [102, 111, 114], [100, 111], [108, 101, 110], [115, 117, 109], [116, 97, 107, 101], [115, 107, 105, 112], [114, 97, 110, 103, 101], [110, 116, 104], [119, 104, 101, 114, 101], [107, 101, 101, 112], [97, 100, 100], [103, 114, 111, 117, 112], [106, 111, 105, 110], [99, 111, 108, 117, 109, 110], [114, 111, 119, 115], [99, 108, 111, 99, 107], [99, 104, 97, 110, 99, 101], [102, 105, 108, 101], [116, 97, 98, 108, 101]] : List Str) = xCx from rfl, spec_l1Has_eq (by decide) hn]
  rfl
theorem impl_IsReserved_eq (N : Nat) (s : Str) : xBC N s = some (xCI s) := by
  by_cases h : s ∈ xCx
  · have h' : xCI s = true := List.any_eq_true.2 ⟨s, h, by simp⟩
    rw [h']
    simp only [xCx, List.mem_cons, List.not_mem_nil, or_false] at h
    rcases h with h | h | h | h | h | h | h | h | h | h | h | h | h | h | h | h | h | h | h | h | h | h | h | h <;> subst h <;> rfl
  · have h' : xCI s = false := by
      unfold xCI
      rw [List.any_eq_false]
      intro x hx hxs
      exact h (by rw [← eq_of_beq hxs]; exact hx)
    rw [h']
    have hne : ∀ x ∈ xCx, (s == x) = false := by
      intro x hx
      cases hb : s == x
      · rfl
      · exact absurd (by rw [eq_of_beq hb]; exact hx) h
    simp only [xCx, List.mem_cons, List.not_mem_nil, or_false, forall_eq_or_imp, forall_eq] at hne
    simp only [xBC, xBs, hne, cond_false, Option.bind_some]
    rfl
def xCd (s : Str) : Bool := xCu s true && (decide ((1 : Int) ≤ s.length) && decide ((s.length : Int) ≤ 8)) && !xCI s
theorem xCO {N : Nat} {s : Str} (hl : s.length ≤ 9223372036854775807) (hn : s.length < N) : xBq N s = some (xCd s) := by
  unfold xBq xCd
  rw [impl_isWord_eq hl hn, Option.bind_some]
  cases (xCu s true && (decide ((1 : Int) ≤ s.length) && decide ((s.length : Int) ≤ 8)))
  · rfl
  · rw [impl_IsReserved_eq]; rfl
theorem xCQ {N : Nat} {s : Str} (hl : s.length ≤ 9223372036854775807) (hn : s.length < N) (hn2 : 24 < N) : xBr N s = some (xCd s) := by
  unfold xBr xCd
  rw [spec_l2Shape_eq hl hn, Option.bind_some, spec_IsReserved_eq hn2]
  have : decide ((s.length : Int) > 0) = decide ((1 : Int) ≤ s.length) := by by_cases c : (s.length : Int) > 0 <;> simp [c] <;> omega
  rw [this]
  cases xCu s true <;> cases decide ((1 : Int) ≤ s.length) <;> cases decide ((s.length : Int) ≤ 8) <;> rfl
end Go.Ab
end
section
namespace Go.Ab
set_option linter.unusedVariables false
set_option linter.unusedSimpArgs false
def xCp : List Fil → Str → Int × Bool
  | [], _ => (0, false)
  | x :: r, s => bif x.name == s then (x.n, true) else xCp r s
theorem spec_FileContent_eq {N : Nat} {w : Wld} {s : Str} (hl : w.files.length ≤ 9223372036854775807) (hn : w.files.length < N) : spec_FileContent N w s = some (xCp w.files s) :=
  xCD (σ := Unit) (L := fun n i _ => xA8 N n s i w) w.files (fun l _ => xCp l s) (fun _ _ => True) (fun n _ _ => by simp [xA8, xCp])
    (fun i x l _ hd hi hx _ => by
      have hi' : (i : Int) < (w.files.length : Int) := by omega
      cases h1 : x.name == s
      · refine .inl ⟨(), trivial, by simp only [xCp, h1, cond_false], fun n => ?_⟩
        simp only [xA8, decide_eq_true hi', cond_true, Int.toNat_natCast, xBG hx, h1, cond_false, xBw hi hl]
        rw [if_pos (by omega)]
      · refine .inr fun n => ?_
        simp only [xA8, decide_eq_true hi', cond_true, Int.toNat_natCast, xBG hx, h1]
        rw [if_pos (by omega)]
        simp only [xCp, h1, cond_true]) N 0 () trivial (by omega) (by omega)
theorem xCq {N : Nat} {w : Wld} {s : Str} (hl : w.files.length ≤ 9223372036854775807) (hn : w.files.length < N) : xBp N w s = some (xCp w.files s) :=
  xCD (σ := Unit) (L := fun n i _ => xAQ N n s w.files w.files.length i) w.files (fun l _ => xCp l s) (fun _ _ => True) (fun n _ _ => by simp [xAQ, xCp])
    (fun i x l _ hd hi hx _ => by
      have hi' : (i : Int) < (w.files.length : Int) := by omega
      cases h1 : x.name == s
      · refine .inl ⟨(), trivial, by simp only [xCp, h1, cond_false], fun n => ?_⟩
        simp only [xAQ, decide_eq_true hi', cond_true, Int.toNat_natCast, xBG hx, h1, cond_false, xBw hi hl]
        rw [if_pos (by omega)]
      · refine .inr fun n => ?_
        simp only [xAQ, decide_eq_true hi', cond_true, Int.toNat_natCast, xBG hx, h1]
        rw [if_pos (by omega)]
        simp only [xCp, h1, cond_true]) N 0 () trivial (by omega) (by omega)
end Go.Ab
end
section
namespace Go.Ab
set_option linter.unusedVariables false
set_option linter.unusedSimpArgs false
def numOk (n : Int) : Bool := decide ((-1000000000 : Int) ≤ n) && decide (n ≤ 1000000000)
theorem spec_l3Number_eq (N : Nat) (n : Int) : xBW N n = some (numOk n) := by simp [xBW, xCH, numOk]
theorem impl_isNumber_eq (N : Nat) (n : Int) : xBU N n = some (numOk n) := by simp [xBU, xCv, numOk]
def xCt : Option Str → Str → Bool
  | none, _ => true
  | some p, s => Op.bytesLess p s
def xBB : List Fil → Option Str → Bool
  | [], _ => true
  | x :: r, p => xCd x.name && (numOk x.n && (xCt p x.name && xBB r (some x.name)))
def xCL (xs : List Fil) (i : Nat) : Option Str := if i = 0 then none else (xs[i - 1]?).map Fil.name
theorem prev_succ {xs : List Fil} {i : Nat} {x : Fil} (h : xs[i]? = some x) : xCL xs (i + 1) = some x.name := by simp [xCL, h]
theorem prev_pos {xs : List Fil} {i : Nat} (h0 : i ≠ 0) (h : i < xs.length) (d : Fil) : xCL xs i = some (xs.getD (i - 1) d).name := by
  have : i - 1 < xs.length := by omega
  simp [xCL, h0, List.getD, this]
theorem wrap_pred {i len : Nat} (h0 : i ≠ 0) (h : i < len) (hl : len ≤ 9223372036854775807) : IntKind.i64.wrap ((i : Int) - 1) = ((i - 1 : Nat) : Int) := by
  rw [xB3 (by omega) (by omega)]; omega
theorem spec_l14Files_eq {N K : Nat} {xs : List Fil} (hx : LFit K (Fil.Fit K) xs) (hK : 24 ≤ K ∧ K ≤ 4611686018427387904) (hN : K < N) : xCb N xs = some (xBB xs none && decide ((xs.length : Int) ≤ 4)) :=
  xCD (L := fun n i _ => xAM N n xs i) xs (fun l p => xBB l p && decide ((xs.length : Int) ≤ 4)) (fun i p => p = xCL xs i) (fun n p _ => by simp [xAM, xBB])
    (fun i x l p hd hi hxi hp => by
      have hl : xs.length ≤ K := hx.1
      have hi' : (i : Int) < (xs.length : Int) := by omega
      have hp : p = xCL xs i := hp
      have hname : x.name.length ≤ K := (hx.2 x (List.mem_of_getElem? hxi)).1
      have e1 := xCQ (s := x.name) (by omega) (by omega : _ < N) (by omega)
      have base : ∀ n, xAM N (n + 1) xs i = (bif (!xCd x.name) then some false else bif (!numOk x.n) then some false else
          bif decide ((i : Int) > 0) then (if (0 : Int) ≤ IntKind.i64.wrap ((i : Int) - 1) ∧ IntKind.i64.wrap ((i : Int) - 1) < xs.length then bif (!(Op.bytesLess (Fil.name (List.getD xs (Int.toNat (IntKind.i64.wrap ((i : Int) - 1))) Ty.fil.dflt)) x.name)) then some false else xAM N n xs ((i + 1 : Nat) : Int) else none) else xAM N n xs ((i + 1 : Nat) : Int)) := by
        intro n
        simp only [xAM, decide_eq_true hi', cond_true, Int.toNat_natCast, xBG hxi, e1, Option.bind_some, spec_l3Number_eq, xBw hi (by omega : xs.length ≤ _)]
        rw [if_pos (by omega)]
      cases h1 : xCd x.name
      · exact .inr fun n => by rw [base, h1]; simp [xBB, h1]
      cases h2 : numOk x.n
      · exact .inr fun n => by rw [base, h1, h2]; simp [xBB, h1, h2]
      by_cases h0 : i = 0
      · subst h0
        exact .inl ⟨some x.name, (prev_succ hxi).symm, by simp [xBB, h1, h2, hp, xCL, xCt], fun n => by rw [base, h1, h2]; simp⟩
      · have hpp := prev_pos h0 hi Ty.fil.dflt
        cases h3 : Op.bytesLess (xs.getD (i - 1) Ty.fil.dflt).name x.name
        · refine .inr fun n => ?_
          rw [base, h1, h2, decide_eq_true (by omega), wrap_pred h0 hi (by omega), Int.toNat_natCast, h3]
          simp only [Bool.not_true, Bool.not_false, cond_true, cond_false]
          rw [if_pos (by omega)]
          simp only [xBB, h1, h2, hp, hpp, xCt, h3, Bool.true_and, Bool.false_and]
        · refine .inl ⟨some x.name, (prev_succ hxi).symm, by simp only [xBB, h1, h2, hp, hpp, xCt, h3, Bool.true_and, Bool.false_and], fun n => ?_⟩
          rw [base, h1, h2, decide_eq_true (by omega), wrap_pred h0 hi (by omega), Int.toNat_natCast, h3]
          simp only [Bool.not_true, Bool.not_false, cond_true, cond_false]
          rw [if_pos (by omega)]) N 0 none rfl (by omega) (by have : xs.length ≤ K := hx.1; omega)
def xCF (w : Wld) : Bool := xBB w.files none && ((decide ((0 : Int) ≤ w.clock) && decide (w.clock ≤ 1000)) && ((decide ((0 : Int) ≤ w.seed) && decide (w.seed ≤ 1000000)) && decide ((w.files.length : Int) ≤ 4)))
theorem xCk {N K : Nat} {w : Wld} (h : w.Fit K) (hK : 24 ≤ K ∧ K ≤ 4611686018427387904) (hN : K < N) : xAF N w = some (xCF w) := by
  unfold xAF xCF
  rw [xCH, xCH, spec_l14Files_eq h.2.2 hK hN]
  simp only [Option.bind_some]
  cases (decide ((0 : Int) ≤ w.clock) && decide (w.clock ≤ 1000)) <;> cases (decide ((0 : Int) ≤ w.seed) && decide (w.seed ≤ 1000000)) <;> cases xBB w.files none <;> cases decide ((w.files.length : Int) ≤ 4) <;> rfl
theorem xBA {N K : Nat} {w : Wld} (h : w.Fit K) (hK : 24 ≤ K ∧ K ≤ 4611686018427387904) (hN : K < N) : xAE N w = some (xCF w) :=
  xCD (L := fun n i _ => xAs N n w.files w.files.length i w) w.files
    (fun l p => xBB l p && ((decide ((0 : Int) ≤ w.clock) && decide (w.clock ≤ 1000)) && ((decide ((0 : Int) ≤ w.seed) && decide (w.seed ≤ 1000000)) && decide ((w.files.length : Int) ≤ 4)))) (fun i p => p = xCL w.files i)
    (fun n p _ => by
      simp only [xAs, Int.lt_irrefl, decide_false, cond_false, xCv, Option.bind_some, xBB, Bool.true_and]
      cases (decide ((0 : Int) ≤ w.clock) && decide (w.clock ≤ 1000)) <;> cases (decide ((0 : Int) ≤ w.seed) && decide (w.seed ≤ 1000000)) <;> rfl)
    (fun i x l p hd hi hxi hp => by
      have hx := h.2.2
      have hl : w.files.length ≤ K := hx.1
      have hi' : (i : Int) < (w.files.length : Int) := by omega
      have hp : p = xCL w.files i := hp
      have hname : x.name.length ≤ K := (hx.2 x (List.mem_of_getElem? hxi)).1
      have e1 := xCO (s := x.name) (by omega) (by omega : _ < N)
      have base : ∀ n, xAs N (n + 1) w.files w.files.length i w = (bif (!xCd x.name) then some false else bif (!numOk x.n) then some false else
          bif decide ((i : Int) > 0) then (if (0 : Int) ≤ IntKind.i64.wrap ((i : Int) - 1) ∧ IntKind.i64.wrap ((i : Int) - 1) < w.files.length then bif (!(Op.bytesLess (Fil.name (List.getD w.files (Int.toNat (IntKind.i64.wrap ((i : Int) - 1))) Ty.fil.dflt)) x.name)) then some false else xAs N n w.files w.files.length ((i + 1 : Nat) : Int) w else none) else xAs N n w.files w.files.length ((i + 1 : Nat) : Int) w) := by
        intro n
        simp only [xAs, decide_eq_true hi', cond_true, Int.toNat_natCast, xBG hxi, e1, Option.bind_some, impl_isNumber_eq, xBw hi (by omega : w.files.length ≤ _)]
        rw [if_pos (by omega)]
      cases h1 : xCd x.name
      · exact .inr fun n => by rw [base, h1]; simp [xBB, h1]
      cases h2 : numOk x.n
      · exact .inr fun n => by rw [base, h1, h2]; simp [xBB, h1, h2]
      by_cases h0 : i = 0
      · subst h0
        exact .inl ⟨some x.name, (prev_succ hxi).symm, by simp [xBB, h1, h2, hp, xCL, xCt], fun n => by rw [base, h1, h2]; simp⟩
      · have hpp := prev_pos h0 hi Ty.fil.dflt
        cases h3 : Op.bytesLess (w.files.getD (i - 1) Ty.fil.dflt).name x.name
        · refine .inr fun n => ?_
          rw [base, h1, h2, decide_eq_true (by omega), wrap_pred h0 hi (by omega), Int.toNat_natCast, h3]
          simp only [Bool.not_true, Bool.not_false, cond_true, cond_false]
          rw [if_pos (by omega)]
          simp only [xBB, h1, h2, hp, hpp, xCt, h3, Bool.true_and, Bool.false_and]
        · refine .inl ⟨some x.name, (prev_succ hxi).symm, by simp only [xBB, h1, h2, hp, hpp, xCt, h3, Bool.true_and, Bool.false_and], fun n => ?_⟩
          rw [base, h1, h2, decide_eq_true (by omega), wrap_pred h0 hi (by omega), Int.toNat_natCast, h3]
          simp only [Bool.not_true, Bool.not_false, cond_true, cond_false]
          rw [if_pos (by omega)]) N 0 none rfl (by omega) (by have : w.files.length ≤ K := h.2.2.1; omega)
end Go.Ab
end
section
namespace Go.Ab
set_option linter.unusedVariables false
set_option linter.unusedSimpArgs false
def tick (w : Wld) : Wld := bif decide (w.clock < 1000) then Wld.mk (IntKind.i64.wrap (w.clock + 1)) w.seed w.files else w
end Go.Ab
end
section
namespace Go.Ab
set_option linter.unusedVariables false
set_option linter.unusedSimpArgs false
theorem bl_irrefl : ∀ x : Str, Op.bytesLess x x = false
  | [] => rfl
  | a :: x => by simp [Op.bytesLess, bl_irrefl x]
theorem bl_trans : ∀ {x y z : Str}, Op.bytesLess x y = true → Op.bytesLess y z = true → Op.bytesLess x z = true
  | _, [], _, h, _ => by simp [Op.bytesLess] at h
  | _, _ :: _, [], _, h => by simp [Op.bytesLess] at h
  | [], _ :: _, _ :: _, _, _ => rfl
  | a :: x, b :: y, c :: z, h, h' => by
    simp only [Op.bytesLess, Bool.or_eq_true, Bool.and_eq_true, decide_eq_true_eq, beq_iff_eq] at h h' ⊢
    rcases h with h | ⟨rfl, h⟩
    · rcases h' with h' | ⟨rfl, h'⟩
      · exact .inl (UInt8.lt_trans h h')
      · exact .inl h
    · rcases h' with h' | ⟨rfl, h'⟩
      · exact .inl h'
      · exact .inr ⟨rfl, bl_trans h h'⟩
theorem bl_total : ∀ {x y : Str}, Op.bytesLess x y = false → x ≠ y → Op.bytesLess y x = true
  | [], [], _, h => absurd rfl h
  | [], _ :: _, h, _ => by simp [Op.bytesLess] at h
  | _ :: _, [], _, _ => rfl
  | a :: x, b :: y, h, h' => by
    simp only [Op.bytesLess, Bool.or_eq_false_iff, decide_eq_false_iff_not, Bool.and_eq_false_imp, beq_iff_eq, Bool.or_eq_true, Bool.and_eq_true, decide_eq_true_eq] at h ⊢
    by_cases e : a = b
    · subst e
      exact .inr ⟨rfl, bl_total (h.2 rfl) fun e => h' (by rw [e])⟩
    · left
      rcases UInt8.lt_or_lt_of_ne e with h1 | h1
      · exact absurd h1 h.1
      · exact h1
theorem bl_asymm {x y : Str} (h : Op.bytesLess x y = true) : Op.bytesLess y x = false := by
  cases h' : Op.bytesLess y x
  · rfl
  · have := bl_trans h h'; rw [bl_irrefl] at this; cases this
theorem bl_ne {x y : Str} (h : Op.bytesLess x y = true) : x ≠ y := by rintro rfl; rw [bl_irrefl] at h; cases h
def insG (s : Str) (n : Int) : List Fil → Bool → List Fil
  | [], done => bif done then [] else [⟨s, n⟩]
  | f :: r, done => (bif !done && (Op.bytesLess s f.name || s == f.name) then [⟨s, n⟩] else []) ++ ((bif !(f.name == s) then [f] else []) ++ insG s n r (done || (Op.bytesLess s f.name || s == f.name)))
def setG (s : Str) (n : Int) : List Fil → List Fil
  | [] => [⟨s, n⟩]
  | f :: r => bif Op.bytesLess f.name s then f :: setG s n r else bif f.name == s then ⟨f.name, n⟩ :: r else ⟨s, n⟩ :: f :: r
theorem insG_done {s : Str} {n : Int} : ∀ {l : List Fil}, (∀ f ∈ l, Op.bytesLess s f.name = true) → insG s n l true = l
  | [], _ => rfl
  | f :: r, h => by
    have h1 := h f List.mem_cons_self
    have h2 : (f.name == s) = false := by have := bl_ne h1; simp; exact fun e => this e.symm
    simp only [insG, Bool.not_true, Bool.false_and, cond_false, List.nil_append, h2, Bool.not_false, cond_true, Bool.true_or, insG_done fun g hg => h g (List.mem_cons_of_mem _ hg), List.cons_append]
theorem xCB {s : Str} : ∀ {l : List Fil}, xBB l (some s) = true → ∀ f ∈ l, Op.bytesLess s f.name = true
  | [], _, f, hf => by cases hf
  | g :: r, h, f, hf => by
    simp only [xBB, Bool.and_eq_true, xCt] at h
    obtain ⟨_, _, h1, h2⟩ := h
    rcases List.mem_cons.1 hf with rfl | hf
    · exact h1
    · exact bl_trans h1 (xCB h2 f hf)
theorem insG_setG {s : Str} {n : Int} : ∀ {l : List Fil} {p : Option Str}, xBB l p = true → insG s n l false = setG s n l
  | [], _, _ => rfl
  | f :: r, p, h => by
    simp only [xBB, Bool.and_eq_true] at h
    obtain ⟨_, _, _, h2⟩ := h
    have hr := xCB h2
    cases h3 : Op.bytesLess f.name s
    · by_cases e : f.name = s
      · subst e
        simp only [insG, setG, h3, beq_self_eq_true, Bool.or_true, Bool.not_false, Bool.and_self, cond_true, Bool.not_true, cond_false, List.nil_append, Bool.false_or, insG_done hr, List.cons_append, bl_irrefl]
      · have h4 := bl_total h3 e
        have h5 : (f.name == s) = false := by simpa using e
        simp only [insG, setG, h3, h4, h5, Bool.true_or, Bool.not_false, Bool.and_self, cond_true, cond_false, List.cons_append, List.nil_append, Bool.or_true]
        rw [insG_done fun g hg => bl_trans h4 (hr g hg)]
    · have h4 := bl_asymm h3
      have h5 : (f.name == s) = false := by simpa using bl_ne h3
      have h6 : (s == f.name) = false := by have := bl_ne h3; simp; exact fun e => this e.symm
      simp only [insG, setG, h3, h4, h5, h6, Bool.or_self, Bool.not_false, Bool.and_false, cond_true, cond_false, List.cons_append, List.nil_append, insG_setG h2]
theorem insG_length {s : Str} {n : Int} : ∀ {l : List Fil} {d : Bool}, (insG s n l d).length ≤ l.length + (bif d then 0 else 1)
  | [], d => by cases d <;> simp [insG]
  | f :: r, d => by
    have h1 := insG_length (s := s) (n := n) (l := r) (d := (d || (Op.bytesLess s f.name || s == f.name)))
    simp only [insG, List.length_append, List.length_cons]
    revert h1
    cases d <;> cases (Op.bytesLess s f.name || s == f.name) <;> cases (f.name == s) <;> simp <;> omega
theorem insG_mem {s : Str} {n : Int} : ∀ {l : List Fil} {d : Bool} {x : Fil}, x ∈ insG s n l d → x = ⟨s, n⟩ ∨ x ∈ l
  | [], d, x, h => by cases d <;> simp [insG] at h; exact .inl h
  | f :: r, d, x, h => by
    simp only [insG, List.mem_append] at h
    rcases h with h | h | h
    · revert h; cases (!d && (Op.bytesLess s f.name || s == f.name)) <;> simp; exact fun e => .inl e
    · revert h; cases (!(f.name == s)) <;> simp; exact fun e => .inr (.inl e)
    · rcases insG_mem h with h | h
      · exact .inl h
      · exact .inr (List.mem_cons_of_mem _ h)
def finG (w : Wld) (l : List Fil) : Wld × Bool := bif !xCF w then (w, false) else bif !xCF ⟨w.clock, w.seed, l⟩ then (w, false) else (⟨w.clock, w.seed, l⟩, true)
theorem spec_copy_eq {N : Nat} {w : Wld} (h : w.files.length ≤ 1048576) : xBd N w = some w := by
  unfold xBd
  rw [if_pos (by unfold Lim; omega)]
  rfl
theorem impl_copy_eq {N : Nat} {w : Wld} (h : w.files.length ≤ 1048576) : xAV N w = some w := spec_copy_eq (N := N) h
theorem fit_out {w : Wld} {s : Str} {n : Int} (h : w.Fit 1048576) (hs : s.length ≤ 1048576) (hn : I64 n) {l : List Fil} (hl : l.length ≤ w.files.length + 1) (hm : ∀ x ∈ l, x = ⟨s, n⟩ ∨ x ∈ w.files) : (Wld.mk w.clock w.seed l).Fit 2097152 := by
  obtain ⟨h1, h2, h3, h4⟩ := h
  have h3 : w.files.length ≤ 1048576 := h3
  refine ⟨h1, h2, by show l.length ≤ _; omega, fun x hx => ?_⟩
  rcases hm x hx with rfl | hx
  · exact ⟨show s.length ≤ _ by omega, hn⟩
  · have := h4 x hx
    exact ⟨by have : x.name.length ≤ 1048576 := this.1; show x.name.length ≤ _; omega, this.2⟩
theorem fit_more {w : Wld} (h : w.Fit 1048576) : w.Fit 2097152 := by
  obtain ⟨h1, h2, h3, h4⟩ := h
  have h3 : w.files.length ≤ 1048576 := h3
  refine ⟨h1, h2, by show w.files.length ≤ _; omega, fun x hx => ?_⟩
  have := h4 x hx
  exact ⟨by have : x.name.length ≤ 1048576 := this.1; show x.name.length ≤ _; omega, this.2⟩
theorem spec_SetFile_eq {N : Nat} {w : Wld} {s : Str} {n : Int} (h : w.Fit 1048576) (hs : s.length ≤ 1048576) (hn : I64 n) (hN : 2097152 < N) : xCf N w s n = some (finG w (insG s n w.files false)) := by
  have hl : w.files.length ≤ 1048576 := h.2.2.1
  have hv := xCk (fit_more h) (by omega) hN
  have hend : ∀ l : List Fil, (Wld.mk w.clock w.seed l).Fit 2097152 → (Option.bind (xAF N w) fun r1 => bif !r1 then (Option.bind (xBd N w) fun r2 => some (r2, false)) else
      (Option.bind (xAF N (Wld.mk w.clock w.seed l)) fun r2 => bif !r2 then (Option.bind (xBd N w) fun r3 => some (r3, false)) else some (Wld.mk w.clock w.seed l, true))) = some (finG w l) := by
    intro l hf
    rw [hv, xCk hf (by omega) hN, spec_copy_eq hl]
    simp only [Option.bind_some, finG]
    cases xCF w <;> cases xCF ⟨w.clock, w.seed, l⟩ <;> rfl
  have key := xCD (L := fun m i (st : Bool × List Fil) => xAv N m s n st.1 i w (Wld.mk 0 0 []) (Wld.mk w.clock w.seed st.2)) w.files (fun l st => finG w (st.2 ++ insG s n l st.1))
    (fun i st => ∃ l, w.files.drop i = l ∧ insG s n w.files false = st.2 ++ insG s n l st.1 ∧ st.2.length ≤ i + (bif st.1 then 1 else 0))
    (fun m st hst => by
      obtain ⟨d, out⟩ := st
      obtain ⟨l, e1, e2, e3⟩ := hst
      rw [List.drop_length] at e1; subst e1
      have hf : (Wld.mk w.clock w.seed (out ++ insG s n [] d)).Fit 2097152 := by rw [← e2]; exact fit_out h hs hn insG_length fun x => insG_mem
      have e3 : out.length ≤ w.files.length + 1 := by cases d <;> simp at e3 <;> omega
      have := hend _ hf
      cases d
      · simp only [xAv, Int.lt_irrefl, decide_false, cond_false, Bool.not_false, cond_true]
        rw [if_pos (by simp only [List.length_cons, List.length_nil]; unfold Lim; omega)]
        exact this
      · simp only [xAv, Int.lt_irrefl, decide_false, cond_false, Bool.not_true]
        have e0 : out ++ insG s n [] true = out := by simp [insG]
        rw [e0] at this ⊢
        exact this)
    (fun i x l st hd hi hx hst => by
      obtain ⟨d, out⟩ := st
      obtain ⟨l', e1, e2, e3⟩ := hst
      rw [hd] at e1; subst e1
      have e3 : out.length ≤ i + (bif d then 1 else 0) := e3
      have e3' : out.length ≤ i + 1 := by cases d <;> simp at e3 <;> omega
      have hi' : (i : Int) < (w.files.length : Int) := by omega
      have hdr : w.files.drop (i + 1) = l := (drop_cons hd).2.2
      have base : ∀ m, xAv N (m + 1) s n d i w (Wld.mk 0 0 []) (Wld.mk w.clock w.seed out) = xAv N m s n (d || (Op.bytesLess s x.name || s == x.name)) ((i + 1 : Nat) : Int) w (Wld.mk 0 0 [])
          (Wld.mk w.clock w.seed (out ++ ((bif !d && (Op.bytesLess s x.name || s == x.name) then [⟨s, n⟩] else []) ++ (bif !(x.name == s) then [x] else [])))) := by
        intro m
        simp only [xAv, decide_eq_true hi', cond_true, Int.toNat_natCast, xBG hx, xBw hi (by omega : w.files.length ≤ _)]
        rw [if_pos (by omega)]
        cases d
        · cases (Op.bytesLess s x.name || s == x.name) <;> cases (x.name == s)
          · simp only [Bool.not_false, cond_true, cond_false, Bool.false_or, Bool.and_false, List.nil_append]
            rw [if_pos (by simp only [List.length_cons, List.length_nil]; unfold Lim; omega)]
          · simp only [Bool.not_false, Bool.not_true, cond_true, cond_false, Bool.false_or, Bool.and_false, List.nil_append, List.append_nil]
          · simp only [Bool.not_false, cond_true, Bool.false_or, Bool.and_true]
            rw [if_pos (by simp only [List.length_cons, List.length_nil]; unfold Lim; omega), if_pos (by simp only [List.length_append, List.length_cons, List.length_nil]; unfold Lim; omega), List.append_assoc]
          · simp only [Bool.not_false, Bool.not_true, cond_true, cond_false, Bool.false_or, Bool.and_true, List.append_nil]
            rw [if_pos (by simp only [List.length_cons, List.length_nil]; unfold Lim; omega)]
        · cases (x.name == s)
          · simp only [Bool.not_true, Bool.not_false, cond_true, cond_false, Bool.true_or, Bool.false_and, List.nil_append]
            rw [if_pos (by simp only [List.length_cons, List.length_nil]; unfold Lim; omega)]
          · simp only [Bool.not_true, cond_false, Bool.true_or, Bool.false_and, List.nil_append, List.append_nil]
      refine .inl ⟨(d || (Op.bytesLess s x.name || s == x.name), out ++ ((bif !d && (Op.bytesLess s x.name || s == x.name) then [⟨s, n⟩] else []) ++ (bif !(x.name == s) then [x] else []))), ⟨l, hdr, ?_, ?_⟩, ?_, base⟩
      · rw [e2]; simp only [insG, List.append_assoc]
      · show List.length (out ++ _) ≤ i + 1 + _
        clear e2 base
        cases d <;> cases (Op.bytesLess s x.name || s == x.name) <;> cases (x.name == s) <;> simp at e3 ⊢ <;> omega
      · show finG w (out ++ insG s n (x :: l) d) = _
        simp only [insG, List.append_assoc])
    N 0 (false, []) ⟨w.files, rfl, rfl, by simp⟩ (by omega) (by omega)
  exact key
theorem xCE {s : Str} {n : Int} : ∀ {l : List Fil}, (setG s n l).length ≤ l.length + 1
  | [] => by simp [setG]
  | f :: r => by
    have := xCE (s := s) (n := n) (l := r)
    simp only [setG]
    cases Op.bytesLess f.name s <;> cases (f.name == s) <;> simp <;> omega
theorem setG_mem {s : Str} {n : Int} : ∀ {l : List Fil} {x : Fil}, x ∈ setG s n l → x = ⟨s, n⟩ ∨ x ∈ l
  | [], x, h => by simp [setG] at h; exact .inl h
  | f :: r, x, h => by
    simp only [setG] at h
    cases h1 : Op.bytesLess f.name s
    · cases h2 : f.name == s
      · rw [h1, h2] at h; simp at h; rcases h with h | h | h <;> simp [h]
      · rw [h1, h2] at h
        have := eq_of_beq h2
        simp at h; rcases h with h | h
        · left; rw [h, this]
        · simp [h]
    · rw [h1] at h
      simp at h; rcases h with h | h
      · simp [h]
      · rcases setG_mem h with h | h <;> simp [h]
theorem impl_SetFile_eq {N : Nat} {w : Wld} {s : Str} {n : Int} (h : w.Fit 1048576) (hs : s.length ≤ 1048576) (hn : I64 n) (hN : 2097152 < N) : xB5 N w s n = some (finG w (setG s n w.files)) := by
  have hl : w.files.length ≤ 1048576 := h.2.2.1
  have hv := xBA (fit_more h) (by omega) hN
  unfold xB5
  rw [hv, impl_copy_eq hl]
  simp only [Option.bind_some]
  cases hw : xCF w
  · simp [finG, hw]
  · simp only [Bool.not_true, cond_false]
    have hend : ∀ l : List Fil, (Wld.mk w.clock w.seed l).Fit 2097152 → (Option.bind (xAE N (Wld.mk w.clock w.seed l)) fun r1 => bif !r1 then (Option.bind (xAV N w) fun r2 => some (r2, false)) else some (Wld.mk w.clock w.seed l, true)) = some (finG w l) := by
      intro l hf
      rw [xBA hf (by omega) hN, impl_copy_eq hl]
      simp only [Option.bind_some, finG, hw, Bool.not_true, cond_false]
      cases xCF ⟨w.clock, w.seed, l⟩ <;> rfl
    have hfit : (Wld.mk w.clock w.seed (setG s n w.files)).Fit 2097152 := fit_out h hs hn xCE fun x => setG_mem
    have key := xCD (σ := Unit) (L := fun m i _ => xA5 N m s n i w (Wld.mk 0 0 []) w) w.files (fun l _ => finG w (setG s n w.files))
      (fun i _ => ∃ l, w.files.drop i = l ∧ setG s n w.files = w.files.take i ++ setG s n l)
      (fun m _ hst => by
        obtain ⟨l, e1, e2⟩ := hst
        rw [List.drop_length] at e1; subst e1
        have e3 := hend _ hfit
        have e4 : setG s n w.files = w.files ++ [⟨s, n⟩] := by rw [e2]; simp [setG]
        rw [e4] at e3 ⊢
        simp only [xA5, Int.lt_irrefl, decide_false, cond_false, Int.toNat_natCast, List.take_length, List.drop_length, List.nil_append, List.append_nil]
        rw [if_pos (by omega), if_pos (by unfold Lim; omega), if_pos (by simp only [List.length_cons, List.length_nil]; unfold Lim; omega), if_pos (by simp only [List.length_append, List.length_cons, List.length_nil]; unfold Lim; omega)]
        exact e3)
      (fun i x l _ hd hi hx hst => by
        obtain ⟨l', e1, e2⟩ := hst
        rw [hd] at e1; subst e1
        have hi' : (i : Int) < (w.files.length : Int) := by omega
        have hdr : w.files.drop (i + 1) = l := (drop_cons hd).2.2
        have e3 := hend _ hfit
        cases h1 : Op.bytesLess x.name s
        · refine .inr fun m => ?_
          cases h2 : x.name == s
          · have e4 : setG s n w.files = w.files.take i ++ [⟨s, n⟩] ++ w.files.drop i := by rw [e2, hd]; simp [setG, h1, h2]
            rw [e4] at e3 ⊢
            simp only [xA5, decide_eq_true hi', cond_true, Int.toNat_natCast, xBG hx, h1, h2, cond_false, List.nil_append]
            rw [if_pos (by omega), if_pos (by omega), if_pos (by simp only [List.length_take]; unfold Lim; omega), if_pos (by simp only [List.length_take, List.length_cons, List.length_nil]; unfold Lim; omega), if_pos (by simp only [List.length_append, List.length_take, List.length_drop, List.length_cons, List.length_nil]; unfold Lim; omega)]
            exact e3
          · have e4 : setG s n w.files = w.files.set i ⟨x.name, n⟩ := by
              rw [e2]
              have e5 : w.files = w.files.take i ++ (x :: l) := by rw [← hd, List.take_append_drop]
              conv => rhs; rw [e5]
              rw [List.set_append, if_neg (by simp; omega)]
              have : (w.files.take i).length = i := by simp; omega
              rw [this, Nat.sub_self, List.set_cons_zero]
              simp [setG, h1, h2]
            rw [e4] at e3 ⊢
            simp only [xA5, decide_eq_true hi', cond_true, Int.toNat_natCast, xBG hx, h1, h2, cond_false]
            rw [if_pos (by omega), if_pos (by omega)]
            exact e3
        · refine .inl ⟨(), ⟨l, hdr, ?_⟩, rfl, fun m => ?_⟩
          · rw [e2, List.take_add_one, hx]; simp [setG, h1]
          · simp only [xA5, decide_eq_true hi', cond_true, Int.toNat_natCast, xBG hx, h1, xBw hi (by omega : w.files.length ≤ _)]
            rw [if_pos (by omega)])
      N 0 () ⟨w.files, rfl, rfl⟩ (by omega) (by omega)
    exact key
theorem setfile_same {w : Wld} {s : Str} {n : Int} : finG w (insG s n w.files false) = finG w (setG s n w.files) := by
  cases h : xCF w
  · simp [finG, h]
  · have h' := h
    unfold xCF at h
    rw [Bool.and_eq_true] at h
    rw [insG_setG h.1]
end Go.Ab
end
section
namespace Go.Ab
set_option linter.unusedVariables false
set_option linter.unusedSimpArgs false
def kb : List Val → List Int → Bool
  | [], _ => false
  | _ :: _, [] => false
  | x :: r, k :: ks => (x.kind != k) || kb r ks
end Go.Ab
end
section
namespace Go.Ab
set_option linter.unusedVariables false
set_option linter.unusedSimpArgs false
def pick (k : Int) (n : Int) (rs : List Rowd) : List Rowd := rs.filter fun r => r.cells.getD k.toNat Ty.int.dflt == n
end Go.Ab
end
section
namespace Go.Ab
set_option linter.unusedVariables false
set_option linter.unusedSimpArgs false
def Ret {α : Type} (o : Option α) (Q : α → Prop) : Prop := ∃ r, o = some r ∧ Q r
theorem Ret.mk' {α : Type} {a : α} {Q : α → Prop} (h : Q a) : Ret (Option.some a) Q := ⟨a, rfl, h⟩
theorem Ret.bnd {α β : Type} {o : Option α} {f : α → Option β} {P : α → Prop} {Q : β → Prop} (h : Ret o P) (hf : ∀ a, P a → Ret (f a) Q) : Ret (Option.bind o f) Q := by
  obtain ⟨a, rfl, ha⟩ := h
  exact hf a ha
theorem Ret.cnd {α : Type} {b : Bool} {x y : Option α} {Q : α → Prop} (h1 : b = true → Ret x Q) (h2 : b = false → Ret y Q) : Ret (bif b then x else y) Q := by
  cases b
  · exact h2 rfl
  · exact h1 rfl
theorem Ret.chk {α : Type} {p : Prop} [Decidable p] {x : Option α} {Q : α → Prop} (hp : p) (h : Ret x Q) : Ret (if p then x else none) Q := by
  rw [if_pos hp]; exact h
theorem Ret.imp {α : Type} {o : Option α} {P Q : α → Prop} (h : Ret o P) (hi : ∀ a, P a → Q a) : Ret o Q := by
  obtain ⟨a, e, ha⟩ := h
  exact ⟨a, e, hi a ha⟩
theorem forRet {σ ρ : Type} {L : Nat → Int → σ → Option ρ} {Q : ρ → Prop} (len : Nat) (Inv : Nat → σ → Prop)
    (hend : ∀ n st, Inv len st → Ret (L (n + 1) (len : Nat) st) Q)
    (hstep : ∀ n i st, i < len → Inv i st → (∀ st', Inv (i + 1) st' → Ret (L n ((i + 1 : Nat) : Int) st') Q) → Ret (L (n + 1) (i : Nat) st) Q) :
    ∀ n i st, i ≤ len → Inv i st → len - i < n → Ret (L n (i : Nat) st) Q := by
  intro n
  induction n with
  | zero => intro i st _ _ h; omega
  | succ n ih =>
    intro i st hi hs h
    by_cases he : i = len
    · subst he; exact hend n st hs
    · exact hstep n i st (by omega) hs fun st' h' => ih (i + 1) st' (by omega) h' (by omega)
structure CurOk (c : Cur) : Prop where
  lo : 0 ≤ c.i
  len : c.b.length ≤ 1048576
def Dr {α : Type} (P : α → Prop) : α × Cur → Prop := fun r => P r.1 ∧ CurOk r.2
theorem and_255 (x : Int) : 0 ≤ andI .i64 x 255 ∧ andI .i64 x 255 ≤ 255 := by
  unfold andI
  have h : (BitVec.ofInt IntKind.i64.bits x &&& BitVec.ofInt IntKind.i64.bits 255).toNat ≤ 255 := by
    rw [BitVec.toNat_and]
    exact Nat.and_le_right
  rw [xB3 (by omega) (by omega)]
  omega
theorem new_ok {N : Nat} {a : List Int} (h : a.length ≤ 1048576) (hN : 1048576 < N) : Ret (xCn N a) CurOk := by
  unfold xCn
  refine forRet (σ := Int) (L := fun m i st => xBJ N m a st i) a.length (fun _ _ => True) (fun n st _ => ?_) (fun n i st hi _ ih => ?_) N 0 _ (by omega) trivial (by omega)
  · simp only [xBJ, Int.lt_irrefl, decide_false, cond_false]
    exact .mk' ⟨by show (0 : Int) ≤ 0; omega, h⟩
  · simp only [xBJ, decide_eq_true (show (i : Int) < (a.length : Int) by omega), cond_true, xBw hi (by omega : a.length ≤ _)]
    refine .cnd (fun _ => .chk ⟨by omega, by omega⟩ (ih _ trivial)) (fun _ => .mk' ⟨by show (0 : Int) ≤ 0; omega, h⟩)
theorem byte_ok {N : Nat} {c : Cur} (h : CurOk c) : Ret (xBy N c) (Dr fun v => 0 ≤ v ∧ v ≤ 255) := by
  unfold xBy
  have h1 := h.lo
  have h2 := h.len
  refine .cnd (fun hc => ?_) (fun _ => .mk' ⟨and_255 _, h1, h2⟩)
  have hc := of_decide_eq_true hc
  refine .chk ⟨h1, hc⟩ (.mk' ⟨and_255 _, ?_, h2⟩)
  show 0 ≤ IntKind.i64.wrap (c.i + 1)
  rw [xB3 (by omega) (by omega)]
  omega
theorem tmodB {x n : Int} (hx : 0 ≤ x) (hn : 0 < n) : 0 ≤ Int.tmod x n ∧ Int.tmod x n < n := by
  rw [Int.tmod_eq_emod_of_nonneg hx]
  exact ⟨Int.emod_nonneg _ (by omega), Int.emod_lt_of_pos _ hn⟩
theorem below_ok {N : Nat} {c : Cur} {n : Int} (h : CurOk c) : Ret (xAT N c n) (Dr fun v => 0 ≤ v ∧ (v < n ∨ v = 0)) := by
  unfold xAT
  refine .cnd (fun _ => .mk' ⟨⟨by omega, .inr rfl⟩, h⟩) (fun hc => ?_)
  have hc : ¬ n ≤ 0 := of_decide_eq_false hc
  have hn : n ≠ 0 := by omega
  refine .cnd (fun _ => .bnd (byte_ok h) fun a ha => ?_) (fun _ => .bnd (byte_ok h) fun a ha => .bnd (byte_ok ha.2) fun b hb => .bnd (byte_ok hb.2) fun d hd => .bnd (byte_ok hd.2) fun e he => ?_)
  · have := tmodB ha.1.1 (by omega : 0 < n)
    exact .chk hn (.mk' ⟨⟨this.1, .inl this.2⟩, ha.2⟩)
  · have a1 := ha.1; have b1 := hb.1; have d1 := hd.1; have e1 := he.1
    have key : ∀ x y z w : Int, (0 ≤ x ∧ x ≤ 255) → (0 ≤ y ∧ y ≤ 255) → (0 ≤ z ∧ z ≤ 255) → (0 ≤ w ∧ w ≤ 255) →
        0 ≤ IntKind.i64.wrap ((IntKind.i64.wrap ((IntKind.i64.wrap ((IntKind.i64.wrap (x * 16777216)) + (IntKind.i64.wrap (y * 65536)))) + (IntKind.i64.wrap (z * 256)))) + w) := by
      intro x y z w hx hy hz hw
      rw [xB3 (x := x * 16777216) (by omega) (by omega), xB3 (x := y * 65536) (by omega) (by omega), xB3 (x := z * 256) (by omega) (by omega), xB3 (x := x * 16777216 + y * 65536) (by omega) (by omega),
        xB3 (x := x * 16777216 + y * 65536 + z * 256) (by omega) (by omega), xB3 (by omega) (by omega)]
      omega
    have := tmodB (key _ _ _ _ a1 b1 d1 e1) (by omega : 0 < n)
    exact .chk hn (.mk' ⟨⟨this.1, .inl this.2⟩, he.2⟩)
theorem belowp {N : Nat} {c : Cur} {n : Int} (h : CurOk c) (hn : 0 < n) : Ret (xAT N c n) (Dr fun v => 0 ≤ v ∧ v < n) :=
  (below_ok h).imp fun a ha => ⟨⟨ha.1.1, by have := ha.1.2; omega⟩, ha.2⟩
theorem once_ok {N : Nat} {c : Cur} {n : Int} (h : CurOk c) : Ret (xB4 N c n) (Dr fun _ => True) :=
  .bnd (below_ok h) fun a ha => .mk' ⟨trivial, ha.2⟩
theorem pickStr_ok {N : Nat} {c : Cur} {l : List Str} (h : CurOk c) (hl : 0 < l.length) : Ret (xCe N c l) (Dr fun v => v ∈ l) := by
  refine .bnd (belowp h (by omega)) fun a ha => ?_
  have h1 := ha.1
  refine .chk h1 (.mk' ⟨?_, ha.2⟩)
  have hlt : a.1.toNat < l.length := by omega
  show List.getD l a.1.toNat _ ∈ l
  rw [xBG (List.getElem?_eq_getElem hlt)]
  exact List.getElem_mem hlt
theorem pickInt_ok {N : Nat} {c : Cur} {l : List Int} (h : CurOk c) (hl : 0 < l.length) : Ret (xBO N c l) (Dr fun v => v ∈ l) := by
  refine .bnd (belowp h (by omega)) fun a ha => ?_
  have h1 := ha.1
  refine .chk h1 (.mk' ⟨?_, ha.2⟩)
  have hlt : a.1.toNat < l.length := by omega
  show List.getD l a.1.toNat _ ∈ l
  rw [xBG (List.getElem?_eq_getElem hlt)]
  exact List.getElem_mem hlt
theorem l3Num_ok {N : Nat} {c : Cur} (h : CurOk c) : Ret (xCA N c) (Dr fun v => -1000000000 ≤ v ∧ v ≤ 1000000000) := by
  refine .bnd (once_ok h) fun a ha => .cnd (fun _ => .bnd (pickInt_ok ha.2 (by decide)) fun b hb => .mk' ⟨?_, hb.2⟩) (fun _ => .bnd (belowp ha.2 (by decide)) fun b hb => .mk' ⟨?_, hb.2⟩)
  · have := hb.1
    simp only [List.mem_cons, List.not_mem_nil, or_false] at this
    show -1000000000 ≤ b.1 ∧ b.1 ≤ 1000000000
    omega
  · have := hb.1
    show -1000000000 ≤ IntKind.i64.wrap (b.1 - 3) ∧ IntKind.i64.wrap (b.1 - 3) ≤ 1000000000
    rw [xB3 (by omega) (by omega)]
    omega
def wldDr (k : Nat) (w : Wld) : Prop := I64 w.clock ∧ I64 w.seed ∧ w.files.length ≤ k ∧ ∀ x ∈ w.files, x.name.length ≤ 3 ∧ I64 x.n
theorem wldDr.fit {k : Nat} {w : Wld} (h : wldDr k w) (hk : k ≤ 1000) : w.Fit 1048576 :=
  ⟨h.1, h.2.1, by have := h.2.2.1; show w.files.length ≤ _; omega, fun x hx => ⟨by have := (h.2.2.2 x hx).1; show x.name.length ≤ _; omega, (h.2.2.2 x hx).2⟩⟩
theorem wldDr.app {k : Nat} {w : Wld} (h : wldDr k w) {f : Fil} (h1 : f.name.length ≤ 3) (h2 : I64 f.n) : wldDr (k + 1) (Wld.mk w.clock w.seed (w.files ++ [f])) := by
  refine ⟨h.1, h.2.1, by have := h.2.2.1; simp; omega, fun x hx => ?_⟩
  rcases List.mem_append.1 hx with hx | hx
  · exact h.2.2.2 x hx
  · simp at hx; subst hx; exact ⟨h1, h2⟩
theorem l14Files_ok {N : Nat} {c : Cur} {w z : Wld} (h : CurOk c) (hw : wldDr 0 w) (hN : 1048576 < N) : Ret (xAZ N N [[102], [103], [104]] (List.length [[102], [103], [104]] : Int) 0 c z w) (Dr (wldDr 3)) := by
  refine forRet (σ := Cur × Wld) (L := fun m i st => xAZ N m [[102], [103], [104]] (List.length [[102], [103], [104]] : Int) i st.1 z st.2) 3 (fun i st => CurOk st.1 ∧ wldDr i st.2) (fun n st hs => ?_) (fun n i st hi hs ih => ?_) N 0 (c, w) (by omega) ⟨h, hw⟩ (by omega)
  · simp only [xAZ]
    exact .mk' ⟨hs.2, hs.1⟩
  · have hi' : (i : Int) < (List.length [[102], [103], [(104 : UInt8)]] : Int) := by show (i : Int) < ((3 : Nat) : Int); omega
    simp only [xAZ, xBw hi (by omega : 3 ≤ _)]
    refine .cnd (fun _ => .chk ⟨by omega, hi'⟩ (.bnd (once_ok hs.1) fun a ha => .cnd (fun _ => .bnd (belowp ha.2 (by decide)) fun b hb => .chk ?_ (ih (b.2, Wld.mk st.2.clock st.2.seed (st.2.files ++ [⟨_, _⟩])) ⟨hb.2, hs.2.app ?_ ?_⟩)) (fun _ => ih (a.2, st.2) ⟨ha.2, ?_⟩))) (fun hc => absurd hi' (of_decide_eq_false hc))
    · have := hs.2.2.2.1
      simp only [List.length_cons, List.length_nil]; unfold Lim; omega
    · have : i = 0 ∨ i = 1 ∨ i = 2 := by omega
      show List.length (List.getD [[102], [103], [104]] (Int.toNat (i : Int)) Ty.str.dflt) ≤ 3
      rw [Int.toNat_natCast]
      rcases this with rfl | rfl | rfl <;> decide
    · have := hb.1
      exact ⟨show _ ≤ b.1 by omega, show b.1 ≤ _ by omega⟩
    · have := hs.2
      exact ⟨this.1, this.2.1, by have := this.2.2.1; show st.2.files.length ≤ i + 1; omega, this.2.2.2⟩
theorem l14Draw_ok {N : Nat} {c : Cur} (h : CurOk c) (hN : 1048576 < N) : Ret (xCh N c) (Dr (wldDr 3)) := by
  refine .bnd (belowp h (by decide)) fun a ha => .bnd (belowp ha.2 (by decide)) fun b hb => .bnd (once_ok hb.2) fun d hd => .cnd (fun _ => .bnd (belowp hd.2 (by decide)) fun e he => ?_) (fun _ => ?_)
  · have h1 := hb.1
    exact l14Files_ok he.2 ⟨i64_wrap _, ⟨show _ ≤ b.1 by omega, show b.1 ≤ _ by omega⟩, by simp, by simp⟩ hN
  · have h1 := hb.1
    have h2 := ha.1
    exact l14Files_ok hd.2 ⟨⟨show _ ≤ a.1 by omega, show a.1 ≤ _ by omega⟩, ⟨show _ ≤ b.1 by omega, show b.1 ≤ _ by omega⟩, by simp, by simp⟩ hN
theorem wldDr.up {k : Nat} {w : Wld} (h : wldDr k w) : wldDr (k + 1) w := ⟨h.1, h.2.1, by have := h.2.2.1; omega, h.2.2.2⟩
theorem l14Bent_ok {N : Nat} {c : Cur} (h : CurOk c) (hN : 1048576 < N) : Ret (xCg N c) (Dr (wldDr 4)) := by
  refine .bnd (l14Draw_ok h hN) fun a ha => .bnd (belowp ha.2 (by decide)) fun b hb => .cnd (fun _ => .bnd (pickInt_ok hb.2 (by decide)) fun d hd => .mk' ⟨?_, hd.2⟩) (fun _ => .cnd (fun _ => .bnd (pickStr_ok hb.2 (by decide)) fun d hd => .chk ?_ (.mk' ⟨ha.1.app ?_ ⟨show (-9223372036854775808 : Int) ≤ 2000000000 by decide, show (2000000000 : Int) ≤ 9223372036854775807 by decide⟩, hd.2⟩)) (fun _ => .cnd (fun _ => .mk' ⟨?_, hb.2⟩) (fun _ => .mk' ⟨ha.1.up, hb.2⟩)))
  · have := hd.1
    simp only [List.mem_cons, List.not_mem_nil, or_false] at this
    exact ⟨by unfold I64; rcases this with e | e | e <;> rw [show (Wld.mk d.1 a.1.seed a.1.files).clock = d.1 from rfl, e] <;> decide, ha.1.up.2⟩
  · have := ha.1.2.2.1
    simp only [List.length_cons, List.length_nil]; unfold Lim; omega
  · have := hd.1
    simp only [List.mem_cons, List.not_mem_nil, or_false] at this
    show d.1.length ≤ 3
    rcases this with e | e | e <;> rw [e] <;> decide
  · exact ⟨ha.1.1, ⟨show (-9223372036854775808 : Int) ≤ 1000001 by decide, show (1000001 : Int) ≤ 9223372036854775807 by decide⟩, ha.1.up.2.2⟩
theorem drawSetFile_ok {N : Nat} {a : List Int} (h : a.length ≤ 1048576) (hN : 1048576 < N) : Ret (xBL N a) fun r => wldDr 4 r.1 ∧ r.2.1.length ≤ 3 ∧ I64 r.2.2 := by
  refine .bnd (new_ok h hN) fun a ha => .bnd (l14Bent_ok ha hN) fun b hb => .bnd (pickStr_ok hb.2 (by decide)) fun d hd => .bnd (l3Num_ok hd.2) fun e he => .mk' ⟨hb.1, ?_, ?_⟩
  · have := hd.1
    simp only [List.mem_cons, List.not_mem_nil, or_false] at this
    show d.1.length ≤ 3
    rcases this with e | e | e | e | e | e | e <;> rw [e] <;> decide
  · have := he.1
    exact ⟨show _ ≤ e.1 by omega, show e.1 ≤ _ by omega⟩
theorem fileG_self {s : Str} {n : Int} : ∀ l : List Fil, xCp (setG s n l) s = (n, true)
  | [] => by simp [setG, xCp]
  | f :: r => by
    simp only [setG]
    cases h : Op.bytesLess f.name s
    · cases h2 : f.name == s
      · simp [xCp]
      · simp [xCp, h2]
    · have : (f.name == s) = false := by simpa using bl_ne h
      simp only [cond_true, xCp, this, cond_false]
      exact fileG_self r
theorem fileG_mem : ∀ {l : List Fil} {p : Option Str}, xBB l p = true → ∀ f ∈ l, xCp l f.name = (f.n, true)
  | [], _, _, f, hf => by cases hf
  | g :: r, p, h, f, hf => by
    simp only [xBB, Bool.and_eq_true] at h
    obtain ⟨_, _, _, h2⟩ := h
    rcases List.mem_cons.1 hf with rfl | hf
    · simp [xCp]
    · have : (g.name == f.name) = false := by simpa using bl_ne (xCB h2 f hf)
      simp only [xCp, this, cond_false]
      exact fileG_mem h2 f hf
theorem fileG_other {s : Str} {n : Int} : ∀ {l : List Fil} {p : Option Str}, xBB l p = true → ∀ f ∈ l, f.name ≠ s → xCp (setG s n l) f.name = (f.n, true)
  | [], _, _, f, hf, _ => by cases hf
  | g :: r, p, h, f, hf, hne => by
    have h0 := h
    simp only [xBB, Bool.and_eq_true] at h
    obtain ⟨_, _, _, h2⟩ := h
    have hs : (s == f.name) = false := by simpa using fun e : s = f.name => hne e.symm
    simp only [setG]
    cases h3 : Op.bytesLess g.name s
    · cases h4 : g.name == s
      · simp only [cond_false, xCp, hs]
        exact fileG_mem h0 f hf
      · have h5 := eq_of_beq h4
        rcases List.mem_cons.1 hf with rfl | hf
        · exact absurd h5 hne
        · simp only [cond_false, cond_true, xCp, h5, hs]
          exact fileG_mem h2 f hf
    · simp only [cond_true, xCp]
      rcases List.mem_cons.1 hf with rfl | hf
      · simp
      · have : (g.name == f.name) = false := by simpa using bl_ne (xCB h2 f hf)
        simp only [this, cond_false]
        exact fileG_other h2 f hf hne
theorem tick_ok {w : Wld} (h : xCF w = true) : xCF (tick w) = true ∧ (((tick w).clock == IntKind.i64.wrap (w.clock + 1)) = true ∨ (w.clock == 1000) = true ∧ ((tick w).clock == w.clock) = true) := by
  have h' := h
  unfold xCF at h
  simp only [Bool.and_eq_true, decide_eq_true_eq] at h
  unfold tick
  cases hc : decide (w.clock < 1000)
  · have hc := of_decide_eq_false hc
    simp only [cond_false]
    refine ⟨h', .inr ⟨?_, by simp⟩⟩
    have : w.clock = 1000 := by omega
    simpa using this
  · have hc := of_decide_eq_true hc
    simp only [cond_true]
    refine ⟨?_, .inl (by simp)⟩
    unfold xCF
    simp only [Bool.and_eq_true, decide_eq_true_eq]
    have e : IntKind.i64.wrap (w.clock + 1) = w.clock + 1 := xB3 (by omega) (by omega)
    rw [e]
    simp_all
    omega
theorem implTick_eq {N : Nat} {w : Wld} (h : w.files.length ≤ 1048576) : xBM N w = some (tick w) := by
  unfold xBM xAV
  rw [if_pos (by unfold Lim; omega)]
  simp only [Option.bind_some, List.nil_append, tick]
  cases decide (w.clock < 1000) <;> rfl
theorem laws_FnWorld_true (a0 : List Int) (f0 : ∀ z ∈ [CV.sl .ro .byte a0], DFit z.toD) : ∃ N, xB6 N a0 = some true := by
  obtain ⟨N, hN⟩ : ∃ N, 274877906944 < N := ⟨274877906945, by omega⟩
  refine ⟨N, ?_⟩
  suffices h : Ret (xB6 N a0) (fun b => b = true) by
    obtain ⟨r, h, rfl⟩ := h; exact h
  unfold xB6 laws_big
  simp only [Option.bind_some]
  refine .cnd (fun _ => .mk' rfl) (fun hb => ?_)
  have hb := of_decide_eq_false hb
  refine .bnd (drawSetFile_ok (by omega) (by omega)) fun r hr => ?_
  obtain ⟨w, s, n⟩ := r
  obtain ⟨hw, hs, hn⟩ := hr
  dsimp only at hw hs hn ⊢
  have hF := hw.fit (by omega)
  have hl := hw.2.2.1
  rw [impl_SetFile_eq hF (by omega) hn (by omega), spec_SetFile_eq hF (by omega) hn (by omega), setfile_same]
  simp only [Option.bind_some, beq_self_eq_true, Bool.not_true, cond_false]
  have hfit : (Wld.mk w.clock w.seed (setG s n w.files)).Fit 2097152 := fit_out hF (by omega) hn xCE fun x => setG_mem
  have hlen := xCE (s := s) (n := n) (l := w.files)
  unfold finG
  cases h1 : xCF w
  · simp [Ret]
  · cases h2 : xCF ⟨w.clock, w.seed, setG s n w.files⟩
    · simp [Ret]
    · simp only [Bool.not_true, cond_false, cond_true]
      rw [xBA hfit (by omega) (by omega), h2]
      simp only [Option.bind_some, Bool.not_true, cond_false]
      rw [xCq (w := ⟨w.clock, w.seed, setG s n w.files⟩) (by show (setG s n w.files).length ≤ _; omega) (by show (setG s n w.files).length < _; omega)]
      simp only [fileG_self, Option.bind_some, Bool.not_true, cond_false, bne_self_eq_false]
      have hv : xBB w.files none = true := by unfold xCF at h1; rw [Bool.and_eq_true] at h1; exact h1.1
      refine forRet (σ := Unit) (L := fun m i _ => xA6 N m s i w ⟨w.clock, w.seed, setG s n w.files⟩) w.files.length (fun _ _ => True) (fun m st _ => ?_) (fun m i st hi _ ih => ?_) N 0 () (by omega) trivial (by omega)
      · simp only [xA6, Int.lt_irrefl, decide_false, cond_false]
        rw [implTick_eq (by show (setG s n w.files).length ≤ _; omega)]
        simp only [Option.bind_some]
        obtain ⟨t1, t2⟩ := tick_ok h2
        have hft : (tick ⟨w.clock, w.seed, setG s n w.files⟩).Fit 2097152 := by
          unfold tick
          cases decide ((Wld.mk w.clock w.seed (setG s n w.files)).clock < 1000)
          · exact hfit
          · exact ⟨i64_wrap _, hfit.2⟩
        rw [xBA hft (by omega) (by omega), t1]
        simp only [Option.bind_some, cond_true]
        rcases t2 with t2 | ⟨t2, t3⟩
        · refine .cnd (fun _ => .mk' rfl) (fun hc => ?_)
          rw [t2] at hc; cases hc
        · refine .cnd (fun _ => .mk' rfl) (fun _ => .cnd (fun _ => .mk' t3) (fun hc => ?_))
          rw [t2] at hc; cases hc
      · obtain ⟨f, hf⟩ : ∃ f, w.files[i]? = some f := ⟨_, List.getElem?_eq_getElem hi⟩
        have hi' : (i : Int) < (w.files.length : Int) := by omega
        simp only [xA6, decide_eq_true hi', cond_true, Int.toNat_natCast, xBG hf, xBw hi (by omega : w.files.length ≤ _)]
        refine .chk ⟨by omega, hi'⟩ ?_
        rw [xCq (w := ⟨w.clock, w.seed, setG s n w.files⟩) (by show (setG s n w.files).length ≤ _; omega) (by show (setG s n w.files).length < _; omega)]
        have hm : f ∈ w.files := List.mem_of_getElem? hf
        cases e : f.name == s
        · have e' : f.name ≠ s := by simpa using e
          simp only [fileG_other hv f hm e', Option.bind_some, Bool.not_true, cond_false, Bool.not_false, cond_true, bne_self_eq_false]
          exact ih () trivial
        · have e' := eq_of_beq e
          rw [e']
          simp only [fileG_self, Option.bind_some, Bool.not_true, cond_false, beq_self_eq_true]
          exact ih () trivial
end Go.Ab
end
section
namespace Go.Proofs.Ytbcfnggjagchiaa
open Go.Ab Go.ChangeShapes Go.WideShapes Go.ChangeAt Go.RowKit
set_option linter.unusedVariables false
theorem own : ownKnob Try.prog.godebug = none := by kernel_rfl
theorem laidOut : laidOutB Try.prog = true := by kernel_rfl
theorem ktok_fnWorld : ktChk Try.prog [(5, .byte)] = true := by kernel_rfl
set_option maxRecDepth 100000 in
theorem fnWorld_lifted (os : Os) (started : os.Started) (H : Type) (enc : TypeId × Value → H) :
    ReturnsInHanded {} Try.checked os 6 .any (Rows.fnWorldSpec.pre6 enc Try.prog Try.f6 Rows.fnWorldRow.domain false) (Rows.fnWorldSpec.post enc Try.prog Try.f6 false true false false) := by
  refine returnsInHanded_of_change (C := Try.checked) own started (by kernel_rfl) Try.func6
    (ChangeSpec.witness6 (enc := enc) (C := Try.checked) false ⟨#[], #[.slice none 0 0], []⟩ 8 (by kernel_rfl) (by kernel_rfl) (by kernel_rfl) (by kernel_rfl)) ?_
  intro W base args ds gs before hval0 hW hcnd _
  have hval : ∀ (j : Nat) t v, Try.f6.params[j]? = some t → args[j]? = some v → Value.okWide Try.prog W .any base t v := hval0
  have hW' := hW
  obtain ⟨p, q, hA0, hV, rfl, hfz, hnd⟩ := hW
  have hA : DataW.TrodAll enc Try.prog W 0 (fun _ => true) true Try.f6.params.toList args.toList ds p := hA0
  rw [Try.params6] at hA hval
  obtain ⟨v0, vs0, d0, ds0, p0, q0, hargs, rfl, rfl, h0, r0⟩ := trodAll_cons hA
  obtain ⟨rfl, rfl, rfl⟩ := trodAll_nil r0
  obtain rfl : args = #[v0] := by cases args; simp_all
  obtain ⟨rfl, rfl⟩ := trodVars_none hV
  have lt0 : ∀ x ∈ p0, x.block < W.heap.size := by obtain ⟨m, hm⟩ := h0; exact DataW.trod_lt m _ _ _ hm
  obtain ⟨z0, e0, f0, vr0⟩ := vr_of ktok_fnWorld (g := false) (t := 56) (ns := [.inr .byte]) (by kernel_rfl) (hval 0 56 v0 rfl rfl) h0
  obtain ⟨x0_0, _, rfl, e0_0⟩ := AreOf.sl_inv e0
  obtain rfl := e0_0.nil_inv
  obtain ⟨N, hF⟩ := laws_FnWorld_true x0_0 f0
  clear hA0 hval0
  refine (calls_of T.fk6 (T.laws_FnWorld_ok hF) (W := W) (args := #[v0]) ⟨vr0 _, trivial⟩).mono fun e W' ⟨he, bel⟩ => ?_
  subst he
  exact ⟨_, rfl, _, _, _, [], _, [], hW', trodAll_mk1 (shut_bool Try.underlying4 _), (trodAll_cons_mk (Below.trod laidOut (by kernel_rfl) (of_decide_eq_true (by kernel_rfl)) h0 bel lt0) trodAll_mk0), rfl, bel.frame _, fun h => by cases h⟩
theorem fnWorld_proved : Rows.FnWorldSaid :=
  OpenClaim.holds_of_wide 6 Try.f6 rfl rfl rfl rfl rfl rfl rfl ⟨rfl, rfl, rfl, rfl, rfl⟩ rfl rfl rfl rfl rfl (by kernel_rfl) Try.func6 (by kernel_rfl)
    (of_decide_eq_true (by kernel_rfl)) (by unfold Func.isWrapper; first | (rw [if_pos (by decide +kernel)]; kernel_rfl) | (rw [if_neg (by decide +kernel)]; exact ⟨rfl, rfl⟩))
    (fun os started H enc _ => fnWorld_lifted os started H enc)
end Go.Proofs.Ytbcfnggjagchiaa
end
