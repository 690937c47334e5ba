/- The statement FnExactSetFile holds: plain functions, certificates, laws. Conditions: none. -/
import Derived.Test.YtimjapjfceenkaaChecked
import Derived.Test.YtimjapjfceenkaaProg
import Derived.Test.YtimjapjfceenkaaRows
import Derived.Test.YtimjapjfceenkaaL2
set_option linter.all false
section
namespace Go.Ab
set_option linter.unusedVariables false
def laws_szFile_as (a0 : Fil) (a1 : Int) : List Arg := [.val (.v true [.str (Fil.name a0), .int .i64 (Fil.n a0)]), .val (.v false [.int .i64 a1])]
def laws_szFile_ro (r : Int) : CallO := ⟨.v false [.int .i64 r], [], []⟩
def laws_szFile (N : Nat) (a0 : Fil) (a1 : Int) : Option (Int) :=
  bif (decide (((IntKind.i64.wrap (a1 - (List.length (Fil.name a0) : Int))) : Int) < 0)) then (
    some (-1)
  ) else (
    some (IntKind.i64.wrap (a1 - (List.length (Fil.name a0) : Int)))
  )
def laws_szFileS_as (a0 : List Fil) (a1 : Int) : List Arg := [.val (.v false [.sl .ro .fil a0]), .val (.v false [.int .i64 a1])]
def laws_szFileS_ro (r : Int) : CallO := ⟨.v false [.int .i64 r], [], []⟩
def laws_szFileS_b5 (N : Nat) : Nat → (List Fil) → Int → Int → Option (Int)
  | 0, _, _, _ => none
  | n + 1, x0, x1, x5 =>
    bif (decide ((x5 : Int) < (List.length x0 : Int))) then (
      if (0 : Int) ≤ x5 ∧ x5 < (List.length x0) then
      Option.bind (laws_szFile N (List.getD x0 (Int.toNat x5) Ty.fil.dflt) x1) fun r1 =>
      bif (decide ((r1 : Int) < 0)) then (
        some (-1)
      ) else (
        (laws_szFileS_b5 N n x0 r1 (IntKind.i64.wrap (x5 + 1)))
      )
      else none
    ) else (
      some x1
    )
def laws_szFileS (N : Nat) (a0 : List Fil) (a1 : Int) : Option (Int) :=
  bif (decide (((IntKind.i64.wrap (a1 - (List.length a0 : Int))) : Int) < 0)) then (
    some (-1)
  ) else (
    (laws_szFileS_b5 N N a0 (IntKind.i64.wrap (a1 - (List.length a0 : Int))) 0)
  )
def laws_szWorld_as (a0 : Wld) (a1 : Int) : List Arg := [.val (.v true [.int .i64 (Wld.clock a0), .int .i64 (Wld.seed a0), .sl .ro .fil (Wld.files a0)]), .val (.v false [.int .i64 a1])]
def laws_szWorld_ro (r : Int) : CallO := ⟨.v false [.int .i64 r], [], []⟩
def laws_szWorld (N : Nat) (a0 : Wld) (a1 : Int) : Option (Int) :=
  Option.bind (laws_szFileS N (Wld.files a0) a1) fun r1 =>
  bif (decide ((r1 : Int) < 0)) then (
    some (-1)
  ) else (
    some r1
  )
def laws_toFile_as (a0 : Fil) : List Arg := [.val (.v true [.str (Fil.name a0), .int .i64 (Fil.n a0)])]
def laws_toFile_ro (r : Fil) : CallO := ⟨.v true [.str (Fil.name r), .int .i64 (Fil.n r)], [], []⟩
def laws_toFile (N : Nat) (a0 : Fil) : Option (Fil) :=
  some a0
def laws_toFileS_as (a0 : List Fil) : List Arg := [.val (.v false [.sl .ro .fil a0])]
def laws_toFileS_ro (r : (List Fil)) : CallO := ⟨.v false [.sl .own .fil r], [], []⟩
def laws_toFileS_b3 (N : Nat) : Nat → (List Fil) → (List Fil) → Int → Option ((List Fil))
  | 0, _, _, _ => none
  | n + 1, x0, x3, x4 =>
    bif (decide ((x4 : Int) < (List.length x0 : Int))) then (
      if (0 : Int) ≤ x4 ∧ x4 < (List.length x0) then
      Option.bind (laws_toFile N (List.getD x0 (Int.toNat x4) Ty.fil.dflt)) fun r1 =>
      if (0 : Int) ≤ x4 ∧ x4 < (List.length x3) then
      (laws_toFileS_b3 N n x0 (List.set x3 (Int.toNat x4) r1) (IntKind.i64.wrap (x4 + 1)))
      else none
      else none
    ) else (
      some x3
    )
def laws_toFileS (N : Nat) (a0 : List Fil) : Option ((List Fil)) :=
  if (0 : Int) ≤ (List.length a0 : Int) ∧ (List.length a0 : Int) = (List.length a0 : Int) ∧ (List.length a0 : Int) ≤ Lim then
  (laws_toFileS_b3 N N a0 (List.replicate (Int.toNat (List.length a0 : Int)) Ty.fil.dflt) 0)
  else none
def laws_toWorld_as (a0 : Wld) : List Arg := [.val (.v true [.int .i64 (Wld.clock a0), .int .i64 (Wld.seed a0), .sl .ro .fil (Wld.files a0)])]
def laws_toWorld_ro (r : Wld) : CallO := ⟨.v true [.int .i64 (Wld.clock r), .int .i64 (Wld.seed r), .sl .own .fil (Wld.files r)], [], []⟩
def laws_toWorld (N : Nat) (a0 : Wld) : Option (Wld) :=
  Option.bind (laws_toFileS N (Wld.files a0)) fun r1 =>
  some (Wld.mk (Wld.clock a0) (Wld.seed a0) r1)
def laws_eqFile_as (a0 : Fil) (a1 : Fil) : List Arg := [.val (.v true [.str (Fil.name a0), .int .i64 (Fil.n a0)]), .val (.v true [.str (Fil.name a1), .int .i64 (Fil.n a1)])]
def laws_eqFile_ro (r : Bool) : CallO := ⟨.v false [.bool r], [], []⟩
def laws_eqFile (N : Nat) (a0 : Fil) (a1 : Fil) : Option (Bool) :=
  bif (!(((Fil.name a0) : Str) == (Fil.name a1))) then (
    some false
  ) else (
    bif (((Fil.n a0) : Int) != (Fil.n a1)) then (
      some false
    ) else (
      some true
    )
  )
def laws_eqFileS_as (a0 : List Fil) (a1 : List Fil) : List Arg := [.val (.v false [.sl .ro .fil a0]), .val (.v false [.sl .ro .fil a1])]
def laws_eqFileS_ro (r : Bool) : CallO := ⟨.v false [.bool r], [], []⟩
def laws_eqFileS_b4 (N : Nat) : Nat → (List Fil) → (List Fil) → Int → Option (Bool)
  | 0, _, _, _ => none
  | n + 1, x0, x1, x5 =>
    bif (decide ((x5 : Int) < (List.length x0 : Int))) then (
      if (0 : Int) ≤ x5 ∧ x5 < (List.length x0) then
      if (0 : Int) ≤ x5 ∧ x5 < (List.length x1) then
      Option.bind (laws_eqFile N (List.getD x0 (Int.toNat x5) Ty.fil.dflt) (List.getD x1 (Int.toNat x5) Ty.fil.dflt)) fun r1 =>
      bif (!r1) then (
        some false
      ) else (
        (laws_eqFileS_b4 N n x0 x1 (IntKind.i64.wrap (x5 + 1)))
      )
      else none
      else none
    ) else (
      some true
    )
def laws_eqFileS (N : Nat) (a0 : List Fil) (a1 : List Fil) : Option (Bool) :=
  bif (((List.length a0 : Int) : Int) != (List.length a1 : Int)) then (
    some false
  ) else (
    (laws_eqFileS_b4 N N a0 a1 0)
  )
def laws_eqWorld_as (a0 : Wld) (a1 : Wld) : List Arg := [.val (.v true [.int .i64 (Wld.clock a0), .int .i64 (Wld.seed a0), .sl .ro .fil (Wld.files a0)]), .val (.v true [.int .i64 (Wld.clock a1), .int .i64 (Wld.seed a1), .sl .ro .fil (Wld.files a1)])]
def laws_eqWorld_ro (r : Bool) : CallO := ⟨.v false [.bool r], [], []⟩
def laws_eqWorld (N : Nat) (a0 : Wld) (a1 : Wld) : Option (Bool) :=
  bif (((Wld.clock a0) : Int) != (Wld.clock a1)) then (
    some false
  ) else (
    bif (((Wld.seed a0) : Int) != (Wld.seed a1)) then (
      some false
    ) else (
      Option.bind (laws_eqFileS N (Wld.files a0) (Wld.files a1)) fun r1 =>
      bif (!r1) then (
        some false
      ) else (
        some true
      )
    )
  )
def spec_l1In_as (a0 : Int) (a1 : Int) (a2 : Int) : List Arg := [.val (.v false [.int .i64 a0]), .val (.v false [.int .i64 a1]), .val (.v false [.int .i64 a2])]
def spec_l1In_ro (r : Bool) : CallO := ⟨.v false [.bool r], [], []⟩
def spec_l1In (N : Nat) (a0 : Int) (a1 : Int) (a2 : Int) : Option (Bool) :=
  bif (decide ((a0 : Int) ≥ a1)) then (
    some (decide ((a0 : Int) ≤ a2))
  ) else (
    some false
  )
def spec_l2Shape_as (a0 : Str) : List Arg := [.val (.v false [.str a0])]
def spec_l2Shape_ro (r : Bool) : CallO := ⟨.v false [.bool r], [], []⟩
def spec_l2Shape_b2 (N : Nat) : Nat → Str → Int → Option (Bool)
  | 0, _, _ => none
  | n + 1, x0, x3 =>
    bif (decide ((x3 : Int) < (List.length x0 : Int))) then (
      if (0 : Int) ≤ x3 ∧ x3 < (List.length x0) then
      bif (decide ((((List.getD x0 (Int.toNat x3) 0).toNat : Int) : Int) ≥ 97)) then (
        bif (decide ((((List.getD x0 (Int.toNat x3) 0).toNat : Int) : Int) ≥ 48)) then (
          bif (!(decide ((((List.getD x0 (Int.toNat x3) 0).toNat : Int) : Int) ≤ 122))) then (
            bif ((x3 : Int) == 0) then (
              some false
            ) else (
              bif (!(decide ((((List.getD x0 (Int.toNat x3) 0).toNat : Int) : Int) ≤ 57))) then (
                some false
              ) else (
                (spec_l2Shape_b2 N n x0 (IntKind.i64.wrap (x3 + 1)))
              )
            )
          ) else (
            (spec_l2Shape_b2 N n x0 (IntKind.i64.wrap (x3 + 1)))
          )
        ) else (
          bif (!(decide ((((List.getD x0 (Int.toNat x3) 0).toNat : Int) : Int) ≤ 122))) then (
            bif ((x3 : Int) == 0) then (
              some false
            ) else (
              some false
            )
          ) else (
            (spec_l2Shape_b2 N n x0 (IntKind.i64.wrap (x3 + 1)))
          )
        )
      ) else (
        bif (decide ((((List.getD x0 (Int.toNat x3) 0).toNat : Int) : Int) ≥ 48)) then (
          bif ((x3 : Int) == 0) then (
            some false
          ) else (
            bif (!(decide ((((List.getD x0 (Int.toNat x3) 0).toNat : Int) : Int) ≤ 57))) then (
              some false
            ) else (
              (spec_l2Shape_b2 N n x0 (IntKind.i64.wrap (x3 + 1)))
            )
          )
        ) else (
          bif ((x3 : Int) == 0) then (
            some false
          ) else (
            some false
          )
        )
      )
      else none
    ) else (
      some (decide (((List.length x0 : Int) : Int) > 0))
    )
def spec_l2Shape (N : Nat) (a0 : Str) : Option (Bool) :=
  (spec_l2Shape_b2 N N a0 0)
def spec_l2Reserved_as : List Arg := []
def spec_l2Reserved_ro (r : (List Str)) : CallO := ⟨.v false [.sl .own .str r], [], []⟩
def spec_l2Reserved (N : Nat) : Option ((List Str)) :=
  some [[108, 101, 116], [105, 110], [105, 102], [116, 104, 101, 110], [101, 108, 115, 101], [102, 111, 114], [100, 111], [108, 101, 110], [115, 117, 109], [116, 97, 107, 101], [115, 107, 105, 112], [114, 97, 110, 103, 101], [110, 116, 104], [119, 104, 101, 114, 101], [107, 101, 101, 112], [97, 100, 100], [103, 114, 111, 117, 112], [106, 111, 105, 110], [99, 111, 108, 117, 109, 110], [114, 111, 119, 115], [99, 108, 111, 99, 107], [99, 104, 97, 110, 99, 101], [102, 105, 108, 101], [116, 97, 98, 108, 101]]
def spec_l1Has_as (a0 : List Str) (a1 : Str) : List Arg := [.val (.v false [.sl .ro .str a0]), .val (.v false [.str a1])]
def spec_l1Has_ro (r : Bool) : CallO := ⟨.v false [.bool r], [], []⟩
def spec_l1Has_b2 (N : Nat) : Nat → (List Str) → Str → Int → Option (Bool)
  | 0, _, _, _ => none
  | n + 1, x0, x1, x5 =>
    bif (decide ((x5 : Int) < (List.length x0 : Int))) then (
      if (0 : Int) ≤ x5 ∧ x5 < (List.length x0) then
      bif (((List.getD x0 (Int.toNat x5) Ty.str.dflt) : Str) == x1) then (
        some true
      ) else (
        (spec_l1Has_b2 N n x0 x1 (IntKind.i64.wrap (x5 + 1)))
      )
      else none
    ) else (
      some false
    )
def spec_l1Has (N : Nat) (a0 : List Str) (a1 : Str) : Option (Bool) :=
  (spec_l1Has_b2 N N a0 a1 0)
def spec_IsReserved_as (a0 : Str) : List Arg := [.val (.v false [.str a0])]
def spec_IsReserved_ro (r : Bool) : CallO := ⟨.v false [.bool r], [], []⟩
def spec_IsReserved (N : Nat) (a0 : Str) : Option (Bool) :=
  Option.bind (spec_l2Reserved N) fun r1 =>
  Option.bind (spec_l1Has N r1 a0) fun r2 =>
  some r2
def spec_IsValidName_as (a0 : Str) : List Arg := [.val (.v false [.str a0])]
def spec_IsValidName_ro (r : Bool) : CallO := ⟨.v false [.bool r], [], []⟩
def spec_IsValidName (N : Nat) (a0 : Str) : Option (Bool) :=
  Option.bind (spec_l2Shape N a0) fun r1 =>
  bif r1 then (
    bif (decide (((List.length a0 : Int) : Int) ≤ 8)) then (
      Option.bind (spec_IsReserved N a0) fun r2 =>
      some (!r2)
    ) else (
      some false
    )
  ) else (
    some false
  )
def impl_within_as (a0 : Int) (a1 : Int) (a2 : Int) : List Arg := [.val (.v false [.int .i64 a0]), .val (.v false [.int .i64 a1]), .val (.v false [.int .i64 a2])]
def impl_within_ro (r : Bool) : CallO := ⟨.v false [.bool r], [], []⟩
def impl_within (N : Nat) (a0 : Int) (a1 : Int) (a2 : Int) : Option (Bool) :=
  bif (decide ((a1 : Int) ≤ a0)) then (
    some (decide ((a0 : Int) ≤ a2))
  ) else (
    some false
  )
def impl_isWord_as (a0 : Str) : List Arg := [.val (.v false [.str a0])]
def impl_isWord_ro (r : Bool) : CallO := ⟨.v false [.bool r], [], []⟩
def impl_isWord_b2 (N : Nat) : Nat → Str → Int → Option (Bool)
  | 0, _, _ => none
  | n + 1, x0, x3 =>
    bif (decide ((x3 : Int) < (List.length x0 : Int))) then (
      if (0 : Int) ≤ x3 ∧ x3 < (List.length x0) then
      bif (decide ((((List.getD x0 (Int.toNat x3) 0).toNat : Int) : Int) ≥ 97)) then (
        bif (!(decide ((((List.getD x0 (Int.toNat x3) 0).toNat : Int) : Int) ≤ 122))) then (
          bif ((x3 : Int) == 0) then (
            some false
          ) else (
            bif (decide ((((List.getD x0 (Int.toNat x3) 0).toNat : Int) : Int) < 48)) then (
              some false
            ) else (
              bif (decide ((((List.getD x0 (Int.toNat x3) 0).toNat : Int) : Int) > 57)) then (
                some false
              ) else (
                (impl_isWord_b2 N n x0 (IntKind.i64.wrap (x3 + 1)))
              )
            )
          )
        ) else (
          (impl_isWord_b2 N n x0 (IntKind.i64.wrap (x3 + 1)))
        )
      ) else (
        bif ((x3 : Int) == 0) then (
          some false
        ) else (
          bif (decide ((((List.getD x0 (Int.toNat x3) 0).toNat : Int) : Int) < 48)) then (
            some false
          ) else (
            bif (decide ((((List.getD x0 (Int.toNat x3) 0).toNat : Int) : Int) > 57)) then (
              some false
            ) else (
              (impl_isWord_b2 N n x0 (IntKind.i64.wrap (x3 + 1)))
            )
          )
        )
      )
      else none
    ) else (
      Option.bind (impl_within N (List.length x0 : Int) 1 8) fun r1 =>
      some r1
    )
def impl_isWord (N : Nat) (a0 : Str) : Option (Bool) :=
  (impl_isWord_b2 N N a0 0)
def impl_ArgumentCount_as (a0 : Str) : List Arg := [.val (.v false [.str a0])]
def impl_ArgumentCount_ro (r : Int) : CallO := ⟨.v false [.int .i64 r], [], []⟩
def impl_ArgumentCount (N : Nat) (a0 : Str) : Option (Int) :=
  bif ((a0 : Str) == [99, 108, 111, 99, 107]) then (
    some 0
  ) else (
    bif ((a0 : Str) == [108, 101, 110]) then (
      some 1
    ) else (
      bif ((a0 : Str) == [115, 117, 109]) then (
        some 1
      ) else (
        bif ((a0 : Str) == [114, 111, 119, 115]) then (
          some 1
        ) else (
          bif ((a0 : Str) == [99, 104, 97, 110, 99, 101]) then (
            some 1
          ) else (
            bif ((a0 : Str) == [102, 105, 108, 101]) then (
              some 1
            ) else (
              bif ((a0 : Str) == [116, 97, 107, 101]) then (
                some 2
              ) else (
                bif ((a0 : Str) == [115, 107, 105, 112]) then (
                  some 2
                ) else (
                  bif ((a0 : Str) == [114, 97, 110, 103, 101]) then (
                    some 2
                  ) else (
                    bif ((a0 : Str) == [110, 116, 104]) then (
                      some 2
                    ) else (
                      bif ((a0 : Str) == [107, 101, 101, 112]) then (
                        some 2
                      ) else (
                        bif ((a0 : Str) == [99, 111, 108, 117, 109, 110]) then (
                          some 2
                        ) else (
                          bif ((a0 : Str) == [116, 97, 98, 108, 101]) then (
                            some 2
                          ) else (
                            bif ((a0 : Str) == [119, 104, 101, 114, 101]) then (
                              some 3
                            ) else (
                              bif ((a0 : Str) == [103, 114, 111, 117, 112]) then (
                                some 3
                              ) else (
                                bif ((a0 : Str) == [106, 111, 105, 110]) then (
                                  some 3
                                ) else (
                                  bif ((a0 : Str) == [97, 100, 100]) then (
                                    some 4
                                  ) else (
                                    some (-1)
                                  )
                                )
                              )
                            )
                          )
                        )
                      )
                    )
                  )
                )
              )
            )
          )
        )
      )
    )
  )
def impl_IsReserved_as (a0 : Str) : List Arg := [.val (.v false [.str a0])]
def impl_IsReserved_ro (r : Bool) : CallO := ⟨.v false [.bool r], [], []⟩
def impl_IsReserved (N : Nat) (a0 : Str) : Option (Bool) :=
  bif ((a0 : Str) == [108, 101, 116]) then (
    some true
  ) else (
    bif ((a0 : Str) == [105, 110]) then (
      some true
    ) else (
      bif ((a0 : Str) == [105, 102]) then (
        some true
      ) else (
        bif ((a0 : Str) == [116, 104, 101, 110]) then (
          some true
        ) else (
          bif ((a0 : Str) == [101, 108, 115, 101]) then (
            some true
          ) else (
            bif ((a0 : Str) == [102, 111, 114]) then (
              some true
            ) else (
              bif ((a0 : Str) == [100, 111]) then (
                some true
              ) else (
                Option.bind (impl_ArgumentCount N a0) fun r1 =>
                some (decide ((r1 : Int) ≥ 0))
              )
            )
          )
        )
      )
    )
  )
def impl_IsValidName_as (a0 : Str) : List Arg := [.val (.v false [.str a0])]
def impl_IsValidName_ro (r : Bool) : CallO := ⟨.v false [.bool r], [], []⟩
def impl_IsValidName (N : Nat) (a0 : Str) : Option (Bool) :=
  Option.bind (impl_isWord N a0) fun r1 =>
  bif r1 then (
    Option.bind (impl_IsReserved N a0) fun r2 =>
    some (!r2)
  ) else (
    some false
  )
def spec_l14Copy_as (a0 : Wld) : List Arg := [.val (.v true [.int .i64 (Wld.clock a0), .int .i64 (Wld.seed a0), .sl .ro .fil (Wld.files a0)])]
def spec_l14Copy_ro (r : Wld) : CallO := ⟨.v true [.int .i64 (Wld.clock r), .int .i64 (Wld.seed r), .sl .own .fil (Wld.files r)], [], []⟩
def spec_l14Copy (N : Nat) (a0 : Wld) : Option (Wld) :=
  if 0 + List.length (Wld.files a0) ≤ Lim then
  some (Wld.mk (Wld.clock a0) (Wld.seed a0) ([] ++ (Wld.files a0)))
  else none
def impl_copyWorld_as (a0 : Wld) : List Arg := [.val (.v true [.int .i64 (Wld.clock a0), .int .i64 (Wld.seed a0), .sl .ro .fil (Wld.files a0)])]
def impl_copyWorld_ro (r : Wld) : CallO := ⟨.v true [.int .i64 (Wld.clock r), .int .i64 (Wld.seed r), .sl .own .fil (Wld.files r)], [], []⟩
def impl_copyWorld (N : Nat) (a0 : Wld) : Option (Wld) :=
  if 0 + List.length (Wld.files a0) ≤ Lim then
  some (Wld.mk (Wld.clock a0) (Wld.seed a0) ([] ++ (Wld.files a0)))
  else none
def laws_markText_as (a0 : Int) : List Arg := [.val (.v false [.int .i64 a0])]
def laws_markText_ro (r : Str) : CallO := ⟨.v false [.str r], [], []⟩
def laws_markText_b4 (N : Nat) : Nat → Int → Str → Option (Str)
  | 0, _, _ => none
  | n + 1, x0, x3 =>
    bif (decide ((x0 : Int) > 0)) then (
      if List.length (List.map (fun n => UInt8.ofNat (Int.toNat n)) [(IntKind.u8.wrap ((IntKind.i64.wrap (48 + (Int.tmod x0 10)))))]) + List.length x3 ≤ Lim then
      (laws_markText_b4 N n (IntKind.i64.wrap (Int.tdiv x0 10)) ((List.map (fun n => UInt8.ofNat (Int.toNat n)) [(IntKind.u8.wrap ((IntKind.i64.wrap (48 + (Int.tmod x0 10)))))]) ++ x3))
      else none
    ) else (
      if List.length [109] + List.length x3 ≤ Lim then
      some ([109] ++ x3)
      else none
    )
def laws_markText (N : Nat) (a0 : Int) : Option (Str) :=
  bif (decide ((a0 : Int) ≤ 0)) then (
    some [109, 48]
  ) else (
    (laws_markText_b4 N N a0 [])
  )
def laws_markFileS_as (a0 : List Fil) (a1 : Int) : List Arg := [.val (.v false [.sl (.lnt 0) .fil a0]), .val (.v false [.int .i64 a1])]
def laws_markFileS_ro (r : Int × (List Fil)) : CallO := ⟨.v false [.int .i64 r.1], [], [.sl (.lnt 0) .fil r.2]⟩
def laws_markFileS_b2 (N : Nat) : Nat → (List Fil) → Int → Int → Option (Int × (List Fil))
  | 0, _, _, _ => none
  | n + 1, x0, x1, x5 =>
    bif (decide ((x5 : Int) < (List.length x0 : Int))) then (
      Option.bind (laws_markText N x1) fun r1 =>
      if (0 : Int) ≤ x5 ∧ x5 < (List.length x0) then
      if (0 : Int) ≤ x5 ∧ x5 < (List.length (List.set x0 (Int.toNat x5) (Fil.mk r1 (Fil.n (List.getD x0 (Int.toNat x5) Ty.fil.dflt))))) then
      (laws_markFileS_b2 N n (List.set (List.set x0 (Int.toNat x5) (Fil.mk r1 (Fil.n (List.getD x0 (Int.toNat x5) Ty.fil.dflt)))) (Int.toNat x5) (Fil.mk (Fil.name (List.getD (List.set x0 (Int.toNat x5) (Fil.mk r1 (Fil.n (List.getD x0 (Int.toNat x5) Ty.fil.dflt)))) (Int.toNat x5) Ty.fil.dflt)) (IntKind.i64.wrap (x1 + 1)))) (IntKind.i64.wrap ((IntKind.i64.wrap (x1 + 1)) + 1)) (IntKind.i64.wrap (x5 + 1)))
      else none
      else none
    ) else (
      some (x1, x0)
    )
def laws_markFileS (N : Nat) (a0 : List Fil) (a1 : Int) : Option (Int × (List Fil)) :=
  (laws_markFileS_b2 N N a0 a1 0)
def laws_markWorld_as (a0 : Wld) (a1 : Int) : List Arg := [.val (.v true [.int .i64 (Wld.clock a0), .int .i64 (Wld.seed a0), .sl (.lnt 0) .fil (Wld.files a0)]), .val (.v false [.int .i64 a1])]
def laws_markWorld_ro (r : Int × (List Fil)) : CallO := ⟨.v false [.int .i64 r.1], [], [.sl (.lnt 0) .fil r.2]⟩
def laws_markWorld (N : Nat) (a0 : Wld) (a1 : Int) : Option (Int × (List Fil)) :=
  Option.bind (laws_markFileS N (Wld.files a0) a1) fun r1 =>
  if List.length r1.2 = List.length (Wld.files a0) then
  some (r1.1, r1.2)
  else none
def laws_heldFileS_as (a0 : List Fil) (a1 : Int) : List Arg := [.val (.v false [.sl .ro .fil a0]), .val (.v false [.int .i64 a1])]
def laws_heldFileS_ro (r : Int) : CallO := ⟨.v false [.int .i64 r], [], []⟩
def laws_heldFileS_b2 (N : Nat) : Nat → (List Fil) → Int → Int → Option (Int)
  | 0, _, _, _ => none
  | n + 1, x0, x1, x5 =>
    bif (decide ((x5 : Int) < (List.length x0 : Int))) then (
      if (0 : Int) ≤ x5 ∧ x5 < (List.length x0) then
      Option.bind (laws_markText N x1) fun r1 =>
      bif (!(((Fil.name (List.getD x0 (Int.toNat x5) Ty.fil.dflt)) : Str) == r1)) then (
        some (-1)
      ) else (
        bif (((Fil.n (List.getD x0 (Int.toNat x5) Ty.fil.dflt)) : Int) != (IntKind.i64.wrap (x1 + 1))) then (
          some (-1)
        ) else (
          (laws_heldFileS_b2 N n x0 (IntKind.i64.wrap ((IntKind.i64.wrap (x1 + 1)) + 1)) (IntKind.i64.wrap (x5 + 1)))
        )
      )
      else none
    ) else (
      some x1
    )
def laws_heldFileS (N : Nat) (a0 : List Fil) (a1 : Int) : Option (Int) :=
  (laws_heldFileS_b2 N N a0 a1 0)
def laws_heldWorld_as (a0 : Wld) (a1 : Int) : List Arg := [.val (.v true [.int .i64 (Wld.clock a0), .int .i64 (Wld.seed a0), .sl .ro .fil (Wld.files a0)]), .val (.v false [.int .i64 a1])]
def laws_heldWorld_ro (r : Int) : CallO := ⟨.v false [.int .i64 r], [], []⟩
def laws_heldWorld (N : Nat) (a0 : Wld) (a1 : Int) : Option (Int) :=
  Option.bind (laws_heldFileS N (Wld.files a0) a1) fun r1 =>
  bif (decide ((r1 : Int) < 0)) then (
    some (-1)
  ) else (
    some r1
  )
def spec_l3Number_as (a0 : Int) : List Arg := [.val (.v false [.int .i64 a0])]
def spec_l3Number_ro (r : Bool) : CallO := ⟨.v false [.bool r], [], []⟩
def spec_l3Number (N : Nat) (a0 : Int) : Option (Bool) :=
  Option.bind (spec_l1In N a0 (-1000000000) 1000000000) fun r1 =>
  some r1
def spec_l14Files_as (a0 : List Fil) : List Arg := [.val (.v false [.sl .ro .fil a0])]
def spec_l14Files_ro (r : Bool) : CallO := ⟨.v false [.bool r], [], []⟩
def spec_l14Files_b2 (N : Nat) : Nat → (List Fil) → Int → Option (Bool)
  | 0, _, _ => none
  | n + 1, x0, x3 =>
    bif (decide ((x3 : Int) < (List.length x0 : Int))) then (
      if (0 : Int) ≤ x3 ∧ x3 < (List.length x0) then
      Option.bind (spec_IsValidName N (Fil.name (List.getD x0 (Int.toNat x3) Ty.fil.dflt))) fun r1 =>
      bif (!r1) then (
        some false
      ) else (
        Option.bind (spec_l3Number N (Fil.n (List.getD x0 (Int.toNat x3) Ty.fil.dflt))) fun r2 =>
        bif (!r2) then (
          some false
        ) else (
          bif (decide ((x3 : Int) > 0)) then (
            if (0 : Int) ≤ (IntKind.i64.wrap (x3 - 1)) ∧ (IntKind.i64.wrap (x3 - 1)) < (List.length x0) then
            bif (!(Op.bytesLess (Fil.name (List.getD x0 (Int.toNat (IntKind.i64.wrap (x3 - 1))) Ty.fil.dflt)) (Fil.name (List.getD x0 (Int.toNat x3) Ty.fil.dflt)))) then (
              some false
            ) else (
              (spec_l14Files_b2 N n x0 (IntKind.i64.wrap (x3 + 1)))
            )
            else none
          ) else (
            (spec_l14Files_b2 N n x0 (IntKind.i64.wrap (x3 + 1)))
          )
        )
      )
      else none
    ) else (
      some (decide (((List.length x0 : Int) : Int) ≤ 4))
    )
def spec_l14Files (N : Nat) (a0 : List Fil) : Option (Bool) :=
  (spec_l14Files_b2 N N a0 0)
def spec_IsValidWorld_as (a0 : Wld) : List Arg := [.val (.v true [.int .i64 (Wld.clock a0), .int .i64 (Wld.seed a0), .sl .ro .fil (Wld.files a0)])]
def spec_IsValidWorld_ro (r : Bool) : CallO := ⟨.v false [.bool r], [], []⟩
def spec_IsValidWorld (N : Nat) (a0 : Wld) : Option (Bool) :=
  Option.bind (spec_l1In N (Wld.clock a0) 0 1000) fun r1 =>
  bif r1 then (
    Option.bind (spec_l1In N (Wld.seed a0) 0 1000000) fun r2 =>
    bif r2 then (
      Option.bind (spec_l14Files N (Wld.files a0)) fun r3 =>
      some r3
    ) else (
      some false
    )
  ) else (
    some false
  )
def impl_isNumber_as (a0 : Int) : List Arg := [.val (.v false [.int .i64 a0])]
def impl_isNumber_ro (r : Bool) : CallO := ⟨.v false [.bool r], [], []⟩
def impl_isNumber (N : Nat) (a0 : Int) : Option (Bool) :=
  Option.bind (impl_within N a0 (-1000000000) 1000000000) fun r1 =>
  some r1
def impl_IsValidWorld_as (a0 : Wld) : List Arg := [.val (.v true [.int .i64 (Wld.clock a0), .int .i64 (Wld.seed a0), .sl .ro .fil (Wld.files a0)])]
def impl_IsValidWorld_ro (r : Bool) : CallO := ⟨.v false [.bool r], [], []⟩
def impl_IsValidWorld_b2 (N : Nat) : Nat → (List Fil) → Int → Int → Wld → Option (Bool)
  | 0, _, _, _, _ => none
  | n + 1, x6, x7, x8, b1 =>
    bif (decide ((x8 : Int) < x7)) then (
      if (0 : Int) ≤ x8 ∧ x8 < (List.length x6) then
      Option.bind (impl_IsValidName N (Fil.name (List.getD x6 (Int.toNat x8) Ty.fil.dflt))) fun r1 =>
      bif (!r1) then (
        some false
      ) else (
        Option.bind (impl_isNumber N (Fil.n (List.getD x6 (Int.toNat x8) Ty.fil.dflt))) fun r2 =>
        bif (!r2) then (
          some false
        ) else (
          bif (decide ((x8 : Int) > 0)) then (
            if (0 : Int) ≤ (IntKind.i64.wrap (x8 - 1)) ∧ (IntKind.i64.wrap (x8 - 1)) < (List.length (Wld.files b1)) then
            bif (!(Op.bytesLess (Fil.name (List.getD (Wld.files b1) (Int.toNat (IntKind.i64.wrap (x8 - 1))) Ty.fil.dflt)) (Fil.name (List.getD x6 (Int.toNat x8) Ty.fil.dflt)))) then (
              some false
            ) else (
              (impl_IsValidWorld_b2 N n x6 x7 (IntKind.i64.wrap (x8 + 1)) b1)
            )
            else none
          ) else (
            (impl_IsValidWorld_b2 N n x6 x7 (IntKind.i64.wrap (x8 + 1)) b1)
          )
        )
      )
      else none
    ) else (
      Option.bind (impl_within N (Wld.clock b1) 0 1000) fun r1 =>
      bif r1 then (
        Option.bind (impl_within N (Wld.seed b1) 0 1000000) fun r2 =>
        bif r2 then (
          some (decide (((List.length (Wld.files b1) : Int) : Int) ≤ 4))
        ) else (
          some false
        )
      ) else (
        some false
      )
    )
def impl_IsValidWorld (N : Nat) (a0 : Wld) : Option (Bool) :=
  (impl_IsValidWorld_b2 N N (Wld.files a0) (List.length (Wld.files a0) : Int) 0 a0)
def spec_SetFile_as (a0 : Wld) (a1 : Str) (a2 : Int) : List Arg := [.val (.v true [.int .i64 (Wld.clock a0), .int .i64 (Wld.seed a0), .sl .ro .fil (Wld.files a0)]), .val (.v false [.str a1]), .val (.v false [.int .i64 a2])]
def spec_SetFile_ro (r : Wld × Bool) : CallO := ⟨.tup [(true, [.int .i64 (Wld.clock r.1), .int .i64 (Wld.seed r.1), .sl .own .fil (Wld.files r.1)]), (false, [.bool r.2])], [], []⟩
def spec_SetFile_b4 (N : Nat) : Nat → Str → Int → Bool → Int → Wld → Wld → Wld → Option (Wld × Bool)
  | 0, _, _, _, _, _, _, _ => none
  | n + 1, x1, x2, x9, x10, b3, b6, b8 =>
    bif (decide ((x10 : Int) < (List.length (Wld.files b3) : Int))) then (
      if (0 : Int) ≤ x10 ∧ x10 < (List.length (Wld.files b3)) then
      bif (!x9) then (
        bif ((Op.bytesLess x1 (Fil.name (List.getD (Wld.files b3) (Int.toNat x10) Ty.fil.dflt))) || ((x1 : Str) == (Fil.name (List.getD (Wld.files b3) (Int.toNat x10) Ty.fil.dflt)))) then (
          if List.length (Wld.files b8) + List.length [(Fil.mk x1 x2)] ≤ Lim then
          bif (!(((Fil.name (List.getD (Wld.files b3) (Int.toNat x10) Ty.fil.dflt)) : Str) == x1)) then (
            if List.length ((Wld.files b8) ++ [(Fil.mk x1 x2)]) + List.length [(List.getD (Wld.files b3) (Int.toNat x10) Ty.fil.dflt)] ≤ Lim then
            (spec_SetFile_b4 N n x1 x2 true (IntKind.i64.wrap (x10 + 1)) b3 b6 (Wld.mk (Wld.clock b8) (Wld.seed b8) (((Wld.files b8) ++ [(Fil.mk x1 x2)]) ++ [(List.getD (Wld.files b3) (Int.toNat x10) Ty.fil.dflt)])))
            else none
          ) else (
            (spec_SetFile_b4 N n x1 x2 true (IntKind.i64.wrap (x10 + 1)) b3 b6 (Wld.mk (Wld.clock b8) (Wld.seed b8) ((Wld.files b8) ++ [(Fil.mk x1 x2)])))
          )
          else none
        ) else (
          bif (!(((Fil.name (List.getD (Wld.files b3) (Int.toNat x10) Ty.fil.dflt)) : Str) == x1)) then (
            if List.length (Wld.files b8) + List.length [(List.getD (Wld.files b3) (Int.toNat x10) Ty.fil.dflt)] ≤ Lim then
            (spec_SetFile_b4 N n x1 x2 x9 (IntKind.i64.wrap (x10 + 1)) b3 b6 (Wld.mk (Wld.clock b8) (Wld.seed b8) ((Wld.files b8) ++ [(List.getD (Wld.files b3) (Int.toNat x10) Ty.fil.dflt)])))
            else none
          ) else (
            (spec_SetFile_b4 N n x1 x2 x9 (IntKind.i64.wrap (x10 + 1)) b3 b6 b8)
          )
        )
      ) else (
        bif (!(((Fil.name (List.getD (Wld.files b3) (Int.toNat x10) Ty.fil.dflt)) : Str) == x1)) then (
          if List.length (Wld.files b8) + List.length [(List.getD (Wld.files b3) (Int.toNat x10) Ty.fil.dflt)] ≤ Lim then
          (spec_SetFile_b4 N n x1 x2 x9 (IntKind.i64.wrap (x10 + 1)) b3 b6 (Wld.mk (Wld.clock b8) (Wld.seed b8) ((Wld.files b8) ++ [(List.getD (Wld.files b3) (Int.toNat x10) Ty.fil.dflt)])))
          else none
        ) else (
          (spec_SetFile_b4 N n x1 x2 x9 (IntKind.i64.wrap (x10 + 1)) b3 b6 b8)
        )
      )
      else none
    ) else (
      bif (!x9) then (
        if List.length (Wld.files b8) + List.length [(Fil.mk x1 x2)] ≤ Lim then
        Option.bind (spec_IsValidWorld N b3) fun r1 =>
        bif (!r1) then (
          Option.bind (spec_l14Copy N b3) fun r2 =>
          some (r2, false)
        ) else (
          Option.bind (spec_IsValidWorld N (Wld.mk (Wld.clock b8) (Wld.seed b8) ((Wld.files b8) ++ [(Fil.mk x1 x2)]))) fun r2 =>
          bif (!r2) then (
            Option.bind (spec_l14Copy N b3) fun r3 =>
            some (r3, false)
          ) else (
            some ((Wld.mk (Wld.clock b8) (Wld.seed b8) ((Wld.files b8) ++ [(Fil.mk x1 x2)])), true)
          )
        )
        else none
      ) else (
        Option.bind (spec_IsValidWorld N b3) fun r1 =>
        bif (!r1) then (
          Option.bind (spec_l14Copy N b3) fun r2 =>
          some (r2, false)
        ) else (
          Option.bind (spec_IsValidWorld N b8) fun r2 =>
          bif (!r2) then (
            Option.bind (spec_l14Copy N b3) fun r3 =>
            some (r3, false)
          ) else (
            some (b8, true)
          )
        )
      )
    )
def spec_SetFile (N : Nat) (a0 : Wld) (a1 : Str) (a2 : Int) : Option (Wld × Bool) :=
  (spec_SetFile_b4 N N a1 a2 false 0 a0 (Wld.mk 0 0 []) (Wld.mk (Wld.clock a0) (Wld.seed a0) []))
def impl_SetFile_as (a0 : Wld) (a1 : Str) (a2 : Int) : List Arg := [.val (.v true [.int .i64 (Wld.clock a0), .int .i64 (Wld.seed a0), .sl .ro .fil (Wld.files a0)]), .val (.v false [.str a1]), .val (.v false [.int .i64 a2])]
def impl_SetFile_ro (r : Wld × Bool) : CallO := ⟨.tup [(true, [.int .i64 (Wld.clock r.1), .int .i64 (Wld.seed r.1), .sl .own .fil (Wld.files r.1)]), (false, [.bool r.2])], [], []⟩
def impl_SetFile_b5 (N : Nat) : Nat → Str → Int → Int → Wld → Wld → Wld → Option (Wld × Bool)
  | 0, _, _, _, _, _, _ => none
  | n + 1, x1, x2, x9, b3, b6, b8 =>
    bif (decide ((x9 : Int) < (List.length (Wld.files b3) : Int))) then (
      if (0 : Int) ≤ x9 ∧ x9 < (List.length (Wld.files b3)) then
      bif (Op.bytesLess (Fil.name (List.getD (Wld.files b3) (Int.toNat x9) Ty.fil.dflt)) x1) then (
        (impl_SetFile_b5 N n x1 x2 (IntKind.i64.wrap (x9 + 1)) b3 b6 b8)
      ) else (
        bif (((Fil.name (List.getD (Wld.files b3) (Int.toNat x9) Ty.fil.dflt)) : Str) == x1) then (
          if (0 : Int) ≤ x9 ∧ x9 < (List.length (Wld.files b8)) then
          Option.bind (impl_IsValidWorld N (Wld.mk (Wld.clock b8) (Wld.seed b8) (List.set (Wld.files b8) (Int.toNat x9) (Fil.mk (Fil.name (List.getD (Wld.files b8) (Int.toNat x9) Ty.fil.dflt)) x2)))) fun r1 =>
          bif (!r1) then (
            Option.bind (impl_copyWorld N b3) fun r2 =>
            some (r2, false)
          ) else (
            some ((Wld.mk (Wld.clock b8) (Wld.seed b8) (List.set (Wld.files b8) (Int.toNat x9) (Fil.mk (Fil.name (List.getD (Wld.files b8) (Int.toNat x9) Ty.fil.dflt)) x2))), true)
          )
          else none
        ) else (
          if (0 : Int) ≤ x9 ∧ x9 ≤ (List.length (Wld.files b3)) then
          if 0 + List.length (List.take (Int.toNat x9) (Wld.files b3)) ≤ Lim then
          if List.length ([] ++ (List.take (Int.toNat x9) (Wld.files b3))) + List.length [(Fil.mk x1 x2)] ≤ Lim then
          if List.length (([] ++ (List.take (Int.toNat x9) (Wld.files b3))) ++ [(Fil.mk x1 x2)]) + List.length (List.drop (Int.toNat x9) (Wld.files b3)) ≤ Lim then
          Option.bind (impl_IsValidWorld N (Wld.mk (Wld.clock b8) (Wld.seed b8) ((([] ++ (List.take (Int.toNat x9) (Wld.files b3))) ++ [(Fil.mk x1 x2)]) ++ (List.drop (Int.toNat x9) (Wld.files b3))))) fun r1 =>
          bif (!r1) then (
            Option.bind (impl_copyWorld N b3) fun r2 =>
            some (r2, false)
          ) else (
            some ((Wld.mk (Wld.clock b8) (Wld.seed b8) ((([] ++ (List.take (Int.toNat x9) (Wld.files b3))) ++ [(Fil.mk x1 x2)]) ++ (List.drop (Int.toNat x9) (Wld.files b3)))), true)
          )
          else none
          else none
          else none
          else none
        )
      )
      else none
    ) else (
      if (0 : Int) ≤ x9 ∧ x9 ≤ (List.length (Wld.files b3)) then
      if 0 + List.length (List.take (Int.toNat x9) (Wld.files b3)) ≤ Lim then
      if List.length ([] ++ (List.take (Int.toNat x9) (Wld.files b3))) + List.length [(Fil.mk x1 x2)] ≤ Lim then
      if List.length (([] ++ (List.take (Int.toNat x9) (Wld.files b3))) ++ [(Fil.mk x1 x2)]) + List.length (List.drop (Int.toNat x9) (Wld.files b3)) ≤ Lim then
      Option.bind (impl_IsValidWorld N (Wld.mk (Wld.clock b8) (Wld.seed b8) ((([] ++ (List.take (Int.toNat x9) (Wld.files b3))) ++ [(Fil.mk x1 x2)]) ++ (List.drop (Int.toNat x9) (Wld.files b3))))) fun r1 =>
      bif (!r1) then (
        Option.bind (impl_copyWorld N b3) fun r2 =>
        some (r2, false)
      ) else (
        some ((Wld.mk (Wld.clock b8) (Wld.seed b8) ((([] ++ (List.take (Int.toNat x9) (Wld.files b3))) ++ [(Fil.mk x1 x2)]) ++ (List.drop (Int.toNat x9) (Wld.files b3)))), true)
      )
      else none
      else none
      else none
      else none
    )
def impl_SetFile (N : Nat) (a0 : Wld) (a1 : Str) (a2 : Int) : Option (Wld × Bool) :=
  Option.bind (impl_IsValidWorld N a0) fun r1 =>
  bif (!r1) then (
    Option.bind (impl_copyWorld N a0) fun r2 =>
    some (r2, false)
  ) else (
    Option.bind (impl_copyWorld N a0) fun r2 =>
    (impl_SetFile_b5 N N a1 a2 0 a0 (Wld.mk 0 0 []) r2)
  )
def laws_FnExactSetFile_as (a0 : Wld) (a1 : Str) (a2 : Int) : List Arg := [.val (.v true [.int .i64 (Wld.clock a0), .int .i64 (Wld.seed a0), .sl .ro .fil (Wld.files a0)]), .val (.v false [.str a1]), .val (.v false [.int .i64 a2])]
def laws_FnExactSetFile_ro (r : Bool) : CallO := ⟨.v false [.bool r], [], []⟩
def laws_FnExactSetFile (N : Nat) (a0 : Wld) (a1 : Str) (a2 : Int) : Option (Bool) :=
  bif (decide (((List.length a1 : Int) : Int) > 1048576)) then (
    some true
  ) else (
    Option.bind (laws_szWorld N a0 1048576) fun r1 =>
    bif (decide ((r1 : Int) < 0)) then (
      some true
    ) else (
      Option.bind (laws_toWorld N a0) fun r2 =>
      Option.bind (spec_SetFile N r2 a1 a2) fun r3 =>
      Option.bind (laws_toWorld N a0) fun r4 =>
      Option.bind (impl_SetFile N r4 a1 a2) fun r5 =>
      Option.bind (laws_eqWorld N r5.1 r3.1) fun r6 =>
      bif (!r6) then (
        some false
      ) else (
        bif (!((r5.2 : Bool) == r3.2)) then (
          some false
        ) else (
          Option.bind (laws_toWorld N a0) fun r7 =>
          Option.bind (laws_eqWorld N r4 r7) fun r8 =>
          bif (!r8) then (
            some false
          ) else (
            Option.bind (laws_markWorld N r4 1) fun r9 =>
            if List.length r9.2 = List.length (Wld.files r4) then
            bif (decide ((r9.1 : Int) < 0)) then (
              some false
            ) else (
              Option.bind (laws_eqWorld N r5.1 r3.1) fun r10 =>
              bif (!r10) then (
                some false
              ) else (
                Option.bind (laws_markWorld N r5.1 1) fun r11 =>
                if List.length r11.2 = List.length (Wld.files r5.1) then
                Option.bind (laws_heldWorld N (Wld.mk (Wld.clock r5.1) (Wld.seed r5.1) r11.2) 1) fun r12 =>
                bif (decide ((r12 : Int) < 0)) then (
                  some false
                ) else (
                  bif ((r12 : Int) != r11.1) then (
                    some false
                  ) else (
                    Option.bind (laws_toWorld N a0) fun r13 =>
                    Option.bind (impl_SetFile N r13 a1 a2) fun r14 =>
                    Option.bind (laws_eqWorld N r14.1 r3.1) fun r15 =>
                    bif (!r15) then (
                      some false
                    ) else (
                      bif (!((r14.2 : Bool) == r3.2)) then (
                        some false
                      ) else (
                        Option.bind (laws_heldWorld N (Wld.mk (Wld.clock r5.1) (Wld.seed r5.1) r11.2) 1) fun r16 =>
                        bif (decide ((r16 : Int) < 0)) then (
                          some false
                        ) else (
                          bif ((r16 : Int) != r11.1) then (
                            some false
                          ) else (
                            some true
                          )
                        )
                      )
                    )
                  )
                )
                else none
              )
            )
            else none
          )
        )
      )
    )
  )
end Go.Ab
end
section
open Go.Proofs
namespace Go.Ab.T
set_option linter.unusedVariables false
set_option maxRecDepth 100000
def tt : TT := [(3, { zero := some [.int .i64 0], ik := some .i64 }),
  (4, { zero := some [.bool false], isBool := true }),
  (5, { zero := some [.int .u8 0], ik := some .u8 }),
  (9, { zero := some [.str []], isStr := true }),
  (25, { zero := some [.sl .own .fil []], elem := some (111, .fil) }),
  (27, { sz := 3, agg := true, zero := some [.int .i64 0, .int .i64 0, .sl .own .fil []], offs := [0, 1, 2], fsz := [1, 1, 1] }),
  (31, { zero := some [.sl .own .fil []], elem := some (80, .fil) }),
  (33, { sz := 3, agg := true, zero := some [.int .i64 0, .int .i64 0, .sl .own .fil []], offs := [0, 1, 2], fsz := [1, 1, 1] }),
  (37, { zero := some [.sl .own .exp []], elem := some (39, .exp) }),
  (39, { sz := 4, agg := true, zero := some [.int .i64 0, .int .i64 0, .str [], .sl .own .exp []], offs := [0, 1, 2, 3], fsz := [1, 1, 1, 1] }),
  (42, { zero := some [.sl .own .exp []], elem := some (44, .exp) }),
  (44, { sz := 4, agg := true, zero := some [.int .i64 0, .int .i64 0, .str [], .sl .own .exp []], offs := [0, 1, 2, 3], fsz := [1, 1, 1, 1] }),
  (48, { zero := some [.sl .own .cel []], elem := some (61, .cel) }),
  (50, { agg := true, zero := some [.sl .own .cel []], offs := [0], fsz := [1] }),
  (53, { zero := some [.sl .own .cel []], elem := some (64, .cel) }),
  (55, { agg := true, zero := some [.sl .own .cel []], offs := [0], fsz := [1] }),
  (61, { sz := 6, agg := true, zero := some [.int .i64 0, .int .i64 0, .int .i64 0, .str [], .str [], .int .i64 0], offs := [0, 1, 2, 3, 4, 5], fsz := [1, 1, 1, 1, 1, 1], same := true }),
  (64, { sz := 6, agg := true, zero := some [.int .i64 0, .int .i64 0, .int .i64 0, .str [], .str [], .int .i64 0], offs := [0, 1, 2, 3, 4, 5], fsz := [1, 1, 1, 1, 1, 1], same := true }),
  (73, { zero := some [.sl .own .byte []], elem := some (5, .byte) }),
  (80, { sz := 2, agg := true, zero := some [.str [], .int .i64 0], offs := [0, 1], fsz := [1, 1] }),
  (94, { zero := some [.sl .own .str []], elem := some (9, .str) }),
  (111, { sz := 2, agg := true, zero := some [.str [], .int .i64 0], offs := [0, 1], fsz := [1, 1] })]
theorem ttok : TTok Try.prog tt := ttChk_ok (by kernel_rfl)
theorem mix : Try.prog.follows .mixedOrders = true := by kernel_rfl
noncomputable def I81 : Info := { body := (Try.f81.body).getD .skip, nt := 13, results := [.tmp 4], keep := [0, 2, 4, 8, 22, 5], live := [], modes := [], ext := [], lnt := [], casts := [], fcast := [] }
theorem fk81 : FnOk Try.prog 81 Try.f81 I81 := ⟨Try.func81, by kernel_rfl, by kernel_rfl, by kernel_rfl, by kernel_rfl⟩
theorem p81_e_0 (a0 : Fil) (a1 : Int) : run tt (AbsCalls Try.prog) I81 3000 false [.code I81.body] ⟨(entry 0 (laws_szFile_as a0 a1)), [true], [], []⟩ = some (.done (laws_szFile_ro (-1)) [(decide (((IntKind.i64.wrap (a1 - (List.length (Fil.name a0) : Int))) : Int) < 0)) = true]) := by kernel_rfl
theorem p81_e_1 (a0 : Fil) (a1 : Int) : run tt (AbsCalls Try.prog) I81 3000 false [.code I81.body] ⟨(entry 0 (laws_szFile_as a0 a1)), [false], [], []⟩ = some (.done (laws_szFile_ro (IntKind.i64.wrap (a1 - (List.length (Fil.name a0) : Int)))) [(decide (((IntKind.i64.wrap (a1 - (List.length (Fil.name a0) : Int))) : Int) < 0)) = false]) := by kernel_rfl
theorem c81_e {N : Nat} : ∀ a0 a1 r, laws_szFile N a0 a1 = some r → Reach Try.prog Try.f81 I81 [.code I81.body] (entry 0 (laws_szFile_as a0 a1)) (laws_szFile_ro r) := by
  intro a0 a1 r h
  unfold laws_szFile at h
  rcases cond_inv h with ⟨h0, h⟩ | ⟨h0, h⟩
  · obtain rfl := Option.some.inj h
    exact Reach.done ttok mix fk81 (p81_e_0 a0 a1) (obs_cons h0 obs_nil)
  · obtain rfl := Option.some.inj h
    exact Reach.done ttok mix fk81 (p81_e_1 a0 a1) (obs_cons h0 obs_nil)
theorem laws_szFile_ok {N : Nat} {a0 : Fil} {a1 : Int} {r : Int} (h : laws_szFile N  a0 a1 = some r) : AbsCalls Try.prog 81 (laws_szFile_as a0 a1) (laws_szFile_ro r) :=
 AbsCalls.of_reach fk81 rfl rfl (Nat.le_of_ble_eq_true rfl) (c81_e a0 a1 r h)
noncomputable def I53 : Info := { body := (Try.f53.body).getD .skip, nt := 27, results := [.tmp 4], keep := [0, 2, 8, 10, 22, 30, 50], live := [(5, [0, 2, 10])], modes := [], ext := [], lnt := [], casts := [], fcast := [] }
theorem fk53 : FnOk Try.prog 53 Try.f53 I53 := ⟨Try.func53, by kernel_rfl, by kernel_rfl, by kernel_rfl, by kernel_rfl⟩
def S53_5 (x0 : List Fil) (x1 : Int) (x5 : Int) : St := [(0, .v false [.sl .ro .fil x0]), (2, .v false [.int .i64 x1]), (10, .v false [.int .i64 x5])]
theorem p53_5_0 (x0 : List Fil) (x1 : Int) (x5 : Int) (r1 : Int) : run tt (AbsCalls Try.prog) I53 3000 true (stkAt 5 I53.body) ⟨(S53_5 x0 x1 x5), [true, true], [laws_szFile_ro r1], []⟩ = some (.done (laws_szFileS_ro (-1)) [(decide ((x5 : Int) < (List.length x0 : Int))) = true, (0 : Int) ≤ x5 ∧ x5 < (List.length x0), AbsCalls Try.prog 81 (laws_szFile_as (List.getD x0 (Int.toNat x5) Ty.fil.dflt) x1) (laws_szFile_ro r1), (decide ((r1 : Int) < 0)) = true]) := by kernel_rfl
theorem p53_5_1 (x0 : List Fil) (x1 : Int) (x5 : Int) (r1 : Int) : run tt (AbsCalls Try.prog) I53 3000 true (stkAt 5 I53.body) ⟨(S53_5 x0 x1 x5), [true, false], [laws_szFile_ro r1], []⟩ = some (.stop (stkAt 5 I53.body) (S53_5 x0 r1 (IntKind.i64.wrap (x5 + 1))) [(decide ((x5 : Int) < (List.length x0 : Int))) = true, (0 : Int) ≤ x5 ∧ x5 < (List.length x0), AbsCalls Try.prog 81 (laws_szFile_as (List.getD x0 (Int.toNat x5) Ty.fil.dflt) x1) (laws_szFile_ro r1), (decide ((r1 : Int) < 0)) = false]) := by kernel_rfl
theorem p53_5_2 (x0 : List Fil) (x1 : Int) (x5 : Int) : run tt (AbsCalls Try.prog) I53 3000 true (stkAt 5 I53.body) ⟨(S53_5 x0 x1 x5), [false], [], []⟩ = some (.done (laws_szFileS_ro x1) [(decide ((x5 : Int) < (List.length x0 : Int))) = false]) := by kernel_rfl
theorem p53_e_3 (a0 : List Fil) (a1 : Int) : run tt (AbsCalls Try.prog) I53 3000 false [.code I53.body] ⟨(entry 0 (laws_szFileS_as a0 a1)), [true], [], []⟩ = some (.done (laws_szFileS_ro (-1)) [(decide (((IntKind.i64.wrap (a1 - (List.length a0 : Int))) : Int) < 0)) = true]) := by kernel_rfl
theorem p53_e_4 (a0 : List Fil) (a1 : Int) : run tt (AbsCalls Try.prog) I53 3000 false [.code I53.body] ⟨(entry 0 (laws_szFileS_as a0 a1)), [false], [], []⟩ = some (.stop (stkAt 5 I53.body) (S53_5 a0 (IntKind.i64.wrap (a1 - (List.length a0 : Int))) 0) [(decide (((IntKind.i64.wrap (a1 - (List.length a0 : Int))) : Int) < 0)) = false]) := by kernel_rfl
theorem c53_5 {N : Nat} : ∀ n x0 x1 x5 r, laws_szFileS_b5 N n x0 x1 x5 = some r → Reach Try.prog Try.f53 I53 (stkAt 5 I53.body) (S53_5 x0 x1 x5) (laws_szFileS_ro r) := by
  intro n
  induction n with
  | zero => intro x0 x1 x5 r h; have h' : (none : Option (Int)) = some r := h; cases h'
  | succ n ih =>
    intro x0 x1 x5 r h
    rw [laws_szFileS_b5] at h
    rcases cond_inv h with ⟨h0, h⟩ | ⟨h0, h⟩
    · obtain ⟨h1, h⟩ := ite_inv h
      obtain ⟨r1, h2, h⟩ := bind_inv h
      rcases cond_inv h with ⟨h3, h⟩ | ⟨h3, h⟩
      · obtain rfl := Option.some.inj h
        exact Reach.done ttok mix fk53 (p53_5_0 x0 x1 x5 r1) (obs_cons h0 (obs_cons h1 (obs_cons (laws_szFile_ok h2) (obs_cons h3 obs_nil))))
      · exact Reach.stop ttok mix fk53 (p53_5_1 x0 x1 x5 r1) (obs_cons h0 (obs_cons h1 (obs_cons (laws_szFile_ok h2) (obs_cons h3 obs_nil)))) (ih _ _ _ _ h)
    · obtain rfl := Option.some.inj h
      exact Reach.done ttok mix fk53 (p53_5_2 x0 x1 x5) (obs_cons h0 obs_nil)
theorem c53_e {N : Nat} : ∀ a0 a1 r, laws_szFileS N a0 a1 = some r → Reach Try.prog Try.f53 I53 [.code I53.body] (entry 0 (laws_szFileS_as a0 a1)) (laws_szFileS_ro r) := by
  intro a0 a1 r h
  unfold laws_szFileS at h
  rcases cond_inv h with ⟨h0, h⟩ | ⟨h0, h⟩
  · obtain rfl := Option.some.inj h
    exact Reach.done ttok mix fk53 (p53_e_3 a0 a1) (obs_cons h0 obs_nil)
  · exact Reach.stop ttok mix fk53 (p53_e_4 a0 a1) (obs_cons h0 obs_nil) (c53_5   _ _ _ _ _ h)
theorem laws_szFileS_ok {N : Nat} {a0 : List Fil} {a1 : Int} {r : Int} (h : laws_szFileS N  a0 a1 = some r) : AbsCalls Try.prog 53 (laws_szFileS_as a0 a1) (laws_szFileS_ro r) :=
 AbsCalls.of_reach fk53 rfl rfl (Nat.le_of_ble_eq_true rfl) (c53_e a0 a1 r h)
noncomputable def I19 : Info := { body := (Try.f19.body).getD .skip, nt := 12, results := [.tmp 4], keep := [0, 2, 4, 8, 20, 5], live := [], modes := [], ext := [], lnt := [], casts := [], fcast := [] }
theorem fk19 : FnOk Try.prog 19 Try.f19 I19 := ⟨Try.func19, by kernel_rfl, by kernel_rfl, by kernel_rfl, by kernel_rfl⟩
theorem p19_e_0 (a0 : Wld) (a1 : Int) (r1 : Int) : run tt (AbsCalls Try.prog) I19 3000 false [.code I19.body] ⟨(entry 0 (laws_szWorld_as a0 a1)), [true], [laws_szFileS_ro r1], []⟩ = some (.done (laws_szWorld_ro (-1)) [AbsCalls Try.prog 53 (laws_szFileS_as (Wld.files a0) a1) (laws_szFileS_ro r1), (decide ((r1 : Int) < 0)) = true]) := by kernel_rfl
theorem p19_e_1 (a0 : Wld) (a1 : Int) (r1 : Int) : run tt (AbsCalls Try.prog) I19 3000 false [.code I19.body] ⟨(entry 0 (laws_szWorld_as a0 a1)), [false], [laws_szFileS_ro r1], []⟩ = some (.done (laws_szWorld_ro r1) [AbsCalls Try.prog 53 (laws_szFileS_as (Wld.files a0) a1) (laws_szFileS_ro r1), (decide ((r1 : Int) < 0)) = false]) := by kernel_rfl
theorem c19_e {N : Nat} : ∀ a0 a1 r, laws_szWorld N a0 a1 = some r → Reach Try.prog Try.f19 I19 [.code I19.body] (entry 0 (laws_szWorld_as a0 a1)) (laws_szWorld_ro r) := by
  intro a0 a1 r h
  unfold laws_szWorld at h
  obtain ⟨r1, h0, h⟩ := bind_inv h
  rcases cond_inv h with ⟨h1, h⟩ | ⟨h1, h⟩
  · obtain rfl := Option.some.inj h
    exact Reach.done ttok mix fk19 (p19_e_0 a0 a1 r1) (obs_cons (laws_szFileS_ok h0) (obs_cons h1 obs_nil))
  · obtain rfl := Option.some.inj h
    exact Reach.done ttok mix fk19 (p19_e_1 a0 a1 r1) (obs_cons (laws_szFileS_ok h0) (obs_cons h1 obs_nil))
theorem laws_szWorld_ok {N : Nat} {a0 : Wld} {a1 : Int} {r : Int} (h : laws_szWorld N  a0 a1 = some r) : AbsCalls Try.prog 19 (laws_szWorld_as a0 a1) (laws_szWorld_ro r) :=
 AbsCalls.of_reach fk19 rfl rfl (Nat.le_of_ble_eq_true rfl) (c19_e a0 a1 r h)
noncomputable def I82 : Info := { body := (Try.f82.body).getD .skip, nt := 11, results := [.cell 2 80], keep := [0, 2, 4, 6, 3, 5, 7], live := [], modes := [], ext := [], lnt := [], casts := [], fcast := [] }
theorem fk82 : FnOk Try.prog 82 Try.f82 I82 := ⟨Try.func82, by kernel_rfl, by kernel_rfl, by kernel_rfl, by kernel_rfl⟩
theorem p82_e_0 (a0 : Fil) : run tt (AbsCalls Try.prog) I82 3000 false [.code I82.body] ⟨(entry 0 (laws_toFile_as a0)), [], [], []⟩ = some (.done (laws_toFile_ro a0) []) := by kernel_rfl
theorem c82_e {N : Nat} : ∀ a0 r, laws_toFile N a0 = some r → Reach Try.prog Try.f82 I82 [.code I82.body] (entry 0 (laws_toFile_as a0)) (laws_toFile_ro r) := by
  intro a0 r h
  unfold laws_toFile at h
  obtain rfl := Option.some.inj h
  exact Reach.done ttok mix fk82 (p82_e_0 a0) obs_nil
theorem laws_toFile_ok {N : Nat} {a0 : Fil} {r : Fil} (h : laws_toFile N  a0 = some r) : AbsCalls Try.prog 82 (laws_toFile_as a0) (laws_toFile_ro r) :=
 AbsCalls.of_reach fk82 rfl rfl (Nat.le_of_ble_eq_true rfl) (c82_e a0 r h)
noncomputable def I54 : Info := { body := (Try.f54.body).getD .skip, nt := 23, results := [.tmp 2], keep := [0, 4, 6, 8, 22], live := [(3, [0, 6, 8])], modes := [(5, [(0, .ref, false)]), (6, [(0, .take, false)])], ext := [], lnt := [], casts := [], fcast := [] }
theorem fk54 : FnOk Try.prog 54 Try.f54 I54 := ⟨Try.func54, by kernel_rfl, by kernel_rfl, by kernel_rfl, by kernel_rfl⟩
def S54_3 (x0 : List Fil) (x3 : List Fil) (x4 : Int) : St := [(0, .v false [.sl .ro .fil x0]), (6, .v false [.sl .own .fil x3]), (8, .v false [.int .i64 x4])]
theorem p54_3_0 (x0 : List Fil) (x3 : List Fil) (x4 : Int) (r1 : Fil) : run tt (AbsCalls Try.prog) I54 3000 true (stkAt 3 I54.body) ⟨(S54_3 x0 x3 x4), [true], [laws_toFile_ro r1], []⟩ = some (.stop (stkAt 3 I54.body) (S54_3 x0 (List.set x3 (Int.toNat x4) r1) (IntKind.i64.wrap (x4 + 1))) [(decide ((x4 : Int) < (List.length x0 : Int))) = true, (0 : Int) ≤ x4 ∧ x4 < (List.length x0), AbsCalls Try.prog 82 (laws_toFile_as (List.getD x0 (Int.toNat x4) Ty.fil.dflt)) (laws_toFile_ro r1), (0 : Int) ≤ x4 ∧ x4 < (List.length x3)]) := by kernel_rfl
theorem p54_3_1 (x0 : List Fil) (x3 : List Fil) (x4 : Int) : run tt (AbsCalls Try.prog) I54 3000 true (stkAt 3 I54.body) ⟨(S54_3 x0 x3 x4), [false], [], []⟩ = some (.done (laws_toFileS_ro x3) [(decide ((x4 : Int) < (List.length x0 : Int))) = false]) := by kernel_rfl
theorem p54_e_2 (a0 : List Fil) : run tt (AbsCalls Try.prog) I54 3000 false [.code I54.body] ⟨(entry 0 (laws_toFileS_as a0)), [], [], []⟩ = some (.stop (stkAt 3 I54.body) (S54_3 a0 (List.replicate (Int.toNat (List.length a0 : Int)) Ty.fil.dflt) 0) [(0 : Int) ≤ (List.length a0 : Int) ∧ (List.length a0 : Int) = (List.length a0 : Int) ∧ (List.length a0 : Int) ≤ Lim]) := by kernel_rfl
theorem c54_3 {N : Nat} : ∀ n x0 x3 x4 r, laws_toFileS_b3 N n x0 x3 x4 = some r → Reach Try.prog Try.f54 I54 (stkAt 3 I54.body) (S54_3 x0 x3 x4) (laws_toFileS_ro r) := by
  intro n
  induction n with
  | zero => intro x0 x3 x4 r h; have h' : (none : Option ((List Fil))) = some r := h; cases h'
  | succ n ih =>
    intro x0 x3 x4 r h
    rw [laws_toFileS_b3] at h
    rcases cond_inv h with ⟨h0, h⟩ | ⟨h0, h⟩
    · obtain ⟨h1, h⟩ := ite_inv h
      obtain ⟨r1, h2, h⟩ := bind_inv h
      obtain ⟨h3, h⟩ := ite_inv h
      exact Reach.stop ttok mix fk54 (p54_3_0 x0 x3 x4 r1) (obs_cons h0 (obs_cons h1 (obs_cons (laws_toFile_ok h2) (obs_cons h3 obs_nil)))) (ih _ _ _ _ h)
    · obtain rfl := Option.some.inj h
      exact Reach.done ttok mix fk54 (p54_3_1 x0 x3 x4) (obs_cons h0 obs_nil)
theorem c54_e {N : Nat} : ∀ a0 r, laws_toFileS N a0 = some r → Reach Try.prog Try.f54 I54 [.code I54.body] (entry 0 (laws_toFileS_as a0)) (laws_toFileS_ro r) := by
  intro a0 r h
  unfold laws_toFileS at h
  obtain ⟨h0, h⟩ := ite_inv h
  exact Reach.stop ttok mix fk54 (p54_e_2 a0) (obs_cons h0 obs_nil) (c54_3   _ _ _ _ _ h)
theorem laws_toFileS_ok {N : Nat} {a0 : List Fil} {r : (List Fil)} (h : laws_toFileS N  a0 = some r) : AbsCalls Try.prog 54 (laws_toFileS_as a0) (laws_toFileS_ro r) :=
 AbsCalls.of_reach fk54 rfl rfl (Nat.le_of_ble_eq_true rfl) (c54_e a0 r h)
noncomputable def I21 : Info := { body := (Try.f21.body).getD .skip, nt := 15, results := [.cell 2 33], keep := [0, 2, 4, 6, 3, 5, 7], live := [], modes := [(5, [(0, .take, false)])], ext := [], lnt := [], casts := [], fcast := [] }
theorem fk21 : FnOk Try.prog 21 Try.f21 I21 := ⟨Try.func21, by kernel_rfl, by kernel_rfl, by kernel_rfl, by kernel_rfl⟩
theorem p21_e_0 (a0 : Wld) (r1 : (List Fil)) : run tt (AbsCalls Try.prog) I21 3000 false [.code I21.body] ⟨(entry 0 (laws_toWorld_as a0)), [], [laws_toFileS_ro r1], []⟩ = some (.done (laws_toWorld_ro (Wld.mk (Wld.clock a0) (Wld.seed a0) r1)) [AbsCalls Try.prog 54 (laws_toFileS_as (Wld.files a0)) (laws_toFileS_ro r1)]) := by kernel_rfl
theorem c21_e {N : Nat} : ∀ a0 r, laws_toWorld N a0 = some r → Reach Try.prog Try.f21 I21 [.code I21.body] (entry 0 (laws_toWorld_as a0)) (laws_toWorld_ro r) := by
  intro a0 r h
  unfold laws_toWorld at h
  obtain ⟨r1, h0, h⟩ := bind_inv h
  obtain rfl := Option.some.inj h
  exact Reach.done ttok mix fk21 (p21_e_0 a0 r1) (obs_cons (laws_toFileS_ok h0) obs_nil)
theorem laws_toWorld_ok {N : Nat} {a0 : Wld} {r : Wld} (h : laws_toWorld N  a0 = some r) : AbsCalls Try.prog 21 (laws_toWorld_as a0) (laws_toWorld_ro r) :=
 AbsCalls.of_reach fk21 rfl rfl (Nat.le_of_ble_eq_true rfl) (c21_e a0 r h)
noncomputable def I83 : Info := { body := (Try.f83.body).getD .skip, nt := 15, results := [.tmp 4], keep := [0, 2, 4, 6, 8, 18, 28, 5, 7], live := [], modes := [], ext := [], lnt := [], casts := [], fcast := [] }
theorem fk83 : FnOk Try.prog 83 Try.f83 I83 := ⟨Try.func83, by kernel_rfl, by kernel_rfl, by kernel_rfl, by kernel_rfl⟩
theorem p83_e_0 (a0 : Fil) (a1 : Fil) : run tt (AbsCalls Try.prog) I83 3000 false [.code I83.body] ⟨(entry 0 (laws_eqFile_as a0 a1)), [true], [], []⟩ = some (.done (laws_eqFile_ro false) [(!(((Fil.name a0) : Str) == (Fil.name a1))) = true]) := by kernel_rfl
theorem p83_e_1 (a0 : Fil) (a1 : Fil) : run tt (AbsCalls Try.prog) I83 3000 false [.code I83.body] ⟨(entry 0 (laws_eqFile_as a0 a1)), [false, true], [], []⟩ = some (.done (laws_eqFile_ro false) [(!(((Fil.name a0) : Str) == (Fil.name a1))) = false, (((Fil.n a0) : Int) != (Fil.n a1)) = true]) := by kernel_rfl
theorem p83_e_2 (a0 : Fil) (a1 : Fil) : run tt (AbsCalls Try.prog) I83 3000 false [.code I83.body] ⟨(entry 0 (laws_eqFile_as a0 a1)), [false, false], [], []⟩ = some (.done (laws_eqFile_ro true) [(!(((Fil.name a0) : Str) == (Fil.name a1))) = false, (((Fil.n a0) : Int) != (Fil.n a1)) = false]) := by kernel_rfl
theorem c83_e {N : Nat} : ∀ a0 a1 r, laws_eqFile N a0 a1 = some r → Reach Try.prog Try.f83 I83 [.code I83.body] (entry 0 (laws_eqFile_as a0 a1)) (laws_eqFile_ro r) := by
  intro a0 a1 r h
  unfold laws_eqFile at h
  rcases cond_inv h with ⟨h0, h⟩ | ⟨h0, h⟩
  · obtain rfl := Option.some.inj h
    exact Reach.done ttok mix fk83 (p83_e_0 a0 a1) (obs_cons h0 obs_nil)
  · rcases cond_inv h with ⟨h1, h⟩ | ⟨h1, h⟩
    · obtain rfl := Option.some.inj h
      exact Reach.done ttok mix fk83 (p83_e_1 a0 a1) (obs_cons h0 (obs_cons h1 obs_nil))
    · obtain rfl := Option.some.inj h
      exact Reach.done ttok mix fk83 (p83_e_2 a0 a1) (obs_cons h0 (obs_cons h1 obs_nil))
theorem laws_eqFile_ok {N : Nat} {a0 : Fil} {a1 : Fil} {r : Bool} (h : laws_eqFile N  a0 a1 = some r) : AbsCalls Try.prog 83 (laws_eqFile_as a0 a1) (laws_eqFile_ro r) :=
 AbsCalls.of_reach fk83 rfl rfl (Nat.le_of_ble_eq_true rfl) (c83_e a0 a1 r h)
noncomputable def I55 : Info := { body := (Try.f55.body).getD .skip, nt := 27, results := [.tmp 4], keep := [0, 2, 8, 10, 20, 28, 52], live := [(4, [0, 2, 10])], modes := [], ext := [], lnt := [], casts := [], fcast := [] }
theorem fk55 : FnOk Try.prog 55 Try.f55 I55 := ⟨Try.func55, by kernel_rfl, by kernel_rfl, by kernel_rfl, by kernel_rfl⟩
def S55_4 (x0 : List Fil) (x1 : List Fil) (x5 : Int) : St := [(0, .v false [.sl .ro .fil x0]), (2, .v false [.sl .ro .fil x1]), (10, .v false [.int .i64 x5])]
theorem p55_4_0 (x0 : List Fil) (x1 : List Fil) (x5 : Int) (r1 : Bool) : run tt (AbsCalls Try.prog) I55 3000 true (stkAt 4 I55.body) ⟨(S55_4 x0 x1 x5), [true, true], [laws_eqFile_ro r1], []⟩ = some (.done (laws_eqFileS_ro false) [(decide ((x5 : Int) < (List.length x0 : Int))) = true, (0 : Int) ≤ x5 ∧ x5 < (List.length x0), (0 : Int) ≤ x5 ∧ x5 < (List.length x1), AbsCalls Try.prog 83 (laws_eqFile_as (List.getD x0 (Int.toNat x5) Ty.fil.dflt) (List.getD x1 (Int.toNat x5) Ty.fil.dflt)) (laws_eqFile_ro r1), (!r1) = true]) := by kernel_rfl
theorem p55_4_1 (x0 : List Fil) (x1 : List Fil) (x5 : Int) (r1 : Bool) : run tt (AbsCalls Try.prog) I55 3000 true (stkAt 4 I55.body) ⟨(S55_4 x0 x1 x5), [true, false], [laws_eqFile_ro r1], []⟩ = some (.stop (stkAt 4 I55.body) (S55_4 x0 x1 (IntKind.i64.wrap (x5 + 1))) [(decide ((x5 : Int) < (List.length x0 : Int))) = true, (0 : Int) ≤ x5 ∧ x5 < (List.length x0), (0 : Int) ≤ x5 ∧ x5 < (List.length x1), AbsCalls Try.prog 83 (laws_eqFile_as (List.getD x0 (Int.toNat x5) Ty.fil.dflt) (List.getD x1 (Int.toNat x5) Ty.fil.dflt)) (laws_eqFile_ro r1), (!r1) = false]) := by kernel_rfl
theorem p55_4_2 (x0 : List Fil) (x1 : List Fil) (x5 : Int) : run tt (AbsCalls Try.prog) I55 3000 true (stkAt 4 I55.body) ⟨(S55_4 x0 x1 x5), [false], [], []⟩ = some (.done (laws_eqFileS_ro true) [(decide ((x5 : Int) < (List.length x0 : Int))) = false]) := by kernel_rfl
theorem p55_e_3 (a0 : List Fil) (a1 : List Fil) : run tt (AbsCalls Try.prog) I55 3000 false [.code I55.body] ⟨(entry 0 (laws_eqFileS_as a0 a1)), [true], [], []⟩ = some (.done (laws_eqFileS_ro false) [(((List.length a0 : Int) : Int) != (List.length a1 : Int)) = true]) := by kernel_rfl
theorem p55_e_4 (a0 : List Fil) (a1 : List Fil) : run tt (AbsCalls Try.prog) I55 3000 false [.code I55.body] ⟨(entry 0 (laws_eqFileS_as a0 a1)), [false], [], []⟩ = some (.stop (stkAt 4 I55.body) (S55_4 a0 a1 0) [(((List.length a0 : Int) : Int) != (List.length a1 : Int)) = false]) := by kernel_rfl
theorem c55_4 {N : Nat} : ∀ n x0 x1 x5 r, laws_eqFileS_b4 N n x0 x1 x5 = some r → Reach Try.prog Try.f55 I55 (stkAt 4 I55.body) (S55_4 x0 x1 x5) (laws_eqFileS_ro r) := by
  intro n
  induction n with
  | zero => intro x0 x1 x5 r h; have h' : (none : Option (Bool)) = some r := h; cases h'
  | succ n ih =>
    intro x0 x1 x5 r h
    rw [laws_eqFileS_b4] at h
    rcases cond_inv h with ⟨h0, h⟩ | ⟨h0, h⟩
    · obtain ⟨h1, h⟩ := ite_inv h
      obtain ⟨h2, h⟩ := ite_inv h
      obtain ⟨r1, h3, h⟩ := bind_inv h
      rcases cond_inv h with ⟨h4, h⟩ | ⟨h4, h⟩
      · obtain rfl := Option.some.inj h
        exact Reach.done ttok mix fk55 (p55_4_0 x0 x1 x5 r1) (obs_cons h0 (obs_cons h1 (obs_cons h2 (obs_cons (laws_eqFile_ok h3) (obs_cons h4 obs_nil)))))
      · exact Reach.stop ttok mix fk55 (p55_4_1 x0 x1 x5 r1) (obs_cons h0 (obs_cons h1 (obs_cons h2 (obs_cons (laws_eqFile_ok h3) (obs_cons h4 obs_nil))))) (ih _ _ _ _ h)
    · obtain rfl := Option.some.inj h
      exact Reach.done ttok mix fk55 (p55_4_2 x0 x1 x5) (obs_cons h0 obs_nil)
theorem c55_e {N : Nat} : ∀ a0 a1 r, laws_eqFileS N a0 a1 = some r → Reach Try.prog Try.f55 I55 [.code I55.body] (entry 0 (laws_eqFileS_as a0 a1)) (laws_eqFileS_ro r) := by
  intro a0 a1 r h
  unfold laws_eqFileS at h
  rcases cond_inv h with ⟨h0, h⟩ | ⟨h0, h⟩
  · obtain rfl := Option.some.inj h
    exact Reach.done ttok mix fk55 (p55_e_3 a0 a1) (obs_cons h0 obs_nil)
  · exact Reach.stop ttok mix fk55 (p55_e_4 a0 a1) (obs_cons h0 obs_nil) (c55_4   _ _ _ _ _ h)
theorem laws_eqFileS_ok {N : Nat} {a0 : List Fil} {a1 : List Fil} {r : Bool} (h : laws_eqFileS N  a0 a1 = some r) : AbsCalls Try.prog 55 (laws_eqFileS_as a0 a1) (laws_eqFileS_ro r) :=
 AbsCalls.of_reach fk55 rfl rfl (Nat.le_of_ble_eq_true rfl) (c55_e a0 a1 r h)
noncomputable def I23 : Info := { body := (Try.f23.body).getD .skip, nt := 21, results := [.tmp 4], keep := [0, 2, 4, 6, 8, 18, 28, 40, 5, 7], live := [], modes := [], ext := [], lnt := [], casts := [], fcast := [] }
theorem fk23 : FnOk Try.prog 23 Try.f23 I23 := ⟨Try.func23, by kernel_rfl, by kernel_rfl, by kernel_rfl, by kernel_rfl⟩
theorem p23_e_0 (a0 : Wld) (a1 : Wld) : run tt (AbsCalls Try.prog) I23 3000 false [.code I23.body] ⟨(entry 0 (laws_eqWorld_as a0 a1)), [true], [], []⟩ = some (.done (laws_eqWorld_ro false) [(((Wld.clock a0) : Int) != (Wld.clock a1)) = true]) := by kernel_rfl
theorem p23_e_1 (a0 : Wld) (a1 : Wld) : run tt (AbsCalls Try.prog) I23 3000 false [.code I23.body] ⟨(entry 0 (laws_eqWorld_as a0 a1)), [false, true], [], []⟩ = some (.done (laws_eqWorld_ro false) [(((Wld.clock a0) : Int) != (Wld.clock a1)) = false, (((Wld.seed a0) : Int) != (Wld.seed a1)) = true]) := by kernel_rfl
theorem p23_e_2 (a0 : Wld) (a1 : Wld) (r1 : Bool) : run tt (AbsCalls Try.prog) I23 3000 false [.code I23.body] ⟨(entry 0 (laws_eqWorld_as a0 a1)), [false, false, true], [laws_eqFileS_ro r1], []⟩ = some (.done (laws_eqWorld_ro false) [(((Wld.clock a0) : Int) != (Wld.clock a1)) = false, (((Wld.seed a0) : Int) != (Wld.seed a1)) = false, AbsCalls Try.prog 55 (laws_eqFileS_as (Wld.files a0) (Wld.files a1)) (laws_eqFileS_ro r1), (!r1) = true]) := by kernel_rfl
theorem p23_e_3 (a0 : Wld) (a1 : Wld) (r1 : Bool) : run tt (AbsCalls Try.prog) I23 3000 false [.code I23.body] ⟨(entry 0 (laws_eqWorld_as a0 a1)), [false, false, false], [laws_eqFileS_ro r1], []⟩ = some (.done (laws_eqWorld_ro true) [(((Wld.clock a0) : Int) != (Wld.clock a1)) = false, (((Wld.seed a0) : Int) != (Wld.seed a1)) = false, AbsCalls Try.prog 55 (laws_eqFileS_as (Wld.files a0) (Wld.files a1)) (laws_eqFileS_ro r1), (!r1) = false]) := by kernel_rfl
theorem c23_e {N : Nat} : ∀ a0 a1 r, laws_eqWorld N a0 a1 = some r → Reach Try.prog Try.f23 I23 [.code I23.body] (entry 0 (laws_eqWorld_as a0 a1)) (laws_eqWorld_ro r) := by
  intro a0 a1 r h
  unfold laws_eqWorld at h
  rcases cond_inv h with ⟨h0, h⟩ | ⟨h0, h⟩
  · obtain rfl := Option.some.inj h
    exact Reach.done ttok mix fk23 (p23_e_0 a0 a1) (obs_cons h0 obs_nil)
  · rcases cond_inv h with ⟨h1, h⟩ | ⟨h1, h⟩
    · obtain rfl := Option.some.inj h
      exact Reach.done ttok mix fk23 (p23_e_1 a0 a1) (obs_cons h0 (obs_cons h1 obs_nil))
    · obtain ⟨r1, h2, h⟩ := bind_inv h
      rcases cond_inv h with ⟨h3, h⟩ | ⟨h3, h⟩
      · obtain rfl := Option.some.inj h
        exact Reach.done ttok mix fk23 (p23_e_2 a0 a1 r1) (obs_cons h0 (obs_cons h1 (obs_cons (laws_eqFileS_ok h2) (obs_cons h3 obs_nil))))
      · obtain rfl := Option.some.inj h
        exact Reach.done ttok mix fk23 (p23_e_3 a0 a1 r1) (obs_cons h0 (obs_cons h1 (obs_cons (laws_eqFileS_ok h2) (obs_cons h3 obs_nil))))
theorem laws_eqWorld_ok {N : Nat} {a0 : Wld} {a1 : Wld} {r : Bool} (h : laws_eqWorld N  a0 a1 = some r) : AbsCalls Try.prog 23 (laws_eqWorld_as a0 a1) (laws_eqWorld_ro r) :=
 AbsCalls.of_reach fk23 rfl rfl (Nat.le_of_ble_eq_true rfl) (c23_e a0 a1 r h)
end Go.Ab.T
end
section
open Go.Proofs
namespace Go.Ab.T
set_option linter.unusedVariables false
set_option maxRecDepth 100000
noncomputable def I63 : Info := { body := (Try.f63.body).getD .skip, nt := 15, results := [.tmp 6], keep := [0, 2, 4, 12], live := [], modes := [(1, [(3, .take, false)])], ext := [], lnt := [], casts := [], fcast := [] }
theorem fk63 : FnOk Try.prog 63 Try.f63 I63 := ⟨Try.func63, by kernel_rfl, by kernel_rfl, by kernel_rfl, by kernel_rfl⟩
theorem p63_e_0 (a0 : Int) (a1 : Int) (a2 : Int) : run tt (AbsCalls Try.prog) I63 3000 false [.code I63.body] ⟨(entry 0 (spec_l1In_as a0 a1 a2)), [true], [], []⟩ = some (.done (spec_l1In_ro (decide ((a0 : Int) ≤ a2))) [(decide ((a0 : Int) ≥ a1)) = true]) := by kernel_rfl
theorem p63_e_1 (a0 : Int) (a1 : Int) (a2 : Int) : run tt (AbsCalls Try.prog) I63 3000 false [.code I63.body] ⟨(entry 0 (spec_l1In_as a0 a1 a2)), [false], [], []⟩ = some (.done (spec_l1In_ro false) [(decide ((a0 : Int) ≥ a1)) = false]) := by kernel_rfl
theorem c63_e {N : Nat} : ∀ a0 a1 a2 r, spec_l1In N a0 a1 a2 = some r → Reach Try.prog Try.f63 I63 [.code I63.body] (entry 0 (spec_l1In_as a0 a1 a2)) (spec_l1In_ro r) := by
  intro a0 a1 a2 r h
  unfold spec_l1In at h
  rcases cond_inv h with ⟨h0, h⟩ | ⟨h0, h⟩
  · obtain rfl := Option.some.inj h
    exact Reach.done ttok mix fk63 (p63_e_0 a0 a1 a2) (obs_cons h0 obs_nil)
  · obtain rfl := Option.some.inj h
    exact Reach.done ttok mix fk63 (p63_e_1 a0 a1 a2) (obs_cons h0 obs_nil)
theorem spec_l1In_ok {N : Nat} {a0 : Int} {a1 : Int} {a2 : Int} {r : Bool} (h : spec_l1In N  a0 a1 a2 = some r) : AbsCalls Try.prog 63 (spec_l1In_as a0 a1 a2) (spec_l1In_ro r) :=
 AbsCalls.of_reach fk63 rfl rfl (Nat.le_of_ble_eq_true rfl) (c63_e a0 a1 a2 r h)
noncomputable def I85 : Info := { body := (Try.f85.body).getD .skip, nt := 45, results := [.tmp 2], keep := [0, 4, 6, 8, 10, 18, 82], live := [(2, [0, 6])], modes := [(4, [(4, .take, false)]), (5, [(4, .take, false)]), (6, [(0, .take, false), (2, .take, false), (5, .take, false), (6, .take, false)])], ext := [], lnt := [], casts := [], fcast := [] }
theorem fk85 : FnOk Try.prog 85 Try.f85 I85 := ⟨Try.func85, by kernel_rfl, by kernel_rfl, by kernel_rfl, by kernel_rfl⟩
def S85_2 (x0 : Str) (x3 : Int) : St := [(0, .v false [.str x0]), (6, .v false [.int .i64 x3])]
theorem p85_2_0 (x0 : Str) (x3 : Int) : run tt (AbsCalls Try.prog) I85 3000 true (stkAt 2 I85.body) ⟨(S85_2 x0 x3), [true, true, true, true, true, true], [], []⟩ = some (.done (spec_l2Shape_ro false) [(decide ((x3 : Int) < (List.length x0 : Int))) = true, (0 : Int) ≤ x3 ∧ x3 < (List.length x0), (decide ((((List.getD x0 (Int.toNat x3) 0).toNat : Int) : Int) ≥ 97)) = true, (0 : Int) ≤ x3 ∧ x3 < (List.length x0), (0 : Int) ≤ x3 ∧ x3 < (List.length x0), (decide ((((List.getD x0 (Int.toNat x3) 0).toNat : Int) : Int) ≥ 48)) = true, (0 : Int) ≤ x3 ∧ x3 < (List.length x0), (!(decide ((((List.getD x0 (Int.toNat x3) 0).toNat : Int) : Int) ≤ 122))) = true, ((x3 : Int) == 0) = true, true = true]) := by kernel_rfl
theorem p85_2_1 (x0 : Str) (x3 : Int) : run tt (AbsCalls Try.prog) I85 3000 true (stkAt 2 I85.body) ⟨(S85_2 x0 x3), [true, true, true, true, false, true], [], []⟩ = some (.done (spec_l2Shape_ro false) [(decide ((x3 : Int) < (List.length x0 : Int))) = true, (0 : Int) ≤ x3 ∧ x3 < (List.length x0), (decide ((((List.getD x0 (Int.toNat x3) 0).toNat : Int) : Int) ≥ 97)) = true, (0 : Int) ≤ x3 ∧ x3 < (List.length x0), (0 : Int) ≤ x3 ∧ x3 < (List.length x0), (decide ((((List.getD x0 (Int.toNat x3) 0).toNat : Int) : Int) ≥ 48)) = true, (0 : Int) ≤ x3 ∧ x3 < (List.length x0), (!(decide ((((List.getD x0 (Int.toNat x3) 0).toNat : Int) : Int) ≤ 122))) = true, ((x3 : Int) == 0) = false, (!(decide ((((List.getD x0 (Int.toNat x3) 0).toNat : Int) : Int) ≤ 57))) = true]) := by kernel_rfl
theorem p85_2_2 (x0 : Str) (x3 : Int) : run tt (AbsCalls Try.prog) I85 3000 true (stkAt 2 I85.body) ⟨(S85_2 x0 x3), [true, true, true, true, false, false], [], []⟩ = some (.stop (stkAt 2 I85.body) (S85_2 x0 (IntKind.i64.wrap (x3 + 1))) [(decide ((x3 : Int) < (List.length x0 : Int))) = true, (0 : Int) ≤ x3 ∧ x3 < (List.length x0), (decide ((((List.getD x0 (Int.toNat x3) 0).toNat : Int) : Int) ≥ 97)) = true, (0 : Int) ≤ x3 ∧ x3 < (List.length x0), (0 : Int) ≤ x3 ∧ x3 < (List.length x0), (decide ((((List.getD x0 (Int.toNat x3) 0).toNat : Int) : Int) ≥ 48)) = true, (0 : Int) ≤ x3 ∧ x3 < (List.length x0), (!(decide ((((List.getD x0 (Int.toNat x3) 0).toNat : Int) : Int) ≤ 122))) = true, ((x3 : Int) == 0) = false, (!(decide ((((List.getD x0 (Int.toNat x3) 0).toNat : Int) : Int) ≤ 57))) = false]) := by kernel_rfl
theorem p85_2_3 (x0 : Str) (x3 : Int) : run tt (AbsCalls Try.prog) I85 3000 true (stkAt 2 I85.body) ⟨(S85_2 x0 x3), [true, true, true, false, false], [], []⟩ = some (.stop (stkAt 2 I85.body) (S85_2 x0 (IntKind.i64.wrap (x3 + 1))) [(decide ((x3 : Int) < (List.length x0 : Int))) = true, (0 : Int) ≤ x3 ∧ x3 < (List.length x0), (decide ((((List.getD x0 (Int.toNat x3) 0).toNat : Int) : Int) ≥ 97)) = true, (0 : Int) ≤ x3 ∧ x3 < (List.length x0), (0 : Int) ≤ x3 ∧ x3 < (List.length x0), (decide ((((List.getD x0 (Int.toNat x3) 0).toNat : Int) : Int) ≥ 48)) = true, (0 : Int) ≤ x3 ∧ x3 < (List.length x0), (!(decide ((((List.getD x0 (Int.toNat x3) 0).toNat : Int) : Int) ≤ 122))) = false, false = false]) := by kernel_rfl
theorem p85_2_4 (x0 : Str) (x3 : Int) : run tt (AbsCalls Try.prog) I85 3000 true (stkAt 2 I85.body) ⟨(S85_2 x0 x3), [true, true, false, true, true, true], [], []⟩ = some (.done (spec_l2Shape_ro false) [(decide ((x3 : Int) < (List.length x0 : Int))) = true, (0 : Int) ≤ x3 ∧ x3 < (List.length x0), (decide ((((List.getD x0 (Int.toNat x3) 0).toNat : Int) : Int) ≥ 97)) = true, (0 : Int) ≤ x3 ∧ x3 < (List.length x0), (0 : Int) ≤ x3 ∧ x3 < (List.length x0), (decide ((((List.getD x0 (Int.toNat x3) 0).toNat : Int) : Int) ≥ 48)) = false, (!(decide ((((List.getD x0 (Int.toNat x3) 0).toNat : Int) : Int) ≤ 122))) = true, ((x3 : Int) == 0) = true, true = true]) := by kernel_rfl
theorem p85_2_5 (x0 : Str) (x3 : Int) : run tt (AbsCalls Try.prog) I85 3000 true (stkAt 2 I85.body) ⟨(S85_2 x0 x3), [true, true, false, true, false, true], [], []⟩ = some (.done (spec_l2Shape_ro false) [(decide ((x3 : Int) < (List.length x0 : Int))) = true, (0 : Int) ≤ x3 ∧ x3 < (List.length x0), (decide ((((List.getD x0 (Int.toNat x3) 0).toNat : Int) : Int) ≥ 97)) = true, (0 : Int) ≤ x3 ∧ x3 < (List.length x0), (0 : Int) ≤ x3 ∧ x3 < (List.length x0), (decide ((((List.getD x0 (Int.toNat x3) 0).toNat : Int) : Int) ≥ 48)) = false, (!(decide ((((List.getD x0 (Int.toNat x3) 0).toNat : Int) : Int) ≤ 122))) = true, ((x3 : Int) == 0) = false, (!false) = true]) := by kernel_rfl
theorem p85_2_6 (x0 : Str) (x3 : Int) : run tt (AbsCalls Try.prog) I85 3000 true (stkAt 2 I85.body) ⟨(S85_2 x0 x3), [true, true, false, false, false], [], []⟩ = some (.stop (stkAt 2 I85.body) (S85_2 x0 (IntKind.i64.wrap (x3 + 1))) [(decide ((x3 : Int) < (List.length x0 : Int))) = true, (0 : Int) ≤ x3 ∧ x3 < (List.length x0), (decide ((((List.getD x0 (Int.toNat x3) 0).toNat : Int) : Int) ≥ 97)) = true, (0 : Int) ≤ x3 ∧ x3 < (List.length x0), (0 : Int) ≤ x3 ∧ x3 < (List.length x0), (decide ((((List.getD x0 (Int.toNat x3) 0).toNat : Int) : Int) ≥ 48)) = false, (!(decide ((((List.getD x0 (Int.toNat x3) 0).toNat : Int) : Int) ≤ 122))) = false, false = false]) := by kernel_rfl
theorem p85_2_7 (x0 : Str) (x3 : Int) : run tt (AbsCalls Try.prog) I85 3000 true (stkAt 2 I85.body) ⟨(S85_2 x0 x3), [true, false, true, true, true, true], [], []⟩ = some (.done (spec_l2Shape_ro false) [(decide ((x3 : Int) < (List.length x0 : Int))) = true, (0 : Int) ≤ x3 ∧ x3 < (List.length x0), (decide ((((List.getD x0 (Int.toNat x3) 0).toNat : Int) : Int) ≥ 97)) = false, (0 : Int) ≤ x3 ∧ x3 < (List.length x0), (decide ((((List.getD x0 (Int.toNat x3) 0).toNat : Int) : Int) ≥ 48)) = true, (0 : Int) ≤ x3 ∧ x3 < (List.length x0), (!false) = true, ((x3 : Int) == 0) = true, true = true]) := by kernel_rfl
theorem p85_2_8 (x0 : Str) (x3 : Int) : run tt (AbsCalls Try.prog) I85 3000 true (stkAt 2 I85.body) ⟨(S85_2 x0 x3), [true, false, true, true, false, true], [], []⟩ = some (.done (spec_l2Shape_ro false) [(decide ((x3 : Int) < (List.length x0 : Int))) = true, (0 : Int) ≤ x3 ∧ x3 < (List.length x0), (decide ((((List.getD x0 (Int.toNat x3) 0).toNat : Int) : Int) ≥ 97)) = false, (0 : Int) ≤ x3 ∧ x3 < (List.length x0), (decide ((((List.getD x0 (Int.toNat x3) 0).toNat : Int) : Int) ≥ 48)) = true, (0 : Int) ≤ x3 ∧ x3 < (List.length x0), (!false) = true, ((x3 : Int) == 0) = false, (!(decide ((((List.getD x0 (Int.toNat x3) 0).toNat : Int) : Int) ≤ 57))) = true]) := by kernel_rfl
theorem p85_2_9 (x0 : Str) (x3 : Int) : run tt (AbsCalls Try.prog) I85 3000 true (stkAt 2 I85.body) ⟨(S85_2 x0 x3), [true, false, true, true, false, false], [], []⟩ = some (.stop (stkAt 2 I85.body) (S85_2 x0 (IntKind.i64.wrap (x3 + 1))) [(decide ((x3 : Int) < (List.length x0 : Int))) = true, (0 : Int) ≤ x3 ∧ x3 < (List.length x0), (decide ((((List.getD x0 (Int.toNat x3) 0).toNat : Int) : Int) ≥ 97)) = false, (0 : Int) ≤ x3 ∧ x3 < (List.length x0), (decide ((((List.getD x0 (Int.toNat x3) 0).toNat : Int) : Int) ≥ 48)) = true, (0 : Int) ≤ x3 ∧ x3 < (List.length x0), (!false) = true, ((x3 : Int) == 0) = false, (!(decide ((((List.getD x0 (Int.toNat x3) 0).toNat : Int) : Int) ≤ 57))) = false]) := by kernel_rfl
theorem p85_2_10 (x0 : Str) (x3 : Int) : run tt (AbsCalls Try.prog) I85 3000 true (stkAt 2 I85.body) ⟨(S85_2 x0 x3), [true, false, false, true, true, true], [], []⟩ = some (.done (spec_l2Shape_ro false) [(decide ((x3 : Int) < (List.length x0 : Int))) = true, (0 : Int) ≤ x3 ∧ x3 < (List.length x0), (decide ((((List.getD x0 (Int.toNat x3) 0).toNat : Int) : Int) ≥ 97)) = false, (0 : Int) ≤ x3 ∧ x3 < (List.length x0), (decide ((((List.getD x0 (Int.toNat x3) 0).toNat : Int) : Int) ≥ 48)) = false, (!false) = true, ((x3 : Int) == 0) = true, true = true]) := by kernel_rfl
theorem p85_2_11 (x0 : Str) (x3 : Int) : run tt (AbsCalls Try.prog) I85 3000 true (stkAt 2 I85.body) ⟨(S85_2 x0 x3), [true, false, false, true, false, true], [], []⟩ = some (.done (spec_l2Shape_ro false) [(decide ((x3 : Int) < (List.length x0 : Int))) = true, (0 : Int) ≤ x3 ∧ x3 < (List.length x0), (decide ((((List.getD x0 (Int.toNat x3) 0).toNat : Int) : Int) ≥ 97)) = false, (0 : Int) ≤ x3 ∧ x3 < (List.length x0), (decide ((((List.getD x0 (Int.toNat x3) 0).toNat : Int) : Int) ≥ 48)) = false, (!false) = true, ((x3 : Int) == 0) = false, (!false) = true]) := by kernel_rfl
theorem p85_2_12 (x0 : Str) (x3 : Int) : run tt (AbsCalls Try.prog) I85 3000 true (stkAt 2 I85.body) ⟨(S85_2 x0 x3), [false], [], []⟩ = some (.done (spec_l2Shape_ro (decide (((List.length x0 : Int) : Int) > 0))) [(decide ((x3 : Int) < (List.length x0 : Int))) = false]) := by kernel_rfl
theorem p85_e_13 (a0 : Str) : run tt (AbsCalls Try.prog) I85 3000 false [.code I85.body] ⟨(entry 0 (spec_l2Shape_as a0)), [], [], []⟩ = some (.stop (stkAt 2 I85.body) (S85_2 a0 0) []) := by kernel_rfl
theorem c85_2 {N : Nat} : ∀ n x0 x3 r, spec_l2Shape_b2 N n x0 x3 = some r → Reach Try.prog Try.f85 I85 (stkAt 2 I85.body) (S85_2 x0 x3) (spec_l2Shape_ro r) := by
  intro n
  induction n with
  | zero => intro x0 x3 r h; have h' : (none : Option (Bool)) = some r := h; cases h'
  | succ n ih =>
    intro x0 x3 r h
    rw [spec_l2Shape_b2] at h
    rcases cond_inv h with ⟨h0, h⟩ | ⟨h0, h⟩
    · obtain ⟨h1, h⟩ := ite_inv h
      rcases cond_inv h with ⟨h2, h⟩ | ⟨h2, h⟩
      · rcases cond_inv h with ⟨h5, h⟩ | ⟨h5, h⟩
        · rcases cond_inv h with ⟨h7, h⟩ | ⟨h7, h⟩
          · rcases cond_inv h with ⟨h8, h⟩ | ⟨h8, h⟩
            · obtain rfl := Option.some.inj h
              exact Reach.done ttok mix fk85 (p85_2_0 x0 x3) (obs_cons h0 (obs_cons h1 (obs_cons h2 (obs_cons h1 (obs_cons h1 (obs_cons h5 (obs_cons h1 (obs_cons h7 (obs_cons h8 (obs_cons rfl obs_nil))))))))))
            · rcases cond_inv h with ⟨h9, h⟩ | ⟨h9, h⟩
              · obtain rfl := Option.some.inj h
                exact Reach.done ttok mix fk85 (p85_2_1 x0 x3) (obs_cons h0 (obs_cons h1 (obs_cons h2 (obs_cons h1 (obs_cons h1 (obs_cons h5 (obs_cons h1 (obs_cons h7 (obs_cons h8 (obs_cons h9 obs_nil))))))))))
              · exact Reach.stop ttok mix fk85 (p85_2_2 x0 x3) (obs_cons h0 (obs_cons h1 (obs_cons h2 (obs_cons h1 (obs_cons h1 (obs_cons h5 (obs_cons h1 (obs_cons h7 (obs_cons h8 (obs_cons h9 obs_nil)))))))))) (ih _ _ _ h)
          · exact Reach.stop ttok mix fk85 (p85_2_3 x0 x3) (obs_cons h0 (obs_cons h1 (obs_cons h2 (obs_cons h1 (obs_cons h1 (obs_cons h5 (obs_cons h1 (obs_cons h7 (obs_cons rfl obs_nil))))))))) (ih _ _ _ h)
        · rcases cond_inv h with ⟨h6, h⟩ | ⟨h6, h⟩
          · rcases cond_inv h with ⟨h7, h⟩ | ⟨h7, h⟩
            · obtain rfl := Option.some.inj h
              exact Reach.done ttok mix fk85 (p85_2_4 x0 x3) (obs_cons h0 (obs_cons h1 (obs_cons h2 (obs_cons h1 (obs_cons h1 (obs_cons h5 (obs_cons h6 (obs_cons h7 (obs_cons rfl obs_nil)))))))))
            · obtain rfl := Option.some.inj h
              exact Reach.done ttok mix fk85 (p85_2_5 x0 x3) (obs_cons h0 (obs_cons h1 (obs_cons h2 (obs_cons h1 (obs_cons h1 (obs_cons h5 (obs_cons h6 (obs_cons h7 (obs_cons rfl obs_nil)))))))))
          · exact Reach.stop ttok mix fk85 (p85_2_6 x0 x3) (obs_cons h0 (obs_cons h1 (obs_cons h2 (obs_cons h1 (obs_cons h1 (obs_cons h5 (obs_cons h6 (obs_cons rfl obs_nil)))))))) (ih _ _ _ h)
      · rcases cond_inv h with ⟨h4, h⟩ | ⟨h4, h⟩
        · rcases cond_inv h with ⟨h7, h⟩ | ⟨h7, h⟩
          · obtain rfl := Option.some.inj h
            exact Reach.done ttok mix fk85 (p85_2_7 x0 x3) (obs_cons h0 (obs_cons h1 (obs_cons h2 (obs_cons h1 (obs_cons h4 (obs_cons h1 (obs_cons rfl (obs_cons h7 (obs_cons rfl obs_nil)))))))))
          · rcases cond_inv h with ⟨h8, h⟩ | ⟨h8, h⟩
            · obtain rfl := Option.some.inj h
              exact Reach.done ttok mix fk85 (p85_2_8 x0 x3) (obs_cons h0 (obs_cons h1 (obs_cons h2 (obs_cons h1 (obs_cons h4 (obs_cons h1 (obs_cons rfl (obs_cons h7 (obs_cons h8 obs_nil)))))))))
            · exact Reach.stop ttok mix fk85 (p85_2_9 x0 x3) (obs_cons h0 (obs_cons h1 (obs_cons h2 (obs_cons h1 (obs_cons h4 (obs_cons h1 (obs_cons rfl (obs_cons h7 (obs_cons h8 obs_nil))))))))) (ih _ _ _ h)
        · rcases cond_inv h with ⟨h6, h⟩ | ⟨h6, h⟩
          · obtain rfl := Option.some.inj h
            exact Reach.done ttok mix fk85 (p85_2_10 x0 x3) (obs_cons h0 (obs_cons h1 (obs_cons h2 (obs_cons h1 (obs_cons h4 (obs_cons rfl (obs_cons h6 (obs_cons rfl obs_nil))))))))
          · obtain rfl := Option.some.inj h
            exact Reach.done ttok mix fk85 (p85_2_11 x0 x3) (obs_cons h0 (obs_cons h1 (obs_cons h2 (obs_cons h1 (obs_cons h4 (obs_cons rfl (obs_cons h6 (obs_cons rfl obs_nil))))))))
    · obtain rfl := Option.some.inj h
      exact Reach.done ttok mix fk85 (p85_2_12 x0 x3) (obs_cons h0 obs_nil)
theorem c85_e {N : Nat} : ∀ a0 r, spec_l2Shape N a0 = some r → Reach Try.prog Try.f85 I85 [.code I85.body] (entry 0 (spec_l2Shape_as a0)) (spec_l2Shape_ro r) := by
  intro a0 r h
  unfold spec_l2Shape at h
  exact Reach.stop ttok mix fk85 (p85_e_13 a0) obs_nil (c85_2   _ _ _ _ h)
theorem spec_l2Shape_ok {N : Nat} {a0 : Str} {r : Bool} (h : spec_l2Shape N  a0 = some r) : AbsCalls Try.prog 85 (spec_l2Shape_as a0) (spec_l2Shape_ro r) :=
 AbsCalls.of_reach fk85 rfl rfl (Nat.le_of_ble_eq_true rfl) (c85_e a0 r h)
noncomputable def I96 : Info := { body := (Try.f96.body).getD .skip, nt := 2, results := [.tmp 0], keep := [0], live := [], modes := [], ext := [], lnt := [], casts := [], fcast := [] }
theorem fk96 : FnOk Try.prog 96 Try.f96 I96 := ⟨Try.func96, by kernel_rfl, by kernel_rfl, by kernel_rfl, by kernel_rfl⟩
theorem p96_e_0 : run tt (AbsCalls Try.prog) I96 3000 false [.code I96.body] ⟨(entry 0 (spec_l2Reserved_as )), [], [], []⟩ = some (.done (spec_l2Reserved_ro [[108, 101, 116], [105, 110], [105, 102], [116, 104, 101, 110], [101, 108, 115, 101], [102, 111, 114], [100, 111], [108, 101, 110], [115, 117, 109], [116, 97, 107, 101], [115, 107, 105, 112], [114, 97, 110, 103, 101], [110, 116, 104], [119, 104, 101, 114, 101], [107, 101, 101, 112], [97, 100, 100], [103, 114, 111, 117, 112], [106, 111, 105, 110], [99, 111, 108, 117, 109, 110], [114, 111, 119, 115], [99, 108, 111, 99, 107], [99, 104, 97, 110, 99, 101], [102, 105, 108, 101], [116, 97, 98, 108, 101]]) []) := by kernel_rfl
theorem c96_e {N : Nat} : ∀ r, spec_l2Reserved N = some r → Reach Try.prog Try.f96 I96 [.code I96.body] (entry 0 (spec_l2Reserved_as )) (spec_l2Reserved_ro r) := by
  intro r h
  unfold spec_l2Reserved at h
  obtain rfl := Option.some.inj h
  exact Reach.done ttok mix fk96 (p96_e_0) obs_nil
theorem spec_l2Reserved_ok {N : Nat} {r : (List Str)} (h : spec_l2Reserved N   = some r) : AbsCalls Try.prog 96 (spec_l2Reserved_as ) (spec_l2Reserved_ro r) :=
 AbsCalls.of_reach fk96 rfl rfl (Nat.le_of_ble_eq_true rfl) (c96_e  r h)
noncomputable def I89 : Info := { body := (Try.f89.body).getD .skip, nt := 18, results := [.tmp 4], keep := [0, 2, 8, 10, 18, 34], live := [(2, [0, 2, 10])], modes := [], ext := [], lnt := [], casts := [], fcast := [] }
theorem fk89 : FnOk Try.prog 89 Try.f89 I89 := ⟨Try.func89, by kernel_rfl, by kernel_rfl, by kernel_rfl, by kernel_rfl⟩
def S89_2 (x0 : List Str) (x1 : Str) (x5 : Int) : St := [(0, .v false [.sl .ro .str x0]), (2, .v false [.str x1]), (10, .v false [.int .i64 x5])]
theorem p89_2_0 (x0 : List Str) (x1 : Str) (x5 : Int) : run tt (AbsCalls Try.prog) I89 3000 true (stkAt 2 I89.body) ⟨(S89_2 x0 x1 x5), [true, true], [], []⟩ = some (.done (spec_l1Has_ro true) [(decide ((x5 : Int) < (List.length x0 : Int))) = true, (0 : Int) ≤ x5 ∧ x5 < (List.length x0), (((List.getD x0 (Int.toNat x5) Ty.str.dflt) : Str) == x1) = true]) := by kernel_rfl
theorem p89_2_1 (x0 : List Str) (x1 : Str) (x5 : Int) : run tt (AbsCalls Try.prog) I89 3000 true (stkAt 2 I89.body) ⟨(S89_2 x0 x1 x5), [true, false], [], []⟩ = some (.stop (stkAt 2 I89.body) (S89_2 x0 x1 (IntKind.i64.wrap (x5 + 1))) [(decide ((x5 : Int) < (List.length x0 : Int))) = true, (0 : Int) ≤ x5 ∧ x5 < (List.length x0), (((List.getD x0 (Int.toNat x5) Ty.str.dflt) : Str) == x1) = false]) := by kernel_rfl
theorem p89_2_2 (x0 : List Str) (x1 : Str) (x5 : Int) : run tt (AbsCalls Try.prog) I89 3000 true (stkAt 2 I89.body) ⟨(S89_2 x0 x1 x5), [false], [], []⟩ = some (.done (spec_l1Has_ro false) [(decide ((x5 : Int) < (List.length x0 : Int))) = false]) := by kernel_rfl
theorem p89_e_3 (a0 : List Str) (a1 : Str) : run tt (AbsCalls Try.prog) I89 3000 false [.code I89.body] ⟨(entry 0 (spec_l1Has_as a0 a1)), [], [], []⟩ = some (.stop (stkAt 2 I89.body) (S89_2 a0 a1 0) []) := by kernel_rfl
theorem c89_2 {N : Nat} : ∀ n x0 x1 x5 r, spec_l1Has_b2 N n x0 x1 x5 = some r → Reach Try.prog Try.f89 I89 (stkAt 2 I89.body) (S89_2 x0 x1 x5) (spec_l1Has_ro r) := by
  intro n
  induction n with
  | zero => intro x0 x1 x5 r h; have h' : (none : Option (Bool)) = some r := h; cases h'
  | succ n ih =>
    intro x0 x1 x5 r h
    rw [spec_l1Has_b2] at h
    rcases cond_inv h with ⟨h0, h⟩ | ⟨h0, h⟩
    · obtain ⟨h1, h⟩ := ite_inv h
      rcases cond_inv h with ⟨h2, h⟩ | ⟨h2, h⟩
      · obtain rfl := Option.some.inj h
        exact Reach.done ttok mix fk89 (p89_2_0 x0 x1 x5) (obs_cons h0 (obs_cons h1 (obs_cons h2 obs_nil)))
      · exact Reach.stop ttok mix fk89 (p89_2_1 x0 x1 x5) (obs_cons h0 (obs_cons h1 (obs_cons h2 obs_nil))) (ih _ _ _ _ h)
    · obtain rfl := Option.some.inj h
      exact Reach.done ttok mix fk89 (p89_2_2 x0 x1 x5) (obs_cons h0 obs_nil)
theorem c89_e {N : Nat} : ∀ a0 a1 r, spec_l1Has N a0 a1 = some r → Reach Try.prog Try.f89 I89 [.code I89.body] (entry 0 (spec_l1Has_as a0 a1)) (spec_l1Has_ro r) := by
  intro a0 a1 r h
  unfold spec_l1Has at h
  exact Reach.stop ttok mix fk89 (p89_e_3 a0 a1) obs_nil (c89_2   _ _ _ _ _ h)
theorem spec_l1Has_ok {N : Nat} {a0 : List Str} {a1 : Str} {r : Bool} (h : spec_l1Has N  a0 a1 = some r) : AbsCalls Try.prog 89 (spec_l1Has_as a0 a1) (spec_l1Has_ro r) :=
 AbsCalls.of_reach fk89 rfl rfl (Nat.le_of_ble_eq_true rfl) (c89_e a0 a1 r h)
noncomputable def I86 : Info := { body := (Try.f86.body).getD .skip, nt := 6, results := [.tmp 2], keep := [0, 4], live := [], modes := [], ext := [], lnt := [], casts := [], fcast := [] }
theorem fk86 : FnOk Try.prog 86 Try.f86 I86 := ⟨Try.func86, by kernel_rfl, by kernel_rfl, by kernel_rfl, by kernel_rfl⟩
theorem p86_e_0 (a0 : Str) (r1 : (List Str)) (r2 : Bool) : run tt (AbsCalls Try.prog) I86 3000 false [.code I86.body] ⟨(entry 0 (spec_IsReserved_as a0)), [], [spec_l2Reserved_ro r1, spec_l1Has_ro r2], []⟩ = some (.done (spec_IsReserved_ro r2) [AbsCalls Try.prog 96 spec_l2Reserved_as (spec_l2Reserved_ro r1), AbsCalls Try.prog 89 (spec_l1Has_as r1 a0) (spec_l1Has_ro r2)]) := by kernel_rfl
theorem c86_e {N : Nat} : ∀ a0 r, spec_IsReserved N a0 = some r → Reach Try.prog Try.f86 I86 [.code I86.body] (entry 0 (spec_IsReserved_as a0)) (spec_IsReserved_ro r) := by
  intro a0 r h
  unfold spec_IsReserved at h
  obtain ⟨r1, h0, h⟩ := bind_inv h
  obtain ⟨r2, h1, h⟩ := bind_inv h
  obtain rfl := Option.some.inj h
  exact Reach.done ttok mix fk86 (p86_e_0 a0 r1 r2) (obs_cons (spec_l2Reserved_ok h0) (obs_cons (spec_l1Has_ok h1) obs_nil))
theorem spec_IsReserved_ok {N : Nat} {a0 : Str} {r : Bool} (h : spec_IsReserved N  a0 = some r) : AbsCalls Try.prog 86 (spec_IsReserved_as a0) (spec_IsReserved_ro r) :=
 AbsCalls.of_reach fk86 rfl rfl (Nat.le_of_ble_eq_true rfl) (c86_e a0 r h)
noncomputable def I64 : Info := { body := (Try.f64.body).getD .skip, nt := 15, results := [.tmp 2], keep := [0, 4], live := [], modes := [(1, [(2, .take, false), (7, .take, false)])], ext := [], lnt := [], casts := [], fcast := [] }
theorem fk64 : FnOk Try.prog 64 Try.f64 I64 := ⟨Try.func64, by kernel_rfl, by kernel_rfl, by kernel_rfl, by kernel_rfl⟩
theorem p64_e_0 (a0 : Str) (r1 : Bool) (r2 : Bool) : run tt (AbsCalls Try.prog) I64 3000 false [.code I64.body] ⟨(entry 0 (spec_IsValidName_as a0)), [true, true], [spec_l2Shape_ro r1, spec_IsReserved_ro r2], []⟩ = some (.done (spec_IsValidName_ro (!r2)) [AbsCalls Try.prog 85 (spec_l2Shape_as a0) (spec_l2Shape_ro r1), r1 = true, (decide (((List.length a0 : Int) : Int) ≤ 8)) = true, AbsCalls Try.prog 86 (spec_IsReserved_as a0) (spec_IsReserved_ro r2)]) := by kernel_rfl
theorem p64_e_1 (a0 : Str) (r1 : Bool) : run tt (AbsCalls Try.prog) I64 3000 false [.code I64.body] ⟨(entry 0 (spec_IsValidName_as a0)), [true, false], [spec_l2Shape_ro r1], []⟩ = some (.done (spec_IsValidName_ro false) [AbsCalls Try.prog 85 (spec_l2Shape_as a0) (spec_l2Shape_ro r1), r1 = true, (decide (((List.length a0 : Int) : Int) ≤ 8)) = false]) := by kernel_rfl
theorem p64_e_2 (a0 : Str) (r1 : Bool) : run tt (AbsCalls Try.prog) I64 3000 false [.code I64.body] ⟨(entry 0 (spec_IsValidName_as a0)), [false, false], [spec_l2Shape_ro r1], []⟩ = some (.done (spec_IsValidName_ro false) [AbsCalls Try.prog 85 (spec_l2Shape_as a0) (spec_l2Shape_ro r1), r1 = false, false = false]) := by kernel_rfl
theorem c64_e {N : Nat} : ∀ a0 r, spec_IsValidName N a0 = some r → Reach Try.prog Try.f64 I64 [.code I64.body] (entry 0 (spec_IsValidName_as a0)) (spec_IsValidName_ro r) := by
  intro a0 r h
  unfold spec_IsValidName at h
  obtain ⟨r1, h0, h⟩ := bind_inv h
  rcases cond_inv h with ⟨h1, h⟩ | ⟨h1, h⟩
  · rcases cond_inv h with ⟨h2, h⟩ | ⟨h2, h⟩
    · obtain ⟨r2, h3, h⟩ := bind_inv h
      obtain rfl := Option.some.inj h
      exact Reach.done ttok mix fk64 (p64_e_0 a0 r1 r2) (obs_cons (spec_l2Shape_ok h0) (obs_cons h1 (obs_cons h2 (obs_cons (spec_IsReserved_ok h3) obs_nil))))
    · obtain rfl := Option.some.inj h
      exact Reach.done ttok mix fk64 (p64_e_1 a0 r1) (obs_cons (spec_l2Shape_ok h0) (obs_cons h1 (obs_cons h2 obs_nil)))
  · obtain rfl := Option.some.inj h
    exact Reach.done ttok mix fk64 (p64_e_2 a0 r1) (obs_cons (spec_l2Shape_ok h0) (obs_cons h1 (obs_cons rfl obs_nil)))
theorem spec_IsValidName_ok {N : Nat} {a0 : Str} {r : Bool} (h : spec_IsValidName N  a0 = some r) : AbsCalls Try.prog 64 (spec_IsValidName_as a0) (spec_IsValidName_ro r) :=
 AbsCalls.of_reach fk64 rfl rfl (Nat.le_of_ble_eq_true rfl) (c64_e a0 r h)
noncomputable def I65 : Info := { body := (Try.f65.body).getD .skip, nt := 15, results := [.tmp 6], keep := [0, 2, 4, 12], live := [], modes := [(1, [(3, .take, false)])], ext := [], lnt := [], casts := [], fcast := [] }
theorem fk65 : FnOk Try.prog 65 Try.f65 I65 := ⟨Try.func65, by kernel_rfl, by kernel_rfl, by kernel_rfl, by kernel_rfl⟩
theorem p65_e_0 (a0 : Int) (a1 : Int) (a2 : Int) : run tt (AbsCalls Try.prog) I65 3000 false [.code I65.body] ⟨(entry 0 (impl_within_as a0 a1 a2)), [true], [], []⟩ = some (.done (impl_within_ro (decide ((a0 : Int) ≤ a2))) [(decide ((a1 : Int) ≤ a0)) = true]) := by kernel_rfl
theorem p65_e_1 (a0 : Int) (a1 : Int) (a2 : Int) : run tt (AbsCalls Try.prog) I65 3000 false [.code I65.body] ⟨(entry 0 (impl_within_as a0 a1 a2)), [false], [], []⟩ = some (.done (impl_within_ro false) [(decide ((a1 : Int) ≤ a0)) = false]) := by kernel_rfl
theorem c65_e {N : Nat} : ∀ a0 a1 a2 r, impl_within N a0 a1 a2 = some r → Reach Try.prog Try.f65 I65 [.code I65.body] (entry 0 (impl_within_as a0 a1 a2)) (impl_within_ro r) := by
  intro a0 a1 a2 r h
  unfold impl_within at h
  rcases cond_inv h with ⟨h0, h⟩ | ⟨h0, h⟩
  · obtain rfl := Option.some.inj h
    exact Reach.done ttok mix fk65 (p65_e_0 a0 a1 a2) (obs_cons h0 obs_nil)
  · obtain rfl := Option.some.inj h
    exact Reach.done ttok mix fk65 (p65_e_1 a0 a1 a2) (obs_cons h0 obs_nil)
theorem impl_within_ok {N : Nat} {a0 : Int} {a1 : Int} {a2 : Int} {r : Bool} (h : impl_within N  a0 a1 a2 = some r) : AbsCalls Try.prog 65 (impl_within_as a0 a1 a2) (impl_within_ro r) :=
 AbsCalls.of_reach fk65 rfl rfl (Nat.le_of_ble_eq_true rfl) (c65_e a0 a1 a2 r h)
noncomputable def I87 : Info := { body := (Try.f87.body).getD .skip, nt := 42, results := [.tmp 2], keep := [0, 4, 6, 8, 16, 76], live := [(2, [0, 6])], modes := [(4, [(4, .take, false)]), (5, [(0, .take, false), (2, .take, false), (5, .take, false), (11, .take, false)])], ext := [], lnt := [], casts := [], fcast := [] }
theorem fk87 : FnOk Try.prog 87 Try.f87 I87 := ⟨Try.func87, by kernel_rfl, by kernel_rfl, by kernel_rfl, by kernel_rfl⟩
def S87_2 (x0 : Str) (x3 : Int) : St := [(0, .v false [.str x0]), (6, .v false [.int .i64 x3])]
theorem p87_2_0 (x0 : Str) (x3 : Int) : run tt (AbsCalls Try.prog) I87 3000 true (stkAt 2 I87.body) ⟨(S87_2 x0 x3), [true, true, true, true, true, true], [], []⟩ = some (.done (impl_isWord_ro false) [(decide ((x3 : Int) < (List.length x0 : Int))) = true, (0 : Int) ≤ x3 ∧ x3 < (List.length x0), (decide ((((List.getD x0 (Int.toNat x3) 0).toNat : Int) : Int) ≥ 97)) = true, (0 : Int) ≤ x3 ∧ x3 < (List.length x0), (!(decide ((((List.getD x0 (Int.toNat x3) 0).toNat : Int) : Int) ≤ 122))) = true, ((x3 : Int) == 0) = true, true = true, true = true]) := by kernel_rfl
theorem p87_2_1 (x0 : Str) (x3 : Int) : run tt (AbsCalls Try.prog) I87 3000 true (stkAt 2 I87.body) ⟨(S87_2 x0 x3), [true, true, true, false, true, true], [], []⟩ = some (.done (impl_isWord_ro false) [(decide ((x3 : Int) < (List.length x0 : Int))) = true, (0 : Int) ≤ x3 ∧ x3 < (List.length x0), (decide ((((List.getD x0 (Int.toNat x3) 0).toNat : Int) : Int) ≥ 97)) = true, (0 : Int) ≤ x3 ∧ x3 < (List.length x0), (!(decide ((((List.getD x0 (Int.toNat x3) 0).toNat : Int) : Int) ≤ 122))) = true, ((x3 : Int) == 0) = false, (0 : Int) ≤ x3 ∧ x3 < (List.length x0), (decide ((((List.getD x0 (Int.toNat x3) 0).toNat : Int) : Int) < 48)) = true, true = true]) := by kernel_rfl
theorem p87_2_2 (x0 : Str) (x3 : Int) : run tt (AbsCalls Try.prog) I87 3000 true (stkAt 2 I87.body) ⟨(S87_2 x0 x3), [true, true, true, false, false, true], [], []⟩ = some (.done (impl_isWord_ro false) [(decide ((x3 : Int) < (List.length x0 : Int))) = true, (0 : Int) ≤ x3 ∧ x3 < (List.length x0), (decide ((((List.getD x0 (Int.toNat x3) 0).toNat : Int) : Int) ≥ 97)) = true, (0 : Int) ≤ x3 ∧ x3 < (List.length x0), (!(decide ((((List.getD x0 (Int.toNat x3) 0).toNat : Int) : Int) ≤ 122))) = true, ((x3 : Int) == 0) = false, (0 : Int) ≤ x3 ∧ x3 < (List.length x0), (decide ((((List.getD x0 (Int.toNat x3) 0).toNat : Int) : Int) < 48)) = false, (0 : Int) ≤ x3 ∧ x3 < (List.length x0), (decide ((((List.getD x0 (Int.toNat x3) 0).toNat : Int) : Int) > 57)) = true]) := by kernel_rfl
theorem p87_2_3 (x0 : Str) (x3 : Int) : run tt (AbsCalls Try.prog) I87 3000 true (stkAt 2 I87.body) ⟨(S87_2 x0 x3), [true, true, true, false, false, false], [], []⟩ = some (.stop (stkAt 2 I87.body) (S87_2 x0 (IntKind.i64.wrap (x3 + 1))) [(decide ((x3 : Int) < (List.length x0 : Int))) = true, (0 : Int) ≤ x3 ∧ x3 < (List.length x0), (decide ((((List.getD x0 (Int.toNat x3) 0).toNat : Int) : Int) ≥ 97)) = true, (0 : Int) ≤ x3 ∧ x3 < (List.length x0), (!(decide ((((List.getD x0 (Int.toNat x3) 0).toNat : Int) : Int) ≤ 122))) = true, ((x3 : Int) == 0) = false, (0 : Int) ≤ x3 ∧ x3 < (List.length x0), (decide ((((List.getD x0 (Int.toNat x3) 0).toNat : Int) : Int) < 48)) = false, (0 : Int) ≤ x3 ∧ x3 < (List.length x0), (decide ((((List.getD x0 (Int.toNat x3) 0).toNat : Int) : Int) > 57)) = false]) := by kernel_rfl
theorem p87_2_4 (x0 : Str) (x3 : Int) : run tt (AbsCalls Try.prog) I87 3000 true (stkAt 2 I87.body) ⟨(S87_2 x0 x3), [true, true, false, false], [], []⟩ = some (.stop (stkAt 2 I87.body) (S87_2 x0 (IntKind.i64.wrap (x3 + 1))) [(decide ((x3 : Int) < (List.length x0 : Int))) = true, (0 : Int) ≤ x3 ∧ x3 < (List.length x0), (decide ((((List.getD x0 (Int.toNat x3) 0).toNat : Int) : Int) ≥ 97)) = true, (0 : Int) ≤ x3 ∧ x3 < (List.length x0), (!(decide ((((List.getD x0 (Int.toNat x3) 0).toNat : Int) : Int) ≤ 122))) = false, false = false]) := by kernel_rfl
theorem p87_2_5 (x0 : Str) (x3 : Int) : run tt (AbsCalls Try.prog) I87 3000 true (stkAt 2 I87.body) ⟨(S87_2 x0 x3), [true, false, true, true, true, true], [], []⟩ = some (.done (impl_isWord_ro false) [(decide ((x3 : Int) < (List.length x0 : Int))) = true, (0 : Int) ≤ x3 ∧ x3 < (List.length x0), (decide ((((List.getD x0 (Int.toNat x3) 0).toNat : Int) : Int) ≥ 97)) = false, (!false) = true, ((x3 : Int) == 0) = true, true = true, true = true]) := by kernel_rfl
theorem p87_2_6 (x0 : Str) (x3 : Int) : run tt (AbsCalls Try.prog) I87 3000 true (stkAt 2 I87.body) ⟨(S87_2 x0 x3), [true, false, true, false, true, true], [], []⟩ = some (.done (impl_isWord_ro false) [(decide ((x3 : Int) < (List.length x0 : Int))) = true, (0 : Int) ≤ x3 ∧ x3 < (List.length x0), (decide ((((List.getD x0 (Int.toNat x3) 0).toNat : Int) : Int) ≥ 97)) = false, (!false) = true, ((x3 : Int) == 0) = false, (0 : Int) ≤ x3 ∧ x3 < (List.length x0), (decide ((((List.getD x0 (Int.toNat x3) 0).toNat : Int) : Int) < 48)) = true, true = true]) := by kernel_rfl
theorem p87_2_7 (x0 : Str) (x3 : Int) : run tt (AbsCalls Try.prog) I87 3000 true (stkAt 2 I87.body) ⟨(S87_2 x0 x3), [true, false, true, false, false, true], [], []⟩ = some (.done (impl_isWord_ro false) [(decide ((x3 : Int) < (List.length x0 : Int))) = true, (0 : Int) ≤ x3 ∧ x3 < (List.length x0), (decide ((((List.getD x0 (Int.toNat x3) 0).toNat : Int) : Int) ≥ 97)) = false, (!false) = true, ((x3 : Int) == 0) = false, (0 : Int) ≤ x3 ∧ x3 < (List.length x0), (decide ((((List.getD x0 (Int.toNat x3) 0).toNat : Int) : Int) < 48)) = false, (0 : Int) ≤ x3 ∧ x3 < (List.length x0), (decide ((((List.getD x0 (Int.toNat x3) 0).toNat : Int) : Int) > 57)) = true]) := by kernel_rfl
theorem p87_2_8 (x0 : Str) (x3 : Int) : run tt (AbsCalls Try.prog) I87 3000 true (stkAt 2 I87.body) ⟨(S87_2 x0 x3), [true, false, true, false, false, false], [], []⟩ = some (.stop (stkAt 2 I87.body) (S87_2 x0 (IntKind.i64.wrap (x3 + 1))) [(decide ((x3 : Int) < (List.length x0 : Int))) = true, (0 : Int) ≤ x3 ∧ x3 < (List.length x0), (decide ((((List.getD x0 (Int.toNat x3) 0).toNat : Int) : Int) ≥ 97)) = false, (!false) = true, ((x3 : Int) == 0) = false, (0 : Int) ≤ x3 ∧ x3 < (List.length x0), (decide ((((List.getD x0 (Int.toNat x3) 0).toNat : Int) : Int) < 48)) = false, (0 : Int) ≤ x3 ∧ x3 < (List.length x0), (decide ((((List.getD x0 (Int.toNat x3) 0).toNat : Int) : Int) > 57)) = false]) := by kernel_rfl
theorem p87_2_9 (x0 : Str) (x3 : Int) (r1 : Bool) : run tt (AbsCalls Try.prog) I87 3000 true (stkAt 2 I87.body) ⟨(S87_2 x0 x3), [false], [impl_within_ro r1], []⟩ = some (.done (impl_isWord_ro r1) [(decide ((x3 : Int) < (List.length x0 : Int))) = false, AbsCalls Try.prog 65 (impl_within_as (List.length x0 : Int) 1 8) (impl_within_ro r1)]) := by kernel_rfl
theorem p87_e_10 (a0 : Str) : run tt (AbsCalls Try.prog) I87 3000 false [.code I87.body] ⟨(entry 0 (impl_isWord_as a0)), [], [], []⟩ = some (.stop (stkAt 2 I87.body) (S87_2 a0 0) []) := by kernel_rfl
theorem c87_2 {N : Nat} : ∀ n x0 x3 r, impl_isWord_b2 N n x0 x3 = some r → Reach Try.prog Try.f87 I87 (stkAt 2 I87.body) (S87_2 x0 x3) (impl_isWord_ro r) := by
  intro n
  induction n with
  | zero => intro x0 x3 r h; have h' : (none : Option (Bool)) = some r := h; cases h'
  | succ n ih =>
    intro x0 x3 r h
    rw [impl_isWord_b2] at h
    rcases cond_inv h with ⟨h0, h⟩ | ⟨h0, h⟩
    · obtain ⟨h1, h⟩ := ite_inv h
      rcases cond_inv h with ⟨h2, h⟩ | ⟨h2, h⟩
      · rcases cond_inv h with ⟨h4, h⟩ | ⟨h4, h⟩
        · rcases cond_inv h with ⟨h5, h⟩ | ⟨h5, h⟩
          · obtain rfl := Option.some.inj h
            exact Reach.done ttok mix fk87 (p87_2_0 x0 x3) (obs_cons h0 (obs_cons h1 (obs_cons h2 (obs_cons h1 (obs_cons h4 (obs_cons h5 (obs_cons rfl (obs_cons rfl obs_nil))))))))
          · rcases cond_inv h with ⟨h7, h⟩ | ⟨h7, h⟩
            · obtain rfl := Option.some.inj h
              exact Reach.done ttok mix fk87 (p87_2_1 x0 x3) (obs_cons h0 (obs_cons h1 (obs_cons h2 (obs_cons h1 (obs_cons h4 (obs_cons h5 (obs_cons h1 (obs_cons h7 (obs_cons rfl obs_nil)))))))))
            · rcases cond_inv h with ⟨h9, h⟩ | ⟨h9, h⟩
              · obtain rfl := Option.some.inj h
                exact Reach.done ttok mix fk87 (p87_2_2 x0 x3) (obs_cons h0 (obs_cons h1 (obs_cons h2 (obs_cons h1 (obs_cons h4 (obs_cons h5 (obs_cons h1 (obs_cons h7 (obs_cons h1 (obs_cons h9 obs_nil))))))))))
              · exact Reach.stop ttok mix fk87 (p87_2_3 x0 x3) (obs_cons h0 (obs_cons h1 (obs_cons h2 (obs_cons h1 (obs_cons h4 (obs_cons h5 (obs_cons h1 (obs_cons h7 (obs_cons h1 (obs_cons h9 obs_nil)))))))))) (ih _ _ _ h)
        · exact Reach.stop ttok mix fk87 (p87_2_4 x0 x3) (obs_cons h0 (obs_cons h1 (obs_cons h2 (obs_cons h1 (obs_cons h4 (obs_cons rfl obs_nil)))))) (ih _ _ _ h)
      · rcases cond_inv h with ⟨h4, h⟩ | ⟨h4, h⟩
        · obtain rfl := Option.some.inj h
          exact Reach.done ttok mix fk87 (p87_2_5 x0 x3) (obs_cons h0 (obs_cons h1 (obs_cons h2 (obs_cons rfl (obs_cons h4 (obs_cons rfl (obs_cons rfl obs_nil)))))))
        · rcases cond_inv h with ⟨h6, h⟩ | ⟨h6, h⟩
          · obtain rfl := Option.some.inj h
            exact Reach.done ttok mix fk87 (p87_2_6 x0 x3) (obs_cons h0 (obs_cons h1 (obs_cons h2 (obs_cons rfl (obs_cons h4 (obs_cons h1 (obs_cons h6 (obs_cons rfl obs_nil))))))))
          · rcases cond_inv h with ⟨h8, h⟩ | ⟨h8, h⟩
            · obtain rfl := Option.some.inj h
              exact Reach.done ttok mix fk87 (p87_2_7 x0 x3) (obs_cons h0 (obs_cons h1 (obs_cons h2 (obs_cons rfl (obs_cons h4 (obs_cons h1 (obs_cons h6 (obs_cons h1 (obs_cons h8 obs_nil)))))))))
            · exact Reach.stop ttok mix fk87 (p87_2_8 x0 x3) (obs_cons h0 (obs_cons h1 (obs_cons h2 (obs_cons rfl (obs_cons h4 (obs_cons h1 (obs_cons h6 (obs_cons h1 (obs_cons h8 obs_nil))))))))) (ih _ _ _ h)
    · obtain ⟨r1, h1, h⟩ := bind_inv h
      obtain rfl := Option.some.inj h
      exact Reach.done ttok mix fk87 (p87_2_9 x0 x3 r1) (obs_cons h0 (obs_cons (impl_within_ok h1) obs_nil))
theorem c87_e {N : Nat} : ∀ a0 r, impl_isWord N a0 = some r → Reach Try.prog Try.f87 I87 [.code I87.body] (entry 0 (impl_isWord_as a0)) (impl_isWord_ro r) := by
  intro a0 r h
  unfold impl_isWord at h
  exact Reach.stop ttok mix fk87 (p87_e_10 a0) obs_nil (c87_2   _ _ _ _ h)
theorem impl_isWord_ok {N : Nat} {a0 : Str} {r : Bool} (h : impl_isWord N  a0 = some r) : AbsCalls Try.prog 87 (impl_isWord_as a0) (impl_isWord_ro r) :=
 AbsCalls.of_reach fk87 rfl rfl (Nat.le_of_ble_eq_true rfl) (c87_e a0 r h)
noncomputable def I97 : Info := { body := (Try.f97.body).getD .skip, nt := 26, results := [.tmp 2], keep := [0, 4, 6, 8, 12, 24, 40, 48], live := [], modes := [], ext := [], lnt := [], casts := [], fcast := [] }
theorem fk97 : FnOk Try.prog 97 Try.f97 I97 := ⟨Try.func97, by kernel_rfl, by kernel_rfl, by kernel_rfl, by kernel_rfl⟩
theorem p97_e_0 (a0 : Str) : run tt (AbsCalls Try.prog) I97 3000 false [.code I97.body] ⟨(entry 0 (impl_ArgumentCount_as a0)), [true], [], []⟩ = some (.done (impl_ArgumentCount_ro 0) [((a0 : Str) == [99, 108, 111, 99, 107]) = true]) := by kernel_rfl
theorem p97_e_1 (a0 : Str) : run tt (AbsCalls Try.prog) I97 3000 false [.code I97.body] ⟨(entry 0 (impl_ArgumentCount_as a0)), [false, true, true], [], []⟩ = some (.done (impl_ArgumentCount_ro 1) [((a0 : Str) == [99, 108, 111, 99, 107]) = false, ((a0 : Str) == [108, 101, 110]) = true, ((a0 : Str) == [108, 101, 110]) = true]) := by kernel_rfl
theorem p97_e_2 (a0 : Str) : run tt (AbsCalls Try.prog) I97 3000 false [.code I97.body] ⟨(entry 0 (impl_ArgumentCount_as a0)), [false, false, true, true], [], []⟩ = some (.done (impl_ArgumentCount_ro 1) [((a0 : Str) == [99, 108, 111, 99, 107]) = false, ((a0 : Str) == [108, 101, 110]) = false, ((a0 : Str) == [115, 117, 109]) = true, ((a0 : Str) == [115, 117, 109]) = true]) := by kernel_rfl
theorem p97_e_3 (a0 : Str) : run tt (AbsCalls Try.prog) I97 3000 false [.code I97.body] ⟨(entry 0 (impl_ArgumentCount_as a0)), [false, false, false, true, true], [], []⟩ = some (.done (impl_ArgumentCount_ro 1) [((a0 : Str) == [99, 108, 111, 99, 107]) = false, ((a0 : Str) == [108, 101, 110]) = false, ((a0 : Str) == [115, 117, 109]) = false, ((a0 : Str) == [114, 111, 119, 115]) = true, ((a0 : Str) == [114, 111, 119, 115]) = true]) := by kernel_rfl
theorem p97_e_4 (a0 : Str) : run tt (AbsCalls Try.prog) I97 3000 false [.code I97.body] ⟨(entry 0 (impl_ArgumentCount_as a0)), [false, false, false, false, true, true], [], []⟩ = some (.done (impl_ArgumentCount_ro 1) [((a0 : Str) == [99, 108, 111, 99, 107]) = false, ((a0 : Str) == [108, 101, 110]) = false, ((a0 : Str) == [115, 117, 109]) = false, ((a0 : Str) == [114, 111, 119, 115]) = false, ((a0 : Str) == [99, 104, 97, 110, 99, 101]) = true, ((a0 : Str) == [99, 104, 97, 110, 99, 101]) = true]) := by kernel_rfl
theorem p97_e_5 (a0 : Str) : run tt (AbsCalls Try.prog) I97 3000 false [.code I97.body] ⟨(entry 0 (impl_ArgumentCount_as a0)), [false, false, false, false, false, true], [], []⟩ = some (.done (impl_ArgumentCount_ro 1) [((a0 : Str) == [99, 108, 111, 99, 107]) = false, ((a0 : Str) == [108, 101, 110]) = false, ((a0 : Str) == [115, 117, 109]) = false, ((a0 : Str) == [114, 111, 119, 115]) = false, ((a0 : Str) == [99, 104, 97, 110, 99, 101]) = false, ((a0 : Str) == [102, 105, 108, 101]) = true]) := by kernel_rfl
theorem p97_e_6 (a0 : Str) : run tt (AbsCalls Try.prog) I97 3000 false [.code I97.body] ⟨(entry 0 (impl_ArgumentCount_as a0)), [false, false, false, false, false, false, true, true], [], []⟩ = some (.done (impl_ArgumentCount_ro 2) [((a0 : Str) == [99, 108, 111, 99, 107]) = false, ((a0 : Str) == [108, 101, 110]) = false, ((a0 : Str) == [115, 117, 109]) = false, ((a0 : Str) == [114, 111, 119, 115]) = false, ((a0 : Str) == [99, 104, 97, 110, 99, 101]) = false, ((a0 : Str) == [102, 105, 108, 101]) = false, ((a0 : Str) == [116, 97, 107, 101]) = true, ((a0 : Str) == [116, 97, 107, 101]) = true]) := by kernel_rfl
theorem p97_e_7 (a0 : Str) : run tt (AbsCalls Try.prog) I97 3000 false [.code I97.body] ⟨(entry 0 (impl_ArgumentCount_as a0)), [false, false, false, false, false, false, false, true, true], [], []⟩ = some (.done (impl_ArgumentCount_ro 2) [((a0 : Str) == [99, 108, 111, 99, 107]) = false, ((a0 : Str) == [108, 101, 110]) = false, ((a0 : Str) == [115, 117, 109]) = false, ((a0 : Str) == [114, 111, 119, 115]) = false, ((a0 : Str) == [99, 104, 97, 110, 99, 101]) = false, ((a0 : Str) == [102, 105, 108, 101]) = false, ((a0 : Str) == [116, 97, 107, 101]) = false, ((a0 : Str) == [115, 107, 105, 112]) = true, ((a0 : Str) == [115, 107, 105, 112]) = true]) := by kernel_rfl
theorem p97_e_8 (a0 : Str) : run tt (AbsCalls Try.prog) I97 3000 false [.code I97.body] ⟨(entry 0 (impl_ArgumentCount_as a0)), [false, false, false, false, false, false, false, false, true, true], [], []⟩ = some (.done (impl_ArgumentCount_ro 2) [((a0 : Str) == [99, 108, 111, 99, 107]) = false, ((a0 : Str) == [108, 101, 110]) = false, ((a0 : Str) == [115, 117, 109]) = false, ((a0 : Str) == [114, 111, 119, 115]) = false, ((a0 : Str) == [99, 104, 97, 110, 99, 101]) = false, ((a0 : Str) == [102, 105, 108, 101]) = false, ((a0 : Str) == [116, 97, 107, 101]) = false, ((a0 : Str) == [115, 107, 105, 112]) = false, ((a0 : Str) == [114, 97, 110, 103, 101]) = true, ((a0 : Str) == [114, 97, 110, 103, 101]) = true]) := by kernel_rfl
theorem p97_e_9 (a0 : Str) : run tt (AbsCalls Try.prog) I97 3000 false [.code I97.body] ⟨(entry 0 (impl_ArgumentCount_as a0)), [false, false, false, false, false, false, false, false, false, true, true], [], []⟩ = some (.done (impl_ArgumentCount_ro 2) [((a0 : Str) == [99, 108, 111, 99, 107]) = false, ((a0 : Str) == [108, 101, 110]) = false, ((a0 : Str) == [115, 117, 109]) = false, ((a0 : Str) == [114, 111, 119, 115]) = false, ((a0 : Str) == [99, 104, 97, 110, 99, 101]) = false, ((a0 : Str) == [102, 105, 108, 101]) = false, ((a0 : Str) == [116, 97, 107, 101]) = false, ((a0 : Str) == [115, 107, 105, 112]) = false, ((a0 : Str) == [114, 97, 110, 103, 101]) = false, ((a0 : Str) == [110, 116, 104]) = true, ((a0 : Str) == [110, 116, 104]) = true]) := by kernel_rfl
theorem p97_e_10 (a0 : Str) : run tt (AbsCalls Try.prog) I97 3000 false [.code I97.body] ⟨(entry 0 (impl_ArgumentCount_as a0)), [false, false, false, false, false, false, false, false, false, false, true, true], [], []⟩ = some (.done (impl_ArgumentCount_ro 2) [((a0 : Str) == [99, 108, 111, 99, 107]) = false, ((a0 : Str) == [108, 101, 110]) = false, ((a0 : Str) == [115, 117, 109]) = false, ((a0 : Str) == [114, 111, 119, 115]) = false, ((a0 : Str) == [99, 104, 97, 110, 99, 101]) = false, ((a0 : Str) == [102, 105, 108, 101]) = false, ((a0 : Str) == [116, 97, 107, 101]) = false, ((a0 : Str) == [115, 107, 105, 112]) = false, ((a0 : Str) == [114, 97, 110, 103, 101]) = false, ((a0 : Str) == [110, 116, 104]) = false, ((a0 : Str) == [107, 101, 101, 112]) = true, ((a0 : Str) == [107, 101, 101, 112]) = true]) := by kernel_rfl
theorem p97_e_11 (a0 : Str) : run tt (AbsCalls Try.prog) I97 3000 false [.code I97.body] ⟨(entry 0 (impl_ArgumentCount_as a0)), [false, false, false, false, false, false, false, false, false, false, false, true, true], [], []⟩ = some (.done (impl_ArgumentCount_ro 2) [((a0 : Str) == [99, 108, 111, 99, 107]) = false, ((a0 : Str) == [108, 101, 110]) = false, ((a0 : Str) == [115, 117, 109]) = false, ((a0 : Str) == [114, 111, 119, 115]) = false, ((a0 : Str) == [99, 104, 97, 110, 99, 101]) = false, ((a0 : Str) == [102, 105, 108, 101]) = false, ((a0 : Str) == [116, 97, 107, 101]) = false, ((a0 : Str) == [115, 107, 105, 112]) = false, ((a0 : Str) == [114, 97, 110, 103, 101]) = false, ((a0 : Str) == [110, 116, 104]) = false, ((a0 : Str) == [107, 101, 101, 112]) = false, ((a0 : Str) == [99, 111, 108, 117, 109, 110]) = true, ((a0 : Str) == [99, 111, 108, 117, 109, 110]) = true]) := by kernel_rfl
theorem p97_e_12 (a0 : Str) : run tt (AbsCalls Try.prog) I97 3000 false [.code I97.body] ⟨(entry 0 (impl_ArgumentCount_as a0)), [false, false, false, false, false, false, false, false, false, false, false, false, true], [], []⟩ = some (.done (impl_ArgumentCount_ro 2) [((a0 : Str) == [99, 108, 111, 99, 107]) = false, ((a0 : Str) == [108, 101, 110]) = false, ((a0 : Str) == [115, 117, 109]) = false, ((a0 : Str) == [114, 111, 119, 115]) = false, ((a0 : Str) == [99, 104, 97, 110, 99, 101]) = false, ((a0 : Str) == [102, 105, 108, 101]) = false, ((a0 : Str) == [116, 97, 107, 101]) = false, ((a0 : Str) == [115, 107, 105, 112]) = false, ((a0 : Str) == [114, 97, 110, 103, 101]) = false, ((a0 : Str) == [110, 116, 104]) = false, ((a0 : Str) == [107, 101, 101, 112]) = false, ((a0 : Str) == [99, 111, 108, 117, 109, 110]) = false, ((a0 : Str) == [116, 97, 98, 108, 101]) = true]) := by kernel_rfl
theorem p97_e_13 (a0 : Str) : run tt (AbsCalls Try.prog) I97 3000 false [.code I97.body] ⟨(entry 0 (impl_ArgumentCount_as a0)), [false, false, false, false, false, false, false, false, false, false, false, false, false, true, true], [], []⟩ = some (.done (impl_ArgumentCount_ro 3) [((a0 : Str) == [99, 108, 111, 99, 107]) = false, ((a0 : Str) == [108, 101, 110]) = false, ((a0 : Str) == [115, 117, 109]) = false, ((a0 : Str) == [114, 111, 119, 115]) = false, ((a0 : Str) == [99, 104, 97, 110, 99, 101]) = false, ((a0 : Str) == [102, 105, 108, 101]) = false, ((a0 : Str) == [116, 97, 107, 101]) = false, ((a0 : Str) == [115, 107, 105, 112]) = false, ((a0 : Str) == [114, 97, 110, 103, 101]) = false, ((a0 : Str) == [110, 116, 104]) = false, ((a0 : Str) == [107, 101, 101, 112]) = false, ((a0 : Str) == [99, 111, 108, 117, 109, 110]) = false, ((a0 : Str) == [116, 97, 98, 108, 101]) = false, ((a0 : Str) == [119, 104, 101, 114, 101]) = true, ((a0 : Str) == [119, 104, 101, 114, 101]) = true]) := by kernel_rfl
theorem p97_e_14 (a0 : Str) : run tt (AbsCalls Try.prog) I97 3000 false [.code I97.body] ⟨(entry 0 (impl_ArgumentCount_as a0)), [false, false, false, false, false, false, false, false, false, false, false, false, false, false, true, true], [], []⟩ = some (.done (impl_ArgumentCount_ro 3) [((a0 : Str) == [99, 108, 111, 99, 107]) = false, ((a0 : Str) == [108, 101, 110]) = false, ((a0 : Str) == [115, 117, 109]) = false, ((a0 : Str) == [114, 111, 119, 115]) = false, ((a0 : Str) == [99, 104, 97, 110, 99, 101]) = false, ((a0 : Str) == [102, 105, 108, 101]) = false, ((a0 : Str) == [116, 97, 107, 101]) = false, ((a0 : Str) == [115, 107, 105, 112]) = false, ((a0 : Str) == [114, 97, 110, 103, 101]) = false, ((a0 : Str) == [110, 116, 104]) = false, ((a0 : Str) == [107, 101, 101, 112]) = false, ((a0 : Str) == [99, 111, 108, 117, 109, 110]) = false, ((a0 : Str) == [116, 97, 98, 108, 101]) = false, ((a0 : Str) == [119, 104, 101, 114, 101]) = false, ((a0 : Str) == [103, 114, 111, 117, 112]) = true, ((a0 : Str) == [103, 114, 111, 117, 112]) = true]) := by kernel_rfl
theorem p97_e_15 (a0 : Str) : run tt (AbsCalls Try.prog) I97 3000 false [.code I97.body] ⟨(entry 0 (impl_ArgumentCount_as a0)), [false, false, false, false, false, false, false, false, false, false, false, false, false, false, false, true], [], []⟩ = some (.done (impl_ArgumentCount_ro 3) [((a0 : Str) == [99, 108, 111, 99, 107]) = false, ((a0 : Str) == [108, 101, 110]) = false, ((a0 : Str) == [115, 117, 109]) = false, ((a0 : Str) == [114, 111, 119, 115]) = false, ((a0 : Str) == [99, 104, 97, 110, 99, 101]) = false, ((a0 : Str) == [102, 105, 108, 101]) = false, ((a0 : Str) == [116, 97, 107, 101]) = false, ((a0 : Str) == [115, 107, 105, 112]) = false, ((a0 : Str) == [114, 97, 110, 103, 101]) = false, ((a0 : Str) == [110, 116, 104]) = false, ((a0 : Str) == [107, 101, 101, 112]) = false, ((a0 : Str) == [99, 111, 108, 117, 109, 110]) = false, ((a0 : Str) == [116, 97, 98, 108, 101]) = false, ((a0 : Str) == [119, 104, 101, 114, 101]) = false, ((a0 : Str) == [103, 114, 111, 117, 112]) = false, ((a0 : Str) == [106, 111, 105, 110]) = true]) := by kernel_rfl
theorem p97_e_16 (a0 : Str) : run tt (AbsCalls Try.prog) I97 3000 false [.code I97.body] ⟨(entry 0 (impl_ArgumentCount_as a0)), [false, false, false, false, false, false, false, false, false, false, false, false, false, false, false, false, true], [], []⟩ = some (.done (impl_ArgumentCount_ro 4) [((a0 : Str) == [99, 108, 111, 99, 107]) = false, ((a0 : Str) == [108, 101, 110]) = false, ((a0 : Str) == [115, 117, 109]) = false, ((a0 : Str) == [114, 111, 119, 115]) = false, ((a0 : Str) == [99, 104, 97, 110, 99, 101]) = false, ((a0 : Str) == [102, 105, 108, 101]) = false, ((a0 : Str) == [116, 97, 107, 101]) = false, ((a0 : Str) == [115, 107, 105, 112]) = false, ((a0 : Str) == [114, 97, 110, 103, 101]) = false, ((a0 : Str) == [110, 116, 104]) = false, ((a0 : Str) == [107, 101, 101, 112]) = false, ((a0 : Str) == [99, 111, 108, 117, 109, 110]) = false, ((a0 : Str) == [116, 97, 98, 108, 101]) = false, ((a0 : Str) == [119, 104, 101, 114, 101]) = false, ((a0 : Str) == [103, 114, 111, 117, 112]) = false, ((a0 : Str) == [106, 111, 105, 110]) = false, ((a0 : Str) == [97, 100, 100]) = true]) := by kernel_rfl
theorem p97_e_17 (a0 : Str) : run tt (AbsCalls Try.prog) I97 3000 false [.code I97.body] ⟨(entry 0 (impl_ArgumentCount_as a0)), [false, false, false, false, false, false, false, false, false, false, false, false, false, false, false, false, false], [], []⟩ = some (.done (impl_ArgumentCount_ro (-1)) [((a0 : Str) == [99, 108, 111, 99, 107]) = false, ((a0 : Str) == [108, 101, 110]) = false, ((a0 : Str) == [115, 117, 109]) = false, ((a0 : Str) == [114, 111, 119, 115]) = false, ((a0 : Str) == [99, 104, 97, 110, 99, 101]) = false, ((a0 : Str) == [102, 105, 108, 101]) = false, ((a0 : Str) == [116, 97, 107, 101]) = false, ((a0 : Str) == [115, 107, 105, 112]) = false, ((a0 : Str) == [114, 97, 110, 103, 101]) = false, ((a0 : Str) == [110, 116, 104]) = false, ((a0 : Str) == [107, 101, 101, 112]) = false, ((a0 : Str) == [99, 111, 108, 117, 109, 110]) = false, ((a0 : Str) == [116, 97, 98, 108, 101]) = false, ((a0 : Str) == [119, 104, 101, 114, 101]) = false, ((a0 : Str) == [103, 114, 111, 117, 112]) = false, ((a0 : Str) == [106, 111, 105, 110]) = false, ((a0 : Str) == [97, 100, 100]) = false]) := by kernel_rfl
theorem c97_e {N : Nat} : ∀ a0 r, impl_ArgumentCount N a0 = some r → Reach Try.prog Try.f97 I97 [.code I97.body] (entry 0 (impl_ArgumentCount_as a0)) (impl_ArgumentCount_ro r) := by
  intro a0 r h
  unfold impl_ArgumentCount at h
  rcases cond_inv h with ⟨h0, h⟩ | ⟨h0, h⟩
  · obtain rfl := Option.some.inj h
    exact Reach.done ttok mix fk97 (p97_e_0 a0) (obs_cons h0 obs_nil)
  · rcases cond_inv h with ⟨h1, h⟩ | ⟨h1, h⟩
    · obtain rfl := Option.some.inj h
      exact Reach.done ttok mix fk97 (p97_e_1 a0) (obs_cons h0 (obs_cons h1 (obs_cons h1 obs_nil)))
    · rcases cond_inv h with ⟨h2, h⟩ | ⟨h2, h⟩
      · obtain rfl := Option.some.inj h
        exact Reach.done ttok mix fk97 (p97_e_2 a0) (obs_cons h0 (obs_cons h1 (obs_cons h2 (obs_cons h2 obs_nil))))
      · rcases cond_inv h with ⟨h3, h⟩ | ⟨h3, h⟩
        · obtain rfl := Option.some.inj h
          exact Reach.done ttok mix fk97 (p97_e_3 a0) (obs_cons h0 (obs_cons h1 (obs_cons h2 (obs_cons h3 (obs_cons h3 obs_nil)))))
        · rcases cond_inv h with ⟨h4, h⟩ | ⟨h4, h⟩
          · obtain rfl := Option.some.inj h
            exact Reach.done ttok mix fk97 (p97_e_4 a0) (obs_cons h0 (obs_cons h1 (obs_cons h2 (obs_cons h3 (obs_cons h4 (obs_cons h4 obs_nil))))))
          · rcases cond_inv h with ⟨h5, h⟩ | ⟨h5, h⟩
            · obtain rfl := Option.some.inj h
              exact Reach.done ttok mix fk97 (p97_e_5 a0) (obs_cons h0 (obs_cons h1 (obs_cons h2 (obs_cons h3 (obs_cons h4 (obs_cons h5 obs_nil))))))
            · rcases cond_inv h with ⟨h6, h⟩ | ⟨h6, h⟩
              · obtain rfl := Option.some.inj h
                exact Reach.done ttok mix fk97 (p97_e_6 a0) (obs_cons h0 (obs_cons h1 (obs_cons h2 (obs_cons h3 (obs_cons h4 (obs_cons h5 (obs_cons h6 (obs_cons h6 obs_nil))))))))
              · rcases cond_inv h with ⟨h7, h⟩ | ⟨h7, h⟩
                · obtain rfl := Option.some.inj h
                  exact Reach.done ttok mix fk97 (p97_e_7 a0) (obs_cons h0 (obs_cons h1 (obs_cons h2 (obs_cons h3 (obs_cons h4 (obs_cons h5 (obs_cons h6 (obs_cons h7 (obs_cons h7 obs_nil)))))))))
                · rcases cond_inv h with ⟨h8, h⟩ | ⟨h8, h⟩
                  · obtain rfl := Option.some.inj h
                    exact Reach.done ttok mix fk97 (p97_e_8 a0) (obs_cons h0 (obs_cons h1 (obs_cons h2 (obs_cons h3 (obs_cons h4 (obs_cons h5 (obs_cons h6 (obs_cons h7 (obs_cons h8 (obs_cons h8 obs_nil))))))))))
                  · rcases cond_inv h with ⟨h9, h⟩ | ⟨h9, h⟩
                    · obtain rfl := Option.some.inj h
                      exact Reach.done ttok mix fk97 (p97_e_9 a0) (obs_cons h0 (obs_cons h1 (obs_cons h2 (obs_cons h3 (obs_cons h4 (obs_cons h5 (obs_cons h6 (obs_cons h7 (obs_cons h8 (obs_cons h9 (obs_cons h9 obs_nil)))))))))))
                    · rcases cond_inv h with ⟨h10, h⟩ | ⟨h10, h⟩
                      · obtain rfl := Option.some.inj h
                        exact Reach.done ttok mix fk97 (p97_e_10 a0) (obs_cons h0 (obs_cons h1 (obs_cons h2 (obs_cons h3 (obs_cons h4 (obs_cons h5 (obs_cons h6 (obs_cons h7 (obs_cons h8 (obs_cons h9 (obs_cons h10 (obs_cons h10 obs_nil))))))))))))
                      · rcases cond_inv h with ⟨h11, h⟩ | ⟨h11, h⟩
                        · obtain rfl := Option.some.inj h
                          exact Reach.done ttok mix fk97 (p97_e_11 a0) (obs_cons h0 (obs_cons h1 (obs_cons h2 (obs_cons h3 (obs_cons h4 (obs_cons h5 (obs_cons h6 (obs_cons h7 (obs_cons h8 (obs_cons h9 (obs_cons h10 (obs_cons h11 (obs_cons h11 obs_nil)))))))))))))
                        · rcases cond_inv h with ⟨h12, h⟩ | ⟨h12, h⟩
                          · obtain rfl := Option.some.inj h
                            exact Reach.done ttok mix fk97 (p97_e_12 a0) (obs_cons h0 (obs_cons h1 (obs_cons h2 (obs_cons h3 (obs_cons h4 (obs_cons h5 (obs_cons h6 (obs_cons h7 (obs_cons h8 (obs_cons h9 (obs_cons h10 (obs_cons h11 (obs_cons h12 obs_nil)))))))))))))
                          · rcases cond_inv h with ⟨h13, h⟩ | ⟨h13, h⟩
                            · obtain rfl := Option.some.inj h
                              exact Reach.done ttok mix fk97 (p97_e_13 a0) (obs_cons h0 (obs_cons h1 (obs_cons h2 (obs_cons h3 (obs_cons h4 (obs_cons h5 (obs_cons h6 (obs_cons h7 (obs_cons h8 (obs_cons h9 (obs_cons h10 (obs_cons h11 (obs_cons h12 (obs_cons h13 (obs_cons h13 obs_nil)))))))))))))))
                            · rcases cond_inv h with ⟨h14, h⟩ | ⟨h14, h⟩
                              · obtain rfl := Option.some.inj h
                                exact Reach.done ttok mix fk97 (p97_e_14 a0) (obs_cons h0 (obs_cons h1 (obs_cons h2 (obs_cons h3 (obs_cons h4 (obs_cons h5 (obs_cons h6 (obs_cons h7 (obs_cons h8 (obs_cons h9 (obs_cons h10 (obs_cons h11 (obs_cons h12 (obs_cons h13 (obs_cons h14 (obs_cons h14 obs_nil))))))))))))))))
                              · rcases cond_inv h with ⟨h15, h⟩ | ⟨h15, h⟩
                                · obtain rfl := Option.some.inj h
                                  exact Reach.done ttok mix fk97 (p97_e_15 a0) (obs_cons h0 (obs_cons h1 (obs_cons h2 (obs_cons h3 (obs_cons h4 (obs_cons h5 (obs_cons h6 (obs_cons h7 (obs_cons h8 (obs_cons h9 (obs_cons h10 (obs_cons h11 (obs_cons h12 (obs_cons h13 (obs_cons h14 (obs_cons h15 obs_nil))))))))))))))))
                                · rcases cond_inv h with ⟨h16, h⟩ | ⟨h16, h⟩
                                  · obtain rfl := Option.some.inj h
                                    exact Reach.done ttok mix fk97 (p97_e_16 a0) (obs_cons h0 (obs_cons h1 (obs_cons h2 (obs_cons h3 (obs_cons h4 (obs_cons h5 (obs_cons h6 (obs_cons h7 (obs_cons h8 (obs_cons h9 (obs_cons h10 (obs_cons h11 (obs_cons h12 (obs_cons h13 (obs_cons h14 (obs_cons h15 (obs_cons h16 obs_nil)))))))))))))))))
                                  · obtain rfl := Option.some.inj h
                                    exact Reach.done ttok mix fk97 (p97_e_17 a0) (obs_cons h0 (obs_cons h1 (obs_cons h2 (obs_cons h3 (obs_cons h4 (obs_cons h5 (obs_cons h6 (obs_cons h7 (obs_cons h8 (obs_cons h9 (obs_cons h10 (obs_cons h11 (obs_cons h12 (obs_cons h13 (obs_cons h14 (obs_cons h15 (obs_cons h16 obs_nil)))))))))))))))))
theorem impl_ArgumentCount_ok {N : Nat} {a0 : Str} {r : Int} (h : impl_ArgumentCount N  a0 = some r) : AbsCalls Try.prog 97 (impl_ArgumentCount_as a0) (impl_ArgumentCount_ro r) :=
 AbsCalls.of_reach fk97 rfl rfl (Nat.le_of_ble_eq_true rfl) (c97_e a0 r h)
noncomputable def I88 : Info := { body := (Try.f88.body).getD .skip, nt := 15, results := [.tmp 2], keep := [0, 4, 6, 8], live := [], modes := [], ext := [], lnt := [], casts := [], fcast := [] }
theorem fk88 : FnOk Try.prog 88 Try.f88 I88 := ⟨Try.func88, by kernel_rfl, by kernel_rfl, by kernel_rfl, by kernel_rfl⟩
theorem p88_e_0 (a0 : Str) : run tt (AbsCalls Try.prog) I88 3000 false [.code I88.body] ⟨(entry 0 (impl_IsReserved_as a0)), [true, true], [], []⟩ = some (.done (impl_IsReserved_ro true) [((a0 : Str) == [108, 101, 116]) = true, ((a0 : Str) == [108, 101, 116]) = true]) := by kernel_rfl
theorem p88_e_1 (a0 : Str) : run tt (AbsCalls Try.prog) I88 3000 false [.code I88.body] ⟨(entry 0 (impl_IsReserved_as a0)), [false, true, true], [], []⟩ = some (.done (impl_IsReserved_ro true) [((a0 : Str) == [108, 101, 116]) = false, ((a0 : Str) == [105, 110]) = true, ((a0 : Str) == [105, 110]) = true]) := by kernel_rfl
theorem p88_e_2 (a0 : Str) : run tt (AbsCalls Try.prog) I88 3000 false [.code I88.body] ⟨(entry 0 (impl_IsReserved_as a0)), [false, false, true, true], [], []⟩ = some (.done (impl_IsReserved_ro true) [((a0 : Str) == [108, 101, 116]) = false, ((a0 : Str) == [105, 110]) = false, ((a0 : Str) == [105, 102]) = true, ((a0 : Str) == [105, 102]) = true]) := by kernel_rfl
theorem p88_e_3 (a0 : Str) : run tt (AbsCalls Try.prog) I88 3000 false [.code I88.body] ⟨(entry 0 (impl_IsReserved_as a0)), [false, false, false, true, true], [], []⟩ = some (.done (impl_IsReserved_ro true) [((a0 : Str) == [108, 101, 116]) = false, ((a0 : Str) == [105, 110]) = false, ((a0 : Str) == [105, 102]) = false, ((a0 : Str) == [116, 104, 101, 110]) = true, ((a0 : Str) == [116, 104, 101, 110]) = true]) := by kernel_rfl
theorem p88_e_4 (a0 : Str) : run tt (AbsCalls Try.prog) I88 3000 false [.code I88.body] ⟨(entry 0 (impl_IsReserved_as a0)), [false, false, false, false, true, true], [], []⟩ = some (.done (impl_IsReserved_ro true) [((a0 : Str) == [108, 101, 116]) = false, ((a0 : Str) == [105, 110]) = false, ((a0 : Str) == [105, 102]) = false, ((a0 : Str) == [116, 104, 101, 110]) = false, ((a0 : Str) == [101, 108, 115, 101]) = true, ((a0 : Str) == [101, 108, 115, 101]) = true]) := by kernel_rfl
theorem p88_e_5 (a0 : Str) : run tt (AbsCalls Try.prog) I88 3000 false [.code I88.body] ⟨(entry 0 (impl_IsReserved_as a0)), [false, false, false, false, false, true, true], [], []⟩ = some (.done (impl_IsReserved_ro true) [((a0 : Str) == [108, 101, 116]) = false, ((a0 : Str) == [105, 110]) = false, ((a0 : Str) == [105, 102]) = false, ((a0 : Str) == [116, 104, 101, 110]) = false, ((a0 : Str) == [101, 108, 115, 101]) = false, ((a0 : Str) == [102, 111, 114]) = true, ((a0 : Str) == [102, 111, 114]) = true]) := by kernel_rfl
theorem p88_e_6 (a0 : Str) : run tt (AbsCalls Try.prog) I88 3000 false [.code I88.body] ⟨(entry 0 (impl_IsReserved_as a0)), [false, false, false, false, false, false, true], [], []⟩ = some (.done (impl_IsReserved_ro true) [((a0 : Str) == [108, 101, 116]) = false, ((a0 : Str) == [105, 110]) = false, ((a0 : Str) == [105, 102]) = false, ((a0 : Str) == [116, 104, 101, 110]) = false, ((a0 : Str) == [101, 108, 115, 101]) = false, ((a0 : Str) == [102, 111, 114]) = false, ((a0 : Str) == [100, 111]) = true]) := by kernel_rfl
theorem p88_e_7 (a0 : Str) (r1 : Int) : run tt (AbsCalls Try.prog) I88 3000 false [.code I88.body] ⟨(entry 0 (impl_IsReserved_as a0)), [false, false, false, false, false, false, false], [impl_ArgumentCount_ro r1], []⟩ = some (.done (impl_IsReserved_ro (decide ((r1 : Int) ≥ 0))) [((a0 : Str) == [108, 101, 116]) = false, ((a0 : Str) == [105, 110]) = false, ((a0 : Str) == [105, 102]) = false, ((a0 : Str) == [116, 104, 101, 110]) = false, ((a0 : Str) == [101, 108, 115, 101]) = false, ((a0 : Str) == [102, 111, 114]) = false, ((a0 : Str) == [100, 111]) = false, AbsCalls Try.prog 97 (impl_ArgumentCount_as a0) (impl_ArgumentCount_ro r1)]) := by kernel_rfl
theorem c88_e {N : Nat} : ∀ a0 r, impl_IsReserved N a0 = some r → Reach Try.prog Try.f88 I88 [.code I88.body] (entry 0 (impl_IsReserved_as a0)) (impl_IsReserved_ro r) := by
  intro a0 r h
  unfold impl_IsReserved at h
  rcases cond_inv h with ⟨h0, h⟩ | ⟨h0, h⟩
  · obtain rfl := Option.some.inj h
    exact Reach.done ttok mix fk88 (p88_e_0 a0) (obs_cons h0 (obs_cons h0 obs_nil))
  · rcases cond_inv h with ⟨h1, h⟩ | ⟨h1, h⟩
    · obtain rfl := Option.some.inj h
      exact Reach.done ttok mix fk88 (p88_e_1 a0) (obs_cons h0 (obs_cons h1 (obs_cons h1 obs_nil)))
    · rcases cond_inv h with ⟨h2, h⟩ | ⟨h2, h⟩
      · obtain rfl := Option.some.inj h
        exact Reach.done ttok mix fk88 (p88_e_2 a0) (obs_cons h0 (obs_cons h1 (obs_cons h2 (obs_cons h2 obs_nil))))
      · rcases cond_inv h with ⟨h3, h⟩ | ⟨h3, h⟩
        · obtain rfl := Option.some.inj h
          exact Reach.done ttok mix fk88 (p88_e_3 a0) (obs_cons h0 (obs_cons h1 (obs_cons h2 (obs_cons h3 (obs_cons h3 obs_nil)))))
        · rcases cond_inv h with ⟨h4, h⟩ | ⟨h4, h⟩
          · obtain rfl := Option.some.inj h
            exact Reach.done ttok mix fk88 (p88_e_4 a0) (obs_cons h0 (obs_cons h1 (obs_cons h2 (obs_cons h3 (obs_cons h4 (obs_cons h4 obs_nil))))))
          · rcases cond_inv h with ⟨h5, h⟩ | ⟨h5, h⟩
            · obtain rfl := Option.some.inj h
              exact Reach.done ttok mix fk88 (p88_e_5 a0) (obs_cons h0 (obs_cons h1 (obs_cons h2 (obs_cons h3 (obs_cons h4 (obs_cons h5 (obs_cons h5 obs_nil)))))))
            · rcases cond_inv h with ⟨h6, h⟩ | ⟨h6, h⟩
              · obtain rfl := Option.some.inj h
                exact Reach.done ttok mix fk88 (p88_e_6 a0) (obs_cons h0 (obs_cons h1 (obs_cons h2 (obs_cons h3 (obs_cons h4 (obs_cons h5 (obs_cons h6 obs_nil)))))))
              · obtain ⟨r1, h7, h⟩ := bind_inv h
                obtain rfl := Option.some.inj h
                exact Reach.done ttok mix fk88 (p88_e_7 a0 r1) (obs_cons h0 (obs_cons h1 (obs_cons h2 (obs_cons h3 (obs_cons h4 (obs_cons h5 (obs_cons h6 (obs_cons (impl_ArgumentCount_ok h7) obs_nil))))))))
theorem impl_IsReserved_ok {N : Nat} {a0 : Str} {r : Bool} (h : impl_IsReserved N  a0 = some r) : AbsCalls Try.prog 88 (impl_IsReserved_as a0) (impl_IsReserved_ro r) :=
 AbsCalls.of_reach fk88 rfl rfl (Nat.le_of_ble_eq_true rfl) (c88_e a0 r h)
noncomputable def I66 : Info := { body := (Try.f66.body).getD .skip, nt := 10, results := [.tmp 2], keep := [0, 4], live := [], modes := [(1, [(2, .take, false)])], ext := [], lnt := [], casts := [], fcast := [] }
theorem fk66 : FnOk Try.prog 66 Try.f66 I66 := ⟨Try.func66, by kernel_rfl, by kernel_rfl, by kernel_rfl, by kernel_rfl⟩
theorem p66_e_0 (a0 : Str) (r1 : Bool) (r2 : Bool) : run tt (AbsCalls Try.prog) I66 3000 false [.code I66.body] ⟨(entry 0 (impl_IsValidName_as a0)), [true], [impl_isWord_ro r1, impl_IsReserved_ro r2], []⟩ = some (.done (impl_IsValidName_ro (!r2)) [AbsCalls Try.prog 87 (impl_isWord_as a0) (impl_isWord_ro r1), r1 = true, AbsCalls Try.prog 88 (impl_IsReserved_as a0) (impl_IsReserved_ro r2)]) := by kernel_rfl
theorem p66_e_1 (a0 : Str) (r1 : Bool) : run tt (AbsCalls Try.prog) I66 3000 false [.code I66.body] ⟨(entry 0 (impl_IsValidName_as a0)), [false], [impl_isWord_ro r1], []⟩ = some (.done (impl_IsValidName_ro false) [AbsCalls Try.prog 87 (impl_isWord_as a0) (impl_isWord_ro r1), r1 = false]) := by kernel_rfl
theorem c66_e {N : Nat} : ∀ a0 r, impl_IsValidName N a0 = some r → Reach Try.prog Try.f66 I66 [.code I66.body] (entry 0 (impl_IsValidName_as a0)) (impl_IsValidName_ro r) := by
  intro a0 r h
  unfold impl_IsValidName at h
  obtain ⟨r1, h0, h⟩ := bind_inv h
  rcases cond_inv h with ⟨h1, h⟩ | ⟨h1, h⟩
  · obtain ⟨r2, h2, h⟩ := bind_inv h
    obtain rfl := Option.some.inj h
    exact Reach.done ttok mix fk66 (p66_e_0 a0 r1 r2) (obs_cons (impl_isWord_ok h0) (obs_cons h1 (obs_cons (impl_IsReserved_ok h2) obs_nil)))
  · obtain rfl := Option.some.inj h
    exact Reach.done ttok mix fk66 (p66_e_1 a0 r1) (obs_cons (impl_isWord_ok h0) (obs_cons h1 obs_nil))
theorem impl_IsValidName_ok {N : Nat} {a0 : Str} {r : Bool} (h : impl_IsValidName N  a0 = some r) : AbsCalls Try.prog 66 (impl_IsValidName_as a0) (impl_IsValidName_ro r) :=
 AbsCalls.of_reach fk66 rfl rfl (Nat.le_of_ble_eq_true rfl) (c66_e a0 r h)
noncomputable def I71 : Info := { body := (Try.f71.body).getD .skip, nt := 9, results := [.cell 2 33], keep := [0, 2, 4, 3, 5], live := [], modes := [(2, [(0, .take, false)])], ext := [], lnt := [], casts := [], fcast := [] }
theorem fk71 : FnOk Try.prog 71 Try.f71 I71 := ⟨Try.func71, by kernel_rfl, by kernel_rfl, by kernel_rfl, by kernel_rfl⟩
theorem p71_e_0 (a0 : Wld) : run tt (AbsCalls Try.prog) I71 3000 false [.code I71.body] ⟨(entry 0 (spec_l14Copy_as a0)), [], [], []⟩ = some (.done (spec_l14Copy_ro (Wld.mk (Wld.clock a0) (Wld.seed a0) ([] ++ (Wld.files a0)))) [0 + List.length (Wld.files a0) ≤ Lim]) := by kernel_rfl
theorem c71_e {N : Nat} : ∀ a0 r, spec_l14Copy N a0 = some r → Reach Try.prog Try.f71 I71 [.code I71.body] (entry 0 (spec_l14Copy_as a0)) (spec_l14Copy_ro r) := by
  intro a0 r h
  unfold spec_l14Copy at h
  obtain ⟨h0, h⟩ := ite_inv h
  obtain rfl := Option.some.inj h
  exact Reach.done ttok mix fk71 (p71_e_0 a0) (obs_cons h0 obs_nil)
theorem spec_l14Copy_ok {N : Nat} {a0 : Wld} {r : Wld} (h : spec_l14Copy N  a0 = some r) : AbsCalls Try.prog 71 (spec_l14Copy_as a0) (spec_l14Copy_ro r) :=
 AbsCalls.of_reach fk71 rfl rfl (Nat.le_of_ble_eq_true rfl) (c71_e a0 r h)
noncomputable def I72 : Info := { body := (Try.f72.body).getD .skip, nt := 9, results := [.cell 2 33], keep := [0, 2, 4, 3, 5], live := [], modes := [(2, [(0, .take, false)])], ext := [], lnt := [], casts := [], fcast := [] }
theorem fk72 : FnOk Try.prog 72 Try.f72 I72 := ⟨Try.func72, by kernel_rfl, by kernel_rfl, by kernel_rfl, by kernel_rfl⟩
theorem p72_e_0 (a0 : Wld) : run tt (AbsCalls Try.prog) I72 3000 false [.code I72.body] ⟨(entry 0 (impl_copyWorld_as a0)), [], [], []⟩ = some (.done (impl_copyWorld_ro (Wld.mk (Wld.clock a0) (Wld.seed a0) ([] ++ (Wld.files a0)))) [0 + List.length (Wld.files a0) ≤ Lim]) := by kernel_rfl
theorem c72_e {N : Nat} : ∀ a0 r, impl_copyWorld N a0 = some r → Reach Try.prog Try.f72 I72 [.code I72.body] (entry 0 (impl_copyWorld_as a0)) (impl_copyWorld_ro r) := by
  intro a0 r h
  unfold impl_copyWorld at h
  obtain ⟨h0, h⟩ := ite_inv h
  obtain rfl := Option.some.inj h
  exact Reach.done ttok mix fk72 (p72_e_0 a0) (obs_cons h0 obs_nil)
theorem impl_copyWorld_ok {N : Nat} {a0 : Wld} {r : Wld} (h : impl_copyWorld N  a0 = some r) : AbsCalls Try.prog 72 (impl_copyWorld_as a0) (impl_copyWorld_ro r) :=
 AbsCalls.of_reach fk72 rfl rfl (Nat.le_of_ble_eq_true rfl) (c72_e a0 r h)
end Go.Ab.T
end
section
open Go.Proofs
namespace Go.Ab.T
set_option linter.unusedVariables false
set_option maxRecDepth 100000
noncomputable def I90 : Info := { body := (Try.f90.body).getD .skip, nt := 20, results := [.tmp 2], keep := [0, 4, 6, 10, 14], live := [(4, [0, 6])], modes := [], ext := [], lnt := [], casts := [], fcast := [] }
theorem fk90 : FnOk Try.prog 90 Try.f90 I90 := ⟨Try.func90, by kernel_rfl, by kernel_rfl, by kernel_rfl, by kernel_rfl⟩
def S90_4 (x0 : Int) (x3 : Str) : St := [(0, .v false [.int .i64 x0]), (6, .v false [.str x3])]
theorem p90_4_0 (x0 : Int) (x3 : Str) : run tt (AbsCalls Try.prog) I90 3000 true (stkAt 4 I90.body) ⟨(S90_4 x0 x3), [true], [], []⟩ = some (.stop (stkAt 4 I90.body) (S90_4 (IntKind.i64.wrap (Int.tdiv x0 10)) ((List.map (fun n => UInt8.ofNat (Int.toNat n)) [(IntKind.u8.wrap ((IntKind.i64.wrap (48 + (Int.tmod x0 10)))))]) ++ x3)) [(decide ((x0 : Int) > 0)) = true, 10 ≠ (0 : Int), List.length (List.map (fun n => UInt8.ofNat (Int.toNat n)) [(IntKind.u8.wrap ((IntKind.i64.wrap (48 + (Int.tmod x0 10)))))]) + List.length x3 ≤ Lim, 10 ≠ (0 : Int)]) := by kernel_rfl
theorem p90_4_1 (x0 : Int) (x3 : Str) : run tt (AbsCalls Try.prog) I90 3000 true (stkAt 4 I90.body) ⟨(S90_4 x0 x3), [false], [], []⟩ = some (.done (laws_markText_ro ([109] ++ x3)) [(decide ((x0 : Int) > 0)) = false, List.length [109] + List.length x3 ≤ Lim]) := by kernel_rfl
theorem p90_e_2 (a0 : Int) : run tt (AbsCalls Try.prog) I90 3000 false [.code I90.body] ⟨(entry 0 (laws_markText_as a0)), [true], [], []⟩ = some (.done (laws_markText_ro [109, 48]) [(decide ((a0 : Int) ≤ 0)) = true]) := by kernel_rfl
theorem p90_e_3 (a0 : Int) : run tt (AbsCalls Try.prog) I90 3000 false [.code I90.body] ⟨(entry 0 (laws_markText_as a0)), [false], [], []⟩ = some (.stop (stkAt 4 I90.body) (S90_4 a0 []) [(decide ((a0 : Int) ≤ 0)) = false]) := by kernel_rfl
theorem c90_4 {N : Nat} : ∀ n x0 x3 r, laws_markText_b4 N n x0 x3 = some r → Reach Try.prog Try.f90 I90 (stkAt 4 I90.body) (S90_4 x0 x3) (laws_markText_ro r) := by
  intro n
  induction n with
  | zero => intro x0 x3 r h; have h' : (none : Option (Str)) = some r := h; cases h'
  | succ n ih =>
    intro x0 x3 r h
    rw [laws_markText_b4] at h
    rcases cond_inv h with ⟨h0, h⟩ | ⟨h0, h⟩
    · obtain ⟨h2, h⟩ := ite_inv h
      exact Reach.stop ttok mix fk90 (p90_4_0 x0 x3) (obs_cons h0 (obs_cons (by decide) (obs_cons h2 (obs_cons (by decide) obs_nil)))) (ih _ _ _ h)
    · obtain ⟨h1, h⟩ := ite_inv h
      obtain rfl := Option.some.inj h
      exact Reach.done ttok mix fk90 (p90_4_1 x0 x3) (obs_cons h0 (obs_cons h1 obs_nil))
theorem c90_e {N : Nat} : ∀ a0 r, laws_markText N a0 = some r → Reach Try.prog Try.f90 I90 [.code I90.body] (entry 0 (laws_markText_as a0)) (laws_markText_ro r) := by
  intro a0 r h
  unfold laws_markText at h
  rcases cond_inv h with ⟨h0, h⟩ | ⟨h0, h⟩
  · obtain rfl := Option.some.inj h
    exact Reach.done ttok mix fk90 (p90_e_2 a0) (obs_cons h0 obs_nil)
  · exact Reach.stop ttok mix fk90 (p90_e_3 a0) (obs_cons h0 obs_nil) (c90_4   _ _ _ _ h)
theorem laws_markText_ok {N : Nat} {a0 : Int} {r : Str} (h : laws_markText N  a0 = some r) : AbsCalls Try.prog 90 (laws_markText_as a0) (laws_markText_ro r) :=
 AbsCalls.of_reach fk90 rfl rfl (Nat.le_of_ble_eq_true rfl) (c90_e a0 r h)
noncomputable def I73 : Info := { body := (Try.f73.body).getD .skip, nt := 28, results := [.tmp 4], keep := [0, 2, 8, 10, 18], live := [(2, [0, 2, 10])], modes := [(4, [(0, .ref, false)]), (6, [(0, .ref, false)])], ext := [], lnt := [(0, 0)], casts := [], fcast := [] }
theorem fk73 : FnOk Try.prog 73 Try.f73 I73 := ⟨Try.func73, by kernel_rfl, by kernel_rfl, by kernel_rfl, by kernel_rfl⟩
def S73_2 (x0 : List Fil) (x1 : Int) (x5 : Int) : St := [(0, .v false [.sl (.lnt 0) .fil x0]), (2, .v false [.int .i64 x1]), (10, .v false [.int .i64 x5])]
theorem p73_2_0 (x0 : List Fil) (x1 : Int) (x5 : Int) (r1 : Str) : run tt (AbsCalls Try.prog) I73 3000 true (stkAt 2 I73.body) ⟨(S73_2 x0 x1 x5), [true], [laws_markText_ro r1], []⟩ = some (.stop (stkAt 2 I73.body) (S73_2 (List.set (List.set x0 (Int.toNat x5) (Fil.mk r1 (Fil.n (List.getD x0 (Int.toNat x5) Ty.fil.dflt)))) (Int.toNat x5) (Fil.mk (Fil.name (List.getD (List.set x0 (Int.toNat x5) (Fil.mk r1 (Fil.n (List.getD x0 (Int.toNat x5) Ty.fil.dflt)))) (Int.toNat x5) Ty.fil.dflt)) (IntKind.i64.wrap (x1 + 1)))) (IntKind.i64.wrap ((IntKind.i64.wrap (x1 + 1)) + 1)) (IntKind.i64.wrap (x5 + 1))) [(decide ((x5 : Int) < (List.length x0 : Int))) = true, AbsCalls Try.prog 90 (laws_markText_as x1) (laws_markText_ro r1), (0 : Int) ≤ x5 ∧ x5 < (List.length x0), (0 : Int) ≤ x5 ∧ x5 < (List.length (List.set x0 (Int.toNat x5) (Fil.mk r1 (Fil.n (List.getD x0 (Int.toNat x5) Ty.fil.dflt)))))]) := by kernel_rfl
theorem p73_2_1 (x0 : List Fil) (x1 : Int) (x5 : Int) : run tt (AbsCalls Try.prog) I73 3000 true (stkAt 2 I73.body) ⟨(S73_2 x0 x1 x5), [false], [], []⟩ = some (.done (laws_markFileS_ro (x1, x0)) [(decide ((x5 : Int) < (List.length x0 : Int))) = false]) := by kernel_rfl
theorem p73_e_2 (a0 : List Fil) (a1 : Int) : run tt (AbsCalls Try.prog) I73 3000 false [.code I73.body] ⟨(entry 0 (laws_markFileS_as a0 a1)), [], [], []⟩ = some (.stop (stkAt 2 I73.body) (S73_2 a0 a1 0) []) := by kernel_rfl
theorem c73_2 {N : Nat} : ∀ n x0 x1 x5 r, laws_markFileS_b2 N n x0 x1 x5 = some r → Reach Try.prog Try.f73 I73 (stkAt 2 I73.body) (S73_2 x0 x1 x5) (laws_markFileS_ro r) := by
  intro n
  induction n with
  | zero => intro x0 x1 x5 r h; have h' : (none : Option (Int × (List Fil))) = some r := h; cases h'
  | succ n ih =>
    intro x0 x1 x5 r h
    rw [laws_markFileS_b2] at h
    rcases cond_inv h with ⟨h0, h⟩ | ⟨h0, h⟩
    · obtain ⟨r1, h1, h⟩ := bind_inv h
      obtain ⟨h2, h⟩ := ite_inv h
      obtain ⟨h3, h⟩ := ite_inv h
      exact Reach.stop ttok mix fk73 (p73_2_0 x0 x1 x5 r1) (obs_cons h0 (obs_cons (laws_markText_ok h1) (obs_cons h2 (obs_cons h3 obs_nil)))) (ih _ _ _ _ h)
    · obtain rfl := Option.some.inj h
      exact Reach.done ttok mix fk73 (p73_2_1 x0 x1 x5) (obs_cons h0 obs_nil)
theorem c73_e {N : Nat} : ∀ a0 a1 r, laws_markFileS N a0 a1 = some r → Reach Try.prog Try.f73 I73 [.code I73.body] (entry 0 (laws_markFileS_as a0 a1)) (laws_markFileS_ro r) := by
  intro a0 a1 r h
  unfold laws_markFileS at h
  exact Reach.stop ttok mix fk73 (p73_e_2 a0 a1) obs_nil (c73_2   _ _ _ _ _ h)
theorem laws_markFileS_ok {N : Nat} {a0 : List Fil} {a1 : Int} {r : Int × (List Fil)} (h : laws_markFileS N  a0 a1 = some r) : AbsCalls Try.prog 73 (laws_markFileS_as a0 a1) (laws_markFileS_ro r) :=
 AbsCalls.of_reach fk73 rfl rfl (Nat.le_of_ble_eq_true rfl) (c73_e a0 a1 r h)
noncomputable def I44 : Info := { body := (Try.f44.body).getD .skip, nt := 10, results := [.tmp 4], keep := [0, 2, 4, 8, 5], live := [], modes := [(1, [(1, .ref, false), (3, .ref, false)])], ext := [], lnt := [(5, 2)], casts := [], fcast := [] }
theorem fk44 : FnOk Try.prog 44 Try.f44 I44 := ⟨Try.func44, by kernel_rfl, by kernel_rfl, by kernel_rfl, by kernel_rfl⟩
theorem p44_e_0 (a0 : Wld) (a1 : Int) (r1 : Int × (List Fil)) : run tt (AbsCalls Try.prog) I44 3000 false [.code I44.body] ⟨(entry 0 (laws_markWorld_as a0 a1)), [], [laws_markFileS_ro r1], []⟩ = some (.done (laws_markWorld_ro (r1.1, r1.2)) [AbsCalls Try.prog 73 (laws_markFileS_as (Wld.files a0) a1) (laws_markFileS_ro r1), List.length r1.2 = List.length (Wld.files a0)]) := by kernel_rfl
theorem c44_e {N : Nat} : ∀ a0 a1 r, laws_markWorld N a0 a1 = some r → Reach Try.prog Try.f44 I44 [.code I44.body] (entry 0 (laws_markWorld_as a0 a1)) (laws_markWorld_ro r) := by
  intro a0 a1 r h
  unfold laws_markWorld at h
  obtain ⟨r1, h0, h⟩ := bind_inv h
  obtain ⟨h1, h⟩ := ite_inv h
  obtain rfl := Option.some.inj h
  exact Reach.done ttok mix fk44 (p44_e_0 a0 a1 r1) (obs_cons (laws_markFileS_ok h0) (obs_cons h1 obs_nil))
theorem laws_markWorld_ok {N : Nat} {a0 : Wld} {a1 : Int} {r : Int × (List Fil)} (h : laws_markWorld N  a0 a1 = some r) : AbsCalls Try.prog 44 (laws_markWorld_as a0 a1) (laws_markWorld_ro r) :=
 AbsCalls.of_reach fk44 rfl rfl (Nat.le_of_ble_eq_true rfl) (c44_e a0 a1 r h)
noncomputable def I74 : Info := { body := (Try.f74.body).getD .skip, nt := 32, results := [.tmp 4], keep := [0, 2, 8, 10, 18, 38, 56], live := [(2, [0, 2, 10])], modes := [], ext := [], lnt := [], casts := [], fcast := [] }
theorem fk74 : FnOk Try.prog 74 Try.f74 I74 := ⟨Try.func74, by kernel_rfl, by kernel_rfl, by kernel_rfl, by kernel_rfl⟩
def S74_2 (x0 : List Fil) (x1 : Int) (x5 : Int) : St := [(0, .v false [.sl .ro .fil x0]), (2, .v false [.int .i64 x1]), (10, .v false [.int .i64 x5])]
theorem p74_2_0 (x0 : List Fil) (x1 : Int) (x5 : Int) (r1 : Str) : run tt (AbsCalls Try.prog) I74 3000 true (stkAt 2 I74.body) ⟨(S74_2 x0 x1 x5), [true, true], [laws_markText_ro r1], []⟩ = some (.done (laws_heldFileS_ro (-1)) [(decide ((x5 : Int) < (List.length x0 : Int))) = true, (0 : Int) ≤ x5 ∧ x5 < (List.length x0), AbsCalls Try.prog 90 (laws_markText_as x1) (laws_markText_ro r1), (!(((Fil.name (List.getD x0 (Int.toNat x5) Ty.fil.dflt)) : Str) == r1)) = true]) := by kernel_rfl
theorem p74_2_1 (x0 : List Fil) (x1 : Int) (x5 : Int) (r1 : Str) : run tt (AbsCalls Try.prog) I74 3000 true (stkAt 2 I74.body) ⟨(S74_2 x0 x1 x5), [true, false, true], [laws_markText_ro r1], []⟩ = some (.done (laws_heldFileS_ro (-1)) [(decide ((x5 : Int) < (List.length x0 : Int))) = true, (0 : Int) ≤ x5 ∧ x5 < (List.length x0), AbsCalls Try.prog 90 (laws_markText_as x1) (laws_markText_ro r1), (!(((Fil.name (List.getD x0 (Int.toNat x5) Ty.fil.dflt)) : Str) == r1)) = false, (0 : Int) ≤ x5 ∧ x5 < (List.length x0), (((Fil.n (List.getD x0 (Int.toNat x5) Ty.fil.dflt)) : Int) != (IntKind.i64.wrap (x1 + 1))) = true]) := by kernel_rfl
theorem p74_2_2 (x0 : List Fil) (x1 : Int) (x5 : Int) (r1 : Str) : run tt (AbsCalls Try.prog) I74 3000 true (stkAt 2 I74.body) ⟨(S74_2 x0 x1 x5), [true, false, false], [laws_markText_ro r1], []⟩ = some (.stop (stkAt 2 I74.body) (S74_2 x0 (IntKind.i64.wrap ((IntKind.i64.wrap (x1 + 1)) + 1)) (IntKind.i64.wrap (x5 + 1))) [(decide ((x5 : Int) < (List.length x0 : Int))) = true, (0 : Int) ≤ x5 ∧ x5 < (List.length x0), AbsCalls Try.prog 90 (laws_markText_as x1) (laws_markText_ro r1), (!(((Fil.name (List.getD x0 (Int.toNat x5) Ty.fil.dflt)) : Str) == r1)) = false, (0 : Int) ≤ x5 ∧ x5 < (List.length x0), (((Fil.n (List.getD x0 (Int.toNat x5) Ty.fil.dflt)) : Int) != (IntKind.i64.wrap (x1 + 1))) = false]) := by kernel_rfl
theorem p74_2_3 (x0 : List Fil) (x1 : Int) (x5 : Int) : run tt (AbsCalls Try.prog) I74 3000 true (stkAt 2 I74.body) ⟨(S74_2 x0 x1 x5), [false], [], []⟩ = some (.done (laws_heldFileS_ro x1) [(decide ((x5 : Int) < (List.length x0 : Int))) = false]) := by kernel_rfl
theorem p74_e_4 (a0 : List Fil) (a1 : Int) : run tt (AbsCalls Try.prog) I74 3000 false [.code I74.body] ⟨(entry 0 (laws_heldFileS_as a0 a1)), [], [], []⟩ = some (.stop (stkAt 2 I74.body) (S74_2 a0 a1 0) []) := by kernel_rfl
theorem c74_2 {N : Nat} : ∀ n x0 x1 x5 r, laws_heldFileS_b2 N n x0 x1 x5 = some r → Reach Try.prog Try.f74 I74 (stkAt 2 I74.body) (S74_2 x0 x1 x5) (laws_heldFileS_ro r) := by
  intro n
  induction n with
  | zero => intro x0 x1 x5 r h; have h' : (none : Option (Int)) = some r := h; cases h'
  | succ n ih =>
    intro x0 x1 x5 r h
    rw [laws_heldFileS_b2] at h
    rcases cond_inv h with ⟨h0, h⟩ | ⟨h0, h⟩
    · obtain ⟨h1, h⟩ := ite_inv h
      obtain ⟨r1, h2, h⟩ := bind_inv h
      rcases cond_inv h with ⟨h3, h⟩ | ⟨h3, h⟩
      · obtain rfl := Option.some.inj h
        exact Reach.done ttok mix fk74 (p74_2_0 x0 x1 x5 r1) (obs_cons h0 (obs_cons h1 (obs_cons (laws_markText_ok h2) (obs_cons h3 obs_nil))))
      · rcases cond_inv h with ⟨h5, h⟩ | ⟨h5, h⟩
        · obtain rfl := Option.some.inj h
          exact Reach.done ttok mix fk74 (p74_2_1 x0 x1 x5 r1) (obs_cons h0 (obs_cons h1 (obs_cons (laws_markText_ok h2) (obs_cons h3 (obs_cons h1 (obs_cons h5 obs_nil))))))
        · exact Reach.stop ttok mix fk74 (p74_2_2 x0 x1 x5 r1) (obs_cons h0 (obs_cons h1 (obs_cons (laws_markText_ok h2) (obs_cons h3 (obs_cons h1 (obs_cons h5 obs_nil)))))) (ih _ _ _ _ h)
    · obtain rfl := Option.some.inj h
      exact Reach.done ttok mix fk74 (p74_2_3 x0 x1 x5) (obs_cons h0 obs_nil)
theorem c74_e {N : Nat} : ∀ a0 a1 r, laws_heldFileS N a0 a1 = some r → Reach Try.prog Try.f74 I74 [.code I74.body] (entry 0 (laws_heldFileS_as a0 a1)) (laws_heldFileS_ro r) := by
  intro a0 a1 r h
  unfold laws_heldFileS at h
  exact Reach.stop ttok mix fk74 (p74_e_4 a0 a1) obs_nil (c74_2   _ _ _ _ _ h)
theorem laws_heldFileS_ok {N : Nat} {a0 : List Fil} {a1 : Int} {r : Int} (h : laws_heldFileS N  a0 a1 = some r) : AbsCalls Try.prog 74 (laws_heldFileS_as a0 a1) (laws_heldFileS_ro r) :=
 AbsCalls.of_reach fk74 rfl rfl (Nat.le_of_ble_eq_true rfl) (c74_e a0 a1 r h)
noncomputable def I45 : Info := { body := (Try.f45.body).getD .skip, nt := 12, results := [.tmp 4], keep := [0, 2, 4, 8, 20, 5], live := [], modes := [], ext := [], lnt := [], casts := [], fcast := [] }
theorem fk45 : FnOk Try.prog 45 Try.f45 I45 := ⟨Try.func45, by kernel_rfl, by kernel_rfl, by kernel_rfl, by kernel_rfl⟩
theorem p45_e_0 (a0 : Wld) (a1 : Int) (r1 : Int) : run tt (AbsCalls Try.prog) I45 3000 false [.code I45.body] ⟨(entry 0 (laws_heldWorld_as a0 a1)), [true], [laws_heldFileS_ro r1], []⟩ = some (.done (laws_heldWorld_ro (-1)) [AbsCalls Try.prog 74 (laws_heldFileS_as (Wld.files a0) a1) (laws_heldFileS_ro r1), (decide ((r1 : Int) < 0)) = true]) := by kernel_rfl
theorem p45_e_1 (a0 : Wld) (a1 : Int) (r1 : Int) : run tt (AbsCalls Try.prog) I45 3000 false [.code I45.body] ⟨(entry 0 (laws_heldWorld_as a0 a1)), [false], [laws_heldFileS_ro r1], []⟩ = some (.done (laws_heldWorld_ro r1) [AbsCalls Try.prog 74 (laws_heldFileS_as (Wld.files a0) a1) (laws_heldFileS_ro r1), (decide ((r1 : Int) < 0)) = false]) := by kernel_rfl
theorem c45_e {N : Nat} : ∀ a0 a1 r, laws_heldWorld N a0 a1 = some r → Reach Try.prog Try.f45 I45 [.code I45.body] (entry 0 (laws_heldWorld_as a0 a1)) (laws_heldWorld_ro r) := by
  intro a0 a1 r h
  unfold laws_heldWorld at h
  obtain ⟨r1, h0, h⟩ := bind_inv h
  rcases cond_inv h with ⟨h1, h⟩ | ⟨h1, h⟩
  · obtain rfl := Option.some.inj h
    exact Reach.done ttok mix fk45 (p45_e_0 a0 a1 r1) (obs_cons (laws_heldFileS_ok h0) (obs_cons h1 obs_nil))
  · obtain rfl := Option.some.inj h
    exact Reach.done ttok mix fk45 (p45_e_1 a0 a1 r1) (obs_cons (laws_heldFileS_ok h0) (obs_cons h1 obs_nil))
theorem laws_heldWorld_ok {N : Nat} {a0 : Wld} {a1 : Int} {r : Int} (h : laws_heldWorld N  a0 a1 = some r) : AbsCalls Try.prog 45 (laws_heldWorld_as a0 a1) (laws_heldWorld_ro r) :=
 AbsCalls.of_reach fk45 rfl rfl (Nat.le_of_ble_eq_true rfl) (c45_e a0 a1 r h)
noncomputable def I91 : Info := { body := (Try.f91.body).getD .skip, nt := 5, results := [.tmp 2], keep := [0, 4], live := [], modes := [], ext := [], lnt := [], casts := [], fcast := [] }
theorem fk91 : FnOk Try.prog 91 Try.f91 I91 := ⟨Try.func91, by kernel_rfl, by kernel_rfl, by kernel_rfl, by kernel_rfl⟩
theorem p91_e_0 (a0 : Int) (r1 : Bool) : run tt (AbsCalls Try.prog) I91 3000 false [.code I91.body] ⟨(entry 0 (spec_l3Number_as a0)), [], [spec_l1In_ro r1], []⟩ = some (.done (spec_l3Number_ro r1) [AbsCalls Try.prog 63 (spec_l1In_as a0 (-1000000000) 1000000000) (spec_l1In_ro r1)]) := by kernel_rfl
theorem c91_e {N : Nat} : ∀ a0 r, spec_l3Number N a0 = some r → Reach Try.prog Try.f91 I91 [.code I91.body] (entry 0 (spec_l3Number_as a0)) (spec_l3Number_ro r) := by
  intro a0 r h
  unfold spec_l3Number at h
  obtain ⟨r1, h0, h⟩ := bind_inv h
  obtain rfl := Option.some.inj h
  exact Reach.done ttok mix fk91 (p91_e_0 a0 r1) (obs_cons (spec_l1In_ok h0) obs_nil)
theorem spec_l3Number_ok {N : Nat} {a0 : Int} {r : Bool} (h : spec_l3Number N  a0 = some r) : AbsCalls Try.prog 91 (spec_l3Number_as a0) (spec_l3Number_ro r) :=
 AbsCalls.of_reach fk91 rfl rfl (Nat.le_of_ble_eq_true rfl) (c91_e a0 r h)
noncomputable def I75 : Info := { body := (Try.f75.body).getD .skip, nt := 47, results := [.tmp 2], keep := [0, 4, 6, 14, 86], live := [(2, [0, 6])], modes := [(4, [(7, .take, false), (16, .take, false), (19, .take, false)])], ext := [], lnt := [], casts := [], fcast := [] }
theorem fk75 : FnOk Try.prog 75 Try.f75 I75 := ⟨Try.func75, by kernel_rfl, by kernel_rfl, by kernel_rfl, by kernel_rfl⟩
def S75_2 (x0 : List Fil) (x3 : Int) : St := [(0, .v false [.sl .ro .fil x0]), (6, .v false [.int .i64 x3])]
theorem p75_2_0 (x0 : List Fil) (x3 : Int) (r1 : Bool) : run tt (AbsCalls Try.prog) I75 3000 true (stkAt 2 I75.body) ⟨(S75_2 x0 x3), [true, true, true, true], [spec_IsValidName_ro r1], []⟩ = some (.done (spec_l14Files_ro false) [(decide ((x3 : Int) < (List.length x0 : Int))) = true, (0 : Int) ≤ x3 ∧ x3 < (List.length x0), AbsCalls Try.prog 64 (spec_IsValidName_as (Fil.name (List.getD x0 (Int.toNat x3) Ty.fil.dflt))) (spec_IsValidName_ro r1), (!r1) = true, true = true, true = true]) := by kernel_rfl
theorem p75_2_1 (x0 : List Fil) (x3 : Int) (r1 : Bool) (r2 : Bool) : run tt (AbsCalls Try.prog) I75 3000 true (stkAt 2 I75.body) ⟨(S75_2 x0 x3), [true, false, true, true], [spec_IsValidName_ro r1, spec_l3Number_ro r2], []⟩ = some (.done (spec_l14Files_ro false) [(decide ((x3 : Int) < (List.length x0 : Int))) = true, (0 : Int) ≤ x3 ∧ x3 < (List.length x0), AbsCalls Try.prog 64 (spec_IsValidName_as (Fil.name (List.getD x0 (Int.toNat x3) Ty.fil.dflt))) (spec_IsValidName_ro r1), (!r1) = false, (0 : Int) ≤ x3 ∧ x3 < (List.length x0), AbsCalls Try.prog 91 (spec_l3Number_as (Fil.n (List.getD x0 (Int.toNat x3) Ty.fil.dflt))) (spec_l3Number_ro r2), (!r2) = true, true = true]) := by kernel_rfl
theorem p75_2_2 (x0 : List Fil) (x3 : Int) (r1 : Bool) (r2 : Bool) : run tt (AbsCalls Try.prog) I75 3000 true (stkAt 2 I75.body) ⟨(S75_2 x0 x3), [true, false, false, true, true], [spec_IsValidName_ro r1, spec_l3Number_ro r2], []⟩ = some (.done (spec_l14Files_ro false) [(decide ((x3 : Int) < (List.length x0 : Int))) = true, (0 : Int) ≤ x3 ∧ x3 < (List.length x0), AbsCalls Try.prog 64 (spec_IsValidName_as (Fil.name (List.getD x0 (Int.toNat x3) Ty.fil.dflt))) (spec_IsValidName_ro r1), (!r1) = false, (0 : Int) ≤ x3 ∧ x3 < (List.length x0), AbsCalls Try.prog 91 (spec_l3Number_as (Fil.n (List.getD x0 (Int.toNat x3) Ty.fil.dflt))) (spec_l3Number_ro r2), (!r2) = false, (decide ((x3 : Int) > 0)) = true, (0 : Int) ≤ (IntKind.i64.wrap (x3 - 1)) ∧ (IntKind.i64.wrap (x3 - 1)) < (List.length x0), (0 : Int) ≤ x3 ∧ x3 < (List.length x0), (!(Op.bytesLess (Fil.name (List.getD x0 (Int.toNat (IntKind.i64.wrap (x3 - 1))) Ty.fil.dflt)) (Fil.name (List.getD x0 (Int.toNat x3) Ty.fil.dflt)))) = true]) := by kernel_rfl
theorem p75_2_3 (x0 : List Fil) (x3 : Int) (r1 : Bool) (r2 : Bool) : run tt (AbsCalls Try.prog) I75 3000 true (stkAt 2 I75.body) ⟨(S75_2 x0 x3), [true, false, false, true, false], [spec_IsValidName_ro r1, spec_l3Number_ro r2], []⟩ = some (.stop (stkAt 2 I75.body) (S75_2 x0 (IntKind.i64.wrap (x3 + 1))) [(decide ((x3 : Int) < (List.length x0 : Int))) = true, (0 : Int) ≤ x3 ∧ x3 < (List.length x0), AbsCalls Try.prog 64 (spec_IsValidName_as (Fil.name (List.getD x0 (Int.toNat x3) Ty.fil.dflt))) (spec_IsValidName_ro r1), (!r1) = false, (0 : Int) ≤ x3 ∧ x3 < (List.length x0), AbsCalls Try.prog 91 (spec_l3Number_as (Fil.n (List.getD x0 (Int.toNat x3) Ty.fil.dflt))) (spec_l3Number_ro r2), (!r2) = false, (decide ((x3 : Int) > 0)) = true, (0 : Int) ≤ (IntKind.i64.wrap (x3 - 1)) ∧ (IntKind.i64.wrap (x3 - 1)) < (List.length x0), (0 : Int) ≤ x3 ∧ x3 < (List.length x0), (!(Op.bytesLess (Fil.name (List.getD x0 (Int.toNat (IntKind.i64.wrap (x3 - 1))) Ty.fil.dflt)) (Fil.name (List.getD x0 (Int.toNat x3) Ty.fil.dflt)))) = false]) := by kernel_rfl
theorem p75_2_4 (x0 : List Fil) (x3 : Int) (r1 : Bool) (r2 : Bool) : run tt (AbsCalls Try.prog) I75 3000 true (stkAt 2 I75.body) ⟨(S75_2 x0 x3), [true, false, false, false, false], [spec_IsValidName_ro r1, spec_l3Number_ro r2], []⟩ = some (.stop (stkAt 2 I75.body) (S75_2 x0 (IntKind.i64.wrap (x3 + 1))) [(decide ((x3 : Int) < (List.length x0 : Int))) = true, (0 : Int) ≤ x3 ∧ x3 < (List.length x0), AbsCalls Try.prog 64 (spec_IsValidName_as (Fil.name (List.getD x0 (Int.toNat x3) Ty.fil.dflt))) (spec_IsValidName_ro r1), (!r1) = false, (0 : Int) ≤ x3 ∧ x3 < (List.length x0), AbsCalls Try.prog 91 (spec_l3Number_as (Fil.n (List.getD x0 (Int.toNat x3) Ty.fil.dflt))) (spec_l3Number_ro r2), (!r2) = false, (decide ((x3 : Int) > 0)) = false, false = false]) := by kernel_rfl
theorem p75_2_5 (x0 : List Fil) (x3 : Int) : run tt (AbsCalls Try.prog) I75 3000 true (stkAt 2 I75.body) ⟨(S75_2 x0 x3), [false], [], []⟩ = some (.done (spec_l14Files_ro (decide (((List.length x0 : Int) : Int) ≤ 4))) [(decide ((x3 : Int) < (List.length x0 : Int))) = false]) := by kernel_rfl
theorem p75_e_6 (a0 : List Fil) : run tt (AbsCalls Try.prog) I75 3000 false [.code I75.body] ⟨(entry 0 (spec_l14Files_as a0)), [], [], []⟩ = some (.stop (stkAt 2 I75.body) (S75_2 a0 0) []) := by kernel_rfl
theorem c75_2 {N : Nat} : ∀ n x0 x3 r, spec_l14Files_b2 N n x0 x3 = some r → Reach Try.prog Try.f75 I75 (stkAt 2 I75.body) (S75_2 x0 x3) (spec_l14Files_ro r) := by
  intro n
  induction n with
  | zero => intro x0 x3 r h; have h' : (none : Option (Bool)) = some r := h; cases h'
  | succ n ih =>
    intro x0 x3 r h
    rw [spec_l14Files_b2] at h
    rcases cond_inv h with ⟨h0, h⟩ | ⟨h0, h⟩
    · obtain ⟨h1, h⟩ := ite_inv h
      obtain ⟨r1, h2, h⟩ := bind_inv h
      rcases cond_inv h with ⟨h3, h⟩ | ⟨h3, h⟩
      · obtain rfl := Option.some.inj h
        exact Reach.done ttok mix fk75 (p75_2_0 x0 x3 r1) (obs_cons h0 (obs_cons h1 (obs_cons (spec_IsValidName_ok h2) (obs_cons h3 (obs_cons rfl (obs_cons rfl obs_nil))))))
      · obtain ⟨r2, h5, h⟩ := bind_inv h
        rcases cond_inv h with ⟨h6, h⟩ | ⟨h6, h⟩
        · obtain rfl := Option.some.inj h
          exact Reach.done ttok mix fk75 (p75_2_1 x0 x3 r1 r2) (obs_cons h0 (obs_cons h1 (obs_cons (spec_IsValidName_ok h2) (obs_cons h3 (obs_cons h1 (obs_cons (spec_l3Number_ok h5) (obs_cons h6 (obs_cons rfl obs_nil))))))))
        · rcases cond_inv h with ⟨h7, h⟩ | ⟨h7, h⟩
          · obtain ⟨h8, h⟩ := ite_inv h
            rcases cond_inv h with ⟨h10, h⟩ | ⟨h10, h⟩
            · obtain rfl := Option.some.inj h
              exact Reach.done ttok mix fk75 (p75_2_2 x0 x3 r1 r2) (obs_cons h0 (obs_cons h1 (obs_cons (spec_IsValidName_ok h2) (obs_cons h3 (obs_cons h1 (obs_cons (spec_l3Number_ok h5) (obs_cons h6 (obs_cons h7 (obs_cons h8 (obs_cons h1 (obs_cons h10 obs_nil)))))))))))
            · exact Reach.stop ttok mix fk75 (p75_2_3 x0 x3 r1 r2) (obs_cons h0 (obs_cons h1 (obs_cons (spec_IsValidName_ok h2) (obs_cons h3 (obs_cons h1 (obs_cons (spec_l3Number_ok h5) (obs_cons h6 (obs_cons h7 (obs_cons h8 (obs_cons h1 (obs_cons h10 obs_nil))))))))))) (ih _ _ _ h)
          · exact Reach.stop ttok mix fk75 (p75_2_4 x0 x3 r1 r2) (obs_cons h0 (obs_cons h1 (obs_cons (spec_IsValidName_ok h2) (obs_cons h3 (obs_cons h1 (obs_cons (spec_l3Number_ok h5) (obs_cons h6 (obs_cons h7 (obs_cons rfl obs_nil))))))))) (ih _ _ _ h)
    · obtain rfl := Option.some.inj h
      exact Reach.done ttok mix fk75 (p75_2_5 x0 x3) (obs_cons h0 obs_nil)
theorem c75_e {N : Nat} : ∀ a0 r, spec_l14Files N a0 = some r → Reach Try.prog Try.f75 I75 [.code I75.body] (entry 0 (spec_l14Files_as a0)) (spec_l14Files_ro r) := by
  intro a0 r h
  unfold spec_l14Files at h
  exact Reach.stop ttok mix fk75 (p75_e_6 a0) obs_nil (c75_2   _ _ _ _ h)
theorem spec_l14Files_ok {N : Nat} {a0 : List Fil} {r : Bool} (h : spec_l14Files N  a0 = some r) : AbsCalls Try.prog 75 (spec_l14Files_as a0) (spec_l14Files_ro r) :=
 AbsCalls.of_reach fk75 rfl rfl (Nat.le_of_ble_eq_true rfl) (c75_e a0 r h)
noncomputable def I46 : Info := { body := (Try.f46.body).getD .skip, nt := 16, results := [.tmp 2], keep := [0, 2, 4, 3], live := [], modes := [(1, [(3, .take, false), (8, .take, false)])], ext := [], lnt := [], casts := [], fcast := [] }
theorem fk46 : FnOk Try.prog 46 Try.f46 I46 := ⟨Try.func46, by kernel_rfl, by kernel_rfl, by kernel_rfl, by kernel_rfl⟩
theorem p46_e_0 (a0 : Wld) (r1 : Bool) (r2 : Bool) (r3 : Bool) : run tt (AbsCalls Try.prog) I46 3000 false [.code I46.body] ⟨(entry 0 (spec_IsValidWorld_as a0)), [true, true], [spec_l1In_ro r1, spec_l1In_ro r2, spec_l14Files_ro r3], []⟩ = some (.done (spec_IsValidWorld_ro r3) [AbsCalls Try.prog 63 (spec_l1In_as (Wld.clock a0) 0 1000) (spec_l1In_ro r1), r1 = true, AbsCalls Try.prog 63 (spec_l1In_as (Wld.seed a0) 0 1000000) (spec_l1In_ro r2), r2 = true, AbsCalls Try.prog 75 (spec_l14Files_as (Wld.files a0)) (spec_l14Files_ro r3)]) := by kernel_rfl
theorem p46_e_1 (a0 : Wld) (r1 : Bool) (r2 : Bool) : run tt (AbsCalls Try.prog) I46 3000 false [.code I46.body] ⟨(entry 0 (spec_IsValidWorld_as a0)), [true, false], [spec_l1In_ro r1, spec_l1In_ro r2], []⟩ = some (.done (spec_IsValidWorld_ro false) [AbsCalls Try.prog 63 (spec_l1In_as (Wld.clock a0) 0 1000) (spec_l1In_ro r1), r1 = true, AbsCalls Try.prog 63 (spec_l1In_as (Wld.seed a0) 0 1000000) (spec_l1In_ro r2), r2 = false]) := by kernel_rfl
theorem p46_e_2 (a0 : Wld) (r1 : Bool) : run tt (AbsCalls Try.prog) I46 3000 false [.code I46.body] ⟨(entry 0 (spec_IsValidWorld_as a0)), [false, false], [spec_l1In_ro r1], []⟩ = some (.done (spec_IsValidWorld_ro false) [AbsCalls Try.prog 63 (spec_l1In_as (Wld.clock a0) 0 1000) (spec_l1In_ro r1), r1 = false, false = false]) := by kernel_rfl
theorem c46_e {N : Nat} : ∀ a0 r, spec_IsValidWorld N a0 = some r → Reach Try.prog Try.f46 I46 [.code I46.body] (entry 0 (spec_IsValidWorld_as a0)) (spec_IsValidWorld_ro r) := by
  intro a0 r h
  unfold spec_IsValidWorld at h
  obtain ⟨r1, h0, h⟩ := bind_inv h
  rcases cond_inv h with ⟨h1, h⟩ | ⟨h1, h⟩
  · obtain ⟨r2, h2, h⟩ := bind_inv h
    rcases cond_inv h with ⟨h3, h⟩ | ⟨h3, h⟩
    · obtain ⟨r3, h4, h⟩ := bind_inv h
      obtain rfl := Option.some.inj h
      exact Reach.done ttok mix fk46 (p46_e_0 a0 r1 r2 r3) (obs_cons (spec_l1In_ok h0) (obs_cons h1 (obs_cons (spec_l1In_ok h2) (obs_cons h3 (obs_cons (spec_l14Files_ok h4) obs_nil)))))
    · obtain rfl := Option.some.inj h
      exact Reach.done ttok mix fk46 (p46_e_1 a0 r1 r2) (obs_cons (spec_l1In_ok h0) (obs_cons h1 (obs_cons (spec_l1In_ok h2) (obs_cons h3 obs_nil))))
  · obtain rfl := Option.some.inj h
    exact Reach.done ttok mix fk46 (p46_e_2 a0 r1) (obs_cons (spec_l1In_ok h0) (obs_cons h1 (obs_cons rfl obs_nil)))
theorem spec_IsValidWorld_ok {N : Nat} {a0 : Wld} {r : Bool} (h : spec_IsValidWorld N  a0 = some r) : AbsCalls Try.prog 46 (spec_IsValidWorld_as a0) (spec_IsValidWorld_ro r) :=
 AbsCalls.of_reach fk46 rfl rfl (Nat.le_of_ble_eq_true rfl) (c46_e a0 r h)
noncomputable def I76 : Info := { body := (Try.f76.body).getD .skip, nt := 5, results := [.tmp 2], keep := [0, 4], live := [], modes := [], ext := [], lnt := [], casts := [], fcast := [] }
theorem fk76 : FnOk Try.prog 76 Try.f76 I76 := ⟨Try.func76, by kernel_rfl, by kernel_rfl, by kernel_rfl, by kernel_rfl⟩
theorem p76_e_0 (a0 : Int) (r1 : Bool) : run tt (AbsCalls Try.prog) I76 3000 false [.code I76.body] ⟨(entry 0 (impl_isNumber_as a0)), [], [impl_within_ro r1], []⟩ = some (.done (impl_isNumber_ro r1) [AbsCalls Try.prog 65 (impl_within_as a0 (-1000000000) 1000000000) (impl_within_ro r1)]) := by kernel_rfl
theorem c76_e {N : Nat} : ∀ a0 r, impl_isNumber N a0 = some r → Reach Try.prog Try.f76 I76 [.code I76.body] (entry 0 (impl_isNumber_as a0)) (impl_isNumber_ro r) := by
  intro a0 r h
  unfold impl_isNumber at h
  obtain ⟨r1, h0, h⟩ := bind_inv h
  obtain rfl := Option.some.inj h
  exact Reach.done ttok mix fk76 (p76_e_0 a0 r1) (obs_cons (impl_within_ok h0) obs_nil)
theorem impl_isNumber_ok {N : Nat} {a0 : Int} {r : Bool} (h : impl_isNumber N  a0 = some r) : AbsCalls Try.prog 76 (impl_isNumber_as a0) (impl_isNumber_ro r) :=
 AbsCalls.of_reach fk76 rfl rfl (Nat.le_of_ble_eq_true rfl) (c76_e a0 r h)
noncomputable def I47 : Info := { body := (Try.f47.body).getD .skip, nt := 54, results := [.tmp 2], keep := [0, 2, 4, 6, 8, 12, 14, 16, 18, 76, 3, 9], live := [(2, [2, 12, 14, 16, 3])], modes := [(4, [(4, .take, false), (10, .take, false), (13, .take, false)]), (6, [(1, .take, false)]), (7, [(3, .take, false), (8, .take, false)])], ext := [], lnt := [], casts := [], fcast := [] }
theorem fk47 : FnOk Try.prog 47 Try.f47 I47 := ⟨Try.func47, by kernel_rfl, by kernel_rfl, by kernel_rfl, by kernel_rfl⟩
def S47_2 (x6 : List Fil) (x7 : Int) (x8 : Int) (b1 : Wld) : St := [(2, .v false [.ptr 1 0]), (12, .v false [.sl .ro .fil x6]), (14, .v false [.int .i64 x7]), (16, .v false [.int .i64 x8]), (3, .v true [.int .i64 (Wld.clock b1), .int .i64 (Wld.seed b1), .sl .ro .fil (Wld.files b1)])]
theorem p47_2_0 (x6 : List Fil) (x7 : Int) (x8 : Int) (b1 : Wld) (r1 : Bool) : run tt (AbsCalls Try.prog) I47 3000 true (stkAt 2 I47.body) ⟨(S47_2 x6 x7 x8 b1), [true, true, true, true], [impl_IsValidName_ro r1], []⟩ = some (.done (impl_IsValidWorld_ro false) [(decide ((x8 : Int) < x7)) = true, (0 : Int) ≤ x8 ∧ x8 < (List.length x6), AbsCalls Try.prog 66 (impl_IsValidName_as (Fil.name (List.getD x6 (Int.toNat x8) Ty.fil.dflt))) (impl_IsValidName_ro r1), (!r1) = true, true = true, true = true]) := by kernel_rfl
theorem p47_2_1 (x6 : List Fil) (x7 : Int) (x8 : Int) (b1 : Wld) (r1 : Bool) (r2 : Bool) : run tt (AbsCalls Try.prog) I47 3000 true (stkAt 2 I47.body) ⟨(S47_2 x6 x7 x8 b1), [true, false, true, true], [impl_IsValidName_ro r1, impl_isNumber_ro r2], []⟩ = some (.done (impl_IsValidWorld_ro false) [(decide ((x8 : Int) < x7)) = true, (0 : Int) ≤ x8 ∧ x8 < (List.length x6), AbsCalls Try.prog 66 (impl_IsValidName_as (Fil.name (List.getD x6 (Int.toNat x8) Ty.fil.dflt))) (impl_IsValidName_ro r1), (!r1) = false, AbsCalls Try.prog 76 (impl_isNumber_as (Fil.n (List.getD x6 (Int.toNat x8) Ty.fil.dflt))) (impl_isNumber_ro r2), (!r2) = true, true = true]) := by kernel_rfl
theorem p47_2_2 (x6 : List Fil) (x7 : Int) (x8 : Int) (b1 : Wld) (r1 : Bool) (r2 : Bool) : run tt (AbsCalls Try.prog) I47 3000 true (stkAt 2 I47.body) ⟨(S47_2 x6 x7 x8 b1), [true, false, false, true, true], [impl_IsValidName_ro r1, impl_isNumber_ro r2], []⟩ = some (.done (impl_IsValidWorld_ro false) [(decide ((x8 : Int) < x7)) = true, (0 : Int) ≤ x8 ∧ x8 < (List.length x6), AbsCalls Try.prog 66 (impl_IsValidName_as (Fil.name (List.getD x6 (Int.toNat x8) Ty.fil.dflt))) (impl_IsValidName_ro r1), (!r1) = false, AbsCalls Try.prog 76 (impl_isNumber_as (Fil.n (List.getD x6 (Int.toNat x8) Ty.fil.dflt))) (impl_isNumber_ro r2), (!r2) = false, (decide ((x8 : Int) > 0)) = true, (0 : Int) ≤ (IntKind.i64.wrap (x8 - 1)) ∧ (IntKind.i64.wrap (x8 - 1)) < (List.length (Wld.files b1)), (!(Op.bytesLess (Fil.name (List.getD (Wld.files b1) (Int.toNat (IntKind.i64.wrap (x8 - 1))) Ty.fil.dflt)) (Fil.name (List.getD x6 (Int.toNat x8) Ty.fil.dflt)))) = true]) := by kernel_rfl
theorem p47_2_3 (x6 : List Fil) (x7 : Int) (x8 : Int) (b1 : Wld) (r1 : Bool) (r2 : Bool) : run tt (AbsCalls Try.prog) I47 3000 true (stkAt 2 I47.body) ⟨(S47_2 x6 x7 x8 b1), [true, false, false, true, false], [impl_IsValidName_ro r1, impl_isNumber_ro r2], []⟩ = some (.stop (stkAt 2 I47.body) (S47_2 x6 x7 (IntKind.i64.wrap (x8 + 1)) b1) [(decide ((x8 : Int) < x7)) = true, (0 : Int) ≤ x8 ∧ x8 < (List.length x6), AbsCalls Try.prog 66 (impl_IsValidName_as (Fil.name (List.getD x6 (Int.toNat x8) Ty.fil.dflt))) (impl_IsValidName_ro r1), (!r1) = false, AbsCalls Try.prog 76 (impl_isNumber_as (Fil.n (List.getD x6 (Int.toNat x8) Ty.fil.dflt))) (impl_isNumber_ro r2), (!r2) = false, (decide ((x8 : Int) > 0)) = true, (0 : Int) ≤ (IntKind.i64.wrap (x8 - 1)) ∧ (IntKind.i64.wrap (x8 - 1)) < (List.length (Wld.files b1)), (!(Op.bytesLess (Fil.name (List.getD (Wld.files b1) (Int.toNat (IntKind.i64.wrap (x8 - 1))) Ty.fil.dflt)) (Fil.name (List.getD x6 (Int.toNat x8) Ty.fil.dflt)))) = false]) := by kernel_rfl
theorem p47_2_4 (x6 : List Fil) (x7 : Int) (x8 : Int) (b1 : Wld) (r1 : Bool) (r2 : Bool) : run tt (AbsCalls Try.prog) I47 3000 true (stkAt 2 I47.body) ⟨(S47_2 x6 x7 x8 b1), [true, false, false, false, false], [impl_IsValidName_ro r1, impl_isNumber_ro r2], []⟩ = some (.stop (stkAt 2 I47.body) (S47_2 x6 x7 (IntKind.i64.wrap (x8 + 1)) b1) [(decide ((x8 : Int) < x7)) = true, (0 : Int) ≤ x8 ∧ x8 < (List.length x6), AbsCalls Try.prog 66 (impl_IsValidName_as (Fil.name (List.getD x6 (Int.toNat x8) Ty.fil.dflt))) (impl_IsValidName_ro r1), (!r1) = false, AbsCalls Try.prog 76 (impl_isNumber_as (Fil.n (List.getD x6 (Int.toNat x8) Ty.fil.dflt))) (impl_isNumber_ro r2), (!r2) = false, (decide ((x8 : Int) > 0)) = false, false = false]) := by kernel_rfl
theorem p47_2_5 (x6 : List Fil) (x7 : Int) (x8 : Int) (b1 : Wld) (r1 : Bool) (r2 : Bool) : run tt (AbsCalls Try.prog) I47 3000 true (stkAt 2 I47.body) ⟨(S47_2 x6 x7 x8 b1), [false, true, true], [impl_within_ro r1, impl_within_ro r2], []⟩ = some (.done (impl_IsValidWorld_ro (decide (((List.length (Wld.files b1) : Int) : Int) ≤ 4))) [(decide ((x8 : Int) < x7)) = false, AbsCalls Try.prog 65 (impl_within_as (Wld.clock b1) 0 1000) (impl_within_ro r1), r1 = true, AbsCalls Try.prog 65 (impl_within_as (Wld.seed b1) 0 1000000) (impl_within_ro r2), r2 = true]) := by kernel_rfl
theorem p47_2_6 (x6 : List Fil) (x7 : Int) (x8 : Int) (b1 : Wld) (r1 : Bool) (r2 : Bool) : run tt (AbsCalls Try.prog) I47 3000 true (stkAt 2 I47.body) ⟨(S47_2 x6 x7 x8 b1), [false, true, false], [impl_within_ro r1, impl_within_ro r2], []⟩ = some (.done (impl_IsValidWorld_ro false) [(decide ((x8 : Int) < x7)) = false, AbsCalls Try.prog 65 (impl_within_as (Wld.clock b1) 0 1000) (impl_within_ro r1), r1 = true, AbsCalls Try.prog 65 (impl_within_as (Wld.seed b1) 0 1000000) (impl_within_ro r2), r2 = false]) := by kernel_rfl
theorem p47_2_7 (x6 : List Fil) (x7 : Int) (x8 : Int) (b1 : Wld) (r1 : Bool) : run tt (AbsCalls Try.prog) I47 3000 true (stkAt 2 I47.body) ⟨(S47_2 x6 x7 x8 b1), [false, false, false], [impl_within_ro r1], []⟩ = some (.done (impl_IsValidWorld_ro false) [(decide ((x8 : Int) < x7)) = false, AbsCalls Try.prog 65 (impl_within_as (Wld.clock b1) 0 1000) (impl_within_ro r1), r1 = false, false = false]) := by kernel_rfl
theorem p47_e_8 (a0 : Wld) : run tt (AbsCalls Try.prog) I47 3000 false [.code I47.body] ⟨(entry 0 (impl_IsValidWorld_as a0)), [], [], []⟩ = some (.stop (stkAt 2 I47.body) (S47_2 (Wld.files a0) (List.length (Wld.files a0) : Int) 0 a0) []) := by kernel_rfl
theorem c47_2 {N : Nat} : ∀ n x6 x7 x8 b1 r, impl_IsValidWorld_b2 N n x6 x7 x8 b1 = some r → Reach Try.prog Try.f47 I47 (stkAt 2 I47.body) (S47_2 x6 x7 x8 b1) (impl_IsValidWorld_ro r) := by
  intro n
  induction n with
  | zero => intro x6 x7 x8 b1 r h; have h' : (none : Option (Bool)) = some r := h; cases h'
  | succ n ih =>
    intro x6 x7 x8 b1 r h
    rw [impl_IsValidWorld_b2] at h
    rcases cond_inv h with ⟨h0, h⟩ | ⟨h0, h⟩
    · obtain ⟨h1, h⟩ := ite_inv h
      obtain ⟨r1, h2, h⟩ := bind_inv h
      rcases cond_inv h with ⟨h3, h⟩ | ⟨h3, h⟩
      · obtain rfl := Option.some.inj h
        exact Reach.done ttok mix fk47 (p47_2_0 x6 x7 x8 b1 r1) (obs_cons h0 (obs_cons h1 (obs_cons (impl_IsValidName_ok h2) (obs_cons h3 (obs_cons rfl (obs_cons rfl obs_nil))))))
      · obtain ⟨r2, h4, h⟩ := bind_inv h
        rcases cond_inv h with ⟨h5, h⟩ | ⟨h5, h⟩
        · obtain rfl := Option.some.inj h
          exact Reach.done ttok mix fk47 (p47_2_1 x6 x7 x8 b1 r1 r2) (obs_cons h0 (obs_cons h1 (obs_cons (impl_IsValidName_ok h2) (obs_cons h3 (obs_cons (impl_isNumber_ok h4) (obs_cons h5 (obs_cons rfl obs_nil)))))))
        · rcases cond_inv h with ⟨h6, h⟩ | ⟨h6, h⟩
          · obtain ⟨h7, h⟩ := ite_inv h
            rcases cond_inv h with ⟨h8, h⟩ | ⟨h8, h⟩
            · obtain rfl := Option.some.inj h
              exact Reach.done ttok mix fk47 (p47_2_2 x6 x7 x8 b1 r1 r2) (obs_cons h0 (obs_cons h1 (obs_cons (impl_IsValidName_ok h2) (obs_cons h3 (obs_cons (impl_isNumber_ok h4) (obs_cons h5 (obs_cons h6 (obs_cons h7 (obs_cons h8 obs_nil)))))))))
            · exact Reach.stop ttok mix fk47 (p47_2_3 x6 x7 x8 b1 r1 r2) (obs_cons h0 (obs_cons h1 (obs_cons (impl_IsValidName_ok h2) (obs_cons h3 (obs_cons (impl_isNumber_ok h4) (obs_cons h5 (obs_cons h6 (obs_cons h7 (obs_cons h8 obs_nil))))))))) (ih _ _ _ _ _ h)
          · exact Reach.stop ttok mix fk47 (p47_2_4 x6 x7 x8 b1 r1 r2) (obs_cons h0 (obs_cons h1 (obs_cons (impl_IsValidName_ok h2) (obs_cons h3 (obs_cons (impl_isNumber_ok h4) (obs_cons h5 (obs_cons h6 (obs_cons rfl obs_nil)))))))) (ih _ _ _ _ _ h)
    · obtain ⟨r1, h1, h⟩ := bind_inv h
      rcases cond_inv h with ⟨h2, h⟩ | ⟨h2, h⟩
      · obtain ⟨r2, h3, h⟩ := bind_inv h
        rcases cond_inv h with ⟨h4, h⟩ | ⟨h4, h⟩
        · obtain rfl := Option.some.inj h
          exact Reach.done ttok mix fk47 (p47_2_5 x6 x7 x8 b1 r1 r2) (obs_cons h0 (obs_cons (impl_within_ok h1) (obs_cons h2 (obs_cons (impl_within_ok h3) (obs_cons h4 obs_nil)))))
        · obtain rfl := Option.some.inj h
          exact Reach.done ttok mix fk47 (p47_2_6 x6 x7 x8 b1 r1 r2) (obs_cons h0 (obs_cons (impl_within_ok h1) (obs_cons h2 (obs_cons (impl_within_ok h3) (obs_cons h4 obs_nil)))))
      · obtain rfl := Option.some.inj h
        exact Reach.done ttok mix fk47 (p47_2_7 x6 x7 x8 b1 r1) (obs_cons h0 (obs_cons (impl_within_ok h1) (obs_cons h2 (obs_cons rfl obs_nil))))
theorem c47_e {N : Nat} : ∀ a0 r, impl_IsValidWorld N a0 = some r → Reach Try.prog Try.f47 I47 [.code I47.body] (entry 0 (impl_IsValidWorld_as a0)) (impl_IsValidWorld_ro r) := by
  intro a0 r h
  unfold impl_IsValidWorld at h
  exact Reach.stop ttok mix fk47 (p47_e_8 a0) obs_nil (c47_2   _ _ _ _ _ _ h)
theorem impl_IsValidWorld_ok {N : Nat} {a0 : Wld} {r : Bool} (h : impl_IsValidWorld N  a0 = some r) : AbsCalls Try.prog 47 (impl_IsValidWorld_as a0) (impl_IsValidWorld_ro r) :=
 AbsCalls.of_reach fk47 rfl rfl (Nat.le_of_ble_eq_true rfl) (c47_e a0 r h)
noncomputable def I51 : Info := { body := (Try.f51.body).getD .skip, nt := 76, results := [.cell 6 33, .tmp 7], keep := [0, 2, 4, 6, 12, 14, 16, 18, 20, 22, 42, 72, 96, 112, 144, 7, 13, 17, 23], live := [(4, [2, 4, 6, 12, 16, 18, 20, 7, 13, 17])], modes := [(7, [(2, .take, false)]), (8, [(1, .take, false)]), (11, [(1, .take, false)]), (13, [(1, .take, false)]), (14, [(3, .take, false)]), (16, [(0, .take, false)])], ext := [], lnt := [], casts := [], fcast := [] }
theorem fk51 : FnOk Try.prog 51 Try.f51 I51 := ⟨Try.func51, by kernel_rfl, by kernel_rfl, by kernel_rfl, by kernel_rfl⟩
def S51_4 (x1 : Str) (x2 : Int) (x9 : Bool) (x10 : Int) (b3 : Wld) (b6 : Wld) (b8 : Wld) : St := [(2, .v false [.str x1]), (4, .v false [.int .i64 x2]), (6, .v false [.ptr 3 0]), (12, .v false [.ptr 6 0]), (16, .v false [.ptr 8 0]), (18, .v false [.bool x9]), (20, .v false [.int .i64 x10]), (7, .v true [.int .i64 (Wld.clock b3), .int .i64 (Wld.seed b3), .sl .ro .fil (Wld.files b3)]), (13, .v true [.int .i64 (Wld.clock b6), .int .i64 (Wld.seed b6), .sl .own .fil (Wld.files b6)]), (17, .v true [.int .i64 (Wld.clock b8), .int .i64 (Wld.seed b8), .sl .own .fil (Wld.files b8)])]
theorem p51_4_0 (x1 : Str) (x2 : Int) (x9 : Bool) (x10 : Int) (b3 : Wld) (b6 : Wld) (b8 : Wld) : run tt (AbsCalls Try.prog) I51 3000 true (stkAt 4 I51.body) ⟨(S51_4 x1 x2 x9 x10 b3 b6 b8), [true, true, true, true], [], []⟩ = some (.stop (stkAt 4 I51.body) (S51_4 x1 x2 true (IntKind.i64.wrap (x10 + 1)) b3 b6 (Wld.mk (Wld.clock b8) (Wld.seed b8) (((Wld.files b8) ++ [(Fil.mk x1 x2)]) ++ [(List.getD (Wld.files b3) (Int.toNat x10) Ty.fil.dflt)]))) [(decide ((x10 : Int) < (List.length (Wld.files b3) : Int))) = true, (0 : Int) ≤ x10 ∧ x10 < (List.length (Wld.files b3)), (!x9) = true, ((Op.bytesLess x1 (Fil.name (List.getD (Wld.files b3) (Int.toNat x10) Ty.fil.dflt))) || ((x1 : Str) == (Fil.name (List.getD (Wld.files b3) (Int.toNat x10) Ty.fil.dflt)))) = true, List.length (Wld.files b8) + List.length [(Fil.mk x1 x2)] ≤ Lim, (!(((Fil.name (List.getD (Wld.files b3) (Int.toNat x10) Ty.fil.dflt)) : Str) == x1)) = true, List.length ((Wld.files b8) ++ [(Fil.mk x1 x2)]) + List.length [(List.getD (Wld.files b3) (Int.toNat x10) Ty.fil.dflt)] ≤ Lim]) := by kernel_rfl
theorem p51_4_1 (x1 : Str) (x2 : Int) (x9 : Bool) (x10 : Int) (b3 : Wld) (b6 : Wld) (b8 : Wld) : run tt (AbsCalls Try.prog) I51 3000 true (stkAt 4 I51.body) ⟨(S51_4 x1 x2 x9 x10 b3 b6 b8), [true, true, true, false], [], []⟩ = some (.stop (stkAt 4 I51.body) (S51_4 x1 x2 true (IntKind.i64.wrap (x10 + 1)) b3 b6 (Wld.mk (Wld.clock b8) (Wld.seed b8) ((Wld.files b8) ++ [(Fil.mk x1 x2)]))) [(decide ((x10 : Int) < (List.length (Wld.files b3) : Int))) = true, (0 : Int) ≤ x10 ∧ x10 < (List.length (Wld.files b3)), (!x9) = true, ((Op.bytesLess x1 (Fil.name (List.getD (Wld.files b3) (Int.toNat x10) Ty.fil.dflt))) || ((x1 : Str) == (Fil.name (List.getD (Wld.files b3) (Int.toNat x10) Ty.fil.dflt)))) = true, List.length (Wld.files b8) + List.length [(Fil.mk x1 x2)] ≤ Lim, (!(((Fil.name (List.getD (Wld.files b3) (Int.toNat x10) Ty.fil.dflt)) : Str) == x1)) = false]) := by kernel_rfl
theorem p51_4_2 (x1 : Str) (x2 : Int) (x9 : Bool) (x10 : Int) (b3 : Wld) (b6 : Wld) (b8 : Wld) : run tt (AbsCalls Try.prog) I51 3000 true (stkAt 4 I51.body) ⟨(S51_4 x1 x2 x9 x10 b3 b6 b8), [true, true, false, true], [], []⟩ = some (.stop (stkAt 4 I51.body) (S51_4 x1 x2 x9 (IntKind.i64.wrap (x10 + 1)) b3 b6 (Wld.mk (Wld.clock b8) (Wld.seed b8) ((Wld.files b8) ++ [(List.getD (Wld.files b3) (Int.toNat x10) Ty.fil.dflt)]))) [(decide ((x10 : Int) < (List.length (Wld.files b3) : Int))) = true, (0 : Int) ≤ x10 ∧ x10 < (List.length (Wld.files b3)), (!x9) = true, ((Op.bytesLess x1 (Fil.name (List.getD (Wld.files b3) (Int.toNat x10) Ty.fil.dflt))) || ((x1 : Str) == (Fil.name (List.getD (Wld.files b3) (Int.toNat x10) Ty.fil.dflt)))) = false, (!(((Fil.name (List.getD (Wld.files b3) (Int.toNat x10) Ty.fil.dflt)) : Str) == x1)) = true, List.length (Wld.files b8) + List.length [(List.getD (Wld.files b3) (Int.toNat x10) Ty.fil.dflt)] ≤ Lim]) := by kernel_rfl
theorem p51_4_3 (x1 : Str) (x2 : Int) (x9 : Bool) (x10 : Int) (b3 : Wld) (b6 : Wld) (b8 : Wld) : run tt (AbsCalls Try.prog) I51 3000 true (stkAt 4 I51.body) ⟨(S51_4 x1 x2 x9 x10 b3 b6 b8), [true, true, false, false], [], []⟩ = some (.stop (stkAt 4 I51.body) (S51_4 x1 x2 x9 (IntKind.i64.wrap (x10 + 1)) b3 b6 b8) [(decide ((x10 : Int) < (List.length (Wld.files b3) : Int))) = true, (0 : Int) ≤ x10 ∧ x10 < (List.length (Wld.files b3)), (!x9) = true, ((Op.bytesLess x1 (Fil.name (List.getD (Wld.files b3) (Int.toNat x10) Ty.fil.dflt))) || ((x1 : Str) == (Fil.name (List.getD (Wld.files b3) (Int.toNat x10) Ty.fil.dflt)))) = false, (!(((Fil.name (List.getD (Wld.files b3) (Int.toNat x10) Ty.fil.dflt)) : Str) == x1)) = false]) := by kernel_rfl
theorem p51_4_4 (x1 : Str) (x2 : Int) (x9 : Bool) (x10 : Int) (b3 : Wld) (b6 : Wld) (b8 : Wld) : run tt (AbsCalls Try.prog) I51 3000 true (stkAt 4 I51.body) ⟨(S51_4 x1 x2 x9 x10 b3 b6 b8), [true, false, false, true], [], []⟩ = some (.stop (stkAt 4 I51.body) (S51_4 x1 x2 x9 (IntKind.i64.wrap (x10 + 1)) b3 b6 (Wld.mk (Wld.clock b8) (Wld.seed b8) ((Wld.files b8) ++ [(List.getD (Wld.files b3) (Int.toNat x10) Ty.fil.dflt)]))) [(decide ((x10 : Int) < (List.length (Wld.files b3) : Int))) = true, (0 : Int) ≤ x10 ∧ x10 < (List.length (Wld.files b3)), (!x9) = false, false = false, (!(((Fil.name (List.getD (Wld.files b3) (Int.toNat x10) Ty.fil.dflt)) : Str) == x1)) = true, List.length (Wld.files b8) + List.length [(List.getD (Wld.files b3) (Int.toNat x10) Ty.fil.dflt)] ≤ Lim]) := by kernel_rfl
theorem p51_4_5 (x1 : Str) (x2 : Int) (x9 : Bool) (x10 : Int) (b3 : Wld) (b6 : Wld) (b8 : Wld) : run tt (AbsCalls Try.prog) I51 3000 true (stkAt 4 I51.body) ⟨(S51_4 x1 x2 x9 x10 b3 b6 b8), [true, false, false, false], [], []⟩ = some (.stop (stkAt 4 I51.body) (S51_4 x1 x2 x9 (IntKind.i64.wrap (x10 + 1)) b3 b6 b8) [(decide ((x10 : Int) < (List.length (Wld.files b3) : Int))) = true, (0 : Int) ≤ x10 ∧ x10 < (List.length (Wld.files b3)), (!x9) = false, false = false, (!(((Fil.name (List.getD (Wld.files b3) (Int.toNat x10) Ty.fil.dflt)) : Str) == x1)) = false]) := by kernel_rfl
theorem p51_4_6 (x1 : Str) (x2 : Int) (x9 : Bool) (x10 : Int) (b3 : Wld) (b6 : Wld) (b8 : Wld) (r1 : Bool) (r2 : Wld) : run tt (AbsCalls Try.prog) I51 3000 true (stkAt 4 I51.body) ⟨(S51_4 x1 x2 x9 x10 b3 b6 b8), [false, true, true, true], [spec_IsValidWorld_ro r1, spec_l14Copy_ro r2], []⟩ = some (.done (spec_SetFile_ro (r2, false)) [(decide ((x10 : Int) < (List.length (Wld.files b3) : Int))) = false, (!x9) = true, List.length (Wld.files b8) + List.length [(Fil.mk x1 x2)] ≤ Lim, AbsCalls Try.prog 46 (spec_IsValidWorld_as b3) (spec_IsValidWorld_ro r1), (!r1) = true, true = true, AbsCalls Try.prog 71 (spec_l14Copy_as b3) (spec_l14Copy_ro r2)]) := by kernel_rfl
theorem p51_4_7 (x1 : Str) (x2 : Int) (x9 : Bool) (x10 : Int) (b3 : Wld) (b6 : Wld) (b8 : Wld) (r1 : Bool) (r2 : Bool) (r3 : Wld) : run tt (AbsCalls Try.prog) I51 3000 true (stkAt 4 I51.body) ⟨(S51_4 x1 x2 x9 x10 b3 b6 b8), [false, true, false, true], [spec_IsValidWorld_ro r1, spec_IsValidWorld_ro r2, spec_l14Copy_ro r3], []⟩ = some (.done (spec_SetFile_ro (r3, false)) [(decide ((x10 : Int) < (List.length (Wld.files b3) : Int))) = false, (!x9) = true, List.length (Wld.files b8) + List.length [(Fil.mk x1 x2)] ≤ Lim, AbsCalls Try.prog 46 (spec_IsValidWorld_as b3) (spec_IsValidWorld_ro r1), (!r1) = false, AbsCalls Try.prog 46 (spec_IsValidWorld_as (Wld.mk (Wld.clock b8) (Wld.seed b8) ((Wld.files b8) ++ [(Fil.mk x1 x2)]))) (spec_IsValidWorld_ro r2), (!r2) = true, AbsCalls Try.prog 71 (spec_l14Copy_as b3) (spec_l14Copy_ro r3)]) := by kernel_rfl
theorem p51_4_8 (x1 : Str) (x2 : Int) (x9 : Bool) (x10 : Int) (b3 : Wld) (b6 : Wld) (b8 : Wld) (r1 : Bool) (r2 : Bool) : run tt (AbsCalls Try.prog) I51 3000 true (stkAt 4 I51.body) ⟨(S51_4 x1 x2 x9 x10 b3 b6 b8), [false, true, false, false], [spec_IsValidWorld_ro r1, spec_IsValidWorld_ro r2], []⟩ = some (.done (spec_SetFile_ro ((Wld.mk (Wld.clock b8) (Wld.seed b8) ((Wld.files b8) ++ [(Fil.mk x1 x2)])), true)) [(decide ((x10 : Int) < (List.length (Wld.files b3) : Int))) = false, (!x9) = true, List.length (Wld.files b8) + List.length [(Fil.mk x1 x2)] ≤ Lim, AbsCalls Try.prog 46 (spec_IsValidWorld_as b3) (spec_IsValidWorld_ro r1), (!r1) = false, AbsCalls Try.prog 46 (spec_IsValidWorld_as (Wld.mk (Wld.clock b8) (Wld.seed b8) ((Wld.files b8) ++ [(Fil.mk x1 x2)]))) (spec_IsValidWorld_ro r2), (!r2) = false]) := by kernel_rfl
theorem p51_4_9 (x1 : Str) (x2 : Int) (x9 : Bool) (x10 : Int) (b3 : Wld) (b6 : Wld) (b8 : Wld) (r1 : Bool) (r2 : Wld) : run tt (AbsCalls Try.prog) I51 3000 true (stkAt 4 I51.body) ⟨(S51_4 x1 x2 x9 x10 b3 b6 b8), [false, false, true, true], [spec_IsValidWorld_ro r1, spec_l14Copy_ro r2], []⟩ = some (.done (spec_SetFile_ro (r2, false)) [(decide ((x10 : Int) < (List.length (Wld.files b3) : Int))) = false, (!x9) = false, AbsCalls Try.prog 46 (spec_IsValidWorld_as b3) (spec_IsValidWorld_ro r1), (!r1) = true, true = true, AbsCalls Try.prog 71 (spec_l14Copy_as b3) (spec_l14Copy_ro r2)]) := by kernel_rfl
theorem p51_4_10 (x1 : Str) (x2 : Int) (x9 : Bool) (x10 : Int) (b3 : Wld) (b6 : Wld) (b8 : Wld) (r1 : Bool) (r2 : Bool) (r3 : Wld) : run tt (AbsCalls Try.prog) I51 3000 true (stkAt 4 I51.body) ⟨(S51_4 x1 x2 x9 x10 b3 b6 b8), [false, false, false, true], [spec_IsValidWorld_ro r1, spec_IsValidWorld_ro r2, spec_l14Copy_ro r3], []⟩ = some (.done (spec_SetFile_ro (r3, false)) [(decide ((x10 : Int) < (List.length (Wld.files b3) : Int))) = false, (!x9) = false, AbsCalls Try.prog 46 (spec_IsValidWorld_as b3) (spec_IsValidWorld_ro r1), (!r1) = false, AbsCalls Try.prog 46 (spec_IsValidWorld_as b8) (spec_IsValidWorld_ro r2), (!r2) = true, AbsCalls Try.prog 71 (spec_l14Copy_as b3) (spec_l14Copy_ro r3)]) := by kernel_rfl
theorem p51_4_11 (x1 : Str) (x2 : Int) (x9 : Bool) (x10 : Int) (b3 : Wld) (b6 : Wld) (b8 : Wld) (r1 : Bool) (r2 : Bool) : run tt (AbsCalls Try.prog) I51 3000 true (stkAt 4 I51.body) ⟨(S51_4 x1 x2 x9 x10 b3 b6 b8), [false, false, false, false], [spec_IsValidWorld_ro r1, spec_IsValidWorld_ro r2], []⟩ = some (.done (spec_SetFile_ro (b8, true)) [(decide ((x10 : Int) < (List.length (Wld.files b3) : Int))) = false, (!x9) = false, AbsCalls Try.prog 46 (spec_IsValidWorld_as b3) (spec_IsValidWorld_ro r1), (!r1) = false, AbsCalls Try.prog 46 (spec_IsValidWorld_as b8) (spec_IsValidWorld_ro r2), (!r2) = false]) := by kernel_rfl
theorem p51_e_12 (a0 : Wld) (a1 : Str) (a2 : Int) : run tt (AbsCalls Try.prog) I51 3000 false [.code I51.body] ⟨(entry 0 (spec_SetFile_as a0 a1 a2)), [], [], []⟩ = some (.stop (stkAt 4 I51.body) (S51_4 a1 a2 false 0 a0 (Wld.mk 0 0 []) (Wld.mk (Wld.clock a0) (Wld.seed a0) [])) []) := by kernel_rfl
theorem c51_4 {N : Nat} : ∀ n x1 x2 x9 x10 b3 b6 b8 r, spec_SetFile_b4 N n x1 x2 x9 x10 b3 b6 b8 = some r → Reach Try.prog Try.f51 I51 (stkAt 4 I51.body) (S51_4 x1 x2 x9 x10 b3 b6 b8) (spec_SetFile_ro r) := by
  intro n
  induction n with
  | zero => intro x1 x2 x9 x10 b3 b6 b8 r h; have h' : (none : Option (Wld × Bool)) = some r := h; cases h'
  | succ n ih =>
    intro x1 x2 x9 x10 b3 b6 b8 r h
    rw [spec_SetFile_b4] at h
    rcases cond_inv h with ⟨h0, h⟩ | ⟨h0, h⟩
    · obtain ⟨h1, h⟩ := ite_inv h
      rcases cond_inv h with ⟨h2, h⟩ | ⟨h2, h⟩
      · rcases cond_inv h with ⟨h3, h⟩ | ⟨h3, h⟩
        · obtain ⟨h4, h⟩ := ite_inv h
          rcases cond_inv h with ⟨h5, h⟩ | ⟨h5, h⟩
          · obtain ⟨h6, h⟩ := ite_inv h
            exact Reach.stop ttok mix fk51 (p51_4_0 x1 x2 x9 x10 b3 b6 b8) (obs_cons h0 (obs_cons h1 (obs_cons h2 (obs_cons h3 (obs_cons h4 (obs_cons h5 (obs_cons h6 obs_nil))))))) (ih _ _ _ _ _ _ _ _ h)
          · exact Reach.stop ttok mix fk51 (p51_4_1 x1 x2 x9 x10 b3 b6 b8) (obs_cons h0 (obs_cons h1 (obs_cons h2 (obs_cons h3 (obs_cons h4 (obs_cons h5 obs_nil)))))) (ih _ _ _ _ _ _ _ _ h)
        · rcases cond_inv h with ⟨h4, h⟩ | ⟨h4, h⟩
          · obtain ⟨h5, h⟩ := ite_inv h
            exact Reach.stop ttok mix fk51 (p51_4_2 x1 x2 x9 x10 b3 b6 b8) (obs_cons h0 (obs_cons h1 (obs_cons h2 (obs_cons h3 (obs_cons h4 (obs_cons h5 obs_nil)))))) (ih _ _ _ _ _ _ _ _ h)
          · exact Reach.stop ttok mix fk51 (p51_4_3 x1 x2 x9 x10 b3 b6 b8) (obs_cons h0 (obs_cons h1 (obs_cons h2 (obs_cons h3 (obs_cons h4 obs_nil))))) (ih _ _ _ _ _ _ _ _ h)
      · rcases cond_inv h with ⟨h4, h⟩ | ⟨h4, h⟩
        · obtain ⟨h5, h⟩ := ite_inv h
          exact Reach.stop ttok mix fk51 (p51_4_4 x1 x2 x9 x10 b3 b6 b8) (obs_cons h0 (obs_cons h1 (obs_cons h2 (obs_cons rfl (obs_cons h4 (obs_cons h5 obs_nil)))))) (ih _ _ _ _ _ _ _ _ h)
        · exact Reach.stop ttok mix fk51 (p51_4_5 x1 x2 x9 x10 b3 b6 b8) (obs_cons h0 (obs_cons h1 (obs_cons h2 (obs_cons rfl (obs_cons h4 obs_nil))))) (ih _ _ _ _ _ _ _ _ h)
    · rcases cond_inv h with ⟨h1, h⟩ | ⟨h1, h⟩
      · obtain ⟨h2, h⟩ := ite_inv h
        obtain ⟨r1, h3, h⟩ := bind_inv h
        rcases cond_inv h with ⟨h4, h⟩ | ⟨h4, h⟩
        · obtain ⟨r2, h6, h⟩ := bind_inv h
          obtain rfl := Option.some.inj h
          exact Reach.done ttok mix fk51 (p51_4_6 x1 x2 x9 x10 b3 b6 b8 r1 r2) (obs_cons h0 (obs_cons h1 (obs_cons h2 (obs_cons (spec_IsValidWorld_ok h3) (obs_cons h4 (obs_cons rfl (obs_cons (spec_l14Copy_ok h6) obs_nil)))))))
        · obtain ⟨r2, h5, h⟩ := bind_inv h
          rcases cond_inv h with ⟨h6, h⟩ | ⟨h6, h⟩
          · obtain ⟨r3, h7, h⟩ := bind_inv h
            obtain rfl := Option.some.inj h
            exact Reach.done ttok mix fk51 (p51_4_7 x1 x2 x9 x10 b3 b6 b8 r1 r2 r3) (obs_cons h0 (obs_cons h1 (obs_cons h2 (obs_cons (spec_IsValidWorld_ok h3) (obs_cons h4 (obs_cons (spec_IsValidWorld_ok h5) (obs_cons h6 (obs_cons (spec_l14Copy_ok h7) obs_nil))))))))
          · obtain rfl := Option.some.inj h
            exact Reach.done ttok mix fk51 (p51_4_8 x1 x2 x9 x10 b3 b6 b8 r1 r2) (obs_cons h0 (obs_cons h1 (obs_cons h2 (obs_cons (spec_IsValidWorld_ok h3) (obs_cons h4 (obs_cons (spec_IsValidWorld_ok h5) (obs_cons h6 obs_nil)))))))
      · obtain ⟨r1, h2, h⟩ := bind_inv h
        rcases cond_inv h with ⟨h3, h⟩ | ⟨h3, h⟩
        · obtain ⟨r2, h5, h⟩ := bind_inv h
          obtain rfl := Option.some.inj h
          exact Reach.done ttok mix fk51 (p51_4_9 x1 x2 x9 x10 b3 b6 b8 r1 r2) (obs_cons h0 (obs_cons h1 (obs_cons (spec_IsValidWorld_ok h2) (obs_cons h3 (obs_cons rfl (obs_cons (spec_l14Copy_ok h5) obs_nil))))))
        · obtain ⟨r2, h4, h⟩ := bind_inv h
          rcases cond_inv h with ⟨h5, h⟩ | ⟨h5, h⟩
          · obtain ⟨r3, h6, h⟩ := bind_inv h
            obtain rfl := Option.some.inj h
            exact Reach.done ttok mix fk51 (p51_4_10 x1 x2 x9 x10 b3 b6 b8 r1 r2 r3) (obs_cons h0 (obs_cons h1 (obs_cons (spec_IsValidWorld_ok h2) (obs_cons h3 (obs_cons (spec_IsValidWorld_ok h4) (obs_cons h5 (obs_cons (spec_l14Copy_ok h6) obs_nil)))))))
          · obtain rfl := Option.some.inj h
            exact Reach.done ttok mix fk51 (p51_4_11 x1 x2 x9 x10 b3 b6 b8 r1 r2) (obs_cons h0 (obs_cons h1 (obs_cons (spec_IsValidWorld_ok h2) (obs_cons h3 (obs_cons (spec_IsValidWorld_ok h4) (obs_cons h5 obs_nil))))))
theorem c51_e {N : Nat} : ∀ a0 a1 a2 r, spec_SetFile N a0 a1 a2 = some r → Reach Try.prog Try.f51 I51 [.code I51.body] (entry 0 (spec_SetFile_as a0 a1 a2)) (spec_SetFile_ro r) := by
  intro a0 a1 a2 r h
  unfold spec_SetFile at h
  exact Reach.stop ttok mix fk51 (p51_e_12 a0 a1 a2) obs_nil (c51_4   _ _ _ _ _ _ _ _ _ h)
theorem spec_SetFile_ok {N : Nat} {a0 : Wld} {a1 : Str} {a2 : Int} {r : Wld × Bool} (h : spec_SetFile N  a0 a1 a2 = some r) : AbsCalls Try.prog 51 (spec_SetFile_as a0 a1 a2) (spec_SetFile_ro r) :=
 AbsCalls.of_reach fk51 rfl rfl (Nat.le_of_ble_eq_true rfl) (c51_e a0 a1 a2 r h)
noncomputable def I50 : Info := { body := (Try.f50.body).getD .skip, nt := 78, results := [.cell 6 33, .tmp 7], keep := [0, 2, 4, 6, 12, 14, 16, 18, 24, 62, 96, 148, 7, 13, 17], live := [(5, [2, 4, 6, 12, 16, 18, 7, 13, 17])], modes := [(5, [(5, .take, false)]), (7, [(5, .take, false)]), (8, [(1, .ref, false)]), (12, [(0, .take, false)])], ext := [], lnt := [], casts := [], fcast := [] }
theorem fk50 : FnOk Try.prog 50 Try.f50 I50 := ⟨Try.func50, by kernel_rfl, by kernel_rfl, by kernel_rfl, by kernel_rfl⟩
def S50_5 (x1 : Str) (x2 : Int) (x9 : Int) (b3 : Wld) (b6 : Wld) (b8 : Wld) : St := [(2, .v false [.str x1]), (4, .v false [.int .i64 x2]), (6, .v false [.ptr 3 0]), (12, .v false [.ptr 6 0]), (16, .v false [.ptr 8 0]), (18, .v false [.int .i64 x9]), (7, .v true [.int .i64 (Wld.clock b3), .int .i64 (Wld.seed b3), .sl .ro .fil (Wld.files b3)]), (13, .v true [.int .i64 (Wld.clock b6), .int .i64 (Wld.seed b6), .sl .own .fil (Wld.files b6)]), (17, .v true [.int .i64 (Wld.clock b8), .int .i64 (Wld.seed b8), .sl .own .fil (Wld.files b8)])]
theorem p50_5_0 (x1 : Str) (x2 : Int) (x9 : Int) (b3 : Wld) (b6 : Wld) (b8 : Wld) : run tt (AbsCalls Try.prog) I50 3000 true (stkAt 5 I50.body) ⟨(S50_5 x1 x2 x9 b3 b6 b8), [true, true], [], []⟩ = some (.stop (stkAt 5 I50.body) (S50_5 x1 x2 (IntKind.i64.wrap (x9 + 1)) b3 b6 b8) [(decide ((x9 : Int) < (List.length (Wld.files b3) : Int))) = true, (0 : Int) ≤ x9 ∧ x9 < (List.length (Wld.files b3)), (Op.bytesLess (Fil.name (List.getD (Wld.files b3) (Int.toNat x9) Ty.fil.dflt)) x1) = true]) := by kernel_rfl
theorem p50_5_1 (x1 : Str) (x2 : Int) (x9 : Int) (b3 : Wld) (b6 : Wld) (b8 : Wld) (r1 : Bool) (r2 : Wld) : run tt (AbsCalls Try.prog) I50 3000 true (stkAt 5 I50.body) ⟨(S50_5 x1 x2 x9 b3 b6 b8), [true, false, true, true, true], [impl_IsValidWorld_ro r1, impl_copyWorld_ro r2], []⟩ = some (.done (impl_SetFile_ro (r2, false)) [(decide ((x9 : Int) < (List.length (Wld.files b3) : Int))) = true, (0 : Int) ≤ x9 ∧ x9 < (List.length (Wld.files b3)), (Op.bytesLess (Fil.name (List.getD (Wld.files b3) (Int.toNat x9) Ty.fil.dflt)) x1) = false, (decide ((x9 : Int) < (List.length (Wld.files b3) : Int))) = true, (0 : Int) ≤ x9 ∧ x9 < (List.length (Wld.files b3)), (((Fil.name (List.getD (Wld.files b3) (Int.toNat x9) Ty.fil.dflt)) : Str) == x1) = true, (0 : Int) ≤ x9 ∧ x9 < (List.length (Wld.files b8)), AbsCalls Try.prog 47 (impl_IsValidWorld_as (Wld.mk (Wld.clock b8) (Wld.seed b8) (List.set (Wld.files b8) (Int.toNat x9) (Fil.mk (Fil.name (List.getD (Wld.files b8) (Int.toNat x9) Ty.fil.dflt)) x2)))) (impl_IsValidWorld_ro r1), (!r1) = true, AbsCalls Try.prog 72 (impl_copyWorld_as b3) (impl_copyWorld_ro r2)]) := by kernel_rfl
theorem p50_5_2 (x1 : Str) (x2 : Int) (x9 : Int) (b3 : Wld) (b6 : Wld) (b8 : Wld) (r1 : Bool) : run tt (AbsCalls Try.prog) I50 3000 true (stkAt 5 I50.body) ⟨(S50_5 x1 x2 x9 b3 b6 b8), [true, false, true, true, false], [impl_IsValidWorld_ro r1], []⟩ = some (.done (impl_SetFile_ro ((Wld.mk (Wld.clock b8) (Wld.seed b8) (List.set (Wld.files b8) (Int.toNat x9) (Fil.mk (Fil.name (List.getD (Wld.files b8) (Int.toNat x9) Ty.fil.dflt)) x2))), true)) [(decide ((x9 : Int) < (List.length (Wld.files b3) : Int))) = true, (0 : Int) ≤ x9 ∧ x9 < (List.length (Wld.files b3)), (Op.bytesLess (Fil.name (List.getD (Wld.files b3) (Int.toNat x9) Ty.fil.dflt)) x1) = false, (decide ((x9 : Int) < (List.length (Wld.files b3) : Int))) = true, (0 : Int) ≤ x9 ∧ x9 < (List.length (Wld.files b3)), (((Fil.name (List.getD (Wld.files b3) (Int.toNat x9) Ty.fil.dflt)) : Str) == x1) = true, (0 : Int) ≤ x9 ∧ x9 < (List.length (Wld.files b8)), AbsCalls Try.prog 47 (impl_IsValidWorld_as (Wld.mk (Wld.clock b8) (Wld.seed b8) (List.set (Wld.files b8) (Int.toNat x9) (Fil.mk (Fil.name (List.getD (Wld.files b8) (Int.toNat x9) Ty.fil.dflt)) x2)))) (impl_IsValidWorld_ro r1), (!r1) = false]) := by kernel_rfl
theorem p50_5_3 (x1 : Str) (x2 : Int) (x9 : Int) (b3 : Wld) (b6 : Wld) (b8 : Wld) (r1 : Bool) (r2 : Wld) : run tt (AbsCalls Try.prog) I50 3000 true (stkAt 5 I50.body) ⟨(S50_5 x1 x2 x9 b3 b6 b8), [true, false, true, false, true], [impl_IsValidWorld_ro r1, impl_copyWorld_ro r2], []⟩ = some (.done (impl_SetFile_ro (r2, false)) [(decide ((x9 : Int) < (List.length (Wld.files b3) : Int))) = true, (0 : Int) ≤ x9 ∧ x9 < (List.length (Wld.files b3)), (Op.bytesLess (Fil.name (List.getD (Wld.files b3) (Int.toNat x9) Ty.fil.dflt)) x1) = false, (decide ((x9 : Int) < (List.length (Wld.files b3) : Int))) = true, (0 : Int) ≤ x9 ∧ x9 < (List.length (Wld.files b3)), (((Fil.name (List.getD (Wld.files b3) (Int.toNat x9) Ty.fil.dflt)) : Str) == x1) = false, (0 : Int) ≤ x9 ∧ x9 ≤ (List.length (Wld.files b3)), 0 + List.length (List.take (Int.toNat x9) (Wld.files b3)) ≤ Lim, List.length ([] ++ (List.take (Int.toNat x9) (Wld.files b3))) + List.length [(Fil.mk x1 x2)] ≤ Lim, (0 : Int) ≤ x9 ∧ x9 ≤ (List.length (Wld.files b3)), List.length (([] ++ (List.take (Int.toNat x9) (Wld.files b3))) ++ [(Fil.mk x1 x2)]) + List.length (List.drop (Int.toNat x9) (Wld.files b3)) ≤ Lim, AbsCalls Try.prog 47 (impl_IsValidWorld_as (Wld.mk (Wld.clock b8) (Wld.seed b8) ((([] ++ (List.take (Int.toNat x9) (Wld.files b3))) ++ [(Fil.mk x1 x2)]) ++ (List.drop (Int.toNat x9) (Wld.files b3))))) (impl_IsValidWorld_ro r1), (!r1) = true, AbsCalls Try.prog 72 (impl_copyWorld_as b3) (impl_copyWorld_ro r2)]) := by kernel_rfl
theorem p50_5_4 (x1 : Str) (x2 : Int) (x9 : Int) (b3 : Wld) (b6 : Wld) (b8 : Wld) (r1 : Bool) : run tt (AbsCalls Try.prog) I50 3000 true (stkAt 5 I50.body) ⟨(S50_5 x1 x2 x9 b3 b6 b8), [true, false, true, false, false], [impl_IsValidWorld_ro r1], []⟩ = some (.done (impl_SetFile_ro ((Wld.mk (Wld.clock b8) (Wld.seed b8) ((([] ++ (List.take (Int.toNat x9) (Wld.files b3))) ++ [(Fil.mk x1 x2)]) ++ (List.drop (Int.toNat x9) (Wld.files b3)))), true)) [(decide ((x9 : Int) < (List.length (Wld.files b3) : Int))) = true, (0 : Int) ≤ x9 ∧ x9 < (List.length (Wld.files b3)), (Op.bytesLess (Fil.name (List.getD (Wld.files b3) (Int.toNat x9) Ty.fil.dflt)) x1) = false, (decide ((x9 : Int) < (List.length (Wld.files b3) : Int))) = true, (0 : Int) ≤ x9 ∧ x9 < (List.length (Wld.files b3)), (((Fil.name (List.getD (Wld.files b3) (Int.toNat x9) Ty.fil.dflt)) : Str) == x1) = false, (0 : Int) ≤ x9 ∧ x9 ≤ (List.length (Wld.files b3)), 0 + List.length (List.take (Int.toNat x9) (Wld.files b3)) ≤ Lim, List.length ([] ++ (List.take (Int.toNat x9) (Wld.files b3))) + List.length [(Fil.mk x1 x2)] ≤ Lim, (0 : Int) ≤ x9 ∧ x9 ≤ (List.length (Wld.files b3)), List.length (([] ++ (List.take (Int.toNat x9) (Wld.files b3))) ++ [(Fil.mk x1 x2)]) + List.length (List.drop (Int.toNat x9) (Wld.files b3)) ≤ Lim, AbsCalls Try.prog 47 (impl_IsValidWorld_as (Wld.mk (Wld.clock b8) (Wld.seed b8) ((([] ++ (List.take (Int.toNat x9) (Wld.files b3))) ++ [(Fil.mk x1 x2)]) ++ (List.drop (Int.toNat x9) (Wld.files b3))))) (impl_IsValidWorld_ro r1), (!r1) = false]) := by kernel_rfl
theorem p50_5_5 (x1 : Str) (x2 : Int) (x9 : Int) (b3 : Wld) (b6 : Wld) (b8 : Wld) (r1 : Bool) (r2 : Wld) : run tt (AbsCalls Try.prog) I50 3000 true (stkAt 5 I50.body) ⟨(S50_5 x1 x2 x9 b3 b6 b8), [false, false, false, false, true], [impl_IsValidWorld_ro r1, impl_copyWorld_ro r2], []⟩ = some (.done (impl_SetFile_ro (r2, false)) [(decide ((x9 : Int) < (List.length (Wld.files b3) : Int))) = false, false = false, (decide ((x9 : Int) < (List.length (Wld.files b3) : Int))) = false, false = false, (0 : Int) ≤ x9 ∧ x9 ≤ (List.length (Wld.files b3)), 0 + List.length (List.take (Int.toNat x9) (Wld.files b3)) ≤ Lim, List.length ([] ++ (List.take (Int.toNat x9) (Wld.files b3))) + List.length [(Fil.mk x1 x2)] ≤ Lim, (0 : Int) ≤ x9 ∧ x9 ≤ (List.length (Wld.files b3)), List.length (([] ++ (List.take (Int.toNat x9) (Wld.files b3))) ++ [(Fil.mk x1 x2)]) + List.length (List.drop (Int.toNat x9) (Wld.files b3)) ≤ Lim, AbsCalls Try.prog 47 (impl_IsValidWorld_as (Wld.mk (Wld.clock b8) (Wld.seed b8) ((([] ++ (List.take (Int.toNat x9) (Wld.files b3))) ++ [(Fil.mk x1 x2)]) ++ (List.drop (Int.toNat x9) (Wld.files b3))))) (impl_IsValidWorld_ro r1), (!r1) = true, AbsCalls Try.prog 72 (impl_copyWorld_as b3) (impl_copyWorld_ro r2)]) := by kernel_rfl
theorem p50_5_6 (x1 : Str) (x2 : Int) (x9 : Int) (b3 : Wld) (b6 : Wld) (b8 : Wld) (r1 : Bool) : run tt (AbsCalls Try.prog) I50 3000 true (stkAt 5 I50.body) ⟨(S50_5 x1 x2 x9 b3 b6 b8), [false, false, false, false, false], [impl_IsValidWorld_ro r1], []⟩ = some (.done (impl_SetFile_ro ((Wld.mk (Wld.clock b8) (Wld.seed b8) ((([] ++ (List.take (Int.toNat x9) (Wld.files b3))) ++ [(Fil.mk x1 x2)]) ++ (List.drop (Int.toNat x9) (Wld.files b3)))), true)) [(decide ((x9 : Int) < (List.length (Wld.files b3) : Int))) = false, false = false, (decide ((x9 : Int) < (List.length (Wld.files b3) : Int))) = false, false = false, (0 : Int) ≤ x9 ∧ x9 ≤ (List.length (Wld.files b3)), 0 + List.length (List.take (Int.toNat x9) (Wld.files b3)) ≤ Lim, List.length ([] ++ (List.take (Int.toNat x9) (Wld.files b3))) + List.length [(Fil.mk x1 x2)] ≤ Lim, (0 : Int) ≤ x9 ∧ x9 ≤ (List.length (Wld.files b3)), List.length (([] ++ (List.take (Int.toNat x9) (Wld.files b3))) ++ [(Fil.mk x1 x2)]) + List.length (List.drop (Int.toNat x9) (Wld.files b3)) ≤ Lim, AbsCalls Try.prog 47 (impl_IsValidWorld_as (Wld.mk (Wld.clock b8) (Wld.seed b8) ((([] ++ (List.take (Int.toNat x9) (Wld.files b3))) ++ [(Fil.mk x1 x2)]) ++ (List.drop (Int.toNat x9) (Wld.files b3))))) (impl_IsValidWorld_ro r1), (!r1) = false]) := by kernel_rfl
theorem p50_e_7 (a0 : Wld) (a1 : Str) (a2 : Int) (r1 : Bool) (r2 : Wld) : run tt (AbsCalls Try.prog) I50 3000 false [.code I50.body] ⟨(entry 0 (impl_SetFile_as a0 a1 a2)), [true], [impl_IsValidWorld_ro r1, impl_copyWorld_ro r2], []⟩ = some (.done (impl_SetFile_ro (r2, false)) [AbsCalls Try.prog 47 (impl_IsValidWorld_as a0) (impl_IsValidWorld_ro r1), (!r1) = true, AbsCalls Try.prog 72 (impl_copyWorld_as a0) (impl_copyWorld_ro r2)]) := by kernel_rfl
theorem p50_e_8 (a0 : Wld) (a1 : Str) (a2 : Int) (r1 : Bool) (r2 : Wld) : run tt (AbsCalls Try.prog) I50 3000 false [.code I50.body] ⟨(entry 0 (impl_SetFile_as a0 a1 a2)), [false], [impl_IsValidWorld_ro r1, impl_copyWorld_ro r2], []⟩ = some (.stop (stkAt 5 I50.body) (S50_5 a1 a2 0 a0 (Wld.mk 0 0 []) r2) [AbsCalls Try.prog 47 (impl_IsValidWorld_as a0) (impl_IsValidWorld_ro r1), (!r1) = false, AbsCalls Try.prog 72 (impl_copyWorld_as a0) (impl_copyWorld_ro r2)]) := by kernel_rfl
theorem c50_5 {N : Nat} : ∀ n x1 x2 x9 b3 b6 b8 r, impl_SetFile_b5 N n x1 x2 x9 b3 b6 b8 = some r → Reach Try.prog Try.f50 I50 (stkAt 5 I50.body) (S50_5 x1 x2 x9 b3 b6 b8) (impl_SetFile_ro r) := by
  intro n
  induction n with
  | zero => intro x1 x2 x9 b3 b6 b8 r h; have h' : (none : Option (Wld × Bool)) = some r := h; cases h'
  | succ n ih =>
    intro x1 x2 x9 b3 b6 b8 r h
    rw [impl_SetFile_b5] at h
    rcases cond_inv h with ⟨h0, h⟩ | ⟨h0, h⟩
    · obtain ⟨h1, h⟩ := ite_inv h
      rcases cond_inv h with ⟨h2, h⟩ | ⟨h2, h⟩
      · exact Reach.stop ttok mix fk50 (p50_5_0 x1 x2 x9 b3 b6 b8) (obs_cons h0 (obs_cons h1 (obs_cons h2 obs_nil))) (ih _ _ _ _ _ _ _ h)
      · rcases cond_inv h with ⟨h5, h⟩ | ⟨h5, h⟩
        · obtain ⟨h6, h⟩ := ite_inv h
          obtain ⟨r1, h7, h⟩ := bind_inv h
          rcases cond_inv h with ⟨h8, h⟩ | ⟨h8, h⟩
          · obtain ⟨r2, h9, h⟩ := bind_inv h
            obtain rfl := Option.some.inj h
            exact Reach.done ttok mix fk50 (p50_5_1 x1 x2 x9 b3 b6 b8 r1 r2) (obs_cons h0 (obs_cons h1 (obs_cons h2 (obs_cons h0 (obs_cons h1 (obs_cons h5 (obs_cons h6 (obs_cons (impl_IsValidWorld_ok h7) (obs_cons h8 (obs_cons (impl_copyWorld_ok h9) obs_nil))))))))))
          · obtain rfl := Option.some.inj h
            exact Reach.done ttok mix fk50 (p50_5_2 x1 x2 x9 b3 b6 b8 r1) (obs_cons h0 (obs_cons h1 (obs_cons h2 (obs_cons h0 (obs_cons h1 (obs_cons h5 (obs_cons h6 (obs_cons (impl_IsValidWorld_ok h7) (obs_cons h8 obs_nil)))))))))
        · obtain ⟨h6, h⟩ := ite_inv h
          obtain ⟨h7, h⟩ := ite_inv h
          obtain ⟨h8, h⟩ := ite_inv h
          obtain ⟨h10, h⟩ := ite_inv h
          obtain ⟨r1, h11, h⟩ := bind_inv h
          rcases cond_inv h with ⟨h12, h⟩ | ⟨h12, h⟩
          · obtain ⟨r2, h13, h⟩ := bind_inv h
            obtain rfl := Option.some.inj h
            exact Reach.done ttok mix fk50 (p50_5_3 x1 x2 x9 b3 b6 b8 r1 r2) (obs_cons h0 (obs_cons h1 (obs_cons h2 (obs_cons h0 (obs_cons h1 (obs_cons h5 (obs_cons h6 (obs_cons h7 (obs_cons h8 (obs_cons h6 (obs_cons h10 (obs_cons (impl_IsValidWorld_ok h11) (obs_cons h12 (obs_cons (impl_copyWorld_ok h13) obs_nil))))))))))))))
          · obtain rfl := Option.some.inj h
            exact Reach.done ttok mix fk50 (p50_5_4 x1 x2 x9 b3 b6 b8 r1) (obs_cons h0 (obs_cons h1 (obs_cons h2 (obs_cons h0 (obs_cons h1 (obs_cons h5 (obs_cons h6 (obs_cons h7 (obs_cons h8 (obs_cons h6 (obs_cons h10 (obs_cons (impl_IsValidWorld_ok h11) (obs_cons h12 obs_nil)))))))))))))
    · obtain ⟨h4, h⟩ := ite_inv h
      obtain ⟨h5, h⟩ := ite_inv h
      obtain ⟨h6, h⟩ := ite_inv h
      obtain ⟨h8, h⟩ := ite_inv h
      obtain ⟨r1, h9, h⟩ := bind_inv h
      rcases cond_inv h with ⟨h10, h⟩ | ⟨h10, h⟩
      · obtain ⟨r2, h11, h⟩ := bind_inv h
        obtain rfl := Option.some.inj h
        exact Reach.done ttok mix fk50 (p50_5_5 x1 x2 x9 b3 b6 b8 r1 r2) (obs_cons h0 (obs_cons rfl (obs_cons h0 (obs_cons rfl (obs_cons h4 (obs_cons h5 (obs_cons h6 (obs_cons h4 (obs_cons h8 (obs_cons (impl_IsValidWorld_ok h9) (obs_cons h10 (obs_cons (impl_copyWorld_ok h11) obs_nil))))))))))))
      · obtain rfl := Option.some.inj h
        exact Reach.done ttok mix fk50 (p50_5_6 x1 x2 x9 b3 b6 b8 r1) (obs_cons h0 (obs_cons rfl (obs_cons h0 (obs_cons rfl (obs_cons h4 (obs_cons h5 (obs_cons h6 (obs_cons h4 (obs_cons h8 (obs_cons (impl_IsValidWorld_ok h9) (obs_cons h10 obs_nil)))))))))))
theorem c50_e {N : Nat} : ∀ a0 a1 a2 r, impl_SetFile N a0 a1 a2 = some r → Reach Try.prog Try.f50 I50 [.code I50.body] (entry 0 (impl_SetFile_as a0 a1 a2)) (impl_SetFile_ro r) := by
  intro a0 a1 a2 r h
  unfold impl_SetFile at h
  obtain ⟨r1, h0, h⟩ := bind_inv h
  rcases cond_inv h with ⟨h1, h⟩ | ⟨h1, h⟩
  · obtain ⟨r2, h2, h⟩ := bind_inv h
    obtain rfl := Option.some.inj h
    exact Reach.done ttok mix fk50 (p50_e_7 a0 a1 a2 r1 r2) (obs_cons (impl_IsValidWorld_ok h0) (obs_cons h1 (obs_cons (impl_copyWorld_ok h2) obs_nil)))
  · obtain ⟨r2, h2, h⟩ := bind_inv h
    exact Reach.stop ttok mix fk50 (p50_e_8 a0 a1 a2 r1 r2) (obs_cons (impl_IsValidWorld_ok h0) (obs_cons h1 (obs_cons (impl_copyWorld_ok h2) obs_nil))) (c50_5   _ _ _ _ _ _ _ _ h)
theorem impl_SetFile_ok {N : Nat} {a0 : Wld} {a1 : Str} {a2 : Int} {r : Wld × Bool} (h : impl_SetFile N  a0 a1 a2 = some r) : AbsCalls Try.prog 50 (impl_SetFile_as a0 a1 a2) (impl_SetFile_ro r) :=
 AbsCalls.of_reach fk50 rfl rfl (Nat.le_of_ble_eq_true rfl) (c50_e a0 a1 a2 r h)
noncomputable def I14 : Info := { body := (Try.f14.body).getD .skip, nt := 109, results := [.tmp 6], keep := [0, 2, 4, 6, 12, 14, 16, 18, 20, 22, 24, 26, 28, 30, 32, 34, 40, 50, 102, 112, 144, 160, 166, 200, 210, 216, 7, 17, 21, 23, 33], live := [], modes := [(7, [(5, .take, false)]), (9, [(4, .take, false)]), (10, [(4, .take, false)]), (15, [(0, .ref, false), (2, .ref, false)]), (16, [(2, .take, false), (8, .take, false)]), (19, [(0, .ref, false), (2, .ref, false)]), (26, [(5, .take, false)]), (27, [(4, .take, false), (5, .take, false)])], ext := [], lnt := [], casts := [], fcast := [] }
theorem fk14 : FnOk Try.prog 14 Try.f14 I14 := ⟨Try.func14, by kernel_rfl, by kernel_rfl, by kernel_rfl, by kernel_rfl⟩
theorem p14_e_0 (a0 : Wld) (a1 : Str) (a2 : Int) : run tt (AbsCalls Try.prog) I14 3000 false [.code I14.body] ⟨(entry 0 (laws_FnExactSetFile_as a0 a1 a2)), [true], [], []⟩ = some (.done (laws_FnExactSetFile_ro true) [(decide (((List.length a1 : Int) : Int) > 1048576)) = true]) := by kernel_rfl
theorem p14_e_1 (a0 : Wld) (a1 : Str) (a2 : Int) (r1 : Int) : run tt (AbsCalls Try.prog) I14 3000 false [.code I14.body] ⟨(entry 0 (laws_FnExactSetFile_as a0 a1 a2)), [false, true], [laws_szWorld_ro r1], []⟩ = some (.done (laws_FnExactSetFile_ro true) [(decide (((List.length a1 : Int) : Int) > 1048576)) = false, AbsCalls Try.prog 19 (laws_szWorld_as a0 1048576) (laws_szWorld_ro r1), (decide ((r1 : Int) < 0)) = true]) := by kernel_rfl
theorem p14_e_2 (a0 : Wld) (a1 : Str) (a2 : Int) (r1 : Int) (r2 : Wld) (r3 : Wld × Bool) (r4 : Wld) (r5 : Wld × Bool) (r6 : Bool) : run tt (AbsCalls Try.prog) I14 3000 false [.code I14.body] ⟨(entry 0 (laws_FnExactSetFile_as a0 a1 a2)), [false, false, true, true], [laws_szWorld_ro r1, laws_toWorld_ro r2, spec_SetFile_ro r3, laws_toWorld_ro r4, impl_SetFile_ro r5, laws_eqWorld_ro r6], []⟩ = some (.done (laws_FnExactSetFile_ro false) [(decide (((List.length a1 : Int) : Int) > 1048576)) = false, AbsCalls Try.prog 19 (laws_szWorld_as a0 1048576) (laws_szWorld_ro r1), (decide ((r1 : Int) < 0)) = false, AbsCalls Try.prog 21 (laws_toWorld_as a0) (laws_toWorld_ro r2), AbsCalls Try.prog 51 (spec_SetFile_as r2 a1 a2) (spec_SetFile_ro r3), AbsCalls Try.prog 21 (laws_toWorld_as a0) (laws_toWorld_ro r4), AbsCalls Try.prog 50 (impl_SetFile_as r4 a1 a2) (impl_SetFile_ro r5), AbsCalls Try.prog 23 (laws_eqWorld_as r5.1 r3.1) (laws_eqWorld_ro r6), (!r6) = true, true = true]) := by kernel_rfl
theorem p14_e_3 (a0 : Wld) (a1 : Str) (a2 : Int) (r1 : Int) (r2 : Wld) (r3 : Wld × Bool) (r4 : Wld) (r5 : Wld × Bool) (r6 : Bool) : run tt (AbsCalls Try.prog) I14 3000 false [.code I14.body] ⟨(entry 0 (laws_FnExactSetFile_as a0 a1 a2)), [false, false, false, true], [laws_szWorld_ro r1, laws_toWorld_ro r2, spec_SetFile_ro r3, laws_toWorld_ro r4, impl_SetFile_ro r5, laws_eqWorld_ro r6], []⟩ = some (.done (laws_FnExactSetFile_ro false) [(decide (((List.length a1 : Int) : Int) > 1048576)) = false, AbsCalls Try.prog 19 (laws_szWorld_as a0 1048576) (laws_szWorld_ro r1), (decide ((r1 : Int) < 0)) = false, AbsCalls Try.prog 21 (laws_toWorld_as a0) (laws_toWorld_ro r2), AbsCalls Try.prog 51 (spec_SetFile_as r2 a1 a2) (spec_SetFile_ro r3), AbsCalls Try.prog 21 (laws_toWorld_as a0) (laws_toWorld_ro r4), AbsCalls Try.prog 50 (impl_SetFile_as r4 a1 a2) (impl_SetFile_ro r5), AbsCalls Try.prog 23 (laws_eqWorld_as r5.1 r3.1) (laws_eqWorld_ro r6), (!r6) = false, (!((r5.2 : Bool) == r3.2)) = true]) := by kernel_rfl
theorem p14_e_4 (a0 : Wld) (a1 : Str) (a2 : Int) (r1 : Int) (r2 : Wld) (r3 : Wld × Bool) (r4 : Wld) (r5 : Wld × Bool) (r6 : Bool) (r7 : Wld) (r8 : Bool) : run tt (AbsCalls Try.prog) I14 3000 false [.code I14.body] ⟨(entry 0 (laws_FnExactSetFile_as a0 a1 a2)), [false, false, false, false, true], [laws_szWorld_ro r1, laws_toWorld_ro r2, spec_SetFile_ro r3, laws_toWorld_ro r4, impl_SetFile_ro r5, laws_eqWorld_ro r6, laws_toWorld_ro r7, laws_eqWorld_ro r8], []⟩ = some (.done (laws_FnExactSetFile_ro false) [(decide (((List.length a1 : Int) : Int) > 1048576)) = false, AbsCalls Try.prog 19 (laws_szWorld_as a0 1048576) (laws_szWorld_ro r1), (decide ((r1 : Int) < 0)) = false, AbsCalls Try.prog 21 (laws_toWorld_as a0) (laws_toWorld_ro r2), AbsCalls Try.prog 51 (spec_SetFile_as r2 a1 a2) (spec_SetFile_ro r3), AbsCalls Try.prog 21 (laws_toWorld_as a0) (laws_toWorld_ro r4), AbsCalls Try.prog 50 (impl_SetFile_as r4 a1 a2) (impl_SetFile_ro r5), AbsCalls Try.prog 23 (laws_eqWorld_as r5.1 r3.1) (laws_eqWorld_ro r6), (!r6) = false, (!((r5.2 : Bool) == r3.2)) = false, AbsCalls Try.prog 21 (laws_toWorld_as a0) (laws_toWorld_ro r7), AbsCalls Try.prog 23 (laws_eqWorld_as r4 r7) (laws_eqWorld_ro r8), (!r8) = true]) := by kernel_rfl
theorem p14_e_5 (a0 : Wld) (a1 : Str) (a2 : Int) (r1 : Int) (r2 : Wld) (r3 : Wld × Bool) (r4 : Wld) (r5 : Wld × Bool) (r6 : Bool) (r7 : Wld) (r8 : Bool) (r9 : Int × (List Fil)) : run tt (AbsCalls Try.prog) I14 3000 false [.code I14.body] ⟨(entry 0 (laws_FnExactSetFile_as a0 a1 a2)), [false, false, false, false, false, true, true, true], [laws_szWorld_ro r1, laws_toWorld_ro r2, spec_SetFile_ro r3, laws_toWorld_ro r4, impl_SetFile_ro r5, laws_eqWorld_ro r6, laws_toWorld_ro r7, laws_eqWorld_ro r8, laws_markWorld_ro r9], []⟩ = some (.done (laws_FnExactSetFile_ro false) [(decide (((List.length a1 : Int) : Int) > 1048576)) = false, AbsCalls Try.prog 19 (laws_szWorld_as a0 1048576) (laws_szWorld_ro r1), (decide ((r1 : Int) < 0)) = false, AbsCalls Try.prog 21 (laws_toWorld_as a0) (laws_toWorld_ro r2), AbsCalls Try.prog 51 (spec_SetFile_as r2 a1 a2) (spec_SetFile_ro r3), AbsCalls Try.prog 21 (laws_toWorld_as a0) (laws_toWorld_ro r4), AbsCalls Try.prog 50 (impl_SetFile_as r4 a1 a2) (impl_SetFile_ro r5), AbsCalls Try.prog 23 (laws_eqWorld_as r5.1 r3.1) (laws_eqWorld_ro r6), (!r6) = false, (!((r5.2 : Bool) == r3.2)) = false, AbsCalls Try.prog 21 (laws_toWorld_as a0) (laws_toWorld_ro r7), AbsCalls Try.prog 23 (laws_eqWorld_as r4 r7) (laws_eqWorld_ro r8), (!r8) = false, AbsCalls Try.prog 44 (laws_markWorld_as r4 1) (laws_markWorld_ro r9), List.length r9.2 = List.length (Wld.files r4), (decide ((r9.1 : Int) < 0)) = true, true = true, true = true]) := by kernel_rfl
theorem p14_e_6 (a0 : Wld) (a1 : Str) (a2 : Int) (r1 : Int) (r2 : Wld) (r3 : Wld × Bool) (r4 : Wld) (r5 : Wld × Bool) (r6 : Bool) (r7 : Wld) (r8 : Bool) (r9 : Int × (List Fil)) (r10 : Bool) : run tt (AbsCalls Try.prog) I14 3000 false [.code I14.body] ⟨(entry 0 (laws_FnExactSetFile_as a0 a1 a2)), [false, false, false, false, false, false, true, true], [laws_szWorld_ro r1, laws_toWorld_ro r2, spec_SetFile_ro r3, laws_toWorld_ro r4, impl_SetFile_ro r5, laws_eqWorld_ro r6, laws_toWorld_ro r7, laws_eqWorld_ro r8, laws_markWorld_ro r9, laws_eqWorld_ro r10], []⟩ = some (.done (laws_FnExactSetFile_ro false) [(decide (((List.length a1 : Int) : Int) > 1048576)) = false, AbsCalls Try.prog 19 (laws_szWorld_as a0 1048576) (laws_szWorld_ro r1), (decide ((r1 : Int) < 0)) = false, AbsCalls Try.prog 21 (laws_toWorld_as a0) (laws_toWorld_ro r2), AbsCalls Try.prog 51 (spec_SetFile_as r2 a1 a2) (spec_SetFile_ro r3), AbsCalls Try.prog 21 (laws_toWorld_as a0) (laws_toWorld_ro r4), AbsCalls Try.prog 50 (impl_SetFile_as r4 a1 a2) (impl_SetFile_ro r5), AbsCalls Try.prog 23 (laws_eqWorld_as r5.1 r3.1) (laws_eqWorld_ro r6), (!r6) = false, (!((r5.2 : Bool) == r3.2)) = false, AbsCalls Try.prog 21 (laws_toWorld_as a0) (laws_toWorld_ro r7), AbsCalls Try.prog 23 (laws_eqWorld_as r4 r7) (laws_eqWorld_ro r8), (!r8) = false, AbsCalls Try.prog 44 (laws_markWorld_as r4 1) (laws_markWorld_ro r9), List.length r9.2 = List.length (Wld.files r4), (decide ((r9.1 : Int) < 0)) = false, AbsCalls Try.prog 23 (laws_eqWorld_as r5.1 r3.1) (laws_eqWorld_ro r10), (!r10) = true, true = true]) := by kernel_rfl
theorem p14_e_7 (a0 : Wld) (a1 : Str) (a2 : Int) (r1 : Int) (r2 : Wld) (r3 : Wld × Bool) (r4 : Wld) (r5 : Wld × Bool) (r6 : Bool) (r7 : Wld) (r8 : Bool) (r9 : Int × (List Fil)) (r10 : Bool) (r11 : Int × (List Fil)) (r12 : Int) : run tt (AbsCalls Try.prog) I14 3000 false [.code I14.body] ⟨(entry 0 (laws_FnExactSetFile_as a0 a1 a2)), [false, false, false, false, false, false, false, false, true], [laws_szWorld_ro r1, laws_toWorld_ro r2, spec_SetFile_ro r3, laws_toWorld_ro r4, impl_SetFile_ro r5, laws_eqWorld_ro r6, laws_toWorld_ro r7, laws_eqWorld_ro r8, laws_markWorld_ro r9, laws_eqWorld_ro r10, laws_markWorld_ro r11, laws_heldWorld_ro r12], []⟩ = some (.done (laws_FnExactSetFile_ro false) [(decide (((List.length a1 : Int) : Int) > 1048576)) = false, AbsCalls Try.prog 19 (laws_szWorld_as a0 1048576) (laws_szWorld_ro r1), (decide ((r1 : Int) < 0)) = false, AbsCalls Try.prog 21 (laws_toWorld_as a0) (laws_toWorld_ro r2), AbsCalls Try.prog 51 (spec_SetFile_as r2 a1 a2) (spec_SetFile_ro r3), AbsCalls Try.prog 21 (laws_toWorld_as a0) (laws_toWorld_ro r4), AbsCalls Try.prog 50 (impl_SetFile_as r4 a1 a2) (impl_SetFile_ro r5), AbsCalls Try.prog 23 (laws_eqWorld_as r5.1 r3.1) (laws_eqWorld_ro r6), (!r6) = false, (!((r5.2 : Bool) == r3.2)) = false, AbsCalls Try.prog 21 (laws_toWorld_as a0) (laws_toWorld_ro r7), AbsCalls Try.prog 23 (laws_eqWorld_as r4 r7) (laws_eqWorld_ro r8), (!r8) = false, AbsCalls Try.prog 44 (laws_markWorld_as r4 1) (laws_markWorld_ro r9), List.length r9.2 = List.length (Wld.files r4), (decide ((r9.1 : Int) < 0)) = false, AbsCalls Try.prog 23 (laws_eqWorld_as r5.1 r3.1) (laws_eqWorld_ro r10), (!r10) = false, (!((r5.2 : Bool) == r3.2)) = false, AbsCalls Try.prog 44 (laws_markWorld_as r5.1 1) (laws_markWorld_ro r11), List.length r11.2 = List.length (Wld.files r5.1), AbsCalls Try.prog 45 (laws_heldWorld_as (Wld.mk (Wld.clock r5.1) (Wld.seed r5.1) r11.2) 1) (laws_heldWorld_ro r12), (decide ((r12 : Int) < 0)) = true]) := by kernel_rfl
theorem p14_e_8 (a0 : Wld) (a1 : Str) (a2 : Int) (r1 : Int) (r2 : Wld) (r3 : Wld × Bool) (r4 : Wld) (r5 : Wld × Bool) (r6 : Bool) (r7 : Wld) (r8 : Bool) (r9 : Int × (List Fil)) (r10 : Bool) (r11 : Int × (List Fil)) (r12 : Int) : run tt (AbsCalls Try.prog) I14 3000 false [.code I14.body] ⟨(entry 0 (laws_FnExactSetFile_as a0 a1 a2)), [false, false, false, false, false, false, false, false, false, true], [laws_szWorld_ro r1, laws_toWorld_ro r2, spec_SetFile_ro r3, laws_toWorld_ro r4, impl_SetFile_ro r5, laws_eqWorld_ro r6, laws_toWorld_ro r7, laws_eqWorld_ro r8, laws_markWorld_ro r9, laws_eqWorld_ro r10, laws_markWorld_ro r11, laws_heldWorld_ro r12], []⟩ = some (.done (laws_FnExactSetFile_ro false) [(decide (((List.length a1 : Int) : Int) > 1048576)) = false, AbsCalls Try.prog 19 (laws_szWorld_as a0 1048576) (laws_szWorld_ro r1), (decide ((r1 : Int) < 0)) = false, AbsCalls Try.prog 21 (laws_toWorld_as a0) (laws_toWorld_ro r2), AbsCalls Try.prog 51 (spec_SetFile_as r2 a1 a2) (spec_SetFile_ro r3), AbsCalls Try.prog 21 (laws_toWorld_as a0) (laws_toWorld_ro r4), AbsCalls Try.prog 50 (impl_SetFile_as r4 a1 a2) (impl_SetFile_ro r5), AbsCalls Try.prog 23 (laws_eqWorld_as r5.1 r3.1) (laws_eqWorld_ro r6), (!r6) = false, (!((r5.2 : Bool) == r3.2)) = false, AbsCalls Try.prog 21 (laws_toWorld_as a0) (laws_toWorld_ro r7), AbsCalls Try.prog 23 (laws_eqWorld_as r4 r7) (laws_eqWorld_ro r8), (!r8) = false, AbsCalls Try.prog 44 (laws_markWorld_as r4 1) (laws_markWorld_ro r9), List.length r9.2 = List.length (Wld.files r4), (decide ((r9.1 : Int) < 0)) = false, AbsCalls Try.prog 23 (laws_eqWorld_as r5.1 r3.1) (laws_eqWorld_ro r10), (!r10) = false, (!((r5.2 : Bool) == r3.2)) = false, AbsCalls Try.prog 44 (laws_markWorld_as r5.1 1) (laws_markWorld_ro r11), List.length r11.2 = List.length (Wld.files r5.1), AbsCalls Try.prog 45 (laws_heldWorld_as (Wld.mk (Wld.clock r5.1) (Wld.seed r5.1) r11.2) 1) (laws_heldWorld_ro r12), (decide ((r12 : Int) < 0)) = false, ((r12 : Int) != r11.1) = true]) := by kernel_rfl
theorem p14_e_9 (a0 : Wld) (a1 : Str) (a2 : Int) (r1 : Int) (r2 : Wld) (r3 : Wld × Bool) (r4 : Wld) (r5 : Wld × Bool) (r6 : Bool) (r7 : Wld) (r8 : Bool) (r9 : Int × (List Fil)) (r10 : Bool) (r11 : Int × (List Fil)) (r12 : Int) (r13 : Wld) (r14 : Wld × Bool) (r15 : Bool) : run tt (AbsCalls Try.prog) I14 3000 false [.code I14.body] ⟨(entry 0 (laws_FnExactSetFile_as a0 a1 a2)), [false, false, false, false, false, false, false, false, false, false, true, true], [laws_szWorld_ro r1, laws_toWorld_ro r2, spec_SetFile_ro r3, laws_toWorld_ro r4, impl_SetFile_ro r5, laws_eqWorld_ro r6, laws_toWorld_ro r7, laws_eqWorld_ro r8, laws_markWorld_ro r9, laws_eqWorld_ro r10, laws_markWorld_ro r11, laws_heldWorld_ro r12, laws_toWorld_ro r13, impl_SetFile_ro r14, laws_eqWorld_ro r15], []⟩ = some (.done (laws_FnExactSetFile_ro false) [(decide (((List.length a1 : Int) : Int) > 1048576)) = false, AbsCalls Try.prog 19 (laws_szWorld_as a0 1048576) (laws_szWorld_ro r1), (decide ((r1 : Int) < 0)) = false, AbsCalls Try.prog 21 (laws_toWorld_as a0) (laws_toWorld_ro r2), AbsCalls Try.prog 51 (spec_SetFile_as r2 a1 a2) (spec_SetFile_ro r3), AbsCalls Try.prog 21 (laws_toWorld_as a0) (laws_toWorld_ro r4), AbsCalls Try.prog 50 (impl_SetFile_as r4 a1 a2) (impl_SetFile_ro r5), AbsCalls Try.prog 23 (laws_eqWorld_as r5.1 r3.1) (laws_eqWorld_ro r6), (!r6) = false, (!((r5.2 : Bool) == r3.2)) = false, AbsCalls Try.prog 21 (laws_toWorld_as a0) (laws_toWorld_ro r7), AbsCalls Try.prog 23 (laws_eqWorld_as r4 r7) (laws_eqWorld_ro r8), (!r8) = false, AbsCalls Try.prog 44 (laws_markWorld_as r4 1) (laws_markWorld_ro r9), List.length r9.2 = List.length (Wld.files r4), (decide ((r9.1 : Int) < 0)) = false, AbsCalls Try.prog 23 (laws_eqWorld_as r5.1 r3.1) (laws_eqWorld_ro r10), (!r10) = false, (!((r5.2 : Bool) == r3.2)) = false, AbsCalls Try.prog 44 (laws_markWorld_as r5.1 1) (laws_markWorld_ro r11), List.length r11.2 = List.length (Wld.files r5.1), AbsCalls Try.prog 45 (laws_heldWorld_as (Wld.mk (Wld.clock r5.1) (Wld.seed r5.1) r11.2) 1) (laws_heldWorld_ro r12), (decide ((r12 : Int) < 0)) = false, ((r12 : Int) != r11.1) = false, AbsCalls Try.prog 21 (laws_toWorld_as a0) (laws_toWorld_ro r13), AbsCalls Try.prog 50 (impl_SetFile_as r13 a1 a2) (impl_SetFile_ro r14), AbsCalls Try.prog 23 (laws_eqWorld_as r14.1 r3.1) (laws_eqWorld_ro r15), (!r15) = true, true = true]) := by kernel_rfl
theorem p14_e_10 (a0 : Wld) (a1 : Str) (a2 : Int) (r1 : Int) (r2 : Wld) (r3 : Wld × Bool) (r4 : Wld) (r5 : Wld × Bool) (r6 : Bool) (r7 : Wld) (r8 : Bool) (r9 : Int × (List Fil)) (r10 : Bool) (r11 : Int × (List Fil)) (r12 : Int) (r13 : Wld) (r14 : Wld × Bool) (r15 : Bool) : run tt (AbsCalls Try.prog) I14 3000 false [.code I14.body] ⟨(entry 0 (laws_FnExactSetFile_as a0 a1 a2)), [false, false, false, false, false, false, false, false, false, false, false, true], [laws_szWorld_ro r1, laws_toWorld_ro r2, spec_SetFile_ro r3, laws_toWorld_ro r4, impl_SetFile_ro r5, laws_eqWorld_ro r6, laws_toWorld_ro r7, laws_eqWorld_ro r8, laws_markWorld_ro r9, laws_eqWorld_ro r10, laws_markWorld_ro r11, laws_heldWorld_ro r12, laws_toWorld_ro r13, impl_SetFile_ro r14, laws_eqWorld_ro r15], []⟩ = some (.done (laws_FnExactSetFile_ro false) [(decide (((List.length a1 : Int) : Int) > 1048576)) = false, AbsCalls Try.prog 19 (laws_szWorld_as a0 1048576) (laws_szWorld_ro r1), (decide ((r1 : Int) < 0)) = false, AbsCalls Try.prog 21 (laws_toWorld_as a0) (laws_toWorld_ro r2), AbsCalls Try.prog 51 (spec_SetFile_as r2 a1 a2) (spec_SetFile_ro r3), AbsCalls Try.prog 21 (laws_toWorld_as a0) (laws_toWorld_ro r4), AbsCalls Try.prog 50 (impl_SetFile_as r4 a1 a2) (impl_SetFile_ro r5), AbsCalls Try.prog 23 (laws_eqWorld_as r5.1 r3.1) (laws_eqWorld_ro r6), (!r6) = false, (!((r5.2 : Bool) == r3.2)) = false, AbsCalls Try.prog 21 (laws_toWorld_as a0) (laws_toWorld_ro r7), AbsCalls Try.prog 23 (laws_eqWorld_as r4 r7) (laws_eqWorld_ro r8), (!r8) = false, AbsCalls Try.prog 44 (laws_markWorld_as r4 1) (laws_markWorld_ro r9), List.length r9.2 = List.length (Wld.files r4), (decide ((r9.1 : Int) < 0)) = false, AbsCalls Try.prog 23 (laws_eqWorld_as r5.1 r3.1) (laws_eqWorld_ro r10), (!r10) = false, (!((r5.2 : Bool) == r3.2)) = false, AbsCalls Try.prog 44 (laws_markWorld_as r5.1 1) (laws_markWorld_ro r11), List.length r11.2 = List.length (Wld.files r5.1), AbsCalls Try.prog 45 (laws_heldWorld_as (Wld.mk (Wld.clock r5.1) (Wld.seed r5.1) r11.2) 1) (laws_heldWorld_ro r12), (decide ((r12 : Int) < 0)) = false, ((r12 : Int) != r11.1) = false, AbsCalls Try.prog 21 (laws_toWorld_as a0) (laws_toWorld_ro r13), AbsCalls Try.prog 50 (impl_SetFile_as r13 a1 a2) (impl_SetFile_ro r14), AbsCalls Try.prog 23 (laws_eqWorld_as r14.1 r3.1) (laws_eqWorld_ro r15), (!r15) = false, (!((r14.2 : Bool) == r3.2)) = true]) := by kernel_rfl
theorem p14_e_11 (a0 : Wld) (a1 : Str) (a2 : Int) (r1 : Int) (r2 : Wld) (r3 : Wld × Bool) (r4 : Wld) (r5 : Wld × Bool) (r6 : Bool) (r7 : Wld) (r8 : Bool) (r9 : Int × (List Fil)) (r10 : Bool) (r11 : Int × (List Fil)) (r12 : Int) (r13 : Wld) (r14 : Wld × Bool) (r15 : Bool) (r16 : Int) : run tt (AbsCalls Try.prog) I14 3000 false [.code I14.body] ⟨(entry 0 (laws_FnExactSetFile_as a0 a1 a2)), [false, false, false, false, false, false, false, false, false, false, false, false, true], [laws_szWorld_ro r1, laws_toWorld_ro r2, spec_SetFile_ro r3, laws_toWorld_ro r4, impl_SetFile_ro r5, laws_eqWorld_ro r6, laws_toWorld_ro r7, laws_eqWorld_ro r8, laws_markWorld_ro r9, laws_eqWorld_ro r10, laws_markWorld_ro r11, laws_heldWorld_ro r12, laws_toWorld_ro r13, impl_SetFile_ro r14, laws_eqWorld_ro r15, laws_heldWorld_ro r16], []⟩ = some (.done (laws_FnExactSetFile_ro false) [(decide (((List.length a1 : Int) : Int) > 1048576)) = false, AbsCalls Try.prog 19 (laws_szWorld_as a0 1048576) (laws_szWorld_ro r1), (decide ((r1 : Int) < 0)) = false, AbsCalls Try.prog 21 (laws_toWorld_as a0) (laws_toWorld_ro r2), AbsCalls Try.prog 51 (spec_SetFile_as r2 a1 a2) (spec_SetFile_ro r3), AbsCalls Try.prog 21 (laws_toWorld_as a0) (laws_toWorld_ro r4), AbsCalls Try.prog 50 (impl_SetFile_as r4 a1 a2) (impl_SetFile_ro r5), AbsCalls Try.prog 23 (laws_eqWorld_as r5.1 r3.1) (laws_eqWorld_ro r6), (!r6) = false, (!((r5.2 : Bool) == r3.2)) = false, AbsCalls Try.prog 21 (laws_toWorld_as a0) (laws_toWorld_ro r7), AbsCalls Try.prog 23 (laws_eqWorld_as r4 r7) (laws_eqWorld_ro r8), (!r8) = false, AbsCalls Try.prog 44 (laws_markWorld_as r4 1) (laws_markWorld_ro r9), List.length r9.2 = List.length (Wld.files r4), (decide ((r9.1 : Int) < 0)) = false, AbsCalls Try.prog 23 (laws_eqWorld_as r5.1 r3.1) (laws_eqWorld_ro r10), (!r10) = false, (!((r5.2 : Bool) == r3.2)) = false, AbsCalls Try.prog 44 (laws_markWorld_as r5.1 1) (laws_markWorld_ro r11), List.length r11.2 = List.length (Wld.files r5.1), AbsCalls Try.prog 45 (laws_heldWorld_as (Wld.mk (Wld.clock r5.1) (Wld.seed r5.1) r11.2) 1) (laws_heldWorld_ro r12), (decide ((r12 : Int) < 0)) = false, ((r12 : Int) != r11.1) = false, AbsCalls Try.prog 21 (laws_toWorld_as a0) (laws_toWorld_ro r13), AbsCalls Try.prog 50 (impl_SetFile_as r13 a1 a2) (impl_SetFile_ro r14), AbsCalls Try.prog 23 (laws_eqWorld_as r14.1 r3.1) (laws_eqWorld_ro r15), (!r15) = false, (!((r14.2 : Bool) == r3.2)) = false, AbsCalls Try.prog 45 (laws_heldWorld_as (Wld.mk (Wld.clock r5.1) (Wld.seed r5.1) r11.2) 1) (laws_heldWorld_ro r16), (decide ((r16 : Int) < 0)) = true]) := by kernel_rfl
theorem p14_e_12 (a0 : Wld) (a1 : Str) (a2 : Int) (r1 : Int) (r2 : Wld) (r3 : Wld × Bool) (r4 : Wld) (r5 : Wld × Bool) (r6 : Bool) (r7 : Wld) (r8 : Bool) (r9 : Int × (List Fil)) (r10 : Bool) (r11 : Int × (List Fil)) (r12 : Int) (r13 : Wld) (r14 : Wld × Bool) (r15 : Bool) (r16 : Int) : run tt (AbsCalls Try.prog) I14 3000 false [.code I14.body] ⟨(entry 0 (laws_FnExactSetFile_as a0 a1 a2)), [false, false, false, false, false, false, false, false, false, false, false, false, false, true], [laws_szWorld_ro r1, laws_toWorld_ro r2, spec_SetFile_ro r3, laws_toWorld_ro r4, impl_SetFile_ro r5, laws_eqWorld_ro r6, laws_toWorld_ro r7, laws_eqWorld_ro r8, laws_markWorld_ro r9, laws_eqWorld_ro r10, laws_markWorld_ro r11, laws_heldWorld_ro r12, laws_toWorld_ro r13, impl_SetFile_ro r14, laws_eqWorld_ro r15, laws_heldWorld_ro r16], []⟩ = some (.done (laws_FnExactSetFile_ro false) [(decide (((List.length a1 : Int) : Int) > 1048576)) = false, AbsCalls Try.prog 19 (laws_szWorld_as a0 1048576) (laws_szWorld_ro r1), (decide ((r1 : Int) < 0)) = false, AbsCalls Try.prog 21 (laws_toWorld_as a0) (laws_toWorld_ro r2), AbsCalls Try.prog 51 (spec_SetFile_as r2 a1 a2) (spec_SetFile_ro r3), AbsCalls Try.prog 21 (laws_toWorld_as a0) (laws_toWorld_ro r4), AbsCalls Try.prog 50 (impl_SetFile_as r4 a1 a2) (impl_SetFile_ro r5), AbsCalls Try.prog 23 (laws_eqWorld_as r5.1 r3.1) (laws_eqWorld_ro r6), (!r6) = false, (!((r5.2 : Bool) == r3.2)) = false, AbsCalls Try.prog 21 (laws_toWorld_as a0) (laws_toWorld_ro r7), AbsCalls Try.prog 23 (laws_eqWorld_as r4 r7) (laws_eqWorld_ro r8), (!r8) = false, AbsCalls Try.prog 44 (laws_markWorld_as r4 1) (laws_markWorld_ro r9), List.length r9.2 = List.length (Wld.files r4), (decide ((r9.1 : Int) < 0)) = false, AbsCalls Try.prog 23 (laws_eqWorld_as r5.1 r3.1) (laws_eqWorld_ro r10), (!r10) = false, (!((r5.2 : Bool) == r3.2)) = false, AbsCalls Try.prog 44 (laws_markWorld_as r5.1 1) (laws_markWorld_ro r11), List.length r11.2 = List.length (Wld.files r5.1), AbsCalls Try.prog 45 (laws_heldWorld_as (Wld.mk (Wld.clock r5.1) (Wld.seed r5.1) r11.2) 1) (laws_heldWorld_ro r12), (decide ((r12 : Int) < 0)) = false, ((r12 : Int) != r11.1) = false, AbsCalls Try.prog 21 (laws_toWorld_as a0) (laws_toWorld_ro r13), AbsCalls Try.prog 50 (impl_SetFile_as r13 a1 a2) (impl_SetFile_ro r14), AbsCalls Try.prog 23 (laws_eqWorld_as r14.1 r3.1) (laws_eqWorld_ro r15), (!r15) = false, (!((r14.2 : Bool) == r3.2)) = false, AbsCalls Try.prog 45 (laws_heldWorld_as (Wld.mk (Wld.clock r5.1) (Wld.seed r5.1) r11.2) 1) (laws_heldWorld_ro r16), (decide ((r16 : Int) < 0)) = false, ((r16 : Int) != r11.1) = true]) := by kernel_rfl
theorem p14_e_13 (a0 : Wld) (a1 : Str) (a2 : Int) (r1 : Int) (r2 : Wld) (r3 : Wld × Bool) (r4 : Wld) (r5 : Wld × Bool) (r6 : Bool) (r7 : Wld) (r8 : Bool) (r9 : Int × (List Fil)) (r10 : Bool) (r11 : Int × (List Fil)) (r12 : Int) (r13 : Wld) (r14 : Wld × Bool) (r15 : Bool) (r16 : Int) : run tt (AbsCalls Try.prog) I14 3000 false [.code I14.body] ⟨(entry 0 (laws_FnExactSetFile_as a0 a1 a2)), [false, false, false, false, false, false, false, false, false, false, false, false, false, false], [laws_szWorld_ro r1, laws_toWorld_ro r2, spec_SetFile_ro r3, laws_toWorld_ro r4, impl_SetFile_ro r5, laws_eqWorld_ro r6, laws_toWorld_ro r7, laws_eqWorld_ro r8, laws_markWorld_ro r9, laws_eqWorld_ro r10, laws_markWorld_ro r11, laws_heldWorld_ro r12, laws_toWorld_ro r13, impl_SetFile_ro r14, laws_eqWorld_ro r15, laws_heldWorld_ro r16], []⟩ = some (.done (laws_FnExactSetFile_ro true) [(decide (((List.length a1 : Int) : Int) > 1048576)) = false, AbsCalls Try.prog 19 (laws_szWorld_as a0 1048576) (laws_szWorld_ro r1), (decide ((r1 : Int) < 0)) = false, AbsCalls Try.prog 21 (laws_toWorld_as a0) (laws_toWorld_ro r2), AbsCalls Try.prog 51 (spec_SetFile_as r2 a1 a2) (spec_SetFile_ro r3), AbsCalls Try.prog 21 (laws_toWorld_as a0) (laws_toWorld_ro r4), AbsCalls Try.prog 50 (impl_SetFile_as r4 a1 a2) (impl_SetFile_ro r5), AbsCalls Try.prog 23 (laws_eqWorld_as r5.1 r3.1) (laws_eqWorld_ro r6), (!r6) = false, (!((r5.2 : Bool) == r3.2)) = false, AbsCalls Try.prog 21 (laws_toWorld_as a0) (laws_toWorld_ro r7), AbsCalls Try.prog 23 (laws_eqWorld_as r4 r7) (laws_eqWorld_ro r8), (!r8) = false, AbsCalls Try.prog 44 (laws_markWorld_as r4 1) (laws_markWorld_ro r9), List.length r9.2 = List.length (Wld.files r4), (decide ((r9.1 : Int) < 0)) = false, AbsCalls Try.prog 23 (laws_eqWorld_as r5.1 r3.1) (laws_eqWorld_ro r10), (!r10) = false, (!((r5.2 : Bool) == r3.2)) = false, AbsCalls Try.prog 44 (laws_markWorld_as r5.1 1) (laws_markWorld_ro r11), List.length r11.2 = List.length (Wld.files r5.1), AbsCalls Try.prog 45 (laws_heldWorld_as (Wld.mk (Wld.clock r5.1) (Wld.seed r5.1) r11.2) 1) (laws_heldWorld_ro r12), (decide ((r12 : Int) < 0)) = false, ((r12 : Int) != r11.1) = false, AbsCalls Try.prog 21 (laws_toWorld_as a0) (laws_toWorld_ro r13), AbsCalls Try.prog 50 (impl_SetFile_as r13 a1 a2) (impl_SetFile_ro r14), AbsCalls Try.prog 23 (laws_eqWorld_as r14.1 r3.1) (laws_eqWorld_ro r15), (!r15) = false, (!((r14.2 : Bool) == r3.2)) = false, AbsCalls Try.prog 45 (laws_heldWorld_as (Wld.mk (Wld.clock r5.1) (Wld.seed r5.1) r11.2) 1) (laws_heldWorld_ro r16), (decide ((r16 : Int) < 0)) = false, ((r16 : Int) != r11.1) = false]) := by kernel_rfl
theorem c14_e {N : Nat} : ∀ a0 a1 a2 r, laws_FnExactSetFile N a0 a1 a2 = some r → Reach Try.prog Try.f14 I14 [.code I14.body] (entry 0 (laws_FnExactSetFile_as a0 a1 a2)) (laws_FnExactSetFile_ro r) := by
  intro a0 a1 a2 r h
  unfold laws_FnExactSetFile at h
  rcases cond_inv h with ⟨h0, h⟩ | ⟨h0, h⟩
  · obtain rfl := Option.some.inj h
    exact Reach.done ttok mix fk14 (p14_e_0 a0 a1 a2) (obs_cons h0 obs_nil)
  · obtain ⟨r1, h1, h⟩ := bind_inv h
    rcases cond_inv h with ⟨h2, h⟩ | ⟨h2, h⟩
    · obtain rfl := Option.some.inj h
      exact Reach.done ttok mix fk14 (p14_e_1 a0 a1 a2 r1) (obs_cons h0 (obs_cons (laws_szWorld_ok h1) (obs_cons h2 obs_nil)))
    · obtain ⟨r2, h3, h⟩ := bind_inv h
      obtain ⟨r3, h4, h⟩ := bind_inv h
      obtain ⟨r4, h5, h⟩ := bind_inv h
      obtain ⟨r5, h6, h⟩ := bind_inv h
      obtain ⟨r6, h7, h⟩ := bind_inv h
      rcases cond_inv h with ⟨h8, h⟩ | ⟨h8, h⟩
      · obtain rfl := Option.some.inj h
        exact Reach.done ttok mix fk14 (p14_e_2 a0 a1 a2 r1 r2 r3 r4 r5 r6) (obs_cons h0 (obs_cons (laws_szWorld_ok h1) (obs_cons h2 (obs_cons (laws_toWorld_ok h3) (obs_cons (spec_SetFile_ok h4) (obs_cons (laws_toWorld_ok h5) (obs_cons (impl_SetFile_ok h6) (obs_cons (laws_eqWorld_ok h7) (obs_cons h8 (obs_cons rfl obs_nil))))))))))
      · rcases cond_inv h with ⟨h9, h⟩ | ⟨h9, h⟩
        · obtain rfl := Option.some.inj h
          exact Reach.done ttok mix fk14 (p14_e_3 a0 a1 a2 r1 r2 r3 r4 r5 r6) (obs_cons h0 (obs_cons (laws_szWorld_ok h1) (obs_cons h2 (obs_cons (laws_toWorld_ok h3) (obs_cons (spec_SetFile_ok h4) (obs_cons (laws_toWorld_ok h5) (obs_cons (impl_SetFile_ok h6) (obs_cons (laws_eqWorld_ok h7) (obs_cons h8 (obs_cons h9 obs_nil))))))))))
        · obtain ⟨r7, h10, h⟩ := bind_inv h
          obtain ⟨r8, h11, h⟩ := bind_inv h
          rcases cond_inv h with ⟨h12, h⟩ | ⟨h12, h⟩
          · obtain rfl := Option.some.inj h
            exact Reach.done ttok mix fk14 (p14_e_4 a0 a1 a2 r1 r2 r3 r4 r5 r6 r7 r8) (obs_cons h0 (obs_cons (laws_szWorld_ok h1) (obs_cons h2 (obs_cons (laws_toWorld_ok h3) (obs_cons (spec_SetFile_ok h4) (obs_cons (laws_toWorld_ok h5) (obs_cons (impl_SetFile_ok h6) (obs_cons (laws_eqWorld_ok h7) (obs_cons h8 (obs_cons h9 (obs_cons (laws_toWorld_ok h10) (obs_cons (laws_eqWorld_ok h11) (obs_cons h12 obs_nil)))))))))))))
          · obtain ⟨r9, h13, h⟩ := bind_inv h
            obtain ⟨h14, h⟩ := ite_inv h
            rcases cond_inv h with ⟨h15, h⟩ | ⟨h15, h⟩
            · obtain rfl := Option.some.inj h
              exact Reach.done ttok mix fk14 (p14_e_5 a0 a1 a2 r1 r2 r3 r4 r5 r6 r7 r8 r9) (obs_cons h0 (obs_cons (laws_szWorld_ok h1) (obs_cons h2 (obs_cons (laws_toWorld_ok h3) (obs_cons (spec_SetFile_ok h4) (obs_cons (laws_toWorld_ok h5) (obs_cons (impl_SetFile_ok h6) (obs_cons (laws_eqWorld_ok h7) (obs_cons h8 (obs_cons h9 (obs_cons (laws_toWorld_ok h10) (obs_cons (laws_eqWorld_ok h11) (obs_cons h12 (obs_cons (laws_markWorld_ok h13) (obs_cons h14 (obs_cons h15 (obs_cons rfl (obs_cons rfl obs_nil))))))))))))))))))
            · obtain ⟨r10, h16, h⟩ := bind_inv h
              rcases cond_inv h with ⟨h17, h⟩ | ⟨h17, h⟩
              · obtain rfl := Option.some.inj h
                exact Reach.done ttok mix fk14 (p14_e_6 a0 a1 a2 r1 r2 r3 r4 r5 r6 r7 r8 r9 r10) (obs_cons h0 (obs_cons (laws_szWorld_ok h1) (obs_cons h2 (obs_cons (laws_toWorld_ok h3) (obs_cons (spec_SetFile_ok h4) (obs_cons (laws_toWorld_ok h5) (obs_cons (impl_SetFile_ok h6) (obs_cons (laws_eqWorld_ok h7) (obs_cons h8 (obs_cons h9 (obs_cons (laws_toWorld_ok h10) (obs_cons (laws_eqWorld_ok h11) (obs_cons h12 (obs_cons (laws_markWorld_ok h13) (obs_cons h14 (obs_cons h15 (obs_cons (laws_eqWorld_ok h16) (obs_cons h17 (obs_cons rfl obs_nil)))))))))))))))))))
              · obtain ⟨r11, h19, h⟩ := bind_inv h
                obtain ⟨h20, h⟩ := ite_inv h
                obtain ⟨r12, h21, h⟩ := bind_inv h
                rcases cond_inv h with ⟨h22, h⟩ | ⟨h22, h⟩
                · obtain rfl := Option.some.inj h
                  exact Reach.done ttok mix fk14 (p14_e_7 a0 a1 a2 r1 r2 r3 r4 r5 r6 r7 r8 r9 r10 r11 r12) (obs_cons h0 (obs_cons (laws_szWorld_ok h1) (obs_cons h2 (obs_cons (laws_toWorld_ok h3) (obs_cons (spec_SetFile_ok h4) (obs_cons (laws_toWorld_ok h5) (obs_cons (impl_SetFile_ok h6) (obs_cons (laws_eqWorld_ok h7) (obs_cons h8 (obs_cons h9 (obs_cons (laws_toWorld_ok h10) (obs_cons (laws_eqWorld_ok h11) (obs_cons h12 (obs_cons (laws_markWorld_ok h13) (obs_cons h14 (obs_cons h15 (obs_cons (laws_eqWorld_ok h16) (obs_cons h17 (obs_cons h9 (obs_cons (laws_markWorld_ok h19) (obs_cons h20 (obs_cons (laws_heldWorld_ok h21) (obs_cons h22 obs_nil)))))))))))))))))))))))
                · rcases cond_inv h with ⟨h23, h⟩ | ⟨h23, h⟩
                  · obtain rfl := Option.some.inj h
                    exact Reach.done ttok mix fk14 (p14_e_8 a0 a1 a2 r1 r2 r3 r4 r5 r6 r7 r8 r9 r10 r11 r12) (obs_cons h0 (obs_cons (laws_szWorld_ok h1) (obs_cons h2 (obs_cons (laws_toWorld_ok h3) (obs_cons (spec_SetFile_ok h4) (obs_cons (laws_toWorld_ok h5) (obs_cons (impl_SetFile_ok h6) (obs_cons (laws_eqWorld_ok h7) (obs_cons h8 (obs_cons h9 (obs_cons (laws_toWorld_ok h10) (obs_cons (laws_eqWorld_ok h11) (obs_cons h12 (obs_cons (laws_markWorld_ok h13) (obs_cons h14 (obs_cons h15 (obs_cons (laws_eqWorld_ok h16) (obs_cons h17 (obs_cons h9 (obs_cons (laws_markWorld_ok h19) (obs_cons h20 (obs_cons (laws_heldWorld_ok h21) (obs_cons h22 (obs_cons h23 obs_nil))))))))))))))))))))))))
                  · obtain ⟨r13, h24, h⟩ := bind_inv h
                    obtain ⟨r14, h25, h⟩ := bind_inv h
                    obtain ⟨r15, h26, h⟩ := bind_inv h
                    rcases cond_inv h with ⟨h27, h⟩ | ⟨h27, h⟩
                    · obtain rfl := Option.some.inj h
                      exact Reach.done ttok mix fk14 (p14_e_9 a0 a1 a2 r1 r2 r3 r4 r5 r6 r7 r8 r9 r10 r11 r12 r13 r14 r15) (obs_cons h0 (obs_cons (laws_szWorld_ok h1) (obs_cons h2 (obs_cons (laws_toWorld_ok h3) (obs_cons (spec_SetFile_ok h4) (obs_cons (laws_toWorld_ok h5) (obs_cons (impl_SetFile_ok h6) (obs_cons (laws_eqWorld_ok h7) (obs_cons h8 (obs_cons h9 (obs_cons (laws_toWorld_ok h10) (obs_cons (laws_eqWorld_ok h11) (obs_cons h12 (obs_cons (laws_markWorld_ok h13) (obs_cons h14 (obs_cons h15 (obs_cons (laws_eqWorld_ok h16) (obs_cons h17 (obs_cons h9 (obs_cons (laws_markWorld_ok h19) (obs_cons h20 (obs_cons (laws_heldWorld_ok h21) (obs_cons h22 (obs_cons h23 (obs_cons (laws_toWorld_ok h24) (obs_cons (impl_SetFile_ok h25) (obs_cons (laws_eqWorld_ok h26) (obs_cons h27 (obs_cons rfl obs_nil)))))))))))))))))))))))))))))
                    · rcases cond_inv h with ⟨h28, h⟩ | ⟨h28, h⟩
                      · obtain rfl := Option.some.inj h
                        exact Reach.done ttok mix fk14 (p14_e_10 a0 a1 a2 r1 r2 r3 r4 r5 r6 r7 r8 r9 r10 r11 r12 r13 r14 r15) (obs_cons h0 (obs_cons (laws_szWorld_ok h1) (obs_cons h2 (obs_cons (laws_toWorld_ok h3) (obs_cons (spec_SetFile_ok h4) (obs_cons (laws_toWorld_ok h5) (obs_cons (impl_SetFile_ok h6) (obs_cons (laws_eqWorld_ok h7) (obs_cons h8 (obs_cons h9 (obs_cons (laws_toWorld_ok h10) (obs_cons (laws_eqWorld_ok h11) (obs_cons h12 (obs_cons (laws_markWorld_ok h13) (obs_cons h14 (obs_cons h15 (obs_cons (laws_eqWorld_ok h16) (obs_cons h17 (obs_cons h9 (obs_cons (laws_markWorld_ok h19) (obs_cons h20 (obs_cons (laws_heldWorld_ok h21) (obs_cons h22 (obs_cons h23 (obs_cons (laws_toWorld_ok h24) (obs_cons (impl_SetFile_ok h25) (obs_cons (laws_eqWorld_ok h26) (obs_cons h27 (obs_cons h28 obs_nil)))))))))))))))))))))))))))))
                      · obtain ⟨r16, h29, h⟩ := bind_inv h
                        rcases cond_inv h with ⟨h30, h⟩ | ⟨h30, h⟩
                        · obtain rfl := Option.some.inj h
                          exact Reach.done ttok mix fk14 (p14_e_11 a0 a1 a2 r1 r2 r3 r4 r5 r6 r7 r8 r9 r10 r11 r12 r13 r14 r15 r16) (obs_cons h0 (obs_cons (laws_szWorld_ok h1) (obs_cons h2 (obs_cons (laws_toWorld_ok h3) (obs_cons (spec_SetFile_ok h4) (obs_cons (laws_toWorld_ok h5) (obs_cons (impl_SetFile_ok h6) (obs_cons (laws_eqWorld_ok h7) (obs_cons h8 (obs_cons h9 (obs_cons (laws_toWorld_ok h10) (obs_cons (laws_eqWorld_ok h11) (obs_cons h12 (obs_cons (laws_markWorld_ok h13) (obs_cons h14 (obs_cons h15 (obs_cons (laws_eqWorld_ok h16) (obs_cons h17 (obs_cons h9 (obs_cons (laws_markWorld_ok h19) (obs_cons h20 (obs_cons (laws_heldWorld_ok h21) (obs_cons h22 (obs_cons h23 (obs_cons (laws_toWorld_ok h24) (obs_cons (impl_SetFile_ok h25) (obs_cons (laws_eqWorld_ok h26) (obs_cons h27 (obs_cons h28 (obs_cons (laws_heldWorld_ok h29) (obs_cons h30 obs_nil)))))))))))))))))))))))))))))))
                        · rcases cond_inv h with ⟨h31, h⟩ | ⟨h31, h⟩
                          · obtain rfl := Option.some.inj h
                            exact Reach.done ttok mix fk14 (p14_e_12 a0 a1 a2 r1 r2 r3 r4 r5 r6 r7 r8 r9 r10 r11 r12 r13 r14 r15 r16) (obs_cons h0 (obs_cons (laws_szWorld_ok h1) (obs_cons h2 (obs_cons (laws_toWorld_ok h3) (obs_cons (spec_SetFile_ok h4) (obs_cons (laws_toWorld_ok h5) (obs_cons (impl_SetFile_ok h6) (obs_cons (laws_eqWorld_ok h7) (obs_cons h8 (obs_cons h9 (obs_cons (laws_toWorld_ok h10) (obs_cons (laws_eqWorld_ok h11) (obs_cons h12 (obs_cons (laws_markWorld_ok h13) (obs_cons h14 (obs_cons h15 (obs_cons (laws_eqWorld_ok h16) (obs_cons h17 (obs_cons h9 (obs_cons (laws_markWorld_ok h19) (obs_cons h20 (obs_cons (laws_heldWorld_ok h21) (obs_cons h22 (obs_cons h23 (obs_cons (laws_toWorld_ok h24) (obs_cons (impl_SetFile_ok h25) (obs_cons (laws_eqWorld_ok h26) (obs_cons h27 (obs_cons h28 (obs_cons (laws_heldWorld_ok h29) (obs_cons h30 (obs_cons h31 obs_nil))))))))))))))))))))))))))))))))
                          · obtain rfl := Option.some.inj h
                            exact Reach.done ttok mix fk14 (p14_e_13 a0 a1 a2 r1 r2 r3 r4 r5 r6 r7 r8 r9 r10 r11 r12 r13 r14 r15 r16) (obs_cons h0 (obs_cons (laws_szWorld_ok h1) (obs_cons h2 (obs_cons (laws_toWorld_ok h3) (obs_cons (spec_SetFile_ok h4) (obs_cons (laws_toWorld_ok h5) (obs_cons (impl_SetFile_ok h6) (obs_cons (laws_eqWorld_ok h7) (obs_cons h8 (obs_cons h9 (obs_cons (laws_toWorld_ok h10) (obs_cons (laws_eqWorld_ok h11) (obs_cons h12 (obs_cons (laws_markWorld_ok h13) (obs_cons h14 (obs_cons h15 (obs_cons (laws_eqWorld_ok h16) (obs_cons h17 (obs_cons h9 (obs_cons (laws_markWorld_ok h19) (obs_cons h20 (obs_cons (laws_heldWorld_ok h21) (obs_cons h22 (obs_cons h23 (obs_cons (laws_toWorld_ok h24) (obs_cons (impl_SetFile_ok h25) (obs_cons (laws_eqWorld_ok h26) (obs_cons h27 (obs_cons h28 (obs_cons (laws_heldWorld_ok h29) (obs_cons h30 (obs_cons h31 obs_nil))))))))))))))))))))))))))))))))
theorem laws_FnExactSetFile_ok {N : Nat} {a0 : Wld} {a1 : Str} {a2 : Int} {r : Bool} (h : laws_FnExactSetFile N  a0 a1 a2 = some r) : AbsCalls Try.prog 14 (laws_FnExactSetFile_as a0 a1 a2) (laws_FnExactSetFile_ro r) :=
 AbsCalls.of_reach fk14 rfl rfl (Nat.le_of_ble_eq_true rfl) (c14_e a0 a1 a2 r h)
end Go.Ab.T
end
section
namespace Go.Ab
set_option linter.unusedVariables false
def Big (p : Nat → Prop) : Prop := ∃ k, ∀ N, k ≤ N → p N
def Big2 (p : Nat → Nat → Prop) : Prop := ∃ k, ∀ N n, k ≤ N → k ≤ n → p N n
theorem Big.imp {p q : Nat → Prop} (h : Big p) (f : ∀ N, p N → q N) : Big q := h.elim fun k hk => ⟨k, fun N hN => f N (hk N hN)⟩
theorem Big2.imp {p q : Nat → Nat → Prop} (h : Big2 p) (f : ∀ N n, p N n → q N n) : Big2 q := h.elim fun k hk => ⟨k, fun N n h1 h2 => f N n (hk N n h1 h2)⟩
theorem Big.of {p : Nat → Prop} (h : ∀ N, p N) : Big p := ⟨0, fun N _ => h N⟩
theorem Big2.of {p : Nat → Nat → Prop} (h : ∀ N n, p N n) : Big2 p := ⟨0, fun N n _ _ => h N n⟩
theorem Big.and {p q : Nat → Prop} (h : Big p) (h' : Big q) : Big fun N => p N ∧ q N := by
  obtain ⟨a, ha⟩ := h; obtain ⟨b, hb⟩ := h'
  exact ⟨max a b, fun N hN => ⟨ha N (by omega), hb N (by omega)⟩⟩
theorem Big2.and {p q : Nat → Nat → Prop} (h : Big2 p) (h' : Big2 q) : Big2 fun N n => p N n ∧ q N n := by
  obtain ⟨a, ha⟩ := h; obtain ⟨b, hb⟩ := h'
  exact ⟨max a b, fun N n h1 h2 => ⟨ha N n (by omega) (by omega), hb N n (by omega) (by omega)⟩⟩
theorem Big2.succ {p : Nat → Nat → Prop} (h : Big2 fun N n => p N (n + 1)) : Big2 p := by
  obtain ⟨k, hk⟩ := h
  refine ⟨k + 1, fun N n h1 h2 => ?_⟩
  obtain ⟨m, rfl⟩ : ∃ m, n = m + 1 := ⟨n - 1, by omega⟩
  exact hk N m (by omega) (by omega)
theorem Big.list {α : Type} {p : α → Nat → Prop} {l : List α} (h : ∀ x ∈ l, Big (p x)) : Big fun N => ∀ x ∈ l, p x N := by
  induction l with
  | nil => exact .of fun N x hx => by cases hx
  | cons a l ih =>
    refine ((h a List.mem_cons_self).and (ih fun x hx => h x (List.mem_cons_of_mem _ hx))).imp fun N ⟨h1, h2⟩ x hx => ?_
    rcases List.mem_cons.1 hx with rfl | hx
    · exact h1
    · exact h2 x hx
theorem Big2.list {α : Type} {p : α → Nat → Nat → Prop} {l : List α} (h : ∀ x ∈ l, Big2 (p x)) : Big2 fun N n => ∀ x ∈ l, p x N n := by
  induction l with
  | nil => exact .of fun N n x hx => by cases hx
  | cons a l ih =>
    refine ((h a List.mem_cons_self).and (ih fun x hx => h x (List.mem_cons_of_mem _ hx))).imp fun N n ⟨h1, h2⟩ x hx => ?_
    rcases List.mem_cons.1 hx with rfl | hx
    · exact h1
    · exact h2 x hx
def Big3 (p : Nat → Nat → Nat → Prop) : Prop := ∃ k, ∀ N d n, k ≤ N → k ≤ d → k ≤ n → p N d n
theorem Big3.imp {p q : Nat → Nat → Nat → Prop} (h : Big3 p) (f : ∀ N d n, p N d n → q N d n) : Big3 q := h.elim fun k hk => ⟨k, fun N d n h1 h2 h3 => f N d n (hk N d n h1 h2 h3)⟩
theorem Big3.and {p q : Nat → Nat → Nat → Prop} (h : Big3 p) (h' : Big3 q) : Big3 fun N d n => p N d n ∧ q N d n := by
  obtain ⟨a, ha⟩ := h; obtain ⟨b, hb⟩ := h'
  exact ⟨max a b, fun N d n h1 h2 h3 => ⟨ha N d n (by omega) (by omega) (by omega), hb N d n (by omega) (by omega) (by omega)⟩⟩
theorem Big3.succ {p : Nat → Nat → Nat → Prop} (h : Big3 fun N d n => p N d (n + 1)) : Big3 p := by
  obtain ⟨k, hk⟩ := h
  refine ⟨k + 1, fun N d n h1 h2 h3 => ?_⟩
  obtain ⟨m, rfl⟩ : ∃ m, n = m + 1 := ⟨n - 1, by omega⟩
  exact hk N d m (by omega) (by omega) (by omega)
theorem Big3.of {p : Nat → Nat → Nat → Prop} (h : ∀ N d n, p N d n) : Big3 p := ⟨0, fun N d n _ _ _ => h N d n⟩
def I64 (x : Int) : Prop := -9223372036854775808 ≤ x ∧ x ≤ 9223372036854775807
theorem wrap_i64_def (x : Int) : IntKind.i64.wrap x = if x % 18446744073709551616 ≥ 9223372036854775808 then x % 18446744073709551616 - 18446744073709551616 else x % 18446744073709551616 := by
  show (if (true && decide (x % 18446744073709551616 ≥ 9223372036854775808)) = true then x % 18446744073709551616 - 18446744073709551616 else x % 18446744073709551616) = _
  simp only [Bool.true_and, decide_eq_true_eq]
theorem wrap_i64 {x : Int} (h1 : -9223372036854775808 ≤ x) (h2 : x ≤ 9223372036854775807) : IntKind.i64.wrap x = x := by
  rw [wrap_i64_def]
  split <;> omega
theorem drop_cons {α : Type} {xs : List α} {i : Nat} {x : α} {l : List α} (h : xs.drop i = x :: l) : i < xs.length ∧ xs[i]? = some x ∧ xs.drop (i + 1) = l := by
  have h1 : i < xs.length := by
    rcases Nat.lt_or_ge i xs.length with h1 | h1
    · exact h1
    · rw [List.drop_eq_nil_of_le h1] at h; cases h
  rw [List.drop_eq_getElem_cons h1] at h
  cases h
  exact ⟨h1, by simp [h1], rfl⟩
theorem drop_nil {α : Type} {xs : List α} {i : Nat} (h : xs.drop i = []) : xs.length ≤ i := by simpa using h
end Go.Ab
end
section
namespace Go.Ab
set_option linter.unusedVariables false
inductive DK (K : Nat) : D → Prop where
  | int {k n} (h : (Lit.int k n).wf = true) : DK K (.int k n)
  | bool (b) : DK K (.bool b)
  | str {s : Str} (h : s.length ≤ K) : DK K (.str s)
  | sl {sz rows} (h : rows.length ≤ K) (hr : ∀ r ∈ rows, ∀ x ∈ r, DK K x) : DK K (.sl sz rows)
theorem DFit.dk {d : D} (h : DFit d) : DK maxLen d := by
  induction h with
  | int h => exact .int h
  | bool b => exact .bool b
  | str h => exact .str h
  | sl h _ ih => exact .sl h ih
theorem DK.mono {K M : Nat} (hKM : K ≤ M) {d : D} (h : DK K d) : DK M d := by
  induction h with
  | int h => exact .int h
  | bool b => exact .bool b
  | str h => exact .str (by omega)
  | sl h _ ih => exact .sl (by omega) ih
theorem wf_i64 {n : Int} : (Lit.int .i64 n).wf = true ↔ I64 n := by
  show (decide (_ ≤ n) && decide (n ≤ _)) = true ↔ _
  rw [Bool.and_eq_true, decide_eq_true_eq, decide_eq_true_eq]
  exact Iff.rfl
theorem DK.i64 {K : Nat} {n : Int} : DK K (.int .i64 n) ↔ I64 n := ⟨fun h => by cases h with | int h => exact wf_i64.1 h, fun h => .int (wf_i64.2 h)⟩
theorem DK.str_iff {K : Nat} {s : Str} : DK K (.str s) ↔ s.length ≤ K := ⟨fun h => by cases h; assumption, .str⟩
theorem DK.sl_iff {K sz : Nat} {α : Type} {f : α → List D} {xs : List α} : DK K (.sl sz (xs.map f)) ↔ xs.length ≤ K ∧ ∀ x ∈ xs, ∀ d ∈ f x, DK K d := by
  constructor
  · intro h
    cases h with
    | sl h hr => exact ⟨by simpa using h, fun x hx => hr _ (List.mem_map_of_mem hx)⟩
  · rintro ⟨h, hr⟩
    refine .sl (by simpa using h) fun r hr' => ?_
    obtain ⟨x, hx, rfl⟩ := List.mem_map.1 hr'
    exact hr x hx
def LFit {α : Type} (K : Nat) (p : α → Prop) (l : List α) : Prop := l.length ≤ K ∧ ∀ x ∈ l, p x
def Ty.Fit (K : Nat) (T : Ty) (x : T.den) : Prop := ∀ d ∈ T.toD x, DK K d
def Org.Fit (o : Org) : Prop := I64 o.cell ∧ I64 o.row
def Rowd.Fit (K : Nat) (r : Rowd) : Prop := LFit K I64 r.cells ∧ LFit K Org.Fit r.frm
def Str.Fit (K : Nat) (s : Str) : Prop := s.length ≤ K
def Val.Fit (K : Nat) (v : Val) : Prop := ∀ d ∈ Val.toD v, DK K d
def Exp.Fit (K : Nat) (v : Exp) : Prop := ∀ d ∈ Exp.toD v, DK K d
def Fil.Fit (K : Nat) (v : Fil) : Prop := Str.Fit K v.name ∧ I64 v.n
def Tok.Fit (K : Nat) (v : Tok) : Prop := I64 v.kind ∧ I64 v.n ∧ I64 v.pos ∧ Str.Fit K v.text
def Rea.Fit (K : Nat) (v : Rea) : Prop := I64 v.kind ∧ I64 v.n ∧ I64 v.time ∧ Str.Fit K v.text ∧ v.result.Fit K
def Bnd.Fit (K : Nat) (v : Bnd) : Prop := Str.Fit K v.name ∧ v.value.Fit K
def Cel.Fit (K : Nat) (v : Cel) : Prop := I64 v.id ∧ I64 v.version ∧ I64 v.kind ∧ Str.Fit K v.name ∧ Str.Fit K v.code ∧ I64 v.n
def Wld.Fit (K : Nat) (v : Wld) : Prop := I64 v.clock ∧ I64 v.seed ∧ LFit K (Fil.Fit K) v.files
theorem rowd_fit {K : Nat} {r : Rowd} : (∀ d ∈ Rowd.toD r, DK K d) ↔ r.Fit K := by
  simp only [Rowd.toD, List.mem_cons, List.not_mem_nil, or_false, forall_eq_or_imp, forall_eq, DK.sl_iff, DK.i64, Rowd.Fit, LFit, Org.Fit]
theorem fil_fit {K : Nat} {r : Fil} : Ty.Fit K .fil r ↔ r.Fit K := by
  simp only [Ty.Fit, Ty.toD, List.mem_cons, List.not_mem_nil, or_false, forall_eq_or_imp, forall_eq, DK.str_iff, DK.i64, Fil.Fit, Str.Fit]
theorem Val.fit_iff {K : Nat} {v : Val} : v.Fit K ↔ I64 v.kind ∧ I64 v.n ∧ I64 v.step ∧ Str.Fit K v.text ∧ LFit K (Val.Fit K) v.list ∧ LFit K (Str.Fit K) v.columns ∧ LFit K (Rowd.Fit K) v.rows := by
  cases v
  simp only [Val.Fit, Val.toD, Val.toDs_eq, List.mem_cons, List.not_mem_nil, or_false, forall_eq_or_imp, forall_eq, DK.sl_iff, DK.i64, DK.str_iff, Str.Fit, LFit, Val.kind, Val.n, Val.step, Val.text, Val.list, Val.columns, Val.rows, rowd_fit]
theorem Exp.fit_iff {K : Nat} {v : Exp} : v.Fit K ↔ I64 v.kind ∧ I64 v.n ∧ Str.Fit K v.text ∧ LFit K (Exp.Fit K) v.args := by
  cases v
  simp only [Exp.Fit, Exp.toD, Exp.toDs_eq, List.mem_cons, List.not_mem_nil, or_false, forall_eq_or_imp, forall_eq, DK.sl_iff, DK.i64, DK.str_iff, Str.Fit, LFit, Exp.kind, Exp.n, Exp.text, Exp.args]
theorem sizeOf_mem_list {l : List Val} {x : Val} (h : x ∈ l) (k n s : Int) (t : Str) (c : List Str) (r : List Rowd) : SizeOf.sizeOf x < SizeOf.sizeOf (Val.mk k n s t l c r) := by
  have := List.sizeOf_lt_of_mem h
  simp only [Val.mk.sizeOf_spec]
  omega
theorem Val.ind {p : Val → Prop} (h : ∀ k n s t l c r, (∀ x ∈ l, p x) → p (.mk k n s t l c r)) : ∀ v, p v
  | .mk k n s t l c r => h k n s t l c r fun x hx => Val.ind h x
termination_by v => SizeOf.sizeOf v
decreasing_by exact sizeOf_mem_list hx k n s t c r
theorem sizeOf_mem_args {l : List Exp} {x : Exp} (h : x ∈ l) (k n : Int) (t : Str) : SizeOf.sizeOf x < SizeOf.sizeOf (Exp.mk k n t l) := by
  have := List.sizeOf_lt_of_mem h
  simp only [Exp.mk.sizeOf_spec]
  omega
theorem Exp.ind {p : Exp → Prop} (h : ∀ k n t l, (∀ x ∈ l, p x) → p (.mk k n t l)) : ∀ v, p v
  | .mk k n t l => h k n t l fun x hx => Exp.ind h x
termination_by v => SizeOf.sizeOf v
decreasing_by exact sizeOf_mem_args hx k n t
theorem cell_int {n : Int} (h : DK maxLen (CV.int .i64 n).toD) : I64 n := DK.i64.1 h
theorem cell_sl {T : Ty} {f : Fl} {xs : List T.den} (h : DK maxLen (CV.sl f T xs).toD) : LFit maxLen (T.Fit maxLen) xs := DK.sl_iff.1 h
theorem LFit.imp {α : Type} {K : Nat} {p q : α → Prop} {l : List α} (h : LFit K p l) (f : ∀ x, p x → q x) : LFit K q l := ⟨h.1, fun x hx => f x (h.2 x hx)⟩
end Go.Ab
end
section
namespace Go.Ab
set_option linter.unusedVariables false
theorem whileLoop {σ ρ : Type} {L : Nat → σ → Option ρ} (m : σ → Nat) (Inv : σ → Prop) (Post : ρ → Prop)
    (hstep : ∀ s, Inv s → (∃ s', Inv s' ∧ m s' < m s ∧ ∀ n, L (n + 1) s = L n s') ∨ (∃ r, Post r ∧ ∀ n, L (n + 1) s = some r)) :
    ∀ n s, Inv s → m s < n → ∃ r, Post r ∧ L n s = some r := by
  intro n
  induction n with
  | zero => intro s _ h; omega
  | succ n ih =>
    intro s hs hn
    rcases hstep s hs with ⟨s', h1, h2, h3⟩ | ⟨r, h1, h2⟩
    · obtain ⟨r, h4, h5⟩ := ih s' h1 (by omega)
      exact ⟨r, h4, by rw [h3]; exact h5⟩
    · exact ⟨r, h1, h2 n⟩
theorem forList {α σ ρ : Type} {L : Nat → Int → σ → Option ρ} (x0 : List α) (g : List α → σ → ρ) (Inv : Nat → σ → Prop)
    (hnil : ∀ n s, Inv x0.length s → L (n + 1) (x0.length : Nat) s = some (g [] s))
    (hcons : ∀ i x l s, x0.drop i = x :: l → i < x0.length → x0[i]? = some x → Inv i s →
      (∃ s', Inv (i + 1) s' ∧ g (x :: l) s = g l s' ∧ ∀ n, L (n + 1) (i : Nat) s = L n ((i + 1 : Nat) : Int) s') ∨ (∀ n, L (n + 1) (i : Nat) s = some (g (x :: l) s))) :
    ∀ n i s, Inv i s → i ≤ x0.length → x0.length < n + i → L n (i : Nat) s = some (g (x0.drop i) s) := by
  intro n
  induction n with
  | zero => intro i s _ h1 h2; omega
  | succ n ih =>
    intro i s hs hi hn
    cases hd : x0.drop i with
    | nil =>
      have := drop_nil hd
      obtain rfl : i = x0.length := by omega
      exact hnil n s hs
    | cons x l =>
      obtain ⟨h1, h2, h3⟩ := drop_cons hd
      rcases hcons i x l s hd h1 h2 hs with ⟨s', h4, h5, h6⟩ | h
      · rw [h6, ih (i + 1) s' h4 (by omega) (by omega), h3, h5]
      · exact h n
theorem getD_of {α : Type} {xs : List α} {i : Nat} {x : α} (h : xs[i]? = some x) (d : α) : xs.getD i d = x := by simp [List.getD, h]
theorem wrap_succ {i : Nat} {len : Nat} (h : i < len) (hl : len ≤ 9223372036854775807) : IntKind.i64.wrap ((i : Int) + 1) = ((i + 1 : Nat) : Int) := by
  rw [wrap_i64 (by omega) (by omega)]; omega
def left (s : Nat) (l : Int) : Int := if (s : Int) ≤ l then l - s else -1
theorem left_of {s : Nat} {l : Int} (h : (s : Int) ≤ l) : left s l = l - s := by unfold left; rw [if_pos h]
theorem left_not {s : Nat} {l : Int} (h : ¬ (s : Int) ≤ l) : left s l = -1 := by unfold left; rw [if_neg h]
theorem szThen {s b : Nat} {F : Option Int} {R : Int → Option Int} {l : Int} (hl : s ≤ 9223372036854775807) (h0 : 0 ≤ l) (h1 : l ≤ 1048576)
    (hF : F = bif decide (IntKind.i64.wrap (l - (s : Int)) < 0) then some (-1) else R (IntKind.i64.wrap (l - (s : Int))))
    (hR : ∀ m, 0 ≤ m → m ≤ 1048576 → R m = some (left b m)) : F = some (left (s + b) l) := by
  rw [hF, wrap_i64 (by omega) (by omega)]
  by_cases h : (s : Int) ≤ l
  · rw [decide_eq_false (by omega), cond_false, hR _ (by omega) (by omega)]
    unfold left
    split <;> split <;> first | rfl | omega | (congr 1; omega)
  · rw [decide_eq_true (by omega), cond_true, left_not (by omega)]
theorem szLast {s : Nat} {l : Int} (hl : s ≤ 9223372036854775807) (h0 : 0 ≤ l) (h1 : l ≤ 1048576) :
    (bif decide (IntKind.i64.wrap (l - (s : Int)) < 0) then some (-1) else some (IntKind.i64.wrap (l - (s : Int)))) = some (left s l) := by
  rw [wrap_i64 (by omega) (by omega)]
  unfold left
  by_cases h : (s : Int) ≤ l
  · rw [decide_eq_false (by omega), if_pos h]; rfl
  · rw [decide_eq_true (by omega), if_neg h]; rfl
theorem left_two {a : Nat} {l : Int} {x : Option Int} (h : x = some (left a l)) : (x.bind fun r1 => bif decide (r1 < 0) then (some (-1) : Option Int) else some r1) = some (left a l) := by
  rw [h, Option.bind_some]
  unfold left
  split
  · rw [decide_eq_false (by omega)]; rfl
  · rfl
section
variable {α : Type} {d : α}
theorem szLoop {L : Nat → List α → Int → Int → Option Int} {sz : α → Int → Option Int} {size : α → Nat} {x0 : List α}
    (hL : ∀ n x1 x5, L (n + 1) x0 x1 x5 = bif decide (x5 < (x0.length : Int)) then (if (0 : Int) ≤ x5 ∧ x5 < (x0.length : Int) then Option.bind (sz (x0.getD x5.toNat d) x1) fun r1 => bif decide (r1 < 0) then some (-1) else L n x0 r1 (IntKind.i64.wrap (x5 + 1)) else none) else some x1)
    (hlen : x0.length ≤ 9223372036854775807) (hsz : ∀ x ∈ x0, ∀ l, 0 ≤ l → l ≤ 1048576 → sz x l = some (left (size x) l)) {n : Nat} (hn : x0.length < n) {l : Int} (h0 : 0 ≤ l) (h1 : l ≤ 1048576) :
    L n x0 l 0 = some (left (x0.map size).sum l) := by
  have key := forList (L := fun n i s => L n x0 s i) x0 (fun l s => left (l.map size).sum s) (fun _ s => 0 ≤ s ∧ s ≤ 1048576) (fun n s hs => by
      have hs : 0 ≤ s ∧ s ≤ 1048576 := hs
      simp only [hL]; simp [left]; omega)
    (fun i x r s hd hi hx hs => by
      have hs : 0 ≤ s ∧ s ≤ 1048576 := hs
      have hi' : (i : Int) < (x0.length : Int) := by omega
      have hm : x ∈ x0 := List.mem_of_getElem? hx
      by_cases hle : (size x : Int) ≤ s
      · refine .inl ⟨s - size x, by omega, ?_, fun n => ?_⟩
        · simp only [List.map_cons, List.sum_cons, left]
          split <;> split <;> omega
        · simp only [hL, decide_eq_true hi', cond_true, Int.toNat_natCast, getD_of hx, hsz x hm s hs.1 hs.2, left_of hle, Option.bind_some, wrap_succ hi hlen]
          rw [if_pos (by omega), decide_eq_false (by omega), cond_false]
      · refine .inr fun n => ?_
        simp only [hL, decide_eq_true hi', cond_true, Int.toNat_natCast, getD_of hx, hsz x hm s hs.1 hs.2, left_not hle, Option.bind_some]
        rw [if_pos (by omega), decide_eq_true (by omega), cond_true]
        simp only [List.map_cons, List.sum_cons, left]
        rw [if_neg (by omega)])
    n 0 l ⟨h0, h1⟩ (by omega) (by omega)
  simpa using key
theorem toLoop {L : Nat → List α → List α → Int → Option (List α)} {to : α → Option α} {re : α → α} {x0 : List α}
    (hL : ∀ n x3 x4, L (n + 1) x0 x3 x4 = bif decide (x4 < (x0.length : Int)) then (if (0 : Int) ≤ x4 ∧ x4 < (x0.length : Int) then Option.bind (to (x0.getD x4.toNat d)) fun r1 => (if (0 : Int) ≤ x4 ∧ x4 < (x3.length : Int) then L n x0 (x3.set x4.toNat (re r1)) (IntKind.i64.wrap (x4 + 1)) else none) else none) else some x3)
    (hlen : x0.length ≤ 9223372036854775807) (hto : ∀ x ∈ x0, ∃ y, to x = some y ∧ re y = x) {n : Nat} (hn : x0.length < n) :
    L n x0 (List.replicate x0.length d) 0 = some x0 := by
  have key := forList (L := fun n i s => L n x0 s i) x0 (fun _ _ => x0) (fun i s => s = x0.take i ++ List.replicate (x0.length - i) d) (fun n s hs => by
      have hs : s = x0.take x0.length ++ List.replicate (x0.length - x0.length) d := hs
      simp only [hL]; simp [hs])
    (fun i x r s hd hi hx hs => by
      have hs : s = x0.take i ++ List.replicate (x0.length - i) d := hs
      have hi' : (i : Int) < (x0.length : Int) := by omega
      have hm : x ∈ x0 := List.mem_of_getElem? hx
      obtain ⟨y, h1, h2⟩ := hto x hm
      have hsl : s.length = x0.length := by rw [hs]; simp; omega
      refine .inl ⟨s.set i x, ?_, rfl, fun n => ?_⟩
      · show s.set i x = x0.take (i + 1) ++ List.replicate (x0.length - (i + 1)) d
        rw [hs, List.set_append]
        have : (x0.take i).length = i := by simp; omega
        rw [this, if_neg (by omega), List.take_add_one, hx, Option.toList_some, List.append_assoc, Nat.sub_self]
        rw [show x0.length - i = (x0.length - (i + 1)) + 1 from by omega, List.replicate_succ, List.set_cons_zero]
        rfl
      · simp only [hL, decide_eq_true hi', cond_true, Int.toNat_natCast, getD_of hx, h1, h2, Option.bind_some, wrap_succ hi hlen, hsl]
        rw [if_pos (by omega), if_pos (by omega)])
    n 0 (List.replicate x0.length d) (by simp) (by omega) (by omega)
  exact key
theorem eqLoop {L : Nat → Int → Option Bool} {x0 : List α} (hend : ∀ n, L (n + 1) (x0.length : Nat) = some true)
    (hcons : ∀ (i : Nat) x n, i < x0.length → x0[i]? = some x → x ∈ x0 → L (n + 1) (i : Nat) = L n ((i + 1 : Nat) : Int)) {n : Nat} (hn : x0.length < n) : L n 0 = some true := by
  have key := forList (σ := Unit) (L := fun n i _ => L n i) x0 (fun _ _ => true) (fun _ _ => True) (fun n _ _ => hend n)
    (fun i x r s hd hi hx _ => .inl ⟨(), trivial, rfl, fun n => hcons i x n hi hx (List.mem_of_getElem? hx)⟩) n 0 () trivial (by omega) (by omega)
  exact key
end
end Go.Ab
end
section
namespace Go.Ab
set_option linter.unusedVariables false
def Fil.size (f : Fil) : Nat := f.name.length
def Wld.size (w : Wld) : Nat := w.files.length + (w.files.map Fil.size).sum
def Cel.size (c : Cel) : Nat := c.name.length + c.code.length
mutual
def Exp.size : Exp → Nat
  | .mk _ _ t a => t.length + (a.length + Exp.sizes a)
def Exp.sizes : List Exp → Nat
  | [] => 0
  | x :: r => Exp.size x + Exp.sizes r
end
theorem Exp.sizes_eq (l : List Exp) : Exp.sizes l = (l.map Exp.size).sum := by
  induction l with
  | nil => rfl
  | cons x l ih => simp [Exp.sizes, ih]
def Rowd.size (r : Rowd) : Nat := r.cells.length + r.frm.length
mutual
def Val.size : Val → Nat
  | .mk _ _ _ t l c r => t.length + (l.length + Val.sizes l) + (c.length + (c.map List.length).sum) + (r.length + (r.map Rowd.size).sum)
def Val.sizes : List Val → Nat
  | [] => 0
  | x :: r => Val.size x + Val.sizes r
end
theorem Val.sizes_eq (l : List Val) : Val.sizes l = (l.map Val.size).sum := by
  induction l with
  | nil => rfl
  | cons x l ih => simp [Val.sizes, ih]
theorem size_mem {α : Type} {f : α → Nat} {l : List α} {x : α} (h : x ∈ l) : f x ≤ (l.map f).sum := by
  induction l with
  | nil => cases h
  | cons a l ih =>
    simp only [List.map_cons, List.sum_cons]
    rcases List.mem_cons.1 h with rfl | h
    · omega
    · have := ih h; omega
theorem Exp.size_eq (e : Exp) : e.size = e.text.length + (e.args.length + (e.args.map Exp.size).sum) := by
  cases e; simp [Exp.size, Exp.sizes_eq, Exp.text, Exp.args]
theorem Val.size_eq (e : Val) : e.size = e.text.length + (e.list.length + (e.list.map Val.size).sum) + (e.columns.length + (e.columns.map List.length).sum) + (e.rows.length + (e.rows.map Rowd.size).sum) := by
  cases e; simp [Val.size, Val.sizes_eq, Val.text, Val.list, Val.columns, Val.rows]
theorem lfit_size {α : Type} {K M : Nat} {p q : α → Prop} {f : α → Nat} {l : List α} (h : LFit M p l) (hs : l.length + (l.map f).sum ≤ K) (hpq : ∀ x ∈ l, p x → f x ≤ K → q x) : LFit K q l :=
  ⟨by omega, fun x hx => hpq x hx (h.2 x hx) (by have := size_mem (f := f) hx; omega)⟩
theorem Exp.fit_size {K M : Nat} : ∀ e : Exp, e.Fit M → e.size ≤ K → e.Fit K := by
  refine Exp.ind fun k n t l ih h hs => ?_
  rw [Exp.fit_iff] at h ⊢
  obtain ⟨h1, h2, h3, h4⟩ := h
  have hs := hs
  rw [Exp.size_eq] at hs
  exact ⟨h1, h2, show List.length _ ≤ K from by omega, lfit_size h4 (by omega) fun x hx => ih x hx⟩
theorem Rowd.fit_size {K M : Nat} {r : Rowd} (h : r.Fit M) (hs : r.size ≤ K) : r.Fit K := by
  unfold Rowd.size at hs
  exact ⟨⟨by omega, h.1.2⟩, ⟨by omega, h.2.2⟩⟩
theorem Val.fit_size {K M : Nat} : ∀ e : Val, e.Fit M → e.size ≤ K → e.Fit K := by
  refine Val.ind fun k n s t l c r ih h hs => ?_
  rw [Val.fit_iff] at h ⊢
  obtain ⟨h1, h2, h3, h4, h5, h6, h7⟩ := h
  have hs := hs
  rw [Val.size_eq] at hs
  exact ⟨h1, h2, h3, show List.length _ ≤ K from by omega, lfit_size h5 (by omega) fun x hx => ih x hx, lfit_size (f := List.length) h6 (by omega) fun x hx _ h => h, lfit_size (f := Rowd.size) h7 (by omega) fun x hx => Rowd.fit_size⟩
theorem Fil.fit_size {K M : Nat} {r : Fil} (h : r.Fit M) (hs : r.size ≤ K) : r.Fit K := ⟨hs, h.2⟩
theorem Wld.fit_size {K M : Nat} {r : Wld} (h : r.Fit M) (hs : r.size ≤ K) : r.Fit K := ⟨h.1, h.2.1, lfit_size (f := Fil.size) h.2.2 hs fun x hx => Fil.fit_size⟩
theorem Cel.fit_size {K M : Nat} {r : Cel} (h : r.Fit M) (hs : r.size ≤ K) : r.Fit K := by
  obtain ⟨h1, h2, h3, h4, h5, h6⟩ := h
  unfold Cel.size at hs
  exact ⟨h1, h2, h3, show List.length _ ≤ K by omega, show List.length _ ≤ K by omega, h6⟩
end Go.Ab
end
section
namespace Go.Ab
set_option linter.unusedVariables false
theorem markHeld {α : Type} {Lm : Nat → List α → Int → Int → Option (Int × List α)} {Lh : Nat → List α → Int → Int → Option Int} {c : α → Nat} {x0 : List α} {k0 B : Int} {n : Nat}
    (hm : ∀ n xs k, xs.length = x0.length → Lm (n + 1) xs k (xs.length : Nat) = some (k, xs)) (hh : ∀ n ys k, ys.length = x0.length → Lh (n + 1) ys k (ys.length : Nat) = some k)
    (hx : ∀ x ∈ x0, ∀ k, k0 ≤ k → k + c x ≤ B → ∃ y, (∀ n xs (i : Nat), xs.length = x0.length → xs[i]? = some x → Lm (n + 1) xs k i = Lm n (xs.set i y) (k + c x) ((i + 1 : Nat) : Int)) ∧
      (∀ n ys (i : Nat), ys.length = x0.length → ys[i]? = some y → Lh (n + 1) ys k i = Lh n ys (k + c x) ((i + 1 : Nat) : Int)))
    (hk : k0 + (x0.map c).sum ≤ B) (hn : x0.length < n) : ∃ ys, ys.length = x0.length ∧ Lm n x0 k0 0 = some (k0 + (x0.map c).sum, ys) ∧ Lh n ys k0 0 = some (k0 + (x0.map c).sum) := by
  have key : ∀ (l pre : List α) (k : Int) (n : Nat), pre.length + l.length = x0.length → (∀ x ∈ l, x ∈ x0) → k0 ≤ k → k + (l.map c).sum ≤ B → l.length < n →
      ∃ ys, ys.length = l.length ∧ Lm n (pre ++ l) k (pre.length : Nat) = some (k + (l.map c).sum, pre ++ ys) ∧ ∀ pre' : List α, pre'.length = pre.length → Lh n (pre' ++ ys) k (pre.length : Nat) = some (k + (l.map c).sum) := by
    intro l
    induction l with
    | nil =>
      intro pre k n hl hmem h0 hB hn
      obtain ⟨n, rfl⟩ : ∃ m, n = m + 1 := ⟨n - 1, by simp at hn; omega⟩
      refine ⟨[], rfl, ?_, fun pre' hp => ?_⟩
      · have := hm n (pre ++ []) k (by simpa using hl)
        simpa using this
      · have := hh n (pre' ++ []) k (by simp [hp]; simpa using hl)
        simp only [List.append_nil, hp] at this
        simpa using this
    | cons x l ih =>
      intro pre k n hl hmem h0 hB hn
      obtain ⟨n, rfl⟩ : ∃ m, n = m + 1 := ⟨n - 1, by simp at hn; omega⟩
      simp only [List.map_cons, List.sum_cons, List.length_cons] at hB hl hn
      obtain ⟨y, h1, h2⟩ := hx x (hmem x List.mem_cons_self) k h0 (by omega)
      obtain ⟨ys, g1, g2, g3⟩ := ih (pre ++ [y]) (k + c x) n (by simp; omega) (fun z hz => hmem z (List.mem_cons_of_mem _ hz)) (by omega) (by omega) (by omega)
      refine ⟨y :: ys, by simp [g1], ?_, fun pre' hp => ?_⟩
      · rw [h1 n (pre ++ x :: l) pre.length (by simp; omega) (by simp)]
        rw [List.set_append, if_neg (by omega), Nat.sub_self, List.set_cons_zero]
        have e : ((pre.length + 1 : Nat) : Int) = ((pre ++ [y]).length : Nat) := by simp
        rw [e, show pre ++ y :: l = (pre ++ [y]) ++ l from by simp, g2]
        simp only [List.map_cons, List.sum_cons, List.append_assoc, List.cons_append, List.nil_append]
        congr 2
        omega
      · rw [h2 n (pre' ++ y :: ys) pre.length (by simp [hp, g1]; omega) (by rw [← hp]; simp)]
        have e : ((pre.length + 1 : Nat) : Int) = ((pre ++ [y]).length : Nat) := by simp
        rw [e, show pre' ++ y :: ys = (pre' ++ [y]) ++ ys from by simp, g3 (pre' ++ [y]) (by simp [hp])]
        simp only [List.map_cons, List.sum_cons]
        congr 1
        omega
  obtain ⟨ys, h1, h2, h3⟩ := key x0 [] k0 n (by simp) (fun x h => h) (Int.le_refl _) hk hn
  exact ⟨ys, h1, h2, by simpa using h3 [] rfl⟩
theorem getD_set_self {α : Type} {xs : List α} {i : Nat} (h : i < xs.length) (y d : α) : (xs.set i y).getD i d = y := by simp [List.getD, h]
end Go.Ab
end
section
namespace Go.Ab
set_option linter.unusedVariables false
theorem szFile_eq {N : Nat} {f : Fil} (h : f.Fit maxLen) {l : Int} (h0 : 0 ≤ l) (h1 : l ≤ 1048576) : laws_szFile N f l = some (left f.size l) := by
  exact szLast h.1 h0 h1
theorem szFileS_eq {N : Nat} {x0 : List Fil} (h : LFit maxLen (Fil.Fit maxLen) x0) (hn : x0.length < N) {l : Int} (h0 : 0 ≤ l) (h1 : l ≤ 1048576) : laws_szFileS N x0 l = some (left (x0.length + (x0.map Fil.size).sum) l) :=
  szThen h.1 h0 h1 rfl fun m hm0 hm1 => szLoop (L := fun n x0 x1 x5 => laws_szFileS_b5 N n x0 x1 x5) (d := Ty.fil.dflt) (sz := laws_szFile N) (fun _ _ _ => rfl) h.1 (fun x hx l h0 h1 => szFile_eq (h.2 x hx) h0 h1) hn hm0 hm1
theorem szWorld_eq {N : Nat} {w : Wld} (h : w.Fit maxLen) (hn : w.files.length < N) {l : Int} (h0 : 0 ≤ l) (h1 : l ≤ 1048576) : laws_szWorld N w l = some (left w.size l) := left_two (szFileS_eq h.2.2 hn h0 h1)
theorem toFileS_eq {N : Nat} {x0 : List Fil} (hl : x0.length ≤ 1048576) (hn : x0.length < N) : laws_toFileS N x0 = some x0 := by
  unfold laws_toFileS
  rw [if_pos ⟨by omega, rfl, by unfold Lim; omega⟩]
  exact toLoop (L := fun n x0 x3 x4 => laws_toFileS_b3 N n x0 x3 x4) (to := laws_toFile N) (re := fun r => r) (fun _ _ _ => rfl) (by omega) (fun x hx => ⟨x, rfl, rfl⟩) hn
theorem toWorld_eq {N : Nat} {w : Wld} (hl : w.files.length ≤ 1048576) (hn : w.files.length < N) : laws_toWorld N w = some w := by
  unfold laws_toWorld
  rw [toFileS_eq hl hn]; rfl
theorem eqFile_self (N : Nat) (f : Fil) : laws_eqFile N f f = some true := by simp [laws_eqFile]
theorem eqFileS_self {N : Nat} {x0 : List Fil} (hl : x0.length ≤ 9223372036854775807) (hn : x0.length < N) : laws_eqFileS N x0 x0 = some true := by
  unfold laws_eqFileS
  rw [bne_self_eq_false, cond_false]
  exact eqLoop (L := fun n i => laws_eqFileS_b4 N n x0 x0 i) (fun n => by simp [laws_eqFileS_b4]) (fun i x n hi hx hm => by
    have hi' : (i : Int) < (x0.length : Int) := by omega
    simp only [laws_eqFileS_b4, decide_eq_true hi', cond_true, Int.toNat_natCast, getD_of hx, eqFile_self, Option.bind_some, wrap_succ hi hl, Bool.not_true, cond_false]
    rw [if_pos (by omega), if_pos (by omega)]) hn
theorem eqWorld_self {N : Nat} {w : Wld} (hl : w.files.length ≤ 9223372036854775807) (hn : w.files.length < N) : laws_eqWorld N w w = some true := by
  simp [laws_eqWorld, eqFileS_self hl hn]
end Go.Ab
end
section
namespace Go.Ab
set_option linter.unusedVariables false
set_option linter.unusedSimpArgs false
def letterC (c : UInt8) : Bool := decide ((c.toNat : Int) ≥ 97) && decide ((c.toNat : Int) ≤ 122)
def digitC (c : UInt8) : Bool := decide ((c.toNat : Int) ≥ 48) && decide ((c.toNat : Int) ≤ 57)
def shapeG : List UInt8 → Bool → Bool
  | [], _ => true
  | x :: r, f => (letterC x || (!f && digitC x)) && shapeG r false
theorem spec_l2Shape_eq {N : Nat} {s : Str} (hl : s.length ≤ 9223372036854775807) (hn : s.length < N) : spec_l2Shape N s = some (shapeG s true && decide ((s.length : Int) > 0)) :=
  forList (L := fun n i _ => spec_l2Shape_b2 N n s i) s (fun l f => shapeG l f && decide ((s.length : Int) > 0)) (fun i f => f = (i == 0)) (fun n _ _ => by simp [spec_l2Shape_b2, shapeG])
    (fun i x l f hd hi hx hf => by
      have hi' : (i : Int) < (s.length : Int) := by omega
      have hi0 : ((i : Int) == 0) = f := by rw [hf]; cases i <;> simp <;> omega
      by_cases h1 : (letterC x || (!f && digitC x)) = true
      · refine .inl ⟨false, by simp, by simp [shapeG, h1], fun n => ?_⟩
        simp only [spec_l2Shape_b2, decide_eq_true hi', cond_true, Int.toNat_natCast, getD_of hx, wrap_succ hi hl, hi0]
        rw [if_pos (by omega)]
        unfold letterC digitC at h1
        by_cases c1 : (x.toNat : Int) ≥ 97 <;> by_cases c2 : (x.toNat : Int) ≤ 122 <;> by_cases c3 : (x.toNat : Int) ≥ 48 <;> by_cases c4 : (x.toNat : Int) ≤ 57 <;> cases f <;>
          simp only [c1, c2, c3, c4, decide_true, decide_false, cond_true, cond_false, Bool.not_true, Bool.not_false, Bool.and_true, Bool.and_false, Bool.or_true, Bool.or_false, Bool.false_and, Bool.true_and, Bool.false_or, Bool.false_eq_true] at h1 ⊢
      · refine .inr fun n => ?_
        have h1 := Bool.eq_false_iff.2 h1
        simp only [spec_l2Shape_b2, decide_eq_true hi', cond_true, Int.toNat_natCast, getD_of hx, wrap_succ hi hl, hi0, shapeG, h1, Bool.false_and]
        rw [if_pos (by omega)]
        unfold letterC digitC at h1
        by_cases c1 : (x.toNat : Int) ≥ 97 <;> by_cases c2 : (x.toNat : Int) ≤ 122 <;> by_cases c3 : (x.toNat : Int) ≥ 48 <;> by_cases c4 : (x.toNat : Int) ≤ 57 <;> cases f <;>
          simp only [c1, c2, c3, c4, decide_true, decide_false, cond_true, cond_false, Bool.not_true, Bool.not_false, Bool.and_true, Bool.and_false, Bool.or_true, Bool.or_false, Bool.false_and, Bool.true_and, Bool.false_or, Bool.true_eq_false] at h1 ⊢) N 0 true rfl (by omega) (by omega)
theorem impl_within_eq (N : Nat) (a b c : Int) : impl_within N a b c = some (decide (b ≤ a) && decide (a ≤ c)) := by
  unfold impl_within
  cases h : decide (b ≤ a) <;> simp
theorem spec_l1In_eq (N : Nat) (a b c : Int) : spec_l1In N a b c = some (decide (b ≤ a) && decide (a ≤ c)) := by
  unfold spec_l1In
  cases h : decide (b ≤ a)
  · rfl
  · rfl
theorem impl_isWord_eq {N : Nat} {s : Str} (hl : s.length ≤ 9223372036854775807) (hn : s.length < N) : impl_isWord N s = some (shapeG s true && (decide ((1 : Int) ≤ s.length) && decide ((s.length : Int) ≤ 8))) :=
  forList (L := fun n i _ => impl_isWord_b2 N n s i) s (fun l f => shapeG l f && (decide ((1 : Int) ≤ s.length) && decide ((s.length : Int) ≤ 8))) (fun i f => f = (i == 0)) (fun n _ _ => by simp [impl_isWord_b2, shapeG, impl_within_eq])
    (fun i x l f hd hi hx hf => by
      have hi' : (i : Int) < (s.length : Int) := by omega
      have hi0 : ((i : Int) == 0) = f := by rw [hf]; cases i <;> simp <;> omega
      have e1 : decide ((x.toNat : Int) < 48) = !decide ((x.toNat : Int) ≥ 48) := by by_cases c : (x.toNat : Int) ≥ 48 <;> simp [c] <;> omega
      have e2 : decide ((x.toNat : Int) > 57) = !decide ((x.toNat : Int) ≤ 57) := by by_cases c : (x.toNat : Int) ≤ 57 <;> simp [c] <;> omega
      by_cases h1 : (letterC x || (!f && digitC x)) = true
      · refine .inl ⟨false, by simp, by simp [shapeG, h1], fun n => ?_⟩
        simp only [impl_isWord_b2, decide_eq_true hi', cond_true, Int.toNat_natCast, getD_of hx, wrap_succ hi hl, hi0, e1, e2]
        rw [if_pos (by omega)]
        unfold letterC digitC at h1
        by_cases c1 : (x.toNat : Int) ≥ 97 <;> by_cases c2 : (x.toNat : Int) ≤ 122 <;> by_cases c3 : (x.toNat : Int) ≥ 48 <;> by_cases c4 : (x.toNat : Int) ≤ 57 <;> cases f <;>
          simp only [c1, c2, c3, c4, decide_true, decide_false, cond_true, cond_false, Bool.not_true, Bool.not_false, Bool.and_true, Bool.and_false, Bool.or_true, Bool.or_false, Bool.false_and, Bool.true_and, Bool.false_or, Bool.false_eq_true] at h1 ⊢
      · refine .inr fun n => ?_
        have h1 := Bool.eq_false_iff.2 h1
        simp only [impl_isWord_b2, decide_eq_true hi', cond_true, Int.toNat_natCast, getD_of hx, wrap_succ hi hl, hi0, e1, e2, shapeG, h1, Bool.false_and]
        rw [if_pos (by omega)]
        unfold letterC digitC at h1
        by_cases c1 : (x.toNat : Int) ≥ 97 <;> by_cases c2 : (x.toNat : Int) ≤ 122 <;> by_cases c3 : (x.toNat : Int) ≥ 48 <;> by_cases c4 : (x.toNat : Int) ≤ 57 <;> cases f <;>
          simp only [c1, c2, c3, c4, decide_true, decide_false, cond_true, cond_false, Bool.not_true, Bool.not_false, Bool.and_true, Bool.and_false, Bool.or_true, Bool.or_false, Bool.false_and, Bool.true_and, Bool.false_or, Bool.true_eq_false] at h1 ⊢) N 0 true rfl (by omega) (by omega)
def reservedL : List Str := [[108, 101, 116], [105, 110], [105, 102], [116, 104, 101, 110], [101, 108, 115, 101], [102, 111, 114], [100, 111], [108, 101, 110], [115, 117, 109], [116, 97, 107, 101], [115, 107, 105, 112], [114, 97, 110, 103, 101], [110, 116, 104], [119, 104, 101, 114, 101], [107, 101, 101, 112], [97, 100, 100], [103, 114, 111, 117, 112], [106, 111, 105, 110], [99, 111, 108, 117, 109, 110], [114, 111, 119, 115], [99, 108, 111, 99, 107], [99, 104, 97, 110, 99, 101], [102, 105, 108, 101], [116, 97, 98, 108, 101]]
theorem spec_l1Has_eq {N : Nat} {xs : List Str} {s : Str} (hl : xs.length ≤ 9223372036854775807) (hn : xs.length < N) : spec_l1Has N xs s = some (xs.any (· == s)) :=
  forList (σ := Unit) (L := fun n i _ => spec_l1Has_b2 N n xs s i) xs (fun l _ => l.any (· == s)) (fun _ _ => True) (fun n _ _ => by simp [spec_l1Has_b2])
    (fun i x l _ hd hi hx _ => by
      have hi' : (i : Int) < (xs.length : Int) := by omega
      cases h1 : x == s
      · refine .inl ⟨(), trivial, by simp [h1], fun n => ?_⟩
        simp only [spec_l1Has_b2, decide_eq_true hi', cond_true, Int.toNat_natCast, getD_of hx, h1, cond_false, wrap_succ hi hl]
        rw [if_pos (by omega)]
      · refine .inr fun n => ?_
        simp only [spec_l1Has_b2, decide_eq_true hi', cond_true, Int.toNat_natCast, getD_of hx, h1]
        rw [if_pos (by omega)]
        simp [h1]) N 0 () trivial (by omega) (by omega)
def reserved (s : Str) : Bool := reservedL.any (· == s)
theorem spec_IsReserved_eq {N : Nat} {s : Str} (hn : 24 < N) : spec_IsReserved N s = some (reserved s) := by
  unfold spec_IsReserved spec_l2Reserved
  rw [Option.bind_some, show ([[108, 101, 116], [105, 110], [105, 102], [116, 104, 101, 110], [101, 108, 115, 101], [102, 111, 114], [100, 111], [108, 101, 110], [115, 117, 109], [116, 97, 107, 101], [115, 107, 105, 112], [114, 97, 110, 103, 101], [110, 116, 104], [119, 104, 101, 114, 101], [107, 101, 101, 112], [97, 100, 100], [103, 114, 111, 117, 112], [106, 111, 105, 110], [99, 111, 108, 117, 109, 110], [114, 111, 119, 115], [99, 108, 111, 99, 107], [99, 104, 97, 110, 99, 101], [102, 105, 108, 101], [116, 97, 98, 108, 101]] : List Str) = reservedL from rfl, spec_l1Has_eq (by decide) hn]
  rfl
theorem impl_IsReserved_eq (N : Nat) (s : Str) : impl_IsReserved N s = some (reserved s) := by
  by_cases h : s ∈ reservedL
  · have h' : reserved s = true := List.any_eq_true.2 ⟨s, h, by simp⟩
    rw [h']
    simp only [reservedL, List.mem_cons, List.not_mem_nil, or_false] at h
    rcases h with h | h | h | h | h | h | h | h | h | h | h | h | h | h | h | h | h | h | h | h | h | h | h | h <;> subst h <;> rfl
  · have h' : reserved s = false := by
      unfold reserved
      rw [List.any_eq_false]
      intro x hx hxs
      exact h (by rw [← eq_of_beq hxs]; exact hx)
    rw [h']
    have hne : ∀ x ∈ reservedL, (s == x) = false := by
      intro x hx
      cases hb : s == x
      · rfl
      · exact absurd (by rw [eq_of_beq hb]; exact hx) h
    simp only [reservedL, List.mem_cons, List.not_mem_nil, or_false, forall_eq_or_imp, forall_eq] at hne
    simp only [impl_IsReserved, impl_ArgumentCount, hne, cond_false, Option.bind_some]
    rfl
def validName (s : Str) : Bool := shapeG s true && (decide ((1 : Int) ≤ s.length) && decide ((s.length : Int) ≤ 8)) && !reserved s
theorem impl_IsValidName_eq {N : Nat} {s : Str} (hl : s.length ≤ 9223372036854775807) (hn : s.length < N) : impl_IsValidName N s = some (validName s) := by
  unfold impl_IsValidName validName
  rw [impl_isWord_eq hl hn, Option.bind_some]
  cases (shapeG s true && (decide ((1 : Int) ≤ s.length) && decide ((s.length : Int) ≤ 8)))
  · rfl
  · rw [impl_IsReserved_eq]; rfl
theorem spec_IsValidName_eq {N : Nat} {s : Str} (hl : s.length ≤ 9223372036854775807) (hn : s.length < N) (hn2 : 24 < N) : spec_IsValidName N s = some (validName s) := by
  unfold spec_IsValidName validName
  rw [spec_l2Shape_eq hl hn, Option.bind_some, spec_IsReserved_eq hn2]
  have : decide ((s.length : Int) > 0) = decide ((1 : Int) ≤ s.length) := by by_cases c : (s.length : Int) > 0 <;> simp [c] <;> omega
  rw [this]
  cases shapeG s true <;> cases decide ((1 : Int) ≤ s.length) <;> cases decide ((s.length : Int) ≤ 8) <;> rfl
end Go.Ab
end
section
namespace Go.Ab
set_option linter.unusedVariables false
set_option linter.unusedSimpArgs false
theorem guard {s : Nat} (h : ¬ left s 1048576 < 0) : s ≤ 1048576 := by unfold left at h; split at h <;> omega
theorem wld_of_cells {a0 : Wld} (f0 : ∀ z ∈ [CV.int .i64 (Wld.clock a0), .int .i64 (Wld.seed a0), .sl .ro .fil (Wld.files a0)], DFit z.toD) : a0.Fit maxLen := by
  have f := fun z hz => (f0 z hz).dk
  simp only [List.mem_cons, List.not_mem_nil, or_false, forall_eq_or_imp, forall_eq] at f
  obtain ⟨h1, h2, h3⟩ := f
  exact ⟨cell_int h1, cell_int h2, (cell_sl h3).imp fun x => fil_fit.1⟩
end Go.Ab
end
