/- The statement FnExactNthOf holds: plain functions, certificates, laws. Conditions: none. -/
import Derived.Test.YtnfikhfcblcmpaaL2
import Derived.Test.YtnfikhfcblcmpaaFnExactNthOfP2
set_option linter.all false
section
namespace Go.Ab
set_option linter.unusedVariables false
set_option linter.unusedSimpArgs false
def law2 (I : Val → Val → Option (Val × Bool)) (S : Val → Val → Option Val) (N : Nat) (a0 a1 : Val) : Option Bool :=
  Option.bind (xFL N a0 1048576) fun r1 =>
  bif (decide ((r1 : Int) < 0)) then (
    some true
  ) else (
    Option.bind (xFL N a1 r1) fun r2 =>
    bif (decide ((r2 : Int) < 0)) then (
      some true
    ) else (
      Option.bind (xA1 N a0) fun r3 =>
      Option.bind (xA1 N a1) fun r4 =>
      Option.bind (S r3 r4) fun r5 =>
      Option.bind (xA1 N a0) fun r6 =>
      Option.bind (xA1 N a1) fun r7 =>
      Option.bind (I r6 r7) fun r8 =>
      bif r8.2 then (
        if List.isEmpty (Val.list r8.1) = true then
        if List.isEmpty (Val.columns r8.1) = true then
        if List.isEmpty (Val.rows r8.1) = true then
        Option.bind (xA0 N (Val.mk (Val.kind r8.1) (Val.n r8.1) (Val.step r8.1) (Val.text r8.1) [] [] []) r5) fun r9 =>
        bif (!r9) then (
          some false
        ) else (
          Option.bind (xA1 N a0) fun r10 =>
          Option.bind (xA0 N r6 r10) fun r11 =>
          bif (!r11) then (
            some false
          ) else (
            Option.bind (xA1 N a1) fun r12 =>
            Option.bind (xA0 N r7 r12) fun r13 =>
            bif (!r13) then (
              some false
            ) else (
              Option.bind (xBt N r6 1) fun r14 =>
              if List.length r14.2.1 = List.length (Val.list r6) then
              if List.length r14.2.2.1 = List.length (Val.columns r6) then
              if List.length r14.2.2.2 = List.length (Val.rows r6) then
              Option.bind (xBt N r7 r14.1) fun r15 =>
              if List.length r15.2.1 = List.length (Val.list r7) then
              if List.length r15.2.2.1 = List.length (Val.columns r7) then
              if List.length r15.2.2.2 = List.length (Val.rows r7) then
              bif (decide ((r15.1 : Int) < 0)) then (
                some false
              ) else (
                Option.bind (xA0 N (Val.mk (Val.kind r8.1) (Val.n r8.1) (Val.step r8.1) (Val.text r8.1) [] [] []) r5) fun r16 =>
                bif (!r16) then (
                  some false
                ) else (
                  Option.bind (xDz N (Val.mk (Val.kind r8.1) (Val.n r8.1) (Val.step r8.1) (Val.text r8.1) [] [] []) 1) fun r17 =>
                  Option.bind (xA2 N (Val.mk (Val.kind r8.1) (Val.n r8.1) (Val.step r8.1) (Val.text r8.1) [] [] []) 1) fun r18 =>
                  bif (decide ((r18 : Int) < 0)) then (
                    some false
                  ) else (
                    bif ((r18 : Int) != r17) then (
                      some false
                    ) else (
                      Option.bind (xA1 N a0) fun r19 =>
                      Option.bind (xA1 N a1) fun r20 =>
                      Option.bind (I r19 r20) fun r21 =>
                      bif r21.2 then (
                        if List.isEmpty (Val.list r21.1) = true then
                        if List.isEmpty (Val.columns r21.1) = true then
                        if List.isEmpty (Val.rows r21.1) = true then
                        Option.bind (xA0 N (Val.mk (Val.kind r21.1) (Val.n r21.1) (Val.step r21.1) (Val.text r21.1) [] [] []) r5) fun r22 =>
                        bif (!r22) then (
                          some false
                        ) else (
                          Option.bind (xA2 N (Val.mk (Val.kind r8.1) (Val.n r8.1) (Val.step r8.1) (Val.text r8.1) [] [] []) 1) fun r23 =>
                          bif (decide ((r23 : Int) < 0)) then (
                            some false
                          ) else (
                            bif ((r23 : Int) != r17) then (
                              some false
                            ) else (
                              some true
                            )
                          )
                        )
                        else none
                        else none
                        else none
                      ) else (
                        Option.bind (xA0 N r21.1 r5) fun r22 =>
                        bif (!r22) then (
                          some false
                        ) else (
                          Option.bind (xA2 N (Val.mk (Val.kind r8.1) (Val.n r8.1) (Val.step r8.1) (Val.text r8.1) [] [] []) 1) fun r23 =>
                          bif (decide ((r23 : Int) < 0)) then (
                            some false
                          ) else (
                            bif ((r23 : Int) != r17) then (
                              some false
                            ) else (
                              some true
                            )
                          )
                        )
                      )
                    )
                  )
                )
              )
              else none
              else none
              else none
              else none
              else none
              else none
            )
          )
        )
        else none
        else none
        else none
      ) else (
        Option.bind (xA0 N r8.1 r5) fun r9 =>
        bif (!r9) then (
          some false
        ) else (
          Option.bind (xA1 N a0) fun r10 =>
          Option.bind (xA0 N r6 r10) fun r11 =>
          bif (!r11) then (
            some false
          ) else (
            Option.bind (xA1 N a1) fun r12 =>
            Option.bind (xA0 N r7 r12) fun r13 =>
            bif (!r13) then (
              some false
            ) else (
              Option.bind (xBt N r6 1) fun r14 =>
              if List.length r14.2.1 = List.length (Val.list r6) then
              if List.length r14.2.2.1 = List.length (Val.columns r6) then
              if List.length r14.2.2.2 = List.length (Val.rows r6) then
              Option.bind (xBt N r7 r14.1) fun r15 =>
              if List.length r15.2.1 = List.length (Val.list r7) then
              if List.length r15.2.2.1 = List.length (Val.columns r7) then
              if List.length r15.2.2.2 = List.length (Val.rows r7) then
              bif (decide ((r15.1 : Int) < 0)) then (
                some false
              ) else (
                Option.bind (xA0 N r8.1 r5) fun r16 =>
                bif (!r16) then (
                  some false
                ) else (
                  Option.bind (xBt N r8.1 1) fun r17 =>
                  if List.length r17.2.1 = List.length (Val.list r8.1) then
                  if List.length r17.2.2.1 = List.length (Val.columns r8.1) then
                  if List.length r17.2.2.2 = List.length (Val.rows r8.1) then
                  Option.bind (xA2 N (Val.mk (Val.kind r8.1) (Val.n r8.1) (Val.step r8.1) (Val.text r8.1) r17.2.1 r17.2.2.1 r17.2.2.2) 1) fun r18 =>
                  bif (decide ((r18 : Int) < 0)) then (
                    some false
                  ) else (
                    bif ((r18 : Int) != r17.1) then (
                      some false
                    ) else (
                      Option.bind (xA1 N a0) fun r19 =>
                      Option.bind (xA1 N a1) fun r20 =>
                      Option.bind (I r19 r20) fun r21 =>
                      bif r21.2 then (
                        if List.isEmpty (Val.list r21.1) = true then
                        if List.isEmpty (Val.columns r21.1) = true then
                        if List.isEmpty (Val.rows r21.1) = true then
                        Option.bind (xA0 N (Val.mk (Val.kind r21.1) (Val.n r21.1) (Val.step r21.1) (Val.text r21.1) [] [] []) r5) fun r22 =>
                        bif (!r22) then (
                          some false
                        ) else (
                          Option.bind (xA2 N (Val.mk (Val.kind r8.1) (Val.n r8.1) (Val.step r8.1) (Val.text r8.1) r17.2.1 r17.2.2.1 r17.2.2.2) 1) fun r23 =>
                          bif (decide ((r23 : Int) < 0)) then (
                            some false
                          ) else (
                            bif ((r23 : Int) != r17.1) then (
                              some false
                            ) else (
                              some true
                            )
                          )
                        )
                        else none
                        else none
                        else none
                      ) else (
                        Option.bind (xA0 N r21.1 r5) fun r22 =>
                        bif (!r22) then (
                          some false
                        ) else (
                          Option.bind (xA2 N (Val.mk (Val.kind r8.1) (Val.n r8.1) (Val.step r8.1) (Val.text r8.1) r17.2.1 r17.2.2.1 r17.2.2.2) 1) fun r23 =>
                          bif (decide ((r23 : Int) < 0)) then (
                            some false
                          ) else (
                            bif ((r23 : Int) != r17.1) then (
                              some false
                            ) else (
                              some true
                            )
                          )
                        )
                      )
                    )
                  )
                  else none
                  else none
                  else none
                )
              )
              else none
              else none
              else none
              else none
              else none
              else none
            )
          )
        )
      )
    )
  )
theorem law2_true {I : Nat → Val → Val → Option (Val × Bool)} {S : Nat → Val → Val → Option Val} {a0 a1 : Val} {r : Val × Bool} (f0 : ∀ z ∈ [CV.int .i64 (Val.kind a0), .int .i64 (Val.n a0), .int .i64 (Val.step a0), .str (Val.text a0), .sl .ro .val (Val.list a0), .sl .ro .str (Val.columns a0), .sl .ro .row (Val.rows a0)], DFit z.toD) (f1 : ∀ z ∈ [CV.int .i64 (Val.kind a1), .int .i64 (Val.n a1), .int .i64 (Val.step a1), .str (Val.text a1), .sl .ro .val (Val.list a1), .sl .ro .str (Val.columns a1), .sl .ro .row (Val.rows a1)], DFit z.toD)
    (H : a0.Fit 1048576 → a1.Fit 1048576 → a0.size + a1.size ≤ 1048576 → Good1 1048576 r ∧ Big fun N => I N a0 a1 = some r ∧ S N a0 a1 = some r.1) : ∃ N, law2 (I N) (S N) N a0 a1 = some true := by
  have hF := val_of_cells f0
  have hG := val_of_cells f1
  by_cases h : left a0.size 1048576 < 0
  · exact ((xG4 hF).imp fun N hs => by simp [law2, hs 1048576 (by omega) (by omega), h]).get
  · have g0 := left_ge h
    rw [left_of g0] at h
    by_cases h' : left a1.size (1048576 - (a0.size : Int)) < 0
    · refine (((xG4 hF).and (xG4 hG)).imp fun N ⟨hs, ht⟩ => ?_).get
      have e1 := hs 1048576 (by omega) (by omega)
      rw [left_of g0] at e1
      simp only [law2, e1, Option.bind_some, decide_eq_false h, cond_false, ht _ (by omega : 0 ≤ 1048576 - (a0.size : Int)) (by omega), decide_eq_true h', cond_true]
    · have g1 := left_ge h'
      have s0 := Val.fit_size (K := 1048576) a0 hF (by omega)
      have s1 := Val.fit_size (K := 1048576) a1 hG (by omega)
      have c0 := Val.cnt_le a0
      have c1 := Val.cnt_le a1
      obtain ⟨⟨hff, hfc, hfl⟩, hB⟩ := H s0 s1 (by omega)
      refine ((((xG4 hF).and (xG4 hG)).and (((toValue_eq s0).and (toValue_eq s1)).and ((xHn s0 (by omega)).and (xHn s1 (by omega))))).and
        ((hB.and (xHn hff (by omega))).and (((xHx (by omega) s0).and (xHx (by omega) s1)).and ((markValue_held (by omega) hff (by omega)).and (xGV 274877906944)))))
        |>.imp (fun N ⟨⟨⟨z0, z1⟩, ⟨t0, t1⟩, q0, q1⟩, ⟨⟨k4, k5⟩, k6⟩, ⟨m0, m1⟩, m3, hN⟩ => ?_) |>.get
      obtain ⟨k0, xa0, xb0, xc0, u0, u1, p01, p02, p03, p04, _⟩ := m0 1 (by omega) (by omega)
      obtain ⟨k1, xa1, xb1, xc1, v0, v1, p11, p12, p13, p14, _⟩ := m1 k0 (by omega) (by omega)
      obtain ⟨k', ya, yb, yc, r0, r1, r2, r3, r4, r5⟩ := m3
      have e1 := z0 1048576 (by omega) (by omega)
      rw [left_of g0] at e1
      have e2 := z1 _ (by omega : 0 ≤ 1048576 - (a0.size : Int)) (by omega)
      simp only [law2, e1, e2, t0, t1, q0, q1, k4, k5, k6, Option.bind_some, decide_eq_false h, decide_eq_false h', cond_false]
      cases hr2 : r.2
      · simp only [cond_false, k6, Bool.not_true, p04, p14, Option.bind_some, if_pos p01, if_pos p02, if_pos p03, if_pos p11, if_pos p12, if_pos p13, decide_eq_false (by omega : ¬ k1 < 0), r4, if_pos r1, if_pos r2, if_pos r3, r5, decide_eq_false (by omega : ¬ k' < 0), bne_self_eq_false]
      · have hflat := hfl hr2
        obtain ⟨f1, f2, f3, _⟩ := hflat
        have hh : xA2 N r.1 1 = some 1 := by rw [← flat_eta f1 f2 f3]; exact heldFlat_eq hN (by omega)
        simp only [cond_true, f1, f2, f3, List.isEmpty_nil, if_true, flat_eta f1 f2 f3, k6, Option.bind_some, Bool.not_true, cond_false, p04, p14, if_pos p01, if_pos p02, if_pos p03, if_pos p11, if_pos p12, if_pos p13, decide_eq_false (by omega : ¬ k1 < 0), markE_eq hN, hh, decide_eq_false (by omega : ¬ (1 : Int) < 0), bne_self_eq_false]
end Go.Ab
end
section
namespace Go.Ab
set_option linter.unusedVariables false
set_option linter.unusedSimpArgs false
def chkG (n : Int) : Val := bif xGp n then numV n else errV 5
theorem numOk_i64' {n : Int} (h : xGp n = true) : I64 n := by
  unfold xGp at h
  simp only [Bool.and_eq_true, decide_eq_true_eq] at h
  exact ⟨by omega, by omega⟩
theorem flat_chk (n : Int) : Flat (chkG n) := by
  unfold chkG
  cases h : xGp n
  · exact flat_err (xGW (by omega) (by omega))
  · exact flat_num (numOk_i64' h)
theorem impl_chk_eq (N : Nat) (n : Int) : xCF N n = some (chkG n) := by
  simp only [xCF, xGn, Option.bind_some, xA7, xEL, chkG]
  cases xGp n <;> rfl
theorem spec_chk_eq (N : Nat) (n : Int) : xDp N n = some (chkG n) := by
  simp only [xDp, xGq, Option.bind_some, xA8, xEU, chkG]
  cases xGp n <;> rfl
def seqT (n v : Val) : Bool := (n.kind != 1) || ((v.kind != 3) && (v.kind != 4))
def seqG (n v : Val) : Val × Bool × Bool := bif (opG [n, v]).2.1 then opG [n, v] else (errV 4, seqT n v, false)
def seqS (n v : Val) : Val × Bool := bif (seqG n v).2.1 then ((seqG n v).1, true) else (nilV, false)
theorem flat_seqG {K : Nat} {n v : Val} (hn : n.Fit K) (hv : v.Fit K) : Flat (seqG n v).1 := by
  unfold seqG
  cases (opG [n, v]).2.1
  · exact flat_err (xGW (by omega) (by omega))
  · exact flat_opG (two_fit hn hv)
theorem seq_ok {n v : Val} (h : (seqG n v).2.1 = false) : (seqG n v).2.2 = false ∧ xEw v = true ∧ n.kind = 1 ∧ (v.kind = 3 ∨ v.kind = 4) ∧ xEw n = true := by
  unfold seqG at h ⊢
  cases h1 : (opG [n, v]).2.1
  · rw [h1] at h
    simp only [cond_false] at h ⊢
    have ho := opG_ok h1
    refine ⟨by simp, ho v (by simp), ?_⟩
    simp only [seqT, Bool.or_eq_false_iff, bne_eq_false_iff_eq, Bool.and_eq_false_iff] at h
    exact ⟨h.1, h.2, ho n (by simp)⟩
  · rw [h1] at h; simp only [cond_true] at h; rw [h1] at h; cases h
theorem seq_eq {K : Nat} (hK : 24 ≤ K ∧ K ≤ 4611686018427387903) {n v : Val} (hn : n.Fit K) (hv : v.Fit K) : Big fun N => xDl N n v = some (seqG n v) ∧ xF8 N n v = some (seqS n v) := by
  refine (operandError_eq hK (l := [n, v]) (two_fit hn hv) (by simp; omega)).imp fun N ⟨h1, h2⟩ => ?_
  obtain ⟨e1, e2, e3, e4, e5⟩ := opG_flat (l := [n, v])
  constructor
  · simp only [xDl, Val.re_eq, h1, Option.bind_some, e1, e2, e3, List.isEmpty_nil, if_true, flat_eta e1 e2 e3, xA7, seqG, seqT]
    cases g : (opG [n, v]).2.1
    · rw [opG_tag g]; cases (n.kind != 1) <;> cases (v.kind != 3) <;> cases (v.kind != 4) <;> rfl
    · cases h : (opG [n, v]).2.2 <;> simp only [cond_true, cond_false] <;> (congr 1; exact Prod.ext rfl (Prod.ext g.symm h.symm))
  · simp only [xF8, Val.re_eq, h2, Option.bind_some, xA8, seqS, seqG, seqT]
    cases g : (opG [n, v]).2.1
    · cases (n.kind != 1) <;> cases (v.kind != 3) <;> cases (v.kind != 4) <;> rfl
    · simp only [cond_true, g]
def nthB (n v : Val) : Val := bif decide (n.n < 0) || ((v.kind == 3) && decide (n.n ≥ (v.list.length : Int))) then errV 5 else bif v.kind == 3 then v.list.getD n.n.toNat Ty.val.dflt else chkG (IntKind.i64.wrap (v.n + IntKind.i64.wrap (n.n * v.step)))
def nthG (n v : Val) : Val × Bool := bif (seqG n v).2.1 then ((seqG n v).1, (seqG n v).2.2) else (nthB n v, false)
theorem nth_eq {K : Nat} (hK : 24 ≤ K ∧ K ≤ 137438953472) {n v : Val} (hn : n.Fit K) (hv : v.Fit K) : Big fun N => xDG N n v = some (nthG n v) ∧ xEt N n v = some (nthG n v).1 := by
  obtain ⟨_, _, _, _, h5, _, _⟩ := Val.fit_iff.1 hv
  have hk : K ≤ 137438953472 := hK.2
  refine ((seq_eq (by omega) hn hv).and (((Big.list fun x hx => spec_copy_eq' (h5.2 x hx) hk)).and (Big.list fun x hx => impl_copy_eq' (h5.2 x hx) hk))).imp fun N ⟨⟨h1, h2⟩, c1, c2⟩ => ?_
  obtain ⟨e1, e2, e3, _⟩ := flat_seqG (K := K) hn hv
  cases g : (seqG n v).2.1
  · obtain ⟨gt, _, _, gk, _⟩ := seq_ok g
    have hget : ∀ h : 0 ≤ n.n ∧ n.n < (v.list.length : Int), v.list.getD n.n.toNat Ty.val.dflt ∈ v.list := fun h => by
      have hl : n.n.toNat < v.list.length := by omega
      have : v.list.getD n.n.toNat Ty.val.dflt = v.list[n.n.toNat] := by simp [List.getD, hl]
      rw [this]; exact List.getElem_mem hl
    have hs : seqS n v = (nilV, false) := by unfold seqS; rw [g]; rfl
    rw [hs] at h2
    by_cases a : n.n < 0
    · simp only [xDG, xEt, h1, h2, Option.bind_some, g, gt, cond_false, decide_eq_true a, cond_true, xA7, xA8, nthG, nthB, Bool.true_or]
      first | exact ⟨rfl, rfl⟩ | exact ⟨trivial, trivial⟩
    · cases b : (v.kind == 3)
      · simp only [xDG, xEt, h1, h2, Option.bind_some, g, gt, cond_false, decide_eq_false a, cond_true, xA7, xA8, nthG, nthB, Bool.false_or, b, Bool.false_and, impl_chk_eq, spec_chk_eq]
        first | exact ⟨rfl, rfl⟩ | exact ⟨trivial, trivial⟩
      · by_cases c : n.n ≥ (v.list.length : Int)
        · simp only [xDG, xEt, h1, h2, Option.bind_some, g, gt, cond_false, decide_eq_false a, decide_eq_true c, cond_true, xA7, xA8, nthG, nthB, Bool.false_or, b, Bool.true_and]
          first | exact ⟨rfl, rfl⟩ | exact ⟨trivial, trivial⟩
        · have hm := hget ⟨by omega, by omega⟩
          simp only [xDG, xEt, h1, h2, Option.bind_some, g, gt, cond_false, decide_eq_false a, decide_eq_false c, cond_true, xA7, xA8, nthG, nthB, Bool.false_or, b, Bool.true_and, if_pos (show (0 : Int) ≤ n.n ∧ n.n < (v.list.length : Int) by omega), c1 _ hm, c2 _ hm]
          first | exact ⟨rfl, rfl⟩ | first | exact ⟨rfl, rfl⟩ | exact ⟨trivial, trivial⟩
  · have hs : seqS n v = ((seqG n v).1, true) := by unfold seqS; rw [g]; rfl
    rw [hs] at h2
    refine ⟨?_, ?_⟩
    · simp only [xDG, h1, Option.bind_some, e1, e2, e3, List.isEmpty_nil, if_true, flat_eta e1 e2 e3, g, cond_true, nthG]
      cases (seqG n v).2.2 <;> rfl
    · simp only [xEt, h2, Option.bind_some, g, cond_true, nthG]
theorem nth_good {n v : Val} (hn : n.Fit 1048576) (hv : v.Fit 1048576) (hs : v.size ≤ 1048576) : Good1 1048576 (nthG n v) := by
  obtain ⟨_, _, _, _, h5, _, _⟩ := Val.fit_iff.1 hv
  unfold nthG
  cases g : (seqG n v).2.1
  · unfold nthB
    by_cases a : n.n < 0
    · rw [decide_eq_true a]; exact Flat.good (flat_err (xGW (by omega) (by omega)))
    · rw [decide_eq_false a]
      cases b : (v.kind == 3)
      · exact Flat.good (flat_chk _)
      · by_cases c : n.n ≥ (v.list.length : Int)
        · rw [decide_eq_true c]; exact Flat.good (flat_err (xGW (by omega) (by omega)))
        · rw [decide_eq_false c]
          have hl : n.n.toNat < v.list.length := by omega
          have e : v.list.getD n.n.toNat Ty.val.dflt = v.list[n.n.toNat] := by simp [List.getD, hl]
          simp only [Bool.false_or, Bool.and_false, cond_false, cond_true]
          rw [e]
          have hm := List.getElem_mem hl
          have h1 := size_mem (f := Val.size) hm
          have h2 := Val.size_eq v
          have h3 := Val.cnt_le v.list[n.n.toNat]
          exact ⟨h5.2 _ hm, by show (v.list[n.n.toNat]).cnt ≤ _; omega, fun h => by cases h⟩
  · exact Flat.good (flat_seqG hn hv)
theorem xHj (a0 a1 : Val) (f0 : ∀ z ∈ [CV.int .i64 (Val.kind a0), .int .i64 (Val.n a0), .int .i64 (Val.step a0), .str (Val.text a0), .sl .ro .val (Val.list a0), .sl .ro .str (Val.columns a0), .sl .ro .row (Val.rows a0)], DFit z.toD)
    (f1 : ∀ z ∈ [CV.int .i64 (Val.kind a1), .int .i64 (Val.n a1), .int .i64 (Val.step a1), .str (Val.text a1), .sl .ro .val (Val.list a1), .sl .ro .str (Val.columns a1), .sl .ro .row (Val.rows a1)], DFit z.toD) : ∃ N, xFj N a0 a1 = some true := by
  obtain ⟨N, h⟩ := law2_true (I := xDG) (S := xEt) (r := nthG a0 a1) f0 f1 fun h0 h1 hs => ⟨nth_good h0 h1 (by omega), nth_eq (by omega) h0 h1⟩
  exact ⟨N, h⟩
end Go.Ab
end
section
namespace Go.Proofs.Ytnfikhfcblcmpaa
open Go.Ab Go.ChangeShapes Go.WideShapes Go.ChangeAt Go.RowKit
set_option linter.unusedVariables false
theorem own : ownKnob Try.prog.godebug = none := by kernel_rfl
theorem laidOut : laidOutB Try.prog = true := by kernel_rfl
theorem xGZ : ktChk Try.prog [(3, .int), (9, .str), (26, .val), (77, .row), (100, .org)] = true := by kernel_rfl
set_option maxRecDepth 100000 in
theorem fnExactNthOf_lifted (os : Os) (started : os.Started) (H : Type) (enc : TypeId × Value → H) :
    ReturnsInHanded {} Try.checked os 3 .any (Rows.fnExactNthOfSpec.pre6 enc Try.prog Try.f3 Rows.fnExactNthOfRow.domain false) (Rows.fnExactNthOfSpec.post enc Try.prog Try.f3 false true false false) := by
  refine returnsInHanded_of_change (C := Try.checked) own started (by kernel_rfl) Try.func3
    (ChangeSpec.witness6 (enc := enc) (C := Try.checked) false ⟨#[], #[.agg #[.int .i64 0, .int .i64 0, .int .i64 0, .string ByteArray.empty, .slice none 0 0, .slice none 0 0, .slice none 0 0], .agg #[.int .i64 0, .int .i64 0, .int .i64 0, .string ByteArray.empty, .slice none 0 0, .slice none 0 0, .slice none 0 0]], []⟩ 8 (by kernel_rfl) (by kernel_rfl) (by kernel_rfl) (by kernel_rfl)) ?_
  intro W base args ds gs before hval0 hW hcnd _
  have hval : ∀ (j : Nat) t v, Try.f3.params[j]? = some t → args[j]? = some v → Value.okWide Try.prog W .any base t v := hval0
  have hW' := hW
  obtain ⟨p, q, hA0, hV, rfl, hfz, hnd⟩ := hW
  have hA : DataW.TrodAll enc Try.prog W 0 (fun _ => true) true Try.f3.params.toList args.toList ds p := hA0
  rw [Try.params3] at hA hval
  obtain ⟨v0, vs0, d0, ds0, p0, q0, hargs, rfl, rfl, h0, r0⟩ := trodAll_cons hA
  obtain ⟨v1, vs1, d1, ds1, p1, q1, rfl, rfl, rfl, h1, r1⟩ := trodAll_cons r0
  obtain ⟨rfl, rfl, rfl⟩ := trodAll_nil r1
  obtain rfl : args = #[v0, v1] := by cases args; simp_all
  obtain ⟨rfl, rfl⟩ := trodVars_none hV
  have lt0 : ∀ x ∈ p0, x.block < W.heap.size := by obtain ⟨m, hm⟩ := h0; exact DataW.trod_lt m _ _ _ hm
  have lt1 : ∀ x ∈ p1, x.block < W.heap.size := by obtain ⟨m, hm⟩ := h1; exact DataW.trod_lt m _ _ _ hm
  obtain ⟨z0, e0, f0, vr0⟩ := vr_of xGZ (g := true) (t := 26) (ns := [.inl (.int .i64), .inl (.int .i64), .inl (.int .i64), .inl .str, .inr .val, .inr .str, .inr .row]) (by kernel_rfl) (hval 0 26 v0 rfl rfl) h0
  obtain ⟨x0_0, _, rfl, e0_0⟩ := AreOf.int_inv e0
  obtain ⟨x0_1, _, rfl, e0_1⟩ := AreOf.int_inv e0_0
  obtain ⟨x0_2, _, rfl, e0_2⟩ := AreOf.int_inv e0_1
  obtain ⟨x0_3, _, rfl, e0_3⟩ := AreOf.str_inv e0_2
  obtain ⟨x0_4, _, rfl, e0_4⟩ := AreOf.sl_inv e0_3
  obtain ⟨x0_5, _, rfl, e0_5⟩ := AreOf.sl_inv e0_4
  obtain ⟨x0_6, _, rfl, e0_6⟩ := AreOf.sl_inv e0_5
  obtain rfl := e0_6.nil_inv
  obtain ⟨z1, e1, f1, vr1⟩ := vr_of xGZ (g := true) (t := 26) (ns := [.inl (.int .i64), .inl (.int .i64), .inl (.int .i64), .inl .str, .inr .val, .inr .str, .inr .row]) (by kernel_rfl) (hval 1 26 v1 rfl rfl) h1
  obtain ⟨x1_0, _, rfl, e1_0⟩ := AreOf.int_inv e1
  obtain ⟨x1_1, _, rfl, e1_1⟩ := AreOf.int_inv e1_0
  obtain ⟨x1_2, _, rfl, e1_2⟩ := AreOf.int_inv e1_1
  obtain ⟨x1_3, _, rfl, e1_3⟩ := AreOf.str_inv e1_2
  obtain ⟨x1_4, _, rfl, e1_4⟩ := AreOf.sl_inv e1_3
  obtain ⟨x1_5, _, rfl, e1_5⟩ := AreOf.sl_inv e1_4
  obtain ⟨x1_6, _, rfl, e1_6⟩ := AreOf.sl_inv e1_5
  obtain rfl := e1_6.nil_inv
  obtain ⟨N, hF⟩ := xHj (Val.mk x0_0 x0_1 x0_2 x0_3 x0_4 x0_5 x0_6) (Val.mk x1_0 x1_1 x1_2 x1_3 x1_4 x1_5 x1_6) f0 f1
  clear hA0 hval0
  refine (calls_of T.fk3 (T.laws_FnExactNthOf_ok hF) (W := W) (args := #[v0, v1]) ⟨vr0 _, vr1 _, trivial⟩).mono fun e W' ⟨he, bel⟩ => ?_
  subst he
  exact ⟨_, rfl, _, _, _, [], _, [], hW', trodAll_mk1 (shut_bool Try.underlying4 _), (trodAll_cons_mk (Below.trod laidOut (by kernel_rfl) (of_decide_eq_true (by kernel_rfl)) h0 bel lt0) (trodAll_cons_mk (Below.trod laidOut (by kernel_rfl) (of_decide_eq_true (by kernel_rfl)) h1 bel lt1) trodAll_mk0)), rfl, bel.frame _, fun h => by cases h⟩
theorem fnExactNthOf_proved : Rows.FnExactNthOfSaid :=
  OpenClaim.holds_of_wide 3 Try.f3 rfl rfl rfl rfl rfl rfl rfl ⟨rfl, rfl, rfl, rfl, rfl⟩ rfl rfl rfl rfl rfl (by kernel_rfl) Try.func3 (by kernel_rfl)
    (of_decide_eq_true (by kernel_rfl)) (by unfold Func.isWrapper; first | (rw [if_pos (by decide +kernel)]; kernel_rfl) | (rw [if_neg (by decide +kernel)]; exact ⟨rfl, rfl⟩))
    (fun os started H enc _ => fnExactNthOf_lifted os started H enc)
end Go.Proofs.Ytnfikhfcblcmpaa
end
