/- What several statements share: plain functions, certificates, laws. Conditions: none. -/
import Derived.Test.YtkfoneofdidhkaaDoorL2
import Derived.Test.YtkfoneofdidhkaaDoorK1
set_option linter.all false
section
namespace Go.Ab
set_option linter.unusedVariables false
set_option linter.unusedSimpArgs false
def law2 (I : Val → Val → Option (Val × Bool)) (S : Val → Val → Option Val) (N : Nat) (a0 a1 : Val) : Option Bool :=
  Option.bind (yFO N a0 1048576) fun r1 =>
  bif (decide ((r1 : Int) < 0)) then (
    some true
  ) else (
    Option.bind (yFO N a1 r1) fun r2 =>
    bif (decide ((r2 : Int) < 0)) then (
      some true
    ) else (
      Option.bind (yBd N a0) fun r3 =>
      Option.bind (yBd N a1) fun r4 =>
      Option.bind (S r3 r4) fun r5 =>
      Option.bind (yBd N a0) fun r6 =>
      Option.bind (yBd N a1) fun r7 =>
      Option.bind (I r6 r7) fun r8 =>
      bif r8.2 then (
        if List.isEmpty (Val.list r8.1) = true then
        if List.isEmpty (Val.columns r8.1) = true then
        if List.isEmpty (Val.rows r8.1) = true then
        Option.bind (yBc N (Val.mk (Val.kind r8.1) (Val.n r8.1) (Val.step r8.1) (Val.text r8.1) [] [] []) r5) fun r9 =>
        bif (!r9) then (
          some false
        ) else (
          Option.bind (yBd N a0) fun r10 =>
          Option.bind (yBc N r6 r10) fun r11 =>
          bif (!r11) then (
            some false
          ) else (
            Option.bind (yBd N a1) fun r12 =>
            Option.bind (yBc N r7 r12) fun r13 =>
            bif (!r13) then (
              some false
            ) else (
              Option.bind (yBC N r6 1) fun r14 =>
              if List.length r14.2.1 = List.length (Val.list r6) then
              if List.length r14.2.2.1 = List.length (Val.columns r6) then
              if List.length r14.2.2.2 = List.length (Val.rows r6) then
              Option.bind (yBC N r7 r14.1) fun r15 =>
              if List.length r15.2.1 = List.length (Val.list r7) then
              if List.length r15.2.2.1 = List.length (Val.columns r7) then
              if List.length r15.2.2.2 = List.length (Val.rows r7) then
              bif (decide ((r15.1 : Int) < 0)) then (
                some false
              ) else (
                Option.bind (yBc N (Val.mk (Val.kind r8.1) (Val.n r8.1) (Val.step r8.1) (Val.text r8.1) [] [] []) r5) fun r16 =>
                bif (!r16) then (
                  some false
                ) else (
                  Option.bind (yDt N (Val.mk (Val.kind r8.1) (Val.n r8.1) (Val.step r8.1) (Val.text r8.1) [] [] []) 1) fun r17 =>
                  Option.bind (yAR N (Val.mk (Val.kind r8.1) (Val.n r8.1) (Val.step r8.1) (Val.text r8.1) [] [] []) 1) fun r18 =>
                  bif (decide ((r18 : Int) < 0)) then (
                    some false
                  ) else (
                    bif ((r18 : Int) != r17) then (
                      some false
                    ) else (
                      Option.bind (yBd N a0) fun r19 =>
                      Option.bind (yBd N a1) fun r20 =>
                      Option.bind (I r19 r20) fun r21 =>
                      bif r21.2 then (
                        if List.isEmpty (Val.list r21.1) = true then
                        if List.isEmpty (Val.columns r21.1) = true then
                        if List.isEmpty (Val.rows r21.1) = true then
                        Option.bind (yBc N (Val.mk (Val.kind r21.1) (Val.n r21.1) (Val.step r21.1) (Val.text r21.1) [] [] []) r5) fun r22 =>
                        bif (!r22) then (
                          some false
                        ) else (
                          Option.bind (yAR N (Val.mk (Val.kind r8.1) (Val.n r8.1) (Val.step r8.1) (Val.text r8.1) [] [] []) 1) fun r23 =>
                          bif (decide ((r23 : Int) < 0)) then (
                            some false
                          ) else (
                            bif ((r23 : Int) != r17) then (
                              some false
                            ) else (
                              some true
                            )
                          )
                        )
                        else none
                        else none
                        else none
                      ) else (
                        Option.bind (yBc N r21.1 r5) fun r22 =>
                        bif (!r22) then (
                          some false
                        ) else (
                          Option.bind (yAR N (Val.mk (Val.kind r8.1) (Val.n r8.1) (Val.step r8.1) (Val.text r8.1) [] [] []) 1) fun r23 =>
                          bif (decide ((r23 : Int) < 0)) then (
                            some false
                          ) else (
                            bif ((r23 : Int) != r17) then (
                              some false
                            ) else (
                              some true
                            )
                          )
                        )
                      )
                    )
                  )
                )
              )
              else none
              else none
              else none
              else none
              else none
              else none
            )
          )
        )
        else none
        else none
        else none
      ) else (
        Option.bind (yBc N r8.1 r5) fun r9 =>
        bif (!r9) then (
          some false
        ) else (
          Option.bind (yBd N a0) fun r10 =>
          Option.bind (yBc N r6 r10) fun r11 =>
          bif (!r11) then (
            some false
          ) else (
            Option.bind (yBd N a1) fun r12 =>
            Option.bind (yBc N r7 r12) fun r13 =>
            bif (!r13) then (
              some false
            ) else (
              Option.bind (yBC N r6 1) fun r14 =>
              if List.length r14.2.1 = List.length (Val.list r6) then
              if List.length r14.2.2.1 = List.length (Val.columns r6) then
              if List.length r14.2.2.2 = List.length (Val.rows r6) then
              Option.bind (yBC N r7 r14.1) fun r15 =>
              if List.length r15.2.1 = List.length (Val.list r7) then
              if List.length r15.2.2.1 = List.length (Val.columns r7) then
              if List.length r15.2.2.2 = List.length (Val.rows r7) then
              bif (decide ((r15.1 : Int) < 0)) then (
                some false
              ) else (
                Option.bind (yBc N r8.1 r5) fun r16 =>
                bif (!r16) then (
                  some false
                ) else (
                  Option.bind (yBC N r8.1 1) fun r17 =>
                  if List.length r17.2.1 = List.length (Val.list r8.1) then
                  if List.length r17.2.2.1 = List.length (Val.columns r8.1) then
                  if List.length r17.2.2.2 = List.length (Val.rows r8.1) then
                  Option.bind (yAR N (Val.mk (Val.kind r8.1) (Val.n r8.1) (Val.step r8.1) (Val.text r8.1) r17.2.1 r17.2.2.1 r17.2.2.2) 1) fun r18 =>
                  bif (decide ((r18 : Int) < 0)) then (
                    some false
                  ) else (
                    bif ((r18 : Int) != r17.1) then (
                      some false
                    ) else (
                      Option.bind (yBd N a0) fun r19 =>
                      Option.bind (yBd N a1) fun r20 =>
                      Option.bind (I r19 r20) fun r21 =>
                      bif r21.2 then (
                        if List.isEmpty (Val.list r21.1) = true then
                        if List.isEmpty (Val.columns r21.1) = true then
                        if List.isEmpty (Val.rows r21.1) = true then
                        Option.bind (yBc N (Val.mk (Val.kind r21.1) (Val.n r21.1) (Val.step r21.1) (Val.text r21.1) [] [] []) r5) fun r22 =>
                        bif (!r22) then (
                          some false
                        ) else (
                          Option.bind (yAR N (Val.mk (Val.kind r8.1) (Val.n r8.1) (Val.step r8.1) (Val.text r8.1) r17.2.1 r17.2.2.1 r17.2.2.2) 1) fun r23 =>
                          bif (decide ((r23 : Int) < 0)) then (
                            some false
                          ) else (
                            bif ((r23 : Int) != r17.1) then (
                              some false
                            ) else (
                              some true
                            )
                          )
                        )
                        else none
                        else none
                        else none
                      ) else (
                        Option.bind (yBc N r21.1 r5) fun r22 =>
                        bif (!r22) then (
                          some false
                        ) else (
                          Option.bind (yAR N (Val.mk (Val.kind r8.1) (Val.n r8.1) (Val.step r8.1) (Val.text r8.1) r17.2.1 r17.2.2.1 r17.2.2.2) 1) fun r23 =>
                          bif (decide ((r23 : Int) < 0)) then (
                            some false
                          ) else (
                            bif ((r23 : Int) != r17.1) then (
                              some false
                            ) else (
                              some true
                            )
                          )
                        )
                      )
                    )
                  )
                  else none
                  else none
                  else none
                )
              )
              else none
              else none
              else none
              else none
              else none
              else none
            )
          )
        )
      )
    )
  )
theorem law2_true {I : Nat → Val → Val → Option (Val × Bool)} {S : Nat → Val → Val → Option Val} {a0 a1 : Val} {r : Val × Bool} (f0 : ∀ z ∈ [CV.int .i64 (Val.kind a0), .int .i64 (Val.n a0), .int .i64 (Val.step a0), .str (Val.text a0), .sl .ro .val (Val.list a0), .sl .ro .str (Val.columns a0), .sl .ro .row (Val.rows a0)], DFit z.toD) (f1 : ∀ z ∈ [CV.int .i64 (Val.kind a1), .int .i64 (Val.n a1), .int .i64 (Val.step a1), .str (Val.text a1), .sl .ro .val (Val.list a1), .sl .ro .str (Val.columns a1), .sl .ro .row (Val.rows a1)], DFit z.toD)
    (H : a0.Fit 1048576 → a1.Fit 1048576 → a0.size + a1.size ≤ 1048576 → Good1 1048576 r ∧ Big fun N => I N a0 a1 = some r ∧ S N a0 a1 = some r.1) : ∃ N, law2 (I N) (S N) N a0 a1 = some true := by
  have hF := val_of_cells f0
  have hG := val_of_cells f1
  by_cases h : left a0.size 1048576 < 0
  · exact ((yF9 hF).imp fun N hs => by simp [law2, hs 1048576 (by omega) (by omega), h]).get
  · have g0 := left_ge h
    rw [left_of g0] at h
    by_cases h' : left a1.size (1048576 - (a0.size : Int)) < 0
    · refine (((yF9 hF).and (yF9 hG)).imp fun N ⟨hs, ht⟩ => ?_).get
      have e1 := hs 1048576 (by omega) (by omega)
      rw [left_of g0] at e1
      simp only [law2, e1, Option.bind_some, decide_eq_false h, cond_false, ht _ (by omega : 0 ≤ 1048576 - (a0.size : Int)) (by omega), decide_eq_true h', cond_true]
    · have g1 := left_ge h'
      have s0 := Val.fit_size (K := 1048576) a0 hF (by omega)
      have s1 := Val.fit_size (K := 1048576) a1 hG (by omega)
      have c0 := Val.cnt_le a0
      have c1 := Val.cnt_le a1
      obtain ⟨⟨hff, hfc, hfl⟩, hB⟩ := H s0 s1 (by omega)
      refine ((((yF9 hF).and (yF9 hG)).and (((toValue_eq s0).and (toValue_eq s1)).and ((yGv s0 (by omega)).and (yGv s1 (by omega))))).and
        ((hB.and (yGv hff (by omega))).and (((yGD (by omega) s0).and (yGD (by omega) s1)).and ((markValue_held (by omega) hff (by omega)).and (yGj 274877906944)))))
        |>.imp (fun N ⟨⟨⟨z0, z1⟩, ⟨t0, t1⟩, q0, q1⟩, ⟨⟨k4, k5⟩, k6⟩, ⟨m0, m1⟩, m3, hN⟩ => ?_) |>.get
      obtain ⟨k0, xa0, xb0, xc0, u0, u1, p01, p02, p03, p04, _⟩ := m0 1 (by omega) (by omega)
      obtain ⟨k1, xa1, xb1, xc1, v0, v1, p11, p12, p13, p14, _⟩ := m1 k0 (by omega) (by omega)
      obtain ⟨k', ya, yb, yc, r0, r1, r2, r3, r4, r5⟩ := m3
      have e1 := z0 1048576 (by omega) (by omega)
      rw [left_of g0] at e1
      have e2 := z1 _ (by omega : 0 ≤ 1048576 - (a0.size : Int)) (by omega)
      simp only [law2, e1, e2, t0, t1, q0, q1, k4, k5, k6, Option.bind_some, decide_eq_false h, decide_eq_false h', cond_false]
      cases hr2 : r.2
      · simp only [cond_false, k6, Bool.not_true, p04, p14, Option.bind_some, if_pos p01, if_pos p02, if_pos p03, if_pos p11, if_pos p12, if_pos p13, decide_eq_false (by omega : ¬ k1 < 0), r4, if_pos r1, if_pos r2, if_pos r3, r5, decide_eq_false (by omega : ¬ k' < 0), bne_self_eq_false]
      · have hflat := hfl hr2
        obtain ⟨f1, f2, f3, _⟩ := hflat
        have hh : yAR N r.1 1 = some 1 := by rw [← flat_eta f1 f2 f3]; exact heldFlat_eq hN (by omega)
        simp only [cond_true, f1, f2, f3, List.isEmpty_nil, if_true, flat_eta f1 f2 f3, k6, Option.bind_some, Bool.not_true, cond_false, p04, p14, if_pos p01, if_pos p02, if_pos p03, if_pos p11, if_pos p12, if_pos p13, decide_eq_false (by omega : ¬ k1 < 0), markE_eq hN, hh, decide_eq_false (by omega : ¬ (1 : Int) < 0), bne_self_eq_false]
end Go.Ab
end
section
namespace Go.Ab
set_option linter.unusedVariables false
def yCU (c : UInt8) : Str → Str → List Str
  | pre, [] => [pre]
  | pre, b :: l => bif b == c then pre :: yCU c [] l else yCU c (pre ++ [b]) l
def addHead (b : UInt8) : List Str → List Str
  | h :: t => (b :: h) :: t
  | [] => []
theorem cutAcc_pre (c : UInt8) : ∀ (l pre : Str), ∃ h t, yCU c [] l = h :: t ∧ yCU c pre l = (pre ++ h) :: t := by
  intro l
  induction l with
  | nil => intro pre; exact ⟨[], [], rfl, by simp [yCU]⟩
  | cons b l ih =>
    intro pre
    cases hb : b == c
    · obtain ⟨h1, t1, e1, e2⟩ := ih (pre ++ [b])
      obtain ⟨h2, t2, e3, e4⟩ := ih [b]
      rw [e1] at e3
      obtain ⟨rfl, rfl⟩ := List.cons.inj e3
      refine ⟨b :: h1, t1, ?_, ?_⟩
      · simp only [yCU, hb, cond_false, List.nil_append, e4]; rfl
      · simp only [yCU, hb, cond_false, e2]; simp
    · exact ⟨[], yCU c [] l, by simp [yCU, hb], by simp [yCU, hb]⟩
theorem cutAcc_ne {c b : UInt8} (h : (b == c) = false) (l : Str) : yCU c [] (b :: l) = addHead b (yCU c [] l) := by
  obtain ⟨h1, t1, e1, e2⟩ := cutAcc_pre c l [b]
  simp only [yCU, h, cond_false, List.nil_append, e2, e1, addHead]; rfl
theorem index_hit (c : UInt8) (l : Str) : Lib.index (c :: l) [c] = 0 := by simp [Lib.index, List.isPrefixOf]
theorem index_miss {b c : UInt8} (h : (b == c) = false) (l : Str) : Lib.index (b :: l) [c] = if Lib.index l [c] == -1 then -1 else Lib.index l [c] + 1 := by
  have h2 : (c == b) = false := by simp at h ⊢; exact fun e => h e.symm
  simp [Lib.index, List.isPrefixOf, h2]
theorem splitK_ne {b c : UInt8} (h : (b == c) = false) (l : Str) : ∀ k, Lib.splitK [c] 0 k (b :: l) = addHead b (Lib.splitK [c] 0 k l)
  | 0 => rfl
  | k + 1 => by
    have h0 := Lib.index_ge l [c]
    unfold Lib.splitK
    rw [index_miss h]
    by_cases hi : Lib.index l [c] = -1
    · simp [hi, addHead]
    · have e1 : (Lib.index l [c] == -1) = false := by simp [hi]
      have e2 : (Lib.index l [c] + 1 == -1) = false := by simp; omega
      have e3 : (Lib.index l [c] + 1).toNat = (Lib.index l [c]).toNat + 1 := by omega
      simp only [e1, e2, e3, Bool.false_eq_true, if_false, Nat.add_zero, List.length_singleton, addHead, List.take_succ_cons]
      rw [show (Lib.index l [c]).toNat + 1 + 1 = ((Lib.index l [c]).toNat + 1) + 1 from rfl, List.drop_succ_cons]
theorem split_cut (c : UInt8) : ∀ s : Str, Lib.split s [c] = yCU c [] s := by
  intro s
  unfold Lib.split
  rw [Lib.count_one]
  induction s with
  | nil => rfl
  | cons b l ih =>
    cases hb : b == c
    · rw [List.count_cons_of_ne (by simpa using hb), splitK_ne hb, ih, cutAcc_ne hb]
    · obtain rfl : b = c := by simpa using hb
      rw [List.count_cons_self]
      unfold Lib.splitK
      rw [index_hit]
      simp [yCU, ih]
theorem cutAcc_len {c : UInt8} : ∀ {l pre : Str}, (yCU c pre l).length ≤ l.length + 1
  | [], pre => by simp [yCU]
  | b :: l, pre => by
    simp only [yCU]
    cases b == c
    · simp only [cond_false]; have := cutAcc_len (c := c) (l := l) (pre := pre ++ [b]); simp only [List.length_cons]; omega
    · simp only [cond_true, List.length_cons]; have := cutAcc_len (c := c) (l := l) (pre := []); omega
theorem cutAcc_sum {c : UInt8} : ∀ {l pre : Str}, ((yCU c pre l).map List.length).sum ≤ pre.length + l.length
  | [], pre => by simp [yCU]
  | b :: l, pre => by
    simp only [yCU]
    cases b == c
    · simp only [cond_false]; have := cutAcc_sum (c := c) (l := l) (pre := pre ++ [b]); simp only [List.length_append, List.length_cons, List.length_nil] at this ⊢; omega
    · simp only [cond_true, List.length_cons, List.map_cons, List.sum_cons]; have := cutAcc_sum (c := c) (l := l) (pre := []); simp only [List.length_nil] at this; omega
theorem cutAcc_mem {c : UInt8} {l pre x : Str} (h : x ∈ yCU c pre l) : x.length ≤ pre.length + l.length :=
  Nat.le_trans (size_mem (f := List.length) h) cutAcc_sum
end Go.Ab
end
section
namespace Go.Ab
set_option linter.unusedVariables false
set_option linter.unusedSimpArgs false
theorem strings_Split_eq {N : Nat} {s : Str} {c : UInt8} (h : s.length < 4294967281) : yFr N s [c] = some (yCU c [] s) := by
  unfold yFr splitP
  have e : [c].length = 1 := rfl
  rw [if_pos e, if_pos h, split_cut]
theorem impl_SplitByte_eq {N : Nat} {s : Str} (h : s.length < 4294967281) : yE2 N s 32 = some (yCU 32 [] s) := by
  have e : List.map (fun n : Int => UInt8.ofNat (Int.toNat n)) [32] = [32] := rfl
  unfold yE2
  rw [e, strings_Split_eq h]; rfl
theorem spec_SplitByte_eq {N K : Nat} {s : Str} (hl : s.length ≤ K) (hK : K ≤ 137438953472) (hN : K + 1 < N) : yFc N s 32 = some (yCU 32 [] s) := by
  have key : ∀ (l pre : Str) (q : List Str) (n i : Nat), s.drop i = l → i ≤ s.length → pre.length ≤ i → s.drop (i - pre.length) = pre ++ l → q.length ≤ i → l.length + 1 < n →
      yA9 N n s 32 q ((i - pre.length : Nat) : Int) (i : Nat) = some (q ++ yCU 32 pre l) := by
    intro l
    induction l with
    | nil =>
      intro pre q n i hd hi hp hs hq hn
      obtain ⟨n, rfl⟩ : ∃ m, n = m + 1 + 1 := ⟨n - 2, by simp at hn; omega⟩
      have hi2 : i = s.length := by have := drop_nil hd; omega
      subst hi2
      have e1 : ¬ ((s.length + 1 : Nat) : Int) ≤ (s.length : Int) := by omega
      have e2 : List.drop (s.length - pre.length) (List.take s.length s) = pre := by rw [List.take_length, hs]; simp
      have e3 : IntKind.i64.wrap ((s.length : Int) + 1) = ((s.length + 1 : Nat) : Int) := by rw [yBA (by omega) (by omega)]; omega
      have e4 : (0 : Int) ≤ ((s.length - pre.length : Nat) : Int) ∧ ((s.length - pre.length : Nat) : Int) ≤ (s.length : Int) ∧ (s.length : Int) ≤ (s.length : Int) := by omega
      have e5 : List.length q + List.length [pre] ≤ Lim := by simp only [List.length_cons, List.length_nil]; unfold Lim; omega
      simp only [yA9, Int.le_refl, decide_true, cond_true, beq_self_eq_true, Int.toNat_natCast, e2, e3, decide_eq_false e1, cond_false, if_pos e5, yCU]
      rw [if_pos ⟨by omega, by omega, trivial⟩]
    | cons b l ih =>
      intro pre q n i hd hi hp hs hq hn
      obtain ⟨n, rfl⟩ : ∃ m, n = m + 1 := ⟨n - 1, by simp at hn; omega⟩
      obtain ⟨h1, h2, h3⟩ := yGu hd
      simp only [List.length_cons] at hn
      have e0 : (i : Int) ≤ (s.length : Int) := by omega
      have e1 : ((i : Int) == (s.length : Int)) = false := by simp; omega
      have e2 : (0 : Int) ≤ (i : Int) ∧ (i : Int) < (s.length : Int) := by omega
      have e3 : IntKind.i64.wrap ((i : Int) + 1) = ((i + 1 : Nat) : Int) := yAk h1 (by omega)
      have eb : ((b.toNat : Int) == 32) = (b == 32) := by
        rcases Decidable.em (b = 32) with rfl | hne
        · rfl
        · have h8 : ¬ (b.toNat : Int) = 32 := fun e => hne (UInt8.toNat_inj.1 (by simpa using (by omega : b.toNat = 32)))
          rw [beq_eq_false_iff_ne.2 h8, beq_eq_false_iff_ne.2 hne]
      have hdr : s.drop (i + 1) = l := h3
      cases hb : b == 32
      · have := ih (pre ++ [b]) q n (i + 1) hdr (by omega) (by simp; omega) (by simp only [List.length_append, List.length_cons, List.length_nil, List.append_assoc, List.cons_append, List.nil_append]; rw [show i + 1 - (pre.length + (0 + 1)) = i - pre.length from by omega]; exact hs) (by omega) (by omega)
        simp only [List.length_append, List.length_cons, List.length_nil] at this
        rw [show i + 1 - (pre.length + (0 + 1)) = i - pre.length from by omega] at this
        simp only [yA9, decide_eq_true e0, cond_true, e1, cond_false, if_pos e2, Int.toNat_natCast, yAp h2, eb, hb, e3, this, yCU]
      · have := ih [] (q ++ [pre]) n (i + 1) hdr (by omega) (by simp) (by simp [hdr]) (by simp; omega) (by omega)
        have e6 : List.drop (i - pre.length) (List.take i s) = pre := by
          rw [List.drop_take, hs, show i - (i - pre.length) = pre.length from by omega]; simp
        have e4 : (0 : Int) ≤ ((i - pre.length : Nat) : Int) ∧ ((i - pre.length : Nat) : Int) ≤ (i : Int) ∧ (i : Int) ≤ (s.length : Int) := by omega
        have e5 : List.length q + List.length [pre] ≤ Lim := by simp only [List.length_cons, List.length_nil]; unfold Lim; omega
        simp only [List.length_nil, Nat.sub_zero] at this
        simp only [yA9, decide_eq_true e0, cond_true, e1, cond_false, if_pos e2, Int.toNat_natCast, yAp h2, eb, hb, e3, e6, if_pos e4, if_pos e5, this, yCU, List.append_assoc, List.cons_append, List.nil_append]
  have := key s [] [] N 0 rfl (Nat.zero_le _) (Nat.le_refl _) rfl (Nat.le_refl _) (by omega)
  simpa [yFc] using this
theorem sum_le_const {α : Type} {f : α → Nat} {l : List α} {a : Nat} (h : ∀ x ∈ l, f x ≤ a) : (l.map f).sum ≤ a * l.length := by
  have := sum_le_mul (f := f) (g := fun _ => 0) (l := l) (a := a) (fun x hx => by have := h x hx; omega)
  have z : ∀ l : List α, (l.map fun _ => 0).sum = 0 := by
    intro l
    induction l with
    | nil => rfl
    | cons x l ih => simp only [List.map_cons, List.sum_cons, ih]
  rw [z, Nat.add_zero] at this
  exact this
theorem tblV_fit {K : Nat} {cs : List Str} {rs : List Rowd} (hc : LFit K (Str.Fit K) cs) (hr : LFit K (Rowd.Fit K) rs) : (Val.mk 5 0 0 [] [] cs rs).Fit K :=
  Val.fit_iff.2 ⟨yFK (by show (-1000000 : Int) ≤ 5; omega) (by show (5 : Int) ≤ 1000000; omega), yFK (by show (-1000000 : Int) ≤ 0; omega) (by show (0 : Int) ≤ 1000000; omega), yFK (by show (-1000000 : Int) ≤ 0; omega) (by show (0 : Int) ≤ 1000000; omega), Nat.zero_le _, lfit_nil, hc, hr⟩
theorem tblV_cnt (cs : List Str) (rs : List Rowd) : (Val.mk 5 0 0 [] [] cs rs).cnt = 4 + (cs.length + (rs.map cRow).sum) := by
  rw [valCnt, vl, vc, vr, cOne_sum]; simp only [List.map_nil, List.sum_nil]; omega
end Go.Ab
end
