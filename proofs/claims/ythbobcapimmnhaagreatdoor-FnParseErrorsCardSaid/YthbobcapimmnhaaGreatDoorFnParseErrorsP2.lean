/- The statement FnParseErrors holds: plain functions, certificates, laws. Conditions: none. -/
import Derived.Test.YthbobcapimmnhaaGreatDoorL2
import Derived.Test.YthbobcapimmnhaaGreatDoorFnParseErrorsP1
set_option linter.all false
section
namespace Go.Ab
def sumC (l : List Exp) : Nat := (l.map Exp.cnt).sum
theorem xKv (x : Exp) (l : List Exp) : sumC (x :: l) = x.cnt + sumC l := by simp only [sumC, List.map_cons, List.sum_cons]
theorem xP9 (c s : Nat) {l : Int} (h : 0 ≤ l) : left (c + s) l = if left c l < 0 then left c l else left s (left c l) := by
 by_cases c1 : (c : Int) ≤ l
 · rw [xMD c1, if_neg (by omega)]
   by_cases c2 : (s : Int) ≤ l - c
   · rw [xMD c2, xMD (by omega)]; omega
   · rw [xLk c2, xLk (by omega)]
 · rw [xLk c1, if_pos (by omega), xLk (by omega)]
theorem xRQ {K : Nat} (hK : K ≤ 1048576) : ∀ e : Exp, e.Fit K → e.cnt ≤ 2000000 → Big2 fun N d => xEb N d e = some (e.cnt : Int) ∧ ∀ l : Int, 0 ≤ l → l ≤ 1000 → xET N d e l = some (left e.cnt l) := by
 refine Exp.ind fun k n t a ih h hc => ?_
 obtain ⟨h1, h2, h3, h4⟩ := Exp.fit_iff.1 h
 rw [Exp.cnt_eq] at hc
 have hc : 1 + sumC a ≤ 2000000 := hc
 have hmem : ∀ x ∈ a, x.cnt ≤ sumC a := fun x hx => xPg (f := Exp.cnt) hx
 refine Big2.succ ?_
 refine ((Big2.list fun x hx => ih x hx (h4.2 x hx) (by have := hmem x hx; omega)).and (xMe (K + 30)).two).imp fun N d ⟨hx, hn⟩ => ?_
 have hl : a.length ≤ K := h4.1
 rw [Exp.cnt_eq]
 refine ⟨?_, fun l hl0 hl1 => ?_⟩
 · have := xGm (L := fun m i s => xDT N (xEb N d) m s a a.length i) a (fun l s => s + (sumC l : Int)) (fun i s => 0 ≤ s ∧ s + (sumC (a.drop i) : Int) ≤ 2000000) (fun m s _ => by simp [xDT, sumC])
    (fun i x l s hd hi hxi hs => by
      have hi' : (i : Int) < (a.length : Int) := by omega
      have hm := List.mem_of_getElem? hxi
      rw [hd, xKv] at hs
      have hw : IntKind.i64.wrap (s + (x.cnt : Int)) = s + (x.cnt : Int) := xBh (by omega) (by omega)
      refine .inl ⟨s + (x.cnt : Int), ⟨by omega, by rw [(xDN hd).2.2]; omega⟩, by rw [xKv]; omega, fun m => ?_⟩
      simp only [xDT, decide_eq_true hi', jT, Int.toNat_natCast, xCw hxi, (hx x hm).1, jS, hw, xBy hi (by omega : a.length ≤ _)]
      rw [if_pos (by omega)]) N 0 1 ⟨by omega, by rw [List.drop_zero]; omega⟩ (by omega) (by omega)
   rw [List.drop_zero] at this
   show xDT N (xEb N d) N 1 a a.length 0 = some ((1 + sumC a : Nat) : Int)
   rw [show ((1 + sumC a : Nat) : Int) = 1 + (sumC a : Int) from by omega]
   exact this
 · have := xGm (L := fun m i s => xD9 N (xET N d) m s i (.mk k n t a)) a (fun l s => if s < 0 then s else left (sumC l) s) (fun i s => -1 ≤ s ∧ s ≤ 1000) (fun m s hs => by
    simp only [xD9, ea, Int.lt_irrefl, decide_false, jF, sumC, List.map_nil, List.sum_nil]
    split
    · rfl
    · rw [xMD (by omega)]; simp)
    (fun i x l s hd hi hxi hs => by
      have hi' : (i : Int) < ((Exp.mk k n t a).args.length : Int) := by show (i : Int) < (a.length : Int); omega
      have hi2 : (0 : Int) ≤ (i : Int) ∧ (i : Int) < ((Exp.mk k n t a).args.length : Int) := ⟨by omega, hi'⟩
      have hm := List.mem_of_getElem? hxi
      have hxi2 : (Exp.mk k n t a).args[i]? = some x := hxi
      by_cases hneg : s < 0
      · refine .inr fun m => ?_
        have h2 : ¬ s ≥ 0 := by omega
        simp only [xD9, decide_eq_true hi', jT, decide_eq_false h2, jF, if_pos hneg]
      · have h2 : s ≥ 0 := by omega
        refine .inl ⟨left x.cnt s, ?_, ?_, fun m => ?_⟩
        · unfold left; split <;> omega
        · rw [if_neg hneg, xKv, xP9 _ _ (by omega)]
        · simp only [xD9, decide_eq_true hi', jT, decide_eq_true h2, if_pos hi2, Int.toNat_natCast, xCw hxi2, (hx x hm).2 s (by omega) (by omega), jS, xBy hi (by omega : a.length ≤ _)]) N 0 (l - 1) ⟨by omega, by omega⟩ (by omega) (by omega)
   rw [List.drop_zero] at this
   show xD9 N (xET N d) N (IntKind.i64.wrap (l - 1)) 0 (.mk k n t a) = some (left (1 + sumC a) l)
   rw [xBh (by omega) (by omega)]
   refine Eq.trans this ?_
   unfold left
   by_cases c0 : l - 1 < 0
   · rw [if_pos c0, if_neg (by omega)]; congr 1; omega
   · rw [if_neg c0]
     by_cases c2 : (sumC a : Int) ≤ l - 1
     · rw [if_pos c2, if_pos (by omega)]; congr 1; omega
     · rw [if_neg c2, if_neg (by omega)]
theorem xON {x : Exp} : ∀ {a : List Exp}, x ∈ a → x.nest ≤ Exp.nests a
 | y :: l, h => by
   rcases List.mem_cons.1 h with rfl | h
   · simp only [Exp.nests]; omega
   · have := xON h; simp only [Exp.nests]; omega
theorem maxI (a b : Nat) : (if (a : Int) > (b : Int) then (a : Int) else (b : Int)) = ((max b a : Nat) : Int) := by
 split <;> omega
theorem nest_eq {K : Nat} (hK : K ≤ 1048576) : ∀ e : Exp, e.Fit K → e.nest ≤ 2000000 → Big2 fun N d => xEX N d e = some (e.nest : Int) ∧ xE3 N d e = some (e.nest : Int) := by
 refine Exp.ind fun k n t a ih h hc => ?_
 obtain ⟨h1, h2, h3, h4⟩ := Exp.fit_iff.1 h
 rw [Exp.nest_eq] at hc
 have hc : Exp.nests a + 1 ≤ 2000000 := hc
 have hmem : ∀ x ∈ a, x.nest ≤ Exp.nests a := fun x hx => xON hx
 refine Big2.succ ?_
 refine ((Big2.list fun x hx => ih x hx (h4.2 x hx) (by have := hmem x hx; omega)).and (xMe (K + 30)).two).imp fun N d ⟨hx, hn⟩ => ?_
 have hl : a.length ≤ K := h4.1
 rw [Exp.nest_eq]
 refine ⟨?_, ?_⟩
 · have := xGm (L := fun m i (s : Nat) => xEw N (xEX N d) m (s : Int) a a.length i) a (fun l s => ((max s (Exp.nests l) + 1 : Nat) : Int)) (fun i s => s ≤ 2000000) (fun m s hs => by
    have hw : IntKind.i64.wrap ((s : Int) + 1) = ((max s 0 + 1 : Nat) : Int) := by rw [xBh (by omega) (by omega)]; omega
    simp only [xEw, Int.lt_irrefl, decide_false, jF, hw, Exp.nests])
    (fun i x l s hd hi hxi hs => by
      have hi' : (i : Int) < (a.length : Int) := by omega
      have hm := List.mem_of_getElem? hxi
      have := hmem x hm
      refine .inl ⟨max s x.nest, by omega, by simp only [Exp.nests]; omega, fun m => ?_⟩
      simp only [xEw, decide_eq_true hi', jT, Int.toNat_natCast, xCw hxi, (hx x hm).1, jS, maxI, xBy hi (by omega : a.length ≤ _)]
      rw [if_pos (by omega)]) N 0 0 (by omega) (by omega) (by omega)
   rw [List.drop_zero] at this
   refine Eq.trans this ?_
   simp; rfl
 · have := xGm (L := fun m i (s : Nat) => xEz N (xE3 N d) m (s : Int) i (.mk k n t a)) a (fun l s => ((max s (Exp.nests l) + 1 : Nat) : Int)) (fun i s => s ≤ 2000000) (fun m s hs => by
    have hw : IntKind.i64.wrap ((s : Int) + 1) = ((max s 0 + 1 : Nat) : Int) := by rw [xBh (by omega) (by omega)]; omega
    simp only [xEz, ea, Int.lt_irrefl, decide_false, jF, hw, Exp.nests])
    (fun i x l s hd hi hxi hs => by
      have hi' : (i : Int) < ((Exp.mk k n t a).args.length : Int) := by show (i : Int) < (a.length : Int); omega
      have hi2 : (0 : Int) ≤ (i : Int) ∧ (i : Int) < ((Exp.mk k n t a).args.length : Int) := ⟨by omega, hi'⟩
      have hm := List.mem_of_getElem? hxi
      have hxi2 : (Exp.mk k n t a).args[i]? = some x := hxi
      have := hmem x hm
      have hmax : xIq N (s : Int) (x.nest : Int) = some ((max s x.nest : Nat) : Int) := by
       unfold xIq
       by_cases c : (s : Int) > (x.nest : Int)
       · rw [decide_eq_true c]; show some (s : Int) = _; congr 1; omega
       · rw [decide_eq_false c]; show some (x.nest : Int) = _; congr 1; omega
      refine .inl ⟨max s x.nest, by omega, by simp only [Exp.nests]; omega, fun m => ?_⟩
      simp only [xEz, decide_eq_true hi', jT, if_pos hi2, Int.toNat_natCast, xCw hxi2, (hx x hm).2, jS, hmax, xBy hi (by omega : a.length ≤ _)]) N 0 0 (by omega) (by omega) (by omega)
   rw [List.drop_zero] at this
   refine Eq.trans this ?_
   simp; rfl
def xFJ (e : Exp) : Bool := (decide (e.cnt ≤ 40) && decide (e.nest ≤ 8)) && okE e
theorem xKw {K : Nat} (hK : K ≤ 1048576) {e : Exp} (h : e.Fit K) (hs : e.size ≤ 1048576) : Big fun N => xCJ N e = some (xFJ e) ∧ xCj N e = some (xFJ e) := by
 have h1 := Exp.cnt_le e
 have h2 := Exp.nest_le e
 refine (((xRQ hK e h (by omega)).diag.and (nest_eq hK e h (by omega)).diag).and (vAL hK e h).diag).imp fun N ⟨⟨⟨c1, c2⟩, n1, n2⟩, a1, a2⟩ => ?_
 have c3 : xH6 N e = some (e.cnt : Int) := c1
 have c4 : xJq N e 40 = some (left e.cnt 40) := c2 40 (by omega) (by omega)
 have n3 : xH5 N e = some (e.nest : Int) := n1
 have n4 : xIe N e = some (e.nest : Int) := n2
 have a3 : xIt N e = some (okE e) := a1
 have a4 : xJ8 N e = some (okE e) := a2
 have d1 : decide ((e.cnt : Int) ≤ 40) = decide (e.cnt ≤ 40) := decide_eq_decide.2 (by omega)
 have d2 : decide (left e.cnt 40 ≥ 0) = decide (e.cnt ≤ 40) := decide_eq_decide.2 (by unfold left; split <;> omega)
 have d3 : decide ((e.nest : Int) ≤ 8) = decide (e.nest ≤ 8) := decide_eq_decide.2 (by omega)
 refine ⟨?_, ?_⟩
 · simp only [xCJ, c3, n3, a3, jS, d1, d3, xFJ]
   cases decide (e.cnt ≤ 40) <;> cases decide (e.nest ≤ 8) <;> rfl
 · simp only [xCj, c4, n4, a4, jS, d2, d3, xFJ]
   cases decide (e.cnt ≤ 40) <;> cases decide (e.nest ≤ 8) <;> rfl
theorem xHG (N : Nat) (e : Exp) : xFR N e = some (lvl e) := by
 unfold xFR lvl
 repeat (first | rfl | refine xEo ?_ ?_)
theorem xIZ (N : Nat) (e : Exp) : xHS N e = some (lvl e) := (xPv N e).trans (xHG N e)
theorem xVU : ∀ s : List Str, (s.getD 0 []).length + (s.getD 1 []).length + (s.getD 2 []).length ≤ (s.map List.length).sum
 | [] => by simp
 | [x] => by simp
 | [x, y] => by simp
 | x :: y :: z :: r => by simp only [List.getD_cons_zero, List.getD_cons_succ, List.map_cons, List.sum_cons]; omega
theorem xNr (n : Int) : (xQD n).length ≤ 2 := by
 unfold xQD
 cases (n == 1) <;> cases (n == 2) <;> cases (n == 3) <;> cases (n == 4) <;> simp
theorem xLj (l : Int) (x : Exp) (s : Str) : (encl l x s).length ≤ s.length + 2 := by
 unfold encl
 cases decide (lvl x < l) <;> simp
theorem xQe {k n : Int} (hn : -9223372036854775808 ≤ n ∧ n ≤ 9223372036854775807) (t : Str) (a : List Exp) (s : List Str) : (xKk k n t a s).length ≤ 60 + t.length + (s.map List.length).sum + 2 * s.length := by
 have h1 := xRZ hn
 have h2 := xMC s [44, 32]
 have h3 := xVU s
 have h4 := xNr n
 have h5 := xLj (bif lvl (.mk k n t a) == 1 then 2 else lvl (.mk k n t a)) (a.getD 0 Ty.exp.dflt) (s.getD 0 [])
 have h6 := xLj (lvl (.mk k n t a) + 1) (a.getD 1 Ty.exp.dflt) (s.getD 1 [])
 have h7 : ([44, 32] : Str).length = 2 := rfl
 rw [h7] at h2
 unfold xKk
 cases (k == 1) <;> cases (k == 2) <;> cases (k == 3) <;> cases (k == 4) <;> cases (k == 5) <;> cases (k == 7) <;> cases (k == 9) <;> cases (k == 8) <;> simp only [jT, jF, jA, jC, jN] <;> omega
theorem xM9 : ∀ (K : Nat) (e : Exp), e.Fit K → (srcE e).length + 4 ≤ 64 * e.cnt + e.size := by
 intro K
 refine Exp.ind fun k n t a ih h => ?_
 obtain ⟨h1, h2, h3, h4⟩ := Exp.fit_iff.1 h
 have h5 : (a.map fun x => (srcE x).length).sum + 4 * a.length ≤ 64 * sumC a + (a.map Exp.size).sum := by
  have h6 := fun x hx => ih x hx (h4.2 x hx)
  clear ih h h1 h2 h3 h4
  induction a with
  | nil => exact Nat.le_refl _
  | cons x l ih2 =>
    have g1 := h6 x List.mem_cons_self
    have g2 := ih2 fun y hy => h6 y (List.mem_cons_of_mem _ hy)
    simp only [List.map_cons, List.sum_cons, xKv, jC]; omega
 have h6 := xQe (k := k) (n := n) h2 t a (a.map srcE)
 rw [xRA, Exp.cnt_eq, Exp.size_eq]
 rw [List.map_map, List.length_map] at h6
 have e1 : (List.length ∘ srcE) = fun x => (srcE x).length := rfl
 rw [e1] at h6
 show _ ≤ 64 * (1 + sumC a) + (t.length + (a.length + (a.map Exp.size).sum))
 omega
theorem xP6 {N d : Nat} {x : Exp} {s : Str} (h : (xAm N d).c_impl_source x = some s) (hs : s.length ≤ 1000000000) (l : Int) : (xAm N (d + 1)).c_impl_enclosed x l = some (encl l x s) := by
 show xGB N (xAm N d).c_impl_enclosed (xAm N d).c_impl_source (xAm N d).c_impl_sources x l = _
 simp only [xGB, h, jS, xIZ, encl]
 cases decide (lvl x < l)
 · rfl
 · simp only [jT]
   rw [if_pos (by simp only [jC, jN]; unfold Lim; omega), if_pos (by simp only [jA, jC, jN]; unfold Lim; omega)]
theorem xRx {N d : Nat} {x : Exp} {s : Str} (h : (xAv N d).c_spec_l12Text x = some s) (hs : s.length ≤ 1000000000) (l : Int) : (xAv N (d + 1)).c_spec_l12At x l = some (encl l x s) := by
 show xFV N (xAv N d).c_spec_l12At (xAv N d).c_spec_l12List (xAv N d).c_spec_l12Text x l = _
 simp only [xFV, h, jS, xHG, encl]
 cases decide (lvl x < l)
 · rfl
 · simp only [jT]
   rw [if_pos (by simp only [jC, jN]; unfold Lim; omega), if_pos (by simp only [jA, jC, jN]; unfold Lim; omega)]
theorem xP7 {N d : Nat} {a : List Exp} (h : ∀ x ∈ a, (xAm N d).c_impl_source x = some (srcE x)) (hl : a.length ≤ 1048576) (hN : 1048576 < N) (hs : ((a.map srcE).map List.length).sum ≤ 1000000000) :
 (xAm N (d + 1)).c_impl_sources a = some (Lib.join (a.map srcE) [44, 32]) := by
 show xFe N (xAm N d).c_impl_enclosed (xAm N d).c_impl_source (xAm N d).c_impl_sources N [] a a.length 0 = _
 refine xGm (L := fun m i q => xFe N (xAm N d).c_impl_enclosed (xAm N d).c_impl_source (xAm N d).c_impl_sources m q a a.length i) a (fun l q => Lib.join (q ++ l.map srcE) [44, 32]) (fun i q => q = (a.take i).map srcE) (fun m q hq => ?_)
  (fun i x l q hd hi hxi hq => ?_) N 0 [] rfl (by omega) (by omega)
 · have hq : q = a.map srcE := by rw [List.take_length] at hq; exact hq
   subst hq
   have e : ([44, 32] : Str).length = 2 := rfl
   simp only [xFe, Int.lt_irrefl, decide_false, jF, xNk (N := N) (xs := a.map srcE) (sep := [44, 32]) (by rw [List.length_map]; omega) (by rw [List.length_map, e]; omega), jS, List.map_nil, List.append_nil]
 · have hi' : (i : Int) < (a.length : Int) := by omega
   refine .inl ⟨q ++ [srcE x], by rw [hq, List.take_add_one, hxi]; simp, by simp, fun m => ?_⟩
   have hql : q.length ≤ 1048576 := by rw [hq, List.length_map, List.length_take]; omega
   simp only [xFe, decide_eq_true hi', jT, Int.toNat_natCast, xCw hxi, h x (List.mem_of_getElem? hxi), jS, xBy hi (by omega : a.length ≤ _)]
   rw [if_pos (by omega), if_pos (by simp only [jC, jN]; unfold Lim; omega)]
theorem xRy {N d : Nat} {a : List Exp} (h : ∀ x ∈ a, (xAv N d).c_spec_l12Text x = some (srcE x)) (hl : a.length ≤ 1048576) (hN : 1048576 < N) (hs : ((a.map srcE).map List.length).sum ≤ 1000000000) :
 (xAv N (d + 1)).c_spec_l12List a = some (Lib.join (a.map srcE) [44, 32]) := by
 show xEM N (xAv N d).c_spec_l12At (xAv N d).c_spec_l12List (xAv N d).c_spec_l12Text N a [] 0 = _
 refine xGm (L := fun m i q => xEM N (xAv N d).c_spec_l12At (xAv N d).c_spec_l12List (xAv N d).c_spec_l12Text m a q i) a (fun l q => Lib.join (q ++ l.map srcE) [44, 32]) (fun i q => q = (a.take i).map srcE) (fun m q hq => ?_)
  (fun i x l q hd hi hxi hq => ?_) N 0 [] rfl (by omega) (by omega)
 · have hq : q = a.map srcE := by rw [List.take_length] at hq; exact hq
   subst hq
   have e : ([44, 32] : Str).length = 2 := rfl
   simp only [xEM, Int.lt_irrefl, decide_false, jF, xNG (N := N) (xs := a.map srcE) (sep := [44, 32]) (by rw [List.length_map]; omega) (by rw [List.length_map, e]; omega) (by rw [List.length_map]; omega), jS, List.map_nil, List.append_nil]
 · have hi' : (i : Int) < (a.length : Int) := by omega
   refine .inl ⟨q ++ [srcE x], by rw [hq, List.take_add_one, hxi]; simp, by simp, fun m => ?_⟩
   have hql : q.length ≤ 1048576 := by rw [hq, List.length_map, List.length_take]; omega
   simp only [xEM, decide_eq_true hi', jT, Int.toNat_natCast, xCw hxi, h x (List.mem_of_getElem? hxi), jS, xBy hi (by omega : a.length ≤ _)]
   rw [if_pos (by omega), if_pos (by simp only [jC, jN]; unfold Lim; omega)]
theorem xR8 {N : Nat} {n : Int} (h1 : 1 ≤ n) (h5 : n ≤ 5) : xEY N n = some (xQD n) ∧ xGH N n = some (xQD n) := by
 have hw : IntKind.i64.wrap (n - 1) = n - 1 := xBh (by omega) (by omega)
 rcases (by omega : n = 1 ∨ n = 2 ∨ n = 3 ∨ n = 4 ∨ n = 5) with rfl | rfl | rfl | rfl | rfl <;> exact ⟨rfl, rfl⟩
theorem kinds {k n : Int} {t : Str} {l : Nat} (h : xNn xJx xDE argc k n t l = true) : k = 1 ∨ k = 2 ∨ k = 3 ∨ k = 4 ∨ k = 5 ∨ (k = 6 ∧ 1 ≤ n ∧ n ≤ 5 ∧ l = 2) ∨ (k = 7 ∧ l = 2) ∨ (k = 9 ∧ l = 2) ∨ (k = 8 ∧ l = 3) := by
 unfold xNn at h
 by_cases h1 : k = 1; · exact .inl h1
 by_cases h2 : k = 2; · exact .inr (.inl h2)
 by_cases h3 : k = 3; · exact .inr (.inr (.inl h3))
 by_cases h4 : k = 4; · exact .inr (.inr (.inr (.inl h4)))
 by_cases h5 : k = 5; · exact .inr (.inr (.inr (.inr (.inl h5))))
 rw [beq_eq_false_iff_ne.2 h1, beq_eq_false_iff_ne.2 h2, beq_eq_false_iff_ne.2 h3, beq_eq_false_iff_ne.2 h4, beq_eq_false_iff_ne.2 h5] at h
 simp only [jF] at h
 by_cases h6 : k = 6
 · subst h6
   simp only [beq_self_eq_true, jT, Bool.and_eq_true, decide_eq_true_eq, beq_iff_eq] at h
   exact .inr (.inr (.inr (.inr (.inr (.inl ⟨rfl, h.1.1, h.1.2, h.2.2⟩)))))
 by_cases h7 : k = 7
 · subst h7
   simp only [show ((7 : Int) == 6) = false from rfl, jF, beq_self_eq_true, jT, Bool.and_eq_true, beq_iff_eq] at h
   exact .inr (.inr (.inr (.inr (.inr (.inr (.inl ⟨rfl, h.2.2⟩))))))
 by_cases h9 : k = 9
 · subst h9
   simp only [show ((9 : Int) == 6) = false from rfl, show ((9 : Int) == 7) = false from rfl, jF, beq_self_eq_true, jT, Bool.and_eq_true, beq_iff_eq] at h
   exact .inr (.inr (.inr (.inr (.inr (.inr (.inr (.inl ⟨rfl, h.2.2⟩)))))))
 by_cases h8 : k = 8
 · subst h8
   simp only [show ((8 : Int) == 6) = false from rfl, show ((8 : Int) == 7) = false from rfl, show ((8 : Int) == 9) = false from rfl, jF, beq_self_eq_true, jT, Bool.and_eq_true, beq_iff_eq] at h
   exact .inr (.inr (.inr (.inr (.inr (.inr (.inr (.inr ⟨rfl, h.2.2⟩)))))))
 rw [beq_eq_false_iff_ne.2 h6, beq_eq_false_iff_ne.2 h7, beq_eq_false_iff_ne.2 h9, beq_eq_false_iff_ne.2 h8] at h
 cases h
theorem xRH {α : Type} {l : List α} (h : l.length = 2) : ∃ x y, l = [x, y] := by
 match l, h with
 | [x, y], _ => exact ⟨x, y, rfl⟩
theorem xVu {α : Type} {l : List α} (h : l.length = 3) : ∃ x y z, l = [x, y, z] := by
 match l, h with
 | [x, y, z], _ => exact ⟨x, y, z, rfl⟩
theorem lvl6 {n : Int} {t : Str} {a : List Exp} (h1 : 1 ≤ n) (h5 : n ≤ 5) : 1 ≤ lvl (.mk 6 n t a) ∧ lvl (.mk 6 n t a) ≤ 3 := by
 rcases (by omega : n = 1 ∨ n = 2 ∨ n = 3 ∨ n = 4 ∨ n = 5) with rfl | rfl | rfl | rfl | rfl <;> simp [lvl, ek, en]
theorem xNK {f g h : Exp → Nat} : ∀ {a : List Exp}, (∀ x ∈ a, f x + 4 ≤ 64 * g x + h x) → (a.map f).sum ≤ 64 * (a.map g).sum + (a.map h).sum
 | [], _ => Nat.le_refl _
 | x :: l, H => by
   have g1 := H x List.mem_cons_self
   have g2 := xNK fun y hy => H y (List.mem_cons_of_mem _ hy)
   simp only [List.map_cons, List.sum_cons]; omega
theorem vAG {K : Nat} (hK : K ≤ 1048576) : ∀ e : Exp, e.Fit K → e.size ≤ 1048576 → okE e = true → Big2 fun N d => (xAm N d).c_impl_source e = some (srcE e) ∧ (xAv N d).c_spec_l12Text e = some (srcE e) := by
 refine Exp.ind fun k n t a ih h hs ho => ?_
 obtain ⟨h1, h2, h3, h4⟩ := Exp.fit_iff.1 h
 have hnn : -9223372036854775808 ≤ n ∧ n ≤ 9223372036854775807 := h2
 have ht : t.length ≤ K := h3
 have hl : a.length ≤ K := h4.1
 rw [Exp.size_eq] at hs
 have hs : t.length + (a.length + (a.map Exp.size).sum) ≤ 1048576 := hs
 rw [xVE, Bool.and_eq_true] at ho
 have hoa : ∀ x ∈ a, okE x = true := List.all_eq_true.1 ho.1
 have hsz : ∀ x ∈ a, x.size ≤ 1048576 := fun x hx => by have := xPg (f := Exp.size) hx; omega
 have IH := fun x hx => ih x hx (h4.2 x hx) (hsz x hx) (hoa x hx)
 refine Big2.succ (Big2.succ ?_)
 refine ((Big2.list fun x hx => (IH x hx).and (IH x hx).up).and (xMe 1048576).two).imp fun N d ⟨hx, hn⟩ => ?_
 have hlen : ∀ x ∈ a, (srcE x).length ≤ 200000000 := fun x hx => by
  have e1 := xM9 K x (h4.2 x hx)
  have e2 := Exp.cnt_le x
  have e3 := hsz x hx
  omega
 have hsum : ((a.map srcE).map List.length).sum ≤ 200000000 := by
  rw [List.map_map]
  have e1 := xNK (f := List.length ∘ srcE) (g := Exp.cnt) (h := Exp.size) (a := a) fun x hx => xM9 K x (h4.2 x hx)
  have e2 := xOC (f := Exp.cnt) (g := Exp.size) (a := a) fun x _ => Exp.cnt_le x
  omega
 have A1 : ∀ x ∈ a, ∀ l, (xAm N (d + 1)).c_impl_enclosed x l = some (encl l x (srcE x)) := fun x hm l => xP6 (hx x hm).1.1 (by have := hlen x hm; omega) l
 have A2 : ∀ x ∈ a, ∀ l, (xAv N (d + 1)).c_spec_l12At x l = some (encl l x (srcE x)) := fun x hm l => xRx (hx x hm).1.2 (by have := hlen x hm; omega) l
 have B1 := xP7 (N := N) (d := d) (a := a) (fun x hm => (hx x hm).1.1) (by omega) hn (by omega)
 have B2 := xRy (N := N) (d := d) (a := a) (fun x hm => (hx x hm).1.2) (by omega) hn (by omega)
 have hj := xMC (a.map srcE) [44, 32]
 have h7 : ([44, 32] : Str).length = 2 := rfl
 rw [h7, List.length_map] at hj
 rw [xRA]
 show xCK N (xAm N (d + 1)).c_impl_enclosed (xAm N (d + 1)).c_impl_source (xAm N (d + 1)).c_impl_sources (.mk k n t a) = _ ∧
  xBR N (xAv N (d + 1)).c_spec_l12At (xAv N (d + 1)).c_spec_l12List (xAv N (d + 1)).c_spec_l12Text (.mk k n t a) = _
 have C1 : ∀ x ∈ a, (xAm N (d + 1)).c_impl_source x = some (srcE x) := fun x hm => (hx x hm).2.1
 have C2 : ∀ x ∈ a, (xAv N (d + 1)).c_spec_l12Text x = some (srcE x) := fun x hm => (hx x hm).2.2
 generalize (xAm N (d + 1)).c_impl_enclosed = q0 at A1 ⊢
 generalize (xAm N (d + 1)).c_impl_source = q1 at C1 ⊢
 generalize (xAm N (d + 1)).c_impl_sources = q2 at B1 ⊢
 generalize (xAv N (d + 1)).c_spec_l12At = r0 at A2 ⊢
 generalize (xAv N (d + 1)).c_spec_l12Text = r1 at C2 ⊢
 generalize (xAv N (d + 1)).c_spec_l12List = r2 at B2 ⊢
 rcases kinds ho.2 with hk | hk | hk | hk | hk | ⟨hk, hn1, hn5, hl2⟩ | ⟨hk, hl2⟩ | ⟨hk, hl2⟩ | ⟨hk, hl2⟩ <;> (have hk : k = _ := hk; subst hk)
 · exact ⟨by simp [xCK, ek, en, xKA hnn, xKk], by simp [xBR, ek, en, xIo (by omega : 100 < N) hnn, xKk]⟩
 · have e1 : List.length [34] + List.length t ≤ Lim := by simp only [jC, jN]; unfold Lim; omega
   have e2 : List.length (([34] : Str) ++ t) + List.length [34] ≤ Lim := by simp only [jA, jC, jN]; unfold Lim; omega
   refine ⟨?_, ?_⟩
   · simp only [xCK, ek, et, show ((2 : Int) == 1) = false from rfl, beq_self_eq_true, jT, jF, xKk]
     repeat (first | refine Eq.trans (if_pos (by simp only [jA, jC, jN]; unfold Lim; omega)) ?_ | refine Eq.trans (if_pos (by simp only [jC, jN]; omega)) ?_)
     rfl
   · simp only [xBR, ek, et, show ((2 : Int) == 1) = false from rfl, beq_self_eq_true, jT, jF, xKk]
     repeat (first | refine Eq.trans (if_pos (by simp only [jA, jC, jN]; unfold Lim; omega)) ?_ | refine Eq.trans (if_pos (by simp only [jC, jN]; omega)) ?_)
     rfl
 · exact ⟨rfl, rfl⟩
 · have e1 : List.length [91] + List.length (Lib.join (a.map srcE) [44, 32]) ≤ Lim := by simp only [jC, jN]; unfold Lim; omega
   have e2 : List.length (([91] : Str) ++ Lib.join (a.map srcE) [44, 32]) + List.length [93] ≤ Lim := by simp only [jA, jC, jN]; unfold Lim; omega
   refine ⟨?_, ?_⟩
   · simp only [xCK, ek, ea, show ((4 : Int) == 1) = false from rfl, show ((4 : Int) == 2) = false from rfl, show ((4 : Int) == 3) = false from rfl, beq_self_eq_true, jT, jF, xKk, B1, jS]
     repeat (first | refine Eq.trans (if_pos (by simp only [jA, jC, jN]; unfold Lim; omega)) ?_ | refine Eq.trans (if_pos (by simp only [jC, jN]; omega)) ?_)
     rfl
   · simp only [xBR, ek, ea, show ((4 : Int) == 1) = false from rfl, show ((4 : Int) == 2) = false from rfl, show ((4 : Int) == 3) = false from rfl, beq_self_eq_true, jT, jF, xKk, B2, jS]
     repeat (first | refine Eq.trans (if_pos (by simp only [jA, jC, jN]; unfold Lim; omega)) ?_ | refine Eq.trans (if_pos (by simp only [jC, jN]; omega)) ?_)
     rfl
 · have e0 : List.length t + List.length [40] ≤ Lim := by simp only [jC, jN]; unfold Lim; omega
   have e1 : List.length (t ++ [40]) + List.length (Lib.join (a.map srcE) [44, 32]) ≤ Lim := by simp only [jA, jC, jN]; unfold Lim; omega
   have e2 : List.length ((t ++ [40]) ++ Lib.join (a.map srcE) [44, 32]) + List.length [41] ≤ Lim := by simp only [jA, jC, jN]; unfold Lim; omega
   refine ⟨?_, ?_⟩
   · simp only [xCK, ek, ea, et, show ((5 : Int) == 1) = false from rfl, show ((5 : Int) == 2) = false from rfl, show ((5 : Int) == 3) = false from rfl, show ((5 : Int) == 4) = false from rfl, beq_self_eq_true, jT, jF, xKk, B1, jS]
     repeat (first | refine Eq.trans (if_pos (by simp only [jA, jC, jN]; unfold Lim; omega)) ?_ | refine Eq.trans (if_pos (by simp only [jC, jN]; omega)) ?_)
     rfl
   · simp only [xBR, ek, ea, et, show ((5 : Int) == 1) = false from rfl, show ((5 : Int) == 2) = false from rfl, show ((5 : Int) == 3) = false from rfl, show ((5 : Int) == 4) = false from rfl, beq_self_eq_true, jT, jF, xKk, B2, jS]
     repeat (first | refine Eq.trans (if_pos (by simp only [jA, jC, jN]; unfold Lim; omega)) ?_ | refine Eq.trans (if_pos (by simp only [jC, jN]; omega)) ?_)
     rfl
 · obtain ⟨x, y, rfl⟩ := xRH hl2
   have lx := hlen x (by simp)
   have ly := hlen y (by simp)
   have cx := A1 x (by simp)
   have cy := A1 y (by simp)
   have dx := A2 x (by simp)
   have dy := A2 y (by simp)
   have gx : List.getD [x, y] (Int.toNat 0) Ty.exp.dflt = x := rfl
   have gy : List.getD [x, y] (Int.toNat 1) Ty.exp.dflt = y := rfl
   have hv := lvl6 (n := n) (t := t) (a := [x, y]) hn1 hn5
   have hw : IntKind.i64.wrap (lvl (.mk 6 n t [x, y]) + 1) = lvl (.mk 6 n t [x, y]) + 1 := xBh (by omega) (by omega)
   obtain ⟨o1, o2⟩ := xR8 (N := N) (n := n) hn1 hn5
   have ol := xNr n
   have kx := fun l => xLj l x (srcE x)
   have ky := fun l => xLj l y (srcE y)
   have k1 := kx 2
   have k2 := kx (lvl (.mk 6 n t [x, y]))
   have k3 := ky (lvl (.mk 6 n t [x, y]) + 1)
   refine ⟨?_, ?_⟩
   · cases hb : (lvl (.mk 6 n t [x, y]) == 1)
     all_goals
      simp only [xCK, ek, en, et, ea, show ((6 : Int) == 1) = false from rfl, show ((6 : Int) == 2) = false from rfl, show ((6 : Int) == 3) = false from rfl, show ((6 : Int) == 4) = false from rfl, show ((6 : Int) == 5) = false from rfl, show ((6 : Int) == 7) = false from rfl, show ((6 : Int) == 8) = false from rfl, show ((6 : Int) == 9) = false from rfl, jT, jF, xIZ, jS, hb, gx, gy, cx, cy, hw, o1]
      repeat (first | refine Eq.trans (if_pos (by simp only [jA, jC, jN]; unfold Lim; omega)) ?_ | rw [o1, jS] | refine Eq.trans (if_pos (by simp only [jC, jN]; omega)) ?_)
      simp only [xKk, show ((6 : Int) == 1) = false from rfl, show ((6 : Int) == 2) = false from rfl, show ((6 : Int) == 3) = false from rfl, show ((6 : Int) == 4) = false from rfl, show ((6 : Int) == 5) = false from rfl, show ((6 : Int) == 7) = false from rfl, show ((6 : Int) == 8) = false from rfl, show ((6 : Int) == 9) = false from rfl, jT, jF, hb]
      rfl
   · cases hb : (lvl (.mk 6 n t [x, y]) == 1)
     all_goals
      simp only [xBR, ek, en, et, ea, show ((6 : Int) == 1) = false from rfl, show ((6 : Int) == 2) = false from rfl, show ((6 : Int) == 3) = false from rfl, show ((6 : Int) == 4) = false from rfl, show ((6 : Int) == 5) = false from rfl, show ((6 : Int) == 7) = false from rfl, show ((6 : Int) == 8) = false from rfl, show ((6 : Int) == 9) = false from rfl, jT, jF, xHG, jS, hb, gx, gy, dx, dy, hw, o2]
      repeat (first | refine Eq.trans (if_pos (by simp only [jA, jC, jN]; unfold Lim; omega)) ?_ | rw [o2, jS] | refine Eq.trans (if_pos (by simp only [jC, jN]; omega)) ?_)
      simp only [xKk, show ((6 : Int) == 1) = false from rfl, show ((6 : Int) == 2) = false from rfl, show ((6 : Int) == 3) = false from rfl, show ((6 : Int) == 4) = false from rfl, show ((6 : Int) == 5) = false from rfl, show ((6 : Int) == 7) = false from rfl, show ((6 : Int) == 8) = false from rfl, show ((6 : Int) == 9) = false from rfl, jT, jF, hb]
      rfl
 · obtain ⟨x, y, rfl⟩ := xRH hl2
   have lx := hlen x (by simp)
   have cx := C1 x (by simp)
   have dx := C2 x (by simp)
   have gx : List.getD [x, y] (Int.toNat 0) Ty.exp.dflt = x := rfl
   have ly := hlen y (by simp)
   have cy := C1 y (by simp)
   have dy := C2 y (by simp)
   have gy : List.getD [x, y] (Int.toNat 1) Ty.exp.dflt = y := rfl
   refine ⟨?_, ?_⟩
   · simp only [xCK, ek, en, et, ea, show ((7 : Int) == 1) = false from rfl, show ((7 : Int) == 2) = false from rfl, show ((7 : Int) == 3) = false from rfl, show ((7 : Int) == 4) = false from rfl, show ((7 : Int) == 5) = false from rfl, show ((7 : Int) == 6) = false from rfl, beq_self_eq_true, jT, jF, gx, gy, cx, cy, jS]
     repeat (first | refine Eq.trans (if_pos (by simp only [jA, jC, jN]; unfold Lim; omega)) ?_ | refine Eq.trans (if_pos (by simp only [jC, jN]; omega)) ?_)
     rfl
   · simp only [xBR, ek, en, et, ea, show ((7 : Int) == 1) = false from rfl, show ((7 : Int) == 2) = false from rfl, show ((7 : Int) == 3) = false from rfl, show ((7 : Int) == 4) = false from rfl, show ((7 : Int) == 5) = false from rfl, show ((7 : Int) == 6) = false from rfl, beq_self_eq_true, jT, jF, gx, gy, dx, dy, jS]
     repeat (first | refine Eq.trans (if_pos (by simp only [jA, jC, jN]; unfold Lim; omega)) ?_ | refine Eq.trans (if_pos (by simp only [jC, jN]; omega)) ?_)
     rfl
 · obtain ⟨x, y, rfl⟩ := xRH hl2
   have lx := hlen x (by simp)
   have cx := C1 x (by simp)
   have dx := C2 x (by simp)
   have gx : List.getD [x, y] (Int.toNat 0) Ty.exp.dflt = x := rfl
   have ly := hlen y (by simp)
   have cy := C1 y (by simp)
   have dy := C2 y (by simp)
   have gy : List.getD [x, y] (Int.toNat 1) Ty.exp.dflt = y := rfl
   refine ⟨?_, ?_⟩
   · simp only [xCK, ek, en, et, ea, show ((9 : Int) == 1) = false from rfl, show ((9 : Int) == 2) = false from rfl, show ((9 : Int) == 3) = false from rfl, show ((9 : Int) == 4) = false from rfl, show ((9 : Int) == 5) = false from rfl, show ((9 : Int) == 7) = false from rfl, show ((9 : Int) == 8) = false from rfl, beq_self_eq_true, jT, jF, gx, gy, cx, cy, jS]
     repeat (first | refine Eq.trans (if_pos (by simp only [jA, jC, jN]; unfold Lim; omega)) ?_ | refine Eq.trans (if_pos (by simp only [jC, jN]; omega)) ?_)
     rfl
   · simp only [xBR, ek, en, et, ea, show ((9 : Int) == 1) = false from rfl, show ((9 : Int) == 2) = false from rfl, show ((9 : Int) == 3) = false from rfl, show ((9 : Int) == 4) = false from rfl, show ((9 : Int) == 5) = false from rfl, show ((9 : Int) == 7) = false from rfl, show ((9 : Int) == 8) = false from rfl, beq_self_eq_true, jT, jF, gx, gy, dx, dy, jS]
     repeat (first | refine Eq.trans (if_pos (by simp only [jA, jC, jN]; unfold Lim; omega)) ?_ | refine Eq.trans (if_pos (by simp only [jC, jN]; omega)) ?_)
     rfl
 · obtain ⟨x, y, z, rfl⟩ := xVu hl2
   have lx := hlen x (by simp)
   have cx := C1 x (by simp)
   have dx := C2 x (by simp)
   have gx : List.getD [x, y, z] (Int.toNat 0) Ty.exp.dflt = x := rfl
   have ly := hlen y (by simp)
   have cy := C1 y (by simp)
   have dy := C2 y (by simp)
   have gy : List.getD [x, y, z] (Int.toNat 1) Ty.exp.dflt = y := rfl
   have lz := hlen z (by simp)
   have cz := C1 z (by simp)
   have dz := C2 z (by simp)
   have gz : List.getD [x, y, z] (Int.toNat 2) Ty.exp.dflt = z := rfl
   refine ⟨?_, ?_⟩
   · simp only [xCK, ek, en, et, ea, show ((8 : Int) == 1) = false from rfl, show ((8 : Int) == 2) = false from rfl, show ((8 : Int) == 3) = false from rfl, show ((8 : Int) == 4) = false from rfl, show ((8 : Int) == 5) = false from rfl, show ((8 : Int) == 7) = false from rfl, show ((8 : Int) == 9) = false from rfl, beq_self_eq_true, jT, jF, gx, gy, gz, cx, cy, cz, jS]
     repeat (first | refine Eq.trans (if_pos (by simp only [jA, jC, jN]; unfold Lim; omega)) ?_ | refine Eq.trans (if_pos (by simp only [jC, jN]; omega)) ?_)
     rfl
   · simp only [xBR, ek, en, et, ea, show ((8 : Int) == 1) = false from rfl, show ((8 : Int) == 2) = false from rfl, show ((8 : Int) == 3) = false from rfl, show ((8 : Int) == 4) = false from rfl, show ((8 : Int) == 5) = false from rfl, show ((8 : Int) == 7) = false from rfl, show ((8 : Int) == 9) = false from rfl, beq_self_eq_true, jT, jF, gx, gy, gz, dx, dy, dz, jS]
     repeat (first | refine Eq.trans (if_pos (by simp only [jA, jC, jN]; unfold Lim; omega)) ?_ | refine Eq.trans (if_pos (by simp only [jC, jN]; omega)) ?_)
     rfl
end Go.Ab
end
section
namespace Go.Ab
def fmtE (e : Exp) : Str := bif !xFJ e then [] else srcE e
theorem xP4 {K : Nat} (hK : K ≤ 1048576) {e : Exp} (h : e.Fit K) (hs : e.size ≤ 1048576) : Big fun N => xHs N e = some (fmtE e) ∧ xFf N e = some (fmtE e) := by
 cases hv : xFJ e
 · refine (xKw hK h hs).imp fun N ⟨h1, h2⟩ => ?_
   simp only [xHs, xFf, h1, h2, hv, jS, Bool.not_false, jT, fmtE]
   exact ⟨trivial, trivial⟩
 · have ho : okE e = true := by
    unfold xFJ at hv
    simp only [Bool.and_eq_true] at hv
    exact hv.2
   refine ((xKw hK h hs).and (vAG hK e h hs ho).diag).imp fun N ⟨⟨h1, h2⟩, s1, s2⟩ => ?_
   have s3 : xLx N e = some (srcE e) := s1
   have s4 : xJv N e = some (srcE e) := s2
   simp only [xHs, xFf, h1, h2, hv, jS, Bool.not_true, jF, fmtE, s3, s4]
   exact ⟨trivial, trivial⟩
end Go.Ab
end
section
namespace Go.Ab
inductive PR (α : Type) where
 | ok (a : α) (r : List Tok)
 | err (r : List Tok)
def PR.bind {α β : Type} : PR α → (α → List Tok → PR β) → PR β
 | .ok a r, k => k a r
 | .err r, _ => .err r
theorem PR.bind_ok {α β : Type} {R : PR α} {k : α → List Tok → PR β} {b : β} {r : List Tok} (h : R.bind k = .ok b r) : ∃ a q, R = .ok a q ∧ k a q = .ok b r := by
 cases R with
 | ok a q => exact ⟨a, q, rfl, h⟩
 | err q => cases h
def isK (t : Tok) (s : Str) : Bool := bif t.kind == 1 then t.text == s else false
def isS (t : Tok) (s : Str) : Bool := bif t.kind == 4 then t.text == s else false
def seeK (s : Str) : List Tok → Bool
 | [] => false
 | t :: _ => isK t s
def seeS (s : Str) : List Tok → Bool
 | [] => false
 | t :: _ => isS t s
def xF9 (s : Str) : List Tok → PR Unit
 | [] => .err []
 | t :: r => bif isK t s || isS t s then .ok () r else .err (t :: r)
def xLU : List Tok → PR Str
 | [] => .err []
 | t :: r => bif t.kind == 1 then (bif xDE t.text then .ok t.text r else .err (t :: r)) else .err (t :: r)
def xJm (f : List Tok → PR Exp) (c : Str) : Nat → List Exp → List Tok → PR (List Exp)
 | 0, _, ts => .err ts
 | m + 1, acc, ts => (f ts).bind fun e r => bif seeS c r then .ok (acc ++ [e]) r.tail else (xF9 [44] r).bind fun _ q => xJm f c m (acc ++ [e]) q
def xKV (f : List Tok → PR Exp) (m : Nat) (c : Str) (ts : List Tok) : PR (List Exp) := bif seeS c ts then .ok [] ts.tail else xJm f c m [] ts
def xJk (f : List Tok → PR Exp) (m : Nat) (t : Tok) (r : List Tok) : PR Exp :=
 bif isS t [91] then (xKV f m [93] r).bind fun a q => .ok (.mk 4 0 [] a) q
 else bif isS t [40] then (f r).bind fun e q => (xF9 [41] q).bind fun _ u => .ok e u
 else .err (t :: r)
def xJ1 (f : List Tok → PR Exp) (m : Nat) : List Tok → PR Exp
 | [] => .err []
 | t :: r =>
   bif t.kind == 2 then .ok (.mk 1 t.n [] []) r
   else bif t.kind == 3 then .ok (.mk 2 0 t.text []) r
   else bif t.kind == 1 then
    (bif xDE t.text then .ok (.mk 3 0 t.text []) r
    else bif decide (argc t.text ≥ 0) then (xF9 [40] r).bind fun _ q => (xKV f m [41] q).bind fun a u => .ok (.mk 5 0 t.text a) u
    else xJk f m t r)
   else xJk f m t r
def xJn (g : List Tok → PR Exp) : Nat → Exp → List Tok → PR Exp
 | 0, _, ts => .err ts
 | m + 1, a, ts => bif seeS [42] ts then (g ts.tail).bind fun b r => xJn g m (.mk 6 3 [] [a, b]) r else .ok a ts
def xLV (g : List Tok → PR Exp) (m : Nat) (ts : List Tok) : PR Exp := (g ts).bind fun a r => xJn g m a r
def xJ4 (g : List Tok → PR Exp) : Nat → Exp → List Tok → PR Exp
 | 0, _, ts => .err ts
 | m + 1, a, ts => bif seeS [43] ts then (g ts.tail).bind fun b r => xJ4 g m (.mk 6 1 [] [a, b]) r
   else bif seeS [45] ts then (g ts.tail).bind fun b r => xJ4 g m (.mk 6 2 [] [a, b]) r else .ok a ts
def pSum (g : List Tok → PR Exp) (m : Nat) (ts : List Tok) : PR Exp := (g ts).bind fun a r => xJ4 g m a r
def xPB (g : List Tok → PR Exp) (a : Exp) (r : List Tok) : PR Exp :=
 bif seeS [60] r then (g r.tail).bind fun b q => .ok (.mk 6 4 [] [a, b]) q
 else bif seeS [61, 61] r then (g r.tail).bind fun b q => .ok (.mk 6 5 [] [a, b]) q else .ok a r
def pCmp (g : List Tok → PR Exp) (ts : List Tok) : PR Exp := (g ts).bind fun a r => xPB g a r
def pTwo (f : List Tok → PR Exp) (k : Int) (s1 s2 : Str) (ts : List Tok) : PR Exp :=
 (xLU ts).bind fun x q1 => (xF9 s1 q1).bind fun _ q2 => (f q2).bind fun a q3 => (xF9 s2 q3).bind fun _ q4 => (f q4).bind fun b q5 => .ok (.mk k 0 x [a, b]) q5
def pIf (f : List Tok → PR Exp) (ts : List Tok) : PR Exp :=
 (f ts).bind fun a q1 => (xF9 [116, 104, 101, 110] q1).bind fun _ q2 => (f q2).bind fun b q3 => (xF9 [101, 108, 115, 101] q3).bind fun _ q4 => (f q4).bind fun c q5 => .ok (.mk 8 0 [] [a, b, c]) q5
def xJl (f g : List Tok → PR Exp) (ts : List Tok) : PR Exp :=
 bif seeK [108, 101, 116] ts then pTwo f 7 [61] [105, 110] ts.tail
 else bif seeK [105, 102] ts then pIf f ts.tail
 else bif seeK [102, 111, 114] ts then pTwo f 9 [105, 110] [100, 111] ts.tail
 else pCmp g ts
def xNx (f : List Tok → PR Exp) (m : Nat) : List Tok → PR Exp := pSum (xLV (xJ1 f m) m) m
def pE : Nat → List Tok → PR Exp
 | 0, ts => .err ts
 | m + 1, ts => xJl (pE m) (xNx (pE m) (m + 1)) ts
theorem xM4 {s : Str} {ts r : List Tok} {u : Unit} (h : xF9 s ts = .ok u r) : ∃ t, ts = t :: r ∧ (isK t s || isS t s) = true := by
 cases ts with
 | nil => cases h
 | cons t q =>
   simp only [xF9] at h
   cases hb : isK t s || isS t s <;> rw [hb] at h <;> cases h
   exact ⟨t, rfl, hb⟩
theorem xM3 {ts r : List Tok} {x : Str} (h : xLU ts = .ok x r) : ∃ t, ts = t :: r ∧ x = t.text ∧ t.kind = 1 ∧ xDE t.text = true := by
 cases ts with
 | nil => cases h
 | cons t q =>
   simp only [xLU] at h
   cases hb : t.kind == 1 <;> rw [hb] at h
   · cases h
   · cases hv : xDE t.text <;> rw [hv] at h <;> cases h
     exact ⟨t, rfl, rfl, by simpa using hb, hv⟩
theorem xKp {s : Str} {ts : List Tok} (h : seeS s ts = true) : ∃ t, ts = t :: ts.tail ∧ isS t s = true := by
 cases ts with
 | nil => cases h
 | cons t q => exact ⟨t, rfl, h⟩
theorem xNC {s : Str} {ts : List Tok} (h : seeK s ts = true) : ∃ t, ts = t :: ts.tail ∧ isK t s = true := by
 cases ts with
 | nil => cases h
 | cons t q => exact ⟨t, rfl, h⟩
theorem xGj {s : Str} {ts : List Tok} (h : seeS s ts = true) : ts.tail.length + 1 = ts.length := by
 obtain ⟨t, h1, _⟩ := xKp h
 rw [h1]; rfl
theorem xGi {s : Str} {ts : List Tok} (h : seeK s ts = true) : ts.tail.length + 1 = ts.length := by
 obtain ⟨t, h1, _⟩ := xNC h
 rw [h1]; rfl
theorem xFO {s : Str} {ts r : List Tok} {u : Unit} (h : xF9 s ts = .ok u r) : r.length + 1 = ts.length := by
 obtain ⟨t, h1, _⟩ := xM4 h
 rw [h1]; rfl
theorem xNv {ts r : List Tok} {x : Str} (h : xLU ts = .ok x r) : r.length + 1 = ts.length := by
 obtain ⟨t, h1, _⟩ := xM3 h
 rw [h1]; rfl
def tw (ts : List Tok) : Nat := (ts.map fun t => t.text.length + 3).sum
theorem xKZ (t : Tok) (r : List Tok) : tw (t :: r) = t.text.length + 3 + tw r := by simp [tw]
def xVK (K : Nat) (ts : List Tok) (e : Exp) (r : List Tok) : Prop := e.size + tw r ≤ tw ts ∧ e.Fit K
def xCB (K : Nat) (f : List Tok → PR Exp) : Prop := ∀ ts e r, (∀ t ∈ ts, t.Fit K) → tw ts ≤ K → f ts = .ok e r → xVK K ts e r ∧ (∀ t ∈ r, t.Fit K) ∧ r.length < ts.length
theorem xG1 {K : Nat} {k n : Int} {t : Str} {a : List Exp} (hk : I64 k) (hn : I64 n) (ht : t.length ≤ K) (ha : a.length ≤ K) (hx : ∀ x ∈ a, x.Fit K) : (Exp.mk k n t a).Fit K :=
 Exp.fit_iff.2 ⟨hk, hn, ht, ha, hx⟩
theorem xGd (k n : Int) (t : Str) (a : List Exp) : (Exp.mk k n t a).size = t.length + (a.length + (a.map Exp.size).sum) := Exp.size_eq _
theorem xD7 {x : Int} (h : 0 ≤ x ∧ x ≤ 1000) : I64 x := by unfold I64; omega
theorem xIJ {K : Nat} {s : Str} {ts r : List Tok} {u : Unit} (hf : ∀ t ∈ ts, t.Fit K) (h : xF9 s ts = .ok u r) : (∀ t ∈ r, t.Fit K) ∧ tw r + 3 ≤ tw ts ∧ r.length < ts.length := by
 obtain ⟨t, rfl, _⟩ := xM4 h
 exact ⟨fun x hx => hf x (List.mem_cons_of_mem _ hx), by rw [xKZ]; omega, by simp⟩
theorem xRF {K : Nat} {ts : List Tok} (hf : ∀ t ∈ ts, t.Fit K) (h : (∃ t, ts = t :: ts.tail ∧ True)) : (∀ t ∈ ts.tail, t.Fit K) ∧ tw ts.tail + 3 ≤ tw ts ∧ ts.tail.length < ts.length := by
 obtain ⟨t, h1, _⟩ := h
 generalize ts.tail = q at h1
 subst h1
 exact ⟨fun x hx => hf x (List.mem_cons_of_mem _ hx), by rw [xKZ]; omega, by simp⟩
theorem xJ5 {K : Nat} {s : Str} {ts : List Tok} (hf : ∀ t ∈ ts, t.Fit K) (h : seeS s ts = true) : (∀ t ∈ ts.tail, t.Fit K) ∧ tw ts.tail + 3 ≤ tw ts ∧ ts.tail.length < ts.length := by
 obtain ⟨t, h1, _⟩ := xKp h
 exact xRF hf ⟨t, h1, trivial⟩
theorem xOy {K : Nat} {s : Str} {ts : List Tok} (hf : ∀ t ∈ ts, t.Fit K) (h : seeK s ts = true) : (∀ t ∈ ts.tail, t.Fit K) ∧ tw ts.tail + 3 ≤ tw ts ∧ ts.tail.length < ts.length := by
 obtain ⟨t, h1, _⟩ := xNC h
 exact xRF hf ⟨t, h1, trivial⟩
theorem xNF (a b : List Exp) : ((a ++ b).map Exp.size).sum = (a.map Exp.size).sum + (b.map Exp.size).sum := by simp
theorem xNt {K : Nat} {f : List Tok → PR Exp} (hf : xCB K f) (c : Str) : ∀ (m : Nat) (acc : List Exp) (ts : List Tok) (a : List Exp) (r : List Tok), (∀ t ∈ ts, t.Fit K) → tw ts ≤ K → (∀ x ∈ acc, x.Fit K) → xJm f c m acc ts = .ok a r →
 (a.length + (a.map Exp.size).sum + tw r ≤ acc.length + (acc.map Exp.size).sum + tw ts) ∧ (∀ x ∈ a, x.Fit K) ∧ (∀ t ∈ r, t.Fit K) ∧ r.length < ts.length := by
 intro m
 induction m with
 | zero => intro acc ts a r _ _ _ h; cases h
 | succ m ih =>
   intro acc ts a r h1 h2 h3 h
   obtain ⟨e, q, he, h⟩ := PR.bind_ok h
   obtain ⟨⟨w1, w2⟩, g1, g2⟩ := hf ts e q h1 h2 he
   have hacc : ∀ x ∈ acc ++ [e], x.Fit K := fun x hx => by
    rcases List.mem_append.1 hx with hx | hx
    · exact h3 x hx
    · rw [List.mem_singleton.1 hx]; exact w2
   have hsz : (acc ++ [e]).length + ((acc ++ [e]).map Exp.size).sum = acc.length + (acc.map Exp.size).sum + (1 + e.size) := by
    rw [xNF, jA]; simp only [List.map_cons, List.map_nil, List.sum_cons, List.sum_nil, jC, jN]; omega
   cases hc : seeS c q <;> rw [hc] at h
   · obtain ⟨u, v, hn, h⟩ := PR.bind_ok h
     obtain ⟨n1, n2, n3⟩ := xIJ g1 hn
     obtain ⟨a1, a2, a3, a4⟩ := ih (acc ++ [e]) v a r n1 (by omega) hacc h
     exact ⟨by omega, a2, a3, by omega⟩
   · cases h
     obtain ⟨n1, n2, n3⟩ := xJ5 g1 hc
     exact ⟨by omega, hacc, n1, by omega⟩
theorem xLT {K : Nat} {f : List Tok → PR Exp} (hf : xCB K f) {m : Nat} {c : Str} {ts r : List Tok} {a : List Exp} (h1 : ∀ t ∈ ts, t.Fit K) (h2 : tw ts ≤ K) (h : xKV f m c ts = .ok a r) :
 (a.length + (a.map Exp.size).sum + tw r ≤ tw ts) ∧ (∀ x ∈ a, x.Fit K) ∧ (∀ t ∈ r, t.Fit K) ∧ r.length < ts.length := by
 unfold xKV at h
 cases hc : seeS c ts <;> rw [hc] at h
 · have := xNt hf c m [] ts a r h1 h2 (fun x hx => by cases hx) h
   simpa using this
 · cases h
   obtain ⟨n1, n2, n3⟩ := xJ5 h1 hc
   exact ⟨by simp; omega, (fun x hx => by cases hx), n1, n3⟩
theorem xK9 {K : Nat} {f : List Tok → PR Exp} (hf : xCB K f) {m : Nat} {t : Tok} {q r : List Tok} {e : Exp} (h1 : ∀ x ∈ t :: q, x.Fit K) (h2 : tw (t :: q) ≤ K) (h : xJk f m t q = .ok e r) :
 xVK K (t :: q) e r ∧ (∀ x ∈ r, x.Fit K) ∧ r.length < (t :: q).length := by
 have hq : ∀ x ∈ q, x.Fit K := fun x hx => h1 x (List.mem_cons_of_mem _ hx)
 have hw := xKZ t q
 unfold xJk at h
 cases c1 : isS t [91] <;> rw [c1] at h
 · cases c2 : isS t [40] <;> rw [c2] at h
   · cases h
   · obtain ⟨e', u, he, h⟩ := PR.bind_ok h
     obtain ⟨_, v, hn, h⟩ := PR.bind_ok h
     cases h
     obtain ⟨⟨w1, w2⟩, g1, g2⟩ := hf q e u hq (by omega) he
     obtain ⟨n1, n2, n3⟩ := xIJ g1 hn
     exact ⟨⟨by omega, w2⟩, n1, by simp only [jC]; omega⟩
 · obtain ⟨a, u, ha, h⟩ := PR.bind_ok h
   cases h
   obtain ⟨w1, w2, w3, w4⟩ := xLT hf hq (by omega) ha
   refine ⟨⟨by rw [xGd]; simp only [jN]; omega, xG1 (xD7 (by omega)) (xD7 (by omega)) (Nat.zero_le _) (by omega) w2⟩, w3, by simp only [jC]; omega⟩
theorem xHE {K : Nat} {f : List Tok → PR Exp} (hf : xCB K f) (m : Nat) : xCB K (xJ1 f m) := by
 intro ts e r h1 h2 h
 cases ts with
 | nil => cases h
 | cons t q =>
   have hq : ∀ x ∈ q, x.Fit K := fun x hx => h1 x (List.mem_cons_of_mem _ hx)
   obtain ⟨ft1, ft2, ft3, ft4⟩ := h1 t List.mem_cons_self
   have ft4 : t.text.length ≤ K := ft4
   have hw := xKZ t q
   have zero : ∀ x ∈ ([] : List Exp), x.Fit K := fun x hx => by cases hx
   simp only [xJ1] at h
   cases c1 : t.kind == 2 <;> rw [c1] at h
   · cases c2 : t.kind == 3 <;> rw [c2] at h
     · cases c3 : t.kind == 1 <;> rw [c3] at h
       · exact xK9 hf h1 h2 h
       · cases c4 : xDE t.text <;> rw [c4] at h
         · cases c5 : decide (argc t.text ≥ 0) <;> rw [c5] at h
           · exact xK9 hf h1 h2 h
           · obtain ⟨_, u, hn, h⟩ := PR.bind_ok h
             obtain ⟨a, v, ha, h⟩ := PR.bind_ok h
             cases h
             obtain ⟨n1, n2, n3⟩ := xIJ hq hn
             obtain ⟨w1, w2, w3, w4⟩ := xLT hf n1 (by omega) ha
             exact ⟨⟨by rw [xGd]; omega, xG1 (xD7 (by omega)) (xD7 (by omega)) ft4 (by omega) w2⟩, w3, by simp only [jC]; omega⟩
         · cases h
           exact ⟨⟨by rw [xGd]; simp only [jN, List.map_nil, List.sum_nil]; omega, xG1 (xD7 (by omega)) (xD7 (by omega)) ft4 (Nat.zero_le _) zero⟩, hq, by simp⟩
     · cases h
       exact ⟨⟨by rw [xGd]; simp only [jN, List.map_nil, List.sum_nil]; omega, xG1 (xD7 (by omega)) (xD7 (by omega)) ft4 (Nat.zero_le _) zero⟩, hq, by simp⟩
   · cases h
     exact ⟨⟨by rw [xGd]; simp only [jN, List.map_nil, List.sum_nil]; omega, xG1 (xD7 (by omega)) ft2 (Nat.zero_le _) (Nat.zero_le _) zero⟩, hq, by simp⟩
theorem xLz {K : Nat} {k n : Int} {a b : Exp} {w : Nat} (hk : I64 k) (hn : I64 n) (ha : a.Fit K) (hb : b.Fit K) (h2 : 2 ≤ K) : (Exp.mk k n [] [a, b]).Fit K ∧ (Exp.mk k n [] [a, b]).size = a.size + b.size + 2 :=
 ⟨xG1 hk hn (Nat.zero_le _) h2 (fun x hx => by
   simp only [List.mem_cons, List.not_mem_nil, or_false] at hx
   rcases hx with rfl | rfl <;> assumption), by rw [xGd]; simp only [jC, jN, List.map_cons, List.map_nil, List.sum_cons, List.sum_nil]; omega⟩
theorem xNw {K : Nat} {g : List Tok → PR Exp} (hg : xCB K g) : ∀ (m : Nat) (a : Exp) (ts : List Tok) (e : Exp) (r : List Tok), (∀ t ∈ ts, t.Fit K) → tw ts ≤ K → a.Fit K → xJn g m a ts = .ok e r →
 e.size + tw r ≤ a.size + tw ts ∧ e.Fit K ∧ (∀ t ∈ r, t.Fit K) ∧ r.length ≤ ts.length := by
 intro m
 induction m with
 | zero => intro a ts e r _ _ _ h; cases h
 | succ m ih =>
   intro a ts e r h1 h2 h3 h
   unfold xJn at h
   cases c1 : seeS [42] ts <;> rw [c1] at h
   · cases h; exact ⟨Nat.le_refl _, h3, h1, Nat.le_refl _⟩
   · obtain ⟨b, q, hb, h⟩ := PR.bind_ok h
     obtain ⟨n1, n2, n3⟩ := xJ5 h1 c1
     obtain ⟨⟨w1, w2⟩, g1, g2⟩ := hg _ b q n1 (by omega) hb
     obtain ⟨f1, f2⟩ := xLz (w := 0) (k := 6) (n := 3) (xD7 (by omega)) (xD7 (by omega)) h3 w2 (by omega)
     obtain ⟨p1, p2, p3, p4⟩ := ih _ q e r g1 (by omega) f1 h
     exact ⟨by omega, p2, p3, by omega⟩
theorem xOw {K : Nat} {g : List Tok → PR Exp} (hg : xCB K g) : ∀ (m : Nat) (a : Exp) (ts : List Tok) (e : Exp) (r : List Tok), (∀ t ∈ ts, t.Fit K) → tw ts ≤ K → a.Fit K → xJ4 g m a ts = .ok e r →
 e.size + tw r ≤ a.size + tw ts ∧ e.Fit K ∧ (∀ t ∈ r, t.Fit K) ∧ r.length ≤ ts.length := by
 intro m
 induction m with
 | zero => intro a ts e r _ _ _ h; cases h
 | succ m ih =>
   intro a ts e r h1 h2 h3 h
   have one : ∀ (n : Int), I64 n → (∀ t ∈ ts.tail, t.Fit K) ∧ tw ts.tail + 3 ≤ tw ts ∧ ts.tail.length < ts.length → ((g ts.tail).bind fun b r => xJ4 g m (.mk 6 n [] [a, b]) r) = .ok e r →
    e.size + tw r ≤ a.size + tw ts ∧ e.Fit K ∧ (∀ t ∈ r, t.Fit K) ∧ r.length ≤ ts.length := by
    rintro n hn ⟨n1, n2, n3⟩ h
    obtain ⟨b, q, hb, h⟩ := PR.bind_ok h
    obtain ⟨⟨w1, w2⟩, g1, g2⟩ := hg _ b q n1 (by omega) hb
    obtain ⟨f1, f2⟩ := xLz (w := 0) (k := 6) (n := n) (xD7 (by omega)) hn h3 w2 (by omega)
    obtain ⟨p1, p2, p3, p4⟩ := ih _ q e r g1 (by omega) f1 h
    exact ⟨by omega, p2, p3, by omega⟩
   unfold xJ4 at h
   cases c1 : seeS [43] ts <;> rw [c1] at h
   · cases c2 : seeS [45] ts <;> rw [c2] at h
     · cases h; exact ⟨Nat.le_refl _, h3, h1, Nat.le_refl _⟩
     · exact one 2 (xD7 (by omega)) (xJ5 h1 c2) h
   · exact one 1 (xD7 (by omega)) (xJ5 h1 c1) h
theorem xJ2 {K : Nat} {g : List Tok → PR Exp} (hg : xCB K g) (m : Nat) : xCB K (xLV g m) := by
 intro ts e r h1 h2 h
 obtain ⟨a, q, ha, h⟩ := PR.bind_ok h
 obtain ⟨⟨w1, w2⟩, g1, g2⟩ := hg ts a q h1 h2 ha
 obtain ⟨p1, p2, p3, p4⟩ := xNw hg m a q e r g1 (by omega) w2 h
 exact ⟨⟨by omega, p2⟩, p3, by omega⟩
theorem xPG {K : Nat} {g : List Tok → PR Exp} (hg : xCB K g) (m : Nat) : xCB K (pSum g m) := by
 intro ts e r h1 h2 h
 obtain ⟨a, q, ha, h⟩ := PR.bind_ok h
 obtain ⟨⟨w1, w2⟩, g1, g2⟩ := hg ts a q h1 h2 ha
 obtain ⟨p1, p2, p3, p4⟩ := xOw hg m a q e r g1 (by omega) w2 h
 exact ⟨⟨by omega, p2⟩, p3, by omega⟩
theorem xPC {K : Nat} {g : List Tok → PR Exp} (hg : xCB K g) : xCB K (pCmp g) := by
 intro ts e r h1 h2 h
 obtain ⟨a, q, ha, h⟩ := PR.bind_ok h
 obtain ⟨⟨w1, w2⟩, g1, g2⟩ := hg ts a q h1 h2 ha
 have one : ∀ (n : Int), I64 n → (∀ t ∈ q.tail, t.Fit K) ∧ tw q.tail + 3 ≤ tw q ∧ q.tail.length < q.length → ((g q.tail).bind fun b r => PR.ok (.mk 6 n [] [a, b]) r) = .ok e r → xVK K ts e r ∧ (∀ x ∈ r, x.Fit K) ∧ r.length < ts.length := by
  rintro n hn ⟨n1, n2, n3⟩ h
  obtain ⟨b, u, hb, h⟩ := PR.bind_ok h
  cases h
  obtain ⟨⟨v1, v2⟩, l1, l2⟩ := hg _ b r n1 (by omega) hb
  obtain ⟨f1, f2⟩ := xLz (w := 0) (k := 6) (n := n) (xD7 (by omega)) hn w2 v2 (by omega)
  exact ⟨⟨by omega, f1⟩, l1, by omega⟩
 unfold xPB at h
 cases c1 : seeS [60] q <;> rw [c1] at h
 · cases c2 : seeS [61, 61] q <;> rw [c2] at h
   · cases h; exact ⟨⟨w1, w2⟩, g1, g2⟩
   · exact one 5 (xD7 (by omega)) (xJ5 g1 c2) h
 · exact one 4 (xD7 (by omega)) (xJ5 g1 c1) h
theorem xMu {K : Nat} {f : List Tok → PR Exp} (hf : xCB K f) {k : Int} (hk : I64 k) {s1 s2 : Str} {ts r : List Tok} {e : Exp} (h1 : ∀ x ∈ ts, x.Fit K) (h2 : tw ts + 3 ≤ K) (h : pTwo f k s1 s2 ts = .ok e r) :
 e.size + tw r ≤ tw ts ∧ e.Fit K ∧ (∀ x ∈ r, x.Fit K) ∧ r.length < ts.length := by
 obtain ⟨x, q1, e1, h⟩ := PR.bind_ok h
 obtain ⟨_, q2, e2, h⟩ := PR.bind_ok h
 obtain ⟨a, q3, e3, h⟩ := PR.bind_ok h
 obtain ⟨_, q4, e4, h⟩ := PR.bind_ok h
 obtain ⟨b, q5, e5, h⟩ := PR.bind_ok h
 cases h
 obtain ⟨t, rfl, rfl, _, _⟩ := xM3 e1
 have hq : ∀ x ∈ q1, x.Fit K := fun x hx => h1 x (List.mem_cons_of_mem _ hx)
 have ft4 : t.text.length ≤ K := (h1 t List.mem_cons_self).2.2.2
 have hw := xKZ t q1
 obtain ⟨n1, n2, n3⟩ := xIJ hq e2
 obtain ⟨⟨w1, w2⟩, g1, g2⟩ := hf _ a q3 n1 (by omega) e3
 obtain ⟨m1, m2, m3⟩ := xIJ g1 e4
 obtain ⟨⟨v1, v2⟩, l1, l2⟩ := hf _ b r m1 (by omega) e5
 refine ⟨by rw [xGd]; simp only [jC, jN, List.map_cons, List.map_nil, List.sum_cons, List.sum_nil]; omega, xG1 hk (xD7 (by omega)) ft4 (by simp; omega) (fun x hx => ?_), l1, by simp only [jC]; omega⟩
 simp only [List.mem_cons, List.not_mem_nil, or_false] at hx
 rcases hx with rfl | rfl <;> assumption
theorem xRk {K : Nat} {f : List Tok → PR Exp} (hf : xCB K f) {ts r : List Tok} {e : Exp} (h1 : ∀ x ∈ ts, x.Fit K) (h2 : tw ts + 3 ≤ K) (h : pIf f ts = .ok e r) :
 e.size + tw r ≤ tw ts ∧ e.Fit K ∧ (∀ x ∈ r, x.Fit K) ∧ r.length < ts.length := by
 obtain ⟨a, q1, e1, h⟩ := PR.bind_ok h
 obtain ⟨_, q2, e2, h⟩ := PR.bind_ok h
 obtain ⟨b, q3, e3, h⟩ := PR.bind_ok h
 obtain ⟨_, q4, e4, h⟩ := PR.bind_ok h
 obtain ⟨c, q5, e5, h⟩ := PR.bind_ok h
 cases h
 obtain ⟨⟨w1, w2⟩, g1, g2⟩ := hf _ a q1 h1 (by omega) e1
 obtain ⟨n1, n2, n3⟩ := xIJ g1 e2
 obtain ⟨⟨v1, v2⟩, l1, l2⟩ := hf _ b q3 n1 (by omega) e3
 obtain ⟨m1, m2, m3⟩ := xIJ l1 e4
 obtain ⟨⟨x1, x2⟩, y1, y2⟩ := hf _ c r m1 (by omega) e5
 refine ⟨by rw [xGd]; simp only [jC, jN, List.map_cons, List.map_nil, List.sum_cons, List.sum_nil]; omega, xG1 (xD7 (by omega)) (xD7 (by omega)) (Nat.zero_le _) (by simp; omega) (fun x hx => ?_), y1, by omega⟩
 simp only [List.mem_cons, List.not_mem_nil, or_false] at hx
 rcases hx with rfl | rfl | rfl <;> assumption
theorem xJ3 {K : Nat} {f : List Tok → PR Exp} (hf : xCB K f) (m : Nat) : xCB K (xNx f m) := xPG (xJ2 (xHE hf m) m) m
theorem xNs {K : Nat} {f g : List Tok → PR Exp} (hf : xCB K f) (hg : xCB K g) : xCB K (xJl f g) := by
 intro ts e r h1 h2 h
 unfold xJl at h
 cases c1 : seeK [108, 101, 116] ts <;> rw [c1] at h
 · cases c2 : seeK [105, 102] ts <;> rw [c2] at h
   · cases c3 : seeK [102, 111, 114] ts <;> rw [c3] at h
     · exact xPC hg ts e r h1 h2 h
     · obtain ⟨n1, n2, n3⟩ := xOy h1 c3
       obtain ⟨a1, a2, a3, a4⟩ := xMu hf (xD7 (by omega)) n1 (by omega) h
       exact ⟨⟨by omega, a2⟩, a3, by omega⟩
   · obtain ⟨n1, n2, n3⟩ := xOy h1 c2
     obtain ⟨a1, a2, a3, a4⟩ := xRk hf n1 (by omega) h
     exact ⟨⟨by omega, a2⟩, a3, by omega⟩
 · obtain ⟨n1, n2, n3⟩ := xOy h1 c1
   obtain ⟨a1, a2, a3, a4⟩ := xMu hf (xD7 (by omega)) n1 (by omega) h
   exact ⟨⟨by omega, a2⟩, a3, by omega⟩
theorem xFr {K : Nat} : ∀ m, xCB K (pE m)
 | 0 => fun ts e r _ _ h => by cases h
 | m + 1 => xNs (xFr m) (xJ3 (xFr m) (m + 1))
end Go.Ab
end
section
namespace Go.Ab
def gp (T ts : List Tok) : Psr := ⟨T, ((T.length - ts.length : Nat) : Int), -1⟩
def BadP (T ts : List Tok) (p : Psr) : Prop := p.list = T ∧ p.bad = ((T.length - ts.length : Nat) : Int) ∧ ts <:+ T
def SimP {α : Type} (T : List Tok) (R : PR α) (x : Option (α × Psr)) : Prop := match R with
 | .ok a ts => ts <:+ T ∧ x = some (a, gp T ts)
 | .err ts => ∃ a p, x = some (a, p) ∧ BadP T ts p
theorem BadP.nn {T ts : List Tok} {p : Psr} (h : BadP T ts p) : 0 ≤ p.bad := by rw [h.2.1]; omega
theorem SimP.bind {α β : Type} {T : List Tok} {R : PR α} {x : Option (α × Psr)} {k : α → List Tok → PR β} {g : α × Psr → Option (β × Psr)} (h : SimP T R x)
 (hk : ∀ a ts, R = .ok a ts → ts <:+ T → SimP T (k a ts) (g (a, gp T ts))) (hb : ∀ a p, 0 ≤ p.bad → ∃ b, g (a, p) = some (b, p)) : SimP T (R.bind k) (Option.bind x g) := by
 cases R with
 | ok a ts =>
   obtain ⟨h1, h2⟩ := h
   rw [h2]
   exact hk a ts rfl h1
 | err ts =>
   obtain ⟨a, p, h1, h2⟩ := h
   obtain ⟨b, h3⟩ := hb a p h2.nn
   rw [h1]
   exact ⟨b, p, h3, h2⟩
def hdT : List Tok → Tok
 | [] => Tok.mk 0 0 0 []
 | t :: _ => t
theorem xMi (N : Nat) (t : Tok) (s : Str) : xFZ N t s = some (isS t s) := by unfold xFZ isS; cases t.kind == 4 <;> rfl
theorem xMh (N : Nat) (t : Tok) (s : Str) : xEr N t s = some (isK t s) := by unfold xEr isK; cases t.kind == 1 <;> rfl
theorem vBx (s : Str) (ts : List Tok) : isK (hdT ts) s = seeK s ts := by cases ts <;> rfl
theorem xVx (s : Str) (ts : List Tok) : isS (hdT ts) s = seeS s ts := by cases ts <;> rfl
theorem xCz {T ts : List Tok} (h : ts <:+ T) : ts.tail <:+ T := (List.tail_suffix ts).trans h
theorem xHA {T ts : List Tok} (N : Nat) (h : ts <:+ T) : xBF N (gp T ts) = some (hdT ts, gp T ts) := by
 obtain ⟨pre, rfl⟩ := h
 have e : (pre ++ ts).length - ts.length = pre.length := by rw [jA]; omega
 unfold xBF
 simp only [gp, e]
 rw [show decide ((-1 : Int) < 0) = true from rfl, jT]
 cases ts with
 | nil => rw [decide_eq_false (by simp), jF]; rfl
 | cons t r =>
   rw [decide_eq_true (by simp only [jA, jC]; omega), jT, if_pos (by simp only [jA, jC]; omega)]
   simp [List.getD, hdT]
theorem xK0 {T ts : List Tok} (hT : T.length ≤ 1000) (h : ts <:+ T) (hne : ts.tail.length + 1 = ts.length) : Psr.mk (gp T ts).list (IntKind.i64.wrap ((gp T ts).pos + 1)) (gp T ts).bad = gp T ts.tail := by
 have hl := h.length_le
 unfold gp
 have : IntKind.i64.wrap (((T.length - ts.length : Nat) : Int) + 1) = ((T.length - ts.tail.length : Nat) : Int) := by rw [xBh (by omega) (by omega)]; omega
 simp only [this]
theorem xHm {T ts : List Tok} {s : Str} (N : Nat) (hT : T.length ≤ 1000) (h : ts <:+ T) (hs : seeS s ts = true) : xAL N (gp T ts) s = some (true, gp T ts.tail) := by
 unfold xAL
 rw [xHA N h]
 simp only [jS, xMi, xVx, hs, jT, xK0 hT h (xGj hs)]
theorem xGN {T ts : List Tok} {s : Str} (N : Nat) (h : ts <:+ T) (hs : seeS s ts = false) : xAL N (gp T ts) s = some (false, gp T ts) := by
 unfold xAL
 rw [xHA N h]
 simp only [jS, xMi, xVx, hs, jF]
theorem xMA {T ts : List Tok} (N : Nat) (h : ts <:+ T) : ∃ p, xB4 N (gp T ts) = some (.mk 0 0 [] [], p) ∧ BadP T ts p := ⟨_, rfl, rfl, rfl, h⟩
theorem xLm {p : Psr} (N : Nat) (h : 0 ≤ p.bad) : xBF N p = some (Tok.mk 0 0 0 [], p) := by
 unfold xBF; rw [decide_eq_false (by omega), jF]
theorem xGZ {p : Psr} (N : Nat) (s : Str) (h : 0 ≤ p.bad) : xAL N p s = some (false, p) := by
 unfold xAL; rw [xLm N h]; rfl
theorem xOL {p : Psr} (N : Nat) (h : 0 ≤ p.bad) : xB4 N p = some (.mk 0 0 [] [], p) := by
 unfold xB4; rw [decide_eq_false (by omega), jF]
theorem xHT {p : Psr} (N : Nat) (s : Str) (h : 0 ≤ p.bad) : xAH N p s = some p := by
 unfold xAH; simp only [xLm N h, jS, xMh, xMi, xOL N h]; rfl
theorem SimP.need {β : Type} {T ts : List Tok} {s : Str} {N : Nat} {k : Unit → List Tok → PR β} {g : Psr → Option (β × Psr)} (hT : T.length ≤ 1000) (h : ts <:+ T)
 (hk : ∀ r, xF9 s ts = .ok () r → r <:+ T → SimP T (k () r) (g (gp T r))) (hb : ∀ p, 0 ≤ p.bad → ∃ b, g p = some (b, p)) : SimP T ((xF9 s ts).bind k) (Option.bind (xAH N (gp T ts) s) g) := by
 have bad : isK (hdT ts) s = false → isS (hdT ts) s = false → ∀ R : PR β, R = .err ts → SimP T R (Option.bind (xAH N (gp T ts) s) g) := by
  intro h1 h2 R hR
  subst hR
  obtain ⟨p, hp1, hp2⟩ := xMA N h
  obtain ⟨b, hb⟩ := hb p hp2.nn
  refine ⟨b, p, ?_, hp2⟩
  unfold xAH
  simp only [xHA N h, jS, xMh, xMi, h1, h2, jF, hp1, hb]
 cases ts with
 | nil => exact bad rfl rfl _ rfl
 | cons t r =>
   cases h1 : isK t s
   · cases h2 : isS t s
     · exact bad h1 h2 _ (by simp only [xF9, h1, h2, Bool.or_false, jF, PR.bind])
     · have e : xF9 s (t :: r) = .ok () r := by simp only [xF9, h1, h2, Bool.or_true, jT]
       rw [e]
       have := hk r e (xCz h)
       unfold xAH
       simp only [xHA N h, jS, xMh, xMi, hdT, h1, h2, jF, jT, xK0 hT h rfl]
       exact this
   · have e : xF9 s (t :: r) = .ok () r := by simp only [xF9, h1, Bool.true_or, jT]
     rw [e]
     have := hk r e (xCz h)
     unfold xAH
     simp only [xHA N h, jS, xMh, xMi, hdT, h1, jF, jT, xK0 hT h rfl]
     exact this
structure TokT (K : Nat) (T : List Tok) : Prop where
 len : T.length ≤ 1000
 fit : ∀ t ∈ T, t.Fit K
 tw : tw T ≤ K
theorem vBR {T ts : List Tok} (h : ts <:+ T) : tw ts ≤ tw T := by
 obtain ⟨pre, rfl⟩ := h
 simp [tw]
theorem TokT.suf {K : Nat} {T ts : List Tok} (hT : TokT K T) (h : ts <:+ T) : (∀ t ∈ ts, t.Fit K) ∧ Ab.tw ts ≤ K := ⟨fun t ht => hT.fit t (h.subset ht), Nat.le_trans (vBR h) hT.tw⟩
theorem eat {K : Nat} {T ts r : List Tok} {f : List Tok → PR Exp} {e : Exp} (hT : TokT K T) (hf : xCB K f) (h : ts <:+ T) (he : f ts = .ok e r) : r.length < ts.length := by
 obtain ⟨h1, h2⟩ := hT.suf h
 exact (hf ts e r h1 h2 he).2.2
theorem xR6 {K : Nat} {T ts : List Tok} {N : Nat} (hT : TokT K T) (hN : K < N) (hK : K ≤ 1048576) (h : ts <:+ T) : SimP T (xLU ts) (xB5 N (gp T ts)) := by
 have bad : xB5 N (gp T ts) = Option.bind (xB4 N (gp T ts)) (fun r2 => some ([], r2.2)) → SimP T (.err ts : PR Str) (xB5 N (gp T ts)) := fun he => by
  obtain ⟨p, h1, h2⟩ := xMA N h
  rw [he, h1]
  exact ⟨[], p, rfl, h2⟩
 cases ts with
 | nil =>
   refine bad ?_
   unfold xB5
   simp only [xHA N h, jS, hdT]; rfl
 | cons t r =>
   have hft := hT.fit t (h.subset List.mem_cons_self)
   have hlen : t.text.length ≤ K := hft.2.2.2
   have hv := xGn (N := N) (s := t.text) (by omega) (by omega)
   simp only [xLU]
   cases h1 : t.kind == 1
   · refine bad ?_
     unfold xB5
     simp only [xHA N h, jS, hdT, bne, h1, Bool.not_false, jT]
   · cases h2 : xDE t.text
     · refine bad ?_
       unfold xB5
       simp only [xHA N h, jS, hdT, bne, h1, hv, h2, Bool.not_true, Bool.not_false, jT, jF]
     · refine ⟨xCz h, ?_⟩
       unfold xB5
       simp only [xHA N h, jS, hdT, bne, h1, hv, h2, Bool.not_true, jT, jF, xK0 hT.len h rfl]
       rfl
abbrev e0 : Exp := .mk 0 0 [] []
def xHq (q : Psr → Option (Exp × Psr)) : Prop := ∀ p, 0 ≤ p.bad → q p = some (e0, p)
def xPP (q : Psr → Str → Option (List Exp × Psr)) : Prop := ∀ p s, 0 ≤ p.bad → q p s = some ([], p)
def FPs (T : List Tok) (n : Nat) (f : List Tok → PR Exp) (q : Psr → Option (Exp × Psr)) : Prop := ∀ ts, ts <:+ T → ts.length < n → SimP T (f ts) (q (gp T ts))
section
variable {K : Nat} {T : List Tok} {N : Nat} {q0 q1 : Psr → Option (Exp × Psr)} {q2 : Psr → Str → Option (List Exp × Psr)} {q3 q4 : Psr → Option (Exp × Psr)}
theorem xNQ : decide ((-1 : Int) < 0) = true := rfl
theorem xP5 (T ts : List Tok) : (gp T ts).bad = -1 := rfl
theorem xQd (hT : TokT K T) {n : Nat} {f : List Tok → PR Exp} (hf : xCB K f) (hq : FPs T n f q1) (hb : xHq q1) (c : Str) : ∀ (m fuel : Nat) (acc : List Exp) (ts : List Tok), ts <:+ T → ts.length < n → ts.length < m → ts.length + 1 < fuel → acc.length + ts.length ≤ 2000 →
 SimP T (xJm f c m acc ts) (xCu N q0 q1 q2 q3 q4 fuel c acc (gp T ts)) := by
 intro m
 induction m with
 | zero => intro fuel acc ts _ _ h; omega
 | succ m ih =>
   intro fuel acc ts h hn hm hfu ha
   obtain ⟨fuel, rfl⟩ : ∃ k, fuel = k + 1 := ⟨fuel - 1, by omega⟩
   simp only [xJm, xCu, xP5, xNQ, jT]
   refine SimP.bind (hq ts h hn) (fun e r he hr => ?_) (fun e p hp => ?_)
   · have hl := eat hT hf h he
     simp only [Exp.re_eq]
     rw [if_pos (by simp only [jC, jN]; unfold Lim; omega)]
     cases hs : seeS c r
     · rw [xGN N hr hs, jS]
       simp only [jF]
       refine SimP.need hT.len hr (fun q hq' hqs => ?_) (fun p hp => ?_)
       · have := xFO hq'
         exact ih fuel (acc ++ [e]) q hqs (by omega) (by omega) (by omega) (by simp only [jA, jC, jN]; omega)
       · obtain ⟨fuel, rfl⟩ : ∃ k, fuel = k + 1 := ⟨fuel - 1, by omega⟩
         exact ⟨acc ++ [e], by simp only [xCu]; rw [decide_eq_false (by omega), jF]⟩
     · rw [xHm N hT.len hr hs, jS]
       exact ⟨xCz hr, rfl⟩
   · obtain ⟨fuel, rfl⟩ : ∃ k, fuel = k + 1 := ⟨fuel - 1, by omega⟩
     simp only [Exp.re_eq]
     rw [if_pos (by simp only [jC, jN]; unfold Lim; omega), xGZ N c hp, jS]
     simp only [jF, xHT N _ hp, jS]
     exact ⟨acc ++ [e], by simp only [xCu]; rw [decide_eq_false (by omega), jF]⟩
theorem xR4 (hN : 0 < N) (s : Str) {p : Psr} (h : 0 ≤ p.bad) : xCx N q0 q1 q2 q3 q4 p s = some ([], p) := by
 obtain ⟨M, rfl⟩ : ∃ k, N = k + 1 := ⟨N - 1, by omega⟩
 unfold xCx
 rw [xGZ _ s h, jS]
 simp only [jF, xCu]
 rw [decide_eq_false (by omega), jF]
theorem xR5 (hT : TokT K T) (hN : 1002 < N) {n m : Nat} {f : List Tok → PR Exp} (hf : xCB K f) (hq : FPs T n f q1) (hb : xHq q1) (c : Str) {ts : List Tok} (h : ts <:+ T) (hn : ts.length < n) (hm : ts.length < m) :
 SimP T (xKV f m c ts) (xCx N q0 q1 q2 q3 q4 (gp T ts) c) := by
 have hl := h.length_le
 have := hT.len
 unfold xKV xCx
 cases hs : seeS c ts
 · rw [xGN N h hs, jS]
   simp only [jF]
   exact xQd hT hf hq hb c m N [] ts h hn hm (by omega) (by simp; omega)
 · rw [xHm N hT.len h hs, jS]
   exact ⟨xCz h, rfl⟩
def FPl (T : List Tok) (n m : Nat) (f : List Tok → PR Exp) (q : Psr → Str → Option (List Exp × Psr)) : Prop := ∀ c ts, ts <:+ T → ts.length < n → SimP T (xKV f m c ts) (q (gp T ts) c)
theorem xOG {p : Psr} (h : 0 ≤ p.bad) : xCC N q0 q1 q2 q3 q4 p = some (e0, p) := by
 unfold xCC
 simp only [xLm N h, jS, xGZ N _ h, xOL N h]
 rfl
theorem xNi (hT : TokT K T) {n m : Nat} {f : List Tok → PR Exp} (hf : xCB K f) (hq : FPs T n f q1) (hb : xHq q1) (hl : FPl T n m f q2) (hbl : xPP q2) {t : Tok} {r : List Tok} (h : t :: r <:+ T) (hn : r.length < n) :
 SimP T (xJk f m t r) (Option.bind (xAL N (gp T (t :: r)) [91]) fun r2 =>
  bif r2.1 then (
   Option.bind (q2 r2.2 [93]) fun r3 =>
   some ((Exp.mk 4 0 [] r3.1), r3.2)
  ) else (
    Option.bind (xAL N r2.2 [40]) fun r3 =>
    bif r3.1 then (
     Option.bind (q1 r3.2) fun r4 =>
     Option.bind (xAH N r4.2 [41]) fun r5 =>
     some (r4.1, r5)
    ) else (
      Option.bind (xB4 N r3.2) fun r4 =>
      some (r4.1, r4.2)
    )
  )) := by
 have hr : r <:+ T := xCz h
 unfold xJk
 cases h1 : isS t [91]
 · rw [xGN N h h1, jS]
   simp only [jF]
   cases h2 : isS t [40]
   · rw [xGN N h h2, jS]
     simp only [jF]
     obtain ⟨p, hp1, hp2⟩ := xMA N h
     rw [hp1]
     exact ⟨_, p, rfl, hp2⟩
   · rw [xHm N hT.len h h2, jS]
     simp only [jT, List.tail_cons]
     refine SimP.bind (hq r hr hn) (fun e u he hu => ?_) (fun e p hp => ⟨e, by simp only [xHT N _ hp, jS]⟩)
     exact SimP.need hT.len hu (fun v _ hv => ⟨hv, rfl⟩) (fun p hp => ⟨e, rfl⟩)
 · rw [xHm N hT.len h h1, jS]
   simp only [jT, List.tail_cons]
   exact SimP.bind (hl [93] r hr hn) (fun a u _ hu => ⟨hu, rfl⟩) (fun a p hp => ⟨_, rfl⟩)
theorem xRP (hT : TokT K T) (hN : K < N) (hK : K ≤ 1048576) {n m : Nat} {f : List Tok → PR Exp} (hf : xCB K f) (hq : FPs T n f q1) (hb : xHq q1) (hl : FPl T n m f q2) (hbl : xPP q2) :
 FPs T (n + 1) (xJ1 f m) (xCC N q0 q1 q2 q3 q4) := by
 intro ts h hn
 unfold xCC
 rw [xHA N h, jS]
 cases ts with
 | nil =>
   simp only [hdT, xGN N h (s := [91]) rfl, xGN N h (s := [40]) rfl, jS]
   obtain ⟨p, hp1, hp2⟩ := xMA N h
   exact ⟨_, p, by rw [hp1]; rfl, hp2⟩
 | cons t r =>
   have hr : r <:+ T := xCz h
   have hn' : r.length < n := by simp only [jC] at hn; omega
   have hft := hT.fit t (h.subset List.mem_cons_self)
   have hlen : t.text.length ≤ K := hft.2.2.2
   have hv := xGn (N := N) (s := t.text) (by omega) (by omega)
   have hadv := xK0 hT.len h rfl
   rw [List.tail_cons] at hadv
   simp only [xJ1, hdT, hadv]
   cases h1 : t.kind == 2
   · cases h2 : t.kind == 3
     · cases h3 : t.kind == 1
       · exact xNi hT hf hq hb hl hbl h hn'
       · simp only [jT, jF, hv, jS]
         cases h4 : xDE t.text
         · simp only [jF, xG3, jS]
           cases h5 : decide (argc t.text ≥ 0)
           · exact xNi hT hf hq hb hl hbl h hn'
           · simp only [jT]
             refine SimP.need hT.len hr (fun u hu hus => ?_) (fun p hp => ⟨_, by rw [hbl p _ hp, jS]⟩)
             have := xFO hu
             exact SimP.bind (hl [41] u hus (by omega)) (fun a v _ hv => ⟨hv, rfl⟩) (fun a p hp => ⟨_, rfl⟩)
         · exact ⟨hr, rfl⟩
     · exact ⟨hr, rfl⟩
   · exact ⟨hr, rfl⟩
theorem xRr (hT : TokT K T) {n : Nat} {g : List Tok → PR Exp} (hg : xCB K g) (hq : FPs T n g q0) (hb : xHq q0) (b2 : Exp) : ∀ (m fuel : Nat) (a : Exp) (ts : List Tok), ts <:+ T → ts.length ≤ n → ts.length < m → ts.length < fuel →
 SimP T (xJn g m a ts) (xB2 N q0 q1 q2 q3 q4 fuel (gp T ts) b2 a) := by
 intro m
 induction m with
 | zero => intro fuel a ts _ _ h; omega
 | succ m ih =>
   intro fuel a ts h hn hm hfu
   obtain ⟨fuel, rfl⟩ : ∃ k, fuel = k + 1 := ⟨fuel - 1, by omega⟩
   simp only [xJn, xB2]
   cases hs : seeS [42] ts
   · rw [xGN N h hs, jS]
     exact ⟨h, rfl⟩
   · have hl := xGj hs
     rw [xHm N hT.len h hs, jS]
     simp only [jT, Exp.re_eq]
     obtain ⟨fuel, rfl⟩ : ∃ k, fuel = k + 1 := ⟨fuel - 1, by omega⟩
     refine SimP.bind (hq ts.tail (xCz h) (by omega)) (fun b r hbr hr => ?_) (fun b p hp => ⟨.mk 6 3 [] [a, b], by simp only [xB2, xGZ N _ hp, jS, jF]⟩)
     have := eat hT hg (xCz h) hbr
     exact ih (fuel + 1) _ r hr (by omega) (by omega) (by omega)
theorem xVj (hT : TokT K T) (hN : 1002 < N) {n m : Nat} {g : List Tok → PR Exp} (hg : xCB K g) (hq : FPs T n g q0) (hb : xHq q0) (hnm : n ≤ m) : FPs T n (xLV g m) (xB7 N q0 q1 q2 q3 q4) := by
 intro ts h hn
 have hl := h.length_le
 have := hT.len
 unfold xLV xB7
 obtain ⟨M, rfl⟩ : ∃ k, N = k + 1 := ⟨N - 1, by omega⟩
 refine SimP.bind (hq ts h hn) (fun b r hbr hr => ?_) (fun b p hp => ⟨b, by simp only [xB2, xGZ _ _ hp, jS, jF]⟩)
 have := eat hT hg h hbr
 exact xRr hT hg hq hb e0 m (M + 1) b r hr (by omega) (by omega) (by omega)
theorem xPe (hN : 0 < N) (hb : xHq q0) : xHq (xB7 N q0 q1 q2 q3 q4) := by
 intro p hp
 obtain ⟨M, rfl⟩ : ∃ k, N = k + 1 := ⟨N - 1, by omega⟩
 unfold xB7
 simp only [hb p hp, jS, xB2, xGZ _ _ hp, jF]
theorem xVr (hT : TokT K T) {n : Nat} {g : List Tok → PR Exp} (hg : xCB K g) (hq : FPs T n g q3) (hb : xHq q3) (b2 : Exp) : ∀ (m fuel : Nat) (a : Exp) (ts : List Tok), ts <:+ T → ts.length ≤ n → ts.length < m → ts.length < fuel →
 SimP T (xJ4 g m a ts) (xCa N q0 q1 q2 q3 q4 fuel (gp T ts) b2 a) := by
 intro m
 induction m with
 | zero => intro fuel a ts _ _ h; omega
 | succ m ih =>
   intro fuel a ts h hn hm hfu
   obtain ⟨fuel, rfl⟩ : ∃ k, fuel = k + 1 := ⟨fuel - 1, by omega⟩
   have step : ∀ s k, seeS s ts = true → SimP T ((g ts.tail).bind fun b r => xJ4 g m (.mk 6 k [] [a, b]) r) (Option.bind (q3 (gp T ts.tail)) fun r3 => xCa N q0 q1 q2 q3 q4 fuel r3.2 b2 (Exp.mk 6 k [] [(Exp.re a), (Exp.re r3.1)])) := by
    intro s k hs
    have hl := xGj hs
    simp only [Exp.re_eq]
    obtain ⟨fuel, rfl⟩ : ∃ k, fuel = k + 1 := ⟨fuel - 1, by omega⟩
    refine SimP.bind (hq ts.tail (xCz h) (by omega)) (fun b r hbr hr => ?_) (fun b p hp => ⟨.mk 6 k [] [a, b], by simp only [xCa]; rw [decide_eq_false (by omega), jF]⟩)
    have := eat hT hg (xCz h) hbr
    exact ih (fuel + 1) _ r hr (by omega) (by omega) (by omega)
   simp only [xJ4, xCa, xP5, xNQ, jT]
   cases hs : seeS [43] ts
   · rw [xGN N h hs, jS]
     simp only [Bool.not_false, jT, jF]
     cases hs2 : seeS [45] ts
     · rw [xGN N h hs2, jS]
       exact ⟨h, rfl⟩
     · rw [xHm N hT.len h hs2, jS]
       simp only [Bool.not_true, jF, jT]
       exact step _ 2 hs2
   · rw [xHm N hT.len h hs, jS]
     simp only [Bool.not_true, jF, jT]
     exact step _ 1 hs
theorem vAH (hT : TokT K T) (hN : 1002 < N) {n m : Nat} {g : List Tok → PR Exp} (hg : xCB K g) (hq : FPs T n g q3) (hb : xHq q3) (hnm : n ≤ m) : FPs T n (pSum g m) (xCX N q0 q1 q2 q3 q4) := by
 intro ts h hn
 have hl := h.length_le
 have := hT.len
 unfold pSum xCX
 obtain ⟨M, rfl⟩ : ∃ k, N = k + 1 := ⟨N - 1, by omega⟩
 refine SimP.bind (hq ts h hn) (fun b r hbr hr => ?_) (fun b p hp => ⟨b, by simp only [xCa]; rw [decide_eq_false (by omega), jF]⟩)
 have := eat hT hg h hbr
 exact xVr hT hg hq hb e0 m (M + 1) b r hr (by omega) (by omega) (by omega)
theorem xRC (hN : 0 < N) (hb : xHq q3) : xHq (xCX N q0 q1 q2 q3 q4) := by
 intro p hp
 obtain ⟨M, rfl⟩ : ∃ k, N = k + 1 := ⟨N - 1, by omega⟩
 unfold xCX
 simp only [hb p hp, jS, xCa]
 rw [decide_eq_false (by omega), jF]
theorem xVF (N : Nat) : xEY N (List.getD [4, 5] (Int.toNat 0) Ty.int.dflt) = some [60] := rfl
theorem xVG (N : Nat) : xEY N (List.getD [4, 5] (Int.toNat 1) Ty.int.dflt) = some [61, 61] := rfl
theorem xPZ {p : Psr} (hp : 0 ≤ p.bad) (fuel : Nat) (a b2 : Exp) : xCW N q0 q1 q2 q3 q4 (fuel + 3) [4, 5] (List.length [4, 5] : Int) 0 p b2 a = some (a, p) := by
 have e1 : IntKind.i64.wrap (0 + 1) = 1 := rfl
 have e2 : IntKind.i64.wrap (1 + 1) = 2 := rfl
 simp only [xCW, xVF, xVG, jS, xGZ N _ hp, jF, e1, e2]
 rfl
theorem xVO (hT : TokT K T) {n : Nat} {g : List Tok → PR Exp} (hg : xCB K g) (hq : FPs T n g q4) (hb : xHq q4) (fuel : Nat) (a b2 : Exp) {ts : List Tok} (h : ts <:+ T) (hn : ts.length ≤ n) :
 SimP T (xPB g a ts) (xCW N q0 q1 q2 q3 q4 (fuel + 3) [4, 5] (List.length [4, 5] : Int) 0 (gp T ts) b2 a) := by
 have e1 : IntKind.i64.wrap (0 + 1) = 1 := rfl
 have e2 : IntKind.i64.wrap (1 + 1) = 2 := rfl
 have c0 : decide ((0 : Int) < (List.length [4, 5] : Int)) = true := rfl
 have c1 : decide ((1 : Int) < (List.length [4, 5] : Int)) = true := rfl
 have c2 : decide ((2 : Int) < (List.length [4, 5] : Int)) = false := rfl
 have i0 : (0 : Int) ≤ 0 ∧ (0 : Int) < (List.length [4, 5] : Int) := by decide
 have i1 : (0 : Int) ≤ 1 ∧ (1 : Int) < (List.length [4, 5] : Int) := by decide
 have step : ∀ s k, seeS s ts = true → SimP T ((g ts.tail).bind fun b r => PR.ok (.mk 6 k [] [a, b]) r) (Option.bind (q4 (gp T ts.tail)) fun r3 => some ((Exp.mk 6 k [] [(Exp.re a), (Exp.re r3.1)]), r3.2)) := by
  intro s k hs
  have hl := xGj hs
  simp only [Exp.re_eq]
  exact SimP.bind (hq ts.tail (xCz h) (by omega)) (fun b r hbr hr => ⟨hr, rfl⟩) (fun b p hp => ⟨_, rfl⟩)
 unfold xPB
 simp only [xCW, c0, c1, c2, if_pos i0, if_pos i1, jT, jF, xVF, xVG, e1, e2, jS]
 cases hs : seeS [60] ts
 · rw [xGN N h hs, jS]
   simp only [jF]
   cases hs2 : seeS [61, 61] ts
   · rw [xGN N h hs2, jS]
     exact ⟨h, rfl⟩
   · rw [xHm N hT.len h hs2, jS]
     exact step _ 5 hs2
 · rw [xHm N hT.len h hs, jS]
   exact step _ 4 hs
theorem xRU (hN : 3 ≤ N) (hb : xHq q4) : xHq (xCD N q0 q1 q2 q3 q4) := by
 intro p hp
 obtain ⟨M, rfl⟩ : ∃ k, N = k + 3 := ⟨N - 3, by omega⟩
 unfold xCD
 simp only [xLm _ hp, jS, xMh, hb p hp]
 exact xPZ hp M e0 e0
theorem lim1 (x : Exp) : 0 + List.length [x] ≤ Lim := by simp [Lim]
theorem lim2 (x y : Exp) : List.length ([] ++ [x]) + List.length [y] ≤ Lim := by simp [Lim]
theorem lim3 (x y z : Exp) : List.length (([] ++ [x]) ++ [y]) + List.length [z] ≤ Lim := by simp [Lim]
theorem xRI (hT : TokT K T) (hN : K < N) (hK : K ≤ 1048576) {n : Nat} {f : List Tok → PR Exp} (hf : xCB K f) (hq : FPs T n f q1) (hb : xHq q1) (k : Int) (s1 s2 : Str) {ts : List Tok} (h : ts <:+ T) (hn : ts.length < n) :
 SimP T (pTwo f k s1 s2 ts) (Option.bind (xB5 N (gp T ts)) fun r3 => Option.bind (xAH N r3.2 s1) fun r4 => Option.bind (q1 r4) fun r5 =>
  if 0 + List.length [(Exp.re r5.1)] ≤ Lim then Option.bind (xAH N r5.2 s2) fun r6 => Option.bind (q1 r6) fun r7 =>
   if List.length ([] ++ [(Exp.re r5.1)]) + List.length [(Exp.re r7.1)] ≤ Lim then some ((Exp.mk k 0 r3.1 (([] ++ [(Exp.re r5.1)]) ++ [(Exp.re r7.1)])), r7.2) else none else none) := by
 simp only [if_pos (lim1 _), if_pos (lim2 _ _), Exp.re_eq]
 refine SimP.bind (xR6 hT hN hK h) (fun x r1 hx hr1 => ?_) (fun x p hp => ⟨.mk k 0 x [e0, e0], by simp only [xHT N _ hp, hb p hp, jS]; rfl⟩)
 have l1 := xNv hx
 refine SimP.need hT.len hr1 (fun r2 h2 hr2 => ?_) (fun p hp => ⟨.mk k 0 x [e0, e0], by simp only [xHT N _ hp, hb p hp, jS]; rfl⟩)
 have l2 := xFO h2
 refine SimP.bind (hq r2 hr2 (by omega)) (fun a r3 h3 hr3 => ?_) (fun a p hp => ⟨.mk k 0 x [a, e0], by simp only [xHT N _ hp, hb p hp, jS]; rfl⟩)
 have l3 := eat hT hf hr2 h3
 refine SimP.need hT.len hr3 (fun r4 h4 hr4 => ?_) (fun p hp => ⟨.mk k 0 x [a, e0], by simp only [hb p hp, jS]; rfl⟩)
 have l4 := xFO h4
 exact SimP.bind (hq r4 hr4 (by omega)) (fun b r5 h5 hr5 => ⟨hr5, rfl⟩) (fun b p hp => ⟨_, rfl⟩)
theorem vBw (hT : TokT K T) {n : Nat} {f : List Tok → PR Exp} (hf : xCB K f) (hq : FPs T n f q1) (hb : xHq q1) {ts : List Tok} (h : ts <:+ T) (hn : ts.length < n) :
 SimP T (pIf f ts) (Option.bind (q1 (gp T ts)) fun r5 =>
  if 0 + List.length [(Exp.re r5.1)] ≤ Lim then
  Option.bind (xAH N r5.2 [116, 104, 101, 110]) fun r6 =>
  Option.bind (q1 r6) fun r7 =>
  if List.length ([] ++ [(Exp.re r5.1)]) + List.length [(Exp.re r7.1)] ≤ Lim then
  Option.bind (xAH N r7.2 [101, 108, 115, 101]) fun r8 =>
  Option.bind (q1 r8) fun r9 =>
  if List.length (([] ++ [(Exp.re r5.1)]) ++ [(Exp.re r7.1)]) + List.length [(Exp.re r9.1)] ≤ Lim then
  some ((Exp.mk 8 0 [] ((([] ++ [(Exp.re r5.1)]) ++ [(Exp.re r7.1)]) ++ [(Exp.re r9.1)])), r9.2)
  else none
  else none
  else none) := by
 simp only [if_pos (lim1 _), if_pos (lim2 _ _), if_pos (lim3 _ _ _), Exp.re_eq]
 refine SimP.bind (hq ts h hn) (fun a r1 h1 hr1 => ?_) (fun a p hp => ⟨.mk 8 0 [] [a, e0, e0], by simp only [xHT N _ hp, hb p hp, jS]; rfl⟩)
 have l1 := eat hT hf h h1
 refine SimP.need hT.len hr1 (fun r2 h2 hr2 => ?_) (fun p hp => ⟨.mk 8 0 [] [a, e0, e0], by simp only [xHT N _ hp, hb p hp, jS]; rfl⟩)
 have l2 := xFO h2
 refine SimP.bind (hq r2 hr2 (by omega)) (fun b r3 h3 hr3 => ?_) (fun b p hp => ⟨.mk 8 0 [] [a, b, e0], by simp only [xHT N _ hp, hb p hp, jS]; rfl⟩)
 have l3 := eat hT hf hr2 h3
 refine SimP.need hT.len hr3 (fun r4 h4 hr4 => ?_) (fun p hp => ⟨.mk 8 0 [] [a, b, e0], by simp only [hb p hp, jS]; rfl⟩)
 have l4 := xFO h4
 exact SimP.bind (hq r4 hr4 (by omega)) (fun c r5 h5 hr5 => ⟨hr5, rfl⟩) (fun c p hp => ⟨_, rfl⟩)
theorem xP0 (hT : TokT K T) (hN : K < N) (hN2 : 1002 < N) (hK : K ≤ 1048576) {n : Nat} {f g : List Tok → PR Exp} (hf : xCB K f) (hg : xCB K g) (hq : FPs T n f q1) (hb : xHq q1) (hq4 : FPs T (n + 1) g q4) (hb4 : xHq q4) :
 FPs T (n + 1) (xJl f g) (xCD N q0 q1 q2 q3 q4) := by
 intro ts h hn
 unfold xJl xCD
 simp only [xHA N h, jS, xMh, vBx]
 cases c1 : seeK [108, 101, 116] ts
 · simp only [jF]
   cases c2 : seeK [105, 102] ts
   · simp only [jF]
     cases c3 : seeK [102, 111, 114] ts
     · simp only [jF]
       obtain ⟨M, rfl⟩ : ∃ k, N = k + 3 := ⟨N - 3, by omega⟩
       unfold pCmp
       refine SimP.bind (hq4 ts h hn) (fun a r ha hr => ?_) (fun a p hp => ⟨a, xPZ hp M a e0⟩)
       have := eat hT hg h ha
       exact xVO hT hg hq4 hb4 M a e0 hr (by omega)
     · simp only [jT, xK0 hT.len h (xGi c3)]
       have := xGi c3
       exact xRI hT hN hK hf hq hb 9 _ _ (xCz h) (by omega)
   · simp only [jT, xK0 hT.len h (xGi c2)]
     have := xGi c2
     exact vBw hT hf hq hb (xCz h) (by omega)
 · simp only [jT, xK0 hT.len h (xGi c1)]
   have := xGi c1
   exact xRI hT hN hK hf hq hb 7 _ _ (xCz h) (by omega)
end
theorem xNN {N : Nat} (hN : 3 ≤ N) : ∀ d, 4 ≤ d → xHq (xAb N d).c_impl_parser_expr := by
 intro d hd
 obtain ⟨d, rfl⟩ : ∃ k, d = k + 4 := ⟨d - 4, by omega⟩
 exact xRU (q0 := (xAb N (d + 3)).c_impl_parser_atom) (q1 := (xAb N (d + 3)).c_impl_parser_expr) (q2 := (xAb N (d + 3)).c_impl_parser_list2) (q3 := (xAb N (d + 3)).c_impl_parser_product) (q4 := (xAb N (d + 3)).c_impl_parser_sum) hN (xRC (q0 := (xAb N (d + 2)).c_impl_parser_atom) (q1 := (xAb N (d + 2)).c_impl_parser_expr) (q2 := (xAb N (d + 2)).c_impl_parser_list2) (q3 := (xAb N (d + 2)).c_impl_parser_product) (q4 := (xAb N (d + 2)).c_impl_parser_sum) (by omega) (xPe (q0 := (xAb N (d + 1)).c_impl_parser_atom) (q1 := (xAb N (d + 1)).c_impl_parser_expr) (q2 := (xAb N (d + 1)).c_impl_parser_list2) (q3 := (xAb N (d + 1)).c_impl_parser_product) (q4 := (xAb N (d + 1)).c_impl_parser_sum) (by omega) fun p hp => xOG (q0 := (xAb N d).c_impl_parser_atom) (q1 := (xAb N d).c_impl_parser_expr) (q2 := (xAb N d).c_impl_parser_list2) (q3 := (xAb N d).c_impl_parser_product) (q4 := (xAb N d).c_impl_parser_sum) hp))
theorem xRj {K : Nat} {T : List Tok} {N : Nat} (hT : TokT K T) (hN : K < N) (hN2 : 1002 < N) (hK : K ≤ 1048576) : ∀ n d, 5 * n + 9 ≤ d → FPs T n (pE n) (xAb N d).c_impl_parser_expr := by
 intro n
 induction n with
 | zero => intro d _ ts _ h; omega
 | succ n ih =>
   intro d hd
   obtain ⟨d, rfl⟩ : ∃ k, d = k + 5 := ⟨d - 5, by omega⟩
   have f1 := ih d (by omega)
   have f2 := ih (d + 1) (by omega)
   have f4 := ih (d + 4) (by omega)
   have b1 := xNN (N := N) (by omega) d (by omega)
   have b2 := xNN (N := N) (by omega) (d + 1) (by omega)
   have b4 := xNN (N := N) (by omega) (d + 4) (by omega)
   have hl : FPl T n (n + 1) (pE n) (xAb N (d + 1)).c_impl_parser_list2 := fun c ts h hn => xR5 (q0 := (xAb N d).c_impl_parser_atom) (q1 := (xAb N d).c_impl_parser_expr) (q2 := (xAb N d).c_impl_parser_list2) (q3 := (xAb N d).c_impl_parser_product) (q4 := (xAb N d).c_impl_parser_sum) hT hN2 (xFr n) f1 b1 c h hn (by omega)
   have hbl : xPP (xAb N (d + 1)).c_impl_parser_list2 := fun p s hp => xR4 (q0 := (xAb N d).c_impl_parser_atom) (q1 := (xAb N d).c_impl_parser_expr) (q2 := (xAb N d).c_impl_parser_list2) (q3 := (xAb N d).c_impl_parser_product) (q4 := (xAb N d).c_impl_parser_sum) (by omega) s hp
   have a : FPs T (n + 1) (xJ1 (pE n) (n + 1)) (xAb N (d + 2)).c_impl_parser_atom := xRP (q0 := (xAb N (d + 1)).c_impl_parser_atom) (q1 := (xAb N (d + 1)).c_impl_parser_expr) (q2 := (xAb N (d + 1)).c_impl_parser_list2) (q3 := (xAb N (d + 1)).c_impl_parser_product) (q4 := (xAb N (d + 1)).c_impl_parser_sum) hT hN hK (xFr n) f2 b2 hl hbl
   have ba : xHq (xAb N (d + 2)).c_impl_parser_atom := fun p hp => xOG (q0 := (xAb N (d + 1)).c_impl_parser_atom) (q1 := (xAb N (d + 1)).c_impl_parser_expr) (q2 := (xAb N (d + 1)).c_impl_parser_list2) (q3 := (xAb N (d + 1)).c_impl_parser_product) (q4 := (xAb N (d + 1)).c_impl_parser_sum) hp
   have p : FPs T (n + 1) (xLV (xJ1 (pE n) (n + 1)) (n + 1)) (xAb N (d + 3)).c_impl_parser_product := xVj (q0 := (xAb N (d + 2)).c_impl_parser_atom) (q1 := (xAb N (d + 2)).c_impl_parser_expr) (q2 := (xAb N (d + 2)).c_impl_parser_list2) (q3 := (xAb N (d + 2)).c_impl_parser_product) (q4 := (xAb N (d + 2)).c_impl_parser_sum) hT hN2 (xHE (xFr n) _) a ba (Nat.le_refl _)
   have bp : xHq (xAb N (d + 3)).c_impl_parser_product := xPe (q0 := (xAb N (d + 2)).c_impl_parser_atom) (q1 := (xAb N (d + 2)).c_impl_parser_expr) (q2 := (xAb N (d + 2)).c_impl_parser_list2) (q3 := (xAb N (d + 2)).c_impl_parser_product) (q4 := (xAb N (d + 2)).c_impl_parser_sum) (by omega) ba
   have s : FPs T (n + 1) (xNx (pE n) (n + 1)) (xAb N (d + 4)).c_impl_parser_sum := vAH (q0 := (xAb N (d + 3)).c_impl_parser_atom) (q1 := (xAb N (d + 3)).c_impl_parser_expr) (q2 := (xAb N (d + 3)).c_impl_parser_list2) (q3 := (xAb N (d + 3)).c_impl_parser_product) (q4 := (xAb N (d + 3)).c_impl_parser_sum) hT hN2 (xJ2 (xHE (xFr n) _) _) p bp (Nat.le_refl _)
   have bs : xHq (xAb N (d + 4)).c_impl_parser_sum := xRC (q0 := (xAb N (d + 3)).c_impl_parser_atom) (q1 := (xAb N (d + 3)).c_impl_parser_expr) (q2 := (xAb N (d + 3)).c_impl_parser_list2) (q3 := (xAb N (d + 3)).c_impl_parser_product) (q4 := (xAb N (d + 3)).c_impl_parser_sum) (by omega) bp
   exact xP0 (q0 := (xAb N (d + 4)).c_impl_parser_atom) (q1 := (xAb N (d + 4)).c_impl_parser_expr) (q2 := (xAb N (d + 4)).c_impl_parser_list2) (q3 := (xAb N (d + 4)).c_impl_parser_product) (q4 := (xAb N (d + 4)).c_impl_parser_sum) hT hN hN2 hK (xFr n) (xJ3 (xFr n) _) f4 b4 s bs
end Go.Ab
end
section
namespace Go.Ab
def gr (T : List Tok) (L : Int) (ts : List Tok) : Rdr := ⟨T, ((T.length - ts.length : Nat) : Int), L, -1⟩
def offT (L : Int) : List Tok → Int
 | [] => L
 | t :: _ => t.pos
def BadR (T : List Tok) (L : Int) (ts : List Tok) (r : Rdr) : Prop := r.toks = T ∧ r.fin = L ∧ r.bad = offT L ts ∧ ts <:+ T
structure TokW (T : List Tok) (L : Int) : Prop where
 pos : ∀ t ∈ T, 0 ≤ t.pos
 fin : 0 ≤ L
 name : ∀ t ∈ T, t.kind = 1 → ∃ (c : UInt8) (l : Str), t.text = c :: l ∧ 97 ≤ c.toNat
 sym : ∀ t ∈ T, t.kind = 4 → ∃ (c : UInt8) (l : Str), t.text = c :: l ∧ c.toNat < 97
theorem BadR.nn {T ts : List Tok} {L : Int} {r : Rdr} (hW : TokW T L) (h : BadR T L ts r) : 0 ≤ r.bad := by
 rw [h.2.2.1]
 cases ts with
 | nil => exact hW.fin
 | cons t q => exact hW.pos t (h.2.2.2.subset List.mem_cons_self)
def SimR {α : Type} (T : List Tok) (L : Int) (R : PR α) (x : Option (α × Rdr)) : Prop := match R with
 | .ok a ts => ts <:+ T ∧ x = some (a, gr T L ts)
 | .err ts => ∃ a p, x = some (a, p) ∧ BadR T L ts p
theorem SimR.bind {α β : Type} {T : List Tok} {L : Int} (hW : TokW T L) {R : PR α} {x : Option (α × Rdr)} {k : α → List Tok → PR β} {g : α × Rdr → Option (β × Rdr)} (h : SimR T L R x)
 (hk : ∀ a ts, R = .ok a ts → ts <:+ T → SimR T L (k a ts) (g (a, gr T L ts))) (hb : ∀ a p, 0 ≤ p.bad → ∃ b, g (a, p) = some (b, p)) : SimR T L (R.bind k) (Option.bind x g) := by
 cases R with
 | ok a ts =>
   obtain ⟨h1, h2⟩ := h
   rw [h2]
   exact hk a ts rfl h1
 | err ts =>
   obtain ⟨a, p, h1, h2⟩ := h
   obtain ⟨b, h3⟩ := hb a p (h2.nn hW)
   rw [h1]
   exact ⟨b, p, h3, h2⟩
theorem vAB (N : Nat) (t : Tok) (s : Str) : xDw N t s = some (isS t s) := by unfold xDw isS; cases t.kind == 4 <;> rfl
theorem vDm (N : Nat) (t : Tok) (s : Str) : xGe N t s = some (isK t s) := by unfold xGe isK; cases t.kind == 1 <;> rfl
theorem xRX {T ts : List Tok} {L : Int} {t : Tok} {q : List Tok} (h : t :: q <:+ T) : (decide ((gr T L (t :: q)).i < (List.length (gr T L (t :: q)).toks : Int)) = true ∧ decide ((gr T L (t :: q)).i ≥ (List.length (gr T L (t :: q)).toks : Int)) = false) ∧
 ((0 : Int) ≤ (gr T L (t :: q)).i ∧ (gr T L (t :: q)).i < (List.length (gr T L (t :: q)).toks)) ∧ List.getD (gr T L (t :: q)).toks (Int.toNat (gr T L (t :: q)).i) Ty.tok.dflt = t := by
 obtain ⟨pre, rfl⟩ := h
 have e : (pre ++ t :: q).length - (t :: q).length = pre.length := by rw [jA]; omega
 have e2 : (pre ++ t :: q).length = pre.length + (q.length + 1) := by simp
 simp only [gr, e]
 refine ⟨⟨decide_eq_true (by omega), decide_eq_false (by omega)⟩, by omega, ?_⟩
 simp [List.getD]
theorem xOM (T : List Tok) (L : Int) : decide ((gr T L []).i < (List.length (gr T L []).toks : Int)) = false ∧ decide ((gr T L []).i ≥ (List.length (gr T L []).toks : Int)) = true := by
 simp only [gr, jN, Nat.sub_zero]
 exact ⟨decide_eq_false (by omega), decide_eq_true (by omega)⟩
theorem xKe (T ts : List Tok) (L : Int) : (gr T L ts).bad = -1 := rfl
theorem xOA {T ts : List Tok} {L : Int} (N : Nat) (s : Str) (h : ts <:+ T) : xBz N (gr T L ts) s = some (seeS s ts || seeK s ts, gr T L ts) := by
 unfold xBz
 rw [xKe, xNQ, jT]
 cases ts with
 | nil => rw [(xOM T L).1, jF]; rfl
 | cons t q =>
   obtain ⟨⟨a1, _⟩, a2, a3⟩ := xRX (ts := t :: q) (L := L) h
   rw [a1, jT, if_pos a2, a3, vAB, jS, vDm]
   show _ = some (isS t s || isK t s, _)
   cases isS t s <;> rfl
def SymS (s : Str) : Prop := ∃ (c : UInt8) (l : Str), s = c :: l ∧ c.toNat < 97
def KeyS (s : Str) : Prop := ∃ (c : UInt8) (l : Str), s = c :: l ∧ 97 ≤ c.toNat
theorem xOz {T ts : List Tok} {L : Int} (hW : TokW T L) (h : ts <:+ T) {s : Str} (hs : SymS s) : seeK s ts = false := by
 cases ts with
 | nil => rfl
 | cons t q =>
   show isK t s = false
   unfold isK
   cases hk : t.kind == 1
   · rfl
   · obtain ⟨c, l, h1, h2⟩ := hW.name t (h.subset List.mem_cons_self) (by simpa using hk)
     obtain ⟨c', l', rfl, h4⟩ := hs
     rw [jT, h1, beq_eq_false_iff_ne]
     intro e
     cases e
     omega
theorem vAC {T ts : List Tok} {L : Int} (hW : TokW T L) (h : ts <:+ T) {s : Str} (hs : KeyS s) : seeS s ts = false := by
 cases ts with
 | nil => rfl
 | cons t q =>
   show isS t s = false
   unfold isS
   cases hk : t.kind == 4
   · rfl
   · obtain ⟨c, l, h1, h2⟩ := hW.sym t (h.subset List.mem_cons_self) (by simpa using hk)
     obtain ⟨c', l', rfl, h4⟩ := hs
     rw [jT, h1, beq_eq_false_iff_ne]
     intro e
     cases e
     omega
theorem xND {T ts : List Tok} {L : Int} (hW : TokW T L) (N : Nat) {s : Str} (hs : SymS s) (h : ts <:+ T) : xBz N (gr T L ts) s = some (seeS s ts, gr T L ts) := by
 rw [xOA N s h, xOz hW h hs, Bool.or_false]
theorem vAD {T ts : List Tok} {L : Int} (hW : TokW T L) (N : Nat) {s : Str} (hs : KeyS s) (h : ts <:+ T) : xBz N (gr T L ts) s = some (seeK s ts, gr T L ts) := by
 rw [xOA N s h, vAC hW h hs, Bool.false_or]
theorem xIg {T ts : List Tok} {L : Int} (hT : T.length ≤ 1000) (h : ts <:+ T) (hne : ts.tail.length + 1 = ts.length) : Rdr.mk (gr T L ts).toks (IntKind.i64.wrap ((gr T L ts).i + 1)) (gr T L ts).fin (gr T L ts).bad = gr T L ts.tail := by
 have hl := h.length_le
 unfold gr
 have : IntKind.i64.wrap (((T.length - ts.length : Nat) : Int) + 1) = ((T.length - ts.tail.length : Nat) : Int) := by rw [xBh (by omega) (by omega)]; omega
 simp only [this]
theorem xKq {T ts : List Tok} {L : Int} (N : Nat) (h : ts <:+ T) : ∃ p, xBW N (gr T L ts) = some (e0, p) ∧ BadR T L ts p := by
 unfold xBW
 rw [xKe, xNQ, jT]
 cases ts with
 | nil =>
   rw [(xOM T L).1, jF]
   exact ⟨_, rfl, rfl, rfl, rfl, h⟩
 | cons t q =>
   obtain ⟨⟨a1, _⟩, a2, a3⟩ := xRX (ts := t :: q) (L := L) h
   rw [a1, jT, if_pos a2, a3]
   exact ⟨_, rfl, rfl, rfl, rfl, h⟩
theorem xGk {p : Rdr} (N : Nat) (s : Str) (h : 0 ≤ p.bad) : xBz N p s = some (false, p) := by
 unfold xBz; rw [decide_eq_false (by omega), jF]
theorem xNE {p : Rdr} (N : Nat) (h : 0 ≤ p.bad) : xBW N p = some (e0, p) := by
 unfold xBW; rw [decide_eq_false (by omega), jF]
theorem xHn {p : Rdr} (N : Nat) (s : Str) (h : 0 ≤ p.bad) : xBv N p s = some p := by
 unfold xBv; simp only [xGk N s h, jS, xNE N h]; rfl
theorem SimR.need {β : Type} {T ts : List Tok} {L : Int} (hW : TokW T L) {s : Str} {N : Nat} {k : Unit → List Tok → PR β} {g : Rdr → Option (β × Rdr)} (hT : T.length ≤ 1000) (h : ts <:+ T)
 (hk : ∀ r, xF9 s ts = .ok () r → r <:+ T → SimR T L (k () r) (g (gr T L r))) (hb : ∀ p, 0 ≤ p.bad → ∃ b, g p = some (b, p)) : SimR T L ((xF9 s ts).bind k) (Option.bind (xBv N (gr T L ts) s) g) := by
 unfold xBv
 rw [xOA N s h, jS]
 have bad : ∀ R : PR β, R = .err ts → SimR T L R (Option.bind (Option.bind (xBW N (gr T L ts)) fun r2 => some r2.2) g) := by
  intro R hR
  subst hR
  obtain ⟨p, hp1, hp2⟩ := xKq (L := L) N h
  obtain ⟨b, hb⟩ := hb p (hp2.nn hW)
  refine ⟨b, p, ?_, hp2⟩
  rw [hp1, jS, jS, hb]
 cases ts with
 | nil => exact bad _ rfl
 | cons t r =>
   show SimR T L _ (Option.bind (bif (!(isS t s || isK t s)) then _ else _) g)
   cases h1 : isS t s || isK t s
   · exact bad _ (by simp only [xF9, Bool.or_comm (isK t s), h1, jF, PR.bind])
   · have e : xF9 s (t :: r) = .ok () r := by simp only [xF9, Bool.or_comm (isK t s), h1, jT]
     rw [e]
     simp only [Bool.not_true, jF, jS]
     have ha : Rdr.mk (gr T L (t :: r)).toks (IntKind.i64.wrap ((gr T L (t :: r)).i + 1)) (gr T L (t :: r)).fin (gr T L (t :: r)).bad = gr T L r := xIg hT h rfl
     rw [ha]
     exact hk r e (xCz h)
theorem xRv {K : Nat} {T ts : List Tok} {L : Int} {N : Nat} (hT : TokT K T) (hN : K < N) (h24 : 24 < N) (hK : K ≤ 1048576) (h : ts <:+ T) : SimR T L (xLU ts) (xDK N (gr T L ts)) := by
 have bad : xDK N (gr T L ts) = Option.bind (xBW N (gr T L ts)) (fun r2 => some ([], r2.2)) → SimR T L (.err ts : PR Str) (xDK N (gr T L ts)) := fun he => by
  obtain ⟨p, h1, h2⟩ := xKq (L := L) N h
  rw [he, h1]
  exact ⟨[], p, rfl, h2⟩
 have c0 : decide ((-1 : Int) ≥ 0) = false := rfl
 cases ts with
 | nil =>
   refine bad ?_
   unfold xDK
   rw [xKe, c0, jF, (xOM T L).2, jT]
 | cons t r =>
   have hft := hT.fit t (h.subset List.mem_cons_self)
   have hlen : t.text.length ≤ K := hft.2.2.2
   have hv := xGt (N := N) (s := t.text) (by omega) (by omega) h24
   obtain ⟨⟨_, a1⟩, a2, a3⟩ := xRX (ts := t :: r) (L := L) h
   simp only [xLU]
   cases h1 : t.kind == 1
   · refine bad ?_
     unfold xDK
     rw [xKe, c0, jF, a1, jF, if_pos a2, a3]
     simp only [bne, h1, Bool.not_false, jT]
   · cases h2 : xDE t.text
     · refine bad ?_
       unfold xDK
       rw [xKe, c0, jF, a1, jF, if_pos a2, a3]
       simp only [bne, h1, hv, h2, jS, Bool.not_true, Bool.not_false, jT, jF]
     · refine ⟨xCz h, ?_⟩
       have hl := h.length_le
       have hT1 := hT.len
       have e1 : IntKind.i64.wrap ((IntKind.i64.wrap ((gr T L (t :: r)).i + 1)) - 1) = (gr T L (t :: r)).i := by
        show IntKind.i64.wrap ((IntKind.i64.wrap (((T.length - (t :: r).length : Nat) : Int) + 1)) - 1) = ((T.length - (t :: r).length : Nat) : Int)
        rw [xBh (x := ((T.length - (t :: r).length : Nat) : Int) + 1) (by omega) (by omega), xBh (by omega) (by omega)]; omega
       have ha : Rdr.mk (gr T L (t :: r)).toks (IntKind.i64.wrap ((gr T L (t :: r)).i + 1)) (gr T L (t :: r)).fin (gr T L (t :: r)).bad = gr T L r := xIg hT.len h rfl
       unfold xDK
       rw [e1, ha, xKe, c0, jF, a1, jF, if_pos a2, a3]
       simp only [bne, h1, hv, h2, jS, Bool.not_true, jT, jF, if_pos a2]
def xF6 (q : Rdr → Option (Exp × Rdr)) : Prop := ∀ p, 0 ≤ p.bad → q p = some (e0, p)
def xNM (q : Rdr → Str → Option (List Exp × Rdr)) : Prop := ∀ p s, 0 ≤ p.bad → q p s = some ([], p)
def FRs (T : List Tok) (L : Int) (n : Nat) (f : List Tok → PR Exp) (q : Rdr → Option (Exp × Rdr)) : Prop := ∀ ts, ts <:+ T → ts.length < n → SimR T L (f ts) (q (gr T L ts))
theorem sOp (N : Nat) (k : Int) (a b : Exp) : xDY N k a b = some (.mk 6 k [] [a, b]) := by unfold xDY; simp only [Exp.re_eq]
theorem xRt {s s' : Str} {ts : List Tok} (h : seeS s ts = true) (hne : s ≠ s') : seeS s' ts = false := by
 cases ts with
 | nil => cases h
 | cons t q =>
   have h : isS t s = true := h
   show isS t s' = false
   unfold isS at h ⊢
   cases hk : t.kind == 4
   · rfl
   · rw [hk, jT] at h
     rw [jT, beq_eq_false_iff_ne]
     intro e
     exact hne ((beq_iff_eq.1 h).symm.trans e)
section
variable {K : Nat} {T : List Tok} {L : Int} {N : Nat} {q0 : Rdr → Str → Option (List Exp × Rdr)} {q1 q2 q3 q4 q5 : Rdr → Option (Exp × Rdr)}
theorem xPW (hW : TokW T L) (hT : TokT K T) {n : Nat} {f : List Tok → PR Exp} (hf : xCB K f) (hq : FRs T L n f q3) (c : Str) (hc : SymS c) (hc2 : c ≠ [44]) : ∀ (m fuel : Nat) (acc : List Exp) (ts : List Tok), ts <:+ T → ts.length < n → ts.length < m → ts.length < fuel → acc.length + ts.length ≤ 2000 →
 SimR T L (xJm f c m acc ts) (xFi N q0 q1 q2 q3 q4 q5 fuel c acc (gr T L ts)) := by
 have hco : SymS [44] := ⟨44, [], rfl, by decide⟩
 intro m
 induction m with
 | zero => intro fuel acc ts _ _ h; omega
 | succ m ih =>
   intro fuel acc ts h hn hm hfu ha
   obtain ⟨fuel, rfl⟩ : ∃ k, fuel = k + 1 := ⟨fuel - 1, by omega⟩
   simp only [xJm, xFi, xKe, xNQ, jT]
   refine SimR.bind hW (hq ts h hn) (fun e r he hr => ?_) (fun e p hp => ?_)
   · have hl := eat hT hf h he
     simp only [Exp.re_eq]
     rw [if_pos (by simp only [jC, jN]; unfold Lim; omega)]
     rw [xND hW N hco hr, jS]
     cases hs : seeS [44] r
     · simp only [Bool.not_false, jT]
       have hk := xOz hW hr hco
       have e1 : xF9 [44] r = .err r := by
        cases r with
        | nil => rfl
        | cons t q =>
          have hk : isK t [44] = false := hk
          have hs : isS t [44] = false := hs
          simp only [xF9, hk, hs, Bool.or_false, jF]
       have hkc := xOz hW hr hc
       have e2 : (bif seeS c r then PR.ok (acc ++ [e]) r.tail else (xF9 [44] r).bind fun _ q => xJm f c m (acc ++ [e]) q) = (xF9 c r).bind fun _ q => .ok (acc ++ [e]) q := by
        rw [e1]
        cases r with
        | nil => rfl
        | cons t q =>
          have hkc : isK t c = false := hkc
          show (bif isS t c then _ else _) = _
          simp only [xF9, hkc, Bool.false_or]
          cases isS t c <;> rfl
       rw [e2]
       exact SimR.need hW hT.len hr (fun q _ hq => ⟨hq, rfl⟩) (fun p hp => ⟨_, rfl⟩)
     · have hs' := xRt hs (Ne.symm hc2)
       obtain ⟨t, q, rfl⟩ : ∃ t q, r = t :: q := by
        obtain ⟨t, h1, _⟩ := xKp hs
        exact ⟨t, _, h1⟩
       have hs2 : isS t [44] = true := hs
       have e1 : xF9 [44] (t :: q) = .ok () q := by simp only [xF9, hs2, Bool.or_true, jT]
       have ha : Rdr.mk (gr T L (t :: q)).toks (IntKind.i64.wrap ((gr T L (t :: q)).i + 1)) (gr T L (t :: q)).fin (gr T L (t :: q)).bad = gr T L q := xIg hT.len hr rfl
       rw [hs', e1]
       simp only [Bool.not_true, jF, ha, PR.bind]
       exact ih fuel (acc ++ [e]) q (xCz hr) (by simp only [jC] at hl; omega) (by simp only [jC] at hl; omega) (by simp only [jC] at hl; omega) (by simp only [jA, jC, jN] at hl ⊢; omega)
   · simp only [Exp.re_eq]
     rw [if_pos (by simp only [jC, jN]; unfold Lim; omega), xGk N _ hp, jS]
     simp only [Bool.not_false, jT, xHn N _ hp, jS]
     exact ⟨_, rfl⟩
theorem xRL (hN : 0 < N) (s : Str) {p : Rdr} (h : 0 ≤ p.bad) : xDZ N q0 q1 q2 q3 q4 q5 p s = some ([], p) := by
 obtain ⟨M, rfl⟩ : ∃ k, N = k + 1 := ⟨N - 1, by omega⟩
 unfold xDZ
 rw [xGk _ s h, jS]
 simp only [jF, xFi]
 rw [decide_eq_false (by omega), jF, xHn _ s h]; rfl
theorem xRM (hW : TokW T L) (hT : TokT K T) (hN : 1002 < N) {n m : Nat} {f : List Tok → PR Exp} (hf : xCB K f) (hq : FRs T L n f q3) (c : Str) (hc : SymS c) (hc2 : c ≠ [44]) {ts : List Tok} (h : ts <:+ T) (hn : ts.length < n) (hm : ts.length < m) :
 SimR T L (xKV f m c ts) (xDZ N q0 q1 q2 q3 q4 q5 (gr T L ts) c) := by
 have hl := h.length_le
 have := hT.len
 unfold xKV xDZ
 rw [xND hW N hc h, jS]
 cases hs : seeS c ts
 · simp only [jF]
   exact xPW hW hT hf hq c hc hc2 m N [] ts h hn hm (by omega) (by simp; omega)
 · simp only [jT, xIg hT.len h (xGj hs)]
   exact ⟨xCz h, rfl⟩
def FRl (T : List Tok) (L : Int) (n m : Nat) (f : List Tok → PR Exp) (q : Rdr → Str → Option (List Exp × Rdr)) : Prop := ∀ c ts, SymS c → c ≠ [44] → ts <:+ T → ts.length < n → SimR T L (xKV f m c ts) (q (gr T L ts) c)
theorem xNB {p : Rdr} (h : 0 ≤ p.bad) : xD0 N q0 q1 q2 q3 q4 q5 p = some (e0, p) := by
 unfold xD0
 rw [decide_eq_true (by omega : p.bad ≥ 0), jT, xNE N h]; rfl
theorem xMw (hW : TokW T L) (hT : TokT K T) {n m : Nat} {f : List Tok → PR Exp} (hf : xCB K f) (hq : FRs T L n f q3) (hb : xF6 q3) (hl : FRl T L n m f q0) (hbl : xNM q0) {t : Tok} {r : List Tok} (h : t :: r <:+ T) (hn : r.length < n) :
 SimR T L (xJk f m t r) (Option.bind (xDw N t [91]) fun r1 =>
         bif r1 then (
          Option.bind (q0 (gr T L r) [93]) fun r2 =>
          some ((Exp.mk 4 0 [] r2.1), r2.2)
         ) else (
           Option.bind (xDw N t [40]) fun r2 =>
           bif r2 then (
            Option.bind (q3 (gr T L r)) fun r3 =>
            Option.bind (xBv N r3.2 [41]) fun r4 =>
            some (r3.1, r4)
           ) else (
             Option.bind (xBW N (gr T L (t :: r))) fun r3 =>
             some (r3.1, r3.2)
           )
         )) := by
 have hr : r <:+ T := xCz h
 unfold xJk
 rw [vAB, jS]
 cases h1 : isS t [91]
 · simp only [jF, vAB, jS]
   cases h2 : isS t [40]
   · simp only [jF]
     obtain ⟨p, hp1, hp2⟩ := xKq (L := L) N h
     rw [hp1]
     exact ⟨_, p, rfl, hp2⟩
   · simp only [jT]
     refine SimR.bind hW (hq r hr hn) (fun e u he hu => ?_) (fun e p hp => ⟨e, by simp only [xHn N _ hp, jS]⟩)
     exact SimR.need hW hT.len hu (fun v _ hv => ⟨hv, rfl⟩) (fun p hp => ⟨e, rfl⟩)
 · simp only [jT]
   exact SimR.bind hW (hl [93] r ⟨93, [], rfl, by decide⟩ (by decide) hr hn) (fun a u _ hu => ⟨hu, rfl⟩) (fun a p hp => ⟨_, rfl⟩)
theorem xRs (hW : TokW T L) (hT : TokT K T) (hN : K < N) (h24 : 24 < N) (hK : K ≤ 1048576) {n m : Nat} {f : List Tok → PR Exp} (hf : xCB K f) (hq : FRs T L n f q3) (hb : xF6 q3) (hl : FRl T L n m f q0) (hbl : xNM q0) :
 FRs T L (n + 1) (xJ1 f m) (xD0 N q0 q1 q2 q3 q4 q5) := by
 intro ts h hn
 have c0 : decide ((-1 : Int) ≥ 0) = false := rfl
 unfold xD0
 rw [xKe, c0, jF]
 cases ts with
 | nil =>
   rw [(xOM T L).2, jT]
   obtain ⟨p, hp1, hp2⟩ := xKq (L := L) N h
   exact ⟨_, p, by rw [hp1]; rfl, hp2⟩
 | cons t r =>
   have hr : r <:+ T := xCz h
   have hn' : r.length < n := by simp only [jC] at hn; omega
   have hft := hT.fit t (h.subset List.mem_cons_self)
   have hlen : t.text.length ≤ K := hft.2.2.2
   have hv := xGt (N := N) (s := t.text) (by omega) (by omega) h24
   obtain ⟨⟨_, a1⟩, a2, a3⟩ := xRX (ts := t :: r) (L := L) h
   have ha : Rdr.mk (gr T L (t :: r)).toks (IntKind.i64.wrap ((gr T L (t :: r)).i + 1)) (gr T L (t :: r)).fin (gr T L (t :: r)).bad = gr T L r := xIg hT.len h rfl
   have ha' : Rdr.mk (gr T L (t :: r)).toks (IntKind.i64.wrap ((gr T L (t :: r)).i + 1)) (gr T L (t :: r)).fin (-1) = gr T L r := ha
   rw [a1, jF, if_pos a2, a3]
   simp only [xJ1, ha']
   cases h1 : t.kind == 2
   · cases h2 : t.kind == 3
     · cases h3 : t.kind == 1
       · exact xMw hW hT hf hq hb hl hbl h hn'
       · simp only [jT, jF, hv, jS]
         cases h4 : xDE t.text
         · simp only [jF, xFP, jS]
           cases h5 : decide (argc t.text ≥ 0)
           · exact xMw hW hT hf hq hb hl hbl h hn'
           · simp only [jT]
             refine SimR.need hW hT.len hr (fun u hu hus => ?_) (fun p hp => ⟨_, by rw [hbl p _ hp, jS]⟩)
             have := xFO hu
             exact SimR.bind hW (hl [41] u ⟨41, [], rfl, by decide⟩ (by decide) hus (by omega)) (fun a v _ hv => ⟨hv, rfl⟩) (fun a p hp => ⟨_, rfl⟩)
         · exact ⟨hr, rfl⟩
     · exact ⟨hr, rfl⟩
   · exact ⟨hr, rfl⟩
theorem xPL (hW : TokW T L) (hT : TokT K T) {n : Nat} {g : List Tok → PR Exp} (hg : xCB K g) (hq : FRs T L n g q1) (hb : xF6 q1) (b2 : Exp) : ∀ (m fuel : Nat) (a : Exp) (ts : List Tok), ts <:+ T → ts.length ≤ n → ts.length < m → ts.length < fuel →
 SimR T L (xJn g m a ts) (xC4 N q0 q1 q2 q3 q4 q5 fuel (gr T L ts) b2 a) := by
 have hs0 : SymS [42] := ⟨42, [], rfl, by decide⟩
 intro m
 induction m with
 | zero => intro fuel a ts _ _ h; omega
 | succ m ih =>
   intro fuel a ts h hn hm hfu
   obtain ⟨fuel, rfl⟩ : ∃ k, fuel = k + 1 := ⟨fuel - 1, by omega⟩
   simp only [xJn, xC4]
   rw [xND hW N hs0 h, jS]
   cases hs : seeS [42] ts
   · exact ⟨h, rfl⟩
   · have hl := xGj hs
     simp only [jT, sOp, jS, xIg hT.len h hl]
     obtain ⟨fuel, rfl⟩ : ∃ k, fuel = k + 1 := ⟨fuel - 1, by omega⟩
     refine SimR.bind hW (hq ts.tail (xCz h) (by omega)) (fun b r hbr hr => ?_) (fun b p hp => ⟨.mk 6 3 [] [a, b], by simp only [xC4, xGk N _ hp, jS, jF]⟩)
     have := eat hT hg (xCz h) hbr
     exact ih (fuel + 1) _ r hr (by omega) (by omega) (by omega)
theorem xRz (hW : TokW T L) (hT : TokT K T) (hN : 1002 < N) {n m : Nat} {g : List Tok → PR Exp} (hg : xCB K g) (hq : FRs T L n g q1) (hb : xF6 q1) (hnm : n ≤ m) : FRs T L n (xLV g m) (xCZ N q0 q1 q2 q3 q4 q5) := by
 intro ts h hn
 have hl := h.length_le
 have := hT.len
 unfold xLV xCZ
 obtain ⟨M, rfl⟩ : ∃ k, N = k + 1 := ⟨N - 1, by omega⟩
 refine SimR.bind hW (hq ts h hn) (fun b r hbr hr => ?_) (fun b p hp => ⟨b, by simp only [xC4, xGk _ _ hp, jS, jF]⟩)
 have := eat hT hg h hbr
 exact xPL hW hT hg hq hb e0 m (M + 1) b r hr (by omega) (by omega) (by omega)
theorem xNJ (hN : 0 < N) (hb : xF6 q1) : xF6 (xCZ N q0 q1 q2 q3 q4 q5) := by
 intro p hp
 obtain ⟨M, rfl⟩ : ∃ k, N = k + 1 := ⟨N - 1, by omega⟩
 unfold xCZ
 simp only [hb p hp, jS, xC4, xGk _ _ hp, jF]
theorem xRB (hW : TokW T L) (hT : TokT K T) {n : Nat} {g : List Tok → PR Exp} (hg : xCB K g) (hq : FRs T L n g q4) (hb : xF6 q4) (b2 : Exp) : ∀ (m fuel : Nat) (a : Exp) (ts : List Tok), ts <:+ T → ts.length ≤ n → ts.length < m → ts.length < fuel →
 SimR T L (xJ4 g m a ts) (xCP N q0 q1 q2 q3 q4 q5 fuel (gr T L ts) b2 a) := by
 have hp0 : SymS [43] := ⟨43, [], rfl, by decide⟩
 have hm0 : SymS [45] := ⟨45, [], rfl, by decide⟩
 intro m
 induction m with
 | zero => intro fuel a ts _ _ h; omega
 | succ m ih =>
   intro fuel a ts h hn hm hfu
   obtain ⟨fuel, rfl⟩ : ∃ k, fuel = k + 1 := ⟨fuel - 1, by omega⟩
   have step : ∀ s k, seeS s ts = true → SimR T L ((g ts.tail).bind fun b r => xJ4 g m (.mk 6 k [] [a, b]) r) (Option.bind (q4 (gr T L ts.tail)) fun r3 => Option.bind (xDY N k a r3.1) fun r4 => xCP N q0 q1 q2 q3 q4 q5 fuel r3.2 b2 r4) := by
    intro s k hs
    have hl := xGj hs
    simp only [sOp, jS]
    obtain ⟨fuel, rfl⟩ : ∃ k, fuel = k + 1 := ⟨fuel - 1, by omega⟩
    refine SimR.bind hW (hq ts.tail (xCz h) (by omega)) (fun b r hbr hr => ?_) (fun b p hp => ⟨.mk 6 k [] [a, b], by simp only [xCP, xGk N _ hp, jS, jF]⟩)
    have := eat hT hg (xCz h) hbr
    exact ih (fuel + 1) _ r hr (by omega) (by omega) (by omega)
   simp only [xJ4, xCP]
   rw [xND hW N hp0 h, jS]
   cases hs : seeS [43] ts
   · simp only [jF, xND hW N hm0 h, jS]
     cases hs2 : seeS [45] ts
     · exact ⟨h, rfl⟩
     · simp only [jT, xIg hT.len h (xGj hs2)]
       exact step _ 2 hs2
   · simp only [jT, xND hW N hm0 h, jS, xRt hs (by decide : ([43] : Str) ≠ [45]), jF, xIg hT.len h (xGj hs)]
     exact step _ 1 hs
theorem xVp (hW : TokW T L) (hT : TokT K T) (hN : 1002 < N) {n m : Nat} {g : List Tok → PR Exp} (hg : xCB K g) (hq : FRs T L n g q4) (hb : xF6 q4) (hnm : n ≤ m) : FRs T L n (pSum g m) (xEk N q0 q1 q2 q3 q4 q5) := by
 intro ts h hn
 have hl := h.length_le
 have := hT.len
 unfold pSum xEk
 obtain ⟨M, rfl⟩ : ∃ k, N = k + 1 := ⟨N - 1, by omega⟩
 refine SimR.bind hW (hq ts h hn) (fun b r hbr hr => ?_) (fun b p hp => ⟨b, by simp only [xCP, xGk _ _ hp, jS, jF]⟩)
 have := eat hT hg h hbr
 exact xRB hW hT hg hq hb e0 m (M + 1) b r hr (by omega) (by omega) (by omega)
theorem xPi (hN : 0 < N) (hb : xF6 q4) : xF6 (xEk N q0 q1 q2 q3 q4 q5) := by
 intro p hp
 obtain ⟨M, rfl⟩ : ∃ k, N = k + 1 := ⟨N - 1, by omega⟩
 unfold xEk
 simp only [hb p hp, jS, xCP, xGk _ _ hp, jF]
theorem xVl (hb : xF6 q5) : xF6 (xCY N q0 q1 q2 q3 q4 q5) := by
 intro p hp
 unfold xCY
 simp only [hb p hp, jS, xGk _ _ hp, jF]
theorem xVm (hW : TokW T L) (hT : TokT K T) {n : Nat} {g : List Tok → PR Exp} (hg : xCB K g) (hq : FRs T L n g q5) (hb : xF6 q5) : FRs T L n (pCmp g) (xCY N q0 q1 q2 q3 q4 q5) := by
 intro ts h hn
 have s1 : SymS [60] := ⟨60, [], rfl, by decide⟩
 have s2 : SymS [61, 61] := ⟨61, [61], rfl, by decide⟩
 unfold pCmp xCY
 refine SimR.bind hW (hq ts h hn) (fun a r ha hr => ?_) (fun a p hp => ⟨a, by simp only [jS, xGk _ _ hp, jF]⟩)
 have hl := eat hT hg h ha
 have step : ∀ s k, seeS s r = true → SimR T L ((g r.tail).bind fun b q => PR.ok (.mk 6 k [] [a, b]) q) (Option.bind (q5 (gr T L r.tail)) fun r3 => Option.bind (xDY N k a r3.1) fun r4 => some (r4, r3.2)) := by
  intro s k hs
  have hl := xGj hs
  simp only [sOp, jS]
  exact SimR.bind hW (hq r.tail (xCz hr) (by omega)) (fun b r hbr hr => ⟨hr, rfl⟩) (fun b p hp => ⟨_, rfl⟩)
 unfold xPB
 simp only [xND hW N s1 hr, xND hW N s2 hr, jS]
 cases hs : seeS [60] r
 · simp only [jF]
   cases hs2 : seeS [61, 61] r
   · exact ⟨hr, rfl⟩
   · simp only [jT, xIg hT.len hr (xGj hs2)]
     exact step _ 5 hs2
 · simp only [jT, xIg hT.len hr (xGj hs)]
   exact step _ 4 hs
theorem xRu (hb : xF6 q2) : xF6 (xD1 N q0 q1 q2 q3 q4 q5) := by
 intro p hp
 unfold xD1
 simp only [hb p hp, jS, xGk _ _ hp, jF]
theorem xPj (hW : TokW T L) (hT : TokT K T) (hN : K < N) (h24 : 24 < N) (hK : K ≤ 1048576) {n : Nat} {f : List Tok → PR Exp} (hf : xCB K f) (hq : FRs T L n f q3) (hb : xF6 q3) (k : Int) (s1 s2 : Str) {ts : List Tok} (h : ts <:+ T) (hn : ts.length < n) :
 SimR T L (pTwo f k s1 s2 ts) (Option.bind (xDK N (gr T L ts)) fun r2 =>
 Option.bind (xBv N r2.2 s1) fun r3 =>
 Option.bind (q3 r3) fun r4 =>
 Option.bind (xBv N r4.2 s2) fun r5 =>
 Option.bind (q3 r5) fun r6 =>
 some ((Exp.mk k 0 r2.1 [(Exp.re r4.1), (Exp.re r6.1)]), r6.2)) := by
 simp only [Exp.re_eq]
 refine SimR.bind hW (xRv hT hN h24 hK h) (fun x r1 hx hr1 => ?_) (fun x p hp => ⟨.mk k 0 x [e0, e0], by simp only [xHn N _ hp, hb p hp, jS]⟩)
 have l1 := xNv hx
 refine SimR.need hW hT.len hr1 (fun r2 h2 hr2 => ?_) (fun p hp => ⟨.mk k 0 x [e0, e0], by simp only [xHn N _ hp, hb p hp, jS]⟩)
 have l2 := xFO h2
 refine SimR.bind hW (hq r2 hr2 (by omega)) (fun a r3 h3 hr3 => ?_) (fun a p hp => ⟨.mk k 0 x [a, e0], by simp only [xHn N _ hp, hb p hp, jS]⟩)
 have l3 := eat hT hf hr2 h3
 refine SimR.need hW hT.len hr3 (fun r4 h4 hr4 => ?_) (fun p hp => ⟨.mk k 0 x [a, e0], by simp only [hb p hp, jS]⟩)
 have l4 := xFO h4
 exact SimR.bind hW (hq r4 hr4 (by omega)) (fun b r5 h5 hr5 => ⟨hr5, rfl⟩) (fun b p hp => ⟨_, rfl⟩)
theorem vAE (hW : TokW T L) (hT : TokT K T) {n : Nat} {f : List Tok → PR Exp} (hf : xCB K f) (hq : FRs T L n f q3) (hb : xF6 q3) {ts : List Tok} (h : ts <:+ T) (hn : ts.length < n) :
 SimR T L (pIf f ts) (Option.bind (q3 (gr T L ts)) fun r3 =>
  Option.bind (xBv N r3.2 [116, 104, 101, 110]) fun r4 =>
  Option.bind (q3 r4) fun r5 =>
  Option.bind (xBv N r5.2 [101, 108, 115, 101]) fun r6 =>
  Option.bind (q3 r6) fun r7 =>
  some ((Exp.mk 8 0 [] [(Exp.re r3.1), (Exp.re r5.1), (Exp.re r7.1)]), r7.2)) := by
 simp only [Exp.re_eq]
 refine SimR.bind hW (hq ts h hn) (fun a r1 h1 hr1 => ?_) (fun a p hp => ⟨.mk 8 0 [] [a, e0, e0], by simp only [xHn N _ hp, hb p hp, jS]⟩)
 have l1 := eat hT hf h h1
 refine SimR.need hW hT.len hr1 (fun r2 h2 hr2 => ?_) (fun p hp => ⟨.mk 8 0 [] [a, e0, e0], by simp only [xHn N _ hp, hb p hp, jS]⟩)
 have l2 := xFO h2
 refine SimR.bind hW (hq r2 hr2 (by omega)) (fun b r3 h3 hr3 => ?_) (fun b p hp => ⟨.mk 8 0 [] [a, b, e0], by simp only [xHn N _ hp, hb p hp, jS]⟩)
 have l3 := eat hT hf hr2 h3
 refine SimR.need hW hT.len hr3 (fun r4 h4 hr4 => ?_) (fun p hp => ⟨.mk 8 0 [] [a, b, e0], by simp only [hb p hp, jS]⟩)
 have l4 := xFO h4
 exact SimR.bind hW (hq r4 hr4 (by omega)) (fun c r5 h5 hr5 => ⟨hr5, rfl⟩) (fun c p hp => ⟨_, rfl⟩)
theorem xPK (hW : TokW T L) (hT : TokT K T) (hN : K < N) (h24 : 24 < N) (hK : K ≤ 1048576) {n : Nat} {f g : List Tok → PR Exp} (hf : xCB K f) (hq : FRs T L n f q3) (hb : xF6 q3) (hq2 : FRs T L (n + 1) (pCmp g) q2) :
 FRs T L (n + 1) (xJl f g) (xD1 N q0 q1 q2 q3 q4 q5) := by
 intro ts h hn
 have k1 : KeyS [108, 101, 116] := ⟨108, [101, 116], rfl, by decide⟩
 have k2 : KeyS [105, 102] := ⟨105, [102], rfl, by decide⟩
 have k3 : KeyS [102, 111, 114] := ⟨102, [111, 114], rfl, by decide⟩
 unfold xJl xD1
 simp only [vAD hW N k1 h, vAD hW N k2 h, vAD hW N k3 h, jS]
 cases c1 : seeK [108, 101, 116] ts
 · simp only [jF]
   cases c2 : seeK [105, 102] ts
   · simp only [jF]
     cases c3 : seeK [102, 111, 114] ts
     · simp only [jF]
       have := hq2 ts h hn
       have e : (Option.bind (q2 (gr T L ts)) fun r4 => some (r4.1, r4.2)) = q2 (gr T L ts) := by cases q2 (gr T L ts) <;> rfl
       rw [e]
       exact this
     · simp only [jT, xIg hT.len h (xGi c3)]
       have := xGi c3
       exact xPj hW hT hN h24 hK hf hq hb 9 _ _ (xCz h) (by omega)
   · simp only [jT, xIg hT.len h (xGi c2)]
     have := xGi c2
     exact vAE hW hT hf hq hb (xCz h) (by omega)
 · simp only [jT, xIg hT.len h (xGi c1)]
   have := xGi c1
   exact xPj hW hT hN h24 hK hf hq hb 7 _ _ (xCz h) (by omega)
end
theorem xPf {N : Nat} (hN : 0 < N) : ∀ d, 5 ≤ d → xF6 (xAa N d).c_spec_l11Expr := by
 intro d hd
 obtain ⟨d, rfl⟩ : ∃ k, d = k + 5 := ⟨d - 5, by omega⟩
 exact xRu (q0 := (xAa N (d + 4)).c_spec_l11Args) (q1 := (xAa N (d + 4)).c_spec_l11Atom) (q2 := (xAa N (d + 4)).c_spec_l11Compare) (q3 := (xAa N (d + 4)).c_spec_l11Expr) (q4 := (xAa N (d + 4)).c_spec_l11Product) (q5 := (xAa N (d + 4)).c_spec_l11Sum) (xVl (q0 := (xAa N (d + 3)).c_spec_l11Args) (q1 := (xAa N (d + 3)).c_spec_l11Atom) (q2 := (xAa N (d + 3)).c_spec_l11Compare) (q3 := (xAa N (d + 3)).c_spec_l11Expr) (q4 := (xAa N (d + 3)).c_spec_l11Product) (q5 := (xAa N (d + 3)).c_spec_l11Sum) (xPi (q0 := (xAa N (d + 2)).c_spec_l11Args) (q1 := (xAa N (d + 2)).c_spec_l11Atom) (q2 := (xAa N (d + 2)).c_spec_l11Compare) (q3 := (xAa N (d + 2)).c_spec_l11Expr) (q4 := (xAa N (d + 2)).c_spec_l11Product) (q5 := (xAa N (d + 2)).c_spec_l11Sum) hN (xNJ (q0 := (xAa N (d + 1)).c_spec_l11Args) (q1 := (xAa N (d + 1)).c_spec_l11Atom) (q2 := (xAa N (d + 1)).c_spec_l11Compare) (q3 := (xAa N (d + 1)).c_spec_l11Expr) (q4 := (xAa N (d + 1)).c_spec_l11Product) (q5 := (xAa N (d + 1)).c_spec_l11Sum) hN fun p hp => xNB (q0 := (xAa N d).c_spec_l11Args) (q1 := (xAa N d).c_spec_l11Atom) (q2 := (xAa N d).c_spec_l11Compare) (q3 := (xAa N d).c_spec_l11Expr) (q4 := (xAa N d).c_spec_l11Product) (q5 := (xAa N d).c_spec_l11Sum) hp)))
theorem vAw {K : Nat} {T : List Tok} {L : Int} {N : Nat} (hW : TokW T L) (hT : TokT K T) (hN : K < N) (hN2 : 1002 < N) (hK : K ≤ 1048576) : ∀ n d, 6 * n + 11 ≤ d → FRs T L n (pE n) (xAa N d).c_spec_l11Expr := by
 intro n
 induction n with
 | zero => intro d _ ts _ h; omega
 | succ n ih =>
   intro d hd
   obtain ⟨d, rfl⟩ : ∃ k, d = k + 6 := ⟨d - 6, by omega⟩
   have f1 := ih d (by omega)
   have f2 := ih (d + 1) (by omega)
   have f5 := ih (d + 5) (by omega)
   have b2 := xPf (N := N) (by omega) (d + 1) (by omega)
   have b5 := xPf (N := N) (by omega) (d + 5) (by omega)
   have hl : FRl T L n (n + 1) (pE n) (xAa N (d + 1)).c_spec_l11Args := fun c ts hc hc2 h hn => xRM (q0 := (xAa N d).c_spec_l11Args) (q1 := (xAa N d).c_spec_l11Atom) (q2 := (xAa N d).c_spec_l11Compare) (q3 := (xAa N d).c_spec_l11Expr) (q4 := (xAa N d).c_spec_l11Product) (q5 := (xAa N d).c_spec_l11Sum) hW hT hN2 (xFr n) f1 c hc hc2 h hn (by omega)
   have hbl : xNM (xAa N (d + 1)).c_spec_l11Args := fun p s hp => xRL (q0 := (xAa N d).c_spec_l11Args) (q1 := (xAa N d).c_spec_l11Atom) (q2 := (xAa N d).c_spec_l11Compare) (q3 := (xAa N d).c_spec_l11Expr) (q4 := (xAa N d).c_spec_l11Product) (q5 := (xAa N d).c_spec_l11Sum) (by omega) s hp
   have a : FRs T L (n + 1) (xJ1 (pE n) (n + 1)) (xAa N (d + 2)).c_spec_l11Atom := xRs (q0 := (xAa N (d + 1)).c_spec_l11Args) (q1 := (xAa N (d + 1)).c_spec_l11Atom) (q2 := (xAa N (d + 1)).c_spec_l11Compare) (q3 := (xAa N (d + 1)).c_spec_l11Expr) (q4 := (xAa N (d + 1)).c_spec_l11Product) (q5 := (xAa N (d + 1)).c_spec_l11Sum) hW hT hN (by omega) hK (xFr n) f2 b2 hl hbl
   have ba : xF6 (xAa N (d + 2)).c_spec_l11Atom := fun p hp => xNB (q0 := (xAa N (d + 1)).c_spec_l11Args) (q1 := (xAa N (d + 1)).c_spec_l11Atom) (q2 := (xAa N (d + 1)).c_spec_l11Compare) (q3 := (xAa N (d + 1)).c_spec_l11Expr) (q4 := (xAa N (d + 1)).c_spec_l11Product) (q5 := (xAa N (d + 1)).c_spec_l11Sum) hp
   have p : FRs T L (n + 1) (xLV (xJ1 (pE n) (n + 1)) (n + 1)) (xAa N (d + 3)).c_spec_l11Product := xRz (q0 := (xAa N (d + 2)).c_spec_l11Args) (q1 := (xAa N (d + 2)).c_spec_l11Atom) (q2 := (xAa N (d + 2)).c_spec_l11Compare) (q3 := (xAa N (d + 2)).c_spec_l11Expr) (q4 := (xAa N (d + 2)).c_spec_l11Product) (q5 := (xAa N (d + 2)).c_spec_l11Sum) hW hT hN2 (xHE (xFr n) _) a ba (Nat.le_refl _)
   have bp : xF6 (xAa N (d + 3)).c_spec_l11Product := xNJ (q0 := (xAa N (d + 2)).c_spec_l11Args) (q1 := (xAa N (d + 2)).c_spec_l11Atom) (q2 := (xAa N (d + 2)).c_spec_l11Compare) (q3 := (xAa N (d + 2)).c_spec_l11Expr) (q4 := (xAa N (d + 2)).c_spec_l11Product) (q5 := (xAa N (d + 2)).c_spec_l11Sum) (by omega) ba
   have s : FRs T L (n + 1) (xNx (pE n) (n + 1)) (xAa N (d + 4)).c_spec_l11Sum := xVp (q0 := (xAa N (d + 3)).c_spec_l11Args) (q1 := (xAa N (d + 3)).c_spec_l11Atom) (q2 := (xAa N (d + 3)).c_spec_l11Compare) (q3 := (xAa N (d + 3)).c_spec_l11Expr) (q4 := (xAa N (d + 3)).c_spec_l11Product) (q5 := (xAa N (d + 3)).c_spec_l11Sum) hW hT hN2 (xJ2 (xHE (xFr n) _) _) p bp (Nat.le_refl _)
   have bs : xF6 (xAa N (d + 4)).c_spec_l11Sum := xPi (q0 := (xAa N (d + 3)).c_spec_l11Args) (q1 := (xAa N (d + 3)).c_spec_l11Atom) (q2 := (xAa N (d + 3)).c_spec_l11Compare) (q3 := (xAa N (d + 3)).c_spec_l11Expr) (q4 := (xAa N (d + 3)).c_spec_l11Product) (q5 := (xAa N (d + 3)).c_spec_l11Sum) (by omega) bp
   have c : FRs T L (n + 1) (pCmp (xNx (pE n) (n + 1))) (xAa N (d + 5)).c_spec_l11Compare := xVm (q0 := (xAa N (d + 4)).c_spec_l11Args) (q1 := (xAa N (d + 4)).c_spec_l11Atom) (q2 := (xAa N (d + 4)).c_spec_l11Compare) (q3 := (xAa N (d + 4)).c_spec_l11Expr) (q4 := (xAa N (d + 4)).c_spec_l11Product) (q5 := (xAa N (d + 4)).c_spec_l11Sum) hW hT (xJ3 (xFr n) _) s bs
   exact xPK (q0 := (xAa N (d + 5)).c_spec_l11Args) (q1 := (xAa N (d + 5)).c_spec_l11Atom) (q2 := (xAa N (d + 5)).c_spec_l11Compare) (q3 := (xAa N (d + 5)).c_spec_l11Expr) (q4 := (xAa N (d + 5)).c_spec_l11Product) (q5 := (xAa N (d + 5)).c_spec_l11Sum) hW hT hN (by omega) hK (xFr n) f5 b5 c
end Go.Ab
end
section
namespace Go.Ab
def xHQ (c : UInt8) : Bool := decide (97 ≤ c.toNat) && decide (c.toNat ≤ 122)
def xCp (c : UInt8) : Bool := decide (48 ≤ c.toNat) && decide (c.toNat ≤ 57)
def isWd (c : UInt8) : Bool := xHQ c || xCp c
def notQ (c : UInt8) : Bool := !(c.toNat == 34)
def xKY (c : UInt8) : Bool := decide (Lib.indexByte [40, 41, 91, 93, 44, 43, 45, 42, 60, 61] c ≥ 0)
def xHz (p : Int) : Str → Option (Tok × Str)
 | [] => none
 | c :: l =>
   bif xHQ c then (bif decide ((c :: l).length - ((c :: l).dropWhile isWd).length ≤ 8) then some (⟨1, 0, p, (c :: l).take ((c :: l).length - ((c :: l).dropWhile isWd).length)⟩, (c :: l).dropWhile isWd) else none)
   else bif xCp c then (bif (zHF ((c :: l).take ((c :: l).length - ((c :: l).dropWhile xCp).length)) 0 1000000000).2 then some (⟨2, (zHF ((c :: l).take ((c :: l).length - ((c :: l).dropWhile xCp).length)) 0 1000000000).1, p, []⟩, (c :: l).dropWhile xCp) else none)
   else bif c.toNat == 34 then (match l.dropWhile notQ with
    | [] => none
    | q :: r => bif xJx (l.take (l.length - (q :: r).length)) then some (⟨3, 0, p, l.take (l.length - (q :: r).length)⟩, r) else none)
   else bif Lib.hasPrefix (c :: l) [61, 61] then some (⟨4, 0, p, [61, 61]⟩, l.tail)
   else bif xKY c then some (⟨4, 0, p, [c]⟩, l) else none
theorem xDV (p : Int) (c : UInt8) (l : Str) : xHz p (c :: l) =
 bif xHQ c then (bif decide ((c :: l).length - ((c :: l).dropWhile isWd).length ≤ 8) then some (⟨1, 0, p, (c :: l).take ((c :: l).length - ((c :: l).dropWhile isWd).length)⟩, (c :: l).dropWhile isWd) else none)
 else bif xCp c then (bif (zHF ((c :: l).take ((c :: l).length - ((c :: l).dropWhile xCp).length)) 0 1000000000).2 then some (⟨2, (zHF ((c :: l).take ((c :: l).length - ((c :: l).dropWhile xCp).length)) 0 1000000000).1, p, []⟩, (c :: l).dropWhile xCp) else none)
 else bif c.toNat == 34 then (match l.dropWhile notQ with
  | [] => none
  | q :: r => bif xJx (l.take (l.length - (q :: r).length)) then some (⟨3, 0, p, l.take (l.length - (q :: r).length)⟩, r) else none)
 else bif Lib.hasPrefix (c :: l) [61, 61] then some (⟨4, 0, p, [61, 61]⟩, l.tail)
 else bif xKY c then some (⟨4, 0, p, [c]⟩, l) else none := rfl
def lexL : Nat → Int → List Tok → Str → List Tok × Int
 | 0, p, _, _ => ([], p)
 | _ + 1, _, acc, [] => (acc, -1)
 | n + 1, p, acc, c :: l => bif c.toNat == 32 then lexL n (p + 1) acc l else match xHz p (c :: l) with
   | none => ([], p)
   | some (t, r) => bif acc.length == 60 then ([], p) else lexL n (p + ((c :: l).length - r.length : Nat)) (acc ++ [t]) r
def lex (s : Str) : List Tok × Int := bif decide (s.length > 120) then ([], 120) else lexL (s.length + 1) 0 [] s
theorem xRS (x : UInt8) : decide (((x.toNat : Int) : Int) ≥ 97) = decide (97 ≤ x.toNat) := decide_eq_decide.2 (by omega)
theorem xOJ (x : UInt8) : decide (((x.toNat : Int) : Int) ≤ 122) = decide (x.toNat ≤ 122) := decide_eq_decide.2 (by omega)
theorem xPq (x : UInt8) : decide (((x.toNat : Int) : Int) ≥ 48) = decide (48 ≤ x.toNat) := decide_eq_decide.2 (by omega)
theorem xPr (x : UInt8) : decide (((x.toNat : Int) : Int) ≤ 57) = decide (x.toNat ≤ 57) := decide_eq_decide.2 (by omega)
theorem beqI (x k : Nat) : ((x : Int) == (k : Int)) = (x == k) := by
 by_cases h : x = k
 · rw [h]; simp
 · rw [beq_eq_false_iff_ne.2 h, beq_eq_false_iff_ne.2 (by omega)]
theorem xVM (x : UInt8) : (((x.toNat : Int) : Int) == 34) = (x.toNat == 34) := beqI x.toNat 34
theorem vAM (x : UInt8) : (((x.toNat : Int) : Int) == 32) = (x.toNat == 32) := beqI x.toNat 32
theorem xEm {p : UInt8 → Bool} (l : Str) : (l.dropWhile p).length ≤ l.length := (List.dropWhile_suffix p).length_le
theorem xFD {S : Str} {i : Nat} {x : UInt8} {l : Str} (h : S.drop i = x :: l) : S.length - (x :: l).length = i ∧ i + (x :: l).length = S.length := by
 have := congrArg List.length h
 obtain ⟨h1, _⟩ := xDN h
 rw [List.length_drop] at this
 omega
theorem xJw {S s : Str} {i : Nat} (h : S.drop i = s) (hi : i ≤ S.length) {k : Nat} (hk : k ≤ s.length) : List.drop i (List.take (S.length - k) S) = s.take (s.length - k) := by
 subst h
 rw [List.drop_take, List.length_drop, show S.length - k - i = S.length - i - k from by omega]
section
variable {N : Nat} {S : Str}
theorem xRK (hS : S.length ≤ 1000) {i : Nat} (b4 : Tok) : ∀ n j, i ≤ j → j ≤ S.length → S.length < n + j → xCF N n S i (j : Nat) b4 =
 some (Tok.mk 1 0 i (List.drop i (List.take (S.length - ((S.drop j).dropWhile isWd).length) S)), ((S.length - ((S.drop j).dropWhile isWd).length : Nat) : Int), decide (S.length - ((S.drop j).dropWhile isWd).length - i ≤ 8)) := by
 intro n j hij hj hn
 refine xGm (σ := Unit) (L := fun n j _ => xCF N n S i j b4) S (fun l _ => (Tok.mk 1 0 i (List.drop i (List.take (S.length - (l.dropWhile isWd).length) S)), ((S.length - (l.dropWhile isWd).length : Nat) : Int), decide (S.length - (l.dropWhile isWd).length - i ≤ 8)))
  (fun j _ => i ≤ j) (fun n _ hi => ?_) (fun j x l _ hd hj hx hi => ?_) n j () hij hj hn
 · have hi : i ≤ S.length := hi
   simp only [xCF, Int.lt_irrefl, decide_false, jF]
   rw [if_pos (by omega)]
   have e1 : IntKind.i64.wrap ((S.length : Int) - (i : Int)) = (S.length : Int) - i := xBh (by omega) (by omega)
   simp only [e1, List.dropWhile_nil, jN, Nat.sub_zero, Int.toNat_natCast]
   rw [decide_eq_decide.2 (by omega : (S.length : Int) - i ≤ 8 ↔ S.length - i ≤ 8)]
   rfl
 · have hi : i ≤ j := hi
   have hj' : (j : Int) < (S.length : Int) := by omega
   have hj2 : (0 : Int) ≤ (j : Int) ∧ (j : Int) < (S.length : Int) := ⟨by omega, hj'⟩
   have hj3 : (0 : Int) ≤ (i : Int) ∧ (i : Int) ≤ (j : Int) ∧ (j : Int) ≤ (S.length : Int) := by omega
   have e1 : IntKind.i64.wrap ((j : Int) - (i : Int)) = (j : Int) - i := xBh (by omega) (by omega)
   cases hw : isWd x
   · refine .inr fun n => ?_
     have e2 : (x :: l).dropWhile isWd = x :: l := by rw [List.dropWhile_cons]; simp [hw]
     have e3 := (xFD hd).1
     have e4 : decide ((j : Int) - i ≤ 8) = decide (j - i ≤ 8) := decide_eq_decide.2 (by omega)
     simp only [xCF, decide_eq_true hj', jT, if_pos hj2, if_pos hj3, Int.toNat_natCast, xCw hx, xRS, xOJ, xPq, xPr, e1, e2, e3, e4]
     unfold isWd xHQ xCp at hw
     revert hw
     cases decide (97 ≤ x.toNat) <;> cases decide (x.toNat ≤ 122) <;> cases decide (48 ≤ x.toNat) <;> cases decide (x.toNat ≤ 57) <;> intro hw <;> first | rfl | (simp at hw; done)
   · refine .inl ⟨(), by omega, ?_, fun n => ?_⟩
     · have e2 : (x :: l).dropWhile isWd = l.dropWhile isWd := by rw [List.dropWhile_cons]; simp [hw]
       rw [e2]
     · simp only [xCF, decide_eq_true hj', jT, if_pos hj2, if_pos hj3, Int.toNat_natCast, xCw hx, xRS, xOJ, xPq, xPr, xBy hj (by omega : S.length ≤ _)]
       unfold isWd xHQ xCp at hw
       revert hw
       cases decide (97 ≤ x.toNat) <;> cases decide (x.toNat ≤ 122) <;> cases decide (48 ≤ x.toNat) <;> cases decide (x.toNat ≤ 57) <;> intro hw <;> first | rfl | (simp at hw; done)
theorem xNy {w : Str} (h : w.length ≤ 1000) : xHp N w 0 1000000000 = some (zHF w 0 1000000000) := by
 unfold xHp zEo
 rw [if_pos (by omega)]
def numG (S : Str) (i : Nat) (l : Str) : Int × Bool := zHF (List.drop i (List.take (S.length - (l.dropWhile xCp).length) S)) 0 1000000000
theorem xR7 (hS : S.length ≤ 1000) {i : Nat} (b4 : Tok) : ∀ n j, i ≤ j → j ≤ S.length → S.length < n + j → xC5 N n S i (j : Nat) b4 =
 some (Tok.mk 2 (numG S i (S.drop j)).1 i [], ((S.length - ((S.drop j).dropWhile xCp).length : Nat) : Int), (numG S i (S.drop j)).2) := by
 intro n j hij hj hn
 refine xGm (σ := Unit) (L := fun n j _ => xC5 N n S i j b4) S (fun l _ => (Tok.mk 2 (numG S i l).1 i [], ((S.length - (l.dropWhile xCp).length : Nat) : Int), (numG S i l).2))
  (fun j _ => i ≤ j) (fun n _ hi => ?_) (fun j x l _ hd hj hx hi => ?_) n j () hij hj hn
 · have hi : i ≤ S.length := hi
   simp only [xC5, Int.lt_irrefl, decide_false, jF]
   rw [if_pos (by omega)]
   simp only [Int.toNat_natCast]
   rw [xNy (by rw [List.length_drop, List.length_take]; omega)]
   simp only [jS, numG, List.dropWhile_nil, jN, Nat.sub_zero]
 · have hi : i ≤ j := hi
   have hj' : (j : Int) < (S.length : Int) := by omega
   have hj2 : (0 : Int) ≤ (j : Int) ∧ (j : Int) < (S.length : Int) := ⟨by omega, hj'⟩
   have hj3 : (0 : Int) ≤ (i : Int) ∧ (i : Int) ≤ (j : Int) ∧ (j : Int) ≤ (S.length : Int) := by omega
   cases hw : xCp x
   · refine .inr fun n => ?_
     have e2 : (x :: l).dropWhile xCp = x :: l := by rw [List.dropWhile_cons]; simp [hw]
     have e3 := (xFD hd).1
     simp only [xC5, decide_eq_true hj', jT, if_pos hj2, if_pos hj3, Int.toNat_natCast, xCw hx, xPq, xPr, numG, e2, e3]
     rw [xNy (by rw [List.length_drop, List.length_take]; omega)]
     simp only [jS]
     unfold xCp at hw
     revert hw
     cases decide (48 ≤ x.toNat) <;> cases decide (x.toNat ≤ 57) <;> intro hw <;> first | rfl | (simp at hw; done)
   · refine .inl ⟨(), by omega, ?_, fun n => ?_⟩
     · have e2 : (x :: l).dropWhile xCp = l.dropWhile xCp := by rw [List.dropWhile_cons]; simp [hw]
       simp only [numG, e2]
     · simp only [xC5, decide_eq_true hj', jT, if_pos hj2, if_pos hj3, Int.toNat_natCast, xCw hx, xPq, xPr, xBy hj (by omega : S.length ≤ _)]
       unfold xCp at hw
       revert hw
       cases decide (48 ≤ x.toNat) <;> cases decide (x.toNat ≤ 57) <;> intro hw <;> first | rfl | (simp at hw; done)
theorem xNa (c : UInt8) (k : UInt8) : (c == k) = (c.toNat == k.toNat) := by
 by_cases h : c = k
 · subst h; simp
 · rw [beq_eq_false_iff_ne.2 h, beq_eq_false_iff_ne.2 (fun e => h (UInt8.toNat_inj.1 e))]
theorem xP8 : ∀ l : Str, Lib.indexByte l 34 = (match l.dropWhile notQ with
 | [] => -1
 | q :: r => ((l.length - (q :: r).length : Nat) : Int))
 | [] => rfl
 | x :: l => by
   have ih := xP8 l
   unfold Lib.indexByte
   rw [xNa x 34, List.dropWhile_cons]
   unfold notQ at ih ⊢
   show (if (x.toNat == 34) = true then _ else _) = _
   cases h : x.toNat == 34
   · simp only [Bool.not_false, if_true]
     have hd := xEm (p := fun c => !(c.toNat == 34)) l
     cases he : List.dropWhile (fun c => !(c.toNat == 34)) l with
     | nil => rw [he] at ih; simp only at ih; rw [ih]; rfl
     | cons q r =>
       rw [he] at ih hd
       simp only at ih
       simp only [jC] at hd ih ⊢
       rw [ih]
       have e : (((l.length - (r.length + 1) : Nat) : Int) == -1) = false := beq_eq_false_iff_ne.2 (by omega)
       rw [e]
       simp only [Bool.false_eq_true, if_false]
       omega
   · simp
def LxP (S : Str) (o : Option (Tok × Str)) (x : Tok × Int × Bool) : Prop := match o with
 | some (t, r) => x = (t, ((S.length - r.length : Nat) : Int), true)
 | none => x.2.2 = false
theorem xVk (hS : S.length ≤ 1000) (hN : 1000 < N) {i : Nat} {c : UInt8} {l : Str} (hd : S.drop i = c :: l) (h34 : (c.toNat == 34) = true) (hL : xHQ c = false) (hD : xCp c = false) : ∃ x, (
         if (0 : Int) ≤ (IntKind.i64.wrap ((i : Int) + 1)) ∧ (IntKind.i64.wrap ((i : Int) + 1)) ≤ (List.length S) then
         Option.bind (strings_IndexByte N (List.drop (Int.toNat (IntKind.i64.wrap ((i : Int) + 1))) S) 34) fun r1 =>
         bif (decide ((r1 : Int) < 0)) then (
          some ((Tok.mk 0 0 0 []), 0, false)
         ) else (
           if (0 : Int) ≤ (IntKind.i64.wrap ((i : Int) + 1)) ∧ (IntKind.i64.wrap ((i : Int) + 1)) ≤ (IntKind.i64.wrap ((IntKind.i64.wrap ((i : Int) + 1)) + r1)) ∧ (IntKind.i64.wrap ((IntKind.i64.wrap ((i : Int) + 1)) + r1)) ≤ (List.length S) then
           Option.bind (xDf N (List.drop (Int.toNat (IntKind.i64.wrap ((i : Int) + 1))) (List.take (Int.toNat (IntKind.i64.wrap ((IntKind.i64.wrap ((i : Int) + 1)) + r1))) S))) fun r2 =>
           some ((Tok.mk 3 0 i (List.drop (Int.toNat (IntKind.i64.wrap ((i : Int) + 1))) (List.take (Int.toNat (IntKind.i64.wrap ((IntKind.i64.wrap ((i : Int) + 1)) + r1))) S))), (IntKind.i64.wrap ((IntKind.i64.wrap ((i : Int) + r1)) + 2)), r2)
           else none
         )
         else none) = some x ∧ LxP S (xHz i (c :: l)) x := by
 obtain ⟨e1, e2⟩ := xFD hd
 obtain ⟨hi, _, hd1⟩ := xDN hd
 simp only [jC] at e2
 have w1 : IntKind.i64.wrap ((i : Int) + 1) = ((i + 1 : Nat) : Int) := xBy hi (by omega)
 simp only [w1, Int.toNat_natCast, hd1]
 rw [if_pos (by omega)]
 unfold strings_IndexByte zFH
 rw [show ((34 : Int).toNat.toUInt8) = 34 from rfl, xP8, jS]
 rw [xDV, hL, hD, h34]
 simp only [jF, jT]
 have hq := xEm (p := notQ) l
 cases he : l.dropWhile notQ with
 | nil => exact ⟨_, rfl, rfl⟩
 | cons q r =>
   rw [he] at hq
   simp only [jC] at hq ⊢
   have w2 : IntKind.i64.wrap (((i + 1 : Nat) : Int) + ((l.length - (r.length + 1) : Nat) : Int)) = ((i + 1 + (l.length - (r.length + 1)) : Nat) : Int) := by rw [xBh (by omega) (by omega)]; omega
   have w3 : IntKind.i64.wrap ((i : Int) + ((l.length - (r.length + 1) : Nat) : Int)) = ((i + (l.length - (r.length + 1)) : Nat) : Int) := by rw [xBh (by omega) (by omega)]; omega
   have w4 : IntKind.i64.wrap (((i + (l.length - (r.length + 1)) : Nat) : Int) + 2) = ((S.length - r.length : Nat) : Int) := by rw [xBh (by omega) (by omega)]; omega
   have w5 : List.drop (i + 1) (List.take (i + 1 + (l.length - (r.length + 1))) S) = l.take (l.length - (r.length + 1)) := by
    rw [List.drop_take, hd1, show i + 1 + (l.length - (r.length + 1)) - (i + 1) = l.length - (r.length + 1) from by omega]
   rw [decide_eq_false (by omega), jF]
   simp only [w2, w3, w4, Int.toNat_natCast, w5]
   rw [if_pos (by omega)]
   have ht : (l.take (l.length - (r.length + 1))).length ≤ 1000 := by rw [List.length_take]; omega
   rw [xHt (N := N) (s := l.take (l.length - (r.length + 1))) (by omega) (by omega), jS]
   refine ⟨_, rfl, ?_⟩
   cases xJx (l.take (l.length - (r.length + 1)))
   · rfl
   · rfl
theorem vBN (hS : S.length ≤ 1000) (hN : 1000 < N) {i : Nat} {c : UInt8} {l : Str} (hd : S.drop i = c :: l) (h34 : (c.toNat == 34) = false) (hL : xHQ c = false) (hD : xCp c = false) : ∃ x, (
         if (0 : Int) ≤ (i : Int) ∧ (i : Int) ≤ (List.length S) then
         Option.bind (strings_HasPrefix N (List.drop (Int.toNat (i : Int)) S) [61, 61]) fun r1 =>
         bif r1 then (
          some ((Tok.mk 4 0 i [61, 61]), (IntKind.i64.wrap ((i : Int) + 2)), true)
         ) else (
           if (0 : Int) ≤ (i : Int) ∧ (i : Int) ≤ (IntKind.i64.wrap ((i : Int) + 1)) ∧ (IntKind.i64.wrap ((i : Int) + 1)) ≤ (List.length S) then
           Option.bind (strings_IndexByte N [40, 41, 91, 93, 44, 43, 45, 42, 60, 61] ((List.getD S (Int.toNat (i : Int)) 0).toNat : Int)) fun r2 =>
           some ((Tok.mk 4 0 i (List.drop (Int.toNat (i : Int)) (List.take (Int.toNat (IntKind.i64.wrap ((i : Int) + 1))) S))), (IntKind.i64.wrap ((i : Int) + 1)), (decide ((r2 : Int) ≥ 0)))
           else none
         )
         else none) = some x ∧ LxP S (xHz i (c :: l)) x := by
 obtain ⟨e1, e2⟩ := xFD hd
 obtain ⟨hi, hx, hd1⟩ := xDN hd
 simp only [jC] at e2
 have w1 : IntKind.i64.wrap ((i : Int) + 1) = ((i + 1 : Nat) : Int) := xBy hi (by omega)
 simp only [w1, Int.toNat_natCast, hd, xCw hx]
 rw [if_pos (by omega)]
 unfold strings_HasPrefix zFG
 rw [jS, xDV, hL, hD, h34]
 simp only [jF]
 cases hp : Lib.hasPrefix (c :: l) [61, 61]
 · simp only [jF]
   rw [if_pos (by omega)]
   unfold strings_IndexByte zFH
   rw [jS]
   have ec : ((c.toNat : Int)).toNat.toUInt8 = c := by simp
   have w5 : List.drop i (List.take (i + 1) S) = [c] := by
    rw [List.drop_take, hd, show i + 1 - i = 1 from by omega]; rfl
   rw [ec, w5]
   refine ⟨_, rfl, ?_⟩
   unfold xKY
   cases decide (Lib.indexByte [40, 41, 91, 93, 44, 43, 45, 42, 60, 61] c ≥ 0)
   · rfl
   · show (_, _, _) = (_, _, _)
     rw [show i + 1 = S.length - l.length from by omega]
 · simp only [jT]
   refine ⟨_, rfl, ?_⟩
   have h2 : l.tail.length + 1 = l.length := by
    cases l with
    | nil => simp [Lib.hasPrefix, List.isPrefixOf] at hp
    | cons a b => rfl
   have w2 : IntKind.i64.wrap ((i : Int) + 2) = ((S.length - l.tail.length : Nat) : Int) := by rw [xBh (by omega) (by omega)]; omega
   show (_, _, _) = (_, _, _)
   rw [w2]
theorem xPN (hS : S.length ≤ 1000) (hN : 1000 < N) {i : Nat} {c : UInt8} {l : Str} (hd : S.drop i = c :: l) : ∃ x, xG6 N S i = some x ∧ LxP S (xHz i (c :: l)) x := by
 obtain ⟨e1, e2⟩ := xFD hd
 obtain ⟨hi, hx, hd1⟩ := xDN hd
 have hQ := fun a b e => xVk (N := N) hS hN hd a b e
 have hY := fun a b e => vBN (N := N) hS hN hd a b e
 have word : xHQ c = true → ∃ x, xCF N N S i i (Tok.mk 0 0 0 []) = some x ∧ LxP S (xHz i (c :: l)) x := fun hl => by
  refine ⟨_, xRK hS _ N i (Nat.le_refl _) (by omega) (by omega), ?_⟩
  rw [hd]
  rw [xDV, hl, jT]
  have hq := xEm (p := isWd) (c :: l)
  rw [xJw hd (by omega) hq, show S.length - ((c :: l).dropWhile isWd).length - i = (c :: l).length - ((c :: l).dropWhile isWd).length from by omega]
  cases decide ((c :: l).length - ((c :: l).dropWhile isWd).length ≤ 8) <;> rfl
 have numb : xHQ c = false → xCp c = true → ∃ x, xC5 N N S i i (Tok.mk 0 0 0 []) = some x ∧ LxP S (xHz i (c :: l)) x := fun hl hg => by
  refine ⟨_, xR7 hS _ N i (Nat.le_refl _) (by omega) (by omega), ?_⟩
  have hq := xEm (p := xCp) (c :: l)
  rw [hd]
  unfold numG
  rw [xDV, hl, hg, jT, jF, xJw hd (by omega) hq]
  cases hb : (zHF ((c :: l).take ((c :: l).length - ((c :: l).dropWhile xCp).length)) 0 1000000000).2 <;> rfl
 unfold xG6
 rw [if_pos (by omega)]
 simp only [Int.toNat_natCast, xCw hx, xRS, xOJ, xPq, xPr, xVM] at hQ hY ⊢
 simp only [xHQ, xCp] at hQ hY word numb
 generalize decide (97 ≤ c.toNat) = A at *
 generalize decide (c.toNat ≤ 122) = B at *
 generalize decide (48 ≤ c.toNat) = C at *
 generalize decide (c.toNat ≤ 57) = D at *
 generalize (c.toNat == 34) = E at *
 cases A <;> cases B <;> cases C <;> cases D <;>
  first
  | exact word rfl
  | exact numb rfl rfl
  | (cases E
     · exact hY rfl rfl rfl
     · exact hQ rfl rfl rfl)
theorem xGO {α : Type} {b : Bool} {x y : α} (h : (bif b then some x else none) = some y) : b = true ∧ x = y := by cases b <;> cases h; exact ⟨rfl, rfl⟩
theorem xI1 {p : Int} {s r : Str} {t : Tok} (h : xHz p s = some (t, r)) : r.length < s.length := by
 cases s with
 | nil => cases h
 | cons c l =>
   have d1 := xEm (p := isWd) l
   have d2 := xEm (p := xCp) l
   have d3 := xEm (p := notQ) l
   rw [xDV] at h
   cases h1 : xHQ c <;> rw [h1] at h
   · cases h2 : xCp c <;> rw [h2] at h
     · cases h3 : c.toNat == 34 <;> rw [h3] at h
       · cases h4 : Lib.hasPrefix (c :: l) [61, 61] <;> rw [h4] at h
         · cases h5 : xKY c <;> rw [h5] at h
           · cases h
           · cases h; simp
         · cases h; simp; omega
       · simp only [jT, jF] at h
         split at h
         · cases h
         · rename_i q r' he
           rw [he] at d3
           simp only [jC] at d3 ⊢
           obtain ⟨hb, hx⟩ := xGO h
           cases hx; omega
     · simp only [jT, jF] at h
       obtain ⟨hb, hx⟩ := xGO h
       cases hx
       rw [List.dropWhile_cons]; simp only [h2, if_true, jC]; omega
   · simp only [jT] at h
     obtain ⟨hb, hx⟩ := xGO h
     · cases hx
       have : isWd c = true := by unfold isWd; rw [h1]; rfl
       rw [List.dropWhile_cons]; simp only [this, if_true, jC]; omega
theorem xNl {p : Int} {s r : Str} {t : Tok} (h : xHz p s = some (t, r)) : r <:+ s := by
 cases s with
 | nil => cases h
 | cons c l =>
   rw [xDV] at h
   cases h1 : xHQ c <;> rw [h1] at h
   · cases h2 : xCp c <;> rw [h2] at h
     · cases h3 : c.toNat == 34 <;> rw [h3] at h
       · cases h4 : Lib.hasPrefix (c :: l) [61, 61] <;> rw [h4] at h
         · cases h5 : xKY c <;> rw [h5] at h
           · cases h
           · cases h; exact List.suffix_cons _ _
         · cases h; exact (List.tail_suffix _).trans (List.suffix_cons _ _)
       · simp only [jT, jF] at h
         split at h
         · cases h
         · rename_i q r' he
           have hs : q :: r' <:+ l := by rw [← he]; exact List.dropWhile_suffix _
           obtain ⟨hb, hx⟩ := xGO h
           cases hx; exact ((List.suffix_cons _ _).trans hs).trans (List.suffix_cons _ _)
     · simp only [jT, jF] at h
       obtain ⟨hb, hx⟩ := xGO h
       cases hx
       exact List.dropWhile_suffix _
   · simp only [jT] at h
     obtain ⟨hb, hx⟩ := xGO h
     cases hx
     exact List.dropWhile_suffix _
theorem xOK {r : Str} (h : r <:+ S) : S.drop (S.length - r.length) = r := by
 obtain ⟨a, rfl⟩ := h
 rw [jA, show a.length + r.length - r.length = a.length from by omega, List.drop_left]
theorem vAJ (hS : S.length ≤ 120) (hN : 1000 < N) : ∀ (m n i : Nat) (acc : List Tok), i ≤ S.length → S.length - i < m → S.length - i < n → acc.length ≤ 60 → xEh N n S acc (i : Nat) = some (lexL m (i : Nat) acc (S.drop i)) := by
 intro m
 induction m with
 | zero => intro n i acc _ h; omega
 | succ m ih =>
   intro n i acc hi hm hn ha
   obtain ⟨n, rfl⟩ : ∃ k, n = k + 1 := ⟨n - 1, by omega⟩
   cases hd : S.drop i with
   | nil =>
     have := xHR hd
     obtain rfl : i = S.length := by omega
     simp only [xEh, Int.lt_irrefl, decide_false, jF, lexL]
   | cons c l =>
     obtain ⟨h1, hx, hd1⟩ := xDN hd
     have hi' : (i : Int) < (S.length : Int) := by omega
     simp only [xEh, decide_eq_true hi', jT, Int.toNat_natCast, xCw hx, vAM, lexL, xBy h1 (by omega : S.length ≤ _)]
     rw [if_pos (by omega)]
     cases h32 : c.toNat == 32
     · simp only [jF]
       obtain ⟨x, hx1, hx2⟩ := xPN (N := N) (S := S) (by omega) hN hd
       rw [hx1, jS]
       cases ho : xHz i (c :: l) with
       | none =>
         rw [ho] at hx2
         have hx2 : x.2.2 = false := hx2
         simp only [hx2, Bool.not_false, jT]
       | some z =>
         obtain ⟨t, r⟩ := z
         rw [ho] at hx2
         have hx2 : x = (t, ((S.length - r.length : Nat) : Int), true) := hx2
         subst hx2
         have hl := xI1 ho
         have hs : r <:+ S := by
          have : c :: l <:+ S := by rw [← hd]; exact List.drop_suffix _ _
          exact (xNl ho).trans this
         have hrl := hs.length_le
         obtain ⟨g1, g2⟩ := xFD hd
         simp only [Bool.not_true, jF]
         have e60 : (((acc.length : Int) : Int) == 60) = (acc.length == 60) := beqI acc.length 60
         rw [e60]
         cases h60 : acc.length == 60
         · have h60 : acc.length ≠ 60 := beq_eq_false_iff_ne.1 h60
           simp only [jF]
           rw [if_pos (by simp only [jC, jN]; unfold Lim; omega)]
           rw [ih n (S.length - r.length) (acc ++ [t]) (by omega) (by omega) (by omega) (by simp only [jA, jC, jN]; omega), xOK hs]
           rw [show ((S.length - r.length : Nat) : Int) = (i : Int) + ((c :: l).length - r.length : Nat) from by omega]
         · rfl
     · simp only [jT]
       rw [ih n (i + 1) acc (by omega) (by omega) (by omega) ha, hd1]
       rfl
theorem xLd (hN : 1000 < N) (s : Str) : xF0 N s = some (lex s) := by
 unfold xF0 lex
 have e : decide (((s.length : Int) : Int) > 120) = decide (s.length > 120) := decide_eq_decide.2 (by omega)
 rw [e]
 cases h : decide (s.length > 120)
 · have h := of_decide_eq_false h
   simp only [jF]
   exact vAJ (S := s) (by omega) hN (s.length + 1) N 0 [] (by omega) (by omega) (by omega) (by simp)
 · rfl
end
end Go.Ab
end
section
namespace Go.Ab
def valD (acc : Nat) : Str → Nat
 | [] => acc
 | c :: r => valD (acc * 10 + (c.toNat - 48)) r
theorem xOD : ∀ (l : Str) (acc : Nat), acc ≤ valD acc l
 | [], acc => Nat.le_refl _
 | c :: r, acc => Nat.le_trans (by omega) (xOD r _)
theorem xL3 : ∀ (a b : Str) (acc : Nat), valD acc (a ++ b) = valD (valD acc a) b
 | [], b, acc => rfl
 | c :: r, b, acc => xL3 r b _
theorem xHy {c : UInt8} : xCp c = true ↔ 48 ≤ c.toNat ∧ c.toNat ≤ 57 := by unfold xCp; rw [Bool.and_eq_true, decide_eq_true_eq, decide_eq_true_eq]
theorem xPd : ∀ (l : Str) (acc : Nat), l.all xCp = true → valD acc l < 1844674407370955162 → Lib.parseUint10 acc l = .ok (valD acc l)
 | [], acc, _, _ => rfl
 | c :: r, acc, hl, hv => by
   rw [List.all_cons, Bool.and_eq_true] at hl
   have hc := xHy.1 hl.1
   have h1 := xOD r (acc * 10 + (c.toNat - 48))
   have hv' : valD (acc * 10 + (c.toNat - 48)) r < 1844674407370955162 := hv
   show (if 48 ≤ c.toNat ∧ c.toNat ≤ 57 then _ else _) = _
   rw [if_pos hc, if_neg (by omega), if_neg (by omega)]
   exact xPd r _ hl.2 hv'
theorem xRT (k : Nat) (h : k < 10) : (UInt8.ofNat (48 + k)).toNat = 48 + k := by
 rw [UInt8.toNat_ofNat']; omega
theorem xRR : ∀ n : Nat, (dd n).all xCp = true ∧ valD 0 (dd n) = n := by
 intro n
 induction n using Nat.strongRecOn with
 | _ n ih =>
   by_cases h : n = 0
   · subst h; exact ⟨rfl, rfl⟩
   · obtain ⟨h1, h2⟩ := ih (n / 10) (by omega)
     have hd := xRT (n % 10) (by omega)
     rw [xNP h, List.all_append, h1, xL3, h2]
     refine ⟨?_, ?_⟩
     · simp only [List.all_cons, List.all_nil, Bool.and_true, Bool.true_and]
       exact xHy.2 (by omega)
     · show n / 10 * 10 + ((UInt8.ofNat (48 + n % 10)).toNat - 48) = n
       rw [hd]; omega
theorem xMj {v : Nat} (h : v ≤ 1000000000) : (Lib.itoa v).all xCp = true ∧ valD 0 (Lib.itoa v) = v ∧ (Lib.itoa v).length ≤ 10 ∧ Lib.itoa v ≠ [] := by
 by_cases h0 : v = 0
 · subst h0
   have e : Lib.itoa ((0 : Nat) : Int) = [48] := by
    show Lib.decDigits 0 = [48]
    rw [Lib.decDigits, dif_pos (by omega)]; rfl
   rw [e]; exact ⟨rfl, rfl, by decide, by decide⟩
 · have e : Lib.itoa (v : Int) = dd v := by
    rw [xNV (by omega), decide_eq_false (by omega)]; rfl
   obtain ⟨h1, h2⟩ := xRR v
   rw [e]
   refine ⟨h1, h2, xVw 10 v (by omega), fun he => ?_⟩
   rw [he] at h2
   exact h0 h2.symm
theorem xRO {w : Str} (h1 : w.all xCp = true) (h2 : w ≠ []) (h3 : valD 0 w < 1844674407370955162) : Lib.atoiAll w = .ok (valD 0 w) := by
 cases w with
 | nil => exact absurd rfl h2
 | cons c r =>
   have hc := h1
   rw [List.all_cons, Bool.and_eq_true] at hc
   have hc := xHy.1 hc.1
   unfold Lib.atoiAll
   have e1 : ¬ (c.toNat = 43 ∨ c.toNat = 45) := by omega
   have e2 : ¬ c.toNat = 45 := by omega
   simp only [if_neg e1]
   unfold Lib.parseMag
   rw [if_neg h2, xPd _ 0 h1 h3]
   simp only [e2, not_false_eq_true, true_and, false_and, if_false]
   rw [if_neg (by omega)]
theorem xKC {v : Nat} (h : v ≤ 1000000000) : zHF (Lib.itoa v) 0 1000000000 = ((v : Int), true) := by
 obtain ⟨h1, h2, h3, h4⟩ := xMj h
 unfold zHF
 rw [xRO h1 h4 (by rw [h2]; omega), h2]
 simp only
 rw [if_neg (by omega), if_neg (by omega)]
 first
 | exact if_pos rfl
 | exact if_pos trivial
theorem xNo {w : Str} (h : (zHF w 0 1000000000).2 = true) : ∃ v : Nat, v ≤ 1000000000 ∧ w = Lib.itoa v := by
 unfold zHF at h
 split at h
 · rename_i v hv
   split at h
   · cases h
   · split at h
     · cases h
     · split at h
       · rename_i h1 h2 h3
         exact ⟨v.toNat, by omega, by rw [show ((v.toNat : Nat) : Int) = v from by omega, h3]⟩
       · cases h
 · cases h
section
variable {N : Nat}
theorem u8d {c : UInt8} (h : xCp c = true) : IntKind.i64.wrap (IntKind.u8.wrap ((c.toNat : Int) - 48)) = ((c.toNat - 48 : Nat) : Int) := by
 have := xHy.1 h
 rw [xOE (by omega) (by omega), xBh (by omega) (by omega)]; omega
theorem xNA (w : Str) (hw : w.all xCp = true) (hl : w.length ≤ 12) (hN : 100 < N) : ∀ n, w.length < n → xDs N n w false w 0 0 =
 (bif !(Lib.itoa ((valD 0 w : Nat) : Int) == w) then some (0, false) else some (((valD 0 w : Nat) : Int), true)) := by
 intro n hn
 have big : ∀ (l : Str) (acc k : Nat), l.all xCp = true → acc < 10 ^ k → valD acc l < 10 ^ (k + l.length) := by
  intro l
  induction l with
  | nil => intro acc k _ h; exact h
  | cons c r ih =>
    intro acc k hl h
    rw [List.all_cons, Bool.and_eq_true] at hl
    have hc := xHy.1 hl.1
    have := ih (acc * 10 + (c.toNat - 48)) (k + 1) hl.2 (by rw [Nat.pow_succ]; omega)
    show valD (acc * 10 + (c.toNat - 48)) r < _
    rw [jC, show k + (r.length + 1) = k + 1 + r.length from by omega]
    exact this
 have hb := big w 0 0 hw (by decide)
 have hb2 : valD 0 w < 10 ^ 12 := Nat.lt_of_lt_of_le hb (Nat.pow_le_pow_right (by omega) (by omega))
 have e12 : (10 : Nat) ^ 12 = 1000000000000 := by decide
 have key : ∀ n j (acc : Nat), j ≤ w.length → w.length < n + j → valD acc (w.drop j) = valD 0 w → xDs N n w false w (acc : Int) (j : Nat) =
  (bif !(Lib.itoa ((valD 0 w : Nat) : Int) == w) then some (0, false) else some (((valD 0 w : Nat) : Int), true)) := by
  intro n
  induction n with
  | zero => intro j acc h1 h2; omega
  | succ n ih =>
    intro j acc h1 h2 h3
    cases hd : w.drop j with
    | nil =>
      have := xHR hd
      obtain rfl : j = w.length := by omega
      rw [hd] at h3
      have h3 : acc = valD 0 w := h3
      simp only [xDs, Int.lt_irrefl, decide_false, jF]
      rw [xIo hN (by omega), jS, h3]
    | cons c r =>
      obtain ⟨g1, g2, g3⟩ := xDN hd
      have hc : xCp c = true := List.all_eq_true.1 hw c (List.mem_of_getElem? g2)
      have hc' := xHy.1 hc
      rw [hd] at h3
      have h3 : valD (acc * 10 + (c.toNat - 48)) r = valD 0 w := h3
      have h4 := xOD r (acc * 10 + (c.toNat - 48))
      have hj' : (j : Int) < (w.length : Int) := by omega
      have e1 : IntKind.i64.wrap (10 * (acc : Int)) = 10 * (acc : Int) := xBh (by omega) (by omega)
      have e2 : IntKind.i64.wrap (10 * (acc : Int) + ((c.toNat - 48 : Nat) : Int)) = ((acc * 10 + (c.toNat - 48) : Nat) : Int) := by rw [xBh (by omega) (by omega)]; omega
      simp only [xDs, decide_eq_true hj', jT, Int.toNat_natCast, xCw g2, u8d hc, e1, e2, xBy g1 (by omega : w.length ≤ _)]
      rw [if_pos (by omega), decide_eq_false (by omega), jF, decide_eq_false (by omega), jF]
      exact ih (j + 1) _ (by omega) (by omega) (by rw [g3]; exact h3)
 exact key n 0 0 (by omega) (by omega) rfl
theorem xLf {w : Str} (hw : w.all xCp = true) (hne : w ≠ []) (hl : w.length ≤ 1000) (hN : 1000 < N) : ∃ n ok, xFs N w = some (n, ok) ∧
 (ok && !decide (n > 1000000000)) = (zHF w 0 1000000000).2 ∧ ((zHF w 0 1000000000).2 = true → n = (zHF w 0 1000000000).1) := by
 obtain ⟨c, r, rfl⟩ : ∃ c r, w = c :: r := by
  cases w with
  | nil => exact absurd rfl hne
  | cons c r => exact ⟨c, r, rfl⟩
 have hc := hw
 rw [List.all_cons, Bool.and_eq_true] at hc
 have hc' := xHy.1 hc.1
 have hlen : (c :: r).length = r.length + 1 := rfl
 have e45 : (((c.toNat : Int) : Int) == 45) = false := beq_eq_false_iff_ne.2 (by omega)
 have hr : xHN N (c :: r) 12 = (bif decide ((((c :: r).length : Int) : Int) > 12) then some (0, false) else xDs N N (c :: r) false (c :: r) 0 0) := by
  unfold xHN
  rw [decide_eq_true (by omega : (((c :: r).length : Int) : Int) > 0), jT, if_pos (by omega)]
  simp only [Int.toNat_zero, List.getD_cons_zero, e45, jF]
  rw [decide_eq_false (by omega : ¬ (((c :: r).length : Int) : Int) < 1), jF]
 unfold xFs
 rw [hr]
 by_cases hcan : (zHF (c :: r) 0 1000000000).2 = true
 · obtain ⟨v, hv, he⟩ := xNo hcan
   obtain ⟨p1, p2, p3, p4⟩ := xMj hv
   rw [← he] at p2 p3
   rw [decide_eq_false (by omega), jF, xNA _ hw (by omega) (by omega) N (by omega), p2, ← he]
   simp only [beq_self_eq_true, Bool.not_true, jF, jS]
   have hn : zHF (c :: r) 0 1000000000 = ((v : Int), true) := by rw [he]; exact xKC hv
   refine ⟨(v : Int), true, rfl, ?_, fun _ => by rw [hn]⟩
   rw [hn, decide_eq_false (by omega)]; rfl
 · have hcan : (zHF (c :: r) 0 1000000000).2 = false := by simpa using hcan
   rw [hcan]
   cases h12 : decide ((((c :: r).length : Int) : Int) > 12)
   · have h12 := of_decide_eq_false h12
     rw [jF, xNA _ hw (by omega) (by omega) N (by omega)]
     cases hi : Lib.itoa ((valD 0 (c :: r) : Nat) : Int) == c :: r
     · exact ⟨0, false, rfl, rfl, fun h => by cases h⟩
     · have hi := beq_iff_eq.1 hi
       have hbig : ¬ valD 0 (c :: r) ≤ 1000000000 := fun h => by
        have := xKC h
        rw [hi] at this
        rw [this] at hcan
        cases hcan
       exact ⟨_, true, rfl, by rw [decide_eq_true (by omega)]; rfl, fun h => by cases h⟩
   · exact ⟨0, false, rfl, rfl, fun h => by cases h⟩
theorem xLy (c : UInt8) : xF5 N (c.toNat : Int) = some (xHQ c) := by
 unfold xF5 xHQ
 rw [xRS, xOJ]
 cases decide (97 ≤ c.toNat) <;> rfl
theorem xKd (c : UInt8) : xFX N (c.toNat : Int) = some (xCp c) := by
 unfold xFX xCp
 rw [xPq, xPr]
 cases decide (48 ≤ c.toNat) <;> rfl
variable {S : Str}
def xPO (S : Str) (i : Nat) (n6 p6 : Int) (l : Str) (p : UInt8 → Bool) : Tok × Int :=
 bif decide (S.length - (l.dropWhile p).length - i > 8) then (Tok.mk 1 n6 p6 (List.drop i (List.take (S.length - (l.dropWhile p).length) S)), 0) else (Tok.mk 1 n6 p6 (List.drop i (List.take (S.length - (l.dropWhile p).length) S)), ((S.length - (l.dropWhile p).length - i : Nat) : Int))
theorem xPM (hS : S.length ≤ 1000) {i : Nat} (b4 b6 : Tok) : ∀ n j, i ≤ j → j ≤ S.length → S.length < n + j → xD6 N n S i (j : Nat) b4 b6 = some (xPO S i b6.n b6.pos (S.drop j) isWd) := by
 intro n j hij hj hn
 have fin : ∀ j : Nat, i ≤ j → j ≤ S.length → (bif (decide (((IntKind.i64.wrap ((j : Int) - (i : Int))) : Int) > 8)) then (
       some ((Tok.mk 1 (Tok.n b6) (Tok.pos b6) (List.drop i (List.take j S))), (0 : Int))
  ) else (
    some ((Tok.mk 1 (Tok.n b6) (Tok.pos b6) (List.drop i (List.take j S))), (IntKind.i64.wrap ((j : Int) - (i : Int))))
  )) = some (bif decide (j - i > 8) then (Tok.mk 1 b6.n b6.pos (List.drop i (List.take j S)), 0) else (Tok.mk 1 b6.n b6.pos (List.drop i (List.take j S)), ((j - i : Nat) : Int))) := by
  intro j h1 h2
  have e1 : IntKind.i64.wrap ((j : Int) - (i : Int)) = ((j - i : Nat) : Int) := by rw [xBh (by omega) (by omega)]; omega
  rw [e1, decide_eq_decide.2 (by omega : ((j - i : Nat) : Int) > 8 ↔ j - i > 8)]
  cases decide (j - i > 8) <;> rfl
 refine xGm (σ := Unit) (L := fun n j _ => xD6 N n S i j b4 b6) S (fun l _ => xPO S i b6.n b6.pos l isWd)
  (fun j _ => i ≤ j) (fun n _ hi => ?_) (fun j x l _ hd hj hx hi => ?_) n j () hij hj hn
 · have hi : i ≤ S.length := hi
   simp only [xD6, Int.lt_irrefl, decide_false, jF]
   rw [if_pos (by omega)]
   simp only [Int.toNat_natCast, fin _ hi (Nat.le_refl _), xPO, List.dropWhile_nil, jN, Nat.sub_zero]
   rfl
 · have hi : i ≤ j := hi
   have hj' : (j : Int) < (S.length : Int) := by omega
   have hj2 : (0 : Int) ≤ (j : Int) ∧ (j : Int) < (S.length : Int) := ⟨by omega, hj'⟩
   have hj3 : (0 : Int) ≤ (i : Int) ∧ (i : Int) ≤ (j : Int) ∧ (j : Int) ≤ (S.length : Int) := by omega
   cases hw : isWd x
   · refine .inr fun n => ?_
     have e2 : (x :: l).dropWhile isWd = x :: l := by rw [List.dropWhile_cons]; simp [hw]
     have e3 := (xFD hd).1
     unfold isWd at hw
     rw [Bool.or_eq_false_iff] at hw
     simp only [xD6, decide_eq_true hj', jT, jF, if_pos hj2, if_pos hj3, Int.toNat_natCast, xCw hx, xLy, xKd, hw.1, hw.2, jS, fin _ hi (by omega : j ≤ S.length), xPO, e2, e3]
   · refine .inl ⟨(), by omega, ?_, fun n => ?_⟩
     · have e2 : (x :: l).dropWhile isWd = l.dropWhile isWd := by rw [List.dropWhile_cons]; simp [hw]
       simp only [xPO, e2]
     · unfold isWd at hw
       simp only [xD6, decide_eq_true hj', jT, if_pos hj2, Int.toNat_natCast, xCw hx, xLy, xKd, jS, xBy hj (by omega : S.length ≤ _)]
       cases h1 : xHQ x
       · rw [h1, Bool.false_or] at hw
         rw [hw]; rfl
       · rfl
def LxS (s : Str) (o : Option (Tok × Str)) (x : Tok × Int) : Prop := match o with
 | some (t, r) => x = (t, ((s.length - r.length : Nat) : Int))
 | none => x.2 = 0
theorem xHo {p : UInt8 → Bool} {c : UInt8} (l : Str) (h : p c = true) : (c :: l).dropWhile p = l.dropWhile p := by rw [List.dropWhile_cons]; simp [h]
theorem xRw (hS : S.length ≤ 1000) (hN : 1000 < N) {i : Nat} {c : UInt8} {l0 : Str} (hd0 : S.drop i = c :: l0) (hc : xCp c = true) (hL : xHQ c = false) (b4 : Tok) (p6 : Int) (hp : p6 = i) : ∀ n j, i < j → j ≤ S.length → S.length < n + j → (c :: l0).dropWhile xCp = (S.drop j).dropWhile xCp →
 ∃ x, xDD N n S i (j : Nat) b4 (Tok.mk 0 0 p6 []) = some x ∧ LxS (c :: l0) (xHz i (c :: l0)) x := by
 obtain ⟨g1, g2⟩ := xFD hd0
 obtain ⟨gi, gx, gd⟩ := xDN hd0
 have hq := xEm (p := xCp) l0
 have hsame := xHo (p := xCp) l0 hc
 have fin : ∀ j : Nat, i < j → j ≤ S.length → S.length - j = ((c :: l0).dropWhile xCp).length → ∃ x, (Option.bind (xFs N (List.drop i (List.take j S))) fun r2 =>
       bif (!r2.2) then (
        some ((Tok.mk 2 r2.1 p6 []), 0)
       ) else (
         bif (decide ((r2.1 : Int) > 1000000000)) then (
          some ((Tok.mk 2 r2.1 p6 []), 0)
         ) else (
           some ((Tok.mk 2 r2.1 p6 []), (IntKind.i64.wrap ((j : Int) - (i : Int))))
         )
       )) = some x ∧ LxS (c :: l0) (xHz i (c :: l0)) x := by
  intro j h1 h2 h3
  have ew : List.drop i (List.take j S) = (c :: l0).take ((c :: l0).length - ((c :: l0).dropWhile xCp).length) := by
   have := xJw (S := S) (s := c :: l0) hd0 (by omega) (k := ((c :: l0).dropWhile xCp).length) (xEm _)
   rw [← this, show S.length - ((c :: l0).dropWhile xCp).length = j from by omega]
  have hall : ((c :: l0).take ((c :: l0).length - ((c :: l0).dropWhile xCp).length)).all xCp = true := by
   have : (c :: l0).take ((c :: l0).length - ((c :: l0).dropWhile xCp).length) = (c :: l0).takeWhile xCp := by
    have e := List.takeWhile_append_dropWhile (p := xCp) (l := c :: l0)
    have hl := congrArg List.length e
    rw [jA] at hl
    conv => lhs; arg 2; rw [← e]
    rw [show (c :: l0).length - ((c :: l0).dropWhile xCp).length = ((c :: l0).takeWhile xCp).length from by omega, List.take_left']
    rfl
   rw [this]
   exact List.all_takeWhile
  have hne : (c :: l0).take ((c :: l0).length - ((c :: l0).dropWhile xCp).length) ≠ [] := by
   intro he
   have := congrArg List.length he
   rw [List.length_take, hsame, jN] at this
   simp only [jC] at this
   omega
  obtain ⟨n, ok, e1, e2, e3⟩ := xLf (N := N) hall hne (by rw [List.length_take]; simp only [jC] at g2 ⊢; omega) hN
  rw [ew, e1, jS, xDV, hL, hc]
  simp only [jT, jF]
  rw [← e2] at e3 ⊢
  have e4 : IntKind.i64.wrap ((j : Int) - (i : Int)) = (((c :: l0).length - ((c :: l0).dropWhile xCp).length : Nat) : Int) := by rw [xBh (by omega) (by omega)]; omega
  cases ok
  · exact ⟨_, rfl, rfl⟩
  · cases hb : decide (n > 1000000000)
    · rw [hb] at e3
      have e3 := e3 rfl
      refine ⟨_, rfl, ?_⟩
      show (_, _) = (_, _)
      rw [e4, ← e3, hp]
    · exact ⟨_, rfl, rfl⟩
 intro n
 induction n with
 | zero => intro j h1 h2 h3; omega
 | succ n ih =>
   intro j h1 h2 h3 h4
   cases hd : S.drop j with
   | nil =>
     have := xHR hd
     obtain rfl : j = S.length := by omega
     rw [hd] at h4
     simp only [xDD, Int.lt_irrefl, decide_false, jF]
     rw [if_pos (by omega)]
     simp only [Int.toNat_natCast]
     exact fin _ h1 h2 (by rw [h4]; simp)
   | cons x l =>
     obtain ⟨k1, k2, k3⟩ := xDN hd
     have hj' : (j : Int) < (S.length : Int) := by omega
     have hj2 : (0 : Int) ≤ (j : Int) ∧ (j : Int) < (S.length : Int) := ⟨by omega, hj'⟩
     have hj3 : (0 : Int) ≤ (i : Int) ∧ (i : Int) ≤ (j : Int) ∧ (j : Int) ≤ (S.length : Int) := by omega
     simp only [xDD, decide_eq_true hj', jT, if_pos hj2, if_pos hj3, Int.toNat_natCast, xCw k2, xKd, jS, xBy k1 (by omega : S.length ≤ _)]
     cases hw : xCp x
     · have e2 : (x :: l).dropWhile xCp = x :: l := by rw [List.dropWhile_cons]; simp [hw]
       rw [hd, e2] at h4
       exact fin j h1 h2 (by rw [h4]; have := (xFD hd).2; omega)
     · have e2 : (x :: l).dropWhile xCp = l.dropWhile xCp := xHo l hw
       exact ih (j + 1) (by omega) (by omega) (by omega) (by rw [h4, hd, e2, k3])
theorem vAF (hS : S.length ≤ 1000) (hN : 1000 < N) {i : Nat} {c : UInt8} {l0 : Str} (hd0 : S.drop i = c :: l0) (h34 : (c.toNat == 34) = true) (hD : xCp c = false) (hL : xHQ c = false) (b4 : Tok) (p6 : Int) (hp : p6 = i) : ∀ n j, i < j → j ≤ S.length → S.length < n + j → l0.dropWhile notQ = (S.drop j).dropWhile notQ →
 ∃ x, xFm N n S i (j : Nat) b4 (Tok.mk 0 0 p6 []) = some x ∧ LxS (c :: l0) (xHz i (c :: l0)) x := by
 obtain ⟨g1, g2⟩ := xFD hd0
 obtain ⟨gi, gx, gd⟩ := xDN hd0
 have hq := xEm (p := notQ) l0
 simp only [jC] at g1 g2
 have w1 : IntKind.i64.wrap ((i : Int) + 1) = ((i + 1 : Nat) : Int) := xBy gi (by omega)
 intro n
 induction n with
 | zero => intro j h1 h2 h3; omega
 | succ n ih =>
   intro j h1 h2 h3 h4
   cases hd : S.drop j with
   | nil =>
     have := xHR hd
     obtain rfl : j = S.length := by omega
     rw [hd] at h4
     simp only [xFm, Int.lt_irrefl, decide_false, jF, w1]
     rw [if_pos (by omega)]
     simp only [beq_self_eq_true, jT]
     refine ⟨_, rfl, ?_⟩
     rw [xDV, hL, hD, h34, h4]
     rfl
   | cons x l =>
     obtain ⟨k1, k2, k3⟩ := xDN hd
     have hj' : (j : Int) < (S.length : Int) := by omega
     have hj2 : (0 : Int) ≤ (j : Int) ∧ (j : Int) < (S.length : Int) := ⟨by omega, hj'⟩
     have hj3 : (0 : Int) ≤ ((i + 1 : Nat) : Int) ∧ ((i + 1 : Nat) : Int) ≤ (j : Int) ∧ (j : Int) ≤ (S.length : Int) := by omega
     simp only [xFm, decide_eq_true hj', jT, if_pos hj2, w1, if_pos hj3, Int.toNat_natCast, xCw k2, bne, xVM, xBy k1 (by omega : S.length ≤ _)]
     cases hw : x.toNat == 34
     · have e2 : (x :: l).dropWhile notQ = l.dropWhile notQ := xHo l (by unfold notQ; rw [hw]; rfl)
       exact ih (j + 1) (by omega) (by omega) (by omega) (by rw [h4, hd, e2, k3])
     · have e2 : (x :: l).dropWhile notQ = x :: l := by rw [List.dropWhile_cons]; simp [notQ, hw]
       rw [hd, e2] at h4
       rw [h4] at hq
       simp only [jC] at hq
       have hjl := (xFD hd).2
       simp only [jC] at hjl
       have ew : List.drop (i + 1) (List.take j S) = l0.take (l0.length - (x :: l).length) := by
        have := xJw (S := S) (s := l0) gd (by omega) (k := (x :: l).length) (by simp only [jC]; omega)
        rw [← this, show S.length - (x :: l).length = j from by simp only [jC]; omega]
       have ht : (l0.take (l0.length - (x :: l).length)).length ≤ 1000 := by rw [List.length_take]; omega
       have ne : ((j : Int) == (S.length : Int)) = false := beq_eq_false_iff_ne.2 (by omega)
       have e4 : IntKind.i64.wrap (((j + 1 : Nat) : Int) - (i : Int)) = (((c :: l0).length - l.length : Nat) : Int) := by rw [xBh (by omega) (by omega)]; simp only [jC]; omega
       simp only [Bool.not_true, jF, ne, ew]
       rw [xGu (N := N) (by omega) (by omega), jS, xDV, hL, hD, h34, h4]
       simp only [jT, jF]
       cases xJx (l0.take (l0.length - (x :: l).length))
       · exact ⟨_, rfl, rfl⟩
       · refine ⟨_, rfl, ?_⟩
         show (_, _) = (_, _)
         rw [e4, hp]
theorem xNT (c : UInt8) : ∀ l : Str, decide (Lib.indexByte l c ≥ 0) = l.any fun b => b.toNat == c.toNat
 | [] => rfl
 | b :: l => by
   have ih := xNT c l
   have h1 := Lib.indexByte_ge l c
   have e : Lib.indexByte (b :: l) c = if b == c then 0 else if Lib.indexByte l c == -1 then -1 else Lib.indexByte l c + 1 := rfl
   rw [List.any_cons, ← ih, e, xNa b c]
   cases b.toNat == c.toNat
   · simp only [Bool.false_eq_true, if_false, Bool.false_or]
     by_cases h : Lib.indexByte l c = -1
     · rw [h]; rfl
     · rw [show (Lib.indexByte l c == -1) = false from beq_eq_false_iff_ne.2 h]
       simp only [Bool.false_eq_true, if_false]
       rw [decide_eq_true (by omega), decide_eq_true (by omega)]
   · rfl
theorem beqc (c : UInt8) (k : Nat) : (((c.toNat : Int) : Int) == (k : Int)) = (c.toNat == k) := beqI c.toNat k
def xNj : Str → Bool
 | [] => false
 | d :: _ => 61 == d.toNat
def symN (c : UInt8) (l : Str) : Nat := bif Lib.hasPrefix (c :: l) [61, 61] then 2 else bif xKY c then 1 else 0
theorem xRD (hS : S.length ≤ 1000) {i : Nat} {c : UInt8} {l : Str} (hd : S.drop i = c :: l) : xGM N S i = some ((symN c l : Nat) : Int) := by
 obtain ⟨g1, g2⟩ := xFD hd
 obtain ⟨gi, gx, gd⟩ := xDN hd
 have w1 : IntKind.i64.wrap ((i : Int) + 1) = ((i + 1 : Nat) : Int) := xBy gi (by omega)
 have hok : xKY c = (40 == c.toNat || (41 == c.toNat || (91 == c.toNat || (93 == c.toNat || (44 == c.toNat || (43 == c.toNat || (45 == c.toNat || (42 == c.toNat || (60 == c.toNat || (61 == c.toNat || false)))))))))) := by
  unfold xKY; rw [xNT]; rfl
 have hpre : Lib.hasPrefix (c :: l) [61, 61] = (61 == c.toNat && xNj l) := by
  unfold Lib.hasPrefix
  cases l with
  | nil => simp [List.isPrefixOf, xNj]
  | cons d r =>
    simp only [List.isPrefixOf, xNa, Bool.and_true, xNj]; rfl
 have b (k : Nat) : (c.toNat == k) = (k == c.toNat) := by
  by_cases h : c.toNat = k
  · rw [h]
  · rw [beq_eq_false_iff_ne.2 h, beq_eq_false_iff_ne.2 (fun e => h e.symm)]
 unfold xGM
 rw [if_pos (by omega)]
 have k40 := (beqc c 40).trans (b 40); have k41 := (beqc c 41).trans (b 41); have k91 := (beqc c 91).trans (b 91); have k93 := (beqc c 93).trans (b 93); have k44 := (beqc c 44).trans (b 44)
 have k43 := (beqc c 43).trans (b 43); have k45 := (beqc c 45).trans (b 45); have k42 := (beqc c 42).trans (b 42); have k60 := (beqc c 60).trans (b 60); have k61 := (beqc c 61).trans (b 61)
 simp only [Int.toNat_natCast, xCw gx, w1]
 unfold symN
 rw [hok, hpre]
 have no61 : ∀ k : Nat, k ≠ 61 → (k == c.toNat) = true → (61 == c.toNat) = false := fun k hk h => beq_eq_false_iff_ne.2 fun e => hk ((beq_iff_eq.1 h).trans e.symm)
 have fin : (bif (decide (((i + 1 : Nat) : Int) < (List.length S : Int))) then (
                   if (0 : Int) ≤ ((i + 1 : Nat) : Int) ∧ ((i + 1 : Nat) : Int) < (List.length S) then
                   bif ((((List.getD S (i + 1) 0).toNat : Int) : Int) == 61) then (
                    some (2 : Int)
                   ) else (
                     some 1
                   )
                   else none
                   ) else (
                     some 1
                   )) = some (((bif xNj l then 2 else 1 : Nat)) : Int) := by
  cases l with
  | nil =>
    simp only [jC, jN] at g2
    rw [decide_eq_false (by omega)]; rfl
  | cons d r =>
    simp only [jC] at g2
    obtain ⟨ji, jx, jd⟩ := xDN gd
    rw [decide_eq_true (by omega), jT, if_pos (by omega), xCw jx]
    have bd : (((d.toNat : Int) : Int) == 61) = (61 == d.toNat) := (beqI d.toNat 61).trans (by
     by_cases h : d.toNat = 61
     · rw [h]
     · rw [beq_eq_false_iff_ne.2 h, beq_eq_false_iff_ne.2 (fun e => h e.symm)])
    rw [bd, show xNj (d :: r) = (61 == d.toNat) from rfl]
    cases (61 == d.toNat) <;> rfl
 rw [fin]
 have k40 : (((c.toNat : Int) : Int) == 40) = (40 == c.toNat) := k40
 have k41 : (((c.toNat : Int) : Int) == 41) = (41 == c.toNat) := k41
 have k91 : (((c.toNat : Int) : Int) == 91) = (91 == c.toNat) := k91
 have k93 : (((c.toNat : Int) : Int) == 93) = (93 == c.toNat) := k93
 have k44 : (((c.toNat : Int) : Int) == 44) = (44 == c.toNat) := k44
 have k43 : (((c.toNat : Int) : Int) == 43) = (43 == c.toNat) := k43
 have k45 : (((c.toNat : Int) : Int) == 45) = (45 == c.toNat) := k45
 have k42 : (((c.toNat : Int) : Int) == 42) = (42 == c.toNat) := k42
 have k60 : (((c.toNat : Int) : Int) == 60) = (60 == c.toNat) := k60
 have k61 : (((c.toNat : Int) : Int) == 61) = (61 == c.toNat) := k61
 rw [k40, k41, k91, k93, k44, k43, k45, k42, k60, k61]
 cases h1 : (40 == c.toNat)
 · cases h2 : (41 == c.toNat)
   · cases h3 : (91 == c.toNat)
     · cases h4 : (93 == c.toNat)
       · cases h5 : (44 == c.toNat)
         · cases h6 : (43 == c.toNat)
           · cases h7 : (45 == c.toNat)
             · cases h8 : (42 == c.toNat)
               · cases h9 : (60 == c.toNat)
                 · cases h10 : (61 == c.toNat)
                   · rfl
                   · simp only [jF, jT, Bool.true_and, Bool.or_true, Bool.false_or, Bool.true_or]
                 · rw [no61 60 (by decide) h9]; rfl
               · rw [no61 42 (by decide) h8]; rfl
             · rw [no61 45 (by decide) h7]; rfl
           · rw [no61 43 (by decide) h6]; rfl
         · rw [no61 44 (by decide) h5]; rfl
       · rw [no61 93 (by decide) h4]; rfl
     · rw [no61 91 (by decide) h3]; rfl
   · rw [no61 41 (by decide) h2]; rfl
 · rw [no61 40 (by decide) h1]; rfl
theorem xVY (hS : S.length ≤ 1000) (hN : 1000 < N) {i : Nat} {c : UInt8} {l : Str} (hd : S.drop i = c :: l) : ∃ x, xHP N S i = some x ∧ LxS (c :: l) (xHz i (c :: l)) x := by
 obtain ⟨e1, e2⟩ := xFD hd
 obtain ⟨hi, hx, hd1⟩ := xDN hd
 simp only [jC] at e1 e2
 have w1 : IntKind.i64.wrap ((i : Int) + 1) = ((i + 1 : Nat) : Int) := xBy hi (by omega)
 unfold xHP
 rw [if_pos (by omega)]
 simp only [Int.toNat_natCast, xCw hx, xLy, xKd, jS, xVM, w1]
 cases hL : xHQ c
 · cases hD : xCp c
   · cases h34 : c.toNat == 34
     · simp only [jF]
       rw [xRD hS hd, jS]
       have hle : symN c l ≤ (c :: l).length := by
        unfold symN
        cases hp : Lib.hasPrefix (c :: l) [61, 61]
        · cases xKY c <;> simp
        · have : 2 ≤ (c :: l).length := by
           cases l with
           | nil => simp [Lib.hasPrefix, List.isPrefixOf] at hp
           | cons a b => simp
          simpa using this
       simp only [jC] at hle
       have s2 : symN c l ≤ 2 := by
        unfold symN
        cases Lib.hasPrefix (c :: l) [61, 61] <;> cases xKY c <;> simp
       have v1 : IntKind.i64.wrap ((i : Int) + ((symN c l : Nat) : Int)) = ((i + symN c l : Nat) : Int) := by rw [xBh (by omega) (by omega)]; omega
       have v2 : IntKind.i64.wrap (((i + symN c l : Nat) : Int) - (i : Int)) = ((symN c l : Nat) : Int) := by rw [xBh (by omega) (by omega)]; omega
       have v3 : List.drop i (List.take (i + symN c l) S) = (c :: l).take (symN c l) := by rw [List.drop_take, hd, show i + symN c l - i = symN c l from by omega]
       simp only [v1, v2, Int.toNat_natCast, v3]
       rw [if_pos (by omega), xDV, hL, hD, h34]
       refine ⟨_, rfl, ?_⟩
       simp only [jF]
       unfold symN at s2 ⊢
       cases hp : Lib.hasPrefix (c :: l) [61, 61]
       · cases xKY c
         · rfl
         · show (_, _) = (_, _)
           simp
       · have h2 : l.tail.length + 1 = l.length := by
          cases l with
          | nil => simp [Lib.hasPrefix, List.isPrefixOf] at hp
          | cons a b => rfl
         have h3 : (c :: l).take 2 = [61, 61] := by
          cases l with
          | nil => simp [Lib.hasPrefix, List.isPrefixOf] at hp
          | cons a b =>
            simp only [Lib.hasPrefix, List.isPrefixOf, Bool.and_eq_true, beq_iff_eq] at hp
            obtain ⟨rfl, rfl, _⟩ := hp
            rfl
         show (_, _) = (_, _)
         simp only [jT, h3, jC]
         rw [show l.length + 1 - l.tail.length = 2 from by omega]
     · exact vAF hS hN hd h34 hD hL _ _ rfl N (i + 1) (by omega) (by omega) (by omega) (by rw [hd1])
   · simp only [jT, jF]
     obtain ⟨n, rfl⟩ : ∃ n, N = n + 1 := ⟨N - 1, by omega⟩
     have hj' : (i : Int) < (S.length : Int) := by omega
     have hj2 : (0 : Int) ≤ (i : Int) ∧ (i : Int) < (S.length : Int) := ⟨by omega, hj'⟩
     have step : xDD (n + 1) (n + 1) S i i (Tok.mk 0 0 0 []) (Tok.mk 0 0 i []) = xDD (n + 1) n S i ((i + 1 : Nat) : Int) (Tok.mk 0 0 0 []) (Tok.mk 0 0 i []) := by
      simp only [xDD, decide_eq_true hj', jT, if_pos hj2, Int.toNat_natCast, xCw hx, xKd, jS, hD, w1]
     rw [step]
     exact xRw hS hN hd hD hL _ _ rfl n (i + 1) (by omega) (by omega) (by omega) (by rw [hd1, xHo l hD])
 · simp only [jT]
   have hw : isWd c = true := by unfold isWd; rw [hL]; rfl
   have hq := xEm (p := isWd) (c :: l)
   have hq2 := xEm (p := isWd) l
   refine ⟨_, xPM hS _ _ N i (Nat.le_refl _) (by omega) (by omega), ?_⟩
   rw [hd, xDV, hL, jT]
   unfold xPO
   have h0 := xHo l hw
   simp only [jC] at hq
   rw [xJw hd (by omega) (by simp only [jC]; omega), show S.length - ((c :: l).dropWhile isWd).length - i = (c :: l).length - ((c :: l).dropWhile isWd).length from by simp only [jC]; omega]
   by_cases h8 : (c :: l).length - ((c :: l).dropWhile isWd).length ≤ 8
   · rw [decide_eq_true h8, decide_eq_false (by omega)]; rfl
   · rw [decide_eq_false h8, decide_eq_true (by omega)]; rfl
theorem xVq (hS : S.length ≤ 120) (hN : 1000 < N) : ∀ (m n i : Nat) (acc : List Tok), i ≤ S.length → S.length - i < m → S.length - i < n → acc.length ≤ 60 → xEj N n S acc (i : Nat) = some (lexL m (i : Nat) acc (S.drop i)) := by
 intro m
 induction m with
 | zero => intro n i acc _ h; omega
 | succ m ih =>
   intro n i acc hi hm hn ha
   obtain ⟨n, rfl⟩ : ∃ k, n = k + 1 := ⟨n - 1, by omega⟩
   cases hd : S.drop i with
   | nil =>
     have := xHR hd
     obtain rfl : i = S.length := by omega
     simp only [xEj, Int.lt_irrefl, decide_false, jF, lexL]
   | cons c l =>
     obtain ⟨h1, hx, hd1⟩ := xDN hd
     have hi' : (i : Int) < (S.length : Int) := by omega
     simp only [xEj, decide_eq_true hi', jT, Int.toNat_natCast, xCw hx, vAM, lexL, xBy h1 (by omega : S.length ≤ _)]
     rw [if_pos (by omega)]
     cases h32 : c.toNat == 32
     · simp only [jF]
       obtain ⟨x, hx1, hx2⟩ := xVY (N := N) (S := S) (by omega) hN hd
       rw [hx1, jS]
       cases ho : xHz i (c :: l) with
       | none =>
         rw [ho] at hx2
         have hx2 : x.2 = 0 := hx2
         simp only [hx2, beq_self_eq_true, jT]
       | some z =>
         obtain ⟨t, r⟩ := z
         rw [ho] at hx2
         have hx2 : x = (t, (((c :: l).length - r.length : Nat) : Int)) := hx2
         subst hx2
         have hl := xI1 ho
         have hs : r <:+ S := by
          have : c :: l <:+ S := by rw [← hd]; exact List.drop_suffix _ _
          exact (xNl ho).trans this
         have hrl := hs.length_le
         obtain ⟨g1, g2⟩ := xFD hd
         have ne0 : ((((c :: l).length - r.length : Nat) : Int) == 0) = false := beq_eq_false_iff_ne.2 (by omega)
         have v1 : IntKind.i64.wrap ((i : Int) + (((c :: l).length - r.length : Nat) : Int)) = ((S.length - r.length : Nat) : Int) := by rw [xBh (by omega) (by omega)]; omega
         have e60 : (((acc.length : Int) : Int) == 60) = (acc.length == 60) := beqI acc.length 60
         simp only [ne0, jF, e60, v1]
         cases h60 : acc.length == 60
         · have h60 : acc.length ≠ 60 := beq_eq_false_iff_ne.1 h60
           simp only [jF]
           rw [if_pos (by simp only [jC, jN]; unfold Lim; omega)]
           rw [ih n (S.length - r.length) (acc ++ [t]) (by omega) (by omega) (by omega) (by simp only [jA, jC, jN]; omega), xOK hs]
           rw [show ((S.length - r.length : Nat) : Int) = (i : Int) + ((c :: l).length - r.length : Nat) from by omega]
         · rfl
     · simp only [jT]
       rw [ih n (i + 1) acc (by omega) (by omega) (by omega) ha, hd1]
       rfl
theorem xLg (hN : 1000 < N) (s : Str) : xF1 N s = some (lex s) := by
 unfold xF1 lex
 have e : decide (((s.length : Int) : Int) > 120) = decide (s.length > 120) := decide_eq_decide.2 (by omega)
 rw [e]
 cases h : decide (s.length > 120)
 · have h := of_decide_eq_false h
   simp only [jF]
   exact xVq (S := s) (by omega) hN (s.length + 1) N 0 [] (by omega) (by omega) (by omega) (by simp)
 · rfl
end
end Go.Ab
end
section
namespace Go.Ab
structure TokG (t : Tok) : Prop where
 kind : I64 t.kind
 n : I64 t.n
 pos : 0 ≤ t.pos ∧ t.pos ≤ 120
 len : t.text.length ≤ 120
 name : t.kind = 1 → ∃ (c : UInt8) (l : Str), t.text = c :: l ∧ 97 ≤ c.toNat
 sym : t.kind = 4 → ∃ (c : UInt8) (l : Str), t.text = c :: l ∧ c.toNat < 97
theorem xVs {c : UInt8} (h : xKY c = true) : c.toNat < 97 := by
 unfold xKY at h
 rw [xNT] at h
 simp only [List.any_cons, List.any_nil, Bool.or_eq_true, beq_iff_eq, Bool.or_false] at h
 have e : ∀ k : UInt8, k.toNat < 97 → k.toNat = c.toNat → c.toNat < 97 := fun k h1 h2 => by omega
 rcases h with h | h | h | h | h | h | h | h | h | h <;> exact e _ (by decide) h
theorem xRG {c : UInt8} {l : Str} {k : Nat} (h : 0 < k) : ∃ r, (c :: l).take k = c :: r := by
 obtain ⟨k, rfl⟩ : ∃ m, k = m + 1 := ⟨k - 1, by omega⟩
 exact ⟨l.take k, rfl⟩
theorem xPw {p : Int} {s r : Str} {t : Tok} (hp : 0 ≤ p ∧ p ≤ 120) (hs : s.length ≤ 120) (h : xHz p s = some (t, r)) : TokG t := by
 cases s with
 | nil => cases h
 | cons c l =>
   have d1 := xEm (p := isWd) l
   rw [xDV] at h
   cases h1 : xHQ c <;> rw [h1] at h
   · cases h2 : xCp c <;> rw [h2] at h
     · cases h3 : c.toNat == 34 <;> rw [h3] at h
       · cases h4 : Lib.hasPrefix (c :: l) [61, 61] <;> rw [h4] at h
         · obtain ⟨hb, hx⟩ := xGO h
           cases hx
           exact ⟨xD7 (x := 4) (by decide), xD7 (x := 0) (by decide), hp, by simp, (fun h => by have h : (4 : Int) = 1 := h; omega), fun _ => ⟨c, [], rfl, xVs hb⟩⟩
         · cases h
           exact ⟨xD7 (x := 4) (by decide), xD7 (x := 0) (by decide), hp, by simp, (fun h => by have h : (4 : Int) = 1 := h; omega), fun _ => ⟨61, [61], rfl, by decide⟩⟩
       · simp only [jT, jF] at h
         split at h
         · cases h
         · rename_i q r' he
           obtain ⟨hb, hx⟩ := xGO h
           cases hx
           simp only [jC] at hs
           refine ⟨xD7 (by show (0 : Int) ≤ 3 ∧ (3 : Int) ≤ 1000; decide), xD7 (by show (0 : Int) ≤ 0 ∧ (0 : Int) ≤ 1000; decide), hp, ?_, fun h => ?_, fun h => ?_⟩
           · show (l.take _).length ≤ 120
             rw [List.length_take]; omega
           · have h : (3 : Int) = 1 := h
             omega
           · have h : (3 : Int) = 4 := h
             omega
     · simp only [jT, jF] at h
       obtain ⟨hb, hx⟩ := xGO h
       cases hx
       obtain ⟨v, hv, he⟩ := xNo hb
       have hn := xKC hv
       rw [← he] at hn
       refine ⟨xD7 (by show (0 : Int) ≤ 2 ∧ (2 : Int) ≤ 1000; decide), ?_, hp, by simp, fun h => ?_, fun h => ?_⟩
       · show I64 (zHF _ 0 1000000000).1
         rw [hn]; unfold I64; omega
       · have h : (2 : Int) = 1 := h
         omega
       · have h : (2 : Int) = 4 := h
         omega
   · simp only [jT] at h
     obtain ⟨hb, hx⟩ := xGO h
     cases hx
     have hw : isWd c = true := by unfold isWd; rw [h1]; rfl
     rw [xHo l hw]
     simp only [jC] at hs
     obtain ⟨r, hr⟩ := xRG (c := c) (l := l) (k := (c :: l).length - (l.dropWhile isWd).length) (by simp only [jC]; omega)
     refine ⟨xD7 (by show (0 : Int) ≤ 1 ∧ (1 : Int) ≤ 1000; decide), xD7 (by show (0 : Int) ≤ 0 ∧ (0 : Int) ≤ 1000; decide), hp, ?_, fun _ => ⟨c, r, hr, ?_⟩, fun h => ?_⟩
     · show ((c :: l).take _).length ≤ 120
       rw [List.length_take]; simp only [jC]; omega
     · unfold xHQ at h1
       simp only [Bool.and_eq_true, decide_eq_true_eq] at h1
       exact h1.1
     · have h : (1 : Int) = 4 := h
       omega
theorem xQc : ∀ (n : Nat) (p : Int) (acc : List Tok) (s : Str), 0 ≤ p → p + s.length ≤ 120 → acc.length ≤ 60 → (∀ t ∈ acc, TokG t) → (∀ t ∈ (lexL n p acc s).1, TokG t) ∧ (lexL n p acc s).1.length ≤ 60 ∧ ((lexL n p acc s).2 = -1 ∨ (0 ≤ (lexL n p acc s).2 ∧ (lexL n p acc s).2 ≤ p + s.length)) := by
 intro n
 induction n with
 | zero => intro p acc s h1 h2 _ _; exact ⟨(fun t ht => by cases ht), by simp [lexL], .inr (by simp only [lexL]; omega)⟩
 | succ n ih =>
   intro p acc s h1 h2 h3 h4
   cases s with
   | nil => exact ⟨h4, h3, .inl rfl⟩
   | cons c l =>
     simp only [lexL]
     cases c.toNat == 32
     · simp only [jF]
       have hl : (c :: l).length ≤ 120 := by simp only [jC] at h2 ⊢; omega
       cases ho : xHz p (c :: l) with
       | none => exact ⟨(fun t ht => by cases ht), by simp, .inr (by simp only; omega)⟩
       | some z =>
         obtain ⟨t, r⟩ := z
         have hg := xPw (by omega) hl ho
         have hr := xI1 ho
         simp only
         cases h60 : acc.length == 60
         · have h60 : acc.length ≠ 60 := beq_eq_false_iff_ne.1 h60
           simp only [jF]
           have := ih (p + ((c :: l).length - r.length : Nat)) (acc ++ [t]) r (by omega) (by omega) (by simp only [jA, jC, jN]; omega) (fun x hx => by
            rcases List.mem_append.1 hx with hx | hx
            · exact h4 x hx
            · rw [List.mem_singleton.1 hx]; exact hg)
           refine ⟨this.1, this.2.1, ?_⟩
           rcases this.2.2 with h | ⟨ha, hb⟩
           · exact .inl h
           · exact .inr ⟨ha, by omega⟩
         · exact ⟨(fun t ht => by cases ht), by simp, .inr (by simp only [jT]; omega)⟩
     · simp only [jT]
       simp only [jC] at h2
       have := ih (p + 1) acc l (by omega) (by omega) h3 h4
       refine ⟨this.1, this.2.1, ?_⟩
       rcases this.2.2 with h | ⟨ha, hb⟩
       · exact .inl h
       · exact .inr ⟨ha, by simp only [jC]; omega⟩
theorem xLl (s : Str) : (∀ t ∈ (lex s).1, TokG t) ∧ (lex s).1.length ≤ 60 ∧ ((lex s).2 = -1 ∨ (0 ≤ (lex s).2 ∧ (lex s).2 ≤ s.length)) := by
 unfold lex
 cases h : decide (s.length > 120)
 · have h := of_decide_eq_false h
   have := xQc (s.length + 1) 0 [] s (by omega) (by omega) (by simp) (fun t ht => by cases ht)
   refine ⟨this.1, this.2.1, ?_⟩
   rcases this.2.2 with h | ⟨ha, hb⟩
   · exact .inl h
   · exact .inr ⟨ha, by simp only [jF]; omega⟩
 · have h := of_decide_eq_true h
   exact ⟨(fun t ht => by cases ht), by simp, .inr (by simp only [jT]; omega)⟩
theorem vBQ : ∀ ts : List Tok, (∀ t ∈ ts, TokG t) → tw ts ≤ 123 * ts.length
 | [], _ => Nat.le_refl _
 | t :: r, h => by
   have h1 := (h t List.mem_cons_self).len
   have h2 := vBQ r fun x hx => h x (List.mem_cons_of_mem _ hx)
   rw [xKZ, jC]; omega
theorem xPk {T : List Tok} (h : ∀ t ∈ T, TokG t) (hl : T.length ≤ 60) : TokT 10000 T where
 len := by omega
 fit := fun t ht => ⟨(h t ht).kind, (h t ht).n, by have := (h t ht).pos; unfold I64; omega, Nat.le_trans (h t ht).len (by omega)⟩
 tw := by have := vBQ T h; omega
theorem xVH {T : List Tok} (h : ∀ t ∈ T, TokG t) {L : Int} (hL : 0 ≤ L) : TokW T L where
 pos := fun t ht => (h t ht).pos.1
 fin := hL
 name := fun t ht => (h t ht).name
 sym := fun t ht => (h t ht).sym
def xJo (L : Int) (T : List Tok) : Exp × Int := match pE (T.length + 1) T with
 | .err ts => (e0, offT L ts)
 | .ok e [] => bif xFJ e then (e, -1) else (e0, 0)
 | .ok e (t :: _) => (e0, t.pos)
def xFG (s : Str) : Exp × Int := bif decide ((lex s).2 ≥ 0) then (e0, (lex s).2) else xJo s.length (lex s).1
theorem xLW {T : List Tok} (hT : TokT 10000 T) {e : Exp} {r : List Tok} (h : pE (T.length + 1) T = .ok e r) : e.Fit 10000 ∧ e.size ≤ 10000 := by
 obtain ⟨⟨h1, h2⟩, _⟩ := xFr (K := 10000) (T.length + 1) T e r hT.fit hT.tw h
 have := hT.tw
 exact ⟨h2, by omega⟩
theorem xVV {T : List Tok} {t : Tok} {q : List Tok} (h : t :: q <:+ T) : T.length - (t :: q).length < T.length ∧ List.getD T (T.length - (t :: q).length) Ty.tok.dflt = t := by
 obtain ⟨pre, rfl⟩ := h
 have e : (pre ++ t :: q).length - (t :: q).length = pre.length := by rw [jA]; omega
 rw [e]
 exact ⟨by simp, by simp [List.getD]⟩
theorem xNU {N : Nat} {T : List Tok} {s : Str} (hT : TokT 10000 T) (hl : T.length ≤ 60) (hN : 20000 < N) (hv : ∀ e r, pE (T.length + 1) T = .ok e r → xCJ N e = some (xFJ e)) (ht : xF0 N s = some (T, -1)) :
 xDq N s = some (xJo s.length T) := by
 have hs := xRj (N := N) hT (by omega) (by omega) (by omega) (T.length + 1) N (by omega) T (List.suffix_refl T) (by omega)
 have hx : xGh N (Psr.mk T 0 (-1)) = (xAb N N).c_impl_parser_expr (gp T T) := by
  unfold xGh gp
  rw [Nat.sub_self]; rfl
 unfold xDq xJo
 rw [ht, jS]
 simp only [show decide ((-1 : Int) ≥ 0) = false from rfl, jF, hx]
 cases hp : pE (T.length + 1) T with
 | err ts =>
   rw [hp] at hs
   obtain ⟨a, p, h1, h2, h3, h4⟩ := hs
   rw [h1, jS]
   have hnn : 0 ≤ p.bad := by rw [h3]; omega
   rw [decide_eq_false (by omega : ¬ p.bad < 0), jF]
   have hle := h4.length_le
   cases ts with
   | nil => rw [decide_eq_true (by rw [h3]; simp : p.bad ≥ (T.length : Int)), jT]; rfl
   | cons t q =>
     obtain ⟨g1, g2⟩ := xVV h4
     rw [decide_eq_false (by rw [h3]; omega), jF, decide_eq_true (by omega : p.bad ≥ 0), jT, if_pos (by rw [h3]; omega), h3, Int.toNat_natCast, g2]; rfl
 | ok e ts =>
   rw [hp] at hs
   obtain ⟨h1, h2⟩ := hs
   rw [h2, jS]
   rw [xP5, xNQ, jT]
   cases ts with
   | nil =>
     have e1 : decide ((gp T []).pos < (T.length : Int)) = false := decide_eq_false (by simp [gp])
     rw [e1, jF, decide_eq_false (by omega : ¬ (-1 : Int) ≥ (T.length : Int)), jF]
     rw [show decide ((-1 : Int) ≥ 0) = false from rfl, jF, hv e [] hp, jS]
     show _ = some (bif xFJ e then (e, -1) else (e0, 0))
     cases xFJ e <;> rfl
   | cons t q =>
     obtain ⟨g1, g2⟩ := xVV h1
     have e1 : (gp T (t :: q)).pos = ((T.length - (t :: q).length : Nat) : Int) := rfl
     rw [e1, decide_eq_true (by omega), jT, decide_eq_false (by omega), jF, decide_eq_true (by omega), jT, if_pos (by omega), Int.toNat_natCast, g2]
theorem xOB {N : Nat} {T : List Tok} {s : Str} (hT : TokT 10000 T) (hW : TokW T s.length) (hl : T.length ≤ 60) (hN : 20000 < N) (hv : ∀ e r, pE (T.length + 1) T = .ok e r → xCj N e = some (xFJ e)) (ht : xF1 N s = some (T, -1)) :
 xE9 N s = some (xJo s.length T) := by
 have hs := vAw (N := N) hW hT (by omega) (by omega) (by omega) (T.length + 1) N (by omega) T (List.suffix_refl T) (by omega)
 have hx : xH1 N (Rdr.mk T 0 (s.length : Int) (-1)) = (xAa N N).c_spec_l11Expr (gr T s.length T) := by
  unfold xH1 gr
  rw [Nat.sub_self]; rfl
 unfold xE9 xJo
 rw [ht, jS]
 simp only [show decide ((-1 : Int) ≥ 0) = false from rfl, jF, hx]
 cases hp : pE (T.length + 1) T with
 | err ts =>
   rw [hp] at hs
   obtain ⟨a, p, h1, h2⟩ := hs
   rw [h1, jS]
   have hnn := h2.nn hW
   rw [decide_eq_false (by omega : ¬ p.bad < 0), jF, decide_eq_true (by omega : p.bad ≥ 0), jT, h2.2.2.1]
 | ok e ts =>
   rw [hp] at hs
   obtain ⟨h1, h2⟩ := hs
   rw [h2, jS]
   rw [xKe, xNQ, jT]
   cases ts with
   | nil =>
     have e1 : decide ((gr T s.length []).i < (T.length : Int)) = false := decide_eq_false (by simp [gr])
     rw [e1, jF]
     rw [show decide ((-1 : Int) ≥ 0) = false from rfl, jF, hv e [] hp, jS]
     show _ = some (bif xFJ e then (e, -1) else (e0, 0))
     cases xFJ e <;> rfl
   | cons t q =>
     obtain ⟨g1, g2⟩ := xVV h1
     have e1 : (gr T s.length (t :: q)).i = ((T.length - (t :: q).length : Nat) : Int) := rfl
     obtain ⟨p, f1, f2⟩ := xKq (L := s.length) N h1
     have hnn := f2.nn hW
     rw [e1, decide_eq_true (by omega), jT, f1, jS, decide_eq_true (by omega : p.bad ≥ 0), jT, f2.2.2.1]; rfl
theorem xPc (s : Str) : Big fun N => xDq N s = some (xFG s) ∧ xE9 N s = some (xFG s) := by
 obtain ⟨g1, g2, g3⟩ := xLl s
 have hT := xPk g1 g2
 have hW := xVH g1 (L := s.length) (by omega)
 have hv : Big fun N => ∀ e r, pE ((lex s).1.length + 1) (lex s).1 = .ok e r → xCJ N e = some (xFJ e) ∧ xCj N e = some (xFJ e) := by
  cases hp : pE ((lex s).1.length + 1) (lex s).1 with
  | err ts => exact Big.of fun N e r h => by cases h
  | ok e ts =>
    obtain ⟨h1, h2⟩ := xLW hT hp
    refine (xKw (K := 10000) (by omega) h1 (by omega)).imp fun N h e' r' he => ?_
    cases he
    exact h
 refine (hv.and (xMe 20000)).imp fun N ⟨h, hN⟩ => ?_
 have t1 := xLd (N := N) (by omega) s
 have t2 := xLg (N := N) (by omega) s
 unfold xFG
 rcases g3 with g3 | ⟨g3, g4⟩
 · have e : lex s = ((lex s).1, -1) := by rw [← g3]
   rw [e] at t1 t2
   rw [g3]
   simp only [show decide ((-1 : Int) ≥ 0) = false from rfl, jF]
   exact ⟨xNU hT g2 hN (fun e r he => (h e r he).1) t1, xOB hT hW g2 hN (fun e r he => (h e r he).2) t2⟩
 · unfold xDq xE9
   rw [t1, t2]
   simp only [jS, decide_eq_true g3, jT]
   exact ⟨trivial, trivial⟩
theorem xKh {N : Nat} {s : Str} (h : xDq N s = some (xFG s)) : xFL N s = some (decide ((xFG s).2 ≥ 0)) := by
 unfold xFL; rw [h]; rfl
theorem xPH (s : Str) : (xFG s).1.Fit 10000 ∧ (xFG s).1.size ≤ 10000 := by
 have z : e0.Fit 10000 ∧ e0.size ≤ 10000 := ⟨xG1 (xD7 (by decide)) (xD7 (by decide)) (Nat.zero_le _) (Nat.zero_le _) (fun x hx => by cases hx), by rw [xGd]; decide⟩
 obtain ⟨g1, g2, g3⟩ := xLl s
 have hT := xPk g1 g2
 unfold xFG
 cases decide ((lex s).2 ≥ 0)
 · simp only [jF, xJo]
   cases hp : pE ((lex s).1.length + 1) (lex s).1 with
   | err ts => exact z
   | ok e ts =>
     have := xLW hT hp
     cases ts with
     | nil =>
       show Exp.Fit 10000 (bif xFJ e then (e, (-1 : Int)) else (e0, 0)).1 ∧ (bif xFJ e then (e, (-1 : Int)) else (e0, 0)).1.size ≤ 10000
       cases xFJ e
       · exact z
       · exact this
     | cons t q => exact z
 · exact z
end Go.Ab
end
section
namespace Go.Ab
def xMx (x : List Tok) : Prop := seeS [42] x = false ∧ seeS [43] x = false ∧ seeS [45] x = false ∧ seeS [60] x = false ∧ seeS [61, 61] x = false
def Ext {α : Type} (x : List Tok) (f f' : List Tok → PR α) : Prop := ∀ ts a r, f ts = .ok a r → f' (ts ++ x) = .ok a (r ++ x)
def xLb {α : Type} (f : List Tok → PR α) : Prop := ∀ a r, f [] ≠ .ok a r
theorem xIK {s : Str} {ts : List Tok} (h : seeS s ts = true) (x : List Tok) : seeS s (ts ++ x) = true ∧ (ts ++ x).tail = ts.tail ++ x := by
 obtain ⟨t, h1, h2⟩ := xKp h
 rw [h1]; exact ⟨h2, rfl⟩
theorem xIn {s : Str} {x : List Tok} (hx : seeS s x = false) {ts : List Tok} (h : seeS s ts = false) : seeS s (ts ++ x) = false := by
 cases ts with
 | nil => exact hx
 | cons t q => exact h
theorem xHF (s : Str) (x : List Tok) : Ext x (xF9 s) (xF9 s) := by
 intro ts a r h
 obtain ⟨t, rfl, ht⟩ := xM4 h
 simp only [List.cons_append, xF9, ht, jT]
theorem xRl (x : List Tok) : Ext x xLU xLU := by
 intro ts a r h
 obtain ⟨t, rfl, rfl, h1, h2⟩ := xM3 h
 have h1 : (t.kind == 1) = true := by simpa using h1
 simp only [List.cons_append, xLU, h1, h2, jT]
theorem PR.bind_of {α β : Type} {R : PR α} {k : α → List Tok → PR β} {a : α} {q : List Tok} (h : R = .ok a q) : R.bind k = k a q := by rw [h]; rfl
section
variable {x : List Tok}
theorem xPE {f f' : List Tok → PR Exp} (hf : Ext x f f') (c : Str) : ∀ (m m' : Nat) (acc : List Exp) (ts : List Tok) (a : List Exp) (r : List Tok), m ≤ m' → xJm f c m acc ts = .ok a r → xJm f' c m' acc (ts ++ x) = .ok a (r ++ x) := by
 intro m
 induction m with
 | zero => intro m' acc ts a r _ h; cases h
 | succ m ih =>
   intro m' acc ts a r hm h
   obtain ⟨m', rfl⟩ : ∃ k, m' = k + 1 := ⟨m' - 1, by omega⟩
   obtain ⟨e, q, he, h⟩ := PR.bind_ok h
   simp only [xJm]
   rw [PR.bind_of (hf _ _ _ he)]
   cases hc : seeS c q <;> rw [hc] at h
   · obtain ⟨u, v, hn, h⟩ := PR.bind_ok h
     have hq : seeS c (q ++ x) = false := by
      cases q with
      | nil => cases hn
      | cons t p => exact hc
     rw [hq, jF, PR.bind_of (xHF _ x _ _ _ hn)]
     exact ih m' _ _ _ _ (by omega) h
   · cases h
     obtain ⟨h1, h2⟩ := xIK hc x
     rw [h1, jT, h2]
theorem xNu {f f' : List Tok → PR Exp} (hf : Ext x f f') (h0 : xLb f) {m m' : Nat} (hm : m ≤ m') (c : Str) : Ext x (xKV f m c) (xKV f' m' c) := by
 intro ts a r h
 unfold xKV at h ⊢
 cases hc : seeS c ts <;> rw [hc] at h
 · have hts : seeS c (ts ++ x) = false := by
    cases ts with
    | nil =>
      cases m with
      | zero => cases h
      | succ m =>
        obtain ⟨e, q, he, _⟩ := PR.bind_ok h
        exact absurd he (h0 e q)
    | cons t p => exact hc
   rw [hts]
   exact xPE hf c m m' [] ts a r hm h
 · cases h
   obtain ⟨h1, h2⟩ := xIK hc x
   rw [h1, jT, h2]
theorem xMs {f f' : List Tok → PR Exp} (hf : Ext x f f') (h0 : xLb f) {m m' : Nat} (hm : m ≤ m') {t : Tok} {q r : List Tok} {e : Exp} (h : xJk f m t q = .ok e r) : xJk f' m' t (q ++ x) = .ok e (r ++ x) := by
 unfold xJk at h ⊢
 cases c1 : isS t [91] <;> rw [c1] at h
 · cases c2 : isS t [40] <;> rw [c2] at h
   · cases h
   · obtain ⟨e', u, he, h⟩ := PR.bind_ok h
     obtain ⟨_, v, hn, h⟩ := PR.bind_ok h
     cases h
     simp only [jT, jF]
     rw [PR.bind_of (hf _ _ _ he), PR.bind_of (xHF _ x _ _ _ hn)]
 · obtain ⟨a, u, ha, h⟩ := PR.bind_ok h
   cases h
   simp only [jT]
   rw [PR.bind_of (xNu hf h0 hm _ _ _ _ ha)]
theorem xRh {f f' : List Tok → PR Exp} (hf : Ext x f f') (h0 : xLb f) {m m' : Nat} (hm : m ≤ m') : Ext x (xJ1 f m) (xJ1 f' m') := by
 intro ts e r h
 cases ts with
 | nil => cases h
 | cons t q =>
   simp only [xJ1, List.cons_append] at h ⊢
   cases c1 : t.kind == 2 <;> rw [c1] at h
   · cases c2 : t.kind == 3 <;> rw [c2] at h
     · cases c3 : t.kind == 1 <;> rw [c3] at h
       · exact xMs hf h0 hm h
       · cases c4 : xDE t.text <;> rw [c4] at h
         · cases c5 : decide (argc t.text ≥ 0) <;> rw [c5] at h
           · exact xMs hf h0 hm h
           · obtain ⟨_, u, hn, h⟩ := PR.bind_ok h
             obtain ⟨a, v, ha, h⟩ := PR.bind_ok h
             cases h
             simp only [jT, jF]
             rw [PR.bind_of (xHF _ x _ _ _ hn), PR.bind_of (xNu hf h0 hm _ _ _ _ ha)]
         · cases h; rfl
     · cases h; rfl
   · cases h; rfl
theorem xPA (f : List Tok → PR Exp) (m : Nat) : xLb (xJ1 f m) := fun a r h => by cases h
theorem xKy {f : List Tok → PR Exp} (h : xLb f) (k : Exp → List Tok → PR Exp) : xLb fun ts => (f ts).bind k := fun a r h' => by
 obtain ⟨e, q, he, _⟩ := PR.bind_ok h'
 exact h e q he
theorem xPF (hx : xMx x) {g g' : List Tok → PR Exp} (hg : Ext x g g') : ∀ (m m' : Nat) (a : Exp) (ts : List Tok) (e : Exp) (r : List Tok), m ≤ m' → xJn g m a ts = .ok e r → xJn g' m' a (ts ++ x) = .ok e (r ++ x) := by
 intro m
 induction m with
 | zero => intro m' a ts e r _ h; cases h
 | succ m ih =>
   intro m' a ts e r hm h
   obtain ⟨m', rfl⟩ : ∃ k, m' = k + 1 := ⟨m' - 1, by omega⟩
   unfold xJn at h ⊢
   cases c1 : seeS [42] ts <;> rw [c1] at h
   · cases h
     rw [xIn hx.1 c1]; rfl
   · obtain ⟨b, q, hb, h⟩ := PR.bind_ok h
     obtain ⟨h1, h2⟩ := xIK c1 x
     rw [h1, jT, h2, PR.bind_of (hg _ _ _ hb)]
     exact ih m' _ _ _ _ (by omega) h
theorem xRo (hx : xMx x) {g g' : List Tok → PR Exp} (hg : Ext x g g') : ∀ (m m' : Nat) (a : Exp) (ts : List Tok) (e : Exp) (r : List Tok), m ≤ m' → xJ4 g m a ts = .ok e r → xJ4 g' m' a (ts ++ x) = .ok e (r ++ x) := by
 intro m
 induction m with
 | zero => intro m' a ts e r _ h; cases h
 | succ m ih =>
   intro m' a ts e r hm h
   obtain ⟨m', rfl⟩ : ∃ k, m' = k + 1 := ⟨m' - 1, by omega⟩
   unfold xJ4 at h ⊢
   cases c1 : seeS [43] ts <;> rw [c1] at h
   · rw [xIn hx.2.1 c1]
     cases c2 : seeS [45] ts <;> rw [c2] at h
     · cases h
       rw [xIn hx.2.2.1 c2]; rfl
     · obtain ⟨b, q, hb, h⟩ := PR.bind_ok h
       obtain ⟨h1, h2⟩ := xIK c2 x
       rw [h1, jT, jF, h2, PR.bind_of (hg _ _ _ hb)]
       exact ih m' _ _ _ _ (by omega) h
   · obtain ⟨b, q, hb, h⟩ := PR.bind_ok h
     obtain ⟨h1, h2⟩ := xIK c1 x
     rw [h1, jT, h2, PR.bind_of (hg _ _ _ hb)]
     exact ih m' _ _ _ _ (by omega) h
theorem xRm (hx : xMx x) {g g' : List Tok → PR Exp} (hg : Ext x g g') {m m' : Nat} (hm : m ≤ m') : Ext x (xLV g m) (xLV g' m') := by
 intro ts e r h
 obtain ⟨a, q, ha, h⟩ := PR.bind_ok h
 unfold xLV
 rw [PR.bind_of (hg _ _ _ ha)]
 exact xPF hx hg _ _ _ _ _ _ hm h
theorem xVi (hx : xMx x) {g g' : List Tok → PR Exp} (hg : Ext x g g') {m m' : Nat} (hm : m ≤ m') : Ext x (pSum g m) (pSum g' m') := by
 intro ts e r h
 obtain ⟨a, q, ha, h⟩ := PR.bind_ok h
 unfold pSum
 rw [PR.bind_of (hg _ _ _ ha)]
 exact xRo hx hg _ _ _ _ _ _ hm h
theorem xVh (hx : xMx x) {g g' : List Tok → PR Exp} (hg : Ext x g g') : Ext x (pCmp g) (pCmp g') := by
 intro ts e r h
 obtain ⟨a, q, ha, h⟩ := PR.bind_ok h
 unfold pCmp
 rw [PR.bind_of (hg _ _ _ ha)]
 unfold xPB at h ⊢
 cases c1 : seeS [60] q <;> rw [c1] at h
 · rw [xIn hx.2.2.2.1 c1]
   cases c2 : seeS [61, 61] q <;> rw [c2] at h
   · cases h
     rw [xIn hx.2.2.2.2 c2]; rfl
   · obtain ⟨b, u, hb, h⟩ := PR.bind_ok h
     cases h
     obtain ⟨h1, h2⟩ := xIK c2 x
     rw [h1, jT, jF, h2, PR.bind_of (hg _ _ _ hb)]
 · obtain ⟨b, u, hb, h⟩ := PR.bind_ok h
   cases h
   obtain ⟨h1, h2⟩ := xIK c1 x
   rw [h1, jT, h2, PR.bind_of (hg _ _ _ hb)]
theorem xPb {f f' : List Tok → PR Exp} (hf : Ext x f f') (k : Int) (s1 s2 : Str) : Ext x (pTwo f k s1 s2) (pTwo f' k s1 s2) := by
 intro ts e r h
 obtain ⟨n, q1, e1, h⟩ := PR.bind_ok h
 obtain ⟨_, q2, e2, h⟩ := PR.bind_ok h
 obtain ⟨a, q3, e3, h⟩ := PR.bind_ok h
 obtain ⟨_, q4, e4, h⟩ := PR.bind_ok h
 obtain ⟨b, q5, e5, h⟩ := PR.bind_ok h
 cases h
 unfold pTwo
 rw [PR.bind_of (xRl x _ _ _ e1), PR.bind_of (xHF _ x _ _ _ e2), PR.bind_of (hf _ _ _ e3), PR.bind_of (xHF _ x _ _ _ e4), PR.bind_of (hf _ _ _ e5)]
theorem vAy {f f' : List Tok → PR Exp} (hf : Ext x f f') : Ext x (pIf f) (pIf f') := by
 intro ts e r h
 obtain ⟨a, q1, e1, h⟩ := PR.bind_ok h
 obtain ⟨_, q2, e2, h⟩ := PR.bind_ok h
 obtain ⟨b, q3, e3, h⟩ := PR.bind_ok h
 obtain ⟨_, q4, e4, h⟩ := PR.bind_ok h
 obtain ⟨c, q5, e5, h⟩ := PR.bind_ok h
 cases h
 unfold pIf
 rw [PR.bind_of (hf _ _ _ e1), PR.bind_of (xHF _ x _ _ _ e2), PR.bind_of (hf _ _ _ e3), PR.bind_of (xHF _ x _ _ _ e4), PR.bind_of (hf _ _ _ e5)]
theorem xRn (hx : xMx x) {f f' : List Tok → PR Exp} (hf : Ext x f f') (h0 : xLb f) {m m' : Nat} (hm : m ≤ m') : Ext x (xNx f m) (xNx f' m') := xVi hx (xRm hx (xRh hf h0 hm) hm) hm
theorem xMt (f : List Tok → PR Exp) (m : Nat) : xLb (xNx f m) := xKy (xKy (xPA f m) _) _
theorem xLS {f g : List Tok → PR Exp} (hg : xLb g) : xLb (xJl f g) := fun a r h => xKy hg _ a r h
theorem xPD (hx : xMx x) {f f' g g' : List Tok → PR Exp} (hf : Ext x f f') (hg : Ext x g g') (g0 : xLb g) : Ext x (xJl f g) (xJl f' g') := by
 intro ts e r h
 have hne : ∃ t q, ts = t :: q := by
  cases ts with
  | nil => exact absurd h (xLS g0 e r)
  | cons t q => exact ⟨t, q, rfl⟩
 obtain ⟨t, q, rfl⟩ := hne
 unfold xJl at h ⊢
 have hk : ∀ s, seeK s (t :: q ++ x) = seeK s (t :: q) := fun s => rfl
 rw [hk, hk, hk]
 cases c1 : seeK [108, 101, 116] (t :: q) <;> rw [c1] at h
 · cases c2 : seeK [105, 102] (t :: q) <;> rw [c2] at h
   · cases c3 : seeK [102, 111, 114] (t :: q) <;> rw [c3] at h
     · exact xVh hx hg _ _ _ h
     · exact xPb hf _ _ _ _ _ _ h
   · exact vAy hf _ _ _ h
 · exact xPb hf _ _ _ _ _ _ h
theorem vAx : ∀ m, xLb (pE m)
 | 0 => fun a r h => by cases h
 | m + 1 => xLS (xMt _ _)
theorem xRi (hx : xMx x) : ∀ m m', m ≤ m' → Ext x (pE m) (pE m')
 | 0, _, _ => fun ts a r h => by cases h
 | m + 1, 0, h => absurd h (by omega)
 | m + 1, m' + 1, h => xPD hx (xRi hx m m' (by omega)) (xRn hx (xRi hx m m' (by omega)) (vAx m) h) (xMt _ _)
end
theorem xLs {p : UInt8 → Bool} {c : UInt8} (hc : p c = false) (y : Str) : ∀ l : Str, (l ++ c :: y).dropWhile p = l.dropWhile p ++ c :: y
 | [] => by simp [List.dropWhile_cons, hc]
 | d :: l => by
   cases h : p d
   · simp [List.dropWhile_cons, h]
   · have := xLs hc y l
     simp only [List.cons_append, List.dropWhile_cons, h, if_true, this]
theorem xMg {p : UInt8 → Bool} : ∀ {l : Str} {q : UInt8} {r : Str}, l.dropWhile p = q :: r → ∀ z : Str, (l ++ z).dropWhile p = q :: (r ++ z)
 | [], q, r, h, z => by cases h
 | d :: l, q, r, h, z => by
   rw [List.cons_append]
   rw [List.dropWhile_cons] at h ⊢
   cases hd : p d
   · rw [hd] at h
     simp only [Bool.false_eq_true, if_false, List.cons.injEq] at h ⊢
     rw [h.1, h.2]; exact ⟨rfl, rfl⟩
   · rw [hd] at h
     simp only [if_true] at h ⊢
     exact xMg h z
theorem xVt (l y : Str) (r : Str) (h : r.length ≤ l.length) : (l ++ y).take ((l ++ y).length - (r ++ y).length) = l.take (l.length - r.length) := by
 rw [jA, jA, show l.length + y.length - (r.length + y.length) = l.length - r.length from by omega, List.take_append_of_le_length (by omega)]
theorem xQa {p : Int} {s r : Str} {t : Tok} {c : UInt8} (hc1 : isWd c = false) (hc2 : c.toNat ≠ 61) (hc3 : xCp c = false) (y : Str) (h : xHz p s = some (t, r)) : xHz p (s ++ c :: y) = some (t, r ++ c :: y) := by
 cases s with
 | nil => cases h
 | cons d l =>
   have d0 := xEm (p := isWd) (d :: l)
   have d1 := xEm (p := xCp) (d :: l)
   have d2 := xEm (p := notQ) l
   rw [xDV] at h
   rw [List.cons_append, xDV]
   have w1 : (d :: (l ++ c :: y)).dropWhile isWd = (d :: l).dropWhile isWd ++ c :: y := xLs hc1 y (d :: l)
   have w2 : (d :: (l ++ c :: y)).dropWhile xCp = (d :: l).dropWhile xCp ++ c :: y := xLs hc3 y (d :: l)
   have l1 : (d :: (l ++ c :: y)).length = (d :: l).length + (c :: y).length := by simp only [jC, jA]; omega
   have k1 : (d :: (l ++ c :: y)).length - ((d :: l).dropWhile isWd ++ c :: y).length = (d :: l).length - ((d :: l).dropWhile isWd).length := by rw [l1, jA]; omega
   have k2 : (d :: (l ++ c :: y)).length - ((d :: l).dropWhile xCp ++ c :: y).length = (d :: l).length - ((d :: l).dropWhile xCp).length := by rw [l1, jA]; omega
   have t1 : ∀ k, k ≤ (d :: l).length → (d :: (l ++ c :: y)).take k = (d :: l).take k := fun k hk => by
    rw [← List.cons_append, List.take_append_of_le_length hk]
   rw [w1, w2, k1, k2, t1 _ (by omega), t1 _ (by omega)]
   cases h1 : xHQ d <;> rw [h1] at h
   · cases h2 : xCp d <;> rw [h2] at h
     · cases h3 : d.toNat == 34 <;> rw [h3] at h
       · have hp : Lib.hasPrefix (d :: (l ++ c :: y)) [61, 61] = Lib.hasPrefix (d :: l) [61, 61] := by
          unfold Lib.hasPrefix
          cases l with
          | nil =>
            have : (61 == c) = false := beq_eq_false_iff_ne.2 fun e => hc2 (by rw [← e]; rfl)
            simp [List.isPrefixOf, this]
          | cons a b => simp [List.isPrefixOf]
         rw [hp]
         cases h4 : Lib.hasPrefix (d :: l) [61, 61] <;> rw [h4] at h
         · obtain ⟨hb, hx⟩ := xGO h
           cases hx
           simp only [hb, jT, jF]
         · cases h
           cases l with
           | nil => simp [Lib.hasPrefix, List.isPrefixOf] at h4
           | cons a b => rfl
       · simp only [jT, jF] at h ⊢
         cases he : l.dropWhile notQ with
         | nil => rw [he] at h; cases h
         | cons q r' =>
           rw [he] at h d2
           simp only at h
           obtain ⟨hb, hx⟩ := xGO h
           cases hx
           have e2 : (l ++ c :: y).dropWhile notQ = q :: (r ++ c :: y) := xMg he (c :: y)
           rw [e2]
           simp only
           have e3 : (l ++ c :: y).take ((l ++ c :: y).length - (q :: (r ++ c :: y)).length) = l.take (l.length - (q :: r).length) := xVt l (c :: y) (q :: r) d2
           rw [e3, hb]; rfl
     · simp only [jT, jF] at h ⊢
       obtain ⟨hb, hx⟩ := xGO h
       cases hx
       rw [hb]; rfl
   · simp only [jT] at h ⊢
     obtain ⟨hb, hx⟩ := xGO h
     cases hx
     rw [hb]; rfl
theorem xR1 {c : UInt8} (hc1 : isWd c = false) (hc2 : c.toNat ≠ 61) (hc3 : xCp c = false) (y : Str) : ∀ (n m : Nat) (p : Int) (acc T : List Tok) (s : Str), lexL n p acc s = (T, -1) → 0 ≤ p → n + y.length + 1 ≤ m → ∃ k, y.length + 2 ≤ k ∧ lexL m p acc (s ++ c :: y) = lexL k (p + s.length) T (c :: y) := by
 intro n
 induction n with
 | zero => intro m p acc T s h hp _; simp only [lexL, Prod.mk.injEq] at h; omega
 | succ n ih =>
   intro m p acc T s h hp hm
   obtain ⟨m, rfl⟩ : ∃ k, m = k + 1 := ⟨m - 1, by omega⟩
   cases s with
   | nil =>
     simp only [lexL, Prod.mk.injEq] at h
     refine ⟨m + 1, by omega, ?_⟩
     rw [h.1]
     simp
   | cons d l =>
     simp only [lexL, List.cons_append] at h ⊢
     cases h32 : d.toNat == 32 <;> rw [h32] at h
     · simp only [jF] at h ⊢
       cases ho : xHz p (d :: l) with
       | none => rw [ho] at h; simp only [Prod.mk.injEq] at h; omega
       | some z =>
         obtain ⟨t, r⟩ := z
         rw [ho] at h
         have he := xQa hc1 hc2 hc3 y ho
         rw [List.cons_append] at he
         rw [he]
         simp only at h ⊢
         cases h60 : acc.length == 60 <;> rw [h60] at h
         · simp only [jF] at h ⊢
           have hr := xI1 ho
           have e1 : (d :: (l ++ c :: y)).length - (r ++ c :: y).length = (d :: l).length - r.length := by
            simp only [jC, jA]; omega
           rw [e1]
           obtain ⟨k, hk, e⟩ := ih m _ _ _ _ h (by omega) (by omega)
           refine ⟨k, hk, ?_⟩
           rw [e, show p + (((d :: l).length - r.length : Nat) : Int) + (r.length : Int) = p + ((d :: l).length : Int) from by omega]
         · simp only [jT, Prod.mk.injEq] at h; omega
     · simp only [jT] at h ⊢
       obtain ⟨k, hk, e⟩ := ih m _ _ _ _ h (by omega) (by omega)
       refine ⟨k, hk, ?_⟩
       rw [e, show p + 1 + (l.length : Int) = p + ((d :: l).length : Int) from by simp only [jC]; omega]
theorem xPI {s : Str} (h : (xFG s).2 < 0) : (xFG (s ++ [32, 41])).2 = s.length + 1 ∨ (s.length + 2 > 120 ∧ (xFG (s ++ [32, 41])).2 = 120) := by
 obtain ⟨g1, g2, g3⟩ := xLl s
 have hneg : (lex s).2 = -1 := by
  rcases g3 with g3 | ⟨g3, _⟩
  · exact g3
  · exfalso
    unfold xFG at h
    rw [decide_eq_true g3, jT] at h
    omega
 by_cases hl : s.length + 2 > 120
 · right
   have e : lex (s ++ [32, 41]) = ([], 120) := by
    have hlen : (s ++ [32, 41]).length = s.length + 2 := by simp
    unfold lex
    rw [hlen, decide_eq_true hl]
    rfl
   refine ⟨hl, ?_⟩
   unfold xFG
   rw [e]; rfl
 · left
   have hs : lex s = lexL (s.length + 1) 0 [] s := by
    unfold lex
    rw [decide_eq_false (by omega)]; rfl
   have hs2 : lex (s ++ [32, 41]) = lexL ((s ++ [32, 41]).length + 1) 0 [] (s ++ [32, 41]) := by
    unfold lex
    rw [decide_eq_false (by rw [jA]; simp only [jC, jN]; omega)]; rfl
   obtain ⟨k, hk, he⟩ := xR1 (c := 32) (by decide) (by decide) (by decide) [41] (s.length + 1) ((s ++ [32, 41]).length + 1) 0 [] (lex s).1 s (by rw [← hs, ← hneg]) (by omega) (by rw [jA]; simp only [jC, jN]; omega)
   simp only [jC, jN] at hk
   obtain ⟨k, rfl⟩ : ∃ j, k = j + 3 := ⟨k - 3, by omega⟩
   have e2 : lexL (k + 3) (0 + (s.length : Int)) (lex s).1 [32, 41] = bif (lex s).1.length == 60 then ([], (s.length : Int) + 1) else ((lex s).1 ++ [Tok.mk 4 0 ((s.length : Int) + 1) [41]], -1) := by
    have a1 : xHz (0 + (s.length : Int) + 1) [41] = some (⟨4, 0, 0 + (s.length : Int) + 1, [41]⟩, []) := rfl
    show lexL (k + 2) (0 + (s.length : Int) + 1) (lex s).1 [41] = _
    simp only [lexL, show ((41 : UInt8).toNat == 32) = false from rfl, jF, a1]
    rw [show (0 : Int) + (s.length : Int) + 1 = (s.length : Int) + 1 from by omega]
   rw [hs2.symm, e2] at he
   cases h60 : (lex s).1.length == 60
   · rw [h60, jF] at he
     have hT := xPk g1 g2
     have hpar : ∃ e, pE ((lex s).1.length + 1) (lex s).1 = .ok e [] := by
      unfold xFG at h
      rw [hneg] at h
      have h : (xJo s.length (lex s).1).2 < 0 := h
      unfold xJo at h
      have hW := xVH g1 (L := s.length) (by omega)
      have hN := xRj (N := 20001) hT (by omega) (by omega) (by omega) ((lex s).1.length + 1) 20001 (by omega) (lex s).1 (List.suffix_refl _) (by omega)
      cases hp : pE ((lex s).1.length + 1) (lex s).1 with
      | err ts =>
        rw [hp] at h hN
        obtain ⟨_, p, _, _, _, hsuf⟩ := hN
        cases ts with
        | nil => have h : (s.length : Int) < 0 := h; omega
        | cons t q =>
          have h : t.pos < 0 := h
          have := (g1 t (hsuf.subset List.mem_cons_self)).pos
          omega
      | ok e ts =>
        rw [hp] at h hN
        cases ts with
        | nil => exact ⟨e, rfl⟩
        | cons t q =>
          have h : t.pos < 0 := h
          have := (g1 t (hN.1.subset List.mem_cons_self)).pos
          omega
     obtain ⟨e, hpe⟩ := hpar
     have hq : xMx [Tok.mk 4 0 ((s.length : Int) + 1) [41]] := ⟨rfl, rfl, rfl, rfl, rfl⟩
     have := xRi hq ((lex s).1.length + 1) (((lex s).1 ++ [Tok.mk 4 0 ((s.length : Int) + 1) [41]]).length + 1) (by rw [jA]; omega) _ _ _ hpe
     unfold xFG
     rw [he]
     show (xJo _ ((lex s).1 ++ [Tok.mk 4 0 ((s.length : Int) + 1) [41]])).2 = _
     unfold xJo
     rw [this]
     rfl
   · rw [h60, jT] at he
     unfold xFG
     rw [he]
     simp only
     rw [decide_eq_true (by omega : (s.length : Int) + 1 ≥ 0), jT]
end Go.Ab
end
section
namespace Go.Ab
def Ret {α : Type} (o : Option α) (Q : α → Prop) : Prop := ∃ r, o = some r ∧ Q r
theorem Ret.mk' {α : Type} {a : α} {Q : α → Prop} (h : Q a) : Ret (Option.some a) Q := ⟨a, rfl, h⟩
theorem Ret.bnd {α β : Type} {o : Option α} {f : α → Option β} {P : α → Prop} {Q : β → Prop} (h : Ret o P) (hf : ∀ a, P a → Ret (f a) Q) : Ret (Option.bind o f) Q := by
 obtain ⟨a, rfl, ha⟩ := h
 exact hf a ha
theorem Ret.cnd {α : Type} {b : Bool} {x y : Option α} {Q : α → Prop} (h1 : b = true → Ret x Q) (h2 : b = false → Ret y Q) : Ret (bif b then x else y) Q := by
 cases b
 · exact h2 rfl
 · exact h1 rfl
theorem Ret.chk {α : Type} {p : Prop} [Decidable p] {x : Option α} {Q : α → Prop} (hp : p) (h : Ret x Q) : Ret (if p then x else none) Q := by
 rw [if_pos hp]; exact h
theorem Ret.imp {α : Type} {o : Option α} {P Q : α → Prop} (h : Ret o P) (hi : ∀ a, P a → Q a) : Ret o Q := by
 obtain ⟨a, e, ha⟩ := h
 exact ⟨a, e, hi a ha⟩
structure CurOk (c : Cur) : Prop where
 lo : 0 ≤ c.i
 len : c.b.length ≤ 1048576
def Dr {α : Type} (P : α → Prop) : α × Cur → Prop := fun r => P r.1 ∧ CurOk r.2
theorem xPV (x : Int) : 0 ≤ andI .i64 x 255 ∧ andI .i64 x 255 ≤ 255 := by
 unfold andI
 have h : (BitVec.ofInt IntKind.i64.bits x &&& BitVec.ofInt IntKind.i64.bits 255).toNat ≤ 255 := by
  rw [BitVec.toNat_and]
  exact Nat.and_le_right
 rw [xBh (by omega) (by omega)]
 omega
theorem xLq {N : Nat} {c : Cur} (h : CurOk c) : Ret (xFt N c) (Dr fun v => 0 ≤ v ∧ v ≤ 255) := by
 unfold xFt
 have h1 := h.lo
 have h2 := h.len
 refine .cnd (fun hc => ?_) (fun _ => .mk' ⟨xPV _, h1, h2⟩)
 have hc := of_decide_eq_true hc
 refine .chk ⟨h1, hc⟩ (.mk' ⟨xPV _, ?_, h2⟩)
 show 0 ≤ IntKind.i64.wrap (c.i + 1)
 rw [xBh (by omega) (by omega)]
 omega
theorem vBP {x n : Int} (hx : 0 ≤ x) (hn : 0 < n) : 0 ≤ Int.tmod x n ∧ Int.tmod x n < n := by
 rw [Int.tmod_eq_emod_of_nonneg hx]
 exact ⟨Int.emod_nonneg _ (by omega), Int.emod_lt_of_pos _ hn⟩
theorem xOH {N : Nat} {c : Cur} {n : Int} (h : CurOk c) : Ret (xAR N c n) (Dr fun v => 0 ≤ v ∧ (v < n ∨ v = 0)) := by
 unfold xAR
 refine .cnd (fun _ => .mk' ⟨⟨by omega, .inr rfl⟩, h⟩) (fun hc => ?_)
 have hc : ¬ n ≤ 0 := of_decide_eq_false hc
 have hn : n ≠ 0 := by omega
 refine .cnd (fun _ => .bnd (xLq h) fun a ha => ?_) (fun _ => .bnd (xLq h) fun a ha => .bnd (xLq ha.2) fun b hb => .bnd (xLq hb.2) fun d hd => .bnd (xLq hd.2) fun e he => ?_)
 · have := vBP ha.1.1 (by omega : 0 < n)
   exact .chk hn (.mk' ⟨⟨this.1, .inl this.2⟩, ha.2⟩)
 · have a1 := ha.1; have b1 := hb.1; have d1 := hd.1; have e1 := he.1
   have key : ∀ x y z w : Int, (0 ≤ x ∧ x ≤ 255) → (0 ≤ y ∧ y ≤ 255) → (0 ≤ z ∧ z ≤ 255) → (0 ≤ w ∧ w ≤ 255) →
    0 ≤ IntKind.i64.wrap ((IntKind.i64.wrap ((IntKind.i64.wrap ((IntKind.i64.wrap (x * 16777216)) + (IntKind.i64.wrap (y * 65536)))) + (IntKind.i64.wrap (z * 256)))) + w) := by
    intro x y z w hx hy hz hw
    rw [xBh (x := x * 16777216) (by omega) (by omega), xBh (x := y * 65536) (by omega) (by omega), xBh (x := z * 256) (by omega) (by omega), xBh (x := x * 16777216 + y * 65536) (by omega) (by omega),
     xBh (x := x * 16777216 + y * 65536 + z * 256) (by omega) (by omega), xBh (by omega) (by omega)]
    omega
   have := vBP (key _ _ _ _ a1 b1 d1 e1) (by omega : 0 < n)
   exact .chk hn (.mk' ⟨⟨this.1, .inl this.2⟩, he.2⟩)
theorem xVv {N : Nat} {c : Cur} {n : Int} (h : CurOk c) (hn : 0 < n) : Ret (xAR N c n) (Dr fun v => 0 ≤ v ∧ v < n) :=
 (xOH h).imp fun a ha => ⟨⟨ha.1.1, by have := ha.1.2; omega⟩, ha.2⟩
theorem xV6 {N : Nat} {c : Cur} {n : Int} (h : CurOk c) : Ret (xFW N c n) (Dr fun _ => True) :=
 .bnd (xOH h) fun a ha => .mk' ⟨trivial, ha.2⟩
theorem xPJ {N : Nat} {c : Cur} {l : List Str} (h : CurOk c) (hl : 0 < l.length) : Ret (xC0 N c l) (Dr fun v => v ∈ l) := by
 refine .bnd (xVv h (by omega)) fun a ha => ?_
 have h1 := ha.1
 refine .chk h1 (.mk' ⟨?_, ha.2⟩)
 have hlt : a.1.toNat < l.length := by omega
 show List.getD l a.1.toNat _ ∈ l
 rw [xCw (List.getElem?_eq_getElem hlt)]
 exact List.getElem_mem hlt
end Go.Ab
end
section
namespace Go.Ab
def U {ι α : Type} (S : ι → Prop) (o : ι → Option α) (Q : α → Prop) : Prop := ∃ r, Q r ∧ ∀ x, S x → o x = some r
section
variable {ι α β : Type} {S : ι → Prop} {P : α → Prop} {Q : β → Prop}
theorem U.mk' {a : α} (h : P a) : U S (fun _ => some a) P := ⟨a, h, fun _ _ => rfl⟩
theorem U.bnd {o : ι → Option α} {f : ι → α → Option β} (h : U S o P) (hf : ∀ a, P a → U S (fun x => f x a) Q) : U S (fun x => Option.bind (o x) (f x)) Q := by
 obtain ⟨a, ha, e⟩ := h
 obtain ⟨b, hb, e'⟩ := hf a ha
 exact ⟨b, hb, fun x hx => by show (o x).bind (f x) = _; rw [e x hx]; exact e' x hx⟩
theorem U.cnd {b : Bool} {p q : ι → Option α} (h1 : b = true → U S p P) (h2 : b = false → U S q P) : U S (fun x => bif b then p x else q x) P := by
 cases b
 · exact h2 rfl
 · exact h1 rfl
theorem U.chk {p : Prop} [Decidable p] {o : ι → Option α} (hp : p) (h : U S o P) : U S (fun x => if p then o x else none) P := by
 obtain ⟨a, ha, e⟩ := h
 exact ⟨a, ha, fun x hx => by show (if p then o x else none) = _; rw [if_pos hp]; exact e x hx⟩
theorem U.pre {κ : Type} {T : κ → Prop} {o : κ → Option α} (h : U T o P) (g : ι → κ) (hg : ∀ x, S x → T (g x)) : U S (fun x => o (g x)) P := by
 obtain ⟨a, ha, e⟩ := h
 exact ⟨a, ha, fun x hx => e _ (hg x hx)⟩
theorem U.ret {o : Nat → Option α} (g : ι → Nat) (h : Ret (o 0) P) (hc : ∀ N, o N = o 0) : U S (fun x => o (g x)) P := by
 obtain ⟨a, e, ha⟩ := h
 exact ⟨a, ha, fun x _ => (hc _).trans e⟩
end
theorem forU {σ ρ : Type} {L : Nat → Nat → Int → σ → Option ρ} {Q : ρ → Prop} {B : Nat} (len : Nat) (Inv : Nat → σ → Prop) (hB : len ≤ B)
 (hend : ∀ st, Inv len st → U (fun x : Nat × Nat => B < x.1) (fun x => L x.1 (x.2 + 1) (len : Nat) st) Q)
 (hstep : ∀ i st, i < len → Inv i st → (∀ st', Inv (i + 1) st' → U (fun x : Nat × Nat => B < x.1 ∧ len - (i + 1) < x.2) (fun x => L x.1 x.2 ((i + 1 : Nat) : Int) st') Q) → U (fun x : Nat × Nat => B < x.1 ∧ len - (i + 1) < x.2) (fun x => L x.1 (x.2 + 1) (i : Nat) st) Q) :
 ∀ st, Inv 0 st → U (fun N : Nat => B < N) (fun N => L N N 0 st) Q := by
 have key : ∀ k i st, len - i = k → i ≤ len → Inv i st → U (fun x : Nat × Nat => B < x.1 ∧ len - i < x.2) (fun x => L x.1 x.2 (i : Nat) st) Q := by
  intro k
  induction k with
  | zero =>
    intro i st hk hi hs
    have : i = len := by omega
    subst this
    obtain ⟨r, hr, e⟩ := hend st hs
    refine ⟨r, hr, fun x hx => ?_⟩
    obtain ⟨N, n⟩ := x
    obtain ⟨m, rfl⟩ : ∃ m, n = m + 1 := ⟨n - 1, by have := hx.2; simp at this; omega⟩
    exact e (N, m) hx.1
  | succ k ih =>
    intro i st hk hi hs
    obtain ⟨r, hr, e⟩ := hstep i st (by omega) hs fun st' h' => ih (i + 1) st' (by omega) (by omega) h'
    refine ⟨r, hr, fun x hx => ?_⟩
    obtain ⟨N, n⟩ := x
    have h2 : len - i < n := hx.2
    obtain ⟨m, rfl⟩ : ∃ m, n = m + 1 := ⟨n - 1, by omega⟩
    exact e (N, m) ⟨hx.1, by show len - (i + 1) < m; omega⟩
 intro st hs
 exact (key len 0 st (by omega) (by omega) hs).pre (fun N => (N, N)) fun N hN => ⟨hN, by have : B < N := hN; show len - 0 < N; omega⟩
section
variable {ι : Type} {S : ι → Prop} {c : Cur}
theorem xKc (g : ι → Nat) {n : Int} (h : CurOk c) (hn : 0 < n) : U S (fun x => xAR (g x) c n) (Dr fun v => 0 ≤ v ∧ v < n) := .ret (o := fun N => xAR N c n) g (xVv h hn) fun _ => rfl
theorem vBC (g : ι → Nat) {n : Int} (h : CurOk c) : U S (fun x => xFW (g x) c n) (Dr fun _ => True) := .ret (o := fun N => xFW N c n) g (xV6 h) fun _ => rfl
theorem vAz (g : ι → Nat) {l : List Str} (h : CurOk c) (hl : 0 < l.length) : U S (fun x => xC0 (g x) c l) (Dr fun v => v ∈ l) := .ret (o := fun N => xC0 N c l) g (xPJ h hl) fun _ => rfl
theorem newU (g : ι → Nat) {a : List Int} (h : a.length ≤ 1048576) (hS : ∀ x, S x → 1048576 < g x) : U S (fun x => xGY (g x) a) CurOk := by
 have key : U (fun N : Nat => 1048576 < N) (fun N => xGY N a) CurOk := by
  unfold xGY
  refine forU (σ := Int) (L := fun N m i st => xF4 N m a st i) (B := 1048576) a.length (fun _ _ => True) h (fun st _ => ?_) (fun i st hi _ ih => ?_) _ trivial
  · simp only [xF4, Int.lt_irrefl, decide_false, jF]
    exact .mk' ⟨by show (0 : Int) ≤ 0; omega, h⟩
  · simp only [xF4, decide_eq_true (show (i : Int) < (a.length : Int) by omega), jT, xBy hi (by omega : a.length ≤ _)]
    exact .cnd (fun _ => .chk ⟨by omega, by omega⟩ (ih _ trivial)) (fun _ => .mk' ⟨by show (0 : Int) ≤ 0; omega, h⟩)
 exact key.pre g hS
end
theorem xJS {v : Int} (h : 0 ≤ v) : ∃ n : Nat, v = (n : Int) := ⟨v.toNat, by omega⟩
end Go.Ab
end
section
namespace Go.Ab
def E2 {α : Type} (o : Nat → Nat → Option α) (Q : α → Prop) : Prop := ∃ r, Q r ∧ Big2 fun N d => o N d = some r
section
variable {α β : Type} {P : α → Prop} {Q : β → Prop}
theorem E2.mk' {a : α} (h : P a) : E2 (fun _ _ => some a) P := ⟨a, h, .of fun _ _ => rfl⟩
theorem E2.bnd {o : Nat → Nat → Option α} {f : Nat → Nat → α → Option β} (h : E2 o P) (hf : ∀ a, P a → E2 (fun N d => f N d a) Q) : E2 (fun N d => Option.bind (o N d) (f N d)) Q := by
 obtain ⟨a, ha, e⟩ := h
 obtain ⟨b, hb, e'⟩ := hf a ha
 exact ⟨b, hb, (e.and e').imp fun N d ⟨h1, h2⟩ => by show (o N d).bind (f N d) = _; rw [h1]; exact h2⟩
theorem E2.cnd {b : Bool} {p q : Nat → Nat → Option α} (h1 : b = true → E2 p P) (h2 : b = false → E2 q P) : E2 (fun N d => bif b then p N d else q N d) P := by
 cases b
 · exact h2 rfl
 · exact h1 rfl
theorem E2.chk {p : Prop} [Decidable p] {o : Nat → Nat → Option α} (hp : p) (h : E2 o P) : E2 (fun N d => if p then o N d else none) P := by
 obtain ⟨a, ha, e⟩ := h
 exact ⟨a, ha, e.imp fun N d h => by show (if p then o N d else none) = _; rw [if_pos hp]; exact h⟩
theorem E2.succ {o : Nat → Nat → Option α} (h : E2 (fun N d => o N (d + 1)) P) : E2 o P := by
 obtain ⟨a, ha, e⟩ := h
 exact ⟨a, ha, e.succ⟩
theorem E2.ofU {B : Nat} {o : Nat → Option α} (h : U (fun N => B < N) o P) : E2 (fun N _ => o N) P := by
 obtain ⟨a, ha, e⟩ := h
 exact ⟨a, ha, B + 1, fun N n h _ => e N (by omega)⟩
theorem E2.ofBig {o : Nat → Option α} {a : α} (h : Big fun N => o N = some a) (ha : P a) : E2 (fun N _ => o N) P := ⟨a, ha, h.two⟩
theorem E2.diag {o : Nat → Nat → Option α} (h : E2 o P) : ∃ r, P r ∧ Big fun N => o N N = some r := by
 obtain ⟨a, ha, e⟩ := h
 exact ⟨a, ha, e.diag⟩
end
theorem xIX {c : Cur} {n : Int} (h : CurOk c) (hn : 0 < n) : E2 (fun N _ => xAR N c n) (Dr fun v => 0 ≤ v ∧ v < n) := .ofU (B := 0) (xKc id h hn)
theorem vDl {c : Cur} {n : Int} (h : CurOk c) : E2 (fun N _ => xFW N c n) (Dr fun _ => True) := .ofU (B := 0) (vBC id h)
theorem xNz {c : Cur} {l : List Str} (h : CurOk c) (hl : 0 < l.length) : E2 (fun N _ => xC0 N c l) (Dr fun v => v ∈ l) := .ofU (B := 0) (vAz id h hl)
def EDr (s : Nat) (e : Exp) : Prop := e.Fit 1000 ∧ e.size ≤ s
theorem EDr.mono {s s' : Nat} {e : Exp} (h : EDr s e) (hs : s ≤ s') : EDr s' e := ⟨h.1, Nat.le_trans h.2 hs⟩
def sizes (a : List Exp) : Nat := (a.map Exp.size).sum
theorem xJy {k n : Int} {t : Str} {a : List Exp} {s : Nat} (hk : 0 ≤ k ∧ k ≤ 1000) (hn : 0 ≤ n ∧ n ≤ 1000) (ht : t.length ≤ 8) (ha : a.length ≤ 1000) (hx : ∀ x ∈ a, x.Fit 1000) (hs : t.length + (a.length + sizes a) ≤ s) : EDr s (.mk k n t a) :=
 ⟨xG1 (xD7 hk) (xD7 hn) (by omega) ha hx, by rw [xGd]; exact hs⟩
theorem xG0 {k n : Int} {t : Str} (hk : 0 ≤ k ∧ k ≤ 1000) (hn : 0 ≤ n ∧ n ≤ 1000) (ht : t.length ≤ 8) : EDr 8 (.mk k n t []) := xJy hk hn ht (by simp) (fun x hx => by cases hx) (by simp [sizes]; omega)
theorem all1 {p : Exp → Prop} {a : Exp} (h : p a) : ∀ x ∈ [a], p x := fun x hx => by
 simp only [List.mem_cons, List.not_mem_nil, or_false] at hx; subst hx; exact h
theorem all2 {p : Exp → Prop} {a b : Exp} (h : p a) (h' : p b) : ∀ x ∈ [a, b], p x := fun x hx => by
 simp only [List.mem_cons, List.not_mem_nil, or_false] at hx
 rcases hx with rfl | rfl <;> assumption
theorem all3 {p : Exp → Prop} {a b c : Exp} (h : p a) (h' : p b) (h'' : p c) : ∀ x ∈ [a, b, c], p x := fun x hx => by
 simp only [List.mem_cons, List.not_mem_nil, or_false] at hx
 rcases hx with rfl | rfl | rfl <;> assumption
theorem edr1 {k : Int} {t : Str} {a : Exp} {s : Nat} (hk : 0 ≤ k ∧ k ≤ 1000) (ht : t.length ≤ 8) (h : EDr s a) : EDr (s + 9) (.mk k 0 t [a]) :=
 xJy hk (by omega) ht (by simp) (all1 h.1) (by have := h.2; simp only [sizes, List.map_cons, List.map_nil, List.sum_cons, List.sum_nil, jC, jN]; omega)
theorem edr2 {k n : Int} {t : Str} {a b : Exp} {s s' : Nat} (hk : 0 ≤ k ∧ k ≤ 1000) (hn : 0 ≤ n ∧ n ≤ 1000) (ht : t.length ≤ 8) (h : EDr s a) (h' : EDr s' b) : EDr (s + s' + 10) (.mk k n t [a, b]) :=
 xJy hk hn ht (by simp) (all2 h.1 h'.1) (by have := h.2; have := h'.2; simp only [sizes, List.map_cons, List.map_nil, List.sum_cons, List.sum_nil, jC, jN]; omega)
theorem edr3 {k : Int} {t : Str} {a b c : Exp} {s s' s'' : Nat} (hk : 0 ≤ k ∧ k ≤ 1000) (ht : t.length ≤ 8) (h : EDr s a) (h' : EDr s' b) (h'' : EDr s'' c) : EDr (s + s' + s'' + 11) (.mk k 0 t [a, b, c]) :=
 xJy hk (by omega) ht (by simp) (all3 h.1 h'.1 h''.1) (by have := h.2; have := h'.2; have := h''.2; simp only [sizes, List.map_cons, List.map_nil, List.sum_cons, List.sum_nil, jC, jN]; omega)
def Nms (k : Nat) (l : List Str) : Prop := 0 < l.length ∧ l.length + 2 * k ≤ 100 ∧ ∀ s ∈ l, s.length ≤ 8
theorem xR0 {c : Cur} (h : CurOk c) {k : Nat} {l : List Str} (hl : Nms k l) : U (fun N : Nat => 1000 < N) (fun N => xGy N c l) (Dr (EDr 8)) := by
 refine .bnd (xKc id h (by decide)) fun a ha => ?_
 have num : ∀ b : Int × Cur, (0 ≤ b.1 ∧ b.1 < 6) → CurOk b.2 → U (fun N : Nat => 1000 < N) (fun N => Option.bind (xCH N b.1) fun r3 => some (r3, b.2)) (Dr (EDr 8)) := fun b h1 h2 =>
  .mk' ⟨xG0 (k := 1) (n := b.1) (t := []) (by omega) (by omega) (by simp), h2⟩
 refine .cnd (fun _ => .bnd (vAz id ha.2 (by decide)) fun b hb => .mk' ⟨xG0 (by omega) (by omega) ?_, hb.2⟩)
  (fun _ => .cnd (fun _ => .bnd (xKc id ha.2 (by decide)) fun b hb => num b hb.1 hb.2) (fun _ => .cnd (fun _ => .bnd (xKc id ha.2 (by decide)) fun b hb => num b hb.1 hb.2) (fun _ => .bnd (vAz id ha.2 hl.1) fun b hb => .mk' ⟨xG0 (k := 3) (n := 0) (by omega) (by omega) (hl.2.2 _ hb.1), hb.2⟩)))
 have := hb.1
 simp only [List.mem_cons, List.not_mem_nil, or_false] at this
 rcases this with e | e | e | e <;> rw [e] <;> decide
def LDr (i : Nat) (l : List Exp) : Prop := l.length = i ∧ (∀ x ∈ l, EDr 20 x)
theorem xPh {s : Nat} : ∀ {l : List Exp}, (∀ x ∈ l, EDr s x) → sizes l ≤ s * l.length
 | [], _ => by simp [sizes]
 | x :: l, h => by
   have h1 := (h x List.mem_cons_self).2
   have h2 := xPh fun y hy => h y (List.mem_cons_of_mem _ hy)
   simp only [sizes, List.map_cons, List.sum_cons, jC, Nat.mul_add] at h2 ⊢
   omega
theorem LDr.app {i : Nat} {l : List Exp} {x : Exp} (h : LDr i l) (hx : EDr 20 x) : LDr (i + 1) (l ++ [x]) := by
 refine ⟨by rw [jA, h.1]; rfl, fun y hy => ?_⟩
 rcases List.mem_append.1 hy with hy | hy
 · exact h.2 y hy
 · rw [List.mem_singleton.1 hy]; exact hx
theorem LDr.edr {i : Nat} {l : List Exp} (h : LDr i l) (hi : i ≤ 4) : EDr 100 (.mk 4 0 [] l) := by
 have h1 := xPh h.2
 have h2 := h.1
 exact xJy (by omega) (by omega) (by simp) (by omega) (fun x hx => (h.2 x hx).1) (by rw [h2] at h1 ⊢; simp only [jN]; omega)
theorem xR3 {c : Cur} (h : CurOk c) {k : Nat} {l : List Str} (hl : Nms k l) : U (fun N : Nat => 1000 < N) (fun N => xFT N c l) (Dr (EDr 100)) := by
 refine .bnd (xKc id h (by decide)) fun a ha => ?_
 obtain ⟨n, hn⟩ := xJS ha.1.1
 have hn2 : n < 4 := by have := ha.1.2; omega
 rw [hn]
 refine forU (σ := List Exp × Cur) (L := fun N m i st => xEI N m l n i st.2 (Exp.mk 0 0 [] []) (Exp.mk 4 0 [] st.1)) (B := 1000) n (fun i st => LDr i st.1 ∧ CurOk st.2) (by omega) (fun st hs => ?_) (fun i st hi hs ih => ?_) ([], a.2) ⟨⟨rfl, fun x hx => by cases hx⟩, ha.2⟩
 · simp only [xEI, Int.lt_irrefl, decide_false, jF]
   exact .mk' ⟨hs.1.edr (by omega), hs.2⟩
 · have hlen := hs.1.1
   simp only [xEI, xCH, decide_eq_true (show (i : Int) < (n : Int) by omega), jT, xBy hi (by omega : n ≤ _), jS, Exp.re_eq, ek, en, et, ea]
   refine .bnd (xKc _ hs.2 (by decide)) fun b hb => .chk (by simp only [jC, jN]; unfold Lim; omega) (.bnd (vBC _ hb.2) fun d hd => .cnd (fun _ => ?_) (fun _ => ih (st.1 ++ [_], d.2) ⟨hs.1.app ?_, hd.2⟩))
   · refine .bnd ((xR0 hd.2 hl).pre (fun x : Nat × Nat => x.1) fun x hx => hx.1) fun e he => .chk (by simp only [jA, jC, jN]; omega) (ih ((st.1 ++ [_]).set i e.1, e.2) ⟨⟨by rw [List.length_set, jA, hlen]; rfl, fun y hy => ?_⟩, he.2⟩)
     rcases List.mem_or_eq_of_mem_set hy with hy | hy
     · rcases List.mem_append.1 hy with hy | hy
       · exact hs.1.2 y hy
       · rw [List.mem_singleton.1 hy]
         have := hb.1
         exact (xG0 (by omega) (by omega) (by simp)).mono (by omega)
     · rw [hy]; exact he.1.mono (by omega)
   · have := hb.1
     exact (xG0 (by omega) (by omega) (by simp)).mono (by omega)
theorem xRE {c : Cur} (h : CurOk c) : U (fun N : Nat => 1000 < N) (fun N => xF2 N c) (Dr (EDr 150)) := by
 refine .bnd (xKc id h (by decide)) fun a ha => ?_
 obtain ⟨n, hn⟩ := xJS ha.1.1
 have hn2 : n < 4 := by have := ha.1.2; omega
 rw [hn]
 have z8 : ∀ {m : Int}, 0 ≤ m ∧ m ≤ 1000 → EDr 0 (Exp.mk 1 m [] []) := fun hm => xJy (by omega) hm (by simp) (by simp) (fun x hx => by cases hx) (by simp [sizes])
 refine forU (σ := List Exp × Cur) (L := fun N m i st => xEV N m n i st.2 (Exp.mk 0 0 [] []) (Exp.mk 4 0 [] st.1)) (B := 1000) n (fun i st => LDr i st.1 ∧ CurOk st.2) (by omega) (fun st hs => ?_) (fun i st hi hs ih => ?_) ([], a.2) ⟨⟨rfl, fun x hx => by cases hx⟩, ha.2⟩
 · simp only [xEV, xC2, Int.lt_irrefl, decide_false, jF, jS, Exp.re_eq]
   refine .mk' ⟨(edr2 (by omega) (by omega) (by decide) (xG0 (k := 2) (n := 0) (by omega) (by omega) (by decide)) (hs.1.edr (by omega))).mono (by omega), hs.2⟩
 · have hlen := hs.1.1
   simp only [xEV, xCH, decide_eq_true (show (i : Int) < (n : Int) by omega), jT, xBy hi (by omega : n ≤ _), jS, Exp.re_eq, ek, en, et, ea]
   refine .bnd (xKc _ hs.2 (by decide)) fun b hb => .bnd (xKc _ hb.2 (by decide)) fun d hd => .chk (by simp only [jC, jN]; unfold Lim; omega) (ih (st.1 ++ [_], d.2) ⟨hs.1.app ?_, hd.2⟩)
   have h1 := hb.1; have h2 := hd.1
   exact (edr2 (by omega) (by omega) (by simp) (z8 (by omega)) (z8 (by omega))).mono (by omega)
theorem xMv {c : Cur} (h : CurOk c) {a b : Exp} {s : Nat} (ha : EDr s a) (hb : EDr s b) : E2 (fun N _ => xDC N c a b) (Dr (EDr s)) :=
 .bnd (vDl h) fun r hr => .cnd (fun _ => .mk' ⟨ha, hr.2⟩) (fun _ => .mk' ⟨hb, hr.2⟩)
theorem xNO {c : Cur} (h : CurOk c) : E2 (fun N _ => xFA N c) (Dr (EDr 8)) := by
 refine .bnd (xNz h (by decide)) fun b hb => .mk' ⟨xG0 (by omega) (by omega) ?_, hb.2⟩
 have := hb.1
 simp only [List.mem_cons, List.not_mem_nil, or_false] at this
 rcases this with e | e | e | e | e <;> rw [e] <;> decide
def bnd4 (k : Nat) : Nat := 400 * 4 ^ k
theorem xPX (k : Nat) : bnd4 (k + 1) = 4 * bnd4 k := by unfold bnd4; rw [Nat.pow_succ]; omega
theorem xOI (k : Nat) : 400 ≤ bnd4 k := by
 unfold bnd4
 have : 0 < 4 ^ k := Nat.pow_pos (by omega)
 omega
theorem vDk : ∀ (k : Nat) (c : Cur) (l : List Str), k ≤ 10 → CurOk c → Nms k l → E2 (fun N d => xDh N d c l (k : Int)) (Dr (EDr (bnd4 k))) := by
 intro k
 induction k with
 | zero =>
   intro c l _ hc hl
   refine .succ ?_
   show E2 (fun N d => xDX N (xDh N d) c l ((0 : Nat) : Int)) _
   unfold xDX
   refine .cnd (fun _ => .bnd (.ofU (xR0 hc hl)) fun a ha => .mk' ⟨ha.1.mono (by have := xOI 0; omega), ha.2⟩) (fun h => by simp at h)
 | succ k ih =>
   intro c l hk hc hl
   have b1 := xPX k
   have b0 := xOI k
   have hl' : Nms k l := ⟨hl.1, by have := hl.2.1; omega, hl.2.2⟩
   refine .succ ?_
   show E2 (fun N d => xDX N (xDh N d) c l ((k + 1 : Nat) : Int)) _
   have wk : IntKind.i64.wrap (((k + 1 : Nat) : Int) - 1) = (k : Int) := by rw [xBh (by omega) (by omega)]; omega
   have hrec : ∀ (c : Cur) (l : List Str), CurOk c → Nms k l → E2 (fun N d => xDh N d c l (k : Int)) (Dr (EDr (bnd4 k))) := fun c l => ih c l (by omega)
   unfold xDX
   simp only [wk, sOp, xC2, xCH, jS, Exp.re_eq]
   have leaf8 : ∀ {m : Int}, 0 ≤ m ∧ m ≤ 1000 → EDr 8 (Exp.mk 1 m [] []) := fun hm => xG0 (by omega) hm (by simp)
   refine .cnd (fun _ => .bnd (.ofU (xR0 hc hl)) fun a ha => .mk' ⟨ha.1.mono (by omega), ha.2⟩) (fun _ => .bnd (xIX hc (by decide)) fun a ha => ?_)
   have op2 : E2 (fun N d => Option.bind (xAR N a.2 5) fun r2 => Option.bind (xDh N d r2.2 l (k : Int)) fun r3 => Option.bind (xDh N d r3.2 l (k : Int)) fun r4 => some (Exp.mk 6 (IntKind.i64.wrap (1 + r2.1)) [] [r3.1, r4.1], r4.2)) (Dr (EDr (bnd4 (k + 1)))) :=
    .bnd (xIX ha.2 (by decide)) fun b hb => .bnd (hrec _ _ hb.2 hl') fun x hx => .bnd (hrec _ _ hx.2 hl') fun y hy => .mk' ⟨(edr2 (by omega) (by
      have h1 := hb.1
      rw [xBh (by omega) (by omega)]; omega) (by simp) hx.1 hy.1).mono (by omega), hy.2⟩
   have nm3 : ∀ v : Str, v ∈ [[117], [118], List.getD l (Int.toNat 0) Ty.str.dflt] → v.length ≤ 8 := fun v hv => by
    simp only [List.mem_cons, List.not_mem_nil, or_false] at hv
    rcases hv with e | e | e
    · rw [e]; decide
    · rw [e]; decide
    · rw [e]
      obtain ⟨s, r, rfl⟩ : ∃ s r, l = s :: r := by
       cases l with
       | nil => exact absurd hl.1 (by simp)
       | cons s r => exact ⟨s, r, rfl⟩
      exact hl.2.2 s List.mem_cons_self
   have hpos : (0 : Int) ≤ 0 ∧ (0 : Int) < (List.length l) := ⟨by omega, by have := hl.1; omega⟩
   refine .cnd (fun _ => op2) (fun _ => .cnd (fun _ => op2) (fun _ => .cnd (fun _ => ?_) (fun _ => .cnd (fun _ => ?_) (fun _ => .cnd (fun _ => ?_) (fun _ => .cnd (fun _ => ?_) (fun _ => .cnd (fun _ => ?_) (fun _ => .cnd (fun _ => ?_) (fun _ => .cnd (fun _ => ?_) (fun _ => .cnd (fun _ => ?_) (fun _ => .cnd (fun _ => ?_) (fun _ => .cnd (fun _ => ?_) (fun _ => ?_))))))))))))
   · refine .chk hpos (.bnd (xNz ha.2 (by simp)) fun b hb => .bnd (hrec _ _ hb.2 hl') fun x hx => .chk (by have := hl.2.1; simp only [jC, jN]; unfold Lim; omega) (.bnd (hrec _ _ hx.2 ⟨by simp, by have := hl.2.1; simp only [jA, jC, jN]; omega, fun s hs => ?_⟩) fun y hy => .mk' ⟨(edr2 (by omega) (by omega) (nm3 _ hb.1) hx.1 hy.1).mono (by omega), hy.2⟩))
     rcases List.mem_append.1 hs with hs | hs
     · rw [List.mem_singleton.1 hs]; exact nm3 _ hb.1
     · exact hl.2.2 s hs
   · exact .bnd (hrec _ _ ha.2 hl') fun x hx => .bnd (hrec _ _ hx.2 hl') fun y hy => .bnd (hrec _ _ hy.2 hl') fun z hz => .mk' ⟨(edr3 (by omega) (by simp) hx.1 hy.1 hz.1).mono (by omega), hz.2⟩
   · refine .chk hpos (.bnd (xNz ha.2 (by simp)) fun b hb => .bnd (.ofU (xR3 hb.2 hl)) fun x hx => .chk (by have := hl.2.1; simp only [jC, jN]; unfold Lim; omega) (.bnd (hrec _ _ hx.2 ⟨by simp, by have := hl.2.1; simp only [jA, jC, jN]; omega, fun s hs => ?_⟩) fun y hy => .mk' ⟨(edr2 (by omega) (by omega) (nm3 _ hb.1) hx.1 hy.1).mono (by omega), hy.2⟩))
     rcases List.mem_append.1 hs with hs | hs
     · simp only [List.mem_cons, List.not_mem_nil, or_false] at hs
       rcases hs with rfl | rfl <;> exact nm3 _ hb.1
     · exact hl.2.2 s hs
   · exact .bnd (.ofU (xR3 ha.2 hl)) fun x hx => .mk' ⟨hx.1.mono (by omega), hx.2⟩
   · refine .bnd (xNz ha.2 (by decide)) fun b hb => .bnd (.ofU (xR3 hb.2 hl)) fun x hx => .bnd (hrec _ _ hx.2 hl') fun y hy => .bnd (xMv hy.2 (hx.1.mono (by omega : 100 ≤ bnd4 k)) hy.1) fun z hz => .mk' ⟨(edr1 (by omega) ?_ hz.1).mono (by omega), hz.2⟩
     have := hb.1
     simp only [List.mem_cons, List.not_mem_nil, or_false] at this
     rcases this with e | e <;> rw [e] <;> decide
   · refine .bnd (xNz ha.2 (by decide)) fun b hb => .bnd (xIX hb.2 (by decide)) fun d hd => .bnd (.ofU (xR3 hd.2 hl)) fun x hx => .bnd (xIX hx.2 (by decide)) fun f hf => .bnd (xIX hf.2 (by decide)) fun g hg => ?_
     have h1 := hd.1; have h2 := hf.1; have h3 := hg.1
     refine .bnd (xMv hg.2 hx.1 ((edr2 (by omega) (by omega) (by decide) (leaf8 (by omega)) (leaf8 (by omega))).mono (by omega))) fun z hz => .mk' ⟨(edr2 (by omega) (by omega) ?_ (leaf8 (by omega)) hz.1).mono (by omega), hz.2⟩
     have := hb.1
     simp only [List.mem_cons, List.not_mem_nil, or_false] at this
     rcases this with e | e | e | e <;> rw [e] <;> decide
   · refine .bnd (xNO ha.2) fun b hb => .bnd (xIX hb.2 (by decide)) fun d hd => .bnd (.ofU (xRE hd.2)) fun x hx => .bnd (hrec _ _ hx.2 hl') fun y hy => .bnd (xMv hy.2 (hx.1.mono (by omega : 150 ≤ bnd4 k)) hy.1) fun z hz => ?_
     have h1 := hd.1
     exact .mk' ⟨(edr3 (by omega) (by decide) hb.1 (leaf8 (by omega)) hz.1).mono (by omega), hz.2⟩
   · exact .bnd (xNO ha.2) fun b hb => .bnd (xNO hb.2) fun d hd => .bnd (.ofU (xRE hd.2)) fun x hx => .bnd (hrec _ _ hx.2 hl') fun y hy => .bnd (xMv hy.2 (hx.1.mono (by omega : 150 ≤ bnd4 k)) hy.1) fun z hz => .mk' ⟨(edr3 (by omega) (by decide) hb.1 hd.1 hz.1).mono (by omega), hz.2⟩
   · exact .bnd (.ofU (xRE ha.2)) fun x hx => .bnd (hrec _ _ hx.2 hl') fun y hy => .bnd (xMv hy.2 (hx.1.mono (by omega : 150 ≤ bnd4 k)) hy.1) fun z hz => .mk' ⟨(edr1 (by omega) (by decide) hz.1).mono (by omega), hz.2⟩
   · refine .bnd (xIX ha.2 (by decide)) fun b hb => ?_
     have h1 := hb.1
     exact .mk' ⟨(edr1 (by omega) (by decide) (leaf8 (by rw [xBh (by omega) (by omega)]; omega))).mono (by omega), hb.2⟩
   · refine .bnd (xNz ha.2 (by decide)) fun b hb => .bnd (xMv hb.2 (s := 400) ((xG0 (k := 5) (n := 0) (by omega) (by omega) (by decide)).mono (by omega)) ((edr1 (by omega) (by decide) (xG0 (k := 2) (n := 0) (t := b.1) (by omega) (by omega) ?_)).mono (by omega))) fun z hz => .mk' ⟨hz.1.mono (by omega), hz.2⟩
     have := hb.1
     simp only [List.mem_cons, List.not_mem_nil, or_false] at this
     rcases this with e | e | e <;> rw [e] <;> decide
theorem nms0 : Nms 10 [[97], [98], [99]] := ⟨by decide, by decide, fun s hs => by
 simp only [List.mem_cons, List.not_mem_nil, or_false] at hs
 rcases hs with rfl | rfl | rfl <;> decide⟩
theorem vDi {c : Cur} (h : CurOk c) : E2 (fun N _ => xHY N c) (Dr (EDr 110000)) := by
 refine .bnd (xIX h (by decide)) fun a ha => ?_
 obtain ⟨n, hn⟩ := xJS ha.1.1
 have hn2 : n < 4 := by have := ha.1.2; omega
 have wn : IntKind.i64.wrap (1 + a.1) = ((n + 1 : Nat) : Int) := by rw [hn, xBh (by omega) (by omega)]; omega
 rw [wn]
 obtain ⟨r, hr, hb⟩ := (vDk (n + 1) a.2 [[97], [98], [99]] (by omega) ha.2 ⟨by decide, by simp only [jC, jN]; omega, nms0.2.2⟩).diag
 have hsz : bnd4 (n + 1) ≤ 102400 := by
  unfold bnd4
  have : 4 ^ (n + 1) ≤ 4 ^ 4 := Nat.pow_le_pow_right (by omega) (by omega)
  have e : (4 : Nat) ^ 4 = 256 := by decide
  omega
 have hr1 := hr.1.mono hsz
 refine .bnd (.ofBig (o := fun N => xJr N a.2 [[97], [98], [99]] ((n + 1 : Nat) : Int)) hb (P := fun x => x = r) rfl) fun x hx => ?_
 subst hx
 refine .bnd (.ofBig ((xKw (K := 1000) (by omega) hr1.1 (by have := hr1.2; omega)).imp fun N h => h.2) (P := fun _ => True) trivial) fun v _ => .cnd (fun _ => .bnd (.ofU (xR0 hr.2 nms0)) fun y hy => .mk' ⟨hy.1.mono (by omega), hy.2⟩) (fun _ => .mk' ⟨hr1.mono (by omega), hr.2⟩)
theorem xVT {e : Exp} (h : EDr 110000 e) : (fmtE e).length ≤ 100000000 := by
 unfold fmtE
 cases xFJ e
 · simp
 · have h1 := xM9 1000 e h.1
   have h2 := Exp.cnt_le e
   have h3 := h.2
   simp only [Bool.not_true, jF]
   omega
theorem vAK {c : Cur} (h : CurOk c) {s : Str} (hs : s.length ≤ 100000000) {l : List Str} (hl : 0 < l.length) (hl2 : ∀ x ∈ l, x.length ≤ 100) : E2 (fun N _ => xGK N c s l) (Dr fun v => v.length ≤ 200000000) := by
 have w : IntKind.i64.wrap ((s.length : Int) + 1) = (s.length : Int) + 1 := xBh (by omega) (by omega)
 unfold xGK
 rw [w]
 refine .bnd (xIX h (by omega)) fun a ha => .bnd (xIX ha.2 (by decide)) fun b hb => ?_
 have h1 := ha.1
 have hc : (0 : Int) ≤ a.1 ∧ a.1 ≤ (List.length s) := by omega
 have t1 : (List.take (Int.toNat a.1) s).length ≤ s.length := by rw [List.length_take]; omega
 have t2 : (List.drop (Int.toNat a.1) s).length ≤ s.length := by rw [List.length_drop]; omega
 refine .cnd (fun _ => .chk hc (.bnd (xNz hb.2 hl) fun d hd => ?_)) (fun _ => .cnd (fun _ => .chk hc (.mk' ⟨by show (List.take _ s).length ≤ _; omega, hb.2⟩)) (fun _ => .mk' ⟨by show s.length ≤ _; omega, hb.2⟩))
 have h2 := hl2 _ hd.1
 refine .chk (by unfold Lim; omega) (.chk (by rw [jA]; unfold Lim; omega) (.mk' ⟨?_, hd.2⟩))
 show List.length (_ ++ _ ++ _) ≤ _
 rw [jA, jA]
 have t3 : (List.take (Int.toNat a.1) s).length + (List.drop (Int.toNat a.1) s).length = s.length := by rw [List.length_take, List.length_drop]; omega
 omega
theorem vDh {c : Cur} (h : CurOk c) : E2 (fun N _ => xH0 N c) (Dr fun v => v.length ≤ 200000000) := by
 refine .bnd (vDi h) fun a ha => .bnd (.ofBig ((xP4 (K := 1000) (by omega) ha.1.1 (by have := ha.1.2; omega)).imp fun N h => h.2) (P := fun s => s = fmtE a.1) rfl) fun s hs => .bnd (xIX ha.2 (by decide)) fun b hb => ?_
 have hl := xVT ha.1
 rw [← hs] at hl
 refine .cnd (fun _ => .bnd (vAK hb.2 hl (by decide) (fun x hx => ?_)) fun d hd => .mk' hd) (fun _ => .cnd (fun _ => .bnd (xNz hb.2 (by decide)) fun d hd => .mk' ⟨?_, hd.2⟩) (fun _ => .mk' ⟨by show s.length ≤ _; omega, hb.2⟩))
 · have key : ∀ x ∈ ([[32], [40], [41], [44], [32, 43, 32], [32, 105, 110, 32], [108, 101, 116, 32], [120], [61], [93]] : List Str), x.length ≤ 100 := by decide
   exact key x hx
 · have key : ∀ x ∈ ([[], [49, 32, 43, 32, 50, 32, 42, 32, 51], [40, 49, 32, 43, 32, 50, 41, 32, 42, 32, 51], [49, 32, 60, 32, 50, 32, 60, 32, 51], [97, 32, 45, 32, 98, 32, 45, 32, 99], [108, 101, 116, 32, 120, 32, 61, 32, 49, 32, 105, 110, 32, 120, 32, 43, 32, 120], [102, 111, 114, 32, 117, 32, 105, 110, 32, 91, 49, 44, 32, 50, 93, 32, 100, 111, 32, 117, 32, 42, 32, 117], [105, 102, 32, 97, 32, 116, 104, 101, 110, 32, 98, 32, 101, 108, 115, 101, 32, 99], [115, 117, 109, 40, 49, 44, 32, 50, 41], [102, 40, 49, 41], [108, 101, 116, 32, 108, 101, 116, 32, 61, 32, 49, 32, 105, 110, 32, 50], [115, 117, 109], [49, 32, 50], [91, 49, 44, 93], [91, 93], [40, 40, 97, 41, 41], [49, 32, 43, 32, 108, 101, 116, 32, 120, 32, 61, 32, 49, 32, 105, 110, 32, 120]] : List Str), x.length ≤ 200000000 := by decide
   exact key _ hd.1
theorem newE {a : List Int} (h : a.length ≤ 1048576) : E2 (fun N _ => xGY N a) CurOk := .ofU (B := 1048576) (newU id h fun x hx => hx)
end Go.Ab
end
section
namespace Go.Ab
theorem xQb {p : Int} {s r : Str} {t : Tok} (h : xHz p s = some (t, r)) : t.pos = p := by
 cases s with
 | nil => cases h
 | cons c l =>
   rw [xDV] at h
   cases h1 : xHQ c <;> rw [h1] at h
   · cases h2 : xCp c <;> rw [h2] at h
     · cases h3 : c.toNat == 34 <;> rw [h3] at h
       · cases h4 : Lib.hasPrefix (c :: l) [61, 61] <;> rw [h4] at h
         · obtain ⟨hb, hx⟩ := xGO h
           cases hx; rfl
         · cases h; rfl
       · simp only [jT, jF] at h
         split at h
         · cases h
         · obtain ⟨hb, hx⟩ := xGO h
           cases hx; rfl
     · simp only [jT, jF] at h
       obtain ⟨hb, hx⟩ := xGO h
       cases hx; rfl
   · simp only [jT] at h
     obtain ⟨hb, hx⟩ := xGO h
     cases hx; rfl
theorem xR2 (B : Int) : ∀ (n : Nat) (p : Int) (acc : List Tok) (s : Str), 0 ≤ p → p + s.length ≤ B → (∀ t ∈ acc, t.pos ≤ B) → ∀ t ∈ (lexL n p acc s).1, t.pos ≤ B := by
 intro n
 induction n with
 | zero => intro p acc s _ _ _ t ht; cases ht
 | succ n ih =>
   intro p acc s h1 h2 h3
   cases s with
   | nil => exact h3
   | cons c l =>
     simp only [lexL]
     cases c.toNat == 32
     · simp only [jF]
       cases ho : xHz p (c :: l) with
       | none => exact fun t ht => by cases ht
       | some z =>
         obtain ⟨t, r⟩ := z
         have hp := xQb ho
         have hr := xI1 ho
         simp only
         cases acc.length == 60
         · simp only [jF]
           refine ih _ _ r (by omega) (by omega) (fun x hx => ?_)
           rcases List.mem_append.1 hx with hx | hx
           · exact h3 x hx
           · rw [List.mem_singleton.1 hx, hp]; omega
         · exact fun t ht => by cases ht
     · simp only [jT]
       simp only [jC] at h2
       exact ih _ _ l (by omega) (by omega) h3
theorem xVX (s : Str) : ∀ t ∈ (lex s).1, t.pos ≤ s.length := by
 unfold lex
 cases decide (s.length > 120)
 · exact xR2 s.length (s.length + 1) 0 [] s (by omega) (by omega) (fun t ht => by cases ht)
 · exact fun t ht => by cases ht
theorem xRq {T : List Tok} (hT : TokT 10000 T) (hl : T.length ≤ 60) : match pE (T.length + 1) T with | .ok e r => r <:+ T | .err r => r <:+ T := by
 have hN := xRj (N := 20001) hT (by omega) (by omega) (by omega) (T.length + 1) 20001 (by omega) T (List.suffix_refl _) (by omega)
 cases hp : pE (T.length + 1) T with
 | ok e r => rw [hp] at hN; exact hN.1
 | err r => rw [hp] at hN; obtain ⟨_, _, _, _, _, h⟩ := hN; exact h
theorem xRp {s : Str} (h : 0 ≤ (xFG s).2) : (xFG s).2 ≤ s.length ∧ (xFG s).1 = e0 := by
 obtain ⟨g1, g2, g3⟩ := xLl s
 have hpos := xVX s
 have hT := xPk g1 g2
 have hs := xRq hT g2
 unfold xFG at h ⊢
 cases hb : decide ((lex s).2 ≥ 0)
 · rw [hb] at h
   simp only [jF] at h ⊢
   unfold xJo at h ⊢
   cases hp : pE ((lex s).1.length + 1) (lex s).1 with
   | err ts =>
     rw [hp] at h hs
     refine ⟨?_, rfl⟩
     cases ts with
     | nil => exact Int.le_refl _
     | cons t q => exact hpos t (hs.subset List.mem_cons_self)
   | ok e ts =>
     rw [hp] at h hs
     cases ts with
     | nil =>
       have h : 0 ≤ (bif xFJ e then (e, (-1 : Int)) else (e0, 0)).2 := h
       show (bif xFJ e then (e, (-1 : Int)) else (e0, 0)).2 ≤ _ ∧ (bif xFJ e then (e, (-1 : Int)) else (e0, 0)).1 = e0
       cases hv : xFJ e
       · exact ⟨by simp, rfl⟩
       · rw [hv] at h
         have h : (0 : Int) ≤ -1 := h
         omega
     | cons t q => exact ⟨hpos t (hs.subset List.mem_cons_self), rfl⟩
 · simp only [jT]
   have hb := of_decide_eq_true hb
   refine ⟨?_, by first | rfl | trivial⟩
   rcases g3 with g3 | g3 <;> omega
theorem vAA {K : Nat} (hK : K ≤ 9223372036854775807) : ∀ e : Exp, e.Fit K → Big2 fun N d => xEe N d e e = some true := by
 refine Exp.ind fun k n t a ih h => ?_
 obtain ⟨h1, h2, h3, h4⟩ := Exp.fit_iff.1 h
 refine Big2.succ ?_
 refine ((Big2.list fun x hx => ih x hx (h4.2 x hx)).and (xMe a.length).two).imp fun N d ⟨hx, hn⟩ => ?_
 have hl : a.length ≤ K := h4.1
 show xED N (xEe N d) (.mk k n t a) (.mk k n t a) = some true
 simp only [xED, bne_self_eq_false, beq_self_eq_true, Bool.not_true, jF]
 exact vBp (x0 := a) (L := fun m i => xEx N (xEe N d) m i (.mk k n t a) (.mk k n t a)) (fun m => by simp [xEx, ea]) (fun i x m hi hxi hm => by
  have hi' : (i : Int) < ((Exp.mk k n t a).args.length : Int) := by show (i : Int) < (a.length : Int); omega
  have hi2 : (0 : Int) ≤ (i : Int) ∧ (i : Int) < ((Exp.mk k n t a).args.length : Int) := ⟨by omega, hi'⟩
  have hxi2 : (Exp.mk k n t a).args[i]? = some x := hxi
  simp only [xEx, decide_eq_true hi', if_pos hi2, jT, Int.toNat_natCast, xCw hxi2, hx x hm, jS, xBy hi (by omega : a.length ≤ _), Bool.not_true, jF]) hn
theorem xJ6 {e : Exp} {K : Nat} (h : e.Fit K) (hK : K ≤ 9223372036854775807) : Big fun N => xId N e e = some true := (vAA hK e h).diag
theorem xIy (a0 : List Int) (f0 : ∀ z ∈ [CV.sl .ro .byte a0], DFit z.toD) : ∃ N, xEZ N a0 = some true := by
 by_cases hb : (a0.length : Int) > 1048576
 · exact ⟨0, by simp [xEZ, xJz, hb]⟩
 · obtain ⟨s, hdraw, hlen⟩ : ∃ s : Str, (Big fun N => xE0 N a0 = some s) ∧ s.length ≤ 200000000 := by
    have : E2 (fun N _ => xE0 N a0) (fun s => s.length ≤ 200000000) := .bnd (newE (by omega)) fun c hc => .bnd (vDh hc) fun s hs => .mk' hs.1
    obtain ⟨s, h1, h2⟩ := this.diag
    exact ⟨s, h2, h1⟩
   obtain ⟨f1, f2⟩ := xPH s
   refine ((hdraw.and ((xPc s).and (xPc (s ++ [32, 41])))).and (xJ6 f1 (by omega))).imp (fun N ⟨⟨h1, ⟨h2, h3⟩, h4, h5⟩, h6⟩ => ?_) |>.get
   have hB : xJz N a0 = some false := by
    unfold xJz
    rw [decide_eq_false (by omega)]
   simp only [xEZ, hB, h1, h2, h3, h6, xKh h2, jS, jF, bne_self_eq_false, Bool.not_true, beq_self_eq_true]
   by_cases hg : 0 ≤ (xFG s).2
   · obtain ⟨p1, p2⟩ := xRp hg
     rw [decide_eq_true (by omega : (xFG s).2 ≥ 0), jT, decide_eq_true p1, jT, p2]
     rfl
   · rw [decide_eq_false (by omega : ¬ (xFG s).2 ≥ 0), jF, if_pos (by simp only [jC, jN]; unfold Lim; omega), h4, jS]
     have w1 : IntKind.i64.wrap ((s.length : Int) + 1) = (s.length : Int) + 1 := xBh (by omega) (by omega)
     have w2 : IntKind.i64.wrap ((s.length : Int) + 2) = (s.length : Int) + 2 := xBh (by omega) (by omega)
     rw [w1, w2]
     rcases xPI (by omega : (xFG s).2 < 0) with h | ⟨ha, h⟩
     · rw [h, beq_self_eq_true, jT]
     · rw [h, decide_eq_true (by omega : (s.length : Int) + 2 > 120), jT, beq_self_eq_true]
       cases ((120 : Int) == (s.length : Int) + 1) <;> rfl
end Go.Ab
end
section
namespace Go.Proofs.YthbobcapimmnhaaGreatDoor
open Go.Ab Go.ChangeShapes Go.WideShapes Go.ChangeAt Go.RowKit
theorem own : ownKnob Tryz.prog.godebug = none := by kernel_rfl
theorem xVW : laidOutB Tryz.prog = true := by kernel_rfl
theorem xKj : zGj Tryz.prog [(5, .byte)] = true := by kernel_rfl
theorem fnParseErrors_tab {W : World} (h : laidMetH Tryz.prog Rows.fnParseErrorsRow.laid W) : Go.Lib.TabIs Tryz.prog W Go.Ab.T.p10 .u64 Go.Lib.pow10Tab := by
 rw [MakeChecks.laidMetH_plain _ _ _ (by kernel_rfl)] at h
 exact Go.Lib.tabIs_of_head (g := 3) (t := 137) (e := 123) (n := 20) (by kernel_rfl) (by kernel_rfl) Tryz.underlying137 Tryz.underlying123 (by kernel_rfl) (by kernel_rfl) h.tail.tail
theorem fnParseErrors_ev {W : World} (h : laidMetH Tryz.prog Rows.fnParseErrorsRow.laid W) : (∃ t1 p1, W.var? Tryz.prog "strconv.ErrSyntax" = some #[.iface t1 p1]) ∧ ∃ t2 p2, W.var? Tryz.prog "strconv.ErrRange" = some #[.iface t2 p2] := by
 rw [MakeChecks.laidMetH_plain _ _ _ (by kernel_rfl)] at h
 have star : "*" ++ "errors.errorString" = "*errors.errorString" := by decide
 have row : ∀ u, Tryz.prog.typeName? 3 u = some "*errors.errorString" → u = 146 := fun u hu => typeName_ptr_named (nm := "errors.errorString") (by rw [star]; kernel_rfl) (by kernel_rfl) (by decide) u (by rw [star]; exact hu)
 obtain ⟨a_hs, _, hs, _⟩ := laid_sentinel (g := 1) (ti := 99) (tp := 146) (te := 148) (ts := 9) h.tail.tail.tail.tail (by kernel_rfl) (by kernel_rfl) Tryz.underlying99 row Tryz.underlying146 Tryz.underlying148 rfl rfl Tryz.underlying9 (by kernel_rfl) (by kernel_rfl)
 obtain ⟨a_hr, _, hr, _⟩ := laid_sentinel (g := 2) (ti := 99) (tp := 146) (te := 148) (ts := 9) h.tail.tail.tail (by kernel_rfl) (by kernel_rfl) Tryz.underlying99 row Tryz.underlying146 Tryz.underlying148 rfl rfl Tryz.underlying9 (by kernel_rfl) (by kernel_rfl)
 exact ⟨⟨_, _, hs⟩, _, _, hr⟩
set_option maxRecDepth 100000 in
theorem fnParseErrors_lifted (os : Os) (started : os.Started) (H : Type) (enc : TypeId × Value → H) :
 ReturnsInHanded {} Tryz.checked os 7 .any (fun w args => (Rows.fnParseErrorsSpec.pre enc Tryz.prog Tryz.f7 Rows.fnParseErrorsRow.domain false w args ∧ laidMetH Tryz.prog Rows.fnParseErrorsRow.laid w) ∧ sizedMet enc Tryz.prog Tryz.f7 (OpenSpec.ofChange Rows.fnParseErrorsSpec) false w args)
  (Rows.fnParseErrorsSpec.post enc Tryz.prog Tryz.f7 false true false false) := by
 refine returnsInHanded_of_change_and (C := Tryz.checked) (X := fun w _ => laidMetH Tryz.prog Rows.fnParseErrorsRow.laid w) (fun _ _ _ hh h => h.of_heap hh) own started (by kernel_rfl) Tryz.func7
  (ChangeSpec.witness_shaped (enc := enc) (C := Tryz.checked) (os := os) (X := fun w _ => laidMetH Tryz.prog Rows.fnParseErrorsRow.laid w) false (World.laidAll Tryz.prog os Rows.fnParseErrorsRow.laid) #[.slice none 0 0] 8 (World.laidAll_os _ _ _)
    (World.shaped_of_ZipB (by kernel_rfl) (by kernel_rfl)) (by kernel_rfl) (by kernel_rfl) (by kernel_rfl)
    (by rw [MakeChecks.laidMetH_plain _ _ _ (by kernel_rfl)]; exact laidMet_laidAll _ (by kernel_rfl) (by kernel_rfl))) ?_
 intro W base args ds gs before hval0 hW hcnd _ hL _
 obtain ⟨g0, o0, hgo, hall⟩ := vAI (fnParseErrors_tab hL)
 obtain ⟨⟨u1, u2, hv1⟩, u3, u4, hv2⟩ := fnParseErrors_ev hL
 obtain ⟨g3, o3, hgo3, hall3⟩ := xRJ hv1
 obtain ⟨g4, o4, hgo4, hall4⟩ := xRJ hv2
 letI : Inhabited Lb := ⟨⟨[(g0, o0), (g3, o3), (g4, o4)]⟩⟩
 haveI : Nonempty T.Tab10 := ⟨fun w hw => hall w (hw (g0, o0) List.mem_cons_self)⟩
 haveI : Nonempty T.ErrVars := ⟨fun w hw => ⟨⟨u1, u2, hall3 w (hw (g3, o3) (List.mem_cons_of_mem _ List.mem_cons_self))⟩, u3, u4, hall4 w (hw (g4, o4) (List.mem_cons_of_mem _ (List.mem_cons_of_mem _ List.mem_cons_self)))⟩⟩
 have hlb : ∀ x ∈ zEH, W.heap[x.1]? = some x.2 := fun x hx => by
  have hx : x ∈ [(g0, o0), (g3, o3), (g4, o4)] := hx
  simp only [List.mem_cons, List.not_mem_nil, or_false] at hx
  rcases hx with rfl | rfl | rfl <;> first | exact hgo | exact hgo3 | exact hgo4
 have hval : ∀ (j : Nat) t v, Tryz.f7.params[j]? = some t → args[j]? = some v → Value.okWide Tryz.prog W .any base t v := hval0
 have hW' := hW
 obtain ⟨p, q, hA0, hV, rfl, hfz, hnd⟩ := hW
 have hA : DataW.TrodAll enc Tryz.prog W 0 (fun _ => true) true Tryz.f7.params.toList args.toList ds p := hA0
 rw [Tryz.params7] at hA hval
 obtain ⟨v0, vs0, d0, ds0, p0, q0, hargs, rfl, rfl, h0, r0⟩ := trodAll_cons hA
 obtain ⟨rfl, rfl, rfl⟩ := trodAll_nil r0
 obtain rfl : args = #[v0] := by cases args; simp_all
 obtain ⟨rfl, rfl⟩ := trodVars_none hV
 have lt0 : ∀ x ∈ p0, x.block < W.heap.size := by obtain ⟨m, hm⟩ := h0; exact DataW.trod_lt m _ _ _ hm
 obtain ⟨z0, e0, f0, vr0⟩ := vr_of xKj (g := false) (t := 32) (ns := [.inr .byte]) (by kernel_rfl) (hval 0 32 v0 rfl rfl) h0
 obtain ⟨x0_0, _, rfl, e0_0⟩ := AreOf.sl_inv e0
 obtain rfl := e0_0.nil_inv
 obtain ⟨N, hF⟩ := xIy x0_0 f0
 clear hA0 hval0
 refine (zH7 T.fk7 (T.laws_FnParseErrors_ok hF) (W := W) (args := #[v0]) ⟨vr0 _, trivial⟩ hlb).mono fun e W' ⟨he, bel⟩ => ?_
 subst he
 exact ⟨_, rfl, _, _, _, [], _, [], hW', trodAll_mk1 (shut_bool Tryz.underlying4 _), (trodAll_cons_mk (Below.trod xVW (by kernel_rfl) (of_decide_eq_true (by kernel_rfl)) h0 bel lt0) trodAll_mk0), rfl, bel.frame _, fun h => by cases h⟩
theorem fnParseErrors_proved : Rows.FnParseErrorsSaid :=
 OpenClaim.holds_of_wide 7 Tryz.f7 rfl rfl rfl rfl rfl rfl rfl ⟨rfl, rfl, rfl, rfl, rfl⟩ rfl rfl rfl rfl rfl (by kernel_rfl) Tryz.func7 (by kernel_rfl)
  (of_decide_eq_true (by kernel_rfl)) (by unfold Func.isWrapper; first | (rw [if_pos (by decide +kernel)]; kernel_rfl) | (rw [if_neg (by decide +kernel)]; exact ⟨rfl, rfl⟩))
  (fun os started H enc _ => fnParseErrors_lifted os started H enc)
theorem fnParseErrors_card : Rows.FnParseErrorsCardSaid :=
 Claim7.holds_tied_plain_at .later [] Rows.fnParseErrorsCard.laidKinds true Rows.fnParseErrorsCard.stood.harness Rows.fnParseErrorsCard.stood.looks fnParseErrors_proved (fun _ h => by cases h) (by kernel_rfl) (fun _ h => by cases h) fnParseErrors_row_tie rfl ⟨rfl, rfl⟩ (by kernel_rfl) rfl
  (fun f fn hf hfn => by
    obtain rfl : f = 7 := Option.some.inj ((show Tryz.prog.funcNamed Rows.fnParseErrorsRow.func = some 7 by kernel_rfl).symm.trans hf) |>.symm
    obtain rfl : fn = Tryz.f7 := (Option.some.inj (Tryz.func7.symm.trans hfn)).symm
    exact ⟨by kernel_rfl, fun j t ht => by
     rw [Tryz.params7] at ht
     have hm : t ∈ [32] := by simpa using Array.mem_of_getElem? ht
     have hall : ([32].all fun u => !Tryz.prog.wantsStandIn u) = true := by kernel_rfl
     exact (show Tryz.prog.wantsStandIn t = false by simpa using List.all_eq_true.1 hall t hm)⟩)
  (by kernel_rfl)
end Go.Proofs.YthbobcapimmnhaaGreatDoor
end
