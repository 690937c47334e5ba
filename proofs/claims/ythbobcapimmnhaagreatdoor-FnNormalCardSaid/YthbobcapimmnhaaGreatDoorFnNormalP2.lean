/- The statement FnNormal holds: plain functions, certificates, laws. Conditions: none. -/
import Derived.Test.YthbobcapimmnhaaGreatDoorL2
import Derived.Test.YthbobcapimmnhaaGreatDoorFnNormalP1
set_option linter.all false
section
namespace Go.Ab
def sumC (l : List Exp) : Nat := (l.map Exp.cnt).sum
theorem xLo (x : Exp) (l : List Exp) : sumC (x :: l) = x.cnt + sumC l := by simp only [sumC, List.map_cons, List.sum_cons]
theorem xRg (c s : Nat) {l : Int} (h : 0 ≤ l) : left (c + s) l = if left c l < 0 then left c l else left s (left c l) := by
 by_cases c1 : (c : Int) ≤ l
 · rw [xNq c1, if_neg (by omega)]
   by_cases c2 : (s : Int) ≤ l - c
   · rw [xNq c2, xNq (by omega)]; omega
   · rw [xMf c2, xMf (by omega)]
 · rw [xMf c1, if_pos (by omega), xMf (by omega)]
theorem xS4 {K : Nat} (hK : K ≤ 1048576) : ∀ e : Exp, e.Fit K → e.cnt ≤ 2000000 → Big2 fun N d => xEu N d e = some (e.cnt : Int) ∧ ∀ l : Int, 0 ≤ l → l ≤ 1000 → xFj N d e l = some (left e.cnt l) := by
 refine Exp.ind fun k n t a ih h hc => ?_
 obtain ⟨h1, h2, h3, h4⟩ := Exp.fit_iff.1 h
 rw [Exp.cnt_eq] at hc
 have hc : 1 + sumC a ≤ 2000000 := hc
 have hmem : ∀ x ∈ a, x.cnt ≤ sumC a := fun x hx => xQk (f := Exp.cnt) hx
 refine Big2.succ ?_
 refine ((Big2.list fun x hx => ih x hx (h4.2 x hx) (by have := hmem x hx; omega)).and (xM3 (K + 30)).two).imp fun N d ⟨hx, hn⟩ => ?_
 have hl : a.length ≤ K := h4.1
 rw [Exp.cnt_eq]
 refine ⟨?_, fun l hl0 hl1 => ?_⟩
 · have := xGQ (L := fun m i s => xD8 N (xEu N d) m s a a.length i) a (fun l s => s + (sumC l : Int)) (fun i s => 0 ≤ s ∧ s + (sumC (a.drop i) : Int) ≤ 2000000) (fun m s _ => by simp [xD8, sumC])
    (fun i x l s hd hi hxi hs => by
      have hi' : (i : Int) < (a.length : Int) := by omega
      have hm := List.mem_of_getElem? hxi
      rw [hd, xLo] at hs
      have hw : IntKind.i64.wrap (s + (x.cnt : Int)) = s + (x.cnt : Int) := xBw (by omega) (by omega)
      refine .inl ⟨s + (x.cnt : Int), ⟨by omega, by rw [(xD2 hd).2.2]; omega⟩, by rw [xLo]; omega, fun m => ?_⟩
      simp only [xD8, decide_eq_true hi', jT, Int.toNat_natCast, xCK hxi, (hx x hm).1, jS, hw, xBI hi (by omega : a.length ≤ _)]
      rw [if_pos (by omega)]) N 0 1 ⟨by omega, by rw [List.drop_zero]; omega⟩ (by omega) (by omega)
   rw [List.drop_zero] at this
   show xD8 N (xEu N d) N 1 a a.length 0 = some ((1 + sumC a : Nat) : Int)
   rw [show ((1 + sumC a : Nat) : Int) = 1 + (sumC a : Int) from by omega]
   exact this
 · have := xGQ (L := fun m i s => xEq N (xFj N d) m s i (.mk k n t a)) a (fun l s => if s < 0 then s else left (sumC l) s) (fun i s => -1 ≤ s ∧ s ≤ 1000) (fun m s hs => by
    simp only [xEq, ea, Int.lt_irrefl, decide_false, jF, sumC, List.map_nil, List.sum_nil]
    split
    · rfl
    · rw [xNq (by omega)]; simp)
    (fun i x l s hd hi hxi hs => by
      have hi' : (i : Int) < ((Exp.mk k n t a).args.length : Int) := by show (i : Int) < (a.length : Int); omega
      have hi2 : (0 : Int) ≤ (i : Int) ∧ (i : Int) < ((Exp.mk k n t a).args.length : Int) := ⟨by omega, hi'⟩
      have hm := List.mem_of_getElem? hxi
      have hxi2 : (Exp.mk k n t a).args[i]? = some x := hxi
      by_cases hneg : s < 0
      · refine .inr fun m => ?_
        have h2 : ¬ s ≥ 0 := by omega
        simp only [xEq, decide_eq_true hi', jT, decide_eq_false h2, jF, if_pos hneg]
      · have h2 : s ≥ 0 := by omega
        refine .inl ⟨left x.cnt s, ?_, ?_, fun m => ?_⟩
        · unfold left; split <;> omega
        · rw [if_neg hneg, xLo, xRg _ _ (by omega)]
        · simp only [xEq, decide_eq_true hi', jT, decide_eq_true h2, if_pos hi2, Int.toNat_natCast, xCK hxi2, (hx x hm).2 s (by omega) (by omega), jS, xBI hi (by omega : a.length ≤ _)]) N 0 (l - 1) ⟨by omega, by omega⟩ (by omega) (by omega)
   rw [List.drop_zero] at this
   show xEq N (xFj N d) N (IntKind.i64.wrap (l - 1)) 0 (.mk k n t a) = some (left (1 + sumC a) l)
   rw [xBw (by omega) (by omega)]
   refine Eq.trans this ?_
   unfold left
   by_cases c0 : l - 1 < 0
   · rw [if_pos c0, if_neg (by omega)]; congr 1; omega
   · rw [if_neg c0]
     by_cases c2 : (sumC a : Int) ≤ l - 1
     · rw [if_pos c2, if_pos (by omega)]; congr 1; omega
     · rw [if_neg c2, if_neg (by omega)]
theorem xPR {x : Exp} : ∀ {a : List Exp}, x ∈ a → x.nest ≤ Exp.nests a
 | y :: l, h => by
   rcases List.mem_cons.1 h with rfl | h
   · simp only [Exp.nests]; omega
   · have := xPR h; simp only [Exp.nests]; omega
theorem maxI (a b : Nat) : (if (a : Int) > (b : Int) then (a : Int) else (b : Int)) = ((max b a : Nat) : Int) := by
 split <;> omega
theorem nest_eq {K : Nat} (hK : K ≤ 1048576) : ∀ e : Exp, e.Fit K → e.nest ≤ 2000000 → Big2 fun N d => xFn N d e = some (e.nest : Int) ∧ xFu N d e = some (e.nest : Int) := by
 refine Exp.ind fun k n t a ih h hc => ?_
 obtain ⟨h1, h2, h3, h4⟩ := Exp.fit_iff.1 h
 rw [Exp.nest_eq] at hc
 have hc : Exp.nests a + 1 ≤ 2000000 := hc
 have hmem : ∀ x ∈ a, x.nest ≤ Exp.nests a := fun x hx => xPR hx
 refine Big2.succ ?_
 refine ((Big2.list fun x hx => ih x hx (h4.2 x hx) (by have := hmem x hx; omega)).and (xM3 (K + 30)).two).imp fun N d ⟨hx, hn⟩ => ?_
 have hl : a.length ≤ K := h4.1
 rw [Exp.nest_eq]
 refine ⟨?_, ?_⟩
 · have := xGQ (L := fun m i (s : Nat) => xER N (xFn N d) m (s : Int) a a.length i) a (fun l s => ((max s (Exp.nests l) + 1 : Nat) : Int)) (fun i s => s ≤ 2000000) (fun m s hs => by
    have hw : IntKind.i64.wrap ((s : Int) + 1) = ((max s 0 + 1 : Nat) : Int) := by rw [xBw (by omega) (by omega)]; omega
    simp only [xER, Int.lt_irrefl, decide_false, jF, hw, Exp.nests])
    (fun i x l s hd hi hxi hs => by
      have hi' : (i : Int) < (a.length : Int) := by omega
      have hm := List.mem_of_getElem? hxi
      have := hmem x hm
      refine .inl ⟨max s x.nest, by omega, by simp only [Exp.nests]; omega, fun m => ?_⟩
      simp only [xER, decide_eq_true hi', jT, Int.toNat_natCast, xCK hxi, (hx x hm).1, jS, maxI, xBI hi (by omega : a.length ≤ _)]
      rw [if_pos (by omega)]) N 0 0 (by omega) (by omega) (by omega)
   rw [List.drop_zero] at this
   refine Eq.trans this ?_
   simp; rfl
 · have := xGQ (L := fun m i (s : Nat) => xET N (xFu N d) m (s : Int) i (.mk k n t a)) a (fun l s => ((max s (Exp.nests l) + 1 : Nat) : Int)) (fun i s => s ≤ 2000000) (fun m s hs => by
    have hw : IntKind.i64.wrap ((s : Int) + 1) = ((max s 0 + 1 : Nat) : Int) := by rw [xBw (by omega) (by omega)]; omega
    simp only [xET, ea, Int.lt_irrefl, decide_false, jF, hw, Exp.nests])
    (fun i x l s hd hi hxi hs => by
      have hi' : (i : Int) < ((Exp.mk k n t a).args.length : Int) := by show (i : Int) < (a.length : Int); omega
      have hi2 : (0 : Int) ≤ (i : Int) ∧ (i : Int) < ((Exp.mk k n t a).args.length : Int) := ⟨by omega, hi'⟩
      have hm := List.mem_of_getElem? hxi
      have hxi2 : (Exp.mk k n t a).args[i]? = some x := hxi
      have := hmem x hm
      have hmax : xI7 N (s : Int) (x.nest : Int) = some ((max s x.nest : Nat) : Int) := by
       unfold xI7
       by_cases c : (s : Int) > (x.nest : Int)
       · rw [decide_eq_true c]; show some (s : Int) = _; congr 1; omega
       · rw [decide_eq_false c]; show some (x.nest : Int) = _; congr 1; omega
      refine .inl ⟨max s x.nest, by omega, by simp only [Exp.nests]; omega, fun m => ?_⟩
      simp only [xET, decide_eq_true hi', jT, if_pos hi2, Int.toNat_natCast, xCK hxi2, (hx x hm).2, jS, hmax, xBI hi (by omega : a.length ≤ _)]) N 0 0 (by omega) (by omega) (by omega)
   rw [List.drop_zero] at this
   refine Eq.trans this ?_
   simp; rfl
def xFc (e : Exp) : Bool := (decide (e.cnt ≤ 40) && decide (e.nest ≤ 8)) && okE e
theorem xLq {K : Nat} (hK : K ≤ 1048576) {e : Exp} (h : e.Fit K) (hs : e.size ≤ 1048576) : Big fun N => xC0 N e = some (xFc e) ∧ xCy N e = some (xFc e) := by
 have h1 := Exp.cnt_le e
 have h2 := Exp.nest_le e
 refine (((xS4 hK e h (by omega)).diag.and (nest_eq hK e h (by omega)).diag).and (vCw hK e h).diag).imp fun N ⟨⟨⟨c1, c2⟩, n1, n2⟩, a1, a2⟩ => ?_
 have c3 : xII N e = some (e.cnt : Int) := c1
 have c4 : xJ9 N e 40 = some (left e.cnt 40) := c2 40 (by omega) (by omega)
 have n3 : xIH N e = some (e.nest : Int) := n1
 have n4 : xIT N e = some (e.nest : Int) := n2
 have a3 : xJb N e = some (okE e) := a1
 have a4 : xKX N e = some (okE e) := a2
 have d1 : decide ((e.cnt : Int) ≤ 40) = decide (e.cnt ≤ 40) := decide_eq_decide.2 (by omega)
 have d2 : decide (left e.cnt 40 ≥ 0) = decide (e.cnt ≤ 40) := decide_eq_decide.2 (by unfold left; split <;> omega)
 have d3 : decide ((e.nest : Int) ≤ 8) = decide (e.nest ≤ 8) := decide_eq_decide.2 (by omega)
 refine ⟨?_, ?_⟩
 · simp only [xC0, c3, n3, a3, jS, d1, d3, xFc]
   cases decide (e.cnt ≤ 40) <;> cases decide (e.nest ≤ 8) <;> rfl
 · simp only [xCy, c4, n4, a4, jS, d2, d3, xFc]
   cases decide (e.cnt ≤ 40) <;> cases decide (e.nest ≤ 8) <;> rfl
theorem xIe (N : Nat) (e : Exp) : xGj N e = some (lvl e) := by
 unfold xGj lvl
 repeat (first | rfl | refine xEI ?_ ?_)
theorem xJJ (N : Nat) (e : Exp) : xGY N e = some (lvl e) := (xQB N e).trans (xIe N e)
theorem xW8 : ∀ s : List Str, (s.getD 0 []).length + (s.getD 1 []).length + (s.getD 2 []).length ≤ (s.map List.length).sum
 | [] => by simp
 | [x] => by simp
 | [x, y] => by simp
 | x :: y :: z :: r => by simp only [List.getD_cons_zero, List.getD_cons_succ, List.map_cons, List.sum_cons]; omega
theorem xOr (n : Int) : (xKq n).length ≤ 2 := by
 unfold xKq
 cases (n == 1) <;> cases (n == 2) <;> cases (n == 3) <;> cases (n == 4) <;> simp
theorem xMe (l : Int) (x : Exp) (s : Str) : (encl l x s).length ≤ s.length + 2 := by
 unfold encl
 cases decide (lvl x < l) <;> simp
theorem xRj {k n : Int} (hn : -9223372036854775808 ≤ n ∧ n ≤ 9223372036854775807) (t : Str) (a : List Exp) (s : List Str) : (xIq k n t a s).length ≤ 60 + t.length + (s.map List.length).sum + 2 * s.length := by
 have h1 := xTd hn
 have h2 := xNo s [44, 32]
 have h3 := xW8 s
 have h4 := xOr n
 have h5 := xMe (bif lvl (.mk k n t a) == 1 then 2 else lvl (.mk k n t a)) (a.getD 0 Ty.exp.dflt) (s.getD 0 [])
 have h6 := xMe (lvl (.mk k n t a) + 1) (a.getD 1 Ty.exp.dflt) (s.getD 1 [])
 have h7 : ([44, 32] : Str).length = 2 := rfl
 rw [h7] at h2
 unfold xIq
 cases (k == 1) <;> cases (k == 2) <;> cases (k == 3) <;> cases (k == 4) <;> cases (k == 5) <;> cases (k == 7) <;> cases (k == 9) <;> cases (k == 8) <;> simp only [jT, jF, jA, jC, jN] <;> omega
theorem xN0 : ∀ (K : Nat) (e : Exp), e.Fit K → (srcE e).length + 4 ≤ 64 * e.cnt + e.size := by
 intro K
 refine Exp.ind fun k n t a ih h => ?_
 obtain ⟨h1, h2, h3, h4⟩ := Exp.fit_iff.1 h
 have h5 : (a.map fun x => (srcE x).length).sum + 4 * a.length ≤ 64 * sumC a + (a.map Exp.size).sum := by
  have h6 := fun x hx => ih x hx (h4.2 x hx)
  clear ih h h1 h2 h3 h4
  induction a with
  | nil => exact Nat.le_refl _
  | cons x l ih2 =>
    have g1 := h6 x List.mem_cons_self
    have g2 := ih2 fun y hy => h6 y (List.mem_cons_of_mem _ hy)
    simp only [List.map_cons, List.sum_cons, xLo, jC]; omega
 have h6 := xRj (k := k) (n := n) h2 t a (a.map srcE)
 rw [xPF, Exp.cnt_eq, Exp.size_eq]
 rw [List.map_map, List.length_map] at h6
 have e1 : (List.length ∘ srcE) = fun x => (srcE x).length := rfl
 rw [e1] at h6
 show _ ≤ 64 * (1 + sumC a) + (t.length + (a.length + (a.map Exp.size).sum))
 omega
theorem xRc {N d : Nat} {x : Exp} {s : Str} (h : (xAk N d).c_impl_source x = some s) (hs : s.length ≤ 1000000000) (l : Int) : (xAk N (d + 1)).c_impl_enclosed x l = some (encl l x s) := by
 show xFq N (xAk N d).c_impl_enclosed (xAk N d).c_impl_source (xAk N d).c_impl_sources x l = _
 simp only [xFq, h, jS, xJJ, encl]
 cases decide (lvl x < l)
 · rfl
 · simp only [jT]
   rw [if_pos (by simp only [jC, jN]; unfold Lim; omega), if_pos (by simp only [jA, jC, jN]; unfold Lim; omega)]
theorem xSI {N d : Nat} {x : Exp} {s : Str} (h : (xAw N d).c_spec_l12Text x = some s) (hs : s.length ≤ 1000000000) (l : Int) : (xAw N (d + 1)).c_spec_l12At x l = some (encl l x s) := by
 show xGn N (xAw N d).c_spec_l12At (xAw N d).c_spec_l12List (xAw N d).c_spec_l12Text x l = _
 simp only [xGn, h, jS, xIe, encl]
 cases decide (lvl x < l)
 · rfl
 · simp only [jT]
   rw [if_pos (by simp only [jC, jN]; unfold Lim; omega), if_pos (by simp only [jA, jC, jN]; unfold Lim; omega)]
theorem xRd {N d : Nat} {a : List Exp} (h : ∀ x ∈ a, (xAk N d).c_impl_source x = some (srcE x)) (hl : a.length ≤ 1048576) (hN : 1048576 < N) (hs : ((a.map srcE).map List.length).sum ≤ 1000000000) :
 (xAk N (d + 1)).c_impl_sources a = some (Lib.join (a.map srcE) [44, 32]) := by
 show xEZ N (xAk N d).c_impl_enclosed (xAk N d).c_impl_source (xAk N d).c_impl_sources N [] a a.length 0 = _
 refine xGQ (L := fun m i q => xEZ N (xAk N d).c_impl_enclosed (xAk N d).c_impl_source (xAk N d).c_impl_sources m q a a.length i) a (fun l q => Lib.join (q ++ l.map srcE) [44, 32]) (fun i q => q = (a.take i).map srcE) (fun m q hq => ?_)
  (fun i x l q hd hi hxi hq => ?_) N 0 [] rfl (by omega) (by omega)
 · have hq : q = a.map srcE := by rw [List.take_length] at hq; exact hq
   subst hq
   have e : ([44, 32] : Str).length = 2 := rfl
   simp only [xEZ, Int.lt_irrefl, decide_false, jF, xOg (N := N) (xs := a.map srcE) (sep := [44, 32]) (by rw [List.length_map]; omega) (by rw [List.length_map, e]; omega), jS, List.map_nil, List.append_nil]
 · have hi' : (i : Int) < (a.length : Int) := by omega
   refine .inl ⟨q ++ [srcE x], by rw [hq, List.take_add_one, hxi]; simp, by simp, fun m => ?_⟩
   have hql : q.length ≤ 1048576 := by rw [hq, List.length_map, List.length_take]; omega
   simp only [xEZ, decide_eq_true hi', jT, Int.toNat_natCast, xCK hxi, h x (List.mem_of_getElem? hxi), jS, xBI hi (by omega : a.length ≤ _)]
   rw [if_pos (by omega), if_pos (by simp only [jC, jN]; unfold Lim; omega)]
theorem xSJ {N d : Nat} {a : List Exp} (h : ∀ x ∈ a, (xAw N d).c_spec_l12Text x = some (srcE x)) (hl : a.length ≤ 1048576) (hN : 1048576 < N) (hs : ((a.map srcE).map List.length).sum ≤ 1000000000) :
 (xAw N (d + 1)).c_spec_l12List a = some (Lib.join (a.map srcE) [44, 32]) := by
 show xFa N (xAw N d).c_spec_l12At (xAw N d).c_spec_l12List (xAw N d).c_spec_l12Text N a [] 0 = _
 refine xGQ (L := fun m i q => xFa N (xAw N d).c_spec_l12At (xAw N d).c_spec_l12List (xAw N d).c_spec_l12Text m a q i) a (fun l q => Lib.join (q ++ l.map srcE) [44, 32]) (fun i q => q = (a.take i).map srcE) (fun m q hq => ?_)
  (fun i x l q hd hi hxi hq => ?_) N 0 [] rfl (by omega) (by omega)
 · have hq : q = a.map srcE := by rw [List.take_length] at hq; exact hq
   subst hq
   have e : ([44, 32] : Str).length = 2 := rfl
   simp only [xFa, Int.lt_irrefl, decide_false, jF, xOF (N := N) (xs := a.map srcE) (sep := [44, 32]) (by rw [List.length_map]; omega) (by rw [List.length_map, e]; omega) (by rw [List.length_map]; omega), jS, List.map_nil, List.append_nil]
 · have hi' : (i : Int) < (a.length : Int) := by omega
   refine .inl ⟨q ++ [srcE x], by rw [hq, List.take_add_one, hxi]; simp, by simp, fun m => ?_⟩
   have hql : q.length ≤ 1048576 := by rw [hq, List.length_map, List.length_take]; omega
   simp only [xFa, decide_eq_true hi', jT, Int.toNat_natCast, xCK hxi, h x (List.mem_of_getElem? hxi), jS, xBI hi (by omega : a.length ≤ _)]
   rw [if_pos (by omega), if_pos (by simp only [jC, jN]; unfold Lim; omega)]
theorem xTk {N : Nat} {n : Int} (h1 : 1 ≤ n) (h5 : n ≤ 5) : xFo N n = some (xKq n) ∧ xHe N n = some (xKq n) := by
 have hw : IntKind.i64.wrap (n - 1) = n - 1 := xBw (by omega) (by omega)
 rcases (by omega : n = 1 ∨ n = 2 ∨ n = 3 ∨ n = 4 ∨ n = 5) with rfl | rfl | rfl | rfl | rfl <;> exact ⟨rfl, rfl⟩
theorem kinds {k n : Int} {t : Str} {l : Nat} (h : xF1 xHV xCc argc k n t l = true) : k = 1 ∨ k = 2 ∨ k = 3 ∨ k = 4 ∨ k = 5 ∨ (k = 6 ∧ 1 ≤ n ∧ n ≤ 5 ∧ l = 2) ∨ (k = 7 ∧ l = 2) ∨ (k = 9 ∧ l = 2) ∨ (k = 8 ∧ l = 3) := by
 unfold xF1 at h
 by_cases h1 : k = 1; · exact .inl h1
 by_cases h2 : k = 2; · exact .inr (.inl h2)
 by_cases h3 : k = 3; · exact .inr (.inr (.inl h3))
 by_cases h4 : k = 4; · exact .inr (.inr (.inr (.inl h4)))
 by_cases h5 : k = 5; · exact .inr (.inr (.inr (.inr (.inl h5))))
 rw [beq_eq_false_iff_ne.2 h1, beq_eq_false_iff_ne.2 h2, beq_eq_false_iff_ne.2 h3, beq_eq_false_iff_ne.2 h4, beq_eq_false_iff_ne.2 h5] at h
 simp only [jF] at h
 by_cases h6 : k = 6
 · subst h6
   simp only [beq_self_eq_true, jT, Bool.and_eq_true, decide_eq_true_eq, beq_iff_eq] at h
   exact .inr (.inr (.inr (.inr (.inr (.inl ⟨rfl, h.1.1, h.1.2, h.2.2⟩)))))
 by_cases h7 : k = 7
 · subst h7
   simp only [show ((7 : Int) == 6) = false from rfl, jF, beq_self_eq_true, jT, Bool.and_eq_true, beq_iff_eq] at h
   exact .inr (.inr (.inr (.inr (.inr (.inr (.inl ⟨rfl, h.2.2⟩))))))
 by_cases h9 : k = 9
 · subst h9
   simp only [show ((9 : Int) == 6) = false from rfl, show ((9 : Int) == 7) = false from rfl, jF, beq_self_eq_true, jT, Bool.and_eq_true, beq_iff_eq] at h
   exact .inr (.inr (.inr (.inr (.inr (.inr (.inr (.inl ⟨rfl, h.2.2⟩)))))))
 by_cases h8 : k = 8
 · subst h8
   simp only [show ((8 : Int) == 6) = false from rfl, show ((8 : Int) == 7) = false from rfl, show ((8 : Int) == 9) = false from rfl, jF, beq_self_eq_true, jT, Bool.and_eq_true, beq_iff_eq] at h
   exact .inr (.inr (.inr (.inr (.inr (.inr (.inr (.inr ⟨rfl, h.2.2⟩)))))))
 rw [beq_eq_false_iff_ne.2 h6, beq_eq_false_iff_ne.2 h7, beq_eq_false_iff_ne.2 h9, beq_eq_false_iff_ne.2 h8] at h
 cases h
theorem xKG {α : Type} {l : List α} (h : l.length = 2) : ∃ x y, l = [x, y] := by
 match l, h with
 | [x, y], _ => exact ⟨x, y, rfl⟩
theorem xN1 {α : Type} {l : List α} (h : l.length = 3) : ∃ x y z, l = [x, y, z] := by
 match l, h with
 | [x, y, z], _ => exact ⟨x, y, z, rfl⟩
theorem lvl6 {n : Int} {t : Str} {a : List Exp} (h1 : 1 ≤ n) (h5 : n ≤ 5) : 1 ≤ lvl (.mk 6 n t a) ∧ lvl (.mk 6 n t a) ≤ 3 := by
 rcases (by omega : n = 1 ∨ n = 2 ∨ n = 3 ∨ n = 4 ∨ n = 5) with rfl | rfl | rfl | rfl | rfl <;> simp [lvl, ek, en]
theorem xOJ {f g h : Exp → Nat} : ∀ {a : List Exp}, (∀ x ∈ a, f x + 4 ≤ 64 * g x + h x) → (a.map f).sum ≤ 64 * (a.map g).sum + (a.map h).sum
 | [], _ => Nat.le_refl _
 | x :: l, H => by
   have g1 := H x List.mem_cons_self
   have g2 := xOJ fun y hy => H y (List.mem_cons_of_mem _ hy)
   simp only [List.map_cons, List.sum_cons]; omega
theorem vCr {K : Nat} (hK : K ≤ 1048576) : ∀ e : Exp, e.Fit K → e.size ≤ 1048576 → okE e = true → Big2 fun N d => (xAk N d).c_impl_source e = some (srcE e) ∧ (xAw N d).c_spec_l12Text e = some (srcE e) := by
 refine Exp.ind fun k n t a ih h hs ho => ?_
 obtain ⟨h1, h2, h3, h4⟩ := Exp.fit_iff.1 h
 have hnn : -9223372036854775808 ≤ n ∧ n ≤ 9223372036854775807 := h2
 have ht : t.length ≤ K := h3
 have hl : a.length ≤ K := h4.1
 rw [Exp.size_eq] at hs
 have hs : t.length + (a.length + (a.map Exp.size).sum) ≤ 1048576 := hs
 rw [xOq, Bool.and_eq_true] at ho
 have hoa : ∀ x ∈ a, okE x = true := List.all_eq_true.1 ho.1
 have hsz : ∀ x ∈ a, x.size ≤ 1048576 := fun x hx => by have := xQk (f := Exp.size) hx; omega
 have IH := fun x hx => ih x hx (h4.2 x hx) (hsz x hx) (hoa x hx)
 refine Big2.succ (Big2.succ ?_)
 refine ((Big2.list fun x hx => (IH x hx).and (IH x hx).up).and (xM3 1048576).two).imp fun N d ⟨hx, hn⟩ => ?_
 have hlen : ∀ x ∈ a, (srcE x).length ≤ 200000000 := fun x hx => by
  have e1 := xN0 K x (h4.2 x hx)
  have e2 := Exp.cnt_le x
  have e3 := hsz x hx
  omega
 have hsum : ((a.map srcE).map List.length).sum ≤ 200000000 := by
  rw [List.map_map]
  have e1 := xOJ (f := List.length ∘ srcE) (g := Exp.cnt) (h := Exp.size) (a := a) fun x hx => xN0 K x (h4.2 x hx)
  have e2 := xPG (f := Exp.cnt) (g := Exp.size) (a := a) fun x _ => Exp.cnt_le x
  omega
 have A1 : ∀ x ∈ a, ∀ l, (xAk N (d + 1)).c_impl_enclosed x l = some (encl l x (srcE x)) := fun x hm l => xRc (hx x hm).1.1 (by have := hlen x hm; omega) l
 have A2 : ∀ x ∈ a, ∀ l, (xAw N (d + 1)).c_spec_l12At x l = some (encl l x (srcE x)) := fun x hm l => xSI (hx x hm).1.2 (by have := hlen x hm; omega) l
 have B1 := xRd (N := N) (d := d) (a := a) (fun x hm => (hx x hm).1.1) (by omega) hn (by omega)
 have B2 := xSJ (N := N) (d := d) (a := a) (fun x hm => (hx x hm).1.2) (by omega) hn (by omega)
 have hj := xNo (a.map srcE) [44, 32]
 have h7 : ([44, 32] : Str).length = 2 := rfl
 rw [h7, List.length_map] at hj
 rw [xPF]
 show xCj N (xAk N (d + 1)).c_impl_enclosed (xAk N (d + 1)).c_impl_source (xAk N (d + 1)).c_impl_sources (.mk k n t a) = _ ∧
  xB1 N (xAw N (d + 1)).c_spec_l12At (xAw N (d + 1)).c_spec_l12List (xAw N (d + 1)).c_spec_l12Text (.mk k n t a) = _
 have C1 : ∀ x ∈ a, (xAk N (d + 1)).c_impl_source x = some (srcE x) := fun x hm => (hx x hm).2.1
 have C2 : ∀ x ∈ a, (xAw N (d + 1)).c_spec_l12Text x = some (srcE x) := fun x hm => (hx x hm).2.2
 generalize (xAk N (d + 1)).c_impl_enclosed = q0 at A1 ⊢
 generalize (xAk N (d + 1)).c_impl_source = q1 at C1 ⊢
 generalize (xAk N (d + 1)).c_impl_sources = q2 at B1 ⊢
 generalize (xAw N (d + 1)).c_spec_l12At = r0 at A2 ⊢
 generalize (xAw N (d + 1)).c_spec_l12Text = r1 at C2 ⊢
 generalize (xAw N (d + 1)).c_spec_l12List = r2 at B2 ⊢
 rcases kinds ho.2 with hk | hk | hk | hk | hk | ⟨hk, hn1, hn5, hl2⟩ | ⟨hk, hl2⟩ | ⟨hk, hl2⟩ | ⟨hk, hl2⟩ <;> (have hk : k = _ := hk; subst hk)
 · exact ⟨by simp [xCj, ek, en, xLt hnn, xIq], by simp [xB1, ek, en, xI4 (by omega : 100 < N) hnn, xIq]⟩
 · have e1 : List.length [34] + List.length t ≤ Lim := by simp only [jC, jN]; unfold Lim; omega
   have e2 : List.length (([34] : Str) ++ t) + List.length [34] ≤ Lim := by simp only [jA, jC, jN]; unfold Lim; omega
   refine ⟨?_, ?_⟩
   · simp only [xCj, ek, et, show ((2 : Int) == 1) = false from rfl, beq_self_eq_true, jT, jF, xIq]
     repeat (first | refine Eq.trans (if_pos (by simp only [jA, jC, jN]; unfold Lim; omega)) ?_ | refine Eq.trans (if_pos (by simp only [jC, jN]; omega)) ?_)
     rfl
   · simp only [xB1, ek, et, show ((2 : Int) == 1) = false from rfl, beq_self_eq_true, jT, jF, xIq]
     repeat (first | refine Eq.trans (if_pos (by simp only [jA, jC, jN]; unfold Lim; omega)) ?_ | refine Eq.trans (if_pos (by simp only [jC, jN]; omega)) ?_)
     rfl
 · exact ⟨rfl, rfl⟩
 · have e1 : List.length [91] + List.length (Lib.join (a.map srcE) [44, 32]) ≤ Lim := by simp only [jC, jN]; unfold Lim; omega
   have e2 : List.length (([91] : Str) ++ Lib.join (a.map srcE) [44, 32]) + List.length [93] ≤ Lim := by simp only [jA, jC, jN]; unfold Lim; omega
   refine ⟨?_, ?_⟩
   · simp only [xCj, ek, ea, show ((4 : Int) == 1) = false from rfl, show ((4 : Int) == 2) = false from rfl, show ((4 : Int) == 3) = false from rfl, beq_self_eq_true, jT, jF, xIq, B1, jS]
     repeat (first | refine Eq.trans (if_pos (by simp only [jA, jC, jN]; unfold Lim; omega)) ?_ | refine Eq.trans (if_pos (by simp only [jC, jN]; omega)) ?_)
     rfl
   · simp only [xB1, ek, ea, show ((4 : Int) == 1) = false from rfl, show ((4 : Int) == 2) = false from rfl, show ((4 : Int) == 3) = false from rfl, beq_self_eq_true, jT, jF, xIq, B2, jS]
     repeat (first | refine Eq.trans (if_pos (by simp only [jA, jC, jN]; unfold Lim; omega)) ?_ | refine Eq.trans (if_pos (by simp only [jC, jN]; omega)) ?_)
     rfl
 · have e0 : List.length t + List.length [40] ≤ Lim := by simp only [jC, jN]; unfold Lim; omega
   have e1 : List.length (t ++ [40]) + List.length (Lib.join (a.map srcE) [44, 32]) ≤ Lim := by simp only [jA, jC, jN]; unfold Lim; omega
   have e2 : List.length ((t ++ [40]) ++ Lib.join (a.map srcE) [44, 32]) + List.length [41] ≤ Lim := by simp only [jA, jC, jN]; unfold Lim; omega
   refine ⟨?_, ?_⟩
   · simp only [xCj, ek, ea, et, show ((5 : Int) == 1) = false from rfl, show ((5 : Int) == 2) = false from rfl, show ((5 : Int) == 3) = false from rfl, show ((5 : Int) == 4) = false from rfl, beq_self_eq_true, jT, jF, xIq, B1, jS]
     repeat (first | refine Eq.trans (if_pos (by simp only [jA, jC, jN]; unfold Lim; omega)) ?_ | refine Eq.trans (if_pos (by simp only [jC, jN]; omega)) ?_)
     rfl
   · simp only [xB1, ek, ea, et, show ((5 : Int) == 1) = false from rfl, show ((5 : Int) == 2) = false from rfl, show ((5 : Int) == 3) = false from rfl, show ((5 : Int) == 4) = false from rfl, beq_self_eq_true, jT, jF, xIq, B2, jS]
     repeat (first | refine Eq.trans (if_pos (by simp only [jA, jC, jN]; unfold Lim; omega)) ?_ | refine Eq.trans (if_pos (by simp only [jC, jN]; omega)) ?_)
     rfl
 · obtain ⟨x, y, rfl⟩ := xKG hl2
   have lx := hlen x (by simp)
   have ly := hlen y (by simp)
   have cx := A1 x (by simp)
   have cy := A1 y (by simp)
   have dx := A2 x (by simp)
   have dy := A2 y (by simp)
   have gx : List.getD [x, y] (Int.toNat 0) Ty.exp.dflt = x := rfl
   have gy : List.getD [x, y] (Int.toNat 1) Ty.exp.dflt = y := rfl
   have hv := lvl6 (n := n) (t := t) (a := [x, y]) hn1 hn5
   have hw : IntKind.i64.wrap (lvl (.mk 6 n t [x, y]) + 1) = lvl (.mk 6 n t [x, y]) + 1 := xBw (by omega) (by omega)
   obtain ⟨o1, o2⟩ := xTk (N := N) (n := n) hn1 hn5
   have ol := xOr n
   have kx := fun l => xMe l x (srcE x)
   have ky := fun l => xMe l y (srcE y)
   have k1 := kx 2
   have k2 := kx (lvl (.mk 6 n t [x, y]))
   have k3 := ky (lvl (.mk 6 n t [x, y]) + 1)
   refine ⟨?_, ?_⟩
   · cases hb : (lvl (.mk 6 n t [x, y]) == 1)
     all_goals
      simp only [xCj, ek, en, et, ea, show ((6 : Int) == 1) = false from rfl, show ((6 : Int) == 2) = false from rfl, show ((6 : Int) == 3) = false from rfl, show ((6 : Int) == 4) = false from rfl, show ((6 : Int) == 5) = false from rfl, show ((6 : Int) == 7) = false from rfl, show ((6 : Int) == 8) = false from rfl, show ((6 : Int) == 9) = false from rfl, jT, jF, xJJ, jS, hb, gx, gy, cx, cy, hw, o1]
      repeat (first | refine Eq.trans (if_pos (by simp only [jA, jC, jN]; unfold Lim; omega)) ?_ | rw [o1, jS] | refine Eq.trans (if_pos (by simp only [jC, jN]; omega)) ?_)
      simp only [xIq, show ((6 : Int) == 1) = false from rfl, show ((6 : Int) == 2) = false from rfl, show ((6 : Int) == 3) = false from rfl, show ((6 : Int) == 4) = false from rfl, show ((6 : Int) == 5) = false from rfl, show ((6 : Int) == 7) = false from rfl, show ((6 : Int) == 8) = false from rfl, show ((6 : Int) == 9) = false from rfl, jT, jF, hb]
      rfl
   · cases hb : (lvl (.mk 6 n t [x, y]) == 1)
     all_goals
      simp only [xB1, ek, en, et, ea, show ((6 : Int) == 1) = false from rfl, show ((6 : Int) == 2) = false from rfl, show ((6 : Int) == 3) = false from rfl, show ((6 : Int) == 4) = false from rfl, show ((6 : Int) == 5) = false from rfl, show ((6 : Int) == 7) = false from rfl, show ((6 : Int) == 8) = false from rfl, show ((6 : Int) == 9) = false from rfl, jT, jF, xIe, jS, hb, gx, gy, dx, dy, hw, o2]
      repeat (first | refine Eq.trans (if_pos (by simp only [jA, jC, jN]; unfold Lim; omega)) ?_ | rw [o2, jS] | refine Eq.trans (if_pos (by simp only [jC, jN]; omega)) ?_)
      simp only [xIq, show ((6 : Int) == 1) = false from rfl, show ((6 : Int) == 2) = false from rfl, show ((6 : Int) == 3) = false from rfl, show ((6 : Int) == 4) = false from rfl, show ((6 : Int) == 5) = false from rfl, show ((6 : Int) == 7) = false from rfl, show ((6 : Int) == 8) = false from rfl, show ((6 : Int) == 9) = false from rfl, jT, jF, hb]
      rfl
 · obtain ⟨x, y, rfl⟩ := xKG hl2
   have lx := hlen x (by simp)
   have cx := C1 x (by simp)
   have dx := C2 x (by simp)
   have gx : List.getD [x, y] (Int.toNat 0) Ty.exp.dflt = x := rfl
   have ly := hlen y (by simp)
   have cy := C1 y (by simp)
   have dy := C2 y (by simp)
   have gy : List.getD [x, y] (Int.toNat 1) Ty.exp.dflt = y := rfl
   refine ⟨?_, ?_⟩
   · simp only [xCj, ek, en, et, ea, show ((7 : Int) == 1) = false from rfl, show ((7 : Int) == 2) = false from rfl, show ((7 : Int) == 3) = false from rfl, show ((7 : Int) == 4) = false from rfl, show ((7 : Int) == 5) = false from rfl, show ((7 : Int) == 6) = false from rfl, beq_self_eq_true, jT, jF, gx, gy, cx, cy, jS]
     repeat (first | refine Eq.trans (if_pos (by simp only [jA, jC, jN]; unfold Lim; omega)) ?_ | refine Eq.trans (if_pos (by simp only [jC, jN]; omega)) ?_)
     rfl
   · simp only [xB1, ek, en, et, ea, show ((7 : Int) == 1) = false from rfl, show ((7 : Int) == 2) = false from rfl, show ((7 : Int) == 3) = false from rfl, show ((7 : Int) == 4) = false from rfl, show ((7 : Int) == 5) = false from rfl, show ((7 : Int) == 6) = false from rfl, beq_self_eq_true, jT, jF, gx, gy, dx, dy, jS]
     repeat (first | refine Eq.trans (if_pos (by simp only [jA, jC, jN]; unfold Lim; omega)) ?_ | refine Eq.trans (if_pos (by simp only [jC, jN]; omega)) ?_)
     rfl
 · obtain ⟨x, y, rfl⟩ := xKG hl2
   have lx := hlen x (by simp)
   have cx := C1 x (by simp)
   have dx := C2 x (by simp)
   have gx : List.getD [x, y] (Int.toNat 0) Ty.exp.dflt = x := rfl
   have ly := hlen y (by simp)
   have cy := C1 y (by simp)
   have dy := C2 y (by simp)
   have gy : List.getD [x, y] (Int.toNat 1) Ty.exp.dflt = y := rfl
   refine ⟨?_, ?_⟩
   · simp only [xCj, ek, en, et, ea, show ((9 : Int) == 1) = false from rfl, show ((9 : Int) == 2) = false from rfl, show ((9 : Int) == 3) = false from rfl, show ((9 : Int) == 4) = false from rfl, show ((9 : Int) == 5) = false from rfl, show ((9 : Int) == 7) = false from rfl, show ((9 : Int) == 8) = false from rfl, beq_self_eq_true, jT, jF, gx, gy, cx, cy, jS]
     repeat (first | refine Eq.trans (if_pos (by simp only [jA, jC, jN]; unfold Lim; omega)) ?_ | refine Eq.trans (if_pos (by simp only [jC, jN]; omega)) ?_)
     rfl
   · simp only [xB1, ek, en, et, ea, show ((9 : Int) == 1) = false from rfl, show ((9 : Int) == 2) = false from rfl, show ((9 : Int) == 3) = false from rfl, show ((9 : Int) == 4) = false from rfl, show ((9 : Int) == 5) = false from rfl, show ((9 : Int) == 7) = false from rfl, show ((9 : Int) == 8) = false from rfl, beq_self_eq_true, jT, jF, gx, gy, dx, dy, jS]
     repeat (first | refine Eq.trans (if_pos (by simp only [jA, jC, jN]; unfold Lim; omega)) ?_ | refine Eq.trans (if_pos (by simp only [jC, jN]; omega)) ?_)
     rfl
 · obtain ⟨x, y, z, rfl⟩ := xN1 hl2
   have lx := hlen x (by simp)
   have cx := C1 x (by simp)
   have dx := C2 x (by simp)
   have gx : List.getD [x, y, z] (Int.toNat 0) Ty.exp.dflt = x := rfl
   have ly := hlen y (by simp)
   have cy := C1 y (by simp)
   have dy := C2 y (by simp)
   have gy : List.getD [x, y, z] (Int.toNat 1) Ty.exp.dflt = y := rfl
   have lz := hlen z (by simp)
   have cz := C1 z (by simp)
   have dz := C2 z (by simp)
   have gz : List.getD [x, y, z] (Int.toNat 2) Ty.exp.dflt = z := rfl
   refine ⟨?_, ?_⟩
   · simp only [xCj, ek, en, et, ea, show ((8 : Int) == 1) = false from rfl, show ((8 : Int) == 2) = false from rfl, show ((8 : Int) == 3) = false from rfl, show ((8 : Int) == 4) = false from rfl, show ((8 : Int) == 5) = false from rfl, show ((8 : Int) == 7) = false from rfl, show ((8 : Int) == 9) = false from rfl, beq_self_eq_true, jT, jF, gx, gy, gz, cx, cy, cz, jS]
     repeat (first | refine Eq.trans (if_pos (by simp only [jA, jC, jN]; unfold Lim; omega)) ?_ | refine Eq.trans (if_pos (by simp only [jC, jN]; omega)) ?_)
     rfl
   · simp only [xB1, ek, en, et, ea, show ((8 : Int) == 1) = false from rfl, show ((8 : Int) == 2) = false from rfl, show ((8 : Int) == 3) = false from rfl, show ((8 : Int) == 4) = false from rfl, show ((8 : Int) == 5) = false from rfl, show ((8 : Int) == 7) = false from rfl, show ((8 : Int) == 9) = false from rfl, beq_self_eq_true, jT, jF, gx, gy, gz, dx, dy, dz, jS]
     repeat (first | refine Eq.trans (if_pos (by simp only [jA, jC, jN]; unfold Lim; omega)) ?_ | refine Eq.trans (if_pos (by simp only [jC, jN]; omega)) ?_)
     rfl
end Go.Ab
end
section
namespace Go.Ab
def fmtE (e : Exp) : Str := bif !xFc e then [] else srcE e
theorem xMp {K : Nat} (hK : K ≤ 1048576) {e : Exp} (h : e.Fit K) (hs : e.size ≤ 1048576) : Big fun N => xEW N e = some (fmtE e) ∧ xE1 N e = some (fmtE e) := by
 cases hv : xFc e
 · refine (xLq hK h hs).imp fun N ⟨h1, h2⟩ => ?_
   simp only [xEW, xE1, h1, h2, hv, jS, Bool.not_false, jT, fmtE]
   exact ⟨trivial, trivial⟩
 · have ho : okE e = true := by
    unfold xFc at hv
    simp only [Bool.and_eq_true] at hv
    exact hv.2
   refine ((xLq hK h hs).and (vCr hK e h hs ho).diag).imp fun N ⟨⟨h1, h2⟩, s1, s2⟩ => ?_
   have s3 : xKJ N e = some (srcE e) := s1
   have s4 : xKe N e = some (srcE e) := s2
   simp only [xEW, xE1, h1, h2, hv, jS, Bool.not_true, jF, fmtE, s3, s4]
   exact ⟨trivial, trivial⟩
end Go.Ab
end
section
namespace Go.Ab
inductive PR (α : Type) where
 | ok (a : α) (r : List Tok)
 | err (r : List Tok)
def PR.bind {α β : Type} : PR α → (α → List Tok → PR β) → PR β
 | .ok a r, k => k a r
 | .err r, _ => .err r
theorem PR.bind_ok {α β : Type} {R : PR α} {k : α → List Tok → PR β} {b : β} {r : List Tok} (h : R.bind k = .ok b r) : ∃ a q, R = .ok a q ∧ k a q = .ok b r := by
 cases R with
 | ok a q => exact ⟨a, q, rfl, h⟩
 | err q => cases h
def isK (t : Tok) (s : Str) : Bool := bif t.kind == 1 then t.text == s else false
def isS (t : Tok) (s : Str) : Bool := bif t.kind == 4 then t.text == s else false
def seeK (s : Str) : List Tok → Bool
 | [] => false
 | t :: _ => isK t s
def seeS (s : Str) : List Tok → Bool
 | [] => false
 | t :: _ => isS t s
def xGH (s : Str) : List Tok → PR Unit
 | [] => .err []
 | t :: r => bif isK t s || isS t s then .ok () r else .err (t :: r)
def xMW : List Tok → PR Str
 | [] => .err []
 | t :: r => bif t.kind == 1 then (bif xCc t.text then .ok t.text r else .err (t :: r)) else .err (t :: r)
def xJz (f : List Tok → PR Exp) (c : Str) : Nat → List Exp → List Tok → PR (List Exp)
 | 0, _, ts => .err ts
 | m + 1, acc, ts => (f ts).bind fun e r => bif seeS c r then .ok (acc ++ [e]) r.tail else (xGH [44] r).bind fun _ q => xJz f c m (acc ++ [e]) q
def xKR (f : List Tok → PR Exp) (m : Nat) (c : Str) (ts : List Tok) : PR (List Exp) := bif seeS c ts then .ok [] ts.tail else xJz f c m [] ts
def xJy (f : List Tok → PR Exp) (m : Nat) (t : Tok) (r : List Tok) : PR Exp :=
 bif isS t [91] then (xKR f m [93] r).bind fun a q => .ok (.mk 4 0 [] a) q
 else bif isS t [40] then (f r).bind fun e q => (xGH [41] q).bind fun _ u => .ok e u
 else .err (t :: r)
def xG2 (f : List Tok → PR Exp) (m : Nat) : List Tok → PR Exp
 | [] => .err []
 | t :: r =>
   bif t.kind == 2 then .ok (.mk 1 t.n [] []) r
   else bif t.kind == 3 then .ok (.mk 2 0 t.text []) r
   else bif t.kind == 1 then
    (bif xCc t.text then .ok (.mk 3 0 t.text []) r
    else bif decide (argc t.text ≥ 0) then (xGH [40] r).bind fun _ q => (xKR f m [41] q).bind fun a u => .ok (.mk 5 0 t.text a) u
    else xJy f m t r)
   else xJy f m t r
def xI1 (g : List Tok → PR Exp) : Nat → Exp → List Tok → PR Exp
 | 0, _, ts => .err ts
 | m + 1, a, ts => bif seeS [42] ts then (g ts.tail).bind fun b r => xI1 g m (.mk 6 3 [] [a, b]) r else .ok a ts
def xLg (g : List Tok → PR Exp) (m : Nat) (ts : List Tok) : PR Exp := (g ts).bind fun a r => xI1 g m a r
def xJs (g : List Tok → PR Exp) : Nat → Exp → List Tok → PR Exp
 | 0, _, ts => .err ts
 | m + 1, a, ts => bif seeS [43] ts then (g ts.tail).bind fun b r => xJs g m (.mk 6 1 [] [a, b]) r
   else bif seeS [45] ts then (g ts.tail).bind fun b r => xJs g m (.mk 6 2 [] [a, b]) r else .ok a ts
def pSum (g : List Tok → PR Exp) (m : Nat) (ts : List Tok) : PR Exp := (g ts).bind fun a r => xJs g m a r
def xOt (g : List Tok → PR Exp) (a : Exp) (r : List Tok) : PR Exp :=
 bif seeS [60] r then (g r.tail).bind fun b q => .ok (.mk 6 4 [] [a, b]) q
 else bif seeS [61, 61] r then (g r.tail).bind fun b q => .ok (.mk 6 5 [] [a, b]) q else .ok a r
def pCmp (g : List Tok → PR Exp) (ts : List Tok) : PR Exp := (g ts).bind fun a r => xOt g a r
def pTwo (f : List Tok → PR Exp) (k : Int) (s1 s2 : Str) (ts : List Tok) : PR Exp :=
 (xMW ts).bind fun x q1 => (xGH s1 q1).bind fun _ q2 => (f q2).bind fun a q3 => (xGH s2 q3).bind fun _ q4 => (f q4).bind fun b q5 => .ok (.mk k 0 x [a, b]) q5
def pIf (f : List Tok → PR Exp) (ts : List Tok) : PR Exp :=
 (f ts).bind fun a q1 => (xGH [116, 104, 101, 110] q1).bind fun _ q2 => (f q2).bind fun b q3 => (xGH [101, 108, 115, 101] q3).bind fun _ q4 => (f q4).bind fun c q5 => .ok (.mk 8 0 [] [a, b, c]) q5
def xHI (f g : List Tok → PR Exp) (ts : List Tok) : PR Exp :=
 bif seeK [108, 101, 116] ts then pTwo f 7 [61] [105, 110] ts.tail
 else bif seeK [105, 102] ts then pIf f ts.tail
 else bif seeK [102, 111, 114] ts then pTwo f 9 [105, 110] [100, 111] ts.tail
 else pCmp g ts
def xLR (f : List Tok → PR Exp) (m : Nat) : List Tok → PR Exp := pSum (xLg (xG2 f m) m) m
def pE : Nat → List Tok → PR Exp
 | 0, ts => .err ts
 | m + 1, ts => xHI (pE m) (xLR (pE m) (m + 1)) ts
theorem xQg {s : Str} {ts r : List Tok} {u : Unit} (h : xGH s ts = .ok u r) : ∃ t, ts = t :: r ∧ (isK t s || isS t s) = true := by
 cases ts with
 | nil => cases h
 | cons t q =>
   simp only [xGH] at h
   cases hb : isK t s || isS t s <;> rw [hb] at h <;> cases h
   exact ⟨t, rfl, hb⟩
theorem xQf {ts r : List Tok} {x : Str} (h : xMW ts = .ok x r) : ∃ t, ts = t :: r ∧ x = t.text ∧ t.kind = 1 ∧ xCc t.text = true := by
 cases ts with
 | nil => cases h
 | cons t q =>
   simp only [xMW] at h
   cases hb : t.kind == 1 <;> rw [hb] at h
   · cases h
   · cases hv : xCc t.text <;> rw [hv] at h <;> cases h
     exact ⟨t, rfl, rfl, by simpa using hb, hv⟩
theorem xMH {s : Str} {ts : List Tok} (h : seeS s ts = true) : ∃ t, ts = t :: ts.tail ∧ isS t s = true := by
 cases ts with
 | nil => cases h
 | cons t q => exact ⟨t, rfl, h⟩
theorem xOB {s : Str} {ts : List Tok} (h : seeK s ts = true) : ∃ t, ts = t :: ts.tail ∧ isK t s = true := by
 cases ts with
 | nil => cases h
 | cons t q => exact ⟨t, rfl, h⟩
theorem xEH {s : Str} {ts : List Tok} (h : seeS s ts = true) : ts.tail.length + 1 = ts.length := by
 obtain ⟨t, h1, _⟩ := xMH h
 rw [h1]; rfl
theorem xFU {s : Str} {ts : List Tok} (h : seeK s ts = true) : ts.tail.length + 1 = ts.length := by
 obtain ⟨t, h1, _⟩ := xOB h
 rw [h1]; rfl
theorem xD3 {s : Str} {ts r : List Tok} {u : Unit} (h : xGH s ts = .ok u r) : r.length + 1 = ts.length := by
 obtain ⟨t, h1, _⟩ := xQg h
 rw [h1]; rfl
theorem xMF {ts r : List Tok} {x : Str} (h : xMW ts = .ok x r) : r.length + 1 = ts.length := by
 obtain ⟨t, h1, _⟩ := xQf h
 rw [h1]; rfl
def tw (ts : List Tok) : Nat := (ts.map fun t => t.text.length + 3).sum
theorem xLV (t : Tok) (r : List Tok) : tw (t :: r) = t.text.length + 3 + tw r := by simp [tw]
def xWY (K : Nat) (ts : List Tok) (e : Exp) (r : List Tok) : Prop := e.size + tw r ≤ tw ts ∧ e.Fit K
def xCQ (K : Nat) (f : List Tok → PR Exp) : Prop := ∀ ts e r, (∀ t ∈ ts, t.Fit K) → tw ts ≤ K → f ts = .ok e r → xWY K ts e r ∧ (∀ t ∈ r, t.Fit K) ∧ r.length < ts.length
theorem xHz {K : Nat} {k n : Int} {t : Str} {a : List Exp} (hk : I64 k) (hn : I64 n) (ht : t.length ≤ K) (ha : a.length ≤ K) (hx : ∀ x ∈ a, x.Fit K) : (Exp.mk k n t a).Fit K :=
 Exp.fit_iff.2 ⟨hk, hn, ht, ha, hx⟩
theorem xGI (k n : Int) (t : Str) (a : List Exp) : (Exp.mk k n t a).size = t.length + (a.length + (a.map Exp.size).sum) := Exp.size_eq _
theorem xEn {x : Int} (h : 0 ≤ x ∧ x ≤ 1000) : I64 x := by unfold I64; omega
theorem xJr {K : Nat} {s : Str} {ts r : List Tok} {u : Unit} (hf : ∀ t ∈ ts, t.Fit K) (h : xGH s ts = .ok u r) : (∀ t ∈ r, t.Fit K) ∧ tw r + 3 ≤ tw ts ∧ r.length < ts.length := by
 obtain ⟨t, rfl, _⟩ := xQg h
 exact ⟨fun x hx => hf x (List.mem_cons_of_mem _ hx), by rw [xLV]; omega, by simp⟩
theorem xSQ {K : Nat} {ts : List Tok} (hf : ∀ t ∈ ts, t.Fit K) (h : (∃ t, ts = t :: ts.tail ∧ True)) : (∀ t ∈ ts.tail, t.Fit K) ∧ tw ts.tail + 3 ≤ tw ts ∧ ts.tail.length < ts.length := by
 obtain ⟨t, h1, _⟩ := h
 generalize ts.tail = q at h1
 subst h1
 exact ⟨fun x hx => hf x (List.mem_cons_of_mem _ hx), by rw [xLV]; omega, by simp⟩
theorem xKU {K : Nat} {s : Str} {ts : List Tok} (hf : ∀ t ∈ ts, t.Fit K) (h : seeS s ts = true) : (∀ t ∈ ts.tail, t.Fit K) ∧ tw ts.tail + 3 ≤ tw ts ∧ ts.tail.length < ts.length := by
 obtain ⟨t, h1, _⟩ := xMH h
 exact xSQ hf ⟨t, h1, trivial⟩
theorem xPB {K : Nat} {s : Str} {ts : List Tok} (hf : ∀ t ∈ ts, t.Fit K) (h : seeK s ts = true) : (∀ t ∈ ts.tail, t.Fit K) ∧ tw ts.tail + 3 ≤ tw ts ∧ ts.tail.length < ts.length := by
 obtain ⟨t, h1, _⟩ := xOB h
 exact xSQ hf ⟨t, h1, trivial⟩
theorem xOE (a b : List Exp) : ((a ++ b).map Exp.size).sum = (a.map Exp.size).sum + (b.map Exp.size).sum := by simp
theorem xOv {K : Nat} {f : List Tok → PR Exp} (hf : xCQ K f) (c : Str) : ∀ (m : Nat) (acc : List Exp) (ts : List Tok) (a : List Exp) (r : List Tok), (∀ t ∈ ts, t.Fit K) → tw ts ≤ K → (∀ x ∈ acc, x.Fit K) → xJz f c m acc ts = .ok a r →
 (a.length + (a.map Exp.size).sum + tw r ≤ acc.length + (acc.map Exp.size).sum + tw ts) ∧ (∀ x ∈ a, x.Fit K) ∧ (∀ t ∈ r, t.Fit K) ∧ r.length < ts.length := by
 intro m
 induction m with
 | zero => intro acc ts a r _ _ _ h; cases h
 | succ m ih =>
   intro acc ts a r h1 h2 h3 h
   obtain ⟨e, q, he, h⟩ := PR.bind_ok h
   obtain ⟨⟨w1, w2⟩, g1, g2⟩ := hf ts e q h1 h2 he
   have hacc : ∀ x ∈ acc ++ [e], x.Fit K := fun x hx => by
    rcases List.mem_append.1 hx with hx | hx
    · exact h3 x hx
    · rw [List.mem_singleton.1 hx]; exact w2
   have hsz : (acc ++ [e]).length + ((acc ++ [e]).map Exp.size).sum = acc.length + (acc.map Exp.size).sum + (1 + e.size) := by
    rw [xOE, jA]; simp only [List.map_cons, List.map_nil, List.sum_cons, List.sum_nil, jC, jN]; omega
   cases hc : seeS c q <;> rw [hc] at h
   · obtain ⟨u, v, hn, h⟩ := PR.bind_ok h
     obtain ⟨n1, n2, n3⟩ := xJr g1 hn
     obtain ⟨a1, a2, a3, a4⟩ := ih (acc ++ [e]) v a r n1 (by omega) hacc h
     exact ⟨by omega, a2, a3, by omega⟩
   · cases h
     obtain ⟨n1, n2, n3⟩ := xKU g1 hc
     exact ⟨by omega, hacc, n1, by omega⟩
theorem xME {K : Nat} {f : List Tok → PR Exp} (hf : xCQ K f) {m : Nat} {c : Str} {ts r : List Tok} {a : List Exp} (h1 : ∀ t ∈ ts, t.Fit K) (h2 : tw ts ≤ K) (h : xKR f m c ts = .ok a r) :
 (a.length + (a.map Exp.size).sum + tw r ≤ tw ts) ∧ (∀ x ∈ a, x.Fit K) ∧ (∀ t ∈ r, t.Fit K) ∧ r.length < ts.length := by
 unfold xKR at h
 cases hc : seeS c ts <;> rw [hc] at h
 · have := xOv hf c m [] ts a r h1 h2 (fun x hx => by cases hx) h
   simpa using this
 · cases h
   obtain ⟨n1, n2, n3⟩ := xKU h1 hc
   exact ⟨by simp; omega, (fun x hx => by cases hx), n1, n3⟩
theorem xL6 {K : Nat} {f : List Tok → PR Exp} (hf : xCQ K f) {m : Nat} {t : Tok} {q r : List Tok} {e : Exp} (h1 : ∀ x ∈ t :: q, x.Fit K) (h2 : tw (t :: q) ≤ K) (h : xJy f m t q = .ok e r) :
 xWY K (t :: q) e r ∧ (∀ x ∈ r, x.Fit K) ∧ r.length < (t :: q).length := by
 have hq : ∀ x ∈ q, x.Fit K := fun x hx => h1 x (List.mem_cons_of_mem _ hx)
 have hw := xLV t q
 unfold xJy at h
 cases c1 : isS t [91] <;> rw [c1] at h
 · cases c2 : isS t [40] <;> rw [c2] at h
   · cases h
   · obtain ⟨e', u, he, h⟩ := PR.bind_ok h
     obtain ⟨_, v, hn, h⟩ := PR.bind_ok h
     cases h
     obtain ⟨⟨w1, w2⟩, g1, g2⟩ := hf q e u hq (by omega) he
     obtain ⟨n1, n2, n3⟩ := xJr g1 hn
     exact ⟨⟨by omega, w2⟩, n1, by simp only [jC]; omega⟩
 · obtain ⟨a, u, ha, h⟩ := PR.bind_ok h
   cases h
   obtain ⟨w1, w2, w3, w4⟩ := xME hf hq (by omega) ha
   refine ⟨⟨by rw [xGI]; simp only [jN]; omega, xHz (xEn (by omega)) (xEn (by omega)) (Nat.zero_le _) (by omega) w2⟩, w3, by simp only [jC]; omega⟩
theorem xId {K : Nat} {f : List Tok → PR Exp} (hf : xCQ K f) (m : Nat) : xCQ K (xG2 f m) := by
 intro ts e r h1 h2 h
 cases ts with
 | nil => cases h
 | cons t q =>
   have hq : ∀ x ∈ q, x.Fit K := fun x hx => h1 x (List.mem_cons_of_mem _ hx)
   obtain ⟨ft1, ft2, ft3, ft4⟩ := h1 t List.mem_cons_self
   have ft4 : t.text.length ≤ K := ft4
   have hw := xLV t q
   have zero : ∀ x ∈ ([] : List Exp), x.Fit K := fun x hx => by cases hx
   simp only [xG2] at h
   cases c1 : t.kind == 2 <;> rw [c1] at h
   · cases c2 : t.kind == 3 <;> rw [c2] at h
     · cases c3 : t.kind == 1 <;> rw [c3] at h
       · exact xL6 hf h1 h2 h
       · cases c4 : xCc t.text <;> rw [c4] at h
         · cases c5 : decide (argc t.text ≥ 0) <;> rw [c5] at h
           · exact xL6 hf h1 h2 h
           · obtain ⟨_, u, hn, h⟩ := PR.bind_ok h
             obtain ⟨a, v, ha, h⟩ := PR.bind_ok h
             cases h
             obtain ⟨n1, n2, n3⟩ := xJr hq hn
             obtain ⟨w1, w2, w3, w4⟩ := xME hf n1 (by omega) ha
             exact ⟨⟨by rw [xGI]; omega, xHz (xEn (by omega)) (xEn (by omega)) ft4 (by omega) w2⟩, w3, by simp only [jC]; omega⟩
         · cases h
           exact ⟨⟨by rw [xGI]; simp only [jN, List.map_nil, List.sum_nil]; omega, xHz (xEn (by omega)) (xEn (by omega)) ft4 (Nat.zero_le _) zero⟩, hq, by simp⟩
     · cases h
       exact ⟨⟨by rw [xGI]; simp only [jN, List.map_nil, List.sum_nil]; omega, xHz (xEn (by omega)) (xEn (by omega)) ft4 (Nat.zero_le _) zero⟩, hq, by simp⟩
   · cases h
     exact ⟨⟨by rw [xGI]; simp only [jN, List.map_nil, List.sum_nil]; omega, xHz (xEn (by omega)) ft2 (Nat.zero_le _) (Nat.zero_le _) zero⟩, hq, by simp⟩
theorem xMr {K : Nat} {k n : Int} {a b : Exp} {w : Nat} (hk : I64 k) (hn : I64 n) (ha : a.Fit K) (hb : b.Fit K) (h2 : 2 ≤ K) : (Exp.mk k n [] [a, b]).Fit K ∧ (Exp.mk k n [] [a, b]).size = a.size + b.size + 2 :=
 ⟨xHz hk hn (Nat.zero_le _) h2 (fun x hx => by
   simp only [List.mem_cons, List.not_mem_nil, or_false] at hx
   rcases hx with rfl | rfl <;> assumption), by rw [xGI]; simp only [jC, jN, List.map_cons, List.map_nil, List.sum_cons, List.sum_nil]; omega⟩
theorem xOw {K : Nat} {g : List Tok → PR Exp} (hg : xCQ K g) : ∀ (m : Nat) (a : Exp) (ts : List Tok) (e : Exp) (r : List Tok), (∀ t ∈ ts, t.Fit K) → tw ts ≤ K → a.Fit K → xI1 g m a ts = .ok e r →
 e.size + tw r ≤ a.size + tw ts ∧ e.Fit K ∧ (∀ t ∈ r, t.Fit K) ∧ r.length ≤ ts.length := by
 intro m
 induction m with
 | zero => intro a ts e r _ _ _ h; cases h
 | succ m ih =>
   intro a ts e r h1 h2 h3 h
   unfold xI1 at h
   cases c1 : seeS [42] ts <;> rw [c1] at h
   · cases h; exact ⟨Nat.le_refl _, h3, h1, Nat.le_refl _⟩
   · obtain ⟨b, q, hb, h⟩ := PR.bind_ok h
     obtain ⟨n1, n2, n3⟩ := xKU h1 c1
     obtain ⟨⟨w1, w2⟩, g1, g2⟩ := hg _ b q n1 (by omega) hb
     obtain ⟨f1, f2⟩ := xMr (w := 0) (k := 6) (n := 3) (xEn (by omega)) (xEn (by omega)) h3 w2 (by omega)
     obtain ⟨p1, p2, p3, p4⟩ := ih _ q e r g1 (by omega) f1 h
     exact ⟨by omega, p2, p3, by omega⟩
theorem xPz {K : Nat} {g : List Tok → PR Exp} (hg : xCQ K g) : ∀ (m : Nat) (a : Exp) (ts : List Tok) (e : Exp) (r : List Tok), (∀ t ∈ ts, t.Fit K) → tw ts ≤ K → a.Fit K → xJs g m a ts = .ok e r →
 e.size + tw r ≤ a.size + tw ts ∧ e.Fit K ∧ (∀ t ∈ r, t.Fit K) ∧ r.length ≤ ts.length := by
 intro m
 induction m with
 | zero => intro a ts e r _ _ _ h; cases h
 | succ m ih =>
   intro a ts e r h1 h2 h3 h
   have one : ∀ (n : Int), I64 n → (∀ t ∈ ts.tail, t.Fit K) ∧ tw ts.tail + 3 ≤ tw ts ∧ ts.tail.length < ts.length → ((g ts.tail).bind fun b r => xJs g m (.mk 6 n [] [a, b]) r) = .ok e r →
    e.size + tw r ≤ a.size + tw ts ∧ e.Fit K ∧ (∀ t ∈ r, t.Fit K) ∧ r.length ≤ ts.length := by
    rintro n hn ⟨n1, n2, n3⟩ h
    obtain ⟨b, q, hb, h⟩ := PR.bind_ok h
    obtain ⟨⟨w1, w2⟩, g1, g2⟩ := hg _ b q n1 (by omega) hb
    obtain ⟨f1, f2⟩ := xMr (w := 0) (k := 6) (n := n) (xEn (by omega)) hn h3 w2 (by omega)
    obtain ⟨p1, p2, p3, p4⟩ := ih _ q e r g1 (by omega) f1 h
    exact ⟨by omega, p2, p3, by omega⟩
   unfold xJs at h
   cases c1 : seeS [43] ts <;> rw [c1] at h
   · cases c2 : seeS [45] ts <;> rw [c2] at h
     · cases h; exact ⟨Nat.le_refl _, h3, h1, Nat.le_refl _⟩
     · exact one 2 (xEn (by omega)) (xKU h1 c2) h
   · exact one 1 (xEn (by omega)) (xKU h1 c1) h
theorem xKS {K : Nat} {g : List Tok → PR Exp} (hg : xCQ K g) (m : Nat) : xCQ K (xLg g m) := by
 intro ts e r h1 h2 h
 obtain ⟨a, q, ha, h⟩ := PR.bind_ok h
 obtain ⟨⟨w1, w2⟩, g1, g2⟩ := hg ts a q h1 h2 ha
 obtain ⟨p1, p2, p3, p4⟩ := xOw hg m a q e r g1 (by omega) w2 h
 exact ⟨⟨by omega, p2⟩, p3, by omega⟩
theorem xQI {K : Nat} {g : List Tok → PR Exp} (hg : xCQ K g) (m : Nat) : xCQ K (pSum g m) := by
 intro ts e r h1 h2 h
 obtain ⟨a, q, ha, h⟩ := PR.bind_ok h
 obtain ⟨⟨w1, w2⟩, g1, g2⟩ := hg ts a q h1 h2 ha
 obtain ⟨p1, p2, p3, p4⟩ := xPz hg m a q e r g1 (by omega) w2 h
 exact ⟨⟨by omega, p2⟩, p3, by omega⟩
theorem xQH {K : Nat} {g : List Tok → PR Exp} (hg : xCQ K g) : xCQ K (pCmp g) := by
 intro ts e r h1 h2 h
 obtain ⟨a, q, ha, h⟩ := PR.bind_ok h
 obtain ⟨⟨w1, w2⟩, g1, g2⟩ := hg ts a q h1 h2 ha
 have one : ∀ (n : Int), I64 n → (∀ t ∈ q.tail, t.Fit K) ∧ tw q.tail + 3 ≤ tw q ∧ q.tail.length < q.length → ((g q.tail).bind fun b r => PR.ok (.mk 6 n [] [a, b]) r) = .ok e r → xWY K ts e r ∧ (∀ x ∈ r, x.Fit K) ∧ r.length < ts.length := by
  rintro n hn ⟨n1, n2, n3⟩ h
  obtain ⟨b, u, hb, h⟩ := PR.bind_ok h
  cases h
  obtain ⟨⟨v1, v2⟩, l1, l2⟩ := hg _ b r n1 (by omega) hb
  obtain ⟨f1, f2⟩ := xMr (w := 0) (k := 6) (n := n) (xEn (by omega)) hn w2 v2 (by omega)
  exact ⟨⟨by omega, f1⟩, l1, by omega⟩
 unfold xOt at h
 cases c1 : seeS [60] q <;> rw [c1] at h
 · cases c2 : seeS [61, 61] q <;> rw [c2] at h
   · cases h; exact ⟨⟨w1, w2⟩, g1, g2⟩
   · exact one 5 (xEn (by omega)) (xKU g1 c2) h
 · exact one 4 (xEn (by omega)) (xKU g1 c1) h
theorem xNg {K : Nat} {f : List Tok → PR Exp} (hf : xCQ K f) {k : Int} (hk : I64 k) {s1 s2 : Str} {ts r : List Tok} {e : Exp} (h1 : ∀ x ∈ ts, x.Fit K) (h2 : tw ts + 3 ≤ K) (h : pTwo f k s1 s2 ts = .ok e r) :
 e.size + tw r ≤ tw ts ∧ e.Fit K ∧ (∀ x ∈ r, x.Fit K) ∧ r.length < ts.length := by
 obtain ⟨x, q1, e1, h⟩ := PR.bind_ok h
 obtain ⟨_, q2, e2, h⟩ := PR.bind_ok h
 obtain ⟨a, q3, e3, h⟩ := PR.bind_ok h
 obtain ⟨_, q4, e4, h⟩ := PR.bind_ok h
 obtain ⟨b, q5, e5, h⟩ := PR.bind_ok h
 cases h
 obtain ⟨t, rfl, rfl, _, _⟩ := xQf e1
 have hq : ∀ x ∈ q1, x.Fit K := fun x hx => h1 x (List.mem_cons_of_mem _ hx)
 have ft4 : t.text.length ≤ K := (h1 t List.mem_cons_self).2.2.2
 have hw := xLV t q1
 obtain ⟨n1, n2, n3⟩ := xJr hq e2
 obtain ⟨⟨w1, w2⟩, g1, g2⟩ := hf _ a q3 n1 (by omega) e3
 obtain ⟨m1, m2, m3⟩ := xJr g1 e4
 obtain ⟨⟨v1, v2⟩, l1, l2⟩ := hf _ b r m1 (by omega) e5
 refine ⟨by rw [xGI]; simp only [jC, jN, List.map_cons, List.map_nil, List.sum_cons, List.sum_nil]; omega, xHz hk (xEn (by omega)) ft4 (by simp; omega) (fun x hx => ?_), l1, by simp only [jC]; omega⟩
 simp only [List.mem_cons, List.not_mem_nil, or_false] at hx
 rcases hx with rfl | rfl <;> assumption
theorem xSx {K : Nat} {f : List Tok → PR Exp} (hf : xCQ K f) {ts r : List Tok} {e : Exp} (h1 : ∀ x ∈ ts, x.Fit K) (h2 : tw ts + 3 ≤ K) (h : pIf f ts = .ok e r) :
 e.size + tw r ≤ tw ts ∧ e.Fit K ∧ (∀ x ∈ r, x.Fit K) ∧ r.length < ts.length := by
 obtain ⟨a, q1, e1, h⟩ := PR.bind_ok h
 obtain ⟨_, q2, e2, h⟩ := PR.bind_ok h
 obtain ⟨b, q3, e3, h⟩ := PR.bind_ok h
 obtain ⟨_, q4, e4, h⟩ := PR.bind_ok h
 obtain ⟨c, q5, e5, h⟩ := PR.bind_ok h
 cases h
 obtain ⟨⟨w1, w2⟩, g1, g2⟩ := hf _ a q1 h1 (by omega) e1
 obtain ⟨n1, n2, n3⟩ := xJr g1 e2
 obtain ⟨⟨v1, v2⟩, l1, l2⟩ := hf _ b q3 n1 (by omega) e3
 obtain ⟨m1, m2, m3⟩ := xJr l1 e4
 obtain ⟨⟨x1, x2⟩, y1, y2⟩ := hf _ c r m1 (by omega) e5
 refine ⟨by rw [xGI]; simp only [jC, jN, List.map_cons, List.map_nil, List.sum_cons, List.sum_nil]; omega, xHz (xEn (by omega)) (xEn (by omega)) (Nat.zero_le _) (by simp; omega) (fun x hx => ?_), y1, by omega⟩
 simp only [List.mem_cons, List.not_mem_nil, or_false] at hx
 rcases hx with rfl | rfl | rfl <;> assumption
theorem xKT {K : Nat} {f : List Tok → PR Exp} (hf : xCQ K f) (m : Nat) : xCQ K (xLR f m) := xQI (xKS (xId hf m) m) m
theorem xOu {K : Nat} {f g : List Tok → PR Exp} (hf : xCQ K f) (hg : xCQ K g) : xCQ K (xHI f g) := by
 intro ts e r h1 h2 h
 unfold xHI at h
 cases c1 : seeK [108, 101, 116] ts <;> rw [c1] at h
 · cases c2 : seeK [105, 102] ts <;> rw [c2] at h
   · cases c3 : seeK [102, 111, 114] ts <;> rw [c3] at h
     · exact xQH hg ts e r h1 h2 h
     · obtain ⟨n1, n2, n3⟩ := xPB h1 c3
       obtain ⟨a1, a2, a3, a4⟩ := xNg hf (xEn (by omega)) n1 (by omega) h
       exact ⟨⟨by omega, a2⟩, a3, by omega⟩
   · obtain ⟨n1, n2, n3⟩ := xPB h1 c2
     obtain ⟨a1, a2, a3, a4⟩ := xSx hf n1 (by omega) h
     exact ⟨⟨by omega, a2⟩, a3, by omega⟩
 · obtain ⟨n1, n2, n3⟩ := xPB h1 c1
   obtain ⟨a1, a2, a3, a4⟩ := xNg hf (xEn (by omega)) n1 (by omega) h
   exact ⟨⟨by omega, a2⟩, a3, by omega⟩
theorem xFT {K : Nat} : ∀ m, xCQ K (pE m)
 | 0 => fun ts e r _ _ h => by cases h
 | m + 1 => xOu (xFT m) (xKT (xFT m) (m + 1))
end Go.Ab
end
section
namespace Go.Ab
def gp (T ts : List Tok) : Psr := ⟨T, ((T.length - ts.length : Nat) : Int), -1⟩
def BadP (T ts : List Tok) (p : Psr) : Prop := p.list = T ∧ p.bad = ((T.length - ts.length : Nat) : Int) ∧ ts <:+ T
def SimP {α : Type} (T : List Tok) (R : PR α) (x : Option (α × Psr)) : Prop := match R with
 | .ok a ts => ts <:+ T ∧ x = some (a, gp T ts)
 | .err ts => ∃ a p, x = some (a, p) ∧ BadP T ts p
theorem BadP.nn {T ts : List Tok} {p : Psr} (h : BadP T ts p) : 0 ≤ p.bad := by rw [h.2.1]; omega
theorem SimP.bind {α β : Type} {T : List Tok} {R : PR α} {x : Option (α × Psr)} {k : α → List Tok → PR β} {g : α × Psr → Option (β × Psr)} (h : SimP T R x)
 (hk : ∀ a ts, R = .ok a ts → ts <:+ T → SimP T (k a ts) (g (a, gp T ts))) (hb : ∀ a p, 0 ≤ p.bad → ∃ b, g (a, p) = some (b, p)) : SimP T (R.bind k) (Option.bind x g) := by
 cases R with
 | ok a ts =>
   obtain ⟨h1, h2⟩ := h
   rw [h2]
   exact hk a ts rfl h1
 | err ts =>
   obtain ⟨a, p, h1, h2⟩ := h
   obtain ⟨b, h3⟩ := hb a p h2.nn
   rw [h1]
   exact ⟨b, p, h3, h2⟩
def hdT : List Tok → Tok
 | [] => Tok.mk 0 0 0 []
 | t :: _ => t
theorem xM6 (N : Nat) (t : Tok) (s : Str) : xGs N t s = some (isS t s) := by unfold xGs isS; cases t.kind == 4 <;> rfl
theorem xM5 (N : Nat) (t : Tok) (s : Str) : xEL N t s = some (isK t s) := by unfold xEL isK; cases t.kind == 1 <;> rfl
theorem vDm (s : Str) (ts : List Tok) : isK (hdT ts) s = seeK s ts := by cases ts <;> rfl
theorem xWM (s : Str) (ts : List Tok) : isS (hdT ts) s = seeS s ts := by cases ts <;> rfl
theorem xCN {T ts : List Tok} (h : ts <:+ T) : ts.tail <:+ T := (List.tail_suffix ts).trans h
theorem xH9 {T ts : List Tok} (N : Nat) (h : ts <:+ T) : xBN N (gp T ts) = some (hdT ts, gp T ts) := by
 obtain ⟨pre, rfl⟩ := h
 have e : (pre ++ ts).length - ts.length = pre.length := by rw [jA]; omega
 unfold xBN
 simp only [gp, e]
 rw [show decide ((-1 : Int) < 0) = true from rfl, jT]
 cases ts with
 | nil => rw [decide_eq_false (by simp), jF]; rfl
 | cons t r =>
   rw [decide_eq_true (by simp only [jA, jC]; omega), jT, if_pos (by simp only [jA, jC]; omega)]
   simp [List.getD, hdT]
theorem xLW {T ts : List Tok} (hT : T.length ≤ 1000) (h : ts <:+ T) (hne : ts.tail.length + 1 = ts.length) : Psr.mk (gp T ts).list (IntKind.i64.wrap ((gp T ts).pos + 1)) (gp T ts).bad = gp T ts.tail := by
 have hl := h.length_le
 unfold gp
 have : IntKind.i64.wrap (((T.length - ts.length : Nat) : Int) + 1) = ((T.length - ts.tail.length : Nat) : Int) := by rw [xBw (by omega) (by omega)]; omega
 simp only [this]
theorem xHY {T ts : List Tok} {s : Str} (N : Nat) (hT : T.length ≤ 1000) (h : ts <:+ T) (hs : seeS s ts = true) : xAM N (gp T ts) s = some (true, gp T ts.tail) := by
 unfold xAM
 rw [xH9 N h]
 simp only [jS, xM6, xWM, hs, jT, xLW hT h (xEH hs)]
theorem xHk {T ts : List Tok} {s : Str} (N : Nat) (h : ts <:+ T) (hs : seeS s ts = false) : xAM N (gp T ts) s = some (false, gp T ts) := by
 unfold xAM
 rw [xH9 N h]
 simp only [jS, xM6, xWM, hs, jF]
theorem xNm {T ts : List Tok} (N : Nat) (h : ts <:+ T) : ∃ p, xCh N (gp T ts) = some (.mk 0 0 [] [], p) ∧ BadP T ts p := ⟨_, rfl, rfl, rfl, h⟩
theorem xMg {p : Psr} (N : Nat) (h : 0 ≤ p.bad) : xBN N p = some (Tok.mk 0 0 0 [], p) := by
 unfold xBN; rw [decide_eq_false (by omega), jF]
theorem xHx {p : Psr} (N : Nat) (s : Str) (h : 0 ≤ p.bad) : xAM N p s = some (false, p) := by
 unfold xAM; rw [xMg N h]; rfl
theorem xPP {p : Psr} (N : Nat) (h : 0 ≤ p.bad) : xCh N p = some (.mk 0 0 [] [], p) := by
 unfold xCh; rw [decide_eq_false (by omega), jF]
theorem xIv {p : Psr} (N : Nat) (s : Str) (h : 0 ≤ p.bad) : xAI N p s = some p := by
 unfold xAI; simp only [xMg N h, jS, xM5, xM6, xPP N h]; rfl
theorem SimP.need {β : Type} {T ts : List Tok} {s : Str} {N : Nat} {k : Unit → List Tok → PR β} {g : Psr → Option (β × Psr)} (hT : T.length ≤ 1000) (h : ts <:+ T)
 (hk : ∀ r, xGH s ts = .ok () r → r <:+ T → SimP T (k () r) (g (gp T r))) (hb : ∀ p, 0 ≤ p.bad → ∃ b, g p = some (b, p)) : SimP T ((xGH s ts).bind k) (Option.bind (xAI N (gp T ts) s) g) := by
 have bad : isK (hdT ts) s = false → isS (hdT ts) s = false → ∀ R : PR β, R = .err ts → SimP T R (Option.bind (xAI N (gp T ts) s) g) := by
  intro h1 h2 R hR
  subst hR
  obtain ⟨p, hp1, hp2⟩ := xNm N h
  obtain ⟨b, hb⟩ := hb p hp2.nn
  refine ⟨b, p, ?_, hp2⟩
  unfold xAI
  simp only [xH9 N h, jS, xM5, xM6, h1, h2, jF, hp1, hb]
 cases ts with
 | nil => exact bad rfl rfl _ rfl
 | cons t r =>
   cases h1 : isK t s
   · cases h2 : isS t s
     · exact bad h1 h2 _ (by simp only [xGH, h1, h2, Bool.or_false, jF, PR.bind])
     · have e : xGH s (t :: r) = .ok () r := by simp only [xGH, h1, h2, Bool.or_true, jT]
       rw [e]
       have := hk r e (xCN h)
       unfold xAI
       simp only [xH9 N h, jS, xM5, xM6, hdT, h1, h2, jF, jT, xLW hT h rfl]
       exact this
   · have e : xGH s (t :: r) = .ok () r := by simp only [xGH, h1, Bool.true_or, jT]
     rw [e]
     have := hk r e (xCN h)
     unfold xAI
     simp only [xH9 N h, jS, xM5, xM6, hdT, h1, jF, jT, xLW hT h rfl]
     exact this
structure TokT (K : Nat) (T : List Tok) : Prop where
 len : T.length ≤ 1000
 fit : ∀ t ∈ T, t.Fit K
 tw : tw T ≤ K
theorem vDJ {T ts : List Tok} (h : ts <:+ T) : tw ts ≤ tw T := by
 obtain ⟨pre, rfl⟩ := h
 simp [tw]
theorem TokT.suf {K : Nat} {T ts : List Tok} (hT : TokT K T) (h : ts <:+ T) : (∀ t ∈ ts, t.Fit K) ∧ Ab.tw ts ≤ K := ⟨fun t ht => hT.fit t (h.subset ht), Nat.le_trans (vDJ h) hT.tw⟩
theorem eat {K : Nat} {T ts r : List Tok} {f : List Tok → PR Exp} {e : Exp} (hT : TokT K T) (hf : xCQ K f) (h : ts <:+ T) (he : f ts = .ok e r) : r.length < ts.length := by
 obtain ⟨h1, h2⟩ := hT.suf h
 exact (hf ts e r h1 h2 he).2.2
theorem xTi {K : Nat} {T ts : List Tok} {N : Nat} (hT : TokT K T) (hN : K < N) (hK : K ≤ 1048576) (h : ts <:+ T) : SimP T (xMW ts) (xCi N (gp T ts)) := by
 have bad : xCi N (gp T ts) = Option.bind (xCh N (gp T ts)) (fun r2 => some ([], r2.2)) → SimP T (.err ts : PR Str) (xCi N (gp T ts)) := fun he => by
  obtain ⟨p, h1, h2⟩ := xNm N h
  rw [he, h1]
  exact ⟨[], p, rfl, h2⟩
 cases ts with
 | nil =>
   refine bad ?_
   unfold xCi
   simp only [xH9 N h, jS, hdT]; rfl
 | cons t r =>
   have hft := hT.fit t (h.subset List.mem_cons_self)
   have hlen : t.text.length ≤ K := hft.2.2.2
   have hv := xGR (N := N) (s := t.text) (by omega) (by omega)
   simp only [xMW]
   cases h1 : t.kind == 1
   · refine bad ?_
     unfold xCi
     simp only [xH9 N h, jS, hdT, bne, h1, Bool.not_false, jT]
   · cases h2 : xCc t.text
     · refine bad ?_
       unfold xCi
       simp only [xH9 N h, jS, hdT, bne, h1, hv, h2, Bool.not_true, Bool.not_false, jT, jF]
     · refine ⟨xCN h, ?_⟩
       unfold xCi
       simp only [xH9 N h, jS, hdT, bne, h1, hv, h2, Bool.not_true, jT, jF, xLW hT.len h rfl]
       rfl
abbrev e0 : Exp := .mk 0 0 [] []
def xH2 (q : Psr → Option (Exp × Psr)) : Prop := ∀ p, 0 ≤ p.bad → q p = some (e0, p)
def xQR (q : Psr → Str → Option (List Exp × Psr)) : Prop := ∀ p s, 0 ≤ p.bad → q p s = some ([], p)
def FPs (T : List Tok) (n : Nat) (f : List Tok → PR Exp) (q : Psr → Option (Exp × Psr)) : Prop := ∀ ts, ts <:+ T → ts.length < n → SimP T (f ts) (q (gp T ts))
section
variable {K : Nat} {T : List Tok} {N : Nat} {q0 q1 : Psr → Option (Exp × Psr)} {q2 : Psr → Str → Option (List Exp × Psr)} {q3 q4 : Psr → Option (Exp × Psr)}
theorem xOP : decide ((-1 : Int) < 0) = true := rfl
theorem xRb (T ts : List Tok) : (gp T ts).bad = -1 := rfl
theorem xRi (hT : TokT K T) {n : Nat} {f : List Tok → PR Exp} (hf : xCQ K f) (hq : FPs T n f q1) (hb : xH2 q1) (c : Str) : ∀ (m fuel : Nat) (acc : List Exp) (ts : List Tok), ts <:+ T → ts.length < n → ts.length < m → ts.length + 1 < fuel → acc.length + ts.length ≤ 2000 →
 SimP T (xJz f c m acc ts) (xCI N q0 q1 q2 q3 q4 fuel c acc (gp T ts)) := by
 intro m
 induction m with
 | zero => intro fuel acc ts _ _ h; omega
 | succ m ih =>
   intro fuel acc ts h hn hm hfu ha
   obtain ⟨fuel, rfl⟩ : ∃ k, fuel = k + 1 := ⟨fuel - 1, by omega⟩
   simp only [xJz, xCI, xRb, xOP, jT]
   refine SimP.bind (hq ts h hn) (fun e r he hr => ?_) (fun e p hp => ?_)
   · have hl := eat hT hf h he
     simp only [Exp.re_eq]
     rw [if_pos (by simp only [jC, jN]; unfold Lim; omega)]
     cases hs : seeS c r
     · rw [xHk N hr hs, jS]
       simp only [jF]
       refine SimP.need hT.len hr (fun q hq' hqs => ?_) (fun p hp => ?_)
       · have := xD3 hq'
         exact ih fuel (acc ++ [e]) q hqs (by omega) (by omega) (by omega) (by simp only [jA, jC, jN]; omega)
       · obtain ⟨fuel, rfl⟩ : ∃ k, fuel = k + 1 := ⟨fuel - 1, by omega⟩
         exact ⟨acc ++ [e], by simp only [xCI]; rw [decide_eq_false (by omega), jF]⟩
     · rw [xHY N hT.len hr hs, jS]
       exact ⟨xCN hr, rfl⟩
   · obtain ⟨fuel, rfl⟩ : ∃ k, fuel = k + 1 := ⟨fuel - 1, by omega⟩
     simp only [Exp.re_eq]
     rw [if_pos (by simp only [jC, jN]; unfold Lim; omega), xHx N c hp, jS]
     simp only [jF, xIv N _ hp, jS]
     exact ⟨acc ++ [e], by simp only [xCI]; rw [decide_eq_false (by omega), jF]⟩
theorem xTg (hN : 0 < N) (s : Str) {p : Psr} (h : 0 ≤ p.bad) : xCL N q0 q1 q2 q3 q4 p s = some ([], p) := by
 obtain ⟨M, rfl⟩ : ∃ k, N = k + 1 := ⟨N - 1, by omega⟩
 unfold xCL
 rw [xHx _ s h, jS]
 simp only [jF, xCI]
 rw [decide_eq_false (by omega), jF]
theorem xTh (hT : TokT K T) (hN : 1002 < N) {n m : Nat} {f : List Tok → PR Exp} (hf : xCQ K f) (hq : FPs T n f q1) (hb : xH2 q1) (c : Str) {ts : List Tok} (h : ts <:+ T) (hn : ts.length < n) (hm : ts.length < m) :
 SimP T (xKR f m c ts) (xCL N q0 q1 q2 q3 q4 (gp T ts) c) := by
 have hl := h.length_le
 have := hT.len
 unfold xKR xCL
 cases hs : seeS c ts
 · rw [xHk N h hs, jS]
   simp only [jF]
   exact xRi hT hf hq hb c m N [] ts h hn hm (by omega) (by simp; omega)
 · rw [xHY N hT.len h hs, jS]
   exact ⟨xCN h, rfl⟩
def FPl (T : List Tok) (n m : Nat) (f : List Tok → PR Exp) (q : Psr → Str → Option (List Exp × Psr)) : Prop := ∀ c ts, ts <:+ T → ts.length < n → SimP T (xKR f m c ts) (q (gp T ts) c)
theorem xPL {p : Psr} (h : 0 ≤ p.bad) : xCT N q0 q1 q2 q3 q4 p = some (e0, p) := by
 unfold xCT
 simp only [xMg N h, jS, xHx N _ h, xPP N h]
 rfl
theorem xOc (hT : TokT K T) {n m : Nat} {f : List Tok → PR Exp} (hf : xCQ K f) (hq : FPs T n f q1) (hb : xH2 q1) (hl : FPl T n m f q2) (hbl : xQR q2) {t : Tok} {r : List Tok} (h : t :: r <:+ T) (hn : r.length < n) :
 SimP T (xJy f m t r) (Option.bind (xAM N (gp T (t :: r)) [91]) fun r2 =>
  bif r2.1 then (
   Option.bind (q2 r2.2 [93]) fun r3 =>
   some ((Exp.mk 4 0 [] r3.1), r3.2)
  ) else (
    Option.bind (xAM N r2.2 [40]) fun r3 =>
    bif r3.1 then (
     Option.bind (q1 r3.2) fun r4 =>
     Option.bind (xAI N r4.2 [41]) fun r5 =>
     some (r4.1, r5)
    ) else (
      Option.bind (xCh N r3.2) fun r4 =>
      some (r4.1, r4.2)
    )
  )) := by
 have hr : r <:+ T := xCN h
 unfold xJy
 cases h1 : isS t [91]
 · rw [xHk N h h1, jS]
   simp only [jF]
   cases h2 : isS t [40]
   · rw [xHk N h h2, jS]
     simp only [jF]
     obtain ⟨p, hp1, hp2⟩ := xNm N h
     rw [hp1]
     exact ⟨_, p, rfl, hp2⟩
   · rw [xHY N hT.len h h2, jS]
     simp only [jT, List.tail_cons]
     refine SimP.bind (hq r hr hn) (fun e u he hu => ?_) (fun e p hp => ⟨e, by simp only [xIv N _ hp, jS]⟩)
     exact SimP.need hT.len hu (fun v _ hv => ⟨hv, rfl⟩) (fun p hp => ⟨e, rfl⟩)
 · rw [xHY N hT.len h h1, jS]
   simp only [jT, List.tail_cons]
   exact SimP.bind (hl [93] r hr hn) (fun a u _ hu => ⟨hu, rfl⟩) (fun a p hp => ⟨_, rfl⟩)
theorem xS1 (hT : TokT K T) (hN : K < N) (hK : K ≤ 1048576) {n m : Nat} {f : List Tok → PR Exp} (hf : xCQ K f) (hq : FPs T n f q1) (hb : xH2 q1) (hl : FPl T n m f q2) (hbl : xQR q2) :
 FPs T (n + 1) (xG2 f m) (xCT N q0 q1 q2 q3 q4) := by
 intro ts h hn
 unfold xCT
 rw [xH9 N h, jS]
 cases ts with
 | nil =>
   simp only [hdT, xHk N h (s := [91]) rfl, xHk N h (s := [40]) rfl, jS]
   obtain ⟨p, hp1, hp2⟩ := xNm N h
   exact ⟨_, p, by rw [hp1]; rfl, hp2⟩
 | cons t r =>
   have hr : r <:+ T := xCN h
   have hn' : r.length < n := by simp only [jC] at hn; omega
   have hft := hT.fit t (h.subset List.mem_cons_self)
   have hlen : t.text.length ≤ K := hft.2.2.2
   have hv := xGR (N := N) (s := t.text) (by omega) (by omega)
   have hadv := xLW hT.len h rfl
   rw [List.tail_cons] at hadv
   simp only [xG2, hdT, hadv]
   cases h1 : t.kind == 2
   · cases h2 : t.kind == 3
     · cases h3 : t.kind == 1
       · exact xOc hT hf hq hb hl hbl h hn'
       · simp only [jT, jF, hv, jS]
         cases h4 : xCc t.text
         · simp only [jF, xHB, jS]
           cases h5 : decide (argc t.text ≥ 0)
           · exact xOc hT hf hq hb hl hbl h hn'
           · simp only [jT]
             refine SimP.need hT.len hr (fun u hu hus => ?_) (fun p hp => ⟨_, by rw [hbl p _ hp, jS]⟩)
             have := xD3 hu
             exact SimP.bind (hl [41] u hus (by omega)) (fun a v _ hv => ⟨hv, rfl⟩) (fun a p hp => ⟨_, rfl⟩)
         · exact ⟨hr, rfl⟩
     · exact ⟨hr, rfl⟩
   · exact ⟨hr, rfl⟩
theorem xSC (hT : TokT K T) {n : Nat} {g : List Tok → PR Exp} (hg : xCQ K g) (hq : FPs T n g q0) (hb : xH2 q0) (b2 : Exp) : ∀ (m fuel : Nat) (a : Exp) (ts : List Tok), ts <:+ T → ts.length ≤ n → ts.length < m → ts.length < fuel →
 SimP T (xI1 g m a ts) (xCe N q0 q1 q2 q3 q4 fuel (gp T ts) b2 a) := by
 intro m
 induction m with
 | zero => intro fuel a ts _ _ h; omega
 | succ m ih =>
   intro fuel a ts h hn hm hfu
   obtain ⟨fuel, rfl⟩ : ∃ k, fuel = k + 1 := ⟨fuel - 1, by omega⟩
   simp only [xI1, xCe]
   cases hs : seeS [42] ts
   · rw [xHk N h hs, jS]
     exact ⟨h, rfl⟩
   · have hl := xEH hs
     rw [xHY N hT.len h hs, jS]
     simp only [jT, Exp.re_eq]
     obtain ⟨fuel, rfl⟩ : ∃ k, fuel = k + 1 := ⟨fuel - 1, by omega⟩
     refine SimP.bind (hq ts.tail (xCN h) (by omega)) (fun b r hbr hr => ?_) (fun b p hp => ⟨.mk 6 3 [] [a, b], by simp only [xCe, xHx N _ hp, jS, jF]⟩)
     have := eat hT hg (xCN h) hbr
     exact ih (fuel + 1) _ r hr (by omega) (by omega) (by omega)
theorem xWx (hT : TokT K T) (hN : 1002 < N) {n m : Nat} {g : List Tok → PR Exp} (hg : xCQ K g) (hq : FPs T n g q0) (hb : xH2 q0) (hnm : n ≤ m) : FPs T n (xLg g m) (xCn N q0 q1 q2 q3 q4) := by
 intro ts h hn
 have hl := h.length_le
 have := hT.len
 unfold xLg xCn
 obtain ⟨M, rfl⟩ : ∃ k, N = k + 1 := ⟨N - 1, by omega⟩
 refine SimP.bind (hq ts h hn) (fun b r hbr hr => ?_) (fun b p hp => ⟨b, by simp only [xCe, xHx _ _ hp, jS, jF]⟩)
 have := eat hT hg h hbr
 exact xSC hT hg hq hb e0 m (M + 1) b r hr (by omega) (by omega) (by omega)
theorem xQi (hN : 0 < N) (hb : xH2 q0) : xH2 (xCn N q0 q1 q2 q3 q4) := by
 intro p hp
 obtain ⟨M, rfl⟩ : ∃ k, N = k + 1 := ⟨N - 1, by omega⟩
 unfold xCn
 simp only [hb p hp, jS, xCe, xHx _ _ hp, jF]
theorem xWF (hT : TokT K T) {n : Nat} {g : List Tok → PR Exp} (hg : xCQ K g) (hq : FPs T n g q3) (hb : xH2 q3) (b2 : Exp) : ∀ (m fuel : Nat) (a : Exp) (ts : List Tok), ts <:+ T → ts.length ≤ n → ts.length < m → ts.length < fuel →
 SimP T (xJs g m a ts) (xCq N q0 q1 q2 q3 q4 fuel (gp T ts) b2 a) := by
 intro m
 induction m with
 | zero => intro fuel a ts _ _ h; omega
 | succ m ih =>
   intro fuel a ts h hn hm hfu
   obtain ⟨fuel, rfl⟩ : ∃ k, fuel = k + 1 := ⟨fuel - 1, by omega⟩
   have step : ∀ s k, seeS s ts = true → SimP T ((g ts.tail).bind fun b r => xJs g m (.mk 6 k [] [a, b]) r) (Option.bind (q3 (gp T ts.tail)) fun r3 => xCq N q0 q1 q2 q3 q4 fuel r3.2 b2 (Exp.mk 6 k [] [(Exp.re a), (Exp.re r3.1)])) := by
    intro s k hs
    have hl := xEH hs
    simp only [Exp.re_eq]
    obtain ⟨fuel, rfl⟩ : ∃ k, fuel = k + 1 := ⟨fuel - 1, by omega⟩
    refine SimP.bind (hq ts.tail (xCN h) (by omega)) (fun b r hbr hr => ?_) (fun b p hp => ⟨.mk 6 k [] [a, b], by simp only [xCq]; rw [decide_eq_false (by omega), jF]⟩)
    have := eat hT hg (xCN h) hbr
    exact ih (fuel + 1) _ r hr (by omega) (by omega) (by omega)
   simp only [xJs, xCq, xRb, xOP, jT]
   cases hs : seeS [43] ts
   · rw [xHk N h hs, jS]
     simp only [Bool.not_false, jT, jF]
     cases hs2 : seeS [45] ts
     · rw [xHk N h hs2, jS]
       exact ⟨h, rfl⟩
     · rw [xHY N hT.len h hs2, jS]
       simp only [Bool.not_true, jF, jT]
       exact step _ 2 hs2
   · rw [xHY N hT.len h hs, jS]
     simp only [Bool.not_true, jF, jT]
     exact step _ 1 hs
theorem vCs (hT : TokT K T) (hN : 1002 < N) {n m : Nat} {g : List Tok → PR Exp} (hg : xCQ K g) (hq : FPs T n g q3) (hb : xH2 q3) (hnm : n ≤ m) : FPs T n (pSum g m) (xDc N q0 q1 q2 q3 q4) := by
 intro ts h hn
 have hl := h.length_le
 have := hT.len
 unfold pSum xDc
 obtain ⟨M, rfl⟩ : ∃ k, N = k + 1 := ⟨N - 1, by omega⟩
 refine SimP.bind (hq ts h hn) (fun b r hbr hr => ?_) (fun b p hp => ⟨b, by simp only [xCq]; rw [decide_eq_false (by omega), jF]⟩)
 have := eat hT hg h hbr
 exact xWF hT hg hq hb e0 m (M + 1) b r hr (by omega) (by omega) (by omega)
theorem xSN (hN : 0 < N) (hb : xH2 q3) : xH2 (xDc N q0 q1 q2 q3 q4) := by
 intro p hp
 obtain ⟨M, rfl⟩ : ∃ k, N = k + 1 := ⟨N - 1, by omega⟩
 unfold xDc
 simp only [hb p hp, jS, xCq]
 rw [decide_eq_false (by omega), jF]
theorem xWT (N : Nat) : xFo N (List.getD [4, 5] (Int.toNat 0) Ty.int.dflt) = some [60] := rfl
theorem xWU (N : Nat) : xFo N (List.getD [4, 5] (Int.toNat 1) Ty.int.dflt) = some [61, 61] := rfl
theorem xQ2 {p : Psr} (hp : 0 ≤ p.bad) (fuel : Nat) (a b2 : Exp) : xDb N q0 q1 q2 q3 q4 (fuel + 3) [4, 5] (List.length [4, 5] : Int) 0 p b2 a = some (a, p) := by
 have e1 : IntKind.i64.wrap (0 + 1) = 1 := rfl
 have e2 : IntKind.i64.wrap (1 + 1) = 2 := rfl
 simp only [xDb, xWT, xWU, jS, xHx N _ hp, jF, e1, e2]
 rfl
theorem xW1 (hT : TokT K T) {n : Nat} {g : List Tok → PR Exp} (hg : xCQ K g) (hq : FPs T n g q4) (hb : xH2 q4) (fuel : Nat) (a b2 : Exp) {ts : List Tok} (h : ts <:+ T) (hn : ts.length ≤ n) :
 SimP T (xOt g a ts) (xDb N q0 q1 q2 q3 q4 (fuel + 3) [4, 5] (List.length [4, 5] : Int) 0 (gp T ts) b2 a) := by
 have e1 : IntKind.i64.wrap (0 + 1) = 1 := rfl
 have e2 : IntKind.i64.wrap (1 + 1) = 2 := rfl
 have c0 : decide ((0 : Int) < (List.length [4, 5] : Int)) = true := rfl
 have c1 : decide ((1 : Int) < (List.length [4, 5] : Int)) = true := rfl
 have c2 : decide ((2 : Int) < (List.length [4, 5] : Int)) = false := rfl
 have i0 : (0 : Int) ≤ 0 ∧ (0 : Int) < (List.length [4, 5] : Int) := by decide
 have i1 : (0 : Int) ≤ 1 ∧ (1 : Int) < (List.length [4, 5] : Int) := by decide
 have step : ∀ s k, seeS s ts = true → SimP T ((g ts.tail).bind fun b r => PR.ok (.mk 6 k [] [a, b]) r) (Option.bind (q4 (gp T ts.tail)) fun r3 => some ((Exp.mk 6 k [] [(Exp.re a), (Exp.re r3.1)]), r3.2)) := by
  intro s k hs
  have hl := xEH hs
  simp only [Exp.re_eq]
  exact SimP.bind (hq ts.tail (xCN h) (by omega)) (fun b r hbr hr => ⟨hr, rfl⟩) (fun b p hp => ⟨_, rfl⟩)
 unfold xOt
 simp only [xDb, c0, c1, c2, if_pos i0, if_pos i1, jT, jF, xWT, xWU, e1, e2, jS]
 cases hs : seeS [60] ts
 · rw [xHk N h hs, jS]
   simp only [jF]
   cases hs2 : seeS [61, 61] ts
   · rw [xHk N h hs2, jS]
     exact ⟨h, rfl⟩
   · rw [xHY N hT.len h hs2, jS]
     exact step _ 5 hs2
 · rw [xHY N hT.len h hs, jS]
   exact step _ 4 hs
theorem xS8 (hN : 3 ≤ N) (hb : xH2 q4) : xH2 (xCU N q0 q1 q2 q3 q4) := by
 intro p hp
 obtain ⟨M, rfl⟩ : ∃ k, N = k + 3 := ⟨N - 3, by omega⟩
 unfold xCU
 simp only [xMg _ hp, jS, xM5, hb p hp]
 exact xQ2 hp M e0 e0
theorem lim1 (x : Exp) : 0 + List.length [x] ≤ Lim := by simp [Lim]
theorem lim2 (x y : Exp) : List.length ([] ++ [x]) + List.length [y] ≤ Lim := by simp [Lim]
theorem lim3 (x y z : Exp) : List.length (([] ++ [x]) ++ [y]) + List.length [z] ≤ Lim := by simp [Lim]
theorem xSU (hT : TokT K T) (hN : K < N) (hK : K ≤ 1048576) {n : Nat} {f : List Tok → PR Exp} (hf : xCQ K f) (hq : FPs T n f q1) (hb : xH2 q1) (k : Int) (s1 s2 : Str) {ts : List Tok} (h : ts <:+ T) (hn : ts.length < n) :
 SimP T (pTwo f k s1 s2 ts) (Option.bind (xCi N (gp T ts)) fun r3 => Option.bind (xAI N r3.2 s1) fun r4 => Option.bind (q1 r4) fun r5 =>
  if 0 + List.length [(Exp.re r5.1)] ≤ Lim then Option.bind (xAI N r5.2 s2) fun r6 => Option.bind (q1 r6) fun r7 =>
   if List.length ([] ++ [(Exp.re r5.1)]) + List.length [(Exp.re r7.1)] ≤ Lim then some ((Exp.mk k 0 r3.1 (([] ++ [(Exp.re r5.1)]) ++ [(Exp.re r7.1)])), r7.2) else none else none) := by
 simp only [if_pos (lim1 _), if_pos (lim2 _ _), Exp.re_eq]
 refine SimP.bind (xTi hT hN hK h) (fun x r1 hx hr1 => ?_) (fun x p hp => ⟨.mk k 0 x [e0, e0], by simp only [xIv N _ hp, hb p hp, jS]; rfl⟩)
 have l1 := xMF hx
 refine SimP.need hT.len hr1 (fun r2 h2 hr2 => ?_) (fun p hp => ⟨.mk k 0 x [e0, e0], by simp only [xIv N _ hp, hb p hp, jS]; rfl⟩)
 have l2 := xD3 h2
 refine SimP.bind (hq r2 hr2 (by omega)) (fun a r3 h3 hr3 => ?_) (fun a p hp => ⟨.mk k 0 x [a, e0], by simp only [xIv N _ hp, hb p hp, jS]; rfl⟩)
 have l3 := eat hT hf hr2 h3
 refine SimP.need hT.len hr3 (fun r4 h4 hr4 => ?_) (fun p hp => ⟨.mk k 0 x [a, e0], by simp only [hb p hp, jS]; rfl⟩)
 have l4 := xD3 h4
 exact SimP.bind (hq r4 hr4 (by omega)) (fun b r5 h5 hr5 => ⟨hr5, rfl⟩) (fun b p hp => ⟨_, rfl⟩)
theorem vDl (hT : TokT K T) {n : Nat} {f : List Tok → PR Exp} (hf : xCQ K f) (hq : FPs T n f q1) (hb : xH2 q1) {ts : List Tok} (h : ts <:+ T) (hn : ts.length < n) :
 SimP T (pIf f ts) (Option.bind (q1 (gp T ts)) fun r5 =>
  if 0 + List.length [(Exp.re r5.1)] ≤ Lim then
  Option.bind (xAI N r5.2 [116, 104, 101, 110]) fun r6 =>
  Option.bind (q1 r6) fun r7 =>
  if List.length ([] ++ [(Exp.re r5.1)]) + List.length [(Exp.re r7.1)] ≤ Lim then
  Option.bind (xAI N r7.2 [101, 108, 115, 101]) fun r8 =>
  Option.bind (q1 r8) fun r9 =>
  if List.length (([] ++ [(Exp.re r5.1)]) ++ [(Exp.re r7.1)]) + List.length [(Exp.re r9.1)] ≤ Lim then
  some ((Exp.mk 8 0 [] ((([] ++ [(Exp.re r5.1)]) ++ [(Exp.re r7.1)]) ++ [(Exp.re r9.1)])), r9.2)
  else none
  else none
  else none) := by
 simp only [if_pos (lim1 _), if_pos (lim2 _ _), if_pos (lim3 _ _ _), Exp.re_eq]
 refine SimP.bind (hq ts h hn) (fun a r1 h1 hr1 => ?_) (fun a p hp => ⟨.mk 8 0 [] [a, e0, e0], by simp only [xIv N _ hp, hb p hp, jS]; rfl⟩)
 have l1 := eat hT hf h h1
 refine SimP.need hT.len hr1 (fun r2 h2 hr2 => ?_) (fun p hp => ⟨.mk 8 0 [] [a, e0, e0], by simp only [xIv N _ hp, hb p hp, jS]; rfl⟩)
 have l2 := xD3 h2
 refine SimP.bind (hq r2 hr2 (by omega)) (fun b r3 h3 hr3 => ?_) (fun b p hp => ⟨.mk 8 0 [] [a, b, e0], by simp only [xIv N _ hp, hb p hp, jS]; rfl⟩)
 have l3 := eat hT hf hr2 h3
 refine SimP.need hT.len hr3 (fun r4 h4 hr4 => ?_) (fun p hp => ⟨.mk 8 0 [] [a, b, e0], by simp only [hb p hp, jS]; rfl⟩)
 have l4 := xD3 h4
 exact SimP.bind (hq r4 hr4 (by omega)) (fun c r5 h5 hr5 => ⟨hr5, rfl⟩) (fun c p hp => ⟨_, rfl⟩)
theorem xQ7 (hT : TokT K T) (hN : K < N) (hN2 : 1002 < N) (hK : K ≤ 1048576) {n : Nat} {f g : List Tok → PR Exp} (hf : xCQ K f) (hg : xCQ K g) (hq : FPs T n f q1) (hb : xH2 q1) (hq4 : FPs T (n + 1) g q4) (hb4 : xH2 q4) :
 FPs T (n + 1) (xHI f g) (xCU N q0 q1 q2 q3 q4) := by
 intro ts h hn
 unfold xHI xCU
 simp only [xH9 N h, jS, xM5, vDm]
 cases c1 : seeK [108, 101, 116] ts
 · simp only [jF]
   cases c2 : seeK [105, 102] ts
   · simp only [jF]
     cases c3 : seeK [102, 111, 114] ts
     · simp only [jF]
       obtain ⟨M, rfl⟩ : ∃ k, N = k + 3 := ⟨N - 3, by omega⟩
       unfold pCmp
       refine SimP.bind (hq4 ts h hn) (fun a r ha hr => ?_) (fun a p hp => ⟨a, xQ2 hp M a e0⟩)
       have := eat hT hg h ha
       exact xW1 hT hg hq4 hb4 M a e0 hr (by omega)
     · simp only [jT, xLW hT.len h (xFU c3)]
       have := xFU c3
       exact xSU hT hN hK hf hq hb 9 _ _ (xCN h) (by omega)
   · simp only [jT, xLW hT.len h (xFU c2)]
     have := xFU c2
     exact vDl hT hf hq hb (xCN h) (by omega)
 · simp only [jT, xLW hT.len h (xFU c1)]
   have := xFU c1
   exact xSU hT hN hK hf hq hb 7 _ _ (xCN h) (by omega)
end
theorem xOM {N : Nat} (hN : 3 ≤ N) : ∀ d, 4 ≤ d → xH2 (xAb N d).c_impl_parser_expr := by
 intro d hd
 obtain ⟨d, rfl⟩ : ∃ k, d = k + 4 := ⟨d - 4, by omega⟩
 exact xS8 (q0 := (xAb N (d + 3)).c_impl_parser_atom) (q1 := (xAb N (d + 3)).c_impl_parser_expr) (q2 := (xAb N (d + 3)).c_impl_parser_list2) (q3 := (xAb N (d + 3)).c_impl_parser_product) (q4 := (xAb N (d + 3)).c_impl_parser_sum) hN (xSN (q0 := (xAb N (d + 2)).c_impl_parser_atom) (q1 := (xAb N (d + 2)).c_impl_parser_expr) (q2 := (xAb N (d + 2)).c_impl_parser_list2) (q3 := (xAb N (d + 2)).c_impl_parser_product) (q4 := (xAb N (d + 2)).c_impl_parser_sum) (by omega) (xQi (q0 := (xAb N (d + 1)).c_impl_parser_atom) (q1 := (xAb N (d + 1)).c_impl_parser_expr) (q2 := (xAb N (d + 1)).c_impl_parser_list2) (q3 := (xAb N (d + 1)).c_impl_parser_product) (q4 := (xAb N (d + 1)).c_impl_parser_sum) (by omega) fun p hp => xPL (q0 := (xAb N d).c_impl_parser_atom) (q1 := (xAb N d).c_impl_parser_expr) (q2 := (xAb N d).c_impl_parser_list2) (q3 := (xAb N d).c_impl_parser_product) (q4 := (xAb N d).c_impl_parser_sum) hp))
theorem xWV {K : Nat} {T : List Tok} {N : Nat} (hT : TokT K T) (hN : K < N) (hN2 : 1002 < N) (hK : K ≤ 1048576) : ∀ n d, 5 * n + 9 ≤ d → FPs T n (pE n) (xAb N d).c_impl_parser_expr := by
 intro n
 induction n with
 | zero => intro d _ ts _ h; omega
 | succ n ih =>
   intro d hd
   obtain ⟨d, rfl⟩ : ∃ k, d = k + 5 := ⟨d - 5, by omega⟩
   have f1 := ih d (by omega)
   have f2 := ih (d + 1) (by omega)
   have f4 := ih (d + 4) (by omega)
   have b1 := xOM (N := N) (by omega) d (by omega)
   have b2 := xOM (N := N) (by omega) (d + 1) (by omega)
   have b4 := xOM (N := N) (by omega) (d + 4) (by omega)
   have hl : FPl T n (n + 1) (pE n) (xAb N (d + 1)).c_impl_parser_list2 := fun c ts h hn => xTh (q0 := (xAb N d).c_impl_parser_atom) (q1 := (xAb N d).c_impl_parser_expr) (q2 := (xAb N d).c_impl_parser_list2) (q3 := (xAb N d).c_impl_parser_product) (q4 := (xAb N d).c_impl_parser_sum) hT hN2 (xFT n) f1 b1 c h hn (by omega)
   have hbl : xQR (xAb N (d + 1)).c_impl_parser_list2 := fun p s hp => xTg (q0 := (xAb N d).c_impl_parser_atom) (q1 := (xAb N d).c_impl_parser_expr) (q2 := (xAb N d).c_impl_parser_list2) (q3 := (xAb N d).c_impl_parser_product) (q4 := (xAb N d).c_impl_parser_sum) (by omega) s hp
   have a : FPs T (n + 1) (xG2 (pE n) (n + 1)) (xAb N (d + 2)).c_impl_parser_atom := xS1 (q0 := (xAb N (d + 1)).c_impl_parser_atom) (q1 := (xAb N (d + 1)).c_impl_parser_expr) (q2 := (xAb N (d + 1)).c_impl_parser_list2) (q3 := (xAb N (d + 1)).c_impl_parser_product) (q4 := (xAb N (d + 1)).c_impl_parser_sum) hT hN hK (xFT n) f2 b2 hl hbl
   have ba : xH2 (xAb N (d + 2)).c_impl_parser_atom := fun p hp => xPL (q0 := (xAb N (d + 1)).c_impl_parser_atom) (q1 := (xAb N (d + 1)).c_impl_parser_expr) (q2 := (xAb N (d + 1)).c_impl_parser_list2) (q3 := (xAb N (d + 1)).c_impl_parser_product) (q4 := (xAb N (d + 1)).c_impl_parser_sum) hp
   have p : FPs T (n + 1) (xLg (xG2 (pE n) (n + 1)) (n + 1)) (xAb N (d + 3)).c_impl_parser_product := xWx (q0 := (xAb N (d + 2)).c_impl_parser_atom) (q1 := (xAb N (d + 2)).c_impl_parser_expr) (q2 := (xAb N (d + 2)).c_impl_parser_list2) (q3 := (xAb N (d + 2)).c_impl_parser_product) (q4 := (xAb N (d + 2)).c_impl_parser_sum) hT hN2 (xId (xFT n) _) a ba (Nat.le_refl _)
   have bp : xH2 (xAb N (d + 3)).c_impl_parser_product := xQi (q0 := (xAb N (d + 2)).c_impl_parser_atom) (q1 := (xAb N (d + 2)).c_impl_parser_expr) (q2 := (xAb N (d + 2)).c_impl_parser_list2) (q3 := (xAb N (d + 2)).c_impl_parser_product) (q4 := (xAb N (d + 2)).c_impl_parser_sum) (by omega) ba
   have s : FPs T (n + 1) (xLR (pE n) (n + 1)) (xAb N (d + 4)).c_impl_parser_sum := vCs (q0 := (xAb N (d + 3)).c_impl_parser_atom) (q1 := (xAb N (d + 3)).c_impl_parser_expr) (q2 := (xAb N (d + 3)).c_impl_parser_list2) (q3 := (xAb N (d + 3)).c_impl_parser_product) (q4 := (xAb N (d + 3)).c_impl_parser_sum) hT hN2 (xKS (xId (xFT n) _) _) p bp (Nat.le_refl _)
   have bs : xH2 (xAb N (d + 4)).c_impl_parser_sum := xSN (q0 := (xAb N (d + 3)).c_impl_parser_atom) (q1 := (xAb N (d + 3)).c_impl_parser_expr) (q2 := (xAb N (d + 3)).c_impl_parser_list2) (q3 := (xAb N (d + 3)).c_impl_parser_product) (q4 := (xAb N (d + 3)).c_impl_parser_sum) (by omega) bp
   exact xQ7 (q0 := (xAb N (d + 4)).c_impl_parser_atom) (q1 := (xAb N (d + 4)).c_impl_parser_expr) (q2 := (xAb N (d + 4)).c_impl_parser_list2) (q3 := (xAb N (d + 4)).c_impl_parser_product) (q4 := (xAb N (d + 4)).c_impl_parser_sum) hT hN hN2 hK (xFT n) (xKT (xFT n) _) f4 b4 s bs
end Go.Ab
end
section
namespace Go.Ab
def gr (T : List Tok) (L : Int) (ts : List Tok) : Rdr := ⟨T, ((T.length - ts.length : Nat) : Int), L, -1⟩
def offT (L : Int) : List Tok → Int
 | [] => L
 | t :: _ => t.pos
def BadR (T : List Tok) (L : Int) (ts : List Tok) (r : Rdr) : Prop := r.toks = T ∧ r.fin = L ∧ r.bad = offT L ts ∧ ts <:+ T
structure TokW (T : List Tok) (L : Int) : Prop where
 pos : ∀ t ∈ T, 0 ≤ t.pos
 fin : 0 ≤ L
 name : ∀ t ∈ T, t.kind = 1 → ∃ (c : UInt8) (l : Str), t.text = c :: l ∧ 97 ≤ c.toNat
 sym : ∀ t ∈ T, t.kind = 4 → ∃ (c : UInt8) (l : Str), t.text = c :: l ∧ c.toNat < 97
theorem BadR.nn {T ts : List Tok} {L : Int} {r : Rdr} (hW : TokW T L) (h : BadR T L ts r) : 0 ≤ r.bad := by
 rw [h.2.2.1]
 cases ts with
 | nil => exact hW.fin
 | cons t q => exact hW.pos t (h.2.2.2.subset List.mem_cons_self)
def SimR {α : Type} (T : List Tok) (L : Int) (R : PR α) (x : Option (α × Rdr)) : Prop := match R with
 | .ok a ts => ts <:+ T ∧ x = some (a, gr T L ts)
 | .err ts => ∃ a p, x = some (a, p) ∧ BadR T L ts p
theorem SimR.bind {α β : Type} {T : List Tok} {L : Int} (hW : TokW T L) {R : PR α} {x : Option (α × Rdr)} {k : α → List Tok → PR β} {g : α × Rdr → Option (β × Rdr)} (h : SimR T L R x)
 (hk : ∀ a ts, R = .ok a ts → ts <:+ T → SimR T L (k a ts) (g (a, gr T L ts))) (hb : ∀ a p, 0 ≤ p.bad → ∃ b, g (a, p) = some (b, p)) : SimR T L (R.bind k) (Option.bind x g) := by
 cases R with
 | ok a ts =>
   obtain ⟨h1, h2⟩ := h
   rw [h2]
   exact hk a ts rfl h1
 | err ts =>
   obtain ⟨a, p, h1, h2⟩ := h
   obtain ⟨b, h3⟩ := hb a p (h2.nn hW)
   rw [h1]
   exact ⟨b, p, h3, h2⟩
theorem vCm (N : Nat) (t : Tok) (s : Str) : xDM N t s = some (isS t s) := by unfold xDM isS; cases t.kind == 4 <;> rfl
theorem vFp (N : Nat) (t : Tok) (s : Str) : xGJ N t s = some (isK t s) := by unfold xGJ isK; cases t.kind == 1 <;> rfl
theorem xTb {T ts : List Tok} {L : Int} {t : Tok} {q : List Tok} (h : t :: q <:+ T) : (decide ((gr T L (t :: q)).i < (List.length (gr T L (t :: q)).toks : Int)) = true ∧ decide ((gr T L (t :: q)).i ≥ (List.length (gr T L (t :: q)).toks : Int)) = false) ∧
 ((0 : Int) ≤ (gr T L (t :: q)).i ∧ (gr T L (t :: q)).i < (List.length (gr T L (t :: q)).toks)) ∧ List.getD (gr T L (t :: q)).toks (Int.toNat (gr T L (t :: q)).i) Ty.tok.dflt = t := by
 obtain ⟨pre, rfl⟩ := h
 have e : (pre ++ t :: q).length - (t :: q).length = pre.length := by rw [jA]; omega
 have e2 : (pre ++ t :: q).length = pre.length + (q.length + 1) := by simp
 simp only [gr, e]
 refine ⟨⟨decide_eq_true (by omega), decide_eq_false (by omega)⟩, by omega, ?_⟩
 simp [List.getD]
theorem xPQ (T : List Tok) (L : Int) : decide ((gr T L []).i < (List.length (gr T L []).toks : Int)) = false ∧ decide ((gr T L []).i ≥ (List.length (gr T L []).toks : Int)) = true := by
 simp only [gr, jN, Nat.sub_zero]
 exact ⟨decide_eq_false (by omega), decide_eq_true (by omega)⟩
theorem xK4 (T ts : List Tok) (L : Int) : (gr T L ts).bad = -1 := rfl
theorem xPD {T ts : List Tok} {L : Int} (N : Nat) (s : Str) (h : ts <:+ T) : xBJ N (gr T L ts) s = some (seeS s ts || seeK s ts, gr T L ts) := by
 unfold xBJ
 rw [xK4, xOP, jT]
 cases ts with
 | nil => rw [(xPQ T L).1, jF]; rfl
 | cons t q =>
   obtain ⟨⟨a1, _⟩, a2, a3⟩ := xTb (ts := t :: q) (L := L) h
   rw [a1, jT, if_pos a2, a3, vCm, jS, vFp]
   show _ = some (isS t s || isK t s, _)
   cases isS t s <;> rfl
def SymS (s : Str) : Prop := ∃ (c : UInt8) (l : Str), s = c :: l ∧ c.toNat < 97
def KeyS (s : Str) : Prop := ∃ (c : UInt8) (l : Str), s = c :: l ∧ 97 ≤ c.toNat
theorem xPC {T ts : List Tok} {L : Int} (hW : TokW T L) (h : ts <:+ T) {s : Str} (hs : SymS s) : seeK s ts = false := by
 cases ts with
 | nil => rfl
 | cons t q =>
   show isK t s = false
   unfold isK
   cases hk : t.kind == 1
   · rfl
   · obtain ⟨c, l, h1, h2⟩ := hW.name t (h.subset List.mem_cons_self) (by simpa using hk)
     obtain ⟨c', l', rfl, h4⟩ := hs
     rw [jT, h1, beq_eq_false_iff_ne]
     intro e
     cases e
     omega
theorem vCn {T ts : List Tok} {L : Int} (hW : TokW T L) (h : ts <:+ T) {s : Str} (hs : KeyS s) : seeS s ts = false := by
 cases ts with
 | nil => rfl
 | cons t q =>
   show isS t s = false
   unfold isS
   cases hk : t.kind == 4
   · rfl
   · obtain ⟨c, l, h1, h2⟩ := hW.sym t (h.subset List.mem_cons_self) (by simpa using hk)
     obtain ⟨c', l', rfl, h4⟩ := hs
     rw [jT, h1, beq_eq_false_iff_ne]
     intro e
     cases e
     omega
theorem xOC {T ts : List Tok} {L : Int} (hW : TokW T L) (N : Nat) {s : Str} (hs : SymS s) (h : ts <:+ T) : xBJ N (gr T L ts) s = some (seeS s ts, gr T L ts) := by
 rw [xPD N s h, xPC hW h hs, Bool.or_false]
theorem vCo {T ts : List Tok} {L : Int} (hW : TokW T L) (N : Nat) {s : Str} (hs : KeyS s) (h : ts <:+ T) : xBJ N (gr T L ts) s = some (seeK s ts, gr T L ts) := by
 rw [xPD N s h, vCn hW h hs, Bool.false_or]
theorem xIV {T ts : List Tok} {L : Int} (hT : T.length ≤ 1000) (h : ts <:+ T) (hne : ts.tail.length + 1 = ts.length) : Rdr.mk (gr T L ts).toks (IntKind.i64.wrap ((gr T L ts).i + 1)) (gr T L ts).fin (gr T L ts).bad = gr T L ts.tail := by
 have hl := h.length_le
 unfold gr
 have : IntKind.i64.wrap (((T.length - ts.length : Nat) : Int) + 1) = ((T.length - ts.tail.length : Nat) : Int) := by rw [xBw (by omega) (by omega)]; omega
 simp only [this]
theorem xLi {T ts : List Tok} {L : Int} (N : Nat) (h : ts <:+ T) : ∃ p, xB7 N (gr T L ts) = some (e0, p) ∧ BadR T L ts p := by
 unfold xB7
 rw [xK4, xOP, jT]
 cases ts with
 | nil =>
   rw [(xPQ T L).1, jF]
   exact ⟨_, rfl, rfl, rfl, rfl, h⟩
 | cons t q =>
   obtain ⟨⟨a1, _⟩, a2, a3⟩ := xTb (ts := t :: q) (L := L) h
   rw [a1, jT, if_pos a2, a3]
   exact ⟨_, rfl, rfl, rfl, rfl, h⟩
theorem xGO {p : Rdr} (N : Nat) (s : Str) (h : 0 ≤ p.bad) : xBJ N p s = some (false, p) := by
 unfold xBJ; rw [decide_eq_false (by omega), jF]
theorem xOD {p : Rdr} (N : Nat) (h : 0 ≤ p.bad) : xB7 N p = some (e0, p) := by
 unfold xB7; rw [decide_eq_false (by omega), jF]
theorem xHZ {p : Rdr} (N : Nat) (s : Str) (h : 0 ≤ p.bad) : xBE N p s = some p := by
 unfold xBE; simp only [xGO N s h, jS, xOD N h]; rfl
theorem SimR.need {β : Type} {T ts : List Tok} {L : Int} (hW : TokW T L) {s : Str} {N : Nat} {k : Unit → List Tok → PR β} {g : Rdr → Option (β × Rdr)} (hT : T.length ≤ 1000) (h : ts <:+ T)
 (hk : ∀ r, xGH s ts = .ok () r → r <:+ T → SimR T L (k () r) (g (gr T L r))) (hb : ∀ p, 0 ≤ p.bad → ∃ b, g p = some (b, p)) : SimR T L ((xGH s ts).bind k) (Option.bind (xBE N (gr T L ts) s) g) := by
 unfold xBE
 rw [xPD N s h, jS]
 have bad : ∀ R : PR β, R = .err ts → SimR T L R (Option.bind (Option.bind (xB7 N (gr T L ts)) fun r2 => some r2.2) g) := by
  intro R hR
  subst hR
  obtain ⟨p, hp1, hp2⟩ := xLi (L := L) N h
  obtain ⟨b, hb⟩ := hb p (hp2.nn hW)
  refine ⟨b, p, ?_, hp2⟩
  rw [hp1, jS, jS, hb]
 cases ts with
 | nil => exact bad _ rfl
 | cons t r =>
   show SimR T L _ (Option.bind (bif (!(isS t s || isK t s)) then _ else _) g)
   cases h1 : isS t s || isK t s
   · exact bad _ (by simp only [xGH, Bool.or_comm (isK t s), h1, jF, PR.bind])
   · have e : xGH s (t :: r) = .ok () r := by simp only [xGH, Bool.or_comm (isK t s), h1, jT]
     rw [e]
     simp only [Bool.not_true, jF, jS]
     have ha : Rdr.mk (gr T L (t :: r)).toks (IntKind.i64.wrap ((gr T L (t :: r)).i + 1)) (gr T L (t :: r)).fin (gr T L (t :: r)).bad = gr T L r := xIV hT h rfl
     rw [ha]
     exact hk r e (xCN h)
theorem xSG {K : Nat} {T ts : List Tok} {L : Int} {N : Nat} (hT : TokT K T) (hN : K < N) (h24 : 24 < N) (hK : K ≤ 1048576) (h : ts <:+ T) : SimR T L (xMW ts) (xDZ N (gr T L ts)) := by
 have bad : xDZ N (gr T L ts) = Option.bind (xB7 N (gr T L ts)) (fun r2 => some ([], r2.2)) → SimR T L (.err ts : PR Str) (xDZ N (gr T L ts)) := fun he => by
  obtain ⟨p, h1, h2⟩ := xLi (L := L) N h
  rw [he, h1]
  exact ⟨[], p, rfl, h2⟩
 have c0 : decide ((-1 : Int) ≥ 0) = false := rfl
 cases ts with
 | nil =>
   refine bad ?_
   unfold xDZ
   rw [xK4, c0, jF, (xPQ T L).2, jT]
 | cons t r =>
   have hft := hT.fit t (h.subset List.mem_cons_self)
   have hlen : t.text.length ≤ K := hft.2.2.2
   have hv := xGV (N := N) (s := t.text) (by omega) (by omega) h24
   obtain ⟨⟨_, a1⟩, a2, a3⟩ := xTb (ts := t :: r) (L := L) h
   simp only [xMW]
   cases h1 : t.kind == 1
   · refine bad ?_
     unfold xDZ
     rw [xK4, c0, jF, a1, jF, if_pos a2, a3]
     simp only [bne, h1, Bool.not_false, jT]
   · cases h2 : xCc t.text
     · refine bad ?_
       unfold xDZ
       rw [xK4, c0, jF, a1, jF, if_pos a2, a3]
       simp only [bne, h1, hv, h2, jS, Bool.not_true, Bool.not_false, jT, jF]
     · refine ⟨xCN h, ?_⟩
       have hl := h.length_le
       have hT1 := hT.len
       have e1 : IntKind.i64.wrap ((IntKind.i64.wrap ((gr T L (t :: r)).i + 1)) - 1) = (gr T L (t :: r)).i := by
        show IntKind.i64.wrap ((IntKind.i64.wrap (((T.length - (t :: r).length : Nat) : Int) + 1)) - 1) = ((T.length - (t :: r).length : Nat) : Int)
        rw [xBw (x := ((T.length - (t :: r).length : Nat) : Int) + 1) (by omega) (by omega), xBw (by omega) (by omega)]; omega
       have ha : Rdr.mk (gr T L (t :: r)).toks (IntKind.i64.wrap ((gr T L (t :: r)).i + 1)) (gr T L (t :: r)).fin (gr T L (t :: r)).bad = gr T L r := xIV hT.len h rfl
       unfold xDZ
       rw [e1, ha, xK4, c0, jF, a1, jF, if_pos a2, a3]
       simp only [bne, h1, hv, h2, jS, Bool.not_true, jT, jF, if_pos a2]
def xGA (q : Rdr → Option (Exp × Rdr)) : Prop := ∀ p, 0 ≤ p.bad → q p = some (e0, p)
def xOL (q : Rdr → Str → Option (List Exp × Rdr)) : Prop := ∀ p s, 0 ≤ p.bad → q p s = some ([], p)
def FRs (T : List Tok) (L : Int) (n : Nat) (f : List Tok → PR Exp) (q : Rdr → Option (Exp × Rdr)) : Prop := ∀ ts, ts <:+ T → ts.length < n → SimR T L (f ts) (q (gr T L ts))
theorem sOp (N : Nat) (k : Int) (a b : Exp) : xEc N k a b = some (.mk 6 k [] [a, b]) := by unfold xEc; simp only [Exp.re_eq]
theorem xSE {s s' : Str} {ts : List Tok} (h : seeS s ts = true) (hne : s ≠ s') : seeS s' ts = false := by
 cases ts with
 | nil => cases h
 | cons t q =>
   have h : isS t s = true := h
   show isS t s' = false
   unfold isS at h ⊢
   cases hk : t.kind == 4
   · rfl
   · rw [hk, jT] at h
     rw [jT, beq_eq_false_iff_ne]
     intro e
     exact hne ((beq_iff_eq.1 h).symm.trans e)
section
variable {K : Nat} {T : List Tok} {L : Int} {N : Nat} {q0 : Rdr → Str → Option (List Exp × Rdr)} {q1 q2 q3 q4 q5 : Rdr → Option (Exp × Rdr)}
theorem xQZ (hW : TokW T L) (hT : TokT K T) {n : Nat} {f : List Tok → PR Exp} (hf : xCQ K f) (hq : FRs T L n f q3) (c : Str) (hc : SymS c) (hc2 : c ≠ [44]) : ∀ (m fuel : Nat) (acc : List Exp) (ts : List Tok), ts <:+ T → ts.length < n → ts.length < m → ts.length < fuel → acc.length + ts.length ≤ 2000 →
 SimR T L (xJz f c m acc ts) (xFK N q0 q1 q2 q3 q4 q5 fuel c acc (gr T L ts)) := by
 have hco : SymS [44] := ⟨44, [], rfl, by decide⟩
 intro m
 induction m with
 | zero => intro fuel acc ts _ _ h; omega
 | succ m ih =>
   intro fuel acc ts h hn hm hfu ha
   obtain ⟨fuel, rfl⟩ : ∃ k, fuel = k + 1 := ⟨fuel - 1, by omega⟩
   simp only [xJz, xFK, xK4, xOP, jT]
   refine SimR.bind hW (hq ts h hn) (fun e r he hr => ?_) (fun e p hp => ?_)
   · have hl := eat hT hf h he
     simp only [Exp.re_eq]
     rw [if_pos (by simp only [jC, jN]; unfold Lim; omega)]
     rw [xOC hW N hco hr, jS]
     cases hs : seeS [44] r
     · simp only [Bool.not_false, jT]
       have hk := xPC hW hr hco
       have e1 : xGH [44] r = .err r := by
        cases r with
        | nil => rfl
        | cons t q =>
          have hk : isK t [44] = false := hk
          have hs : isS t [44] = false := hs
          simp only [xGH, hk, hs, Bool.or_false, jF]
       have hkc := xPC hW hr hc
       have e2 : (bif seeS c r then PR.ok (acc ++ [e]) r.tail else (xGH [44] r).bind fun _ q => xJz f c m (acc ++ [e]) q) = (xGH c r).bind fun _ q => .ok (acc ++ [e]) q := by
        rw [e1]
        cases r with
        | nil => rfl
        | cons t q =>
          have hkc : isK t c = false := hkc
          show (bif isS t c then _ else _) = _
          simp only [xGH, hkc, Bool.false_or]
          cases isS t c <;> rfl
       rw [e2]
       exact SimR.need hW hT.len hr (fun q _ hq => ⟨hq, rfl⟩) (fun p hp => ⟨_, rfl⟩)
     · have hs' := xSE hs (Ne.symm hc2)
       obtain ⟨t, q, rfl⟩ : ∃ t q, r = t :: q := by
        obtain ⟨t, h1, _⟩ := xMH hs
        exact ⟨t, _, h1⟩
       have hs2 : isS t [44] = true := hs
       have e1 : xGH [44] (t :: q) = .ok () q := by simp only [xGH, hs2, Bool.or_true, jT]
       have ha : Rdr.mk (gr T L (t :: q)).toks (IntKind.i64.wrap ((gr T L (t :: q)).i + 1)) (gr T L (t :: q)).fin (gr T L (t :: q)).bad = gr T L q := xIV hT.len hr rfl
       rw [hs', e1]
       simp only [Bool.not_true, jF, ha, PR.bind]
       exact ih fuel (acc ++ [e]) q (xCN hr) (by simp only [jC] at hl; omega) (by simp only [jC] at hl; omega) (by simp only [jC] at hl; omega) (by simp only [jA, jC, jN] at hl ⊢; omega)
   · simp only [Exp.re_eq]
     rw [if_pos (by simp only [jC, jN]; unfold Lim; omega), xGO N _ hp, jS]
     simp only [Bool.not_false, jT, xHZ N _ hp, jS]
     exact ⟨_, rfl⟩
theorem xSX (hN : 0 < N) (s : Str) {p : Rdr} (h : 0 ≤ p.bad) : xEd N q0 q1 q2 q3 q4 q5 p s = some ([], p) := by
 obtain ⟨M, rfl⟩ : ∃ k, N = k + 1 := ⟨N - 1, by omega⟩
 unfold xEd
 rw [xGO _ s h, jS]
 simp only [jF, xFK]
 rw [decide_eq_false (by omega), jF, xHZ _ s h]; rfl
theorem xSY (hW : TokW T L) (hT : TokT K T) (hN : 1002 < N) {n m : Nat} {f : List Tok → PR Exp} (hf : xCQ K f) (hq : FRs T L n f q3) (c : Str) (hc : SymS c) (hc2 : c ≠ [44]) {ts : List Tok} (h : ts <:+ T) (hn : ts.length < n) (hm : ts.length < m) :
 SimR T L (xKR f m c ts) (xEd N q0 q1 q2 q3 q4 q5 (gr T L ts) c) := by
 have hl := h.length_le
 have := hT.len
 unfold xKR xEd
 rw [xOC hW N hc h, jS]
 cases hs : seeS c ts
 · simp only [jF]
   exact xQZ hW hT hf hq c hc hc2 m N [] ts h hn hm (by omega) (by simp; omega)
 · simp only [jT, xIV hT.len h (xEH hs)]
   exact ⟨xCN h, rfl⟩
def FRl (T : List Tok) (L : Int) (n m : Nat) (f : List Tok → PR Exp) (q : Rdr → Str → Option (List Exp × Rdr)) : Prop := ∀ c ts, SymS c → c ≠ [44] → ts <:+ T → ts.length < n → SimR T L (xKR f m c ts) (q (gr T L ts) c)
theorem xOA {p : Rdr} (h : 0 ≤ p.bad) : xEe N q0 q1 q2 q3 q4 q5 p = some (e0, p) := by
 unfold xEe
 rw [decide_eq_true (by omega : p.bad ≥ 0), jT, xOD N h]; rfl
theorem xNj (hW : TokW T L) (hT : TokT K T) {n m : Nat} {f : List Tok → PR Exp} (hf : xCQ K f) (hq : FRs T L n f q3) (hb : xGA q3) (hl : FRl T L n m f q0) (hbl : xOL q0) {t : Tok} {r : List Tok} (h : t :: r <:+ T) (hn : r.length < n) :
 SimR T L (xJy f m t r) (Option.bind (xDM N t [91]) fun r1 =>
         bif r1 then (
          Option.bind (q0 (gr T L r) [93]) fun r2 =>
          some ((Exp.mk 4 0 [] r2.1), r2.2)
         ) else (
           Option.bind (xDM N t [40]) fun r2 =>
           bif r2 then (
            Option.bind (q3 (gr T L r)) fun r3 =>
            Option.bind (xBE N r3.2 [41]) fun r4 =>
            some (r3.1, r4)
           ) else (
             Option.bind (xB7 N (gr T L (t :: r))) fun r3 =>
             some (r3.1, r3.2)
           )
         )) := by
 have hr : r <:+ T := xCN h
 unfold xJy
 rw [vCm, jS]
 cases h1 : isS t [91]
 · simp only [jF, vCm, jS]
   cases h2 : isS t [40]
   · simp only [jF]
     obtain ⟨p, hp1, hp2⟩ := xLi (L := L) N h
     rw [hp1]
     exact ⟨_, p, rfl, hp2⟩
   · simp only [jT]
     refine SimR.bind hW (hq r hr hn) (fun e u he hu => ?_) (fun e p hp => ⟨e, by simp only [xHZ N _ hp, jS]⟩)
     exact SimR.need hW hT.len hu (fun v _ hv => ⟨hv, rfl⟩) (fun p hp => ⟨e, rfl⟩)
 · simp only [jT]
   exact SimR.bind hW (hl [93] r ⟨93, [], rfl, by decide⟩ (by decide) hr hn) (fun a u _ hu => ⟨hu, rfl⟩) (fun a p hp => ⟨_, rfl⟩)
theorem xSD (hW : TokW T L) (hT : TokT K T) (hN : K < N) (h24 : 24 < N) (hK : K ≤ 1048576) {n m : Nat} {f : List Tok → PR Exp} (hf : xCQ K f) (hq : FRs T L n f q3) (hb : xGA q3) (hl : FRl T L n m f q0) (hbl : xOL q0) :
 FRs T L (n + 1) (xG2 f m) (xEe N q0 q1 q2 q3 q4 q5) := by
 intro ts h hn
 have c0 : decide ((-1 : Int) ≥ 0) = false := rfl
 unfold xEe
 rw [xK4, c0, jF]
 cases ts with
 | nil =>
   rw [(xPQ T L).2, jT]
   obtain ⟨p, hp1, hp2⟩ := xLi (L := L) N h
   exact ⟨_, p, by rw [hp1]; rfl, hp2⟩
 | cons t r =>
   have hr : r <:+ T := xCN h
   have hn' : r.length < n := by simp only [jC] at hn; omega
   have hft := hT.fit t (h.subset List.mem_cons_self)
   have hlen : t.text.length ≤ K := hft.2.2.2
   have hv := xGV (N := N) (s := t.text) (by omega) (by omega) h24
   obtain ⟨⟨_, a1⟩, a2, a3⟩ := xTb (ts := t :: r) (L := L) h
   have ha : Rdr.mk (gr T L (t :: r)).toks (IntKind.i64.wrap ((gr T L (t :: r)).i + 1)) (gr T L (t :: r)).fin (gr T L (t :: r)).bad = gr T L r := xIV hT.len h rfl
   have ha' : Rdr.mk (gr T L (t :: r)).toks (IntKind.i64.wrap ((gr T L (t :: r)).i + 1)) (gr T L (t :: r)).fin (-1) = gr T L r := ha
   rw [a1, jF, if_pos a2, a3]
   simp only [xG2, ha']
   cases h1 : t.kind == 2
   · cases h2 : t.kind == 3
     · cases h3 : t.kind == 1
       · exact xNj hW hT hf hq hb hl hbl h hn'
       · simp only [jT, jF, hv, jS]
         cases h4 : xCc t.text
         · simp only [jF, xFs, jS]
           cases h5 : decide (argc t.text ≥ 0)
           · exact xNj hW hT hf hq hb hl hbl h hn'
           · simp only [jT]
             refine SimR.need hW hT.len hr (fun u hu hus => ?_) (fun p hp => ⟨_, by rw [hbl p _ hp, jS]⟩)
             have := xD3 hu
             exact SimR.bind hW (hl [41] u ⟨41, [], rfl, by decide⟩ (by decide) hus (by omega)) (fun a v _ hv => ⟨hv, rfl⟩) (fun a p hp => ⟨_, rfl⟩)
         · exact ⟨hr, rfl⟩
     · exact ⟨hr, rfl⟩
   · exact ⟨hr, rfl⟩
theorem xQN (hW : TokW T L) (hT : TokT K T) {n : Nat} {g : List Tok → PR Exp} (hg : xCQ K g) (hq : FRs T L n g q1) (hb : xGA q1) (b2 : Exp) : ∀ (m fuel : Nat) (a : Exp) (ts : List Tok), ts <:+ T → ts.length ≤ n → ts.length < m → ts.length < fuel →
 SimR T L (xI1 g m a ts) (xDl N q0 q1 q2 q3 q4 q5 fuel (gr T L ts) b2 a) := by
 have hs0 : SymS [42] := ⟨42, [], rfl, by decide⟩
 intro m
 induction m with
 | zero => intro fuel a ts _ _ h; omega
 | succ m ih =>
   intro fuel a ts h hn hm hfu
   obtain ⟨fuel, rfl⟩ : ∃ k, fuel = k + 1 := ⟨fuel - 1, by omega⟩
   simp only [xI1, xDl]
   rw [xOC hW N hs0 h, jS]
   cases hs : seeS [42] ts
   · exact ⟨h, rfl⟩
   · have hl := xEH hs
     simp only [jT, sOp, jS, xIV hT.len h hl]
     obtain ⟨fuel, rfl⟩ : ∃ k, fuel = k + 1 := ⟨fuel - 1, by omega⟩
     refine SimR.bind hW (hq ts.tail (xCN h) (by omega)) (fun b r hbr hr => ?_) (fun b p hp => ⟨.mk 6 3 [] [a, b], by simp only [xDl, xGO N _ hp, jS, jF]⟩)
     have := eat hT hg (xCN h) hbr
     exact ih (fuel + 1) _ r hr (by omega) (by omega) (by omega)
theorem xSK (hW : TokW T L) (hT : TokT K T) (hN : 1002 < N) {n m : Nat} {g : List Tok → PR Exp} (hg : xCQ K g) (hq : FRs T L n g q1) (hb : xGA q1) (hnm : n ≤ m) : FRs T L n (xLg g m) (xDe N q0 q1 q2 q3 q4 q5) := by
 intro ts h hn
 have hl := h.length_le
 have := hT.len
 unfold xLg xDe
 obtain ⟨M, rfl⟩ : ∃ k, N = k + 1 := ⟨N - 1, by omega⟩
 refine SimR.bind hW (hq ts h hn) (fun b r hbr hr => ?_) (fun b p hp => ⟨b, by simp only [xDl, xGO _ _ hp, jS, jF]⟩)
 have := eat hT hg h hbr
 exact xQN hW hT hg hq hb e0 m (M + 1) b r hr (by omega) (by omega) (by omega)
theorem xOI (hN : 0 < N) (hb : xGA q1) : xGA (xDe N q0 q1 q2 q3 q4 q5) := by
 intro p hp
 obtain ⟨M, rfl⟩ : ∃ k, N = k + 1 := ⟨N - 1, by omega⟩
 unfold xDe
 simp only [hb p hp, jS, xDl, xGO _ _ hp, jF]
theorem xSM (hW : TokW T L) (hT : TokT K T) {n : Nat} {g : List Tok → PR Exp} (hg : xCQ K g) (hq : FRs T L n g q4) (hb : xGA q4) (b2 : Exp) : ∀ (m fuel : Nat) (a : Exp) (ts : List Tok), ts <:+ T → ts.length ≤ n → ts.length < m → ts.length < fuel →
 SimR T L (xJs g m a ts) (xC5 N q0 q1 q2 q3 q4 q5 fuel (gr T L ts) b2 a) := by
 have hp0 : SymS [43] := ⟨43, [], rfl, by decide⟩
 have hm0 : SymS [45] := ⟨45, [], rfl, by decide⟩
 intro m
 induction m with
 | zero => intro fuel a ts _ _ h; omega
 | succ m ih =>
   intro fuel a ts h hn hm hfu
   obtain ⟨fuel, rfl⟩ : ∃ k, fuel = k + 1 := ⟨fuel - 1, by omega⟩
   have step : ∀ s k, seeS s ts = true → SimR T L ((g ts.tail).bind fun b r => xJs g m (.mk 6 k [] [a, b]) r) (Option.bind (q4 (gr T L ts.tail)) fun r3 => Option.bind (xEc N k a r3.1) fun r4 => xC5 N q0 q1 q2 q3 q4 q5 fuel r3.2 b2 r4) := by
    intro s k hs
    have hl := xEH hs
    simp only [sOp, jS]
    obtain ⟨fuel, rfl⟩ : ∃ k, fuel = k + 1 := ⟨fuel - 1, by omega⟩
    refine SimR.bind hW (hq ts.tail (xCN h) (by omega)) (fun b r hbr hr => ?_) (fun b p hp => ⟨.mk 6 k [] [a, b], by simp only [xC5, xGO N _ hp, jS, jF]⟩)
    have := eat hT hg (xCN h) hbr
    exact ih (fuel + 1) _ r hr (by omega) (by omega) (by omega)
   simp only [xJs, xC5]
   rw [xOC hW N hp0 h, jS]
   cases hs : seeS [43] ts
   · simp only [jF, xOC hW N hm0 h, jS]
     cases hs2 : seeS [45] ts
     · exact ⟨h, rfl⟩
     · simp only [jT, xIV hT.len h (xEH hs2)]
       exact step _ 2 hs2
   · simp only [jT, xOC hW N hm0 h, jS, xSE hs (by decide : ([43] : Str) ≠ [45]), jF, xIV hT.len h (xEH hs)]
     exact step _ 1 hs
theorem xWD (hW : TokW T L) (hT : TokT K T) (hN : 1002 < N) {n m : Nat} {g : List Tok → PR Exp} (hg : xCQ K g) (hq : FRs T L n g q4) (hb : xGA q4) (hnm : n ≤ m) : FRs T L n (pSum g m) (xEE N q0 q1 q2 q3 q4 q5) := by
 intro ts h hn
 have hl := h.length_le
 have := hT.len
 unfold pSum xEE
 obtain ⟨M, rfl⟩ : ∃ k, N = k + 1 := ⟨N - 1, by omega⟩
 refine SimR.bind hW (hq ts h hn) (fun b r hbr hr => ?_) (fun b p hp => ⟨b, by simp only [xC5, xGO _ _ hp, jS, jF]⟩)
 have := eat hT hg h hbr
 exact xSM hW hT hg hq hb e0 m (M + 1) b r hr (by omega) (by omega) (by omega)
theorem xQm (hN : 0 < N) (hb : xGA q4) : xGA (xEE N q0 q1 q2 q3 q4 q5) := by
 intro p hp
 obtain ⟨M, rfl⟩ : ∃ k, N = k + 1 := ⟨N - 1, by omega⟩
 unfold xEE
 simp only [hb p hp, jS, xC5, xGO _ _ hp, jF]
theorem xWz (hb : xGA q5) : xGA (xDd N q0 q1 q2 q3 q4 q5) := by
 intro p hp
 unfold xDd
 simp only [hb p hp, jS, xGO _ _ hp, jF]
theorem xWA (hW : TokW T L) (hT : TokT K T) {n : Nat} {g : List Tok → PR Exp} (hg : xCQ K g) (hq : FRs T L n g q5) (hb : xGA q5) : FRs T L n (pCmp g) (xDd N q0 q1 q2 q3 q4 q5) := by
 intro ts h hn
 have s1 : SymS [60] := ⟨60, [], rfl, by decide⟩
 have s2 : SymS [61, 61] := ⟨61, [61], rfl, by decide⟩
 unfold pCmp xDd
 refine SimR.bind hW (hq ts h hn) (fun a r ha hr => ?_) (fun a p hp => ⟨a, by simp only [jS, xGO _ _ hp, jF]⟩)
 have hl := eat hT hg h ha
 have step : ∀ s k, seeS s r = true → SimR T L ((g r.tail).bind fun b q => PR.ok (.mk 6 k [] [a, b]) q) (Option.bind (q5 (gr T L r.tail)) fun r3 => Option.bind (xEc N k a r3.1) fun r4 => some (r4, r3.2)) := by
  intro s k hs
  have hl := xEH hs
  simp only [sOp, jS]
  exact SimR.bind hW (hq r.tail (xCN hr) (by omega)) (fun b r hbr hr => ⟨hr, rfl⟩) (fun b p hp => ⟨_, rfl⟩)
 unfold xOt
 simp only [xOC hW N s1 hr, xOC hW N s2 hr, jS]
 cases hs : seeS [60] r
 · simp only [jF]
   cases hs2 : seeS [61, 61] r
   · exact ⟨hr, rfl⟩
   · simp only [jT, xIV hT.len hr (xEH hs2)]
     exact step _ 5 hs2
 · simp only [jT, xIV hT.len hr (xEH hs)]
   exact step _ 4 hs
theorem xSF (hb : xGA q2) : xGA (xEf N q0 q1 q2 q3 q4 q5) := by
 intro p hp
 unfold xEf
 simp only [hb p hp, jS, xGO _ _ hp, jF]
theorem xQn (hW : TokW T L) (hT : TokT K T) (hN : K < N) (h24 : 24 < N) (hK : K ≤ 1048576) {n : Nat} {f : List Tok → PR Exp} (hf : xCQ K f) (hq : FRs T L n f q3) (hb : xGA q3) (k : Int) (s1 s2 : Str) {ts : List Tok} (h : ts <:+ T) (hn : ts.length < n) :
 SimR T L (pTwo f k s1 s2 ts) (Option.bind (xDZ N (gr T L ts)) fun r2 =>
 Option.bind (xBE N r2.2 s1) fun r3 =>
 Option.bind (q3 r3) fun r4 =>
 Option.bind (xBE N r4.2 s2) fun r5 =>
 Option.bind (q3 r5) fun r6 =>
 some ((Exp.mk k 0 r2.1 [(Exp.re r4.1), (Exp.re r6.1)]), r6.2)) := by
 simp only [Exp.re_eq]
 refine SimR.bind hW (xSG hT hN h24 hK h) (fun x r1 hx hr1 => ?_) (fun x p hp => ⟨.mk k 0 x [e0, e0], by simp only [xHZ N _ hp, hb p hp, jS]⟩)
 have l1 := xMF hx
 refine SimR.need hW hT.len hr1 (fun r2 h2 hr2 => ?_) (fun p hp => ⟨.mk k 0 x [e0, e0], by simp only [xHZ N _ hp, hb p hp, jS]⟩)
 have l2 := xD3 h2
 refine SimR.bind hW (hq r2 hr2 (by omega)) (fun a r3 h3 hr3 => ?_) (fun a p hp => ⟨.mk k 0 x [a, e0], by simp only [xHZ N _ hp, hb p hp, jS]⟩)
 have l3 := eat hT hf hr2 h3
 refine SimR.need hW hT.len hr3 (fun r4 h4 hr4 => ?_) (fun p hp => ⟨.mk k 0 x [a, e0], by simp only [hb p hp, jS]⟩)
 have l4 := xD3 h4
 exact SimR.bind hW (hq r4 hr4 (by omega)) (fun b r5 h5 hr5 => ⟨hr5, rfl⟩) (fun b p hp => ⟨_, rfl⟩)
theorem vCp (hW : TokW T L) (hT : TokT K T) {n : Nat} {f : List Tok → PR Exp} (hf : xCQ K f) (hq : FRs T L n f q3) (hb : xGA q3) {ts : List Tok} (h : ts <:+ T) (hn : ts.length < n) :
 SimR T L (pIf f ts) (Option.bind (q3 (gr T L ts)) fun r3 =>
  Option.bind (xBE N r3.2 [116, 104, 101, 110]) fun r4 =>
  Option.bind (q3 r4) fun r5 =>
  Option.bind (xBE N r5.2 [101, 108, 115, 101]) fun r6 =>
  Option.bind (q3 r6) fun r7 =>
  some ((Exp.mk 8 0 [] [(Exp.re r3.1), (Exp.re r5.1), (Exp.re r7.1)]), r7.2)) := by
 simp only [Exp.re_eq]
 refine SimR.bind hW (hq ts h hn) (fun a r1 h1 hr1 => ?_) (fun a p hp => ⟨.mk 8 0 [] [a, e0, e0], by simp only [xHZ N _ hp, hb p hp, jS]⟩)
 have l1 := eat hT hf h h1
 refine SimR.need hW hT.len hr1 (fun r2 h2 hr2 => ?_) (fun p hp => ⟨.mk 8 0 [] [a, e0, e0], by simp only [xHZ N _ hp, hb p hp, jS]⟩)
 have l2 := xD3 h2
 refine SimR.bind hW (hq r2 hr2 (by omega)) (fun b r3 h3 hr3 => ?_) (fun b p hp => ⟨.mk 8 0 [] [a, b, e0], by simp only [xHZ N _ hp, hb p hp, jS]⟩)
 have l3 := eat hT hf hr2 h3
 refine SimR.need hW hT.len hr3 (fun r4 h4 hr4 => ?_) (fun p hp => ⟨.mk 8 0 [] [a, b, e0], by simp only [hb p hp, jS]⟩)
 have l4 := xD3 h4
 exact SimR.bind hW (hq r4 hr4 (by omega)) (fun c r5 h5 hr5 => ⟨hr5, rfl⟩) (fun c p hp => ⟨_, rfl⟩)
theorem xQM (hW : TokW T L) (hT : TokT K T) (hN : K < N) (h24 : 24 < N) (hK : K ≤ 1048576) {n : Nat} {f g : List Tok → PR Exp} (hf : xCQ K f) (hq : FRs T L n f q3) (hb : xGA q3) (hq2 : FRs T L (n + 1) (pCmp g) q2) :
 FRs T L (n + 1) (xHI f g) (xEf N q0 q1 q2 q3 q4 q5) := by
 intro ts h hn
 have k1 : KeyS [108, 101, 116] := ⟨108, [101, 116], rfl, by decide⟩
 have k2 : KeyS [105, 102] := ⟨105, [102], rfl, by decide⟩
 have k3 : KeyS [102, 111, 114] := ⟨102, [111, 114], rfl, by decide⟩
 unfold xHI xEf
 simp only [vCo hW N k1 h, vCo hW N k2 h, vCo hW N k3 h, jS]
 cases c1 : seeK [108, 101, 116] ts
 · simp only [jF]
   cases c2 : seeK [105, 102] ts
   · simp only [jF]
     cases c3 : seeK [102, 111, 114] ts
     · simp only [jF]
       have := hq2 ts h hn
       have e : (Option.bind (q2 (gr T L ts)) fun r4 => some (r4.1, r4.2)) = q2 (gr T L ts) := by cases q2 (gr T L ts) <;> rfl
       rw [e]
       exact this
     · simp only [jT, xIV hT.len h (xFU c3)]
       have := xFU c3
       exact xQn hW hT hN h24 hK hf hq hb 9 _ _ (xCN h) (by omega)
   · simp only [jT, xIV hT.len h (xFU c2)]
     have := xFU c2
     exact vCp hW hT hf hq hb (xCN h) (by omega)
 · simp only [jT, xIV hT.len h (xFU c1)]
   have := xFU c1
   exact xQn hW hT hN h24 hK hf hq hb 7 _ _ (xCN h) (by omega)
end
theorem xQj {N : Nat} (hN : 0 < N) : ∀ d, 5 ≤ d → xGA (xAa N d).c_spec_l11Expr := by
 intro d hd
 obtain ⟨d, rfl⟩ : ∃ k, d = k + 5 := ⟨d - 5, by omega⟩
 exact xSF (q0 := (xAa N (d + 4)).c_spec_l11Args) (q1 := (xAa N (d + 4)).c_spec_l11Atom) (q2 := (xAa N (d + 4)).c_spec_l11Compare) (q3 := (xAa N (d + 4)).c_spec_l11Expr) (q4 := (xAa N (d + 4)).c_spec_l11Product) (q5 := (xAa N (d + 4)).c_spec_l11Sum) (xWz (q0 := (xAa N (d + 3)).c_spec_l11Args) (q1 := (xAa N (d + 3)).c_spec_l11Atom) (q2 := (xAa N (d + 3)).c_spec_l11Compare) (q3 := (xAa N (d + 3)).c_spec_l11Expr) (q4 := (xAa N (d + 3)).c_spec_l11Product) (q5 := (xAa N (d + 3)).c_spec_l11Sum) (xQm (q0 := (xAa N (d + 2)).c_spec_l11Args) (q1 := (xAa N (d + 2)).c_spec_l11Atom) (q2 := (xAa N (d + 2)).c_spec_l11Compare) (q3 := (xAa N (d + 2)).c_spec_l11Expr) (q4 := (xAa N (d + 2)).c_spec_l11Product) (q5 := (xAa N (d + 2)).c_spec_l11Sum) hN (xOI (q0 := (xAa N (d + 1)).c_spec_l11Args) (q1 := (xAa N (d + 1)).c_spec_l11Atom) (q2 := (xAa N (d + 1)).c_spec_l11Compare) (q3 := (xAa N (d + 1)).c_spec_l11Expr) (q4 := (xAa N (d + 1)).c_spec_l11Product) (q5 := (xAa N (d + 1)).c_spec_l11Sum) hN fun p hp => xOA (q0 := (xAa N d).c_spec_l11Args) (q1 := (xAa N d).c_spec_l11Atom) (q2 := (xAa N d).c_spec_l11Compare) (q3 := (xAa N d).c_spec_l11Expr) (q4 := (xAa N d).c_spec_l11Product) (q5 := (xAa N d).c_spec_l11Sum) hp)))
theorem vCj {K : Nat} {T : List Tok} {L : Int} {N : Nat} (hW : TokW T L) (hT : TokT K T) (hN : K < N) (hN2 : 1002 < N) (hK : K ≤ 1048576) : ∀ n d, 6 * n + 11 ≤ d → FRs T L n (pE n) (xAa N d).c_spec_l11Expr := by
 intro n
 induction n with
 | zero => intro d _ ts _ h; omega
 | succ n ih =>
   intro d hd
   obtain ⟨d, rfl⟩ : ∃ k, d = k + 6 := ⟨d - 6, by omega⟩
   have f1 := ih d (by omega)
   have f2 := ih (d + 1) (by omega)
   have f5 := ih (d + 5) (by omega)
   have b2 := xQj (N := N) (by omega) (d + 1) (by omega)
   have b5 := xQj (N := N) (by omega) (d + 5) (by omega)
   have hl : FRl T L n (n + 1) (pE n) (xAa N (d + 1)).c_spec_l11Args := fun c ts hc hc2 h hn => xSY (q0 := (xAa N d).c_spec_l11Args) (q1 := (xAa N d).c_spec_l11Atom) (q2 := (xAa N d).c_spec_l11Compare) (q3 := (xAa N d).c_spec_l11Expr) (q4 := (xAa N d).c_spec_l11Product) (q5 := (xAa N d).c_spec_l11Sum) hW hT hN2 (xFT n) f1 c hc hc2 h hn (by omega)
   have hbl : xOL (xAa N (d + 1)).c_spec_l11Args := fun p s hp => xSX (q0 := (xAa N d).c_spec_l11Args) (q1 := (xAa N d).c_spec_l11Atom) (q2 := (xAa N d).c_spec_l11Compare) (q3 := (xAa N d).c_spec_l11Expr) (q4 := (xAa N d).c_spec_l11Product) (q5 := (xAa N d).c_spec_l11Sum) (by omega) s hp
   have a : FRs T L (n + 1) (xG2 (pE n) (n + 1)) (xAa N (d + 2)).c_spec_l11Atom := xSD (q0 := (xAa N (d + 1)).c_spec_l11Args) (q1 := (xAa N (d + 1)).c_spec_l11Atom) (q2 := (xAa N (d + 1)).c_spec_l11Compare) (q3 := (xAa N (d + 1)).c_spec_l11Expr) (q4 := (xAa N (d + 1)).c_spec_l11Product) (q5 := (xAa N (d + 1)).c_spec_l11Sum) hW hT hN (by omega) hK (xFT n) f2 b2 hl hbl
   have ba : xGA (xAa N (d + 2)).c_spec_l11Atom := fun p hp => xOA (q0 := (xAa N (d + 1)).c_spec_l11Args) (q1 := (xAa N (d + 1)).c_spec_l11Atom) (q2 := (xAa N (d + 1)).c_spec_l11Compare) (q3 := (xAa N (d + 1)).c_spec_l11Expr) (q4 := (xAa N (d + 1)).c_spec_l11Product) (q5 := (xAa N (d + 1)).c_spec_l11Sum) hp
   have p : FRs T L (n + 1) (xLg (xG2 (pE n) (n + 1)) (n + 1)) (xAa N (d + 3)).c_spec_l11Product := xSK (q0 := (xAa N (d + 2)).c_spec_l11Args) (q1 := (xAa N (d + 2)).c_spec_l11Atom) (q2 := (xAa N (d + 2)).c_spec_l11Compare) (q3 := (xAa N (d + 2)).c_spec_l11Expr) (q4 := (xAa N (d + 2)).c_spec_l11Product) (q5 := (xAa N (d + 2)).c_spec_l11Sum) hW hT hN2 (xId (xFT n) _) a ba (Nat.le_refl _)
   have bp : xGA (xAa N (d + 3)).c_spec_l11Product := xOI (q0 := (xAa N (d + 2)).c_spec_l11Args) (q1 := (xAa N (d + 2)).c_spec_l11Atom) (q2 := (xAa N (d + 2)).c_spec_l11Compare) (q3 := (xAa N (d + 2)).c_spec_l11Expr) (q4 := (xAa N (d + 2)).c_spec_l11Product) (q5 := (xAa N (d + 2)).c_spec_l11Sum) (by omega) ba
   have s : FRs T L (n + 1) (xLR (pE n) (n + 1)) (xAa N (d + 4)).c_spec_l11Sum := xWD (q0 := (xAa N (d + 3)).c_spec_l11Args) (q1 := (xAa N (d + 3)).c_spec_l11Atom) (q2 := (xAa N (d + 3)).c_spec_l11Compare) (q3 := (xAa N (d + 3)).c_spec_l11Expr) (q4 := (xAa N (d + 3)).c_spec_l11Product) (q5 := (xAa N (d + 3)).c_spec_l11Sum) hW hT hN2 (xKS (xId (xFT n) _) _) p bp (Nat.le_refl _)
   have bs : xGA (xAa N (d + 4)).c_spec_l11Sum := xQm (q0 := (xAa N (d + 3)).c_spec_l11Args) (q1 := (xAa N (d + 3)).c_spec_l11Atom) (q2 := (xAa N (d + 3)).c_spec_l11Compare) (q3 := (xAa N (d + 3)).c_spec_l11Expr) (q4 := (xAa N (d + 3)).c_spec_l11Product) (q5 := (xAa N (d + 3)).c_spec_l11Sum) (by omega) bp
   have c : FRs T L (n + 1) (pCmp (xLR (pE n) (n + 1))) (xAa N (d + 5)).c_spec_l11Compare := xWA (q0 := (xAa N (d + 4)).c_spec_l11Args) (q1 := (xAa N (d + 4)).c_spec_l11Atom) (q2 := (xAa N (d + 4)).c_spec_l11Compare) (q3 := (xAa N (d + 4)).c_spec_l11Expr) (q4 := (xAa N (d + 4)).c_spec_l11Product) (q5 := (xAa N (d + 4)).c_spec_l11Sum) hW hT (xKT (xFT n) _) s bs
   exact xQM (q0 := (xAa N (d + 5)).c_spec_l11Args) (q1 := (xAa N (d + 5)).c_spec_l11Atom) (q2 := (xAa N (d + 5)).c_spec_l11Compare) (q3 := (xAa N (d + 5)).c_spec_l11Expr) (q4 := (xAa N (d + 5)).c_spec_l11Product) (q5 := (xAa N (d + 5)).c_spec_l11Sum) hW hT hN (by omega) hK (xFT n) f5 b5 c
end Go.Ab
end
section
namespace Go.Ab
def xG7 (c : UInt8) : Bool := decide (97 ≤ c.toNat) && decide (c.toNat ≤ 122)
def xCP (c : UInt8) : Bool := decide (48 ≤ c.toNat) && decide (c.toNat ≤ 57)
def isWd (c : UInt8) : Bool := xG7 c || xCP c
def notQ (c : UInt8) : Bool := !(c.toNat == 34)
def xLp (c : UInt8) : Bool := decide (Lib.indexByte [40, 41, 91, 93, 44, 43, 45, 42, 60, 61] c ≥ 0)
def xIK (p : Int) : Str → Option (Tok × Str)
 | [] => none
 | c :: l =>
   bif xG7 c then (bif decide ((c :: l).length - ((c :: l).dropWhile isWd).length ≤ 8) then some (⟨1, 0, p, (c :: l).take ((c :: l).length - ((c :: l).dropWhile isWd).length)⟩, (c :: l).dropWhile isWd) else none)
   else bif xCP c then (bif (zHG ((c :: l).take ((c :: l).length - ((c :: l).dropWhile xCP).length)) 0 1000000000).2 then some (⟨2, (zHG ((c :: l).take ((c :: l).length - ((c :: l).dropWhile xCP).length)) 0 1000000000).1, p, []⟩, (c :: l).dropWhile xCP) else none)
   else bif c.toNat == 34 then (match l.dropWhile notQ with
    | [] => none
    | q :: r => bif xHV (l.take (l.length - (q :: r).length)) then some (⟨3, 0, p, l.take (l.length - (q :: r).length)⟩, r) else none)
   else bif Lib.hasPrefix (c :: l) [61, 61] then some (⟨4, 0, p, [61, 61]⟩, l.tail)
   else bif xLp c then some (⟨4, 0, p, [c]⟩, l) else none
theorem xDF (p : Int) (c : UInt8) (l : Str) : xIK p (c :: l) =
 bif xG7 c then (bif decide ((c :: l).length - ((c :: l).dropWhile isWd).length ≤ 8) then some (⟨1, 0, p, (c :: l).take ((c :: l).length - ((c :: l).dropWhile isWd).length)⟩, (c :: l).dropWhile isWd) else none)
 else bif xCP c then (bif (zHG ((c :: l).take ((c :: l).length - ((c :: l).dropWhile xCP).length)) 0 1000000000).2 then some (⟨2, (zHG ((c :: l).take ((c :: l).length - ((c :: l).dropWhile xCP).length)) 0 1000000000).1, p, []⟩, (c :: l).dropWhile xCP) else none)
 else bif c.toNat == 34 then (match l.dropWhile notQ with
  | [] => none
  | q :: r => bif xHV (l.take (l.length - (q :: r).length)) then some (⟨3, 0, p, l.take (l.length - (q :: r).length)⟩, r) else none)
 else bif Lib.hasPrefix (c :: l) [61, 61] then some (⟨4, 0, p, [61, 61]⟩, l.tail)
 else bif xLp c then some (⟨4, 0, p, [c]⟩, l) else none := rfl
def lexL : Nat → Int → List Tok → Str → List Tok × Int
 | 0, p, _, _ => ([], p)
 | _ + 1, _, acc, [] => (acc, -1)
 | n + 1, p, acc, c :: l => bif c.toNat == 32 then lexL n (p + 1) acc l else match xIK p (c :: l) with
   | none => ([], p)
   | some (t, r) => bif acc.length == 60 then ([], p) else lexL n (p + ((c :: l).length - r.length : Nat)) (acc ++ [t]) r
def lex (s : Str) : List Tok × Int := bif decide (s.length > 120) then ([], 120) else lexL (s.length + 1) 0 [] s
theorem xQ3 (x : UInt8) : decide (((x.toNat : Int) : Int) ≥ 97) = decide (97 ≤ x.toNat) := decide_eq_decide.2 (by omega)
theorem xOd (x : UInt8) : decide (((x.toNat : Int) : Int) ≤ 122) = decide (x.toNat ≤ 122) := decide_eq_decide.2 (by omega)
theorem xOQ (x : UInt8) : decide (((x.toNat : Int) : Int) ≥ 48) = decide (48 ≤ x.toNat) := decide_eq_decide.2 (by omega)
theorem xOR (x : UInt8) : decide (((x.toNat : Int) : Int) ≤ 57) = decide (x.toNat ≤ 57) := decide_eq_decide.2 (by omega)
theorem beqI (x k : Nat) : ((x : Int) == (k : Int)) = (x == k) := by
 by_cases h : x = k
 · rw [h]; simp
 · rw [beq_eq_false_iff_ne.2 h, beq_eq_false_iff_ne.2 (by omega)]
theorem xS2 (x : UInt8) : (((x.toNat : Int) : Int) == 34) = (x.toNat == 34) := beqI x.toNat 34
theorem vCx (x : UInt8) : (((x.toNat : Int) : Int) == 32) = (x.toNat == 32) := beqI x.toNat 32
theorem xFE {p : UInt8 → Bool} (l : Str) : (l.dropWhile p).length ≤ l.length := (List.dropWhile_suffix p).length_le
theorem xF8 {S : Str} {i : Nat} {x : UInt8} {l : Str} (h : S.drop i = x :: l) : S.length - (x :: l).length = i ∧ i + (x :: l).length = S.length := by
 have := congrArg List.length h
 obtain ⟨h1, _⟩ := xD2 h
 rw [List.length_drop] at this
 omega
theorem xKh {S s : Str} {i : Nat} (h : S.drop i = s) (hi : i ≤ S.length) {k : Nat} (hk : k ≤ s.length) : List.drop i (List.take (S.length - k) S) = s.take (s.length - k) := by
 subst h
 rw [List.drop_take, List.length_drop, show S.length - k - i = S.length - i - k from by omega]
section
variable {N : Nat} {S : Str}
theorem xSW (hS : S.length ≤ 1000) {i : Nat} (b4 : Tok) : ∀ n j, i ≤ j → j ≤ S.length → S.length < n + j → xCW N n S i (j : Nat) b4 =
 some (Tok.mk 1 0 i (List.drop i (List.take (S.length - ((S.drop j).dropWhile isWd).length) S)), ((S.length - ((S.drop j).dropWhile isWd).length : Nat) : Int), decide (S.length - ((S.drop j).dropWhile isWd).length - i ≤ 8)) := by
 intro n j hij hj hn
 refine xGQ (σ := Unit) (L := fun n j _ => xCW N n S i j b4) S (fun l _ => (Tok.mk 1 0 i (List.drop i (List.take (S.length - (l.dropWhile isWd).length) S)), ((S.length - (l.dropWhile isWd).length : Nat) : Int), decide (S.length - (l.dropWhile isWd).length - i ≤ 8)))
  (fun j _ => i ≤ j) (fun n _ hi => ?_) (fun j x l _ hd hj hx hi => ?_) n j () hij hj hn
 · have hi : i ≤ S.length := hi
   simp only [xCW, Int.lt_irrefl, decide_false, jF]
   rw [if_pos (by omega)]
   have e1 : IntKind.i64.wrap ((S.length : Int) - (i : Int)) = (S.length : Int) - i := xBw (by omega) (by omega)
   simp only [e1, List.dropWhile_nil, jN, Nat.sub_zero, Int.toNat_natCast]
   rw [decide_eq_decide.2 (by omega : (S.length : Int) - i ≤ 8 ↔ S.length - i ≤ 8)]
   rfl
 · have hi : i ≤ j := hi
   have hj' : (j : Int) < (S.length : Int) := by omega
   have hj2 : (0 : Int) ≤ (j : Int) ∧ (j : Int) < (S.length : Int) := ⟨by omega, hj'⟩
   have hj3 : (0 : Int) ≤ (i : Int) ∧ (i : Int) ≤ (j : Int) ∧ (j : Int) ≤ (S.length : Int) := by omega
   have e1 : IntKind.i64.wrap ((j : Int) - (i : Int)) = (j : Int) - i := xBw (by omega) (by omega)
   cases hw : isWd x
   · refine .inr fun n => ?_
     have e2 : (x :: l).dropWhile isWd = x :: l := by rw [List.dropWhile_cons]; simp [hw]
     have e3 := (xF8 hd).1
     have e4 : decide ((j : Int) - i ≤ 8) = decide (j - i ≤ 8) := decide_eq_decide.2 (by omega)
     simp only [xCW, decide_eq_true hj', jT, if_pos hj2, if_pos hj3, Int.toNat_natCast, xCK hx, xQ3, xOd, xOQ, xOR, e1, e2, e3, e4]
     unfold isWd xG7 xCP at hw
     revert hw
     cases decide (97 ≤ x.toNat) <;> cases decide (x.toNat ≤ 122) <;> cases decide (48 ≤ x.toNat) <;> cases decide (x.toNat ≤ 57) <;> intro hw <;> first | rfl | (simp at hw; done)
   · refine .inl ⟨(), by omega, ?_, fun n => ?_⟩
     · have e2 : (x :: l).dropWhile isWd = l.dropWhile isWd := by rw [List.dropWhile_cons]; simp [hw]
       rw [e2]
     · simp only [xCW, decide_eq_true hj', jT, if_pos hj2, if_pos hj3, Int.toNat_natCast, xCK hx, xQ3, xOd, xOQ, xOR, xBI hj (by omega : S.length ≤ _)]
       unfold isWd xG7 xCP at hw
       revert hw
       cases decide (97 ≤ x.toNat) <;> cases decide (x.toNat ≤ 122) <;> cases decide (48 ≤ x.toNat) <;> cases decide (x.toNat ≤ 57) <;> intro hw <;> first | rfl | (simp at hw; done)
theorem xOx {w : Str} (h : w.length ≤ 1000) : xH1 N w 0 1000000000 = some (zHG w 0 1000000000) := by
 unfold xH1 zEp
 rw [if_pos (by omega)]
def numG (S : Str) (i : Nat) (l : Str) : Int × Bool := zHG (List.drop i (List.take (S.length - (l.dropWhile xCP).length) S)) 0 1000000000
theorem xTj (hS : S.length ≤ 1000) {i : Nat} (b4 : Tok) : ∀ n j, i ≤ j → j ≤ S.length → S.length < n + j → xDn N n S i (j : Nat) b4 =
 some (Tok.mk 2 (numG S i (S.drop j)).1 i [], ((S.length - ((S.drop j).dropWhile xCP).length : Nat) : Int), (numG S i (S.drop j)).2) := by
 intro n j hij hj hn
 refine xGQ (σ := Unit) (L := fun n j _ => xDn N n S i j b4) S (fun l _ => (Tok.mk 2 (numG S i l).1 i [], ((S.length - (l.dropWhile xCP).length : Nat) : Int), (numG S i l).2))
  (fun j _ => i ≤ j) (fun n _ hi => ?_) (fun j x l _ hd hj hx hi => ?_) n j () hij hj hn
 · have hi : i ≤ S.length := hi
   simp only [xDn, Int.lt_irrefl, decide_false, jF]
   rw [if_pos (by omega)]
   simp only [Int.toNat_natCast]
   rw [xOx (by rw [List.length_drop, List.length_take]; omega)]
   simp only [jS, numG, List.dropWhile_nil, jN, Nat.sub_zero]
 · have hi : i ≤ j := hi
   have hj' : (j : Int) < (S.length : Int) := by omega
   have hj2 : (0 : Int) ≤ (j : Int) ∧ (j : Int) < (S.length : Int) := ⟨by omega, hj'⟩
   have hj3 : (0 : Int) ≤ (i : Int) ∧ (i : Int) ≤ (j : Int) ∧ (j : Int) ≤ (S.length : Int) := by omega
   cases hw : xCP x
   · refine .inr fun n => ?_
     have e2 : (x :: l).dropWhile xCP = x :: l := by rw [List.dropWhile_cons]; simp [hw]
     have e3 := (xF8 hd).1
     simp only [xDn, decide_eq_true hj', jT, if_pos hj2, if_pos hj3, Int.toNat_natCast, xCK hx, xOQ, xOR, numG, e2, e3]
     rw [xOx (by rw [List.length_drop, List.length_take]; omega)]
     simp only [jS]
     unfold xCP at hw
     revert hw
     cases decide (48 ≤ x.toNat) <;> cases decide (x.toNat ≤ 57) <;> intro hw <;> first | rfl | (simp at hw; done)
   · refine .inl ⟨(), by omega, ?_, fun n => ?_⟩
     · have e2 : (x :: l).dropWhile xCP = l.dropWhile xCP := by rw [List.dropWhile_cons]; simp [hw]
       simp only [numG, e2]
     · simp only [xDn, decide_eq_true hj', jT, if_pos hj2, if_pos hj3, Int.toNat_natCast, xCK hx, xOQ, xOR, xBI hj (by omega : S.length ≤ _)]
       unfold xCP at hw
       revert hw
       cases decide (48 ≤ x.toNat) <;> cases decide (x.toNat ≤ 57) <;> intro hw <;> first | rfl | (simp at hw; done)
theorem xN2 (c : UInt8) (k : UInt8) : (c == k) = (c.toNat == k.toNat) := by
 by_cases h : c = k
 · subst h; simp
 · rw [beq_eq_false_iff_ne.2 h, beq_eq_false_iff_ne.2 (fun e => h (UInt8.toNat_inj.1 e))]
theorem xRe : ∀ l : Str, Lib.indexByte l 34 = (match l.dropWhile notQ with
 | [] => -1
 | q :: r => ((l.length - (q :: r).length : Nat) : Int))
 | [] => rfl
 | x :: l => by
   have ih := xRe l
   unfold Lib.indexByte
   rw [xN2 x 34, List.dropWhile_cons]
   unfold notQ at ih ⊢
   show (if (x.toNat == 34) = true then _ else _) = _
   cases h : x.toNat == 34
   · simp only [Bool.not_false, if_true]
     have hd := xFE (p := fun c => !(c.toNat == 34)) l
     cases he : List.dropWhile (fun c => !(c.toNat == 34)) l with
     | nil => rw [he] at ih; simp only at ih; rw [ih]; rfl
     | cons q r =>
       rw [he] at ih hd
       simp only at ih
       simp only [jC] at hd ih ⊢
       rw [ih]
       have e : (((l.length - (r.length + 1) : Nat) : Int) == -1) = false := beq_eq_false_iff_ne.2 (by omega)
       rw [e]
       simp only [Bool.false_eq_true, if_false]
       omega
   · simp
def LxP (S : Str) (o : Option (Tok × Str)) (x : Tok × Int × Bool) : Prop := match o with
 | some (t, r) => x = (t, ((S.length - r.length : Nat) : Int), true)
 | none => x.2.2 = false
theorem xWy (hS : S.length ≤ 1000) (hN : 1000 < N) {i : Nat} {c : UInt8} {l : Str} (hd : S.drop i = c :: l) (h34 : (c.toNat == 34) = true) (hL : xG7 c = false) (hD : xCP c = false) : ∃ x, (
         if (0 : Int) ≤ (IntKind.i64.wrap ((i : Int) + 1)) ∧ (IntKind.i64.wrap ((i : Int) + 1)) ≤ (List.length S) then
         Option.bind (strings_IndexByte N (List.drop (Int.toNat (IntKind.i64.wrap ((i : Int) + 1))) S) 34) fun r1 =>
         bif (decide ((r1 : Int) < 0)) then (
          some ((Tok.mk 0 0 0 []), 0, false)
         ) else (
           if (0 : Int) ≤ (IntKind.i64.wrap ((i : Int) + 1)) ∧ (IntKind.i64.wrap ((i : Int) + 1)) ≤ (IntKind.i64.wrap ((IntKind.i64.wrap ((i : Int) + 1)) + r1)) ∧ (IntKind.i64.wrap ((IntKind.i64.wrap ((i : Int) + 1)) + r1)) ≤ (List.length S) then
           Option.bind (xDx N (List.drop (Int.toNat (IntKind.i64.wrap ((i : Int) + 1))) (List.take (Int.toNat (IntKind.i64.wrap ((IntKind.i64.wrap ((i : Int) + 1)) + r1))) S))) fun r2 =>
           some ((Tok.mk 3 0 i (List.drop (Int.toNat (IntKind.i64.wrap ((i : Int) + 1))) (List.take (Int.toNat (IntKind.i64.wrap ((IntKind.i64.wrap ((i : Int) + 1)) + r1))) S))), (IntKind.i64.wrap ((IntKind.i64.wrap ((i : Int) + r1)) + 2)), r2)
           else none
         )
         else none) = some x ∧ LxP S (xIK i (c :: l)) x := by
 obtain ⟨e1, e2⟩ := xF8 hd
 obtain ⟨hi, _, hd1⟩ := xD2 hd
 simp only [jC] at e2
 have w1 : IntKind.i64.wrap ((i : Int) + 1) = ((i + 1 : Nat) : Int) := xBI hi (by omega)
 simp only [w1, Int.toNat_natCast, hd1]
 rw [if_pos (by omega)]
 unfold strings_IndexByte zFI
 rw [show ((34 : Int).toNat.toUInt8) = 34 from rfl, xRe, jS]
 rw [xDF, hL, hD, h34]
 simp only [jF, jT]
 have hq := xFE (p := notQ) l
 cases he : l.dropWhile notQ with
 | nil => exact ⟨_, rfl, rfl⟩
 | cons q r =>
   rw [he] at hq
   simp only [jC] at hq ⊢
   have w2 : IntKind.i64.wrap (((i + 1 : Nat) : Int) + ((l.length - (r.length + 1) : Nat) : Int)) = ((i + 1 + (l.length - (r.length + 1)) : Nat) : Int) := by rw [xBw (by omega) (by omega)]; omega
   have w3 : IntKind.i64.wrap ((i : Int) + ((l.length - (r.length + 1) : Nat) : Int)) = ((i + (l.length - (r.length + 1)) : Nat) : Int) := by rw [xBw (by omega) (by omega)]; omega
   have w4 : IntKind.i64.wrap (((i + (l.length - (r.length + 1)) : Nat) : Int) + 2) = ((S.length - r.length : Nat) : Int) := by rw [xBw (by omega) (by omega)]; omega
   have w5 : List.drop (i + 1) (List.take (i + 1 + (l.length - (r.length + 1))) S) = l.take (l.length - (r.length + 1)) := by
    rw [List.drop_take, hd1, show i + 1 + (l.length - (r.length + 1)) - (i + 1) = l.length - (r.length + 1) from by omega]
   rw [decide_eq_false (by omega), jF]
   simp only [w2, w3, w4, Int.toNat_natCast, w5]
   rw [if_pos (by omega)]
   have ht : (l.take (l.length - (r.length + 1))).length ≤ 1000 := by rw [List.length_take]; omega
   rw [xH4 (N := N) (s := l.take (l.length - (r.length + 1))) (by omega) (by omega), jS]
   refine ⟨_, rfl, ?_⟩
   cases xHV (l.take (l.length - (r.length + 1)))
   · rfl
   · rfl
theorem vDE (hS : S.length ≤ 1000) (hN : 1000 < N) {i : Nat} {c : UInt8} {l : Str} (hd : S.drop i = c :: l) (h34 : (c.toNat == 34) = false) (hL : xG7 c = false) (hD : xCP c = false) : ∃ x, (
         if (0 : Int) ≤ (i : Int) ∧ (i : Int) ≤ (List.length S) then
         Option.bind (strings_HasPrefix N (List.drop (Int.toNat (i : Int)) S) [61, 61]) fun r1 =>
         bif r1 then (
          some ((Tok.mk 4 0 i [61, 61]), (IntKind.i64.wrap ((i : Int) + 2)), true)
         ) else (
           if (0 : Int) ≤ (i : Int) ∧ (i : Int) ≤ (IntKind.i64.wrap ((i : Int) + 1)) ∧ (IntKind.i64.wrap ((i : Int) + 1)) ≤ (List.length S) then
           Option.bind (strings_IndexByte N [40, 41, 91, 93, 44, 43, 45, 42, 60, 61] ((List.getD S (Int.toNat (i : Int)) 0).toNat : Int)) fun r2 =>
           some ((Tok.mk 4 0 i (List.drop (Int.toNat (i : Int)) (List.take (Int.toNat (IntKind.i64.wrap ((i : Int) + 1))) S))), (IntKind.i64.wrap ((i : Int) + 1)), (decide ((r2 : Int) ≥ 0)))
           else none
         )
         else none) = some x ∧ LxP S (xIK i (c :: l)) x := by
 obtain ⟨e1, e2⟩ := xF8 hd
 obtain ⟨hi, hx, hd1⟩ := xD2 hd
 simp only [jC] at e2
 have w1 : IntKind.i64.wrap ((i : Int) + 1) = ((i + 1 : Nat) : Int) := xBI hi (by omega)
 simp only [w1, Int.toNat_natCast, hd, xCK hx]
 rw [if_pos (by omega)]
 unfold strings_HasPrefix zFH
 rw [jS, xDF, hL, hD, h34]
 simp only [jF]
 cases hp : Lib.hasPrefix (c :: l) [61, 61]
 · simp only [jF]
   rw [if_pos (by omega)]
   unfold strings_IndexByte zFI
   rw [jS]
   have ec : ((c.toNat : Int)).toNat.toUInt8 = c := by simp
   have w5 : List.drop i (List.take (i + 1) S) = [c] := by
    rw [List.drop_take, hd, show i + 1 - i = 1 from by omega]; rfl
   rw [ec, w5]
   refine ⟨_, rfl, ?_⟩
   unfold xLp
   cases decide (Lib.indexByte [40, 41, 91, 93, 44, 43, 45, 42, 60, 61] c ≥ 0)
   · rfl
   · show (_, _, _) = (_, _, _)
     rw [show i + 1 = S.length - l.length from by omega]
 · simp only [jT]
   refine ⟨_, rfl, ?_⟩
   have h2 : l.tail.length + 1 = l.length := by
    cases l with
    | nil => simp [Lib.hasPrefix, List.isPrefixOf] at hp
    | cons a b => rfl
   have w2 : IntKind.i64.wrap ((i : Int) + 2) = ((S.length - l.tail.length : Nat) : Int) := by rw [xBw (by omega) (by omega)]; omega
   show (_, _, _) = (_, _, _)
   rw [w2]
theorem xQP (hS : S.length ≤ 1000) (hN : 1000 < N) {i : Nat} {c : UInt8} {l : Str} (hd : S.drop i = c :: l) : ∃ x, xHG N S i = some x ∧ LxP S (xIK i (c :: l)) x := by
 obtain ⟨e1, e2⟩ := xF8 hd
 obtain ⟨hi, hx, hd1⟩ := xD2 hd
 have hQ := fun a b e => xWy (N := N) hS hN hd a b e
 have hY := fun a b e => vDE (N := N) hS hN hd a b e
 have word : xG7 c = true → ∃ x, xCW N N S i i (Tok.mk 0 0 0 []) = some x ∧ LxP S (xIK i (c :: l)) x := fun hl => by
  refine ⟨_, xSW hS _ N i (Nat.le_refl _) (by omega) (by omega), ?_⟩
  rw [hd]
  rw [xDF, hl, jT]
  have hq := xFE (p := isWd) (c :: l)
  rw [xKh hd (by omega) hq, show S.length - ((c :: l).dropWhile isWd).length - i = (c :: l).length - ((c :: l).dropWhile isWd).length from by omega]
  cases decide ((c :: l).length - ((c :: l).dropWhile isWd).length ≤ 8) <;> rfl
 have numb : xG7 c = false → xCP c = true → ∃ x, xDn N N S i i (Tok.mk 0 0 0 []) = some x ∧ LxP S (xIK i (c :: l)) x := fun hl hg => by
  refine ⟨_, xTj hS _ N i (Nat.le_refl _) (by omega) (by omega), ?_⟩
  have hq := xFE (p := xCP) (c :: l)
  rw [hd]
  unfold numG
  rw [xDF, hl, hg, jT, jF, xKh hd (by omega) hq]
  cases hb : (zHG ((c :: l).take ((c :: l).length - ((c :: l).dropWhile xCP).length)) 0 1000000000).2 <;> rfl
 unfold xHG
 rw [if_pos (by omega)]
 simp only [Int.toNat_natCast, xCK hx, xQ3, xOd, xOQ, xOR, xS2] at hQ hY ⊢
 simp only [xG7, xCP] at hQ hY word numb
 generalize decide (97 ≤ c.toNat) = A at *
 generalize decide (c.toNat ≤ 122) = B at *
 generalize decide (48 ≤ c.toNat) = C at *
 generalize decide (c.toNat ≤ 57) = D at *
 generalize (c.toNat == 34) = E at *
 cases A <;> cases B <;> cases C <;> cases D <;>
  first
  | exact word rfl
  | exact numb rfl rfl
  | (cases E
     · exact hY rfl rfl rfl
     · exact hQ rfl rfl rfl)
theorem xKA {α : Type} {b : Bool} {x y : α} (h : (bif b then some x else none) = some y) : b = true ∧ x = y := by cases b <;> cases h; exact ⟨rfl, rfl⟩
theorem xLb {p : Int} {s r : Str} {t : Tok} (h : xIK p s = some (t, r)) : r.length < s.length := by
 cases s with
 | nil => cases h
 | cons c l =>
   have d1 := xFE (p := isWd) l
   have d2 := xFE (p := xCP) l
   have d3 := xFE (p := notQ) l
   rw [xDF] at h
   cases h1 : xG7 c <;> rw [h1] at h
   · cases h2 : xCP c <;> rw [h2] at h
     · cases h3 : c.toNat == 34 <;> rw [h3] at h
       · cases h4 : Lib.hasPrefix (c :: l) [61, 61] <;> rw [h4] at h
         · cases h5 : xLp c <;> rw [h5] at h
           · cases h
           · cases h; simp
         · cases h; simp; omega
       · simp only [jT, jF] at h
         split at h
         · cases h
         · rename_i q r' he
           rw [he] at d3
           simp only [jC] at d3 ⊢
           obtain ⟨hb, hx⟩ := xKA h
           cases hx; omega
     · simp only [jT, jF] at h
       obtain ⟨hb, hx⟩ := xKA h
       cases hx
       rw [List.dropWhile_cons]; simp only [h2, if_true, jC]; omega
   · simp only [jT] at h
     obtain ⟨hb, hx⟩ := xKA h
     · cases hx
       have : isWd c = true := by unfold isWd; rw [h1]; rfl
       rw [List.dropWhile_cons]; simp only [this, if_true, jC]; omega
theorem xOi {p : Int} {s r : Str} {t : Tok} (h : xIK p s = some (t, r)) : r <:+ s := by
 cases s with
 | nil => cases h
 | cons c l =>
   rw [xDF] at h
   cases h1 : xG7 c <;> rw [h1] at h
   · cases h2 : xCP c <;> rw [h2] at h
     · cases h3 : c.toNat == 34 <;> rw [h3] at h
       · cases h4 : Lib.hasPrefix (c :: l) [61, 61] <;> rw [h4] at h
         · cases h5 : xLp c <;> rw [h5] at h
           · cases h
           · cases h; exact List.suffix_cons _ _
         · cases h; exact (List.tail_suffix _).trans (List.suffix_cons _ _)
       · simp only [jT, jF] at h
         split at h
         · cases h
         · rename_i q r' he
           have hs : q :: r' <:+ l := by rw [← he]; exact List.dropWhile_suffix _
           obtain ⟨hb, hx⟩ := xKA h
           cases hx; exact ((List.suffix_cons _ _).trans hs).trans (List.suffix_cons _ _)
     · simp only [jT, jF] at h
       obtain ⟨hb, hx⟩ := xKA h
       cases hx
       exact List.dropWhile_suffix _
   · simp only [jT] at h
     obtain ⟨hb, hx⟩ := xKA h
     cases hx
     exact List.dropWhile_suffix _
theorem xPO {r : Str} (h : r <:+ S) : S.drop (S.length - r.length) = r := by
 obtain ⟨a, rfl⟩ := h
 rw [jA, show a.length + r.length - r.length = a.length from by omega, List.drop_left]
theorem vCu (hS : S.length ≤ 120) (hN : 1000 < N) : ∀ (m n i : Nat) (acc : List Tok), i ≤ S.length → S.length - i < m → S.length - i < n → acc.length ≤ 60 → xEA N n S acc (i : Nat) = some (lexL m (i : Nat) acc (S.drop i)) := by
 intro m
 induction m with
 | zero => intro n i acc _ h; omega
 | succ m ih =>
   intro n i acc hi hm hn ha
   obtain ⟨n, rfl⟩ : ∃ k, n = k + 1 := ⟨n - 1, by omega⟩
   cases hd : S.drop i with
   | nil =>
     have := xIs hd
     obtain rfl : i = S.length := by omega
     simp only [xEA, Int.lt_irrefl, decide_false, jF, lexL]
   | cons c l =>
     obtain ⟨h1, hx, hd1⟩ := xD2 hd
     have hi' : (i : Int) < (S.length : Int) := by omega
     simp only [xEA, decide_eq_true hi', jT, Int.toNat_natCast, xCK hx, vCx, lexL, xBI h1 (by omega : S.length ≤ _)]
     rw [if_pos (by omega)]
     cases h32 : c.toNat == 32
     · simp only [jF]
       obtain ⟨x, hx1, hx2⟩ := xQP (N := N) (S := S) (by omega) hN hd
       rw [hx1, jS]
       cases ho : xIK i (c :: l) with
       | none =>
         rw [ho] at hx2
         have hx2 : x.2.2 = false := hx2
         simp only [hx2, Bool.not_false, jT]
       | some z =>
         obtain ⟨t, r⟩ := z
         rw [ho] at hx2
         have hx2 : x = (t, ((S.length - r.length : Nat) : Int), true) := hx2
         subst hx2
         have hl := xLb ho
         have hs : r <:+ S := by
          have : c :: l <:+ S := by rw [← hd]; exact List.drop_suffix _ _
          exact (xOi ho).trans this
         have hrl := hs.length_le
         obtain ⟨g1, g2⟩ := xF8 hd
         simp only [Bool.not_true, jF]
         have e60 : (((acc.length : Int) : Int) == 60) = (acc.length == 60) := beqI acc.length 60
         rw [e60]
         cases h60 : acc.length == 60
         · have h60 : acc.length ≠ 60 := beq_eq_false_iff_ne.1 h60
           simp only [jF]
           rw [if_pos (by simp only [jC, jN]; unfold Lim; omega)]
           rw [ih n (S.length - r.length) (acc ++ [t]) (by omega) (by omega) (by omega) (by simp only [jA, jC, jN]; omega), xPO hs]
           rw [show ((S.length - r.length : Nat) : Int) = (i : Int) + ((c :: l).length - r.length : Nat) from by omega]
         · rfl
     · simp only [jT]
       rw [ih n (i + 1) acc (by omega) (by omega) (by omega) ha, hd1]
       rfl
theorem xL8 (hN : 1000 < N) (s : Str) : xGt N s = some (lex s) := by
 unfold xGt lex
 have e : decide (((s.length : Int) : Int) > 120) = decide (s.length > 120) := decide_eq_decide.2 (by omega)
 rw [e]
 cases h : decide (s.length > 120)
 · have h := of_decide_eq_false h
   simp only [jF]
   exact vCu (S := s) (by omega) hN (s.length + 1) N 0 [] (by omega) (by omega) (by omega) (by simp)
 · rfl
end
end Go.Ab
end
section
namespace Go.Ab
def valD (acc : Nat) : Str → Nat
 | [] => acc
 | c :: r => valD (acc * 10 + (c.toNat - 48)) r
theorem xPH : ∀ (l : Str) (acc : Nat), acc ≤ valD acc l
 | [], acc => Nat.le_refl _
 | c :: r, acc => Nat.le_trans (by omega) (xPH r _)
theorem xMQ : ∀ (a b : Str) (acc : Nat), valD acc (a ++ b) = valD (valD acc a) b
 | [], b, acc => rfl
 | c :: r, b, acc => xMQ r b _
theorem xHH {c : UInt8} : xCP c = true ↔ 48 ≤ c.toNat ∧ c.toNat ≤ 57 := by unfold xCP; rw [Bool.and_eq_true, decide_eq_true_eq, decide_eq_true_eq]
theorem xQh : ∀ (l : Str) (acc : Nat), l.all xCP = true → valD acc l < 1844674407370955162 → Lib.parseUint10 acc l = .ok (valD acc l)
 | [], acc, _, _ => rfl
 | c :: r, acc, hl, hv => by
   rw [List.all_cons, Bool.and_eq_true] at hl
   have hc := xHH.1 hl.1
   have h1 := xPH r (acc * 10 + (c.toNat - 48))
   have hv' : valD (acc * 10 + (c.toNat - 48)) r < 1844674407370955162 := hv
   show (if 48 ≤ c.toNat ∧ c.toNat ≤ 57 then _ else _) = _
   rw [if_pos hc, if_neg (by omega), if_neg (by omega)]
   exact xQh r _ hl.2 hv'
theorem xS6 (k : Nat) (h : k < 10) : (UInt8.ofNat (48 + k)).toNat = 48 + k := by
 rw [UInt8.toNat_ofNat']; omega
theorem xS5 : ∀ n : Nat, (dd n).all xCP = true ∧ valD 0 (dd n) = n := by
 intro n
 induction n using Nat.strongRecOn with
 | _ n ih =>
   by_cases h : n = 0
   · subst h; exact ⟨rfl, rfl⟩
   · obtain ⟨h1, h2⟩ := ih (n / 10) (by omega)
     have hd := xS6 (n % 10) (by omega)
     rw [xOO h, List.all_append, h1, xMQ, h2]
     refine ⟨?_, ?_⟩
     · simp only [List.all_cons, List.all_nil, Bool.and_true, Bool.true_and]
       exact xHH.2 (by omega)
     · show n / 10 * 10 + ((UInt8.ofNat (48 + n % 10)).toNat - 48) = n
       rw [hd]; omega
theorem xLv {v : Nat} (h : v ≤ 1000000000) : (Lib.itoa v).all xCP = true ∧ valD 0 (Lib.itoa v) = v ∧ (Lib.itoa v).length ≤ 10 ∧ Lib.itoa v ≠ [] := by
 by_cases h0 : v = 0
 · subst h0
   have e : Lib.itoa ((0 : Nat) : Int) = [48] := by
    show Lib.decDigits 0 = [48]
    rw [Lib.decDigits, dif_pos (by omega)]; rfl
   rw [e]; exact ⟨rfl, rfl, by decide, by decide⟩
 · have e : Lib.itoa (v : Int) = dd v := by
    rw [xOX (by omega), decide_eq_false (by omega)]; rfl
   obtain ⟨h1, h2⟩ := xS5 v
   rw [e]
   refine ⟨h1, h2, xWK 10 v (by omega), fun he => ?_⟩
   rw [he] at h2
   exact h0 h2.symm
theorem xS0 {w : Str} (h1 : w.all xCP = true) (h2 : w ≠ []) (h3 : valD 0 w < 1844674407370955162) : Lib.atoiAll w = .ok (valD 0 w) := by
 cases w with
 | nil => exact absurd rfl h2
 | cons c r =>
   have hc := h1
   rw [List.all_cons, Bool.and_eq_true] at hc
   have hc := xHH.1 hc.1
   unfold Lib.atoiAll
   have e1 : ¬ (c.toNat = 43 ∨ c.toNat = 45) := by omega
   have e2 : ¬ c.toNat = 45 := by omega
   simp only [if_neg e1]
   unfold Lib.parseMag
   rw [if_neg h2, xQh _ 0 h1 h3]
   simp only [e2, not_false_eq_true, true_and, false_and, if_false]
   rw [if_neg (by omega)]
theorem xKk {v : Nat} (h : v ≤ 1000000000) : zHG (Lib.itoa v) 0 1000000000 = ((v : Int), true) := by
 obtain ⟨h1, h2, h3, h4⟩ := xLv h
 unfold zHG
 rw [xS0 h1 h4 (by rw [h2]; omega), h2]
 simp only
 rw [if_neg (by omega), if_neg (by omega)]
 first
 | exact if_pos rfl
 | exact if_pos trivial
theorem xOm {w : Str} (h : (zHG w 0 1000000000).2 = true) : ∃ v : Nat, v ≤ 1000000000 ∧ w = Lib.itoa v := by
 unfold zHG at h
 split at h
 · rename_i v hv
   split at h
   · cases h
   · split at h
     · cases h
     · split at h
       · rename_i h1 h2 h3
         exact ⟨v.toNat, by omega, by rw [show ((v.toNat : Nat) : Int) = v from by omega, h3]⟩
       · cases h
 · cases h
section
variable {N : Nat}
theorem u8d {c : UInt8} (h : xCP c = true) : IntKind.i64.wrap (IntKind.u8.wrap ((c.toNat : Int) - 48)) = ((c.toNat - 48 : Nat) : Int) := by
 have := xHH.1 h
 rw [xPI (by omega) (by omega), xBw (by omega) (by omega)]; omega
theorem xOz (w : Str) (hw : w.all xCP = true) (hl : w.length ≤ 12) (hN : 100 < N) : ∀ n, w.length < n → xDJ N n w false w 0 0 =
 (bif !(Lib.itoa ((valD 0 w : Nat) : Int) == w) then some (0, false) else some (((valD 0 w : Nat) : Int), true)) := by
 intro n hn
 have big : ∀ (l : Str) (acc k : Nat), l.all xCP = true → acc < 10 ^ k → valD acc l < 10 ^ (k + l.length) := by
  intro l
  induction l with
  | nil => intro acc k _ h; exact h
  | cons c r ih =>
    intro acc k hl h
    rw [List.all_cons, Bool.and_eq_true] at hl
    have hc := xHH.1 hl.1
    have := ih (acc * 10 + (c.toNat - 48)) (k + 1) hl.2 (by rw [Nat.pow_succ]; omega)
    show valD (acc * 10 + (c.toNat - 48)) r < _
    rw [jC, show k + (r.length + 1) = k + 1 + r.length from by omega]
    exact this
 have hb := big w 0 0 hw (by decide)
 have hb2 : valD 0 w < 10 ^ 12 := Nat.lt_of_lt_of_le hb (Nat.pow_le_pow_right (by omega) (by omega))
 have e12 : (10 : Nat) ^ 12 = 1000000000000 := by decide
 have key : ∀ n j (acc : Nat), j ≤ w.length → w.length < n + j → valD acc (w.drop j) = valD 0 w → xDJ N n w false w (acc : Int) (j : Nat) =
  (bif !(Lib.itoa ((valD 0 w : Nat) : Int) == w) then some (0, false) else some (((valD 0 w : Nat) : Int), true)) := by
  intro n
  induction n with
  | zero => intro j acc h1 h2; omega
  | succ n ih =>
    intro j acc h1 h2 h3
    cases hd : w.drop j with
    | nil =>
      have := xIs hd
      obtain rfl : j = w.length := by omega
      rw [hd] at h3
      have h3 : acc = valD 0 w := h3
      simp only [xDJ, Int.lt_irrefl, decide_false, jF]
      rw [xI4 hN (by omega), jS, h3]
    | cons c r =>
      obtain ⟨g1, g2, g3⟩ := xD2 hd
      have hc : xCP c = true := List.all_eq_true.1 hw c (List.mem_of_getElem? g2)
      have hc' := xHH.1 hc
      rw [hd] at h3
      have h3 : valD (acc * 10 + (c.toNat - 48)) r = valD 0 w := h3
      have h4 := xPH r (acc * 10 + (c.toNat - 48))
      have hj' : (j : Int) < (w.length : Int) := by omega
      have e1 : IntKind.i64.wrap (10 * (acc : Int)) = 10 * (acc : Int) := xBw (by omega) (by omega)
      have e2 : IntKind.i64.wrap (10 * (acc : Int) + ((c.toNat - 48 : Nat) : Int)) = ((acc * 10 + (c.toNat - 48) : Nat) : Int) := by rw [xBw (by omega) (by omega)]; omega
      simp only [xDJ, decide_eq_true hj', jT, Int.toNat_natCast, xCK g2, u8d hc, e1, e2, xBI g1 (by omega : w.length ≤ _)]
      rw [if_pos (by omega), decide_eq_false (by omega), jF, decide_eq_false (by omega), jF]
      exact ih (j + 1) _ (by omega) (by omega) (by rw [g3]; exact h3)
 exact key n 0 0 (by omega) (by omega) rfl
theorem xMa {w : Str} (hw : w.all xCP = true) (hne : w ≠ []) (hl : w.length ≤ 1000) (hN : 1000 < N) : ∃ n ok, xFV N w = some (n, ok) ∧
 (ok && !decide (n > 1000000000)) = (zHG w 0 1000000000).2 ∧ ((zHG w 0 1000000000).2 = true → n = (zHG w 0 1000000000).1) := by
 obtain ⟨c, r, rfl⟩ : ∃ c r, w = c :: r := by
  cases w with
  | nil => exact absurd rfl hne
  | cons c r => exact ⟨c, r, rfl⟩
 have hc := hw
 rw [List.all_cons, Bool.and_eq_true] at hc
 have hc' := xHH.1 hc.1
 have hlen : (c :: r).length = r.length + 1 := rfl
 have e45 : (((c.toNat : Int) : Int) == 45) = false := beq_eq_false_iff_ne.2 (by omega)
 have hr : xIl N (c :: r) 12 = (bif decide ((((c :: r).length : Int) : Int) > 12) then some (0, false) else xDJ N N (c :: r) false (c :: r) 0 0) := by
  unfold xIl
  rw [decide_eq_true (by omega : (((c :: r).length : Int) : Int) > 0), jT, if_pos (by omega)]
  simp only [Int.toNat_zero, List.getD_cons_zero, e45, jF]
  rw [decide_eq_false (by omega : ¬ (((c :: r).length : Int) : Int) < 1), jF]
 unfold xFV
 rw [hr]
 by_cases hcan : (zHG (c :: r) 0 1000000000).2 = true
 · obtain ⟨v, hv, he⟩ := xOm hcan
   obtain ⟨p1, p2, p3, p4⟩ := xLv hv
   rw [← he] at p2 p3
   rw [decide_eq_false (by omega), jF, xOz _ hw (by omega) (by omega) N (by omega), p2, ← he]
   simp only [beq_self_eq_true, Bool.not_true, jF, jS]
   have hn : zHG (c :: r) 0 1000000000 = ((v : Int), true) := by rw [he]; exact xKk hv
   refine ⟨(v : Int), true, rfl, ?_, fun _ => by rw [hn]⟩
   rw [hn, decide_eq_false (by omega)]; rfl
 · have hcan : (zHG (c :: r) 0 1000000000).2 = false := by simpa using hcan
   rw [hcan]
   cases h12 : decide ((((c :: r).length : Int) : Int) > 12)
   · have h12 := of_decide_eq_false h12
     rw [jF, xOz _ hw (by omega) (by omega) N (by omega)]
     cases hi : Lib.itoa ((valD 0 (c :: r) : Nat) : Int) == c :: r
     · exact ⟨0, false, rfl, rfl, fun h => by cases h⟩
     · have hi := beq_iff_eq.1 hi
       have hbig : ¬ valD 0 (c :: r) ≤ 1000000000 := fun h => by
        have := xKk h
        rw [hi] at this
        rw [this] at hcan
        cases hcan
       exact ⟨_, true, rfl, by rw [decide_eq_true (by omega)]; rfl, fun h => by cases h⟩
   · exact ⟨0, false, rfl, rfl, fun h => by cases h⟩
theorem xMq (c : UInt8) : xGy N (c.toNat : Int) = some (xG7 c) := by
 unfold xGy xG7
 rw [xQ3, xOd]
 cases decide (97 ≤ c.toNat) <;> rfl
theorem xK3 (c : UInt8) : xGp N (c.toNat : Int) = some (xCP c) := by
 unfold xGp xCP
 rw [xOQ, xOR]
 cases decide (48 ≤ c.toNat) <;> rfl
variable {S : Str}
def xQQ (S : Str) (i : Nat) (n6 p6 : Int) (l : Str) (p : UInt8 → Bool) : Tok × Int :=
 bif decide (S.length - (l.dropWhile p).length - i > 8) then (Tok.mk 1 n6 p6 (List.drop i (List.take (S.length - (l.dropWhile p).length) S)), 0) else (Tok.mk 1 n6 p6 (List.drop i (List.take (S.length - (l.dropWhile p).length) S)), ((S.length - (l.dropWhile p).length - i : Nat) : Int))
theorem xQO (hS : S.length ≤ 1000) {i : Nat} (b4 b6 : Tok) : ∀ n j, i ≤ j → j ≤ S.length → S.length < n + j → xEl N n S i (j : Nat) b4 b6 = some (xQQ S i b6.n b6.pos (S.drop j) isWd) := by
 intro n j hij hj hn
 have fin : ∀ j : Nat, i ≤ j → j ≤ S.length → (bif (decide (((IntKind.i64.wrap ((j : Int) - (i : Int))) : Int) > 8)) then (
       some ((Tok.mk 1 (Tok.n b6) (Tok.pos b6) (List.drop i (List.take j S))), (0 : Int))
  ) else (
    some ((Tok.mk 1 (Tok.n b6) (Tok.pos b6) (List.drop i (List.take j S))), (IntKind.i64.wrap ((j : Int) - (i : Int))))
  )) = some (bif decide (j - i > 8) then (Tok.mk 1 b6.n b6.pos (List.drop i (List.take j S)), 0) else (Tok.mk 1 b6.n b6.pos (List.drop i (List.take j S)), ((j - i : Nat) : Int))) := by
  intro j h1 h2
  have e1 : IntKind.i64.wrap ((j : Int) - (i : Int)) = ((j - i : Nat) : Int) := by rw [xBw (by omega) (by omega)]; omega
  rw [e1, decide_eq_decide.2 (by omega : ((j - i : Nat) : Int) > 8 ↔ j - i > 8)]
  cases decide (j - i > 8) <;> rfl
 refine xGQ (σ := Unit) (L := fun n j _ => xEl N n S i j b4 b6) S (fun l _ => xQQ S i b6.n b6.pos l isWd)
  (fun j _ => i ≤ j) (fun n _ hi => ?_) (fun j x l _ hd hj hx hi => ?_) n j () hij hj hn
 · have hi : i ≤ S.length := hi
   simp only [xEl, Int.lt_irrefl, decide_false, jF]
   rw [if_pos (by omega)]
   simp only [Int.toNat_natCast, fin _ hi (Nat.le_refl _), xQQ, List.dropWhile_nil, jN, Nat.sub_zero]
   rfl
 · have hi : i ≤ j := hi
   have hj' : (j : Int) < (S.length : Int) := by omega
   have hj2 : (0 : Int) ≤ (j : Int) ∧ (j : Int) < (S.length : Int) := ⟨by omega, hj'⟩
   have hj3 : (0 : Int) ≤ (i : Int) ∧ (i : Int) ≤ (j : Int) ∧ (j : Int) ≤ (S.length : Int) := by omega
   cases hw : isWd x
   · refine .inr fun n => ?_
     have e2 : (x :: l).dropWhile isWd = x :: l := by rw [List.dropWhile_cons]; simp [hw]
     have e3 := (xF8 hd).1
     unfold isWd at hw
     rw [Bool.or_eq_false_iff] at hw
     simp only [xEl, decide_eq_true hj', jT, jF, if_pos hj2, if_pos hj3, Int.toNat_natCast, xCK hx, xMq, xK3, hw.1, hw.2, jS, fin _ hi (by omega : j ≤ S.length), xQQ, e2, e3]
   · refine .inl ⟨(), by omega, ?_, fun n => ?_⟩
     · have e2 : (x :: l).dropWhile isWd = l.dropWhile isWd := by rw [List.dropWhile_cons]; simp [hw]
       simp only [xQQ, e2]
     · unfold isWd at hw
       simp only [xEl, decide_eq_true hj', jT, if_pos hj2, Int.toNat_natCast, xCK hx, xMq, xK3, jS, xBI hj (by omega : S.length ≤ _)]
       cases h1 : xG7 x
       · rw [h1, Bool.false_or] at hw
         rw [hw]; rfl
       · rfl
def LxS (s : Str) (o : Option (Tok × Str)) (x : Tok × Int) : Prop := match o with
 | some (t, r) => x = (t, ((s.length - r.length : Nat) : Int))
 | none => x.2 = 0
theorem xH0 {p : UInt8 → Bool} {c : UInt8} (l : Str) (h : p c = true) : (c :: l).dropWhile p = l.dropWhile p := by rw [List.dropWhile_cons]; simp [h]
theorem xSH (hS : S.length ≤ 1000) (hN : 1000 < N) {i : Nat} {c : UInt8} {l0 : Str} (hd0 : S.drop i = c :: l0) (hc : xCP c = true) (hL : xG7 c = false) (b4 : Tok) (p6 : Int) (hp : p6 = i) : ∀ n j, i < j → j ≤ S.length → S.length < n + j → (c :: l0).dropWhile xCP = (S.drop j).dropWhile xCP →
 ∃ x, xDT N n S i (j : Nat) b4 (Tok.mk 0 0 p6 []) = some x ∧ LxS (c :: l0) (xIK i (c :: l0)) x := by
 obtain ⟨g1, g2⟩ := xF8 hd0
 obtain ⟨gi, gx, gd⟩ := xD2 hd0
 have hq := xFE (p := xCP) l0
 have hsame := xH0 (p := xCP) l0 hc
 have fin : ∀ j : Nat, i < j → j ≤ S.length → S.length - j = ((c :: l0).dropWhile xCP).length → ∃ x, (Option.bind (xFV N (List.drop i (List.take j S))) fun r2 =>
       bif (!r2.2) then (
        some ((Tok.mk 2 r2.1 p6 []), 0)
       ) else (
         bif (decide ((r2.1 : Int) > 1000000000)) then (
          some ((Tok.mk 2 r2.1 p6 []), 0)
         ) else (
           some ((Tok.mk 2 r2.1 p6 []), (IntKind.i64.wrap ((j : Int) - (i : Int))))
         )
       )) = some x ∧ LxS (c :: l0) (xIK i (c :: l0)) x := by
  intro j h1 h2 h3
  have ew : List.drop i (List.take j S) = (c :: l0).take ((c :: l0).length - ((c :: l0).dropWhile xCP).length) := by
   have := xKh (S := S) (s := c :: l0) hd0 (by omega) (k := ((c :: l0).dropWhile xCP).length) (xFE _)
   rw [← this, show S.length - ((c :: l0).dropWhile xCP).length = j from by omega]
  have hall : ((c :: l0).take ((c :: l0).length - ((c :: l0).dropWhile xCP).length)).all xCP = true := by
   have : (c :: l0).take ((c :: l0).length - ((c :: l0).dropWhile xCP).length) = (c :: l0).takeWhile xCP := by
    have e := List.takeWhile_append_dropWhile (p := xCP) (l := c :: l0)
    have hl := congrArg List.length e
    rw [jA] at hl
    conv => lhs; arg 2; rw [← e]
    rw [show (c :: l0).length - ((c :: l0).dropWhile xCP).length = ((c :: l0).takeWhile xCP).length from by omega, List.take_left']
    rfl
   rw [this]
   exact List.all_takeWhile
  have hne : (c :: l0).take ((c :: l0).length - ((c :: l0).dropWhile xCP).length) ≠ [] := by
   intro he
   have := congrArg List.length he
   rw [List.length_take, hsame, jN] at this
   simp only [jC] at this
   omega
  obtain ⟨n, ok, e1, e2, e3⟩ := xMa (N := N) hall hne (by rw [List.length_take]; simp only [jC] at g2 ⊢; omega) hN
  rw [ew, e1, jS, xDF, hL, hc]
  simp only [jT, jF]
  rw [← e2] at e3 ⊢
  have e4 : IntKind.i64.wrap ((j : Int) - (i : Int)) = (((c :: l0).length - ((c :: l0).dropWhile xCP).length : Nat) : Int) := by rw [xBw (by omega) (by omega)]; omega
  cases ok
  · exact ⟨_, rfl, rfl⟩
  · cases hb : decide (n > 1000000000)
    · rw [hb] at e3
      have e3 := e3 rfl
      refine ⟨_, rfl, ?_⟩
      show (_, _) = (_, _)
      rw [e4, ← e3, hp]
    · exact ⟨_, rfl, rfl⟩
 intro n
 induction n with
 | zero => intro j h1 h2 h3; omega
 | succ n ih =>
   intro j h1 h2 h3 h4
   cases hd : S.drop j with
   | nil =>
     have := xIs hd
     obtain rfl : j = S.length := by omega
     rw [hd] at h4
     simp only [xDT, Int.lt_irrefl, decide_false, jF]
     rw [if_pos (by omega)]
     simp only [Int.toNat_natCast]
     exact fin _ h1 h2 (by rw [h4]; simp)
   | cons x l =>
     obtain ⟨k1, k2, k3⟩ := xD2 hd
     have hj' : (j : Int) < (S.length : Int) := by omega
     have hj2 : (0 : Int) ≤ (j : Int) ∧ (j : Int) < (S.length : Int) := ⟨by omega, hj'⟩
     have hj3 : (0 : Int) ≤ (i : Int) ∧ (i : Int) ≤ (j : Int) ∧ (j : Int) ≤ (S.length : Int) := by omega
     simp only [xDT, decide_eq_true hj', jT, if_pos hj2, if_pos hj3, Int.toNat_natCast, xCK k2, xK3, jS, xBI k1 (by omega : S.length ≤ _)]
     cases hw : xCP x
     · have e2 : (x :: l).dropWhile xCP = x :: l := by rw [List.dropWhile_cons]; simp [hw]
       rw [hd, e2] at h4
       exact fin j h1 h2 (by rw [h4]; have := (xF8 hd).2; omega)
     · have e2 : (x :: l).dropWhile xCP = l.dropWhile xCP := xH0 l hw
       exact ih (j + 1) (by omega) (by omega) (by omega) (by rw [h4, hd, e2, k3])
theorem vCq (hS : S.length ≤ 1000) (hN : 1000 < N) {i : Nat} {c : UInt8} {l0 : Str} (hd0 : S.drop i = c :: l0) (h34 : (c.toNat == 34) = true) (hD : xCP c = false) (hL : xG7 c = false) (b4 : Tok) (p6 : Int) (hp : p6 = i) : ∀ n j, i < j → j ≤ S.length → S.length < n + j → l0.dropWhile notQ = (S.drop j).dropWhile notQ →
 ∃ x, xFO N n S i (j : Nat) b4 (Tok.mk 0 0 p6 []) = some x ∧ LxS (c :: l0) (xIK i (c :: l0)) x := by
 obtain ⟨g1, g2⟩ := xF8 hd0
 obtain ⟨gi, gx, gd⟩ := xD2 hd0
 have hq := xFE (p := notQ) l0
 simp only [jC] at g1 g2
 have w1 : IntKind.i64.wrap ((i : Int) + 1) = ((i + 1 : Nat) : Int) := xBI gi (by omega)
 intro n
 induction n with
 | zero => intro j h1 h2 h3; omega
 | succ n ih =>
   intro j h1 h2 h3 h4
   cases hd : S.drop j with
   | nil =>
     have := xIs hd
     obtain rfl : j = S.length := by omega
     rw [hd] at h4
     simp only [xFO, Int.lt_irrefl, decide_false, jF, w1]
     rw [if_pos (by omega)]
     simp only [beq_self_eq_true, jT]
     refine ⟨_, rfl, ?_⟩
     rw [xDF, hL, hD, h34, h4]
     rfl
   | cons x l =>
     obtain ⟨k1, k2, k3⟩ := xD2 hd
     have hj' : (j : Int) < (S.length : Int) := by omega
     have hj2 : (0 : Int) ≤ (j : Int) ∧ (j : Int) < (S.length : Int) := ⟨by omega, hj'⟩
     have hj3 : (0 : Int) ≤ ((i + 1 : Nat) : Int) ∧ ((i + 1 : Nat) : Int) ≤ (j : Int) ∧ (j : Int) ≤ (S.length : Int) := by omega
     simp only [xFO, decide_eq_true hj', jT, if_pos hj2, w1, if_pos hj3, Int.toNat_natCast, xCK k2, bne, xS2, xBI k1 (by omega : S.length ≤ _)]
     cases hw : x.toNat == 34
     · have e2 : (x :: l).dropWhile notQ = l.dropWhile notQ := xH0 l (by unfold notQ; rw [hw]; rfl)
       exact ih (j + 1) (by omega) (by omega) (by omega) (by rw [h4, hd, e2, k3])
     · have e2 : (x :: l).dropWhile notQ = x :: l := by rw [List.dropWhile_cons]; simp [notQ, hw]
       rw [hd, e2] at h4
       rw [h4] at hq
       simp only [jC] at hq
       have hjl := (xF8 hd).2
       simp only [jC] at hjl
       have ew : List.drop (i + 1) (List.take j S) = l0.take (l0.length - (x :: l).length) := by
        have := xKh (S := S) (s := l0) gd (by omega) (k := (x :: l).length) (by simp only [jC]; omega)
        rw [← this, show S.length - (x :: l).length = j from by simp only [jC]; omega]
       have ht : (l0.take (l0.length - (x :: l).length)).length ≤ 1000 := by rw [List.length_take]; omega
       have ne : ((j : Int) == (S.length : Int)) = false := beq_eq_false_iff_ne.2 (by omega)
       have e4 : IntKind.i64.wrap (((j + 1 : Nat) : Int) - (i : Int)) = (((c :: l0).length - l.length : Nat) : Int) := by rw [xBw (by omega) (by omega)]; simp only [jC]; omega
       simp only [Bool.not_true, jF, ne, ew]
       rw [xGW (N := N) (by omega) (by omega), jS, xDF, hL, hD, h34, h4]
       simp only [jT, jF]
       cases xHV (l0.take (l0.length - (x :: l).length))
       · exact ⟨_, rfl, rfl⟩
       · refine ⟨_, rfl, ?_⟩
         show (_, _) = (_, _)
         rw [e4, hp]
theorem xOU (c : UInt8) : ∀ l : Str, decide (Lib.indexByte l c ≥ 0) = l.any fun b => b.toNat == c.toNat
 | [] => rfl
 | b :: l => by
   have ih := xOU c l
   have h1 := Lib.indexByte_ge l c
   have e : Lib.indexByte (b :: l) c = if b == c then 0 else if Lib.indexByte l c == -1 then -1 else Lib.indexByte l c + 1 := rfl
   rw [List.any_cons, ← ih, e, xN2 b c]
   cases b.toNat == c.toNat
   · simp only [Bool.false_eq_true, if_false, Bool.false_or]
     by_cases h : Lib.indexByte l c = -1
     · rw [h]; rfl
     · rw [show (Lib.indexByte l c == -1) = false from beq_eq_false_iff_ne.2 h]
       simp only [Bool.false_eq_true, if_false]
       rw [decide_eq_true (by omega), decide_eq_true (by omega)]
   · rfl
theorem beqc (c : UInt8) (k : Nat) : (((c.toNat : Int) : Int) == (k : Int)) = (c.toNat == k) := beqI c.toNat k
def xOf : Str → Bool
 | [] => false
 | d :: _ => 61 == d.toNat
def symN (c : UInt8) (l : Str) : Nat := bif Lib.hasPrefix (c :: l) [61, 61] then 2 else bif xLp c then 1 else 0
theorem xSO (hS : S.length ≤ 1000) {i : Nat} {c : UInt8} {l : Str} (hd : S.drop i = c :: l) : xHj N S i = some ((symN c l : Nat) : Int) := by
 obtain ⟨g1, g2⟩ := xF8 hd
 obtain ⟨gi, gx, gd⟩ := xD2 hd
 have w1 : IntKind.i64.wrap ((i : Int) + 1) = ((i + 1 : Nat) : Int) := xBI gi (by omega)
 have hok : xLp c = (40 == c.toNat || (41 == c.toNat || (91 == c.toNat || (93 == c.toNat || (44 == c.toNat || (43 == c.toNat || (45 == c.toNat || (42 == c.toNat || (60 == c.toNat || (61 == c.toNat || false)))))))))) := by
  unfold xLp; rw [xOU]; rfl
 have hpre : Lib.hasPrefix (c :: l) [61, 61] = (61 == c.toNat && xOf l) := by
  unfold Lib.hasPrefix
  cases l with
  | nil => simp [List.isPrefixOf, xOf]
  | cons d r =>
    simp only [List.isPrefixOf, xN2, Bool.and_true, xOf]; rfl
 have b (k : Nat) : (c.toNat == k) = (k == c.toNat) := by
  by_cases h : c.toNat = k
  · rw [h]
  · rw [beq_eq_false_iff_ne.2 h, beq_eq_false_iff_ne.2 (fun e => h e.symm)]
 unfold xHj
 rw [if_pos (by omega)]
 have k40 := (beqc c 40).trans (b 40); have k41 := (beqc c 41).trans (b 41); have k91 := (beqc c 91).trans (b 91); have k93 := (beqc c 93).trans (b 93); have k44 := (beqc c 44).trans (b 44)
 have k43 := (beqc c 43).trans (b 43); have k45 := (beqc c 45).trans (b 45); have k42 := (beqc c 42).trans (b 42); have k60 := (beqc c 60).trans (b 60); have k61 := (beqc c 61).trans (b 61)
 simp only [Int.toNat_natCast, xCK gx, w1]
 unfold symN
 rw [hok, hpre]
 have no61 : ∀ k : Nat, k ≠ 61 → (k == c.toNat) = true → (61 == c.toNat) = false := fun k hk h => beq_eq_false_iff_ne.2 fun e => hk ((beq_iff_eq.1 h).trans e.symm)
 have fin : (bif (decide (((i + 1 : Nat) : Int) < (List.length S : Int))) then (
                   if (0 : Int) ≤ ((i + 1 : Nat) : Int) ∧ ((i + 1 : Nat) : Int) < (List.length S) then
                   bif ((((List.getD S (i + 1) 0).toNat : Int) : Int) == 61) then (
                    some (2 : Int)
                   ) else (
                     some 1
                   )
                   else none
                   ) else (
                     some 1
                   )) = some (((bif xOf l then 2 else 1 : Nat)) : Int) := by
  cases l with
  | nil =>
    simp only [jC, jN] at g2
    rw [decide_eq_false (by omega)]; rfl
  | cons d r =>
    simp only [jC] at g2
    obtain ⟨ji, jx, jd⟩ := xD2 gd
    rw [decide_eq_true (by omega), jT, if_pos (by omega), xCK jx]
    have bd : (((d.toNat : Int) : Int) == 61) = (61 == d.toNat) := (beqI d.toNat 61).trans (by
     by_cases h : d.toNat = 61
     · rw [h]
     · rw [beq_eq_false_iff_ne.2 h, beq_eq_false_iff_ne.2 (fun e => h e.symm)])
    rw [bd, show xOf (d :: r) = (61 == d.toNat) from rfl]
    cases (61 == d.toNat) <;> rfl
 rw [fin]
 have k40 : (((c.toNat : Int) : Int) == 40) = (40 == c.toNat) := k40
 have k41 : (((c.toNat : Int) : Int) == 41) = (41 == c.toNat) := k41
 have k91 : (((c.toNat : Int) : Int) == 91) = (91 == c.toNat) := k91
 have k93 : (((c.toNat : Int) : Int) == 93) = (93 == c.toNat) := k93
 have k44 : (((c.toNat : Int) : Int) == 44) = (44 == c.toNat) := k44
 have k43 : (((c.toNat : Int) : Int) == 43) = (43 == c.toNat) := k43
 have k45 : (((c.toNat : Int) : Int) == 45) = (45 == c.toNat) := k45
 have k42 : (((c.toNat : Int) : Int) == 42) = (42 == c.toNat) := k42
 have k60 : (((c.toNat : Int) : Int) == 60) = (60 == c.toNat) := k60
 have k61 : (((c.toNat : Int) : Int) == 61) = (61 == c.toNat) := k61
 rw [k40, k41, k91, k93, k44, k43, k45, k42, k60, k61]
 cases h1 : (40 == c.toNat)
 · cases h2 : (41 == c.toNat)
   · cases h3 : (91 == c.toNat)
     · cases h4 : (93 == c.toNat)
       · cases h5 : (44 == c.toNat)
         · cases h6 : (43 == c.toNat)
           · cases h7 : (45 == c.toNat)
             · cases h8 : (42 == c.toNat)
               · cases h9 : (60 == c.toNat)
                 · cases h10 : (61 == c.toNat)
                   · rfl
                   · simp only [jF, jT, Bool.true_and, Bool.or_true, Bool.false_or, Bool.true_or]
                 · rw [no61 60 (by decide) h9]; rfl
               · rw [no61 42 (by decide) h8]; rfl
             · rw [no61 45 (by decide) h7]; rfl
           · rw [no61 43 (by decide) h6]; rfl
         · rw [no61 44 (by decide) h5]; rfl
       · rw [no61 93 (by decide) h4]; rfl
     · rw [no61 91 (by decide) h3]; rfl
   · rw [no61 41 (by decide) h2]; rfl
 · rw [no61 40 (by decide) h1]; rfl
theorem xXe (hS : S.length ≤ 1000) (hN : 1000 < N) {i : Nat} {c : UInt8} {l : Str} (hd : S.drop i = c :: l) : ∃ x, xIn N S i = some x ∧ LxS (c :: l) (xIK i (c :: l)) x := by
 obtain ⟨e1, e2⟩ := xF8 hd
 obtain ⟨hi, hx, hd1⟩ := xD2 hd
 simp only [jC] at e1 e2
 have w1 : IntKind.i64.wrap ((i : Int) + 1) = ((i + 1 : Nat) : Int) := xBI hi (by omega)
 unfold xIn
 rw [if_pos (by omega)]
 simp only [Int.toNat_natCast, xCK hx, xMq, xK3, jS, xS2, w1]
 cases hL : xG7 c
 · cases hD : xCP c
   · cases h34 : c.toNat == 34
     · simp only [jF]
       rw [xSO hS hd, jS]
       have hle : symN c l ≤ (c :: l).length := by
        unfold symN
        cases hp : Lib.hasPrefix (c :: l) [61, 61]
        · cases xLp c <;> simp
        · have : 2 ≤ (c :: l).length := by
           cases l with
           | nil => simp [Lib.hasPrefix, List.isPrefixOf] at hp
           | cons a b => simp
          simpa using this
       simp only [jC] at hle
       have s2 : symN c l ≤ 2 := by
        unfold symN
        cases Lib.hasPrefix (c :: l) [61, 61] <;> cases xLp c <;> simp
       have v1 : IntKind.i64.wrap ((i : Int) + ((symN c l : Nat) : Int)) = ((i + symN c l : Nat) : Int) := by rw [xBw (by omega) (by omega)]; omega
       have v2 : IntKind.i64.wrap (((i + symN c l : Nat) : Int) - (i : Int)) = ((symN c l : Nat) : Int) := by rw [xBw (by omega) (by omega)]; omega
       have v3 : List.drop i (List.take (i + symN c l) S) = (c :: l).take (symN c l) := by rw [List.drop_take, hd, show i + symN c l - i = symN c l from by omega]
       simp only [v1, v2, Int.toNat_natCast, v3]
       rw [if_pos (by omega), xDF, hL, hD, h34]
       refine ⟨_, rfl, ?_⟩
       simp only [jF]
       unfold symN at s2 ⊢
       cases hp : Lib.hasPrefix (c :: l) [61, 61]
       · cases xLp c
         · rfl
         · show (_, _) = (_, _)
           simp
       · have h2 : l.tail.length + 1 = l.length := by
          cases l with
          | nil => simp [Lib.hasPrefix, List.isPrefixOf] at hp
          | cons a b => rfl
         have h3 : (c :: l).take 2 = [61, 61] := by
          cases l with
          | nil => simp [Lib.hasPrefix, List.isPrefixOf] at hp
          | cons a b =>
            simp only [Lib.hasPrefix, List.isPrefixOf, Bool.and_eq_true, beq_iff_eq] at hp
            obtain ⟨rfl, rfl, _⟩ := hp
            rfl
         show (_, _) = (_, _)
         simp only [jT, h3, jC]
         rw [show l.length + 1 - l.tail.length = 2 from by omega]
     · exact vCq hS hN hd h34 hD hL _ _ rfl N (i + 1) (by omega) (by omega) (by omega) (by rw [hd1])
   · simp only [jT, jF]
     obtain ⟨n, rfl⟩ : ∃ n, N = n + 1 := ⟨N - 1, by omega⟩
     have hj' : (i : Int) < (S.length : Int) := by omega
     have hj2 : (0 : Int) ≤ (i : Int) ∧ (i : Int) < (S.length : Int) := ⟨by omega, hj'⟩
     have step : xDT (n + 1) (n + 1) S i i (Tok.mk 0 0 0 []) (Tok.mk 0 0 i []) = xDT (n + 1) n S i ((i + 1 : Nat) : Int) (Tok.mk 0 0 0 []) (Tok.mk 0 0 i []) := by
      simp only [xDT, decide_eq_true hj', jT, if_pos hj2, Int.toNat_natCast, xCK hx, xK3, jS, hD, w1]
     rw [step]
     exact xSH hS hN hd hD hL _ _ rfl n (i + 1) (by omega) (by omega) (by omega) (by rw [hd1, xH0 l hD])
 · simp only [jT]
   have hw : isWd c = true := by unfold isWd; rw [hL]; rfl
   have hq := xFE (p := isWd) (c :: l)
   have hq2 := xFE (p := isWd) l
   refine ⟨_, xQO hS _ _ N i (Nat.le_refl _) (by omega) (by omega), ?_⟩
   rw [hd, xDF, hL, jT]
   unfold xQQ
   have h0 := xH0 l hw
   simp only [jC] at hq
   rw [xKh hd (by omega) (by simp only [jC]; omega), show S.length - ((c :: l).dropWhile isWd).length - i = (c :: l).length - ((c :: l).dropWhile isWd).length from by simp only [jC]; omega]
   by_cases h8 : (c :: l).length - ((c :: l).dropWhile isWd).length ≤ 8
   · rw [decide_eq_true h8, decide_eq_false (by omega)]; rfl
   · rw [decide_eq_false h8, decide_eq_true (by omega)]; rfl
theorem xWE (hS : S.length ≤ 120) (hN : 1000 < N) : ∀ (m n i : Nat) (acc : List Tok), i ≤ S.length → S.length - i < m → S.length - i < n → acc.length ≤ 60 → xED N n S acc (i : Nat) = some (lexL m (i : Nat) acc (S.drop i)) := by
 intro m
 induction m with
 | zero => intro n i acc _ h; omega
 | succ m ih =>
   intro n i acc hi hm hn ha
   obtain ⟨n, rfl⟩ : ∃ k, n = k + 1 := ⟨n - 1, by omega⟩
   cases hd : S.drop i with
   | nil =>
     have := xIs hd
     obtain rfl : i = S.length := by omega
     simp only [xED, Int.lt_irrefl, decide_false, jF, lexL]
   | cons c l =>
     obtain ⟨h1, hx, hd1⟩ := xD2 hd
     have hi' : (i : Int) < (S.length : Int) := by omega
     simp only [xED, decide_eq_true hi', jT, Int.toNat_natCast, xCK hx, vCx, lexL, xBI h1 (by omega : S.length ≤ _)]
     rw [if_pos (by omega)]
     cases h32 : c.toNat == 32
     · simp only [jF]
       obtain ⟨x, hx1, hx2⟩ := xXe (N := N) (S := S) (by omega) hN hd
       rw [hx1, jS]
       cases ho : xIK i (c :: l) with
       | none =>
         rw [ho] at hx2
         have hx2 : x.2 = 0 := hx2
         simp only [hx2, beq_self_eq_true, jT]
       | some z =>
         obtain ⟨t, r⟩ := z
         rw [ho] at hx2
         have hx2 : x = (t, (((c :: l).length - r.length : Nat) : Int)) := hx2
         subst hx2
         have hl := xLb ho
         have hs : r <:+ S := by
          have : c :: l <:+ S := by rw [← hd]; exact List.drop_suffix _ _
          exact (xOi ho).trans this
         have hrl := hs.length_le
         obtain ⟨g1, g2⟩ := xF8 hd
         have ne0 : ((((c :: l).length - r.length : Nat) : Int) == 0) = false := beq_eq_false_iff_ne.2 (by omega)
         have v1 : IntKind.i64.wrap ((i : Int) + (((c :: l).length - r.length : Nat) : Int)) = ((S.length - r.length : Nat) : Int) := by rw [xBw (by omega) (by omega)]; omega
         have e60 : (((acc.length : Int) : Int) == 60) = (acc.length == 60) := beqI acc.length 60
         simp only [ne0, jF, e60, v1]
         cases h60 : acc.length == 60
         · have h60 : acc.length ≠ 60 := beq_eq_false_iff_ne.1 h60
           simp only [jF]
           rw [if_pos (by simp only [jC, jN]; unfold Lim; omega)]
           rw [ih n (S.length - r.length) (acc ++ [t]) (by omega) (by omega) (by omega) (by simp only [jA, jC, jN]; omega), xPO hs]
           rw [show ((S.length - r.length : Nat) : Int) = (i : Int) + ((c :: l).length - r.length : Nat) from by omega]
         · rfl
     · simp only [jT]
       rw [ih n (i + 1) acc (by omega) (by omega) (by omega) ha, hd1]
       rfl
theorem xMb (hN : 1000 < N) (s : Str) : xGu N s = some (lex s) := by
 unfold xGu lex
 have e : decide (((s.length : Int) : Int) > 120) = decide (s.length > 120) := decide_eq_decide.2 (by omega)
 rw [e]
 cases h : decide (s.length > 120)
 · have h := of_decide_eq_false h
   simp only [jF]
   exact xWE (S := s) (by omega) hN (s.length + 1) N 0 [] (by omega) (by omega) (by omega) (by simp)
 · rfl
end
end Go.Ab
end
section
namespace Go.Ab
structure TokG (t : Tok) : Prop where
 kind : I64 t.kind
 n : I64 t.n
 pos : 0 ≤ t.pos ∧ t.pos ≤ 120
 len : t.text.length ≤ 120
 name : t.kind = 1 → ∃ (c : UInt8) (l : Str), t.text = c :: l ∧ 97 ≤ c.toNat
 sym : t.kind = 4 → ∃ (c : UInt8) (l : Str), t.text = c :: l ∧ c.toNat < 97
theorem xWG {c : UInt8} (h : xLp c = true) : c.toNat < 97 := by
 unfold xLp at h
 rw [xOU] at h
 simp only [List.any_cons, List.any_nil, Bool.or_eq_true, beq_iff_eq, Bool.or_false] at h
 have e : ∀ k : UInt8, k.toNat < 97 → k.toNat = c.toNat → c.toNat < 97 := fun k h1 h2 => by omega
 rcases h with h | h | h | h | h | h | h | h | h | h <;> exact e _ (by decide) h
theorem xSR {c : UInt8} {l : Str} {k : Nat} (h : 0 < k) : ∃ r, (c :: l).take k = c :: r := by
 obtain ⟨k, rfl⟩ : ∃ m, k = m + 1 := ⟨k - 1, by omega⟩
 exact ⟨l.take k, rfl⟩
theorem xQC {p : Int} {s r : Str} {t : Tok} (hp : 0 ≤ p ∧ p ≤ 120) (hs : s.length ≤ 120) (h : xIK p s = some (t, r)) : TokG t := by
 cases s with
 | nil => cases h
 | cons c l =>
   have d1 := xFE (p := isWd) l
   rw [xDF] at h
   cases h1 : xG7 c <;> rw [h1] at h
   · cases h2 : xCP c <;> rw [h2] at h
     · cases h3 : c.toNat == 34 <;> rw [h3] at h
       · cases h4 : Lib.hasPrefix (c :: l) [61, 61] <;> rw [h4] at h
         · obtain ⟨hb, hx⟩ := xKA h
           cases hx
           exact ⟨xEn (x := 4) (by decide), xEn (x := 0) (by decide), hp, by simp, (fun h => by have h : (4 : Int) = 1 := h; omega), fun _ => ⟨c, [], rfl, xWG hb⟩⟩
         · cases h
           exact ⟨xEn (x := 4) (by decide), xEn (x := 0) (by decide), hp, by simp, (fun h => by have h : (4 : Int) = 1 := h; omega), fun _ => ⟨61, [61], rfl, by decide⟩⟩
       · simp only [jT, jF] at h
         split at h
         · cases h
         · rename_i q r' he
           obtain ⟨hb, hx⟩ := xKA h
           cases hx
           simp only [jC] at hs
           refine ⟨xEn (by show (0 : Int) ≤ 3 ∧ (3 : Int) ≤ 1000; decide), xEn (by show (0 : Int) ≤ 0 ∧ (0 : Int) ≤ 1000; decide), hp, ?_, fun h => ?_, fun h => ?_⟩
           · show (l.take _).length ≤ 120
             rw [List.length_take]; omega
           · have h : (3 : Int) = 1 := h
             omega
           · have h : (3 : Int) = 4 := h
             omega
     · simp only [jT, jF] at h
       obtain ⟨hb, hx⟩ := xKA h
       cases hx
       obtain ⟨v, hv, he⟩ := xOm hb
       have hn := xKk hv
       rw [← he] at hn
       refine ⟨xEn (by show (0 : Int) ≤ 2 ∧ (2 : Int) ≤ 1000; decide), ?_, hp, by simp, fun h => ?_, fun h => ?_⟩
       · show I64 (zHG _ 0 1000000000).1
         rw [hn]; unfold I64; omega
       · have h : (2 : Int) = 1 := h
         omega
       · have h : (2 : Int) = 4 := h
         omega
   · simp only [jT] at h
     obtain ⟨hb, hx⟩ := xKA h
     cases hx
     have hw : isWd c = true := by unfold isWd; rw [h1]; rfl
     rw [xH0 l hw]
     simp only [jC] at hs
     obtain ⟨r, hr⟩ := xSR (c := c) (l := l) (k := (c :: l).length - (l.dropWhile isWd).length) (by simp only [jC]; omega)
     refine ⟨xEn (by show (0 : Int) ≤ 1 ∧ (1 : Int) ≤ 1000; decide), xEn (by show (0 : Int) ≤ 0 ∧ (0 : Int) ≤ 1000; decide), hp, ?_, fun _ => ⟨c, r, hr, ?_⟩, fun h => ?_⟩
     · show ((c :: l).take _).length ≤ 120
       rw [List.length_take]; simp only [jC]; omega
     · unfold xG7 at h1
       simp only [Bool.and_eq_true, decide_eq_true_eq] at h1
       exact h1.1
     · have h : (1 : Int) = 4 := h
       omega
theorem xRh : ∀ (n : Nat) (p : Int) (acc : List Tok) (s : Str), 0 ≤ p → p + s.length ≤ 120 → acc.length ≤ 60 → (∀ t ∈ acc, TokG t) → (∀ t ∈ (lexL n p acc s).1, TokG t) ∧ (lexL n p acc s).1.length ≤ 60 ∧ ((lexL n p acc s).2 = -1 ∨ (0 ≤ (lexL n p acc s).2 ∧ (lexL n p acc s).2 ≤ p + s.length)) := by
 intro n
 induction n with
 | zero => intro p acc s h1 h2 _ _; exact ⟨(fun t ht => by cases ht), by simp [lexL], .inr (by simp only [lexL]; omega)⟩
 | succ n ih =>
   intro p acc s h1 h2 h3 h4
   cases s with
   | nil => exact ⟨h4, h3, .inl rfl⟩
   | cons c l =>
     simp only [lexL]
     cases c.toNat == 32
     · simp only [jF]
       have hl : (c :: l).length ≤ 120 := by simp only [jC] at h2 ⊢; omega
       cases ho : xIK p (c :: l) with
       | none => exact ⟨(fun t ht => by cases ht), by simp, .inr (by simp only; omega)⟩
       | some z =>
         obtain ⟨t, r⟩ := z
         have hg := xQC (by omega) hl ho
         have hr := xLb ho
         simp only
         cases h60 : acc.length == 60
         · have h60 : acc.length ≠ 60 := beq_eq_false_iff_ne.1 h60
           simp only [jF]
           have := ih (p + ((c :: l).length - r.length : Nat)) (acc ++ [t]) r (by omega) (by omega) (by simp only [jA, jC, jN]; omega) (fun x hx => by
            rcases List.mem_append.1 hx with hx | hx
            · exact h4 x hx
            · rw [List.mem_singleton.1 hx]; exact hg)
           refine ⟨this.1, this.2.1, ?_⟩
           rcases this.2.2 with h | ⟨ha, hb⟩
           · exact .inl h
           · exact .inr ⟨ha, by omega⟩
         · exact ⟨(fun t ht => by cases ht), by simp, .inr (by simp only [jT]; omega)⟩
     · simp only [jT]
       simp only [jC] at h2
       have := ih (p + 1) acc l (by omega) (by omega) h3 h4
       refine ⟨this.1, this.2.1, ?_⟩
       rcases this.2.2 with h | ⟨ha, hb⟩
       · exact .inl h
       · exact .inr ⟨ha, by simp only [jC]; omega⟩
theorem xNr (s : Str) : (∀ t ∈ (lex s).1, TokG t) ∧ (lex s).1.length ≤ 60 ∧ ((lex s).2 = -1 ∨ (0 ≤ (lex s).2 ∧ (lex s).2 ≤ s.length)) := by
 unfold lex
 cases h : decide (s.length > 120)
 · have h := of_decide_eq_false h
   have := xRh (s.length + 1) 0 [] s (by omega) (by omega) (by simp) (fun t ht => by cases ht)
   refine ⟨this.1, this.2.1, ?_⟩
   rcases this.2.2 with h | ⟨ha, hb⟩
   · exact .inl h
   · exact .inr ⟨ha, by simp only [jF]; omega⟩
 · have h := of_decide_eq_true h
   exact ⟨(fun t ht => by cases ht), by simp, .inr (by simp only [jT]; omega)⟩
theorem vDI : ∀ ts : List Tok, (∀ t ∈ ts, TokG t) → tw ts ≤ 123 * ts.length
 | [], _ => Nat.le_refl _
 | t :: r, h => by
   have h1 := (h t List.mem_cons_self).len
   have h2 := vDI r fun x hx => h x (List.mem_cons_of_mem _ hx)
   rw [xLV, jC]; omega
theorem xSS {T : List Tok} (h : ∀ t ∈ T, TokG t) (hl : T.length ≤ 60) : TokT 10000 T where
 len := by omega
 fit := fun t ht => ⟨(h t ht).kind, (h t ht).n, by have := (h t ht).pos; unfold I64; omega, Nat.le_trans (h t ht).len (by omega)⟩
 tw := by have := vDI T h; omega
theorem vDH {T : List Tok} (h : ∀ t ∈ T, TokG t) {L : Int} (hL : 0 ≤ L) : TokW T L where
 pos := fun t ht => (h t ht).pos.1
 fin := hL
 name := fun t ht => (h t ht).name
 sym := fun t ht => (h t ht).sym
def xLh (L : Int) (T : List Tok) : Exp × Int := match pE (T.length + 1) T with
 | .err ts => (e0, offT L ts)
 | .ok e [] => bif xFc e then (e, -1) else (e0, 0)
 | .ok e (t :: _) => (e0, t.pos)
def xFr (s : Str) : Exp × Int := bif decide ((lex s).2 ≥ 0) then (e0, (lex s).2) else xLh s.length (lex s).1
theorem xMG {T : List Tok} (hT : TokT 10000 T) {e : Exp} {r : List Tok} (h : pE (T.length + 1) T = .ok e r) : e.Fit 10000 ∧ e.size ≤ 10000 := by
 obtain ⟨⟨h1, h2⟩, _⟩ := xFT (K := 10000) (T.length + 1) T e r hT.fit hT.tw h
 have := hT.tw
 exact ⟨h2, by omega⟩
theorem xW9 {T : List Tok} {t : Tok} {q : List Tok} (h : t :: q <:+ T) : T.length - (t :: q).length < T.length ∧ List.getD T (T.length - (t :: q).length) Ty.tok.dflt = t := by
 obtain ⟨pre, rfl⟩ := h
 have e : (pre ++ t :: q).length - (t :: q).length = pre.length := by rw [jA]; omega
 rw [e]
 exact ⟨by simp, by simp [List.getD]⟩
theorem xOV {N : Nat} {T : List Tok} {s : Str} (hT : TokT 10000 T) (hl : T.length ≤ 60) (hN : 20000 < N) (hv : ∀ e r, pE (T.length + 1) T = .ok e r → xC0 N e = some (xFc e)) (ht : xGt N s = some (T, -1)) :
 xDm N s = some (xLh s.length T) := by
 have hs := xWV (N := N) hT (by omega) (by omega) (by omega) (T.length + 1) N (by omega) T (List.suffix_refl T) (by omega)
 have hx : xGN N (Psr.mk T 0 (-1)) = (xAb N N).c_impl_parser_expr (gp T T) := by
  unfold xGN gp
  rw [Nat.sub_self]; rfl
 unfold xDm xLh
 rw [ht, jS]
 simp only [show decide ((-1 : Int) ≥ 0) = false from rfl, jF, hx]
 cases hp : pE (T.length + 1) T with
 | err ts =>
   rw [hp] at hs
   obtain ⟨a, p, h1, h2, h3, h4⟩ := hs
   rw [h1, jS]
   have hnn : 0 ≤ p.bad := by rw [h3]; omega
   rw [decide_eq_false (by omega : ¬ p.bad < 0), jF]
   have hle := h4.length_le
   cases ts with
   | nil => rw [decide_eq_true (by rw [h3]; simp : p.bad ≥ (T.length : Int)), jT]; rfl
   | cons t q =>
     obtain ⟨g1, g2⟩ := xW9 h4
     rw [decide_eq_false (by rw [h3]; omega), jF, decide_eq_true (by omega : p.bad ≥ 0), jT, if_pos (by rw [h3]; omega), h3, Int.toNat_natCast, g2]; rfl
 | ok e ts =>
   rw [hp] at hs
   obtain ⟨h1, h2⟩ := hs
   rw [h2, jS]
   rw [xRb, xOP, jT]
   cases ts with
   | nil =>
     have e1 : decide ((gp T []).pos < (T.length : Int)) = false := decide_eq_false (by simp [gp])
     rw [e1, jF, decide_eq_false (by omega : ¬ (-1 : Int) ≥ (T.length : Int)), jF]
     rw [show decide ((-1 : Int) ≥ 0) = false from rfl, jF, hv e [] hp, jS]
     show _ = some (bif xFc e then (e, -1) else (e0, 0))
     cases xFc e <;> rfl
   | cons t q =>
     obtain ⟨g1, g2⟩ := xW9 h1
     have e1 : (gp T (t :: q)).pos = ((T.length - (t :: q).length : Nat) : Int) := rfl
     rw [e1, decide_eq_true (by omega), jT, decide_eq_false (by omega), jF, decide_eq_true (by omega), jT, if_pos (by omega), Int.toNat_natCast, g2]
theorem xPE {N : Nat} {T : List Tok} {s : Str} (hT : TokT 10000 T) (hW : TokW T s.length) (hl : T.length ≤ 60) (hN : 20000 < N) (hv : ∀ e r, pE (T.length + 1) T = .ok e r → xCy N e = some (xFc e)) (ht : xGu N s = some (T, -1)) :
 xFA N s = some (xLh s.length T) := by
 have hs := vCj (N := N) hW hT (by omega) (by omega) (by omega) (T.length + 1) N (by omega) T (List.suffix_refl T) (by omega)
 have hx : xIC N (Rdr.mk T 0 (s.length : Int) (-1)) = (xAa N N).c_spec_l11Expr (gr T s.length T) := by
  unfold xIC gr
  rw [Nat.sub_self]; rfl
 unfold xFA xLh
 rw [ht, jS]
 simp only [show decide ((-1 : Int) ≥ 0) = false from rfl, jF, hx]
 cases hp : pE (T.length + 1) T with
 | err ts =>
   rw [hp] at hs
   obtain ⟨a, p, h1, h2⟩ := hs
   rw [h1, jS]
   have hnn := h2.nn hW
   rw [decide_eq_false (by omega : ¬ p.bad < 0), jF, decide_eq_true (by omega : p.bad ≥ 0), jT, h2.2.2.1]
 | ok e ts =>
   rw [hp] at hs
   obtain ⟨h1, h2⟩ := hs
   rw [h2, jS]
   rw [xK4, xOP, jT]
   cases ts with
   | nil =>
     have e1 : decide ((gr T s.length []).i < (T.length : Int)) = false := decide_eq_false (by simp [gr])
     rw [e1, jF]
     rw [show decide ((-1 : Int) ≥ 0) = false from rfl, jF, hv e [] hp, jS]
     show _ = some (bif xFc e then (e, -1) else (e0, 0))
     cases xFc e <;> rfl
   | cons t q =>
     obtain ⟨g1, g2⟩ := xW9 h1
     have e1 : (gr T s.length (t :: q)).i = ((T.length - (t :: q).length : Nat) : Int) := rfl
     obtain ⟨p, f1, f2⟩ := xLi (L := s.length) N h1
     have hnn := f2.nn hW
     rw [e1, decide_eq_true (by omega), jT, f1, jS, decide_eq_true (by omega : p.bad ≥ 0), jT, f2.2.2.1]; rfl
theorem xNV (s : Str) : Big fun N => xDm N s = some (xFr s) ∧ xFA N s = some (xFr s) := by
 obtain ⟨g1, g2, g3⟩ := xNr s
 have hT := xSS g1 g2
 have hW := vDH g1 (L := s.length) (by omega)
 have hv : Big fun N => ∀ e r, pE ((lex s).1.length + 1) (lex s).1 = .ok e r → xC0 N e = some (xFc e) ∧ xCy N e = some (xFc e) := by
  cases hp : pE ((lex s).1.length + 1) (lex s).1 with
  | err ts => exact Big.of fun N e r h => by cases h
  | ok e ts =>
    obtain ⟨h1, h2⟩ := xMG hT hp
    refine (xLq (K := 10000) (by omega) h1 (by omega)).imp fun N h e' r' he => ?_
    cases he
    exact h
 refine (hv.and (xM3 20000)).imp fun N ⟨h, hN⟩ => ?_
 have t1 := xL8 (N := N) (by omega) s
 have t2 := xMb (N := N) (by omega) s
 unfold xFr
 rcases g3 with g3 | ⟨g3, g4⟩
 · have e : lex s = ((lex s).1, -1) := by rw [← g3]
   rw [e] at t1 t2
   rw [g3]
   simp only [show decide ((-1 : Int) ≥ 0) = false from rfl, jF]
   exact ⟨xOV hT g2 hN (fun e r he => (h e r he).1) t1, xPE hT hW g2 hN (fun e r he => (h e r he).2) t2⟩
 · unfold xDm xFA
   rw [t1, t2]
   simp only [jS, decide_eq_true g3, jT]
   exact ⟨trivial, trivial⟩
theorem xK7 {N : Nat} {s : Str} (h : xDm N s = some (xFr s)) : xGf N s = some (decide ((xFr s).2 ≥ 0)) := by
 unfold xGf; rw [h]; rfl
theorem xNh (s : Str) : (xFr s).1.Fit 10000 ∧ (xFr s).1.size ≤ 10000 := by
 have z : e0.Fit 10000 ∧ e0.size ≤ 10000 := ⟨xHz (xEn (by decide)) (xEn (by decide)) (Nat.zero_le _) (Nat.zero_le _) (fun x hx => by cases hx), by rw [xGI]; decide⟩
 obtain ⟨g1, g2, g3⟩ := xNr s
 have hT := xSS g1 g2
 unfold xFr
 cases decide ((lex s).2 ≥ 0)
 · simp only [jF, xLh]
   cases hp : pE ((lex s).1.length + 1) (lex s).1 with
   | err ts => exact z
   | ok e ts =>
     have := xMG hT hp
     cases ts with
     | nil =>
       show Exp.Fit 10000 (bif xFc e then (e, (-1 : Int)) else (e0, 0)).1 ∧ (bif xFc e then (e, (-1 : Int)) else (e0, 0)).1.size ≤ 10000
       cases xFc e
       · exact z
       · exact this
     | cons t q => exact z
 · exact z
theorem xOl (s : Str) : Big fun N => xEv N s = some (bif decide ((xFr s).2 ≥ 0) then ([], false) else (fmtE (xFr s).1, true)) ∧ xFv N s = some (bif decide ((xFr s).2 ≥ 0) then ([], false) else (fmtE (xFr s).1, true)) := by
 obtain ⟨f1, f2⟩ := xNh s
 refine ((xNV s).and (xMp (K := 10000) (by omega) f1 (by omega))).imp fun N ⟨⟨h1, h2⟩, h3, h4⟩ => ?_
 unfold xEv xFv
 rw [h1, h2]
 simp only [jS, h3, h4]
 cases decide ((xFr s).2 ≥ 0) <;> exact ⟨rfl, rfl⟩
end Go.Ab
end
section
namespace Go.Ab
def xN3 (x : List Tok) : Prop := seeS [42] x = false ∧ seeS [43] x = false ∧ seeS [45] x = false ∧ seeS [60] x = false ∧ seeS [61, 61] x = false
theorem PR.bind_of {α β : Type} {R : PR α} {k : α → List Tok → PR β} {a : α} {q : List Tok} (h : R = .ok a q) : R.bind k = k a q := by rw [h]; rfl
section
variable {x : List Tok}
end
end Go.Ab
end
section
namespace Go.Ab
def Ret {α : Type} (o : Option α) (Q : α → Prop) : Prop := ∃ r, o = some r ∧ Q r
theorem Ret.mk' {α : Type} {a : α} {Q : α → Prop} (h : Q a) : Ret (Option.some a) Q := ⟨a, rfl, h⟩
theorem Ret.bnd {α β : Type} {o : Option α} {f : α → Option β} {P : α → Prop} {Q : β → Prop} (h : Ret o P) (hf : ∀ a, P a → Ret (f a) Q) : Ret (Option.bind o f) Q := by
 obtain ⟨a, rfl, ha⟩ := h
 exact hf a ha
theorem Ret.cnd {α : Type} {b : Bool} {x y : Option α} {Q : α → Prop} (h1 : b = true → Ret x Q) (h2 : b = false → Ret y Q) : Ret (bif b then x else y) Q := by
 cases b
 · exact h2 rfl
 · exact h1 rfl
theorem Ret.chk {α : Type} {p : Prop} [Decidable p] {x : Option α} {Q : α → Prop} (hp : p) (h : Ret x Q) : Ret (if p then x else none) Q := by
 rw [if_pos hp]; exact h
theorem Ret.imp {α : Type} {o : Option α} {P Q : α → Prop} (h : Ret o P) (hi : ∀ a, P a → Q a) : Ret o Q := by
 obtain ⟨a, e, ha⟩ := h
 exact ⟨a, e, hi a ha⟩
structure CurOk (c : Cur) : Prop where
 lo : 0 ≤ c.i
 len : c.b.length ≤ 1048576
def Dr {α : Type} (P : α → Prop) : α × Cur → Prop := fun r => P r.1 ∧ CurOk r.2
theorem xQY (x : Int) : 0 ≤ andI .i64 x 255 ∧ andI .i64 x 255 ≤ 255 := by
 unfold andI
 have h : (BitVec.ofInt IntKind.i64.bits x &&& BitVec.ofInt IntKind.i64.bits 255).toNat ≤ 255 := by
  rw [BitVec.toNat_and]
  exact Nat.and_le_right
 rw [xBw (by omega) (by omega)]
 omega
theorem xMk {N : Nat} {c : Cur} (h : CurOk c) : Ret (xFW N c) (Dr fun v => 0 ≤ v ∧ v ≤ 255) := by
 unfold xFW
 have h1 := h.lo
 have h2 := h.len
 refine .cnd (fun hc => ?_) (fun _ => .mk' ⟨xQY _, h1, h2⟩)
 have hc := of_decide_eq_true hc
 refine .chk ⟨h1, hc⟩ (.mk' ⟨xQY _, ?_, h2⟩)
 show 0 ≤ IntKind.i64.wrap (c.i + 1)
 rw [xBw (by omega) (by omega)]
 omega
theorem vDG {x n : Int} (hx : 0 ≤ x) (hn : 0 < n) : 0 ≤ Int.tmod x n ∧ Int.tmod x n < n := by
 rw [Int.tmod_eq_emod_of_nonneg hx]
 exact ⟨Int.emod_nonneg _ (by omega), Int.emod_lt_of_pos _ hn⟩
theorem xPM {N : Nat} {c : Cur} {n : Int} (h : CurOk c) : Ret (xAU N c n) (Dr fun v => 0 ≤ v ∧ (v < n ∨ v = 0)) := by
 unfold xAU
 refine .cnd (fun _ => .mk' ⟨⟨by omega, .inr rfl⟩, h⟩) (fun hc => ?_)
 have hc : ¬ n ≤ 0 := of_decide_eq_false hc
 have hn : n ≠ 0 := by omega
 refine .cnd (fun _ => .bnd (xMk h) fun a ha => ?_) (fun _ => .bnd (xMk h) fun a ha => .bnd (xMk ha.2) fun b hb => .bnd (xMk hb.2) fun d hd => .bnd (xMk hd.2) fun e he => ?_)
 · have := vDG ha.1.1 (by omega : 0 < n)
   exact .chk hn (.mk' ⟨⟨this.1, .inl this.2⟩, ha.2⟩)
 · have a1 := ha.1; have b1 := hb.1; have d1 := hd.1; have e1 := he.1
   have key : ∀ x y z w : Int, (0 ≤ x ∧ x ≤ 255) → (0 ≤ y ∧ y ≤ 255) → (0 ≤ z ∧ z ≤ 255) → (0 ≤ w ∧ w ≤ 255) →
    0 ≤ IntKind.i64.wrap ((IntKind.i64.wrap ((IntKind.i64.wrap ((IntKind.i64.wrap (x * 16777216)) + (IntKind.i64.wrap (y * 65536)))) + (IntKind.i64.wrap (z * 256)))) + w) := by
    intro x y z w hx hy hz hw
    rw [xBw (x := x * 16777216) (by omega) (by omega), xBw (x := y * 65536) (by omega) (by omega), xBw (x := z * 256) (by omega) (by omega), xBw (x := x * 16777216 + y * 65536) (by omega) (by omega),
     xBw (x := x * 16777216 + y * 65536 + z * 256) (by omega) (by omega), xBw (by omega) (by omega)]
    omega
   have := vDG (key _ _ _ _ a1 b1 d1 e1) (by omega : 0 < n)
   exact .chk hn (.mk' ⟨⟨this.1, .inl this.2⟩, he.2⟩)
theorem xWJ {N : Nat} {c : Cur} {n : Int} (h : CurOk c) (hn : 0 < n) : Ret (xAU N c n) (Dr fun v => 0 ≤ v ∧ v < n) :=
 (xPM h).imp fun a ha => ⟨⟨ha.1.1, by have := ha.1.2; omega⟩, ha.2⟩
theorem xXm {N : Nat} {c : Cur} {n : Int} (h : CurOk c) : Ret (xGo N c n) (Dr fun _ => True) :=
 .bnd (xPM h) fun a ha => .mk' ⟨trivial, ha.2⟩
theorem xQL {N : Nat} {c : Cur} {l : List Str} (h : CurOk c) (hl : 0 < l.length) : Ret (xDf N c l) (Dr fun v => v ∈ l) := by
 refine .bnd (xWJ h (by omega)) fun a ha => ?_
 have h1 := ha.1
 refine .chk h1 (.mk' ⟨?_, ha.2⟩)
 have hlt : a.1.toNat < l.length := by omega
 show List.getD l a.1.toNat _ ∈ l
 rw [xCK (List.getElem?_eq_getElem hlt)]
 exact List.getElem_mem hlt
end Go.Ab
end
section
namespace Go.Ab
def U {ι α : Type} (S : ι → Prop) (o : ι → Option α) (Q : α → Prop) : Prop := ∃ r, Q r ∧ ∀ x, S x → o x = some r
section
variable {ι α β : Type} {S : ι → Prop} {P : α → Prop} {Q : β → Prop}
theorem U.mk' {a : α} (h : P a) : U S (fun _ => some a) P := ⟨a, h, fun _ _ => rfl⟩
theorem U.bnd {o : ι → Option α} {f : ι → α → Option β} (h : U S o P) (hf : ∀ a, P a → U S (fun x => f x a) Q) : U S (fun x => Option.bind (o x) (f x)) Q := by
 obtain ⟨a, ha, e⟩ := h
 obtain ⟨b, hb, e'⟩ := hf a ha
 exact ⟨b, hb, fun x hx => by show (o x).bind (f x) = _; rw [e x hx]; exact e' x hx⟩
theorem U.cnd {b : Bool} {p q : ι → Option α} (h1 : b = true → U S p P) (h2 : b = false → U S q P) : U S (fun x => bif b then p x else q x) P := by
 cases b
 · exact h2 rfl
 · exact h1 rfl
theorem U.chk {p : Prop} [Decidable p] {o : ι → Option α} (hp : p) (h : U S o P) : U S (fun x => if p then o x else none) P := by
 obtain ⟨a, ha, e⟩ := h
 exact ⟨a, ha, fun x hx => by show (if p then o x else none) = _; rw [if_pos hp]; exact e x hx⟩
theorem U.pre {κ : Type} {T : κ → Prop} {o : κ → Option α} (h : U T o P) (g : ι → κ) (hg : ∀ x, S x → T (g x)) : U S (fun x => o (g x)) P := by
 obtain ⟨a, ha, e⟩ := h
 exact ⟨a, ha, fun x hx => e _ (hg x hx)⟩
theorem U.ret {o : Nat → Option α} (g : ι → Nat) (h : Ret (o 0) P) (hc : ∀ N, o N = o 0) : U S (fun x => o (g x)) P := by
 obtain ⟨a, e, ha⟩ := h
 exact ⟨a, ha, fun x _ => (hc _).trans e⟩
end
theorem forU {σ ρ : Type} {L : Nat → Nat → Int → σ → Option ρ} {Q : ρ → Prop} {B : Nat} (len : Nat) (Inv : Nat → σ → Prop) (hB : len ≤ B)
 (hend : ∀ st, Inv len st → U (fun x : Nat × Nat => B < x.1) (fun x => L x.1 (x.2 + 1) (len : Nat) st) Q)
 (hstep : ∀ i st, i < len → Inv i st → (∀ st', Inv (i + 1) st' → U (fun x : Nat × Nat => B < x.1 ∧ len - (i + 1) < x.2) (fun x => L x.1 x.2 ((i + 1 : Nat) : Int) st') Q) → U (fun x : Nat × Nat => B < x.1 ∧ len - (i + 1) < x.2) (fun x => L x.1 (x.2 + 1) (i : Nat) st) Q) :
 ∀ st, Inv 0 st → U (fun N : Nat => B < N) (fun N => L N N 0 st) Q := by
 have key : ∀ k i st, len - i = k → i ≤ len → Inv i st → U (fun x : Nat × Nat => B < x.1 ∧ len - i < x.2) (fun x => L x.1 x.2 (i : Nat) st) Q := by
  intro k
  induction k with
  | zero =>
    intro i st hk hi hs
    have : i = len := by omega
    subst this
    obtain ⟨r, hr, e⟩ := hend st hs
    refine ⟨r, hr, fun x hx => ?_⟩
    obtain ⟨N, n⟩ := x
    obtain ⟨m, rfl⟩ : ∃ m, n = m + 1 := ⟨n - 1, by have := hx.2; simp at this; omega⟩
    exact e (N, m) hx.1
  | succ k ih =>
    intro i st hk hi hs
    obtain ⟨r, hr, e⟩ := hstep i st (by omega) hs fun st' h' => ih (i + 1) st' (by omega) (by omega) h'
    refine ⟨r, hr, fun x hx => ?_⟩
    obtain ⟨N, n⟩ := x
    have h2 : len - i < n := hx.2
    obtain ⟨m, rfl⟩ : ∃ m, n = m + 1 := ⟨n - 1, by omega⟩
    exact e (N, m) ⟨hx.1, by show len - (i + 1) < m; omega⟩
 intro st hs
 exact (key len 0 st (by omega) (by omega) hs).pre (fun N => (N, N)) fun N hN => ⟨hN, by have : B < N := hN; show len - 0 < N; omega⟩
section
variable {ι : Type} {S : ι → Prop} {c : Cur}
theorem xK1 (g : ι → Nat) {n : Int} (h : CurOk c) (hn : 0 < n) : U S (fun x => xAU (g x) c n) (Dr fun v => 0 ≤ v ∧ v < n) := .ret (o := fun N => xAU N c n) g (xWJ h hn) fun _ => rfl
theorem vDr (g : ι → Nat) {n : Int} (h : CurOk c) : U S (fun x => xGo (g x) c n) (Dr fun _ => True) := .ret (o := fun N => xGo N c n) g (xXm h) fun _ => rfl
theorem vCl (g : ι → Nat) {l : List Str} (h : CurOk c) (hl : 0 < l.length) : U S (fun x => xDf (g x) c l) (Dr fun v => v ∈ l) := .ret (o := fun N => xDf N c l) g (xQL h hl) fun _ => rfl
theorem newU (g : ι → Nat) {a : List Int} (h : a.length ≤ 1048576) (hS : ∀ x, S x → 1048576 < g x) : U S (fun x => xHw (g x) a) CurOk := by
 have key : U (fun N : Nat => 1048576 < N) (fun N => xHw N a) CurOk := by
  unfold xHw
  refine forU (σ := Int) (L := fun N m i st => xGx N m a st i) (B := 1048576) a.length (fun _ _ => True) h (fun st _ => ?_) (fun i st hi _ ih => ?_) _ trivial
  · simp only [xGx, Int.lt_irrefl, decide_false, jF]
    exact .mk' ⟨by show (0 : Int) ≤ 0; omega, h⟩
  · simp only [xGx, decide_eq_true (show (i : Int) < (a.length : Int) by omega), jT, xBI hi (by omega : a.length ≤ _)]
    exact .cnd (fun _ => .chk ⟨by omega, by omega⟩ (ih _ trivial)) (fun _ => .mk' ⟨by show (0 : Int) ≤ 0; omega, h⟩)
 exact key.pre g hS
end
theorem xKL {v : Int} (h : 0 ≤ v) : ∃ n : Nat, v = (n : Int) := ⟨v.toNat, by omega⟩
end Go.Ab
end
section
namespace Go.Ab
def E2 {α : Type} (o : Nat → Nat → Option α) (Q : α → Prop) : Prop := ∃ r, Q r ∧ Big2 fun N d => o N d = some r
section
variable {α β : Type} {P : α → Prop} {Q : β → Prop}
theorem E2.mk' {a : α} (h : P a) : E2 (fun _ _ => some a) P := ⟨a, h, .of fun _ _ => rfl⟩
theorem E2.bnd {o : Nat → Nat → Option α} {f : Nat → Nat → α → Option β} (h : E2 o P) (hf : ∀ a, P a → E2 (fun N d => f N d a) Q) : E2 (fun N d => Option.bind (o N d) (f N d)) Q := by
 obtain ⟨a, ha, e⟩ := h
 obtain ⟨b, hb, e'⟩ := hf a ha
 exact ⟨b, hb, (e.and e').imp fun N d ⟨h1, h2⟩ => by show (o N d).bind (f N d) = _; rw [h1]; exact h2⟩
theorem E2.cnd {b : Bool} {p q : Nat → Nat → Option α} (h1 : b = true → E2 p P) (h2 : b = false → E2 q P) : E2 (fun N d => bif b then p N d else q N d) P := by
 cases b
 · exact h2 rfl
 · exact h1 rfl
theorem E2.chk {p : Prop} [Decidable p] {o : Nat → Nat → Option α} (hp : p) (h : E2 o P) : E2 (fun N d => if p then o N d else none) P := by
 obtain ⟨a, ha, e⟩ := h
 exact ⟨a, ha, e.imp fun N d h => by show (if p then o N d else none) = _; rw [if_pos hp]; exact h⟩
theorem E2.succ {o : Nat → Nat → Option α} (h : E2 (fun N d => o N (d + 1)) P) : E2 o P := by
 obtain ⟨a, ha, e⟩ := h
 exact ⟨a, ha, e.succ⟩
theorem E2.ofU {B : Nat} {o : Nat → Option α} (h : U (fun N => B < N) o P) : E2 (fun N _ => o N) P := by
 obtain ⟨a, ha, e⟩ := h
 exact ⟨a, ha, B + 1, fun N n h _ => e N (by omega)⟩
theorem E2.ofBig {o : Nat → Option α} {a : α} (h : Big fun N => o N = some a) (ha : P a) : E2 (fun N _ => o N) P := ⟨a, ha, h.two⟩
theorem E2.diag {o : Nat → Nat → Option α} (h : E2 o P) : ∃ r, P r ∧ Big fun N => o N N = some r := by
 obtain ⟨a, ha, e⟩ := h
 exact ⟨a, ha, e.diag⟩
end
theorem xJG {c : Cur} {n : Int} (h : CurOk c) (hn : 0 < n) : E2 (fun N _ => xAU N c n) (Dr fun v => 0 ≤ v ∧ v < n) := .ofU (B := 0) (xK1 id h hn)
theorem vFn {c : Cur} {n : Int} (h : CurOk c) : E2 (fun N _ => xGo N c n) (Dr fun _ => True) := .ofU (B := 0) (vDr id h)
theorem xOy {c : Cur} {l : List Str} (h : CurOk c) (hl : 0 < l.length) : E2 (fun N _ => xDf N c l) (Dr fun v => v ∈ l) := .ofU (B := 0) (vCl id h hl)
def EDr (s : Nat) (e : Exp) : Prop := e.Fit 1000 ∧ e.size ≤ s
theorem EDr.mono {s s' : Nat} {e : Exp} (h : EDr s e) (hs : s ≤ s') : EDr s' e := ⟨h.1, Nat.le_trans h.2 hs⟩
def sizes (a : List Exp) : Nat := (a.map Exp.size).sum
theorem xKi {k n : Int} {t : Str} {a : List Exp} {s : Nat} (hk : 0 ≤ k ∧ k ≤ 1000) (hn : 0 ≤ n ∧ n ≤ 1000) (ht : t.length ≤ 8) (ha : a.length ≤ 1000) (hx : ∀ x ∈ a, x.Fit 1000) (hs : t.length + (a.length + sizes a) ≤ s) : EDr s (.mk k n t a) :=
 ⟨xHz (xEn hk) (xEn hn) (by omega) ha hx, by rw [xGI]; exact hs⟩
theorem xHy {k n : Int} {t : Str} (hk : 0 ≤ k ∧ k ≤ 1000) (hn : 0 ≤ n ∧ n ≤ 1000) (ht : t.length ≤ 8) : EDr 8 (.mk k n t []) := xKi hk hn ht (by simp) (fun x hx => by cases hx) (by simp [sizes]; omega)
theorem all1 {p : Exp → Prop} {a : Exp} (h : p a) : ∀ x ∈ [a], p x := fun x hx => by
 simp only [List.mem_cons, List.not_mem_nil, or_false] at hx; subst hx; exact h
theorem all2 {p : Exp → Prop} {a b : Exp} (h : p a) (h' : p b) : ∀ x ∈ [a, b], p x := fun x hx => by
 simp only [List.mem_cons, List.not_mem_nil, or_false] at hx
 rcases hx with rfl | rfl <;> assumption
theorem all3 {p : Exp → Prop} {a b c : Exp} (h : p a) (h' : p b) (h'' : p c) : ∀ x ∈ [a, b, c], p x := fun x hx => by
 simp only [List.mem_cons, List.not_mem_nil, or_false] at hx
 rcases hx with rfl | rfl | rfl <;> assumption
theorem edr1 {k : Int} {t : Str} {a : Exp} {s : Nat} (hk : 0 ≤ k ∧ k ≤ 1000) (ht : t.length ≤ 8) (h : EDr s a) : EDr (s + 9) (.mk k 0 t [a]) :=
 xKi hk (by omega) ht (by simp) (all1 h.1) (by have := h.2; simp only [sizes, List.map_cons, List.map_nil, List.sum_cons, List.sum_nil, jC, jN]; omega)
theorem edr2 {k n : Int} {t : Str} {a b : Exp} {s s' : Nat} (hk : 0 ≤ k ∧ k ≤ 1000) (hn : 0 ≤ n ∧ n ≤ 1000) (ht : t.length ≤ 8) (h : EDr s a) (h' : EDr s' b) : EDr (s + s' + 10) (.mk k n t [a, b]) :=
 xKi hk hn ht (by simp) (all2 h.1 h'.1) (by have := h.2; have := h'.2; simp only [sizes, List.map_cons, List.map_nil, List.sum_cons, List.sum_nil, jC, jN]; omega)
theorem edr3 {k : Int} {t : Str} {a b c : Exp} {s s' s'' : Nat} (hk : 0 ≤ k ∧ k ≤ 1000) (ht : t.length ≤ 8) (h : EDr s a) (h' : EDr s' b) (h'' : EDr s'' c) : EDr (s + s' + s'' + 11) (.mk k 0 t [a, b, c]) :=
 xKi hk (by omega) ht (by simp) (all3 h.1 h'.1 h''.1) (by have := h.2; have := h'.2; have := h''.2; simp only [sizes, List.map_cons, List.map_nil, List.sum_cons, List.sum_nil, jC, jN]; omega)
def Nms (k : Nat) (l : List Str) : Prop := 0 < l.length ∧ l.length + 2 * k ≤ 100 ∧ ∀ s ∈ l, s.length ≤ 8
theorem xTe {c : Cur} (h : CurOk c) {k : Nat} {l : List Str} (hl : Nms k l) : U (fun N : Nat => 1000 < N) (fun N => xG1 N c l) (Dr (EDr 8)) := by
 refine .bnd (xK1 id h (by decide)) fun a ha => ?_
 have num : ∀ b : Int × Cur, (0 ≤ b.1 ∧ b.1 < 6) → CurOk b.2 → U (fun N : Nat => 1000 < N) (fun N => Option.bind (xCY N b.1) fun r3 => some (r3, b.2)) (Dr (EDr 8)) := fun b h1 h2 =>
  .mk' ⟨xHy (k := 1) (n := b.1) (t := []) (by omega) (by omega) (by simp), h2⟩
 refine .cnd (fun _ => .bnd (vCl id ha.2 (by decide)) fun b hb => .mk' ⟨xHy (by omega) (by omega) ?_, hb.2⟩)
  (fun _ => .cnd (fun _ => .bnd (xK1 id ha.2 (by decide)) fun b hb => num b hb.1 hb.2) (fun _ => .cnd (fun _ => .bnd (xK1 id ha.2 (by decide)) fun b hb => num b hb.1 hb.2) (fun _ => .bnd (vCl id ha.2 hl.1) fun b hb => .mk' ⟨xHy (k := 3) (n := 0) (by omega) (by omega) (hl.2.2 _ hb.1), hb.2⟩)))
 have := hb.1
 simp only [List.mem_cons, List.not_mem_nil, or_false] at this
 rcases this with e | e | e | e <;> rw [e] <;> decide
def LDr (i : Nat) (l : List Exp) : Prop := l.length = i ∧ (∀ x ∈ l, EDr 20 x)
theorem xQl {s : Nat} : ∀ {l : List Exp}, (∀ x ∈ l, EDr s x) → sizes l ≤ s * l.length
 | [], _ => by simp [sizes]
 | x :: l, h => by
   have h1 := (h x List.mem_cons_self).2
   have h2 := xQl fun y hy => h y (List.mem_cons_of_mem _ hy)
   simp only [sizes, List.map_cons, List.sum_cons, jC, Nat.mul_add] at h2 ⊢
   omega
theorem LDr.app {i : Nat} {l : List Exp} {x : Exp} (h : LDr i l) (hx : EDr 20 x) : LDr (i + 1) (l ++ [x]) := by
 refine ⟨by rw [jA, h.1]; rfl, fun y hy => ?_⟩
 rcases List.mem_append.1 hy with hy | hy
 · exact h.2 y hy
 · rw [List.mem_singleton.1 hy]; exact hx
theorem LDr.edr {i : Nat} {l : List Exp} (h : LDr i l) (hi : i ≤ 4) : EDr 100 (.mk 4 0 [] l) := by
 have h1 := xQl h.2
 have h2 := h.1
 exact xKi (by omega) (by omega) (by simp) (by omega) (fun x hx => (h.2 x hx).1) (by rw [h2] at h1 ⊢; simp only [jN]; omega)
theorem xTf {c : Cur} (h : CurOk c) {k : Nat} {l : List Str} (hl : Nms k l) : U (fun N : Nat => 1000 < N) (fun N => xGl N c l) (Dr (EDr 100)) := by
 refine .bnd (xK1 id h (by decide)) fun a ha => ?_
 obtain ⟨n, hn⟩ := xKL ha.1.1
 have hn2 : n < 4 := by have := ha.1.2; omega
 rw [hn]
 refine forU (σ := List Exp × Cur) (L := fun N m i st => xE6 N m l n i st.2 (Exp.mk 0 0 [] []) (Exp.mk 4 0 [] st.1)) (B := 1000) n (fun i st => LDr i st.1 ∧ CurOk st.2) (by omega) (fun st hs => ?_) (fun i st hi hs ih => ?_) ([], a.2) ⟨⟨rfl, fun x hx => by cases hx⟩, ha.2⟩
 · simp only [xE6, Int.lt_irrefl, decide_false, jF]
   exact .mk' ⟨hs.1.edr (by omega), hs.2⟩
 · have hlen := hs.1.1
   simp only [xE6, xCY, decide_eq_true (show (i : Int) < (n : Int) by omega), jT, xBI hi (by omega : n ≤ _), jS, Exp.re_eq, ek, en, et, ea]
   refine .bnd (xK1 _ hs.2 (by decide)) fun b hb => .chk (by simp only [jC, jN]; unfold Lim; omega) (.bnd (vDr _ hb.2) fun d hd => .cnd (fun _ => ?_) (fun _ => ih (st.1 ++ [_], d.2) ⟨hs.1.app ?_, hd.2⟩))
   · refine .bnd ((xTe hd.2 hl).pre (fun x : Nat × Nat => x.1) fun x hx => hx.1) fun e he => .chk (by simp only [jA, jC, jN]; omega) (ih ((st.1 ++ [_]).set i e.1, e.2) ⟨⟨by rw [List.length_set, jA, hlen]; rfl, fun y hy => ?_⟩, he.2⟩)
     rcases List.mem_or_eq_of_mem_set hy with hy | hy
     · rcases List.mem_append.1 hy with hy | hy
       · exact hs.1.2 y hy
       · rw [List.mem_singleton.1 hy]
         have := hb.1
         exact (xHy (by omega) (by omega) (by simp)).mono (by omega)
     · rw [hy]; exact he.1.mono (by omega)
   · have := hb.1
     exact (xHy (by omega) (by omega) (by simp)).mono (by omega)
theorem xSP {c : Cur} (h : CurOk c) : U (fun N : Nat => 1000 < N) (fun N => xGv N c) (Dr (EDr 150)) := by
 refine .bnd (xK1 id h (by decide)) fun a ha => ?_
 obtain ⟨n, hn⟩ := xKL ha.1.1
 have hn2 : n < 4 := by have := ha.1.2; omega
 rw [hn]
 have z8 : ∀ {m : Int}, 0 ≤ m ∧ m ≤ 1000 → EDr 0 (Exp.mk 1 m [] []) := fun hm => xKi (by omega) hm (by simp) (by simp) (fun x hx => by cases hx) (by simp [sizes])
 refine forU (σ := List Exp × Cur) (L := fun N m i st => xFl N m n i st.2 (Exp.mk 0 0 [] []) (Exp.mk 4 0 [] st.1)) (B := 1000) n (fun i st => LDr i st.1 ∧ CurOk st.2) (by omega) (fun st hs => ?_) (fun i st hi hs ih => ?_) ([], a.2) ⟨⟨rfl, fun x hx => by cases hx⟩, ha.2⟩
 · simp only [xFl, xDj, Int.lt_irrefl, decide_false, jF, jS, Exp.re_eq]
   refine .mk' ⟨(edr2 (by omega) (by omega) (by decide) (xHy (k := 2) (n := 0) (by omega) (by omega) (by decide)) (hs.1.edr (by omega))).mono (by omega), hs.2⟩
 · have hlen := hs.1.1
   simp only [xFl, xCY, decide_eq_true (show (i : Int) < (n : Int) by omega), jT, xBI hi (by omega : n ≤ _), jS, Exp.re_eq, ek, en, et, ea]
   refine .bnd (xK1 _ hs.2 (by decide)) fun b hb => .bnd (xK1 _ hb.2 (by decide)) fun d hd => .chk (by simp only [jC, jN]; unfold Lim; omega) (ih (st.1 ++ [_], d.2) ⟨hs.1.app ?_, hd.2⟩)
   have h1 := hb.1; have h2 := hd.1
   exact (edr2 (by omega) (by omega) (by simp) (z8 (by omega)) (z8 (by omega))).mono (by omega)
theorem xNi {c : Cur} (h : CurOk c) {a b : Exp} {s : Nat} (ha : EDr s a) (hb : EDr s b) : E2 (fun N _ => xDS N c a b) (Dr (EDr s)) :=
 .bnd (vFn h) fun r hr => .cnd (fun _ => .mk' ⟨ha, hr.2⟩) (fun _ => .mk' ⟨hb, hr.2⟩)
theorem xON {c : Cur} (h : CurOk c) : E2 (fun N _ => xF4 N c) (Dr (EDr 8)) := by
 refine .bnd (xOy h (by decide)) fun b hb => .mk' ⟨xHy (by omega) (by omega) ?_, hb.2⟩
 have := hb.1
 simp only [List.mem_cons, List.not_mem_nil, or_false] at this
 rcases this with e | e | e | e | e <;> rw [e] <;> decide
def bnd4 (k : Nat) : Nat := 400 * 4 ^ k
theorem xQ0 (k : Nat) : bnd4 (k + 1) = 4 * bnd4 k := by unfold bnd4; rw [Nat.pow_succ]; omega
theorem xPN (k : Nat) : 400 ≤ bnd4 k := by
 unfold bnd4
 have : 0 < 4 ^ k := Nat.pow_pos (by omega)
 omega
theorem vFm : ∀ (k : Nat) (c : Cur) (l : List Str), k ≤ 10 → CurOk c → Nms k l → E2 (fun N d => xDA N d c l (k : Int)) (Dr (EDr (bnd4 k))) := by
 intro k
 induction k with
 | zero =>
   intro c l _ hc hl
   refine .succ ?_
   show E2 (fun N d => xEb N (xDA N d) c l ((0 : Nat) : Int)) _
   unfold xEb
   refine .cnd (fun _ => .bnd (.ofU (xTe hc hl)) fun a ha => .mk' ⟨ha.1.mono (by have := xPN 0; omega), ha.2⟩) (fun h => by simp at h)
 | succ k ih =>
   intro c l hk hc hl
   have b1 := xQ0 k
   have b0 := xPN k
   have hl' : Nms k l := ⟨hl.1, by have := hl.2.1; omega, hl.2.2⟩
   refine .succ ?_
   show E2 (fun N d => xEb N (xDA N d) c l ((k + 1 : Nat) : Int)) _
   have wk : IntKind.i64.wrap (((k + 1 : Nat) : Int) - 1) = (k : Int) := by rw [xBw (by omega) (by omega)]; omega
   have hrec : ∀ (c : Cur) (l : List Str), CurOk c → Nms k l → E2 (fun N d => xDA N d c l (k : Int)) (Dr (EDr (bnd4 k))) := fun c l => ih c l (by omega)
   unfold xEb
   simp only [wk, sOp, xDj, xCY, jS, Exp.re_eq]
   have leaf8 : ∀ {m : Int}, 0 ≤ m ∧ m ≤ 1000 → EDr 8 (Exp.mk 1 m [] []) := fun hm => xHy (by omega) hm (by simp)
   refine .cnd (fun _ => .bnd (.ofU (xTe hc hl)) fun a ha => .mk' ⟨ha.1.mono (by omega), ha.2⟩) (fun _ => .bnd (xJG hc (by decide)) fun a ha => ?_)
   have op2 : E2 (fun N d => Option.bind (xAU N a.2 5) fun r2 => Option.bind (xDA N d r2.2 l (k : Int)) fun r3 => Option.bind (xDA N d r3.2 l (k : Int)) fun r4 => some (Exp.mk 6 (IntKind.i64.wrap (1 + r2.1)) [] [r3.1, r4.1], r4.2)) (Dr (EDr (bnd4 (k + 1)))) :=
    .bnd (xJG ha.2 (by decide)) fun b hb => .bnd (hrec _ _ hb.2 hl') fun x hx => .bnd (hrec _ _ hx.2 hl') fun y hy => .mk' ⟨(edr2 (by omega) (by
      have h1 := hb.1
      rw [xBw (by omega) (by omega)]; omega) (by simp) hx.1 hy.1).mono (by omega), hy.2⟩
   have nm3 : ∀ v : Str, v ∈ [[117], [118], List.getD l (Int.toNat 0) Ty.str.dflt] → v.length ≤ 8 := fun v hv => by
    simp only [List.mem_cons, List.not_mem_nil, or_false] at hv
    rcases hv with e | e | e
    · rw [e]; decide
    · rw [e]; decide
    · rw [e]
      obtain ⟨s, r, rfl⟩ : ∃ s r, l = s :: r := by
       cases l with
       | nil => exact absurd hl.1 (by simp)
       | cons s r => exact ⟨s, r, rfl⟩
      exact hl.2.2 s List.mem_cons_self
   have hpos : (0 : Int) ≤ 0 ∧ (0 : Int) < (List.length l) := ⟨by omega, by have := hl.1; omega⟩
   refine .cnd (fun _ => op2) (fun _ => .cnd (fun _ => op2) (fun _ => .cnd (fun _ => ?_) (fun _ => .cnd (fun _ => ?_) (fun _ => .cnd (fun _ => ?_) (fun _ => .cnd (fun _ => ?_) (fun _ => .cnd (fun _ => ?_) (fun _ => .cnd (fun _ => ?_) (fun _ => .cnd (fun _ => ?_) (fun _ => .cnd (fun _ => ?_) (fun _ => .cnd (fun _ => ?_) (fun _ => .cnd (fun _ => ?_) (fun _ => ?_))))))))))))
   · refine .chk hpos (.bnd (xOy ha.2 (by simp)) fun b hb => .bnd (hrec _ _ hb.2 hl') fun x hx => .chk (by have := hl.2.1; simp only [jC, jN]; unfold Lim; omega) (.bnd (hrec _ _ hx.2 ⟨by simp, by have := hl.2.1; simp only [jA, jC, jN]; omega, fun s hs => ?_⟩) fun y hy => .mk' ⟨(edr2 (by omega) (by omega) (nm3 _ hb.1) hx.1 hy.1).mono (by omega), hy.2⟩))
     rcases List.mem_append.1 hs with hs | hs
     · rw [List.mem_singleton.1 hs]; exact nm3 _ hb.1
     · exact hl.2.2 s hs
   · exact .bnd (hrec _ _ ha.2 hl') fun x hx => .bnd (hrec _ _ hx.2 hl') fun y hy => .bnd (hrec _ _ hy.2 hl') fun z hz => .mk' ⟨(edr3 (by omega) (by simp) hx.1 hy.1 hz.1).mono (by omega), hz.2⟩
   · refine .chk hpos (.bnd (xOy ha.2 (by simp)) fun b hb => .bnd (.ofU (xTf hb.2 hl)) fun x hx => .chk (by have := hl.2.1; simp only [jC, jN]; unfold Lim; omega) (.bnd (hrec _ _ hx.2 ⟨by simp, by have := hl.2.1; simp only [jA, jC, jN]; omega, fun s hs => ?_⟩) fun y hy => .mk' ⟨(edr2 (by omega) (by omega) (nm3 _ hb.1) hx.1 hy.1).mono (by omega), hy.2⟩))
     rcases List.mem_append.1 hs with hs | hs
     · simp only [List.mem_cons, List.not_mem_nil, or_false] at hs
       rcases hs with rfl | rfl <;> exact nm3 _ hb.1
     · exact hl.2.2 s hs
   · exact .bnd (.ofU (xTf ha.2 hl)) fun x hx => .mk' ⟨hx.1.mono (by omega), hx.2⟩
   · refine .bnd (xOy ha.2 (by decide)) fun b hb => .bnd (.ofU (xTf hb.2 hl)) fun x hx => .bnd (hrec _ _ hx.2 hl') fun y hy => .bnd (xNi hy.2 (hx.1.mono (by omega : 100 ≤ bnd4 k)) hy.1) fun z hz => .mk' ⟨(edr1 (by omega) ?_ hz.1).mono (by omega), hz.2⟩
     have := hb.1
     simp only [List.mem_cons, List.not_mem_nil, or_false] at this
     rcases this with e | e <;> rw [e] <;> decide
   · refine .bnd (xOy ha.2 (by decide)) fun b hb => .bnd (xJG hb.2 (by decide)) fun d hd => .bnd (.ofU (xTf hd.2 hl)) fun x hx => .bnd (xJG hx.2 (by decide)) fun f hf => .bnd (xJG hf.2 (by decide)) fun g hg => ?_
     have h1 := hd.1; have h2 := hf.1; have h3 := hg.1
     refine .bnd (xNi hg.2 hx.1 ((edr2 (by omega) (by omega) (by decide) (leaf8 (by omega)) (leaf8 (by omega))).mono (by omega))) fun z hz => .mk' ⟨(edr2 (by omega) (by omega) ?_ (leaf8 (by omega)) hz.1).mono (by omega), hz.2⟩
     have := hb.1
     simp only [List.mem_cons, List.not_mem_nil, or_false] at this
     rcases this with e | e | e | e <;> rw [e] <;> decide
   · refine .bnd (xON ha.2) fun b hb => .bnd (xJG hb.2 (by decide)) fun d hd => .bnd (.ofU (xSP hd.2)) fun x hx => .bnd (hrec _ _ hx.2 hl') fun y hy => .bnd (xNi hy.2 (hx.1.mono (by omega : 150 ≤ bnd4 k)) hy.1) fun z hz => ?_
     have h1 := hd.1
     exact .mk' ⟨(edr3 (by omega) (by decide) hb.1 (leaf8 (by omega)) hz.1).mono (by omega), hz.2⟩
   · exact .bnd (xON ha.2) fun b hb => .bnd (xON hb.2) fun d hd => .bnd (.ofU (xSP hd.2)) fun x hx => .bnd (hrec _ _ hx.2 hl') fun y hy => .bnd (xNi hy.2 (hx.1.mono (by omega : 150 ≤ bnd4 k)) hy.1) fun z hz => .mk' ⟨(edr3 (by omega) (by decide) hb.1 hd.1 hz.1).mono (by omega), hz.2⟩
   · exact .bnd (.ofU (xSP ha.2)) fun x hx => .bnd (hrec _ _ hx.2 hl') fun y hy => .bnd (xNi hy.2 (hx.1.mono (by omega : 150 ≤ bnd4 k)) hy.1) fun z hz => .mk' ⟨(edr1 (by omega) (by decide) hz.1).mono (by omega), hz.2⟩
   · refine .bnd (xJG ha.2 (by decide)) fun b hb => ?_
     have h1 := hb.1
     exact .mk' ⟨(edr1 (by omega) (by decide) (leaf8 (by rw [xBw (by omega) (by omega)]; omega))).mono (by omega), hb.2⟩
   · refine .bnd (xOy ha.2 (by decide)) fun b hb => .bnd (xNi hb.2 (s := 400) ((xHy (k := 5) (n := 0) (by omega) (by omega) (by decide)).mono (by omega)) ((edr1 (by omega) (by decide) (xHy (k := 2) (n := 0) (t := b.1) (by omega) (by omega) ?_)).mono (by omega))) fun z hz => .mk' ⟨hz.1.mono (by omega), hz.2⟩
     have := hb.1
     simp only [List.mem_cons, List.not_mem_nil, or_false] at this
     rcases this with e | e | e <;> rw [e] <;> decide
theorem nms0 : Nms 10 [[97], [98], [99]] := ⟨by decide, by decide, fun s hs => by
 simp only [List.mem_cons, List.not_mem_nil, or_false] at hs
 rcases hs with rfl | rfl | rfl <;> decide⟩
theorem vFj {c : Cur} (h : CurOk c) : E2 (fun N _ => xIz N c) (Dr (EDr 110000)) := by
 refine .bnd (xJG h (by decide)) fun a ha => ?_
 obtain ⟨n, hn⟩ := xKL ha.1.1
 have hn2 : n < 4 := by have := ha.1.2; omega
 have wn : IntKind.i64.wrap (1 + a.1) = ((n + 1 : Nat) : Int) := by rw [hn, xBw (by omega) (by omega)]; omega
 rw [wn]
 obtain ⟨r, hr, hb⟩ := (vFm (n + 1) a.2 [[97], [98], [99]] (by omega) ha.2 ⟨by decide, by simp only [jC, jN]; omega, nms0.2.2⟩).diag
 have hsz : bnd4 (n + 1) ≤ 102400 := by
  unfold bnd4
  have : 4 ^ (n + 1) ≤ 4 ^ 4 := Nat.pow_le_pow_right (by omega) (by omega)
  have e : (4 : Nat) ^ 4 = 256 := by decide
  omega
 have hr1 := hr.1.mono hsz
 refine .bnd (.ofBig (o := fun N => xKa N a.2 [[97], [98], [99]] ((n + 1 : Nat) : Int)) hb (P := fun x => x = r) rfl) fun x hx => ?_
 subst hx
 refine .bnd (.ofBig ((xLq (K := 1000) (by omega) hr1.1 (by have := hr1.2; omega)).imp fun N h => h.2) (P := fun _ => True) trivial) fun v _ => .cnd (fun _ => .bnd (.ofU (xTe hr.2 nms0)) fun y hy => .mk' ⟨hy.1.mono (by omega), hy.2⟩) (fun _ => .mk' ⟨hr1.mono (by omega), hr.2⟩)
theorem xW7 {e : Exp} (h : EDr 110000 e) : (fmtE e).length ≤ 100000000 := by
 unfold fmtE
 cases xFc e
 · simp
 · have h1 := xN0 1000 e h.1
   have h2 := Exp.cnt_le e
   have h3 := h.2
   simp only [Bool.not_true, jF]
   omega
theorem vCv {c : Cur} (h : CurOk c) {s : Str} (hs : s.length ≤ 100000000) {l : List Str} (hl : 0 < l.length) (hl2 : ∀ x ∈ l, x.length ≤ 100) : E2 (fun N _ => xHh N c s l) (Dr fun v => v.length ≤ 200000000) := by
 have w : IntKind.i64.wrap ((s.length : Int) + 1) = (s.length : Int) + 1 := xBw (by omega) (by omega)
 unfold xHh
 rw [w]
 refine .bnd (xJG h (by omega)) fun a ha => .bnd (xJG ha.2 (by decide)) fun b hb => ?_
 have h1 := ha.1
 have hc : (0 : Int) ≤ a.1 ∧ a.1 ≤ (List.length s) := by omega
 have t1 : (List.take (Int.toNat a.1) s).length ≤ s.length := by rw [List.length_take]; omega
 have t2 : (List.drop (Int.toNat a.1) s).length ≤ s.length := by rw [List.length_drop]; omega
 refine .cnd (fun _ => .chk hc (.bnd (xOy hb.2 hl) fun d hd => ?_)) (fun _ => .cnd (fun _ => .chk hc (.mk' ⟨by show (List.take _ s).length ≤ _; omega, hb.2⟩)) (fun _ => .mk' ⟨by show s.length ≤ _; omega, hb.2⟩))
 have h2 := hl2 _ hd.1
 refine .chk (by unfold Lim; omega) (.chk (by rw [jA]; unfold Lim; omega) (.mk' ⟨?_, hd.2⟩))
 show List.length (_ ++ _ ++ _) ≤ _
 rw [jA, jA]
 have t3 : (List.take (Int.toNat a.1) s).length + (List.drop (Int.toNat a.1) s).length = s.length := by rw [List.length_take, List.length_drop]; omega
 omega
theorem vFi {c : Cur} (h : CurOk c) : E2 (fun N _ => xIB N c) (Dr fun v => v.length ≤ 200000000) := by
 refine .bnd (vFj h) fun a ha => .bnd (.ofBig ((xMp (K := 1000) (by omega) ha.1.1 (by have := ha.1.2; omega)).imp fun N h => h.2) (P := fun s => s = fmtE a.1) rfl) fun s hs => .bnd (xJG ha.2 (by decide)) fun b hb => ?_
 have hl := xW7 ha.1
 rw [← hs] at hl
 refine .cnd (fun _ => .bnd (vCv hb.2 hl (by decide) (fun x hx => ?_)) fun d hd => .mk' hd) (fun _ => .cnd (fun _ => .bnd (xOy hb.2 (by decide)) fun d hd => .mk' ⟨?_, hd.2⟩) (fun _ => .mk' ⟨by show s.length ≤ _; omega, hb.2⟩))
 · have key : ∀ x ∈ ([[32], [40], [41], [44], [32, 43, 32], [32, 105, 110, 32], [108, 101, 116, 32], [120], [61], [93]] : List Str), x.length ≤ 100 := by decide
   exact key x hx
 · have key : ∀ x ∈ ([[], [49, 32, 43, 32, 50, 32, 42, 32, 51], [40, 49, 32, 43, 32, 50, 41, 32, 42, 32, 51], [49, 32, 60, 32, 50, 32, 60, 32, 51], [97, 32, 45, 32, 98, 32, 45, 32, 99], [108, 101, 116, 32, 120, 32, 61, 32, 49, 32, 105, 110, 32, 120, 32, 43, 32, 120], [102, 111, 114, 32, 117, 32, 105, 110, 32, 91, 49, 44, 32, 50, 93, 32, 100, 111, 32, 117, 32, 42, 32, 117], [105, 102, 32, 97, 32, 116, 104, 101, 110, 32, 98, 32, 101, 108, 115, 101, 32, 99], [115, 117, 109, 40, 49, 44, 32, 50, 41], [102, 40, 49, 41], [108, 101, 116, 32, 108, 101, 116, 32, 61, 32, 49, 32, 105, 110, 32, 50], [115, 117, 109], [49, 32, 50], [91, 49, 44, 93], [91, 93], [40, 40, 97, 41, 41], [49, 32, 43, 32, 108, 101, 116, 32, 120, 32, 61, 32, 49, 32, 105, 110, 32, 120]] : List Str), x.length ≤ 200000000 := by decide
   exact key _ hd.1
theorem newE {a : List Int} (h : a.length ≤ 1048576) : E2 (fun N _ => xHw N a) CurOk := .ofU (B := 1048576) (newU id h fun x hx => hx)
end Go.Ab
end
section
namespace Go.Ab
theorem xSB {T : List Tok} (hT : TokT 10000 T) (hl : T.length ≤ 60) : match pE (T.length + 1) T with | .ok e r => r <:+ T | .err r => r <:+ T := by
 have hN := xWV (N := 20001) hT (by omega) (by omega) (by omega) (T.length + 1) 20001 (by omega) T (List.suffix_refl _) (by omega)
 cases hp : pE (T.length + 1) T with
 | ok e r => rw [hp] at hN; exact hN.1
 | err r => rw [hp] at hN; obtain ⟨_, _, _, _, _, h⟩ := hN; exact h
end Go.Ab
end
section
namespace Go.Ab
def tkN (t : Str) : Tok := ⟨1, 0, 0, t⟩
def tkS (t : Str) : Tok := ⟨4, 0, 0, t⟩
def atZ (t : Tok) : Tok := ⟨t.kind, t.n, 0, t.text⟩
def xIF (l : Int) (x : Exp) (s : List Tok) : List Tok := bif decide (lvl x < l) then [tkS [40]] ++ s ++ [tkS [41]] else s
def xEm : List (List Tok) → List Tok
 | [] => []
 | a :: r => [tkS [44]] ++ a ++ xEm r
def xIr : List (List Tok) → List Tok
 | [] => []
 | a :: r => a ++ xEm r
def xOY (k n : Int) (t : Str) (a : List Exp) (s : List (List Tok)) : List Tok :=
 bif k == 1 then [⟨2, n, 0, []⟩] else bif k == 2 then [⟨3, 0, 0, t⟩] else bif k == 3 then [tkN t]
 else bif k == 4 then [tkS [91]] ++ xIr s ++ [tkS [93]]
 else bif k == 5 then [tkN t] ++ [tkS [40]] ++ xIr s ++ [tkS [41]]
 else bif k == 7 then [tkN [108, 101, 116]] ++ [tkN t] ++ [tkS [61]] ++ s.getD 0 [] ++ [tkN [105, 110]] ++ s.getD 1 []
 else bif k == 9 then [tkN [102, 111, 114]] ++ [tkN t] ++ [tkN [105, 110]] ++ s.getD 0 [] ++ [tkN [100, 111]] ++ s.getD 1 []
 else bif k == 8 then [tkN [105, 102]] ++ s.getD 0 [] ++ [tkN [116, 104, 101, 110]] ++ s.getD 1 [] ++ [tkN [101, 108, 115, 101]] ++ s.getD 2 []
 else xIF (bif lvl (.mk k n t a) == 1 then 2 else lvl (.mk k n t a)) (a.getD 0 Ty.exp.dflt) (s.getD 0 []) ++ [tkS (xKq n)] ++ xIF (lvl (.mk k n t a) + 1) (a.getD 1 Ty.exp.dflt) (s.getD 1 [])
mutual
def xA6 : Exp → List Tok
 | .mk k n t a => xOY k n t a (xQp a)
def xQp : List Exp → List (List Tok)
 | [] => []
 | x :: r => xA6 x :: xQp r
end
theorem xST (l : List Exp) : xQp l = l.map xA6 := by
 induction l with
 | nil => rfl
 | cons x l ih => simp only [xQp, List.map_cons, ih]
theorem xGz (k n : Int) (t : Str) (a : List Exp) : xA6 (.mk k n t a) = xOY k n t a (a.map xA6) := by
 simp only [xA6, xST]
def Lx (p : Int) (acc : List Tok) (s : Str) (p' : Int) (acc' : List Tok) (r : Str) : Prop := ∀ n, s.length < n → ∃ n', r.length < n' ∧ lexL n p acc s = lexL n' p' acc' r
theorem Lx.trans {p p' p'' : Int} {acc acc' acc'' : List Tok} {s s' s'' : Str} (h : Lx p acc s p' acc' s') (h' : Lx p' acc' s' p'' acc'' s'') : Lx p acc s p'' acc'' s'' := fun n hn => by
 obtain ⟨m, h1, h2⟩ := h n hn
 obtain ⟨k, h3, h4⟩ := h' m h1
 exact ⟨k, h3, h2.trans h4⟩
theorem Lx.tok {p : Int} {acc : List Tok} {c : UInt8} {l r : Str} {t : Tok} (h32 : (c.toNat == 32) = false) (ho : xIK p (c :: l) = some (t, r)) (h60 : acc.length < 60) : Lx p acc (c :: l) (p + ((c :: l).length - r.length : Nat)) (acc ++ [t]) r := fun n hn => by
 have hr := xLb ho
 obtain ⟨k, rfl⟩ : ∃ k, n = k + 1 := ⟨n - 1, by omega⟩
 refine ⟨k, by omega, ?_⟩
 simp only [lexL, h32, jF, ho]
 rw [show (acc.length == 60) = false from beq_eq_false_iff_ne.2 (by omega), jF]
theorem Lx.sp (p : Int) (acc : List Tok) (l : Str) : Lx p acc (32 :: l) (p + 1) acc l := fun n hn => by
 obtain ⟨k, rfl⟩ : ∃ k, n = k + 1 := ⟨n - 1, by omega⟩
 simp only [jC] at hn
 exact ⟨k, by omega, rfl⟩
def Rd (B : Str → Prop) (x : Str) (U : List Tok) : Prop := ∀ (p : Int) (acc : List Tok) (r : Str), B r → acc.length + U.length ≤ 60 → ∃ p' T, T.map atZ = U ∧ Lx p acc (x ++ r) p' (acc ++ T) r
def Brk (r : Str) : Prop := r = [] ∨ ∃ c l, r = c :: l ∧ isWd c = false
def Any (_ : Str) : Prop := True
theorem Rd.app {B1 B2 : Str → Prop} {x y : Str} {U V : List Tok} (h1 : Rd B1 x U) (h2 : Rd B2 y V) (hB : ∀ r, B2 r → B1 (y ++ r)) : Rd B2 (x ++ y) (U ++ V) := by
 intro p acc r hr hl
 rw [jA] at hl
 obtain ⟨p1, T1, e1, l1⟩ := h1 p acc (y ++ r) (hB r hr) (by omega)
 have hT : T1.length = U.length := by rw [← e1, List.length_map]
 obtain ⟨p2, T2, e2, l2⟩ := h2 p1 (acc ++ T1) r hr (by rw [jA]; omega)
 refine ⟨p2, T1 ++ T2, by rw [List.map_append, e1, e2], ?_⟩
 rw [List.append_assoc, ← List.append_assoc acc]
 exact l1.trans l2
theorem Rd.weak {B B' : Str → Prop} {x : Str} {U : List Tok} (h : Rd B x U) (hB : ∀ r, B' r → B r) : Rd B' x U := fun p acc r hr hl => h p acc r (hB r hr) hl
theorem Rd.sp : Rd Any [32] [] := fun p acc r _ _ => ⟨p + 1, [], rfl, by rw [List.append_nil]; exact Lx.sp p acc r⟩
theorem Rd.one {B : Str → Prop} {c : UInt8} {x : Str} {u : Tok} (h32 : (c.toNat == 32) = false) (h : ∀ (p : Int) (r : Str), B r → ∃ t, xIK p (c :: x ++ r) = some (t, r) ∧ atZ t = u) : Rd B (c :: x) [u] := by
 intro p acc r hr hl
 obtain ⟨t, h1, h2⟩ := h p r hr
 exact ⟨_, [t], by rw [List.map_cons, h2]; rfl, Lx.tok h32 h1 (by simp only [jC, jN] at hl; omega)⟩
theorem xI8 {c : UInt8} (h : isWd c = false) (l : Str) : Brk (c :: l) := .inr ⟨c, l, rfl, h⟩
theorem xMl {p : UInt8 → Bool} (hp : ∀ c, isWd c = false → p c = false) {r : Str} (hr : Brk r) : ∀ {w : Str}, w.all p = true → (w ++ r).dropWhile p = r
 | [], _ => by
   rcases hr with rfl | ⟨c, l, rfl, hc⟩
   · rfl
   · rw [List.nil_append, List.dropWhile_cons]; simp [hp c hc]
 | d :: w, h => by
   rw [List.all_cons, Bool.and_eq_true] at h
   rw [List.cons_append, List.dropWhile_cons]
   simp only [h.1, if_true]
   exact xMl hp hr h.2
theorem xQo (w r : Str) : (w ++ r).take ((w ++ r).length - r.length) = w := by
 rw [jA, Nat.add_sub_cancel, List.take_left]
def Word (w : Str) : Prop := ∃ c l, w = c :: l ∧ xG7 c = true ∧ l.all isWd = true ∧ w.length ≤ 8
theorem xRf {c : UInt8} : xG7 c = true ↔ 97 ≤ c.toNat ∧ c.toNat ≤ 122 := by unfold xG7; rw [Bool.and_eq_true, decide_eq_true_eq, decide_eq_true_eq]
theorem Rd.word {w : Str} (h : Word w) : Rd Brk w [tkN w] := by
 obtain ⟨c, l, rfl, h1, h2, h3⟩ := h
 have hc := xRf.1 h1
 refine .one (beq_eq_false_iff_ne.2 (by omega)) fun p r hr => ?_
 have hw : isWd c = true := by unfold isWd; rw [h1]; rfl
 have hall : (c :: l).all isWd = true := by rw [List.all_cons, hw, h2]; rfl
 have hd := xMl (p := isWd) (fun c h => h) hr hall
 have ht := xQo (c :: l) r
 rw [List.cons_append] at hd ht ⊢
 rw [xDF, h1, jT, hd, ht]
 refine ⟨⟨1, 0, p, c :: l⟩, ?_, rfl⟩
 have e : (c :: (l ++ r)).length - r.length ≤ 8 := by simp only [jC, jA] at h3 ⊢; omega
 rw [decide_eq_true e, jT]
theorem Rd.num {n : Int} (h : 0 ≤ n ∧ n ≤ 1000000000) : Rd Brk (Lib.itoa n) [⟨2, n, 0, []⟩] := by
 obtain ⟨v, rfl⟩ : ∃ v : Nat, n = (v : Int) := ⟨n.toNat, by omega⟩
 obtain ⟨h1, h2, h3, h4⟩ := xLv (v := v) (by omega)
 have hv := xKk (v := v) (by omega)
 generalize Lib.itoa (v : Int) = w at h1 h3 h4 hv
 obtain ⟨c, l, rfl⟩ : ∃ c l, w = c :: l := by
  cases w with
  | nil => exact absurd rfl h4
  | cons c l => exact ⟨c, l, rfl⟩
 have hc := h1
 rw [List.all_cons, Bool.and_eq_true] at hc
 have hd0 := xHH.1 hc.1
 have hL : xG7 c = false := by
  unfold xG7
  rw [decide_eq_false (by omega : ¬ 97 ≤ c.toNat)]; rfl
 refine .one (beq_eq_false_iff_ne.2 (by omega)) fun p r hr => ?_
 have hd := xMl (p := xCP) (fun c h => by
  unfold isWd at h
  rw [Bool.or_eq_false_iff] at h
  exact h.2) hr h1
 have ht := xQo (c :: l) r
 rw [List.cons_append] at hd ht ⊢
 rw [xDF, hL, hc.1, jF, jT, hd, ht, hv]
 exact ⟨_, rfl, rfl⟩
theorem xOb {p : Nat → UInt8 → Bool} {q : UInt8 → Bool} (h : ∀ i c, p i c = true → q c = true) : ∀ {l : Str} {i : Nat}, allI p l i = true → l.all q = true
 | [], _, _ => rfl
 | c :: l, i, hl => by
   have hl : (p i c && allI p l (i + 1)) = true := hl
   rw [Bool.and_eq_true] at hl
   rw [List.all_cons, h _ _ hl.1, xOb h hl.2]; rfl
theorem xQ4 {t r : Str} : ∀ {t : Str}, t.all notQ = true → (t ++ 34 :: r).dropWhile notQ = 34 :: r
 | [], _ => rfl
 | d :: w, h => by
   rw [List.all_cons, Bool.and_eq_true] at h
   rw [List.cons_append, List.dropWhile_cons]
   simp only [h.1, if_true]
   exact xQ4 (t := t) h.2
theorem Rd.txt {t : Str} (h : xHV t = true) : Rd Any ([34] ++ t ++ [34]) [⟨3, 0, 0, t⟩] := by
 have ha : t.all notQ = true := by
  unfold xHV at h
  rw [Bool.and_eq_true] at h
  refine xOb (fun i c hc => ?_) h.1
  have hc : xWI c = true := hc
  unfold xWI at hc
  simp only [Bool.and_eq_true] at hc
  have := hc.2.2
  rw [xS2] at this
  exact this
 refine .one (c := 34) (x := t ++ [34]) rfl fun p r _ => ?_
 rw [List.cons_append, xDF]
 have hd : (t ++ [34] ++ r).dropWhile notQ = 34 :: r := by
  rw [List.append_assoc]
  exact xQ4 (t := t) ha
 have ht : (t ++ [34] ++ r).take ((t ++ [34] ++ r).length - (34 :: r).length) = t := by
  rw [List.append_assoc, show [34] ++ r = 34 :: r from rfl, jA, Nat.add_sub_cancel, List.take_left]
 rw [show xG7 34 = false from rfl, show xCP 34 = false from rfl, show ((34 : UInt8).toNat == 34) = true from rfl]
 simp only [jF, jT, hd, ht, h]
 exact ⟨_, rfl, rfl⟩
theorem Rd.sym {c : UInt8} (h1 : xLp c = true) (h2 : c.toNat ≠ 61) (h32 : (c.toNat == 32) = false) (hL : xG7 c = false) (hD : xCP c = false) (h34 : (c.toNat == 34) = false) : Rd Any [c] [tkS [c]] := by
 refine .one h32 fun p r _ => ?_
 have hp : Lib.hasPrefix (c :: r) [61, 61] = false := by
  unfold Lib.hasPrefix
  have : (61 == c) = false := beq_eq_false_iff_ne.2 fun e => h2 (by rw [← e]; rfl)
  simp [List.isPrefixOf, this]
 show ∃ t, xIK p (c :: r) = _ ∧ _
 rw [xDF, hL, hD, h34, hp, h1]
 exact ⟨_, rfl, rfl⟩
def Sp (r : Str) : Prop := ∃ l, r = 32 :: l
theorem Rd.eq : Rd Sp [61] [tkS [61]] := by
 refine .one rfl fun p r hr => ?_
 obtain ⟨l, rfl⟩ := hr
 exact ⟨⟨4, 0, p, [61]⟩, rfl, rfl⟩
theorem Rd.eqeq : Rd Any [61, 61] [tkS [61, 61]] := .one (c := 61) (x := [61]) rfl fun p r _ => ⟨⟨4, 0, p, [61, 61]⟩, by
 show xIK p (61 :: 61 :: r) = _
 rw [xDF]
 have : Lib.hasPrefix (61 :: 61 :: r) [61, 61] = true := by simp [Lib.hasPrefix, List.isPrefixOf]
 rw [this]; rfl, rfl⟩
theorem vCz (l : Str) : Brk (32 :: l) := xI8 rfl l
theorem Rd.any {B : Str → Prop} {x : Str} {U : List Tok} (h : Rd Any x U) : Rd B x U := h.weak fun _ _ => trivial
theorem Rd.blank {B : Str → Prop} {x : Str} {U : List Tok} (h : Rd Brk x U) : Rd B (x ++ [32]) U := by
 have := Rd.app h (B2 := B) Rd.sp.any (fun r _ => vCz r)
 rwa [List.append_nil] at this
theorem Rd.lead {B : Str → Prop} {x : Str} {U : List Tok} (h : Rd B x U) : Rd B ([32] ++ x) U := Rd.app Rd.sp h fun _ _ => trivial
theorem Rd.encl {l : Int} {x : Exp} {s : Str} {U : List Tok} (h : Rd Brk s U) : Rd Brk (encl l x s) (xIF l x U) := by
 unfold Go.Ab.encl xIF
 cases decide (lvl x < l)
 · exact h
 · exact Rd.app (Rd.app (Rd.sym (c := 40) rfl (by decide) rfl rfl rfl rfl) h fun _ _ => trivial) (Rd.sym (c := 41) rfl (by decide) rfl rfl rfl rfl).any fun r _ => xI8 rfl _
theorem Rd.tail : ∀ {a : List Exp}, (∀ x ∈ a, Rd Brk (srcE x) (xA6 x)) → Rd Brk (Lib.joinTail [44, 32] (a.map srcE)) (xEm (a.map xA6))
 | [], _ => fun p acc r _ _ => ⟨p, [], rfl, by rw [List.append_nil]; exact fun n hn => ⟨n, hn, rfl⟩⟩
 | x :: a, h => by
   have e : Lib.joinTail [44, 32] ((x :: a).map srcE) = ([44] ++ ([32] ++ srcE x)) ++ Lib.joinTail [44, 32] (a.map srcE) := by
    simp only [Lib.joinTail, List.map_cons, List.flatten_cons]; rfl
   rw [e]
   show Rd Brk _ (([tkS [44]] ++ xA6 x) ++ xEm (a.map xA6))
   refine Rd.app (B1 := Brk) (Rd.app (Rd.sym (c := 44) rfl (by decide) rfl rfl rfl rfl) (Rd.lead (h x List.mem_cons_self)) fun _ _ => trivial) (Rd.tail fun y hy => h y (List.mem_cons_of_mem _ hy)) fun r hr => ?_
   cases a with
   | nil => exact hr
   | cons y a =>
     have e : Lib.joinTail [44, 32] ((y :: a).map srcE) = 44 :: (32 :: srcE y ++ Lib.joinTail [44, 32] (a.map srcE)) := by
      simp only [Lib.joinTail, List.map_cons, List.flatten_cons]; rfl
     rw [e]
     exact xI8 rfl _
theorem xS3 {a : List Exp} {r : Str} (hr : Brk r) : Brk (Lib.joinTail [44, 32] (a.map srcE) ++ r) := by
 cases a with
 | nil => exact hr
 | cons y a =>
   have e : Lib.joinTail [44, 32] ((y :: a).map srcE) = 44 :: (32 :: srcE y ++ Lib.joinTail [44, 32] (a.map srcE)) := by
    simp only [Lib.joinTail, List.map_cons, List.flatten_cons]; rfl
   rw [e]
   exact xI8 rfl _
theorem Rd.join {a : List Exp} (h : ∀ x ∈ a, Rd Brk (srcE x) (xA6 x)) : Rd Brk (Lib.join (a.map srcE) [44, 32]) (xIr (a.map xA6)) := by
 cases a with
 | nil => exact fun p acc r _ _ => ⟨p, [], rfl, by rw [List.append_nil]; exact fun n hn => ⟨n, hn, rfl⟩⟩
 | cons x a =>
   rw [List.map_cons, Lib.join_cons, List.map_cons]
   exact Rd.app (h x List.mem_cons_self) (Rd.tail fun y hy => h y (List.mem_cons_of_mem _ hy)) fun r hr => xS3 hr
theorem Word.of_name {s : Str} (h : xCc s = true) : Word s := by
 unfold xCc at h
 simp only [Bool.and_eq_true, decide_eq_true_eq] at h
 obtain ⟨⟨h1, h2, h3⟩, _⟩ := h
 have lt (x : UInt8) : xJh x = xG7 x := by
  unfold xJh xG7
  rw [← xQ3, ← xOd]
 have dg (x : UInt8) : xK2 x = xCP x := by
  unfold xK2 xCP
  rw [← xOQ, ← xOR]
 have tl : ∀ l : Str, xHJ l false = true → l.all isWd = true := by
  intro l
  induction l with
  | nil => exact fun _ => rfl
  | cons x l ih =>
    intro h
    simp only [xHJ, Bool.not_false, Bool.true_and, Bool.and_eq_true] at h
    rw [List.all_cons, ih h.2, Bool.and_true]
    unfold isWd
    rw [← lt, ← dg]
    exact h.1
 cases s with
 | nil => simp at h2
 | cons c l =>
   simp only [xHJ, Bool.not_true, Bool.false_and, Bool.or_false, Bool.and_eq_true] at h1
   exact ⟨c, l, rfl, by rw [← lt]; exact h1.1, tl l h1.2, by omega⟩
theorem Word.of_call {s : Str} (h : 0 ≤ argc s) : Word s ∧ xCc s = false ∧ s ≠ [108, 101, 116] ∧ s ≠ [105, 102] ∧ s ≠ [102, 111, 114] := by
 have key : s ∈ ([[99, 108, 111, 99, 107], [108, 101, 110], [115, 117, 109], [114, 111, 119, 115], [99, 104, 97, 110, 99, 101], [102, 105, 108, 101], [116, 97, 107, 101], [115, 107, 105, 112], [114, 97, 110, 103, 101], [110, 116, 104], [107, 101, 101, 112], [99, 111, 108, 117, 109, 110], [116, 97, 98, 108, 101], [119, 104, 101, 114, 101], [103, 114, 111, 117, 112], [106, 111, 105, 110], [97, 100, 100]] : List Str) := by
  have h2 := xFs 0 s
  unfold xB5 at h2
  simp only [List.mem_cons, List.not_mem_nil, or_false]
  by_cases c1 : s = [99, 108, 111, 99, 107]
  · exact .inl c1
  by_cases c2 : s = [108, 101, 110]
  · exact .inr (.inl c2)
  by_cases c3 : s = [115, 117, 109]
  · simp [c3]
  by_cases c4 : s = [114, 111, 119, 115]
  · simp [c4]
  by_cases c5 : s = [99, 104, 97, 110, 99, 101]
  · simp [c5]
  by_cases c6 : s = [102, 105, 108, 101]
  · simp [c6]
  by_cases c7 : s = [116, 97, 107, 101]
  · simp [c7]
  by_cases c8 : s = [115, 107, 105, 112]
  · simp [c8]
  by_cases c9 : s = [114, 97, 110, 103, 101]
  · simp [c9]
  by_cases c10 : s = [110, 116, 104]
  · simp [c10]
  by_cases c11 : s = [107, 101, 101, 112]
  · simp [c11]
  by_cases c12 : s = [99, 111, 108, 117, 109, 110]
  · simp [c12]
  by_cases c13 : s = [116, 97, 98, 108, 101]
  · simp [c13]
  by_cases c14 : s = [119, 104, 101, 114, 101]
  · simp [c14]
  by_cases c15 : s = [103, 114, 111, 117, 112]
  · simp [c15]
  by_cases c16 : s = [106, 111, 105, 110]
  · simp [c16]
  by_cases c17 : s = [97, 100, 100]
  · simp [c17]
  exfalso
  simp only [beq_eq_false_iff_ne.2 c1, beq_eq_false_iff_ne.2 c2, beq_eq_false_iff_ne.2 c3, beq_eq_false_iff_ne.2 c4, beq_eq_false_iff_ne.2 c5, beq_eq_false_iff_ne.2 c6, beq_eq_false_iff_ne.2 c7, beq_eq_false_iff_ne.2 c8, beq_eq_false_iff_ne.2 c9, beq_eq_false_iff_ne.2 c10, beq_eq_false_iff_ne.2 c11, beq_eq_false_iff_ne.2 c12, beq_eq_false_iff_ne.2 c13, beq_eq_false_iff_ne.2 c14, beq_eq_false_iff_ne.2 c15, beq_eq_false_iff_ne.2 c16, beq_eq_false_iff_ne.2 c17, jF, Option.some.injEq] at h2
  omega
 have all : ∀ s ∈ ([[99, 108, 111, 99, 107], [108, 101, 110], [115, 117, 109], [114, 111, 119, 115], [99, 104, 97, 110, 99, 101], [102, 105, 108, 101], [116, 97, 107, 101], [115, 107, 105, 112], [114, 97, 110, 103, 101], [110, 116, 104], [107, 101, 101, 112], [99, 111, 108, 117, 109, 110], [116, 97, 98, 108, 101], [119, 104, 101, 114, 101], [103, 114, 111, 117, 112], [106, 111, 105, 110], [97, 100, 100]] : List Str), Word s ∧ xCc s = false ∧ s ≠ [108, 101, 116] ∧ s ≠ [105, 102] ∧ s ≠ [102, 111, 114] := by
  intro s hs
  simp only [List.mem_cons, List.not_mem_nil, or_false] at hs
  rcases hs with rfl | rfl | rfl | rfl | rfl | rfl | rfl | rfl | rfl | rfl | rfl | rfl | rfl | rfl | rfl | rfl | rfl <;> exact ⟨⟨_, _, rfl, rfl, rfl, by decide⟩, rfl, by decide, by decide, by decide⟩
 exact all s key
theorem xSL : ∀ e : Exp, okE e = true → Rd Brk (srcE e) (xA6 e) := by
 refine Exp.ind fun k n t a ih h => ?_
 rw [xOq, Bool.and_eq_true] at h
 obtain ⟨ha, hn⟩ := h
 have hR : ∀ x ∈ a, Rd Brk (srcE x) (xA6 x) := fun x hx => ih x hx (List.all_eq_true.1 ha x hx)
 have hn : xF1 xHV xCc argc k n t a.length = true := hn
 rw [xPF, xGz]
 have kLet : Word [108, 101, 116] := ⟨_, _, rfl, rfl, rfl, by decide⟩
 have kIn : Word [105, 110] := ⟨_, _, rfl, rfl, rfl, by decide⟩
 have kFor : Word [102, 111, 114] := ⟨_, _, rfl, rfl, rfl, by decide⟩
 have kDo : Word [100, 111] := ⟨_, _, rfl, rfl, rfl, by decide⟩
 have kIf : Word [105, 102] := ⟨_, _, rfl, rfl, rfl, by decide⟩
 have kThen : Word [116, 104, 101, 110] := ⟨_, _, rfl, rfl, rfl, by decide⟩
 have kElse : Word [101, 108, 115, 101] := ⟨_, _, rfl, rfl, rfl, by decide⟩
 rcases kinds hn with rfl | rfl | rfl | rfl | rfl | ⟨rfl, h1, h5, hl2⟩ | ⟨rfl, hl2⟩ | ⟨rfl, hl2⟩ | ⟨rfl, hl2⟩
 · simp only [xF1, show ((1 : Int) == 1) = true from rfl, jT, Bool.and_eq_true, decide_eq_true_eq] at hn
   exact Rd.num hn.1
 · simp only [xF1, show ((2 : Int) == 1) = false from rfl, show ((2 : Int) == 2) = true from rfl, jT, jF, Bool.and_eq_true] at hn
   exact (Rd.txt hn.2.1).any
 · simp only [xF1, show ((3 : Int) == 1) = false from rfl, show ((3 : Int) == 2) = false from rfl, show ((3 : Int) == 3) = true from rfl, jT, jF, Bool.and_eq_true] at hn
   exact Rd.word (.of_name hn.2.1)
 · exact Rd.app (Rd.app (Rd.sym (c := 91) rfl (by decide) rfl rfl rfl rfl) (Rd.join hR) fun _ _ => trivial) (Rd.sym (c := 93) rfl (by decide) rfl rfl rfl rfl).any fun r _ => xI8 rfl _
 · simp only [xF1, show ((5 : Int) == 1) = false from rfl, show ((5 : Int) == 2) = false from rfl, show ((5 : Int) == 3) = false from rfl, show ((5 : Int) == 4) = false from rfl, show ((5 : Int) == 5) = true from rfl, jT, jF, Bool.and_eq_true, beq_iff_eq] at hn
   have hw := (Word.of_call (s := t) (by omega)).1
   exact Rd.app (Rd.app (Rd.app (B2 := Any) (Rd.word hw) (Rd.sym (c := 40) rfl (by decide) rfl rfl rfl rfl) fun r _ => xI8 rfl _) (Rd.join hR) fun _ _ => trivial) (Rd.sym (c := 41) rfl (by decide) rfl rfl rfl rfl).any fun r _ => xI8 rfl _
 · obtain ⟨x, y, rfl⟩ := xKG hl2
   have hx := hR x (by simp)
   have hy := hR y (by simp)
   have hop : Rd Sp (xKq n) [tkS (xKq n)] := by
    have : n = 1 ∨ n = 2 ∨ n = 3 ∨ n = 4 ∨ n = 5 := by omega
    rcases this with rfl | rfl | rfl | rfl | rfl
    · exact (Rd.sym (c := 43) rfl (by decide) rfl rfl rfl rfl).any
    · exact (Rd.sym (c := 45) rfl (by decide) rfl rfl rfl rfl).any
    · exact (Rd.sym (c := 42) rfl (by decide) rfl rfl rfl rfl).any
    · exact (Rd.sym (c := 60) rfl (by decide) rfl rfl rfl rfl).any
    · exact Rd.eqeq.any
   have e1 : xIq 6 n t [x, y] ([x, y].map srcE) = ((encl (bif lvl (.mk 6 n t [x, y]) == 1 then 2 else lvl (.mk 6 n t [x, y])) x (srcE x) ++ [32]) ++ xKq n) ++ ([32] ++ encl (lvl (.mk 6 n t [x, y]) + 1) y (srcE y)) := by
    have : xIq 6 n t [x, y] ([x, y].map srcE) = encl (bif lvl (.mk 6 n t [x, y]) == 1 then 2 else lvl (.mk 6 n t [x, y])) x (srcE x) ++ [32] ++ xKq n ++ [32] ++ encl (lvl (.mk 6 n t [x, y]) + 1) y (srcE y) := rfl
    rw [this]; simp only [List.append_assoc]
   have e2 : xOY 6 n t [x, y] ([x, y].map xA6) = (xIF (bif lvl (.mk 6 n t [x, y]) == 1 then 2 else lvl (.mk 6 n t [x, y])) x (xA6 x) ++ [tkS (xKq n)]) ++ xIF (lvl (.mk 6 n t [x, y]) + 1) y (xA6 y) := rfl
   rw [e1, e2]
   exact Rd.app (Rd.app (B2 := Sp) (Rd.blank (B := Any) (Rd.encl hx)) hop fun _ _ => trivial) (Rd.lead (Rd.encl hy)) fun r _ => ⟨_, rfl⟩
 · obtain ⟨x, y, rfl⟩ := xKG hl2
   have hx := hR x (by simp)
   have hy := hR y (by simp)
   simp only [xF1, show ((7 : Int) == 1) = false from rfl, show ((7 : Int) == 2) = false from rfl, show ((7 : Int) == 3) = false from rfl, show ((7 : Int) == 4) = false from rfl, show ((7 : Int) == 5) = false from rfl, show ((7 : Int) == 6) = false from rfl, show ((7 : Int) == 7) = true from rfl, jT, jF, Bool.and_eq_true] at hn
   have hw := Word.of_name hn.2.1
   have e1 : xIq 7 n t [x, y] ([x, y].map srcE) = (((((([108, 101, 116] ++ [32]) ++ (t ++ [32])) ++ [61]) ++ ([32] ++ (srcE x ++ [32]))) ++ ([105, 110] ++ [32])) ++ srcE y) := by
    have : xIq 7 n t [x, y] ([x, y].map srcE) = [108, 101, 116, 32] ++ t ++ [32, 61, 32] ++ srcE x ++ [32, 105, 110, 32] ++ srcE y := rfl
    rw [this]; simp only [List.append_assoc, List.cons_append, List.nil_append]
   have e2 : xOY 7 n t [x, y] ([x, y].map xA6) = ((((([tkN [108, 101, 116]] ++ [tkN t]) ++ [tkS [61]]) ++ xA6 x) ++ [tkN [105, 110]]) ++ xA6 y) := rfl
   rw [e1, e2]
   exact Rd.app (Rd.app (B2 := Any) (Rd.app (B2 := Any) (Rd.app (B2 := Sp) (Rd.app (B2 := Any) (Rd.blank (B := Any) (Rd.word kLet)) (Rd.blank (Rd.word hw)) fun _ _ => trivial) Rd.eq fun _ _ => trivial) (Rd.lead (Rd.blank hx)) fun r _ => ⟨_, rfl⟩) (Rd.blank (Rd.word kIn)) fun _ _ => trivial) hy fun _ _ => trivial
 · obtain ⟨x, y, rfl⟩ := xKG hl2
   have hx := hR x (by simp)
   have hy := hR y (by simp)
   simp only [xF1, show ((9 : Int) == 1) = false from rfl, show ((9 : Int) == 2) = false from rfl, show ((9 : Int) == 3) = false from rfl, show ((9 : Int) == 4) = false from rfl, show ((9 : Int) == 5) = false from rfl, show ((9 : Int) == 6) = false from rfl, show ((9 : Int) == 7) = false from rfl, show ((9 : Int) == 9) = true from rfl, jT, jF, Bool.and_eq_true] at hn
   have hw := Word.of_name hn.2.1
   have e1 : xIq 9 n t [x, y] ([x, y].map srcE) = (((((([102, 111, 114] ++ [32]) ++ (t ++ [32])) ++ ([105, 110] ++ [32])) ++ (srcE x ++ [32])) ++ ([100, 111] ++ [32])) ++ srcE y) := by
    have : xIq 9 n t [x, y] ([x, y].map srcE) = [102, 111, 114, 32] ++ t ++ [32, 105, 110, 32] ++ srcE x ++ [32, 100, 111, 32] ++ srcE y := rfl
    rw [this]; simp only [List.append_assoc, List.cons_append, List.nil_append]
   have e2 : xOY 9 n t [x, y] ([x, y].map xA6) = ((((([tkN [102, 111, 114]] ++ [tkN t]) ++ [tkN [105, 110]]) ++ xA6 x) ++ [tkN [100, 111]]) ++ xA6 y) := rfl
   rw [e1, e2]
   exact Rd.app (Rd.app (B2 := Any) (Rd.app (B2 := Any) (Rd.app (B2 := Any) (Rd.app (B2 := Any) (Rd.blank (B := Any) (Rd.word kFor)) (Rd.blank (Rd.word hw)) fun _ _ => trivial) (Rd.blank (Rd.word kIn)) fun _ _ => trivial) (Rd.blank hx) fun _ _ => trivial) (Rd.blank (Rd.word kDo)) fun _ _ => trivial) hy fun _ _ => trivial
 · obtain ⟨x, y, z, rfl⟩ := xN1 hl2
   have hx := hR x (by simp)
   have hy := hR y (by simp)
   have hz := hR z (by simp)
   have e1 : xIq 8 n t [x, y, z] ([x, y, z].map srcE) = (((((([105, 102] ++ [32]) ++ (srcE x ++ [32])) ++ ([116, 104, 101, 110] ++ [32])) ++ (srcE y ++ [32])) ++ ([101, 108, 115, 101] ++ [32])) ++ srcE z) := by
    have : xIq 8 n t [x, y, z] ([x, y, z].map srcE) = [105, 102, 32] ++ srcE x ++ [32, 116, 104, 101, 110, 32] ++ srcE y ++ [32, 101, 108, 115, 101, 32] ++ srcE z := rfl
    rw [this]; simp only [List.append_assoc, List.cons_append, List.nil_append]
   have e2 : xOY 8 n t [x, y, z] ([x, y, z].map xA6) = ((((([tkN [105, 102]] ++ xA6 x) ++ [tkN [116, 104, 101, 110]]) ++ xA6 y) ++ [tkN [101, 108, 115, 101]]) ++ xA6 z) := rfl
   rw [e1, e2]
   exact Rd.app (Rd.app (B2 := Any) (Rd.app (B2 := Any) (Rd.app (B2 := Any) (Rd.app (B2 := Any) (Rd.blank (B := Any) (Rd.word kIf)) (Rd.blank hx) fun _ _ => trivial) (Rd.blank (Rd.word kThen)) fun _ _ => trivial) (Rd.blank hy) fun _ _ => trivial) (Rd.blank (Rd.word kElse)) fun _ _ => trivial) hz fun _ _ => trivial
theorem xXd {e : Exp} (h : okE e = true) (h1 : (srcE e).length ≤ 120) (h2 : (xA6 e).length ≤ 60) : ∃ T, T.map atZ = xA6 e ∧ lex (srcE e) = (T, -1) := by
 obtain ⟨p', T, e1, hl⟩ := xSL e h 0 [] [] (.inl rfl) (by simpa using h2)
 rw [List.append_nil, List.nil_append] at hl
 obtain ⟨n, hn, he⟩ := hl ((srcE e).length + 1) (by omega)
 refine ⟨T, e1, ?_⟩
 unfold lex
 rw [decide_eq_false (by omega), jF, he]
 obtain ⟨n, rfl⟩ : ∃ k, n = k + 1 := ⟨n - 1, by simp at hn; omega⟩
 rfl
end Go.Ab
end
section
namespace Go.Ab
theorem xEC {T A B : List Tok} (h : T.map atZ = A ++ B) : ∃ T1 T2, T = T1 ++ T2 ∧ T1.map atZ = A ∧ T2.map atZ = B := List.map_eq_append_iff.1 h
theorem xFd {T : List Tok} {u : Tok} (h : T.map atZ = [u]) : ∃ t, T = [t] ∧ atZ t = u := by
 match T, h with
 | [t], h => exact ⟨t, rfl, by simpa using h⟩
theorem xKp {t u : Tok} (h : atZ t = u) (s : Str) : isS t s = isS u s := by subst h; rfl
theorem xOW {t u : Tok} (h : atZ t = u) (s : Str) : isK t s = isK u s := by subst h; rfl
def xPK (r : List Tok) : Prop := seeS [42] r = false
theorem xLS {t u : Tok} {r : List Tok} (h : atZ t = u) (hq : xN3 [u]) : xN3 (t :: r) := by
 subst h; exact hq
theorem xMs {t u : Tok} {s : Str} {r : List Tok} (h : atZ t = u) (hu : (isK u s || isS u s) = true) : xGH s (t :: r) = .ok () r := by
 subst h
 have : (isK t s || isS t s) = true := hu
 simp only [xGH, this, jT]
def PX (x : Exp) : Prop := ∀ T m rest, T.map atZ = xA6 x → T.length < m → xN3 rest → pE m (T ++ rest) = .ok x rest
def PA (x : Exp) (U : List Tok) : Prop := ∀ T m rest, T.map atZ = U → T.length ≤ m → xG2 (pE m) (m + 1) (T ++ rest) = .ok x rest
def PB (x : Exp) (U : List Tok) : Prop := ∀ T m rest, T.map atZ = U → T.length ≤ m → ∃ M', m + 1 ≤ M' + T.length ∧ M' ≤ m + 1 ∧ xLg (xG2 (pE m) (m + 1)) (m + 1) (T ++ rest) = xI1 (xG2 (pE m) (m + 1)) M' x rest
def PC (x : Exp) (U : List Tok) : Prop := ∀ T m rest, T.map atZ = U → T.length ≤ m → xPK rest → ∃ M', m + 1 ≤ M' + T.length ∧ M' ≤ m + 1 ∧ pSum (xLg (xG2 (pE m) (m + 1)) (m + 1)) (m + 1) (T ++ rest) = xJs (xLg (xG2 (pE m) (m + 1)) (m + 1)) M' x rest
def PD (x : Exp) (U : List Tok) : Prop := ∀ T m rest, T.map atZ = U → T.length ≤ m → xN3 rest → pCmp (xLR (pE m) (m + 1)) (T ++ rest) = .ok x rest
theorem PA.b {x : Exp} {U : List Tok} (h : PA x U) : PB x U := fun T m rest hT hm => ⟨m + 1, by omega, Nat.le_refl _, by
 unfold xLg
 rw [PR.bind_of (h T m rest hT hm)]⟩
theorem PB.ok {x : Exp} {U : List Tok} (h : PB x U) {T rest : List Tok} {m : Nat} (hT : T.map atZ = U) (hm : T.length ≤ m) (hr : xPK rest) : xLg (xG2 (pE m) (m + 1)) (m + 1) (T ++ rest) = .ok x rest := by
 obtain ⟨M', h1, h2, h3⟩ := h T m rest hT hm
 obtain ⟨k, rfl⟩ : ∃ k, M' = k + 1 := ⟨M' - 1, by omega⟩
 have hr : seeS [42] rest = false := hr
 rw [h3]
 simp only [xI1, hr, jF]
theorem PB.c {x : Exp} {U : List Tok} (h : PB x U) : PC x U := fun T m rest hT hm hr => ⟨m + 1, by omega, Nat.le_refl _, by
 unfold pSum
 rw [PR.bind_of (h.ok hT hm hr)]⟩
theorem PC.ok {x : Exp} {U : List Tok} (h : PC x U) {T rest : List Tok} {m : Nat} (hT : T.map atZ = U) (hm : T.length ≤ m) (hr : xPK rest) (hp : seeS [43] rest = false) (hq : seeS [45] rest = false) : xLR (pE m) (m + 1) (T ++ rest) = .ok x rest := by
 obtain ⟨M', h1, h2, h3⟩ := h T m rest hT hm hr
 obtain ⟨k, rfl⟩ : ∃ k, M' = k + 1 := ⟨M' - 1, by omega⟩
 unfold xLR
 rw [h3]
 simp only [xJs, hp, hq, jF]
theorem PC.d {x : Exp} {U : List Tok} (h : PC x U) : PD x U := fun T m rest hT hm hr => by
 unfold pCmp
 rw [PR.bind_of (h.ok hT hm hr.1 hr.2.1 hr.2.2.1)]
 unfold xOt
 rw [hr.2.2.2.1, hr.2.2.2.2]; rfl
theorem PX.encl {x : Exp} (h : PX x) : PA x ([tkS [40]] ++ xA6 x ++ [tkS [41]]) := by
 intro T m rest hT hm
 obtain ⟨T1, T2, rfl, h1, h2⟩ := xEC hT
 obtain ⟨T3, T4, rfl, h3, h4⟩ := xEC h1
 obtain ⟨t, rfl, ht⟩ := xFd h3
 obtain ⟨u, rfl, hu⟩ := xFd h2
 simp only [jA, jC, jN] at hm
 have e : [t] ++ T4 ++ [u] ++ rest = t :: (T4 ++ (u :: rest)) := by simp
 have k : t.kind = 4 := by have := congrArg Tok.kind ht; exact this
 have s1 : isS t [91] = false := xKp ht [91]
 have s2 : isS t [40] = true := xKp ht [40]
 rw [e]
 simp only [xG2, k, show ((4 : Int) == 2) = false from rfl, show ((4 : Int) == 3) = false from rfl, show ((4 : Int) == 1) = false from rfl, jF, xJy, s1, s2, jT]
 rw [PR.bind_of (h T4 m (u :: rest) h4 (by omega) (xLS hu ⟨rfl, rfl, rfl, rfl, rfl⟩)), PR.bind_of (xMs hu rfl)]
theorem PA.of {l : Int} {x : Exp} (h : PX x) (ha : 4 ≤ lvl x → PA x (xA6 x)) (hl : l = 4) : PA x (xIF l x (xA6 x)) := by
 unfold xIF
 by_cases c : lvl x < l
 · rw [decide_eq_true c, jT]; exact h.encl
 · rw [decide_eq_false c, jF]; exact ha (by omega)
theorem PB.of {l : Int} {x : Exp} (h : PX x) (ha : 3 ≤ lvl x → PB x (xA6 x)) (hl : 3 ≤ l) : PB x (xIF l x (xA6 x)) := by
 unfold xIF
 by_cases c : lvl x < l
 · rw [decide_eq_true c, jT]; exact h.encl.b
 · rw [decide_eq_false c, jF]; exact ha (by omega)
theorem PC.of {l : Int} {x : Exp} (h : PX x) (ha : 2 ≤ lvl x → PC x (xA6 x)) (hl : 2 ≤ l) : PC x (xIF l x (xA6 x)) := by
 unfold xIF
 by_cases c : lvl x < l
 · rw [decide_eq_true c, jT]; exact h.encl.b.c
 · rw [decide_eq_false c, jF]; exact ha (by omega)
theorem PB.mul {a b : Exp} {U V : List Tok} (ha : PB a U) (hb : PA b V) : PB (.mk 6 3 [] [a, b]) (U ++ [tkS [42]] ++ V) := by
 intro T m rest hT hm
 obtain ⟨T1, Tb, rfl, h1, hTb⟩ := xEC hT
 obtain ⟨Ta, T2, rfl, hTa, h2⟩ := xEC h1
 obtain ⟨t, rfl, ht⟩ := xFd h2
 simp only [jA, jC, jN] at hm
 have e : Ta ++ [t] ++ Tb ++ rest = Ta ++ (t :: (Tb ++ rest)) := by simp
 obtain ⟨M', g1, g2, g3⟩ := ha Ta m (t :: (Tb ++ rest)) hTa (by omega)
 obtain ⟨k, rfl⟩ : ∃ k, M' = k + 1 := ⟨M' - 1, by omega⟩
 have s1 : seeS [42] (t :: (Tb ++ rest)) = true := xKp ht [42]
 refine ⟨k, by simp only [jA, jC, jN]; omega, by omega, ?_⟩
 rw [e, g3]
 simp only [xI1, s1, jT, List.tail_cons]
 rw [PR.bind_of (hb Tb m rest hTb (by omega))]
theorem PC.add {a b : Exp} {U V : List Tok} (ha : PC a U) (hb : PB b V) (n : Int) (hn : n = 1 ∨ n = 2) : PC (.mk 6 n [] [a, b]) (U ++ [tkS (xKq n)] ++ V) := by
 intro T m rest hT hm hr
 obtain ⟨T1, Tb, rfl, h1, hTb⟩ := xEC hT
 obtain ⟨Ta, T2, rfl, hTa, h2⟩ := xEC h1
 obtain ⟨t, rfl, ht⟩ := xFd h2
 simp only [jA, jC, jN] at hm
 have e : Ta ++ [t] ++ Tb ++ rest = Ta ++ (t :: (Tb ++ rest)) := by simp
 have ns : xPK (t :: (Tb ++ rest)) := by
  show isS t [42] = false
  rw [xKp ht]
  rcases hn with rfl | rfl <;> rfl
 obtain ⟨M', g1, g2, g3⟩ := ha Ta m (t :: (Tb ++ rest)) hTa (by omega) ns
 obtain ⟨k, rfl⟩ : ∃ k, M' = k + 1 := ⟨M' - 1, by omega⟩
 have hbk := hb.ok (rest := rest) hTb (by omega : Tb.length ≤ m) hr
 refine ⟨k, by simp only [jA, jC, jN]; omega, by omega, ?_⟩
 rw [e, g3]
 rcases hn with rfl | rfl
 · have s1 : seeS [43] (t :: (Tb ++ rest)) = true := xKp ht [43]
   simp only [xJs, s1, jT, List.tail_cons]
   rw [PR.bind_of hbk]
 · have s1 : seeS [43] (t :: (Tb ++ rest)) = false := xKp ht [43]
   have s2 : seeS [45] (t :: (Tb ++ rest)) = true := xKp ht [45]
   simp only [xJs, s1, s2, jT, jF, List.tail_cons]
   rw [PR.bind_of hbk]
theorem PD.cmp {a b : Exp} {U V : List Tok} (ha : PC a U) (hb : PC b V) (n : Int) (hn : n = 4 ∨ n = 5) : PD (.mk 6 n [] [a, b]) (U ++ [tkS (xKq n)] ++ V) := by
 intro T m rest hT hm hr
 obtain ⟨T1, Tb, rfl, h1, hTb⟩ := xEC hT
 obtain ⟨Ta, T2, rfl, hTa, h2⟩ := xEC h1
 obtain ⟨t, rfl, ht⟩ := xFd h2
 simp only [jA, jC, jN] at hm
 have e : Ta ++ [t] ++ Tb ++ rest = Ta ++ (t :: (Tb ++ rest)) := by simp
 have q : ∀ s, s = [42] ∨ s = [43] ∨ s = [45] → seeS s (t :: (Tb ++ rest)) = false := by
  intro s hs
  show isS t s = false
  rw [xKp ht]
  rcases hn with rfl | rfl <;> rcases hs with rfl | rfl | rfl <;> rfl
 have hak := ha.ok (rest := t :: (Tb ++ rest)) hTa (by omega : Ta.length ≤ m) (q _ (.inl rfl)) (q _ (.inr (.inl rfl))) (q _ (.inr (.inr rfl)))
 have hbk := hb.ok (rest := rest) hTb (by omega : Tb.length ≤ m) hr.1 hr.2.1 hr.2.2.1
 unfold pCmp
 rw [e, PR.bind_of hak]
 unfold xOt
 rcases hn with rfl | rfl
 · have s1 : seeS [60] (t :: (Tb ++ rest)) = true := xKp ht [60]
   rw [s1, jT, List.tail_cons, PR.bind_of hbk]
 · have s1 : seeS [60] (t :: (Tb ++ rest)) = false := xKp ht [60]
   have s2 : seeS [61, 61] (t :: (Tb ++ rest)) = true := xKp ht [61, 61]
   rw [s1, s2, jT, jF, List.tail_cons, PR.bind_of hbk]
theorem xQD {c : Str} (hc : c = [41] ∨ c = [93]) : ∀ (xs : List Exp) (x : Exp) (T rest : List Tok) (m fuel : Nat) (acc : List Exp), (∀ y ∈ x :: xs, PX y) → T.map atZ = xA6 x ++ xEm (xs.map xA6) ++ [tkS c] → T.length ≤ m → T.length ≤ fuel →
 xJz (pE m) c fuel acc (T ++ rest) = .ok (acc ++ x :: xs) rest := by
 intro xs
 induction xs with
 | nil =>
   intro x T rest m fuel acc hx hT hm hf
   obtain ⟨T1, T2, rfl, h1, h2⟩ := xEC hT
   obtain ⟨u, rfl, hu⟩ := xFd h2
   rw [List.map_nil, xEm, List.append_nil] at h1
   simp only [jA, jC, jN] at hm hf
   obtain ⟨fuel, rfl⟩ : ∃ k, fuel = k + 1 := ⟨fuel - 1, by omega⟩
   have e : T1 ++ [u] ++ rest = T1 ++ (u :: rest) := by simp
   have hq : xN3 (u :: rest) := xLS hu (by rcases hc with rfl | rfl <;> exact ⟨rfl, rfl, rfl, rfl, rfl⟩)
   have s1 : seeS c (u :: rest) = true := by
    show isS u c = true
    rw [xKp hu]
    rcases hc with rfl | rfl <;> rfl
   rw [e]
   simp only [xJz]
   rw [PR.bind_of (hx x List.mem_cons_self T1 m (u :: rest) h1 (by omega) hq), s1]
   rfl
 | cons y ys ih =>
   intro x T rest m fuel acc hx hT hm hf
   have hT' : T.map atZ = xA6 x ++ ([tkS [44]] ++ (xA6 y ++ xEm (ys.map xA6) ++ [tkS c])) := by
    rw [hT]
    show xA6 x ++ ([tkS [44]] ++ xA6 y ++ xEm (ys.map xA6)) ++ [tkS c] = _
    simp only [List.append_assoc]
   obtain ⟨T1, T2, rfl, h1, h2⟩ := xEC hT'
   obtain ⟨T3, T4, rfl, h3, h4⟩ := xEC h2
   obtain ⟨u, rfl, hu⟩ := xFd h3
   simp only [jA, jC, jN] at hm hf
   obtain ⟨fuel, rfl⟩ : ∃ k, fuel = k + 1 := ⟨fuel - 1, by omega⟩
   have e : T1 ++ ([u] ++ T4) ++ rest = T1 ++ (u :: (T4 ++ rest)) := by simp
   have hq : xN3 (u :: (T4 ++ rest)) := xLS hu ⟨rfl, rfl, rfl, rfl, rfl⟩
   have s1 : seeS c (u :: (T4 ++ rest)) = false := by
    show isS u c = false
    rw [xKp hu]
    rcases hc with rfl | rfl <;> rfl
   rw [e]
   simp only [xJz]
   rw [PR.bind_of (hx x List.mem_cons_self T1 m _ h1 (by omega) hq), s1, jF, PR.bind_of (xMs hu rfl)]
   rw [ih y T4 rest m fuel (acc ++ [x]) (fun z hz => hx z (List.mem_cons_of_mem _ hz)) h4 (by omega) (by omega)]
   simp
theorem xOe : ∀ e : Exp, okE e = true → ∃ u r, xA6 e = u :: r ∧ (∀ c, c = [41] ∨ c = [93] → isS u c = false) ∧ (1 ≤ lvl e → ∀ s, s = [108, 101, 116] ∨ s = [105, 102] ∨ s = [102, 111, 114] → isK u s = false) := by
 refine Exp.ind fun k n t a ih h => ?_
 rw [xOq, Bool.and_eq_true] at h
 obtain ⟨ha, hn⟩ := h
 have hn : xF1 xHV xCc argc k n t a.length = true := hn
 rw [xGz]
 have sy : ∀ (u : Tok) (r : List Tok), (∀ c, c = [41] ∨ c = [93] → isS u c = false) → (∀ s, s = [108, 101, 116] ∨ s = [105, 102] ∨ s = [102, 111, 114] → isK u s = false) → ∃ u' r', u :: r = u' :: r' ∧ (∀ c, c = [41] ∨ c = [93] → isS u' c = false) ∧ (1 ≤ lvl (.mk k n t a) → ∀ s, s = [108, 101, 116] ∨ s = [105, 102] ∨ s = [102, 111, 114] → isK u' s = false) := fun u r h1 h2 => ⟨u, r, rfl, h1, fun _ => h2⟩
 have nmS : ∀ w c : Str, c = [41] ∨ c = [93] → isS (tkN w) c = false := fun w c _ => rfl
 have res : ∀ {w : Str}, xCc w = true → w ≠ [108, 101, 116] ∧ w ≠ [105, 102] ∧ w ≠ [102, 111, 114] := fun {w} hw => by
  refine ⟨fun e => ?_, fun e => ?_, fun e => ?_⟩ <;> rw [e] at hw <;> exact absurd hw (by decide)
 have nmK : ∀ w : Str, w ≠ [108, 101, 116] ∧ w ≠ [105, 102] ∧ w ≠ [102, 111, 114] → ∀ s, s = [108, 101, 116] ∨ s = [105, 102] ∨ s = [102, 111, 114] → isK (tkN w) s = false := fun w hw s hs => by
  show (w == s) = false
  rw [beq_eq_false_iff_ne]
  rcases hs with rfl | rfl | rfl
  · exact hw.1
  · exact hw.2.1
  · exact hw.2.2
 rcases kinds hn with rfl | rfl | rfl | rfl | rfl | ⟨rfl, h1, h5, hl2⟩ | ⟨rfl, hl2⟩ | ⟨rfl, hl2⟩ | ⟨rfl, hl2⟩
 · exact sy _ _ (fun c _ => rfl) (fun s _ => rfl)
 · exact sy _ _ (fun c _ => rfl) (fun s _ => rfl)
 · simp only [xF1, show ((3 : Int) == 1) = false from rfl, show ((3 : Int) == 2) = false from rfl, show ((3 : Int) == 3) = true from rfl, jT, jF, Bool.and_eq_true] at hn
   exact sy (tkN t) [] (nmS t) (nmK t (res hn.2.1))
 · exact sy (tkS [91]) (xIr (a.map xA6) ++ [tkS [93]]) (fun c hc => by rcases hc with rfl | rfl <;> rfl) (fun s _ => rfl)
 · simp only [xF1, show ((5 : Int) == 1) = false from rfl, show ((5 : Int) == 2) = false from rfl, show ((5 : Int) == 3) = false from rfl, show ((5 : Int) == 4) = false from rfl, show ((5 : Int) == 5) = true from rfl, jT, jF, Bool.and_eq_true, beq_iff_eq] at hn
   have hw := (Word.of_call (s := t) (by omega)).2.2
   exact sy (tkN t) _ (nmS t) (nmK t hw)
 · obtain ⟨x, y, rfl⟩ := xKG hl2
   have hx : okE x = true := List.all_eq_true.1 ha x (by show x ∈ [x, y]; simp)
   obtain ⟨u, r, e, g1, g2⟩ := ih x (by simp) hx
   have hl := lvl6 (t := t) (a := [x, y]) h1 h5
   have e2 : xOY 6 n t [x, y] ([x, y].map xA6) = (xIF (bif lvl (.mk 6 n t [x, y]) == 1 then 2 else lvl (.mk 6 n t [x, y])) x (xA6 x) ++ [tkS (xKq n)]) ++ xIF (lvl (.mk 6 n t [x, y]) + 1) y (xA6 y) := rfl
   rw [e2]
   have hll : 1 ≤ (bif lvl (.mk 6 n t [x, y]) == 1 then 2 else lvl (.mk 6 n t [x, y])) := by
    cases lvl (.mk 6 n t [x, y]) == 1
    · exact hl.1
    · show (1 : Int) ≤ 2
      decide
   generalize (bif lvl (.mk 6 n t [x, y]) == 1 then 2 else lvl (.mk 6 n t [x, y])) = L at hll
   unfold xIF
   by_cases c : lvl x < L
   · rw [decide_eq_true c, jT]
     exact sy (tkS [40]) _ (fun c hc => by rcases hc with rfl | rfl <;> rfl) (fun s _ => rfl)
   · rw [decide_eq_false c, jF, e]
     exact ⟨u, _, rfl, g1, fun _ => g2 (by omega)⟩
 · exact ⟨tkN [108, 101, 116], _, rfl, nmS _, fun h => by
    have h : (1 : Int) ≤ 0 := h
    omega⟩
 · exact ⟨tkN [102, 111, 114], _, rfl, nmS _, fun h => by
    have h : (1 : Int) ≤ 0 := h
    omega⟩
 · exact ⟨tkN [105, 102], _, rfl, nmS _, fun h => by
    have h : (1 : Int) ≤ 0 := h
    omega⟩
theorem xWL {T r : List Tok} {u : Tok} {rest : List Tok} (h : T.map atZ = u :: r) : ∃ t q, T = t :: q ∧ atZ t = u := by
 cases T with
 | nil => cases h
 | cons t q =>
   simp only [List.map_cons, List.cons.injEq] at h
   exact ⟨t, q, rfl, h.1⟩
theorem xOj {c : Str} (hc : c = [41] ∨ c = [93]) {xs : List Exp} (hok : ∀ y ∈ xs, okE y = true) (hx : ∀ y ∈ xs, PX y) {T rest : List Tok} {m fuel : Nat} (hT : T.map atZ = xIr (xs.map xA6) ++ [tkS c]) (hm : T.length ≤ m) (hf : T.length ≤ fuel) :
 xKR (pE m) fuel c (T ++ rest) = .ok xs rest := by
 cases xs with
 | nil =>
   obtain ⟨u, rfl, hu⟩ := xFd hT
   have s1 : seeS c ([u] ++ rest) = true := by
    show isS u c = true
    rw [xKp hu]
    rcases hc with rfl | rfl <;> rfl
   unfold xKR
   rw [s1]; rfl
 | cons x xs =>
   obtain ⟨u, r, e, g1, _⟩ := xOe x (hok x List.mem_cons_self)
   have hT2 : T.map atZ = xA6 x ++ xEm (xs.map xA6) ++ [tkS c] := hT
   obtain ⟨t, q, ht, hz⟩ := xWL (rest := rest) (show T.map atZ = u :: (r ++ xEm (xs.map xA6) ++ [tkS c]) by rw [hT2, e]; simp)
   have s1 : seeS c (T ++ rest) = false := by
    rw [ht]
    show isS t c = false
    rw [xKp hz]
    exact g1 c hc
   unfold xKR
   rw [s1, jF, xQD hc xs x T rest m fuel [] hx hT2 hm hf]; rfl
theorem PD.x {e : Exp} (hok : okE e = true) (hl : 1 ≤ lvl e) (h : PD e (xA6 e)) : PX e := by
 intro T m rest hT hm hr
 obtain ⟨u, r, e1, _, g2⟩ := xOe e hok
 obtain ⟨t, q, ht, hz⟩ := xWL (rest := rest) (hT.trans e1)
 obtain ⟨m, rfl⟩ : ∃ k, m = k + 1 := ⟨m - 1, by omega⟩
 have k : ∀ s, s = [108, 101, 116] ∨ s = [105, 102] ∨ s = [102, 111, 114] → seeK s (T ++ rest) = false := fun s hs => by
  rw [ht]
  show isK t s = false
  rw [xOW hz]
  exact g2 hl s hs
 show xHI (pE m) (xLR (pE m) (m + 1)) (T ++ rest) = _
 unfold xHI
 rw [k _ (.inl rfl), k _ (.inr (.inl rfl)), k _ (.inr (.inr rfl))]
 simp only [jF]
 exact h T m rest hT (by omega) hr
theorem xQq {k : Int} {t : Str} {x y : Exp} {s1 s2 : Str} {u1 u2 : Tok} (hv : xCc t = true) (hx : PX x) (hy : PX y) (h1 : (isK u1 s1 || isS u1 s1) = true) (h2 : (isK u2 s2 || isS u2 s2) = true) (q2 : xN3 [u2]) {T rest : List Tok} {m : Nat}
 (hT : T.map atZ = [tkN t] ++ [u1] ++ xA6 x ++ [u2] ++ xA6 y) (hm : T.length ≤ m) (hr : xN3 rest) : pTwo (pE m) k s1 s2 (T ++ rest) = .ok (.mk k 0 t [x, y]) rest := by
 obtain ⟨T1, Ty, rfl, a1, b1⟩ := xEC hT
 obtain ⟨T2, Tu, rfl, a2, b2⟩ := xEC a1
 obtain ⟨T3, Tx, rfl, a3, b3⟩ := xEC a2
 obtain ⟨T4, T5, rfl, a4, b4⟩ := xEC a3
 obtain ⟨n, rfl, hn⟩ := xFd a4
 obtain ⟨v, rfl, hv1⟩ := xFd b4
 obtain ⟨w, rfl, hw⟩ := xFd b2
 simp only [jA, jC, jN] at hm
 have e : [n] ++ [v] ++ Tx ++ [w] ++ Ty ++ rest = n :: (v :: (Tx ++ (w :: (Ty ++ rest)))) := by simp
 have nk : n.kind = 1 := by have := congrArg Tok.kind hn; exact this
 have nt : n.text = t := by have := congrArg Tok.text hn; exact this
 have hname : xMW (n :: (v :: (Tx ++ (w :: (Ty ++ rest))))) = .ok t (v :: (Tx ++ (w :: (Ty ++ rest)))) := by
  simp only [xMW, nk, nt, hv, show ((1 : Int) == 1) = true from rfl, jT]
 unfold pTwo
 rw [e, PR.bind_of hname, PR.bind_of (xMs hv1 h1), PR.bind_of (hx Tx m _ b3 (by omega) (xLS hw q2)), PR.bind_of (xMs hw h2), PR.bind_of (hy Ty m rest b1 (by omega) hr)]
theorem xQK : ∀ e : Exp, okE e = true → PX e ∧ (4 ≤ lvl e → PA e (xA6 e)) ∧ (3 ≤ lvl e → PB e (xA6 e)) ∧ (2 ≤ lvl e → PC e (xA6 e)) := by
 refine Exp.ind fun k n t a ih h => ?_
 have hok := h
 rw [xOq, Bool.and_eq_true] at h
 obtain ⟨ha, hn⟩ := h
 have hao : ∀ x ∈ a, okE x = true := fun x hx => List.all_eq_true.1 ha x hx
 have hR := fun x hx => ih x hx (hao x hx)
 have hn : xF1 xHV xCc argc k n t a.length = true := hn
 have atom : lvl (.mk k n t a) = 4 → PA (.mk k n t a) (xA6 (.mk k n t a)) → PX (.mk k n t a) ∧ (4 ≤ lvl (.mk k n t a) → PA (.mk k n t a) (xA6 (.mk k n t a))) ∧ (3 ≤ lvl (.mk k n t a) → PB (.mk k n t a) (xA6 (.mk k n t a))) ∧ (2 ≤ lvl (.mk k n t a) → PC (.mk k n t a) (xA6 (.mk k n t a))) :=
  fun hl h => ⟨PD.x hok (by omega) h.b.c.d, fun _ => h, fun _ => h.b, fun _ => h.b.c⟩
 rcases kinds hn with rfl | rfl | rfl | rfl | rfl | ⟨rfl, h1, h5, hl2⟩ | ⟨rfl, hl2⟩ | ⟨rfl, hl2⟩ | ⟨rfl, hl2⟩
 · simp only [xF1, show ((1 : Int) == 1) = true from rfl, jT, Bool.and_eq_true, decide_eq_true_eq, beq_iff_eq] at hn
   obtain rfl : t = [] := hn.2.1
   obtain rfl : a = [] := List.length_eq_zero_iff.1 hn.2.2
   refine atom rfl fun T m rest hT hm => ?_
   obtain ⟨u, rfl, hu⟩ := xFd hT
   have k1 : u.kind = 2 := by have := congrArg Tok.kind hu; exact this
   have k2 : u.n = n := by have := congrArg Tok.n hu; exact this
   show xG2 _ _ (u :: rest) = _
   simp only [xG2, k1, k2, show ((2 : Int) == 2) = true from rfl, jT]
 · simp only [xF1, show ((2 : Int) == 1) = false from rfl, show ((2 : Int) == 2) = true from rfl, jT, jF, Bool.and_eq_true, beq_iff_eq] at hn
   obtain rfl : n = 0 := hn.1
   obtain rfl : a = [] := List.length_eq_zero_iff.1 hn.2.2
   refine atom rfl fun T m rest hT hm => ?_
   obtain ⟨u, rfl, hu⟩ := xFd hT
   have k1 : u.kind = 3 := by have := congrArg Tok.kind hu; exact this
   have k2 : u.text = t := by have := congrArg Tok.text hu; exact this
   show xG2 _ _ (u :: rest) = _
   simp only [xG2, k1, k2, show ((3 : Int) == 2) = false from rfl, show ((3 : Int) == 3) = true from rfl, jT, jF]
 · simp only [xF1, show ((3 : Int) == 1) = false from rfl, show ((3 : Int) == 2) = false from rfl, show ((3 : Int) == 3) = true from rfl, jT, jF, Bool.and_eq_true, beq_iff_eq] at hn
   obtain rfl : n = 0 := hn.1
   obtain rfl : a = [] := List.length_eq_zero_iff.1 hn.2.2
   refine atom rfl fun T m rest hT hm => ?_
   obtain ⟨u, rfl, hu⟩ := xFd hT
   have k1 : u.kind = 1 := by have := congrArg Tok.kind hu; exact this
   have k2 : u.text = t := by have := congrArg Tok.text hu; exact this
   show xG2 _ _ (u :: rest) = _
   simp only [xG2, k1, k2, hn.2.1, show ((1 : Int) == 2) = false from rfl, show ((1 : Int) == 3) = false from rfl, show ((1 : Int) == 1) = true from rfl, jT, jF]
 · simp only [xF1, show ((4 : Int) == 1) = false from rfl, show ((4 : Int) == 2) = false from rfl, show ((4 : Int) == 3) = false from rfl, show ((4 : Int) == 4) = true from rfl, jT, jF, Bool.and_eq_true, beq_iff_eq] at hn
   obtain rfl : n = 0 := hn.1
   obtain rfl : t = [] := hn.2.1
   refine atom rfl fun T m rest hT hm => ?_
   rw [xGz] at hT
   have hT : T.map atZ = [tkS [91]] ++ (xIr (a.map xA6) ++ [tkS [93]]) := by rw [hT]; show [tkS [91]] ++ xIr (a.map xA6) ++ [tkS [93]] = _; rw [List.append_assoc]
   obtain ⟨T1, T2, rfl, h1, h2⟩ := xEC hT
   obtain ⟨u, rfl, hu⟩ := xFd h1
   simp only [jA, jC, jN] at hm
   have k1 : u.kind = 4 := by have := congrArg Tok.kind hu; exact this
   have s1 : isS u [91] = true := xKp hu [91]
   show xG2 _ _ (u :: (T2 ++ rest)) = _
   simp only [xG2, k1, show ((4 : Int) == 2) = false from rfl, show ((4 : Int) == 3) = false from rfl, show ((4 : Int) == 1) = false from rfl, jF, xJy, s1, jT]
   rw [PR.bind_of (xOj (.inr rfl) hao (fun y hy => (hR y hy).1) h2 (by omega) (by omega))]
 · simp only [xF1, show ((5 : Int) == 1) = false from rfl, show ((5 : Int) == 2) = false from rfl, show ((5 : Int) == 3) = false from rfl, show ((5 : Int) == 4) = false from rfl, show ((5 : Int) == 5) = true from rfl, jT, jF, Bool.and_eq_true, beq_iff_eq] at hn
   obtain rfl : n = 0 := hn.1
   have hac : 0 ≤ argc t := by omega
   have hnv := (Word.of_call hac).2.1
   refine atom rfl fun T m rest hT hm => ?_
   rw [xGz] at hT
   have hT : T.map atZ = [tkN t] ++ ([tkS [40]] ++ (xIr (a.map xA6) ++ [tkS [41]])) := by rw [hT]; show [tkN t] ++ [tkS [40]] ++ xIr (a.map xA6) ++ [tkS [41]] = _; simp only [List.append_assoc]
   obtain ⟨T1, T2, rfl, h1, h2⟩ := xEC hT
   obtain ⟨T3, T4, rfl, h3, h4⟩ := xEC h2
   obtain ⟨u, rfl, hu⟩ := xFd h1
   obtain ⟨v, rfl, hv⟩ := xFd h3
   simp only [jA, jC, jN] at hm
   have k1 : u.kind = 1 := by have := congrArg Tok.kind hu; exact this
   have k2 : u.text = t := by have := congrArg Tok.text hu; exact this
   show xG2 _ _ (u :: (v :: (T4 ++ rest))) = _
   simp only [xG2, k1, k2, hnv, show ((1 : Int) == 2) = false from rfl, show ((1 : Int) == 3) = false from rfl, show ((1 : Int) == 1) = true from rfl, jT, jF, decide_eq_true hac]
   rw [PR.bind_of (xMs hv rfl), PR.bind_of (xOj (.inl rfl) hao (fun y hy => (hR y hy).1) h4 (by omega) (by omega))]
 · obtain ⟨x, y, rfl⟩ := xKG hl2
   simp only [xF1, show ((6 : Int) == 1) = false from rfl, show ((6 : Int) == 2) = false from rfl, show ((6 : Int) == 3) = false from rfl, show ((6 : Int) == 4) = false from rfl, show ((6 : Int) == 5) = false from rfl, show ((6 : Int) == 6) = true from rfl, jT, jF, Bool.and_eq_true, beq_iff_eq] at hn
   obtain rfl : t = [] := hn.2.1
   obtain ⟨x1, x2, x3, x4⟩ := hR x (by simp)
   obtain ⟨y1, y2, y3, y4⟩ := hR y (by simp)
   have e2 : xA6 (.mk 6 n [] [x, y]) = xIF (bif lvl (.mk 6 n [] [x, y]) == 1 then 2 else lvl (.mk 6 n [] [x, y])) x (xA6 x) ++ [tkS (xKq n)] ++ xIF (lvl (.mk 6 n [] [x, y]) + 1) y (xA6 y) := by rw [xGz]; rfl
   have : n = 1 ∨ n = 2 ∨ n = 3 ∨ n = 4 ∨ n = 5 := by omega
   rcases this with rfl | rfl | rfl | rfl | rfl
   · have hC : PC (.mk 6 1 [] [x, y]) (xA6 (.mk 6 1 [] [x, y])) := by
      rw [e2]; exact PC.add (PC.of (l := 2) x1 x4 (by omega)) (PB.of (l := 3) y1 y3 (by omega)) 1 (.inl rfl)
     have hl : lvl (.mk 6 1 [] [x, y]) = 2 := rfl
     exact ⟨PD.x hok (by omega) hC.d, fun h => by omega, fun h => by omega, fun _ => hC⟩
   · have hC : PC (.mk 6 2 [] [x, y]) (xA6 (.mk 6 2 [] [x, y])) := by
      rw [e2]; exact PC.add (PC.of (l := 2) x1 x4 (by omega)) (PB.of (l := 3) y1 y3 (by omega)) 2 (.inr rfl)
     have hl : lvl (.mk 6 2 [] [x, y]) = 2 := rfl
     exact ⟨PD.x hok (by omega) hC.d, fun h => by omega, fun h => by omega, fun _ => hC⟩
   · have hB : PB (.mk 6 3 [] [x, y]) (xA6 (.mk 6 3 [] [x, y])) := by
      rw [e2]; exact PB.mul (PB.of (l := 3) x1 x3 (by omega)) (PA.of (l := 4) y1 y2 rfl)
     have hl : lvl (.mk 6 3 [] [x, y]) = 3 := rfl
     exact ⟨PD.x hok (by omega) hB.c.d, fun h => by omega, fun _ => hB, fun _ => hB.c⟩
   · have hD : PD (.mk 6 4 [] [x, y]) (xA6 (.mk 6 4 [] [x, y])) := by
      rw [e2]; exact PD.cmp (PC.of (l := 2) x1 x4 (by omega)) (PC.of (l := 2) y1 y4 (by omega)) 4 (.inl rfl)
     have hl : lvl (.mk 6 4 [] [x, y]) = 1 := rfl
     exact ⟨PD.x hok (by omega) hD, fun h => by omega, fun h => by omega, fun h => by omega⟩
   · have hD : PD (.mk 6 5 [] [x, y]) (xA6 (.mk 6 5 [] [x, y])) := by
      rw [e2]; exact PD.cmp (PC.of (l := 2) x1 x4 (by omega)) (PC.of (l := 2) y1 y4 (by omega)) 5 (.inr rfl)
     have hl : lvl (.mk 6 5 [] [x, y]) = 1 := rfl
     exact ⟨PD.x hok (by omega) hD, fun h => by omega, fun h => by omega, fun h => by omega⟩
 · obtain ⟨x, y, rfl⟩ := xKG hl2
   simp only [xF1, show ((7 : Int) == 1) = false from rfl, show ((7 : Int) == 2) = false from rfl, show ((7 : Int) == 3) = false from rfl, show ((7 : Int) == 4) = false from rfl, show ((7 : Int) == 5) = false from rfl, show ((7 : Int) == 6) = false from rfl, show ((7 : Int) == 7) = true from rfl, jT, jF, Bool.and_eq_true, beq_iff_eq] at hn
   obtain rfl : n = 0 := hn.1
   have hl : lvl (.mk 7 0 t [x, y]) = 0 := rfl
   refine ⟨fun T m rest hT hm hr => ?_, fun h => by omega, fun h => by omega, fun h => by omega⟩
   rw [xGz] at hT
   have hT : T.map atZ = [tkN [108, 101, 116]] ++ ([tkN t] ++ [tkS [61]] ++ xA6 x ++ [tkN [105, 110]] ++ xA6 y) := by rw [hT]; show [tkN [108, 101, 116]] ++ [tkN t] ++ [tkS [61]] ++ xA6 x ++ [tkN [105, 110]] ++ xA6 y = _; simp only [List.append_assoc]
   obtain ⟨T1, T2, rfl, h1, h2⟩ := xEC hT
   obtain ⟨u, rfl, hu⟩ := xFd h1
   simp only [jA, jC, jN] at hm
   obtain ⟨m, rfl⟩ : ∃ k, m = k + 1 := ⟨m - 1, by omega⟩
   have s1 : seeK [108, 101, 116] (u :: (T2 ++ rest)) = true := xOW hu _
   show xHI (pE m) (xLR (pE m) (m + 1)) (u :: (T2 ++ rest)) = _
   unfold xHI
   rw [s1, jT, List.tail_cons]
   exact xQq hn.2.1 (hR x (by simp)).1 (hR y (by simp)).1 rfl rfl ⟨rfl, rfl, rfl, rfl, rfl⟩ h2 (by omega) hr
 · obtain ⟨x, y, rfl⟩ := xKG hl2
   simp only [xF1, show ((9 : Int) == 1) = false from rfl, show ((9 : Int) == 2) = false from rfl, show ((9 : Int) == 3) = false from rfl, show ((9 : Int) == 4) = false from rfl, show ((9 : Int) == 5) = false from rfl, show ((9 : Int) == 6) = false from rfl, show ((9 : Int) == 7) = false from rfl, show ((9 : Int) == 9) = true from rfl, jT, jF, Bool.and_eq_true, beq_iff_eq] at hn
   obtain rfl : n = 0 := hn.1
   have hl : lvl (.mk 9 0 t [x, y]) = 0 := rfl
   refine ⟨fun T m rest hT hm hr => ?_, fun h => by omega, fun h => by omega, fun h => by omega⟩
   rw [xGz] at hT
   have hT : T.map atZ = [tkN [102, 111, 114]] ++ ([tkN t] ++ [tkN [105, 110]] ++ xA6 x ++ [tkN [100, 111]] ++ xA6 y) := by rw [hT]; show [tkN [102, 111, 114]] ++ [tkN t] ++ [tkN [105, 110]] ++ xA6 x ++ [tkN [100, 111]] ++ xA6 y = _; simp only [List.append_assoc]
   obtain ⟨T1, T2, rfl, h1, h2⟩ := xEC hT
   obtain ⟨u, rfl, hu⟩ := xFd h1
   simp only [jA, jC, jN] at hm
   obtain ⟨m, rfl⟩ : ∃ k, m = k + 1 := ⟨m - 1, by omega⟩
   have s1 : seeK [108, 101, 116] (u :: (T2 ++ rest)) = false := xOW hu _
   have s2 : seeK [105, 102] (u :: (T2 ++ rest)) = false := xOW hu _
   have s3 : seeK [102, 111, 114] (u :: (T2 ++ rest)) = true := xOW hu _
   show xHI (pE m) (xLR (pE m) (m + 1)) (u :: (T2 ++ rest)) = _
   unfold xHI
   rw [s1, s2, s3, jT, jF, jF, List.tail_cons]
   exact xQq hn.2.1 (hR x (by simp)).1 (hR y (by simp)).1 rfl rfl ⟨rfl, rfl, rfl, rfl, rfl⟩ h2 (by omega) hr
 · obtain ⟨x, y, z, rfl⟩ := xN1 hl2
   simp only [xF1, show ((8 : Int) == 1) = false from rfl, show ((8 : Int) == 2) = false from rfl, show ((8 : Int) == 3) = false from rfl, show ((8 : Int) == 4) = false from rfl, show ((8 : Int) == 5) = false from rfl, show ((8 : Int) == 6) = false from rfl, show ((8 : Int) == 7) = false from rfl, show ((8 : Int) == 9) = false from rfl, show ((8 : Int) == 8) = true from rfl, jT, jF, Bool.and_eq_true, beq_iff_eq] at hn
   obtain rfl : n = 0 := hn.1
   obtain rfl : t = [] := hn.2.1
   have hl : lvl (.mk 8 0 [] [x, y, z]) = 0 := rfl
   refine ⟨fun T m rest hT hm hr => ?_, fun h => by omega, fun h => by omega, fun h => by omega⟩
   rw [xGz] at hT
   have hT : T.map atZ = [tkN [105, 102]] ++ (xA6 x ++ ([tkN [116, 104, 101, 110]] ++ (xA6 y ++ ([tkN [101, 108, 115, 101]] ++ xA6 z)))) := by rw [hT]; show [tkN [105, 102]] ++ xA6 x ++ [tkN [116, 104, 101, 110]] ++ xA6 y ++ [tkN [101, 108, 115, 101]] ++ xA6 z = _; simp only [List.append_assoc]
   obtain ⟨T1, T2, rfl, h1, h2⟩ := xEC hT
   obtain ⟨u, rfl, hu⟩ := xFd h1
   obtain ⟨Tx, T3, rfl, bx, h3⟩ := xEC h2
   obtain ⟨T4, T5, rfl, h4, h5⟩ := xEC h3
   obtain ⟨v, rfl, hv⟩ := xFd h4
   obtain ⟨Ty, T6, rfl, by', h6⟩ := xEC h5
   obtain ⟨T7, Tz, rfl, h7, bz⟩ := xEC h6
   obtain ⟨w, rfl, hw⟩ := xFd h7
   simp only [jA, jC, jN] at hm
   obtain ⟨m, rfl⟩ : ∃ k, m = k + 1 := ⟨m - 1, by omega⟩
   have e : [u] ++ (Tx ++ ([v] ++ (Ty ++ ([w] ++ Tz)))) ++ rest = u :: (Tx ++ (v :: (Ty ++ (w :: (Tz ++ rest))))) := by simp
   rw [e]
   have s1 : seeK [108, 101, 116] (u :: (Tx ++ (v :: (Ty ++ (w :: (Tz ++ rest)))))) = false := xOW hu _
   have s2 : seeK [105, 102] (u :: (Tx ++ (v :: (Ty ++ (w :: (Tz ++ rest)))))) = true := xOW hu _
   show xHI (pE m) (xLR (pE m) (m + 1)) (u :: (Tx ++ (v :: (Ty ++ (w :: (Tz ++ rest)))))) = _
   unfold xHI
   rw [s1, s2, jT, jF, List.tail_cons]
   unfold pIf
   rw [PR.bind_of ((hR x (by simp)).1 Tx m _ bx (by omega) (xLS hv ⟨rfl, rfl, rfl, rfl, rfl⟩)), PR.bind_of (xMs hv rfl), PR.bind_of ((hR y (by simp)).1 Ty m _ by' (by omega) (xLS hw ⟨rfl, rfl, rfl, rfl, rfl⟩)), PR.bind_of (xMs hw rfl), PR.bind_of ((hR z (by simp)).1 Tz m rest bz (by omega) hr)]
theorem vFo {e : Exp} (h : xFc e = true) (h1 : (srcE e).length ≤ 120) (h2 : (xA6 e).length ≤ 60) : xFr (srcE e) = (e, -1) := by
 have ho : okE e = true := by
  unfold xFc at h
  simp only [Bool.and_eq_true] at h
  exact h.2
 obtain ⟨T, hT, hl⟩ := xXd ho h1 h2
 have hp := (xQK e ho).1 T (T.length + 1) [] hT (by omega) ⟨rfl, rfl, rfl, rfl, rfl⟩
 rw [List.append_nil] at hp
 unfold xFr
 rw [hl]
 show xLh _ T = _
 unfold xLh
 rw [hp]
 show (bif xFc e then (e, (-1 : Int)) else (e0, 0)) = _
 rw [h]; rfl
end Go.Ab
end
section
namespace Go.Ab
def el (l : Int) (e : Exp) : Nat := (xIF l e (xA6 e)).length
theorem xQ5 (l : Int) (e : Exp) : el l e = (xA6 e).length + (if lvl e < l then 2 else 0) := by
 unfold el xIF
 by_cases c : lvl e < l
 · rw [decide_eq_true c, jT, if_pos c]; simp only [jA, jC, jN]; omega
 · rw [decide_eq_false c, jF, if_neg c]; rfl
theorem xQ6 {l l' : Int} (h : l ≤ l') (e : Exp) : el l e ≤ el l' e := by
 rw [xQ5, xQ5]
 by_cases c : lvl e < l
 · rw [if_pos c, if_pos (by omega)]; omega
 · rw [if_neg c]; omega
theorem vFk (l : Int) (e : Exp) : el l e ≤ (xA6 e).length + 2 := by
 rw [xQ5]; split <;> omega
theorem vDc (l : Int) (e : Exp) : (xA6 e).length ≤ el l e := by
 rw [xQ5]; omega
theorem xS7 {l : Int} {e : Exp} (h : l ≤ lvl e) : el l e = (xA6 e).length := by
 rw [xQ5, if_neg (by omega)]; rfl
def Cn (l : Int) (f : List Tok → PR Exp) : Prop := ∀ ts e r, f ts = .ok e r → el l e + r.length ≤ ts.length
def Cn0 (f : List Tok → PR Exp) : Prop := ∀ ts e r, f ts = .ok e r → (xA6 e).length + r.length ≤ ts.length
theorem xWH (s : List (List Tok)) (u : List Tok) : (xEm (s ++ [u])).length = (xEm s).length + u.length + 1 := by
 induction s with
 | nil => simp only [List.nil_append, xEm, jA, jC, jN]; omega
 | cons a s ih => simp only [List.cons_append, xEm, jA, jC, jN, ih]; omega
theorem xSy {f : List Tok → PR Exp} (hf : Cn0 f) (c : Str) : ∀ (m : Nat) (acc : List Exp) (ts : List Tok) (a : List Exp) (r : List Tok), xJz f c m acc ts = .ok a r →
 (xEm (a.map xA6)).length + r.length ≤ (xEm (acc.map xA6)).length + ts.length ∧ a ≠ [] := by
 intro m
 induction m with
 | zero => intro acc ts a r h; cases h
 | succ m ih =>
   intro acc ts a r h
   obtain ⟨e, q, he, h⟩ := PR.bind_ok h
   have g := hf ts e q he
   have hl := xWH (acc.map xA6) (xA6 e)
   have hm : (acc ++ [e]).map xA6 = acc.map xA6 ++ [xA6 e] := by simp
   rw [← hm] at hl
   cases hc : seeS c q <;> rw [hc] at h
   · obtain ⟨u, v, hn, h⟩ := PR.bind_ok h
     have n1 := xD3 hn
     obtain ⟨a1, a2⟩ := ih (acc ++ [e]) v a r h
     exact ⟨by omega, a2⟩
   · cases h
     have n1 := xEH hc
     exact ⟨by omega, by simp⟩
theorem xQe {f : List Tok → PR Exp} (hf : Cn0 f) {m : Nat} {c : Str} {ts r : List Tok} {a : List Exp} (h : xKR f m c ts = .ok a r) : (xIr (a.map xA6)).length + 1 + r.length ≤ ts.length := by
 unfold xKR at h
 cases hc : seeS c ts <;> rw [hc] at h
 · obtain ⟨h1, h2⟩ := xSy hf c m [] ts a r h
   cases a with
   | nil => exact absurd rfl h2
   | cons x a =>
     simp only [List.map_cons, List.map_nil, xEm, xIr, jA, jC, jN] at h1 ⊢
     omega
 · cases h
   have n1 := xEH hc
   simp only [List.map_nil, xIr, jN]
   omega
theorem xOs {f : List Tok → PR Exp} (hf : Cn0 f) {m : Nat} {t : Tok} {q r : List Tok} {e : Exp} (h : xJy f m t q = .ok e r) : el 4 e + r.length ≤ (t :: q).length := by
 unfold xJy at h
 simp only [jC]
 cases c1 : isS t [91] <;> rw [c1] at h
 · cases c2 : isS t [40] <;> rw [c2] at h
   · cases h
   · obtain ⟨e', u, he, h⟩ := PR.bind_ok h
     obtain ⟨_, v, hn, h⟩ := PR.bind_ok h
     cases h
     have g := hf q e u he
     have n1 := xD3 hn
     have := vFk 4 e
     omega
 · obtain ⟨a, u, ha, h⟩ := PR.bind_ok h
   cases h
   have w := xQe hf ha
   rw [xS7 (show (4 : Int) ≤ lvl (.mk 4 0 [] a) from Int.le_refl _), xGz]
   show ([tkS [91]] ++ xIr (a.map xA6) ++ [tkS [93]]).length + r.length ≤ _
   simp only [jA, jC, jN]
   omega
theorem xWu {f : List Tok → PR Exp} (hf : Cn0 f) (m : Nat) : Cn 4 (xG2 f m) := by
 intro ts e r h
 cases ts with
 | nil => cases h
 | cons t q =>
   simp only [xG2] at h
   have one : ∀ {e : Exp} {r : List Tok} , (4 : Int) ≤ lvl e → (xA6 e).length = 1 → el 4 e + r.length ≤ (t :: r).length := fun {e r} h1 h2 => by
    rw [xS7 h1, h2]; simp only [jC]; omega
   cases c1 : t.kind == 2 <;> rw [c1] at h
   · cases c2 : t.kind == 3 <;> rw [c2] at h
     · cases c3 : t.kind == 1 <;> rw [c3] at h
       · exact xOs hf h
       · cases c4 : xCc t.text <;> rw [c4] at h
         · cases c5 : decide (argc t.text ≥ 0) <;> rw [c5] at h
           · exact xOs hf h
           · obtain ⟨_, u, hn, h⟩ := PR.bind_ok h
             obtain ⟨a, v, ha, h⟩ := PR.bind_ok h
             cases h
             have n1 := xD3 hn
             have w := xQe hf ha
             rw [xS7 (show (4 : Int) ≤ lvl (.mk 5 0 t.text a) from Int.le_refl _), xGz]
             show ([tkN t.text] ++ [tkS [40]] ++ xIr (a.map xA6) ++ [tkS [41]]).length + r.length ≤ _
             simp only [jA, jC, jN]
             omega
         · cases h; exact one (Int.le_refl _) rfl
     · cases h; exact one (Int.le_refl _) rfl
   · cases h; exact one (Int.le_refl _) rfl
theorem xW2 {n : Int} (a b : Exp) {l : Int} (h : l = lvl (.mk 6 n [] [a, b])) : el l (.mk 6 n [] [a, b]) = el (bif l == 1 then 2 else l) a + 1 + el (l + 1) b := by
 subst h
 rw [xS7 (Int.le_refl _), xGz]
 show (xIF (bif lvl (.mk 6 n [] [a, b]) == 1 then 2 else lvl (.mk 6 n [] [a, b])) a (xA6 a) ++ [tkS (xKq n)] ++ xIF (lvl (.mk 6 n [] [a, b]) + 1) b (xA6 b)).length = _
 simp only [jA, jC, jN, el]
theorem xSz {g : List Tok → PR Exp} (hg : Cn 4 g) : ∀ (m : Nat) (a : Exp) (ts : List Tok) (e : Exp) (r : List Tok), xI1 g m a ts = .ok e r → el 3 e + r.length ≤ el 3 a + ts.length := by
 intro m
 induction m with
 | zero => intro a ts e r h; cases h
 | succ m ih =>
   intro a ts e r h
   unfold xI1 at h
   cases c1 : seeS [42] ts <;> rw [c1] at h
   · cases h; exact Nat.le_refl _
   · obtain ⟨b, q, hb, h⟩ := PR.bind_ok h
     have n1 := xEH c1
     have w := hg _ b q hb
     have p := ih _ q e r h
     have o : el 3 (.mk 6 3 [] [a, b]) = el 3 a + 1 + el 4 b := xW2 (n := 3) a b (l := 3) rfl
     omega
theorem xWv {g : List Tok → PR Exp} (hg : Cn 4 g) (m : Nat) : Cn 3 (xLg g m) := by
 intro ts e r h
 obtain ⟨a, q, ha, h⟩ := PR.bind_ok h
 have w := hg ts a q ha
 have p := xSz hg m a q e r h
 have := xQ6 (show (3 : Int) ≤ 4 by omega) a
 omega
theorem xWw {g : List Tok → PR Exp} (hg : Cn 3 g) : ∀ (m : Nat) (a : Exp) (ts : List Tok) (e : Exp) (r : List Tok), xJs g m a ts = .ok e r → el 2 e + r.length ≤ el 2 a + ts.length := by
 intro m
 induction m with
 | zero => intro a ts e r h; cases h
 | succ m ih =>
   intro a ts e r h
   have one : ∀ (n : Int), lvl (.mk 6 n [] [a, Ty.exp.dflt]) = 2 → ts.tail.length + 1 = ts.length → ((g ts.tail).bind fun b r => xJs g m (.mk 6 n [] [a, b]) r) = .ok e r → el 2 e + r.length ≤ el 2 a + ts.length := by
    intro n hn n1 h
    obtain ⟨b, q, hb, h⟩ := PR.bind_ok h
    have w := hg _ b q hb
    have p := ih _ q e r h
    have o : el 2 (.mk 6 n [] [a, b]) = el 2 a + 1 + el 3 b := xW2 (n := n) a b (l := 2) hn.symm
    omega
   unfold xJs at h
   cases c1 : seeS [43] ts <;> rw [c1] at h
   · cases c2 : seeS [45] ts <;> rw [c2] at h
     · cases h; exact Nat.le_refl _
     · exact one 2 rfl (xEH c2) h
   · exact one 1 rfl (xEH c1) h
theorem vCk {g : List Tok → PR Exp} (hg : Cn 3 g) (m : Nat) : Cn 2 (pSum g m) := by
 intro ts e r h
 obtain ⟨a, q, ha, h⟩ := PR.bind_ok h
 have w := hg ts a q ha
 have p := xWw hg m a q e r h
 have := xQ6 (show (2 : Int) ≤ 3 by omega) a
 omega
theorem vCi {g : List Tok → PR Exp} (hg : Cn 2 g) : Cn0 (pCmp g) := by
 intro ts e r h
 obtain ⟨a, q, ha, h⟩ := PR.bind_ok h
 have w := hg ts a q ha
 have one : ∀ (n : Int), lvl (.mk 6 n [] [a, Ty.exp.dflt]) = 1 → q.tail.length + 1 = q.length → ((g q.tail).bind fun b r => PR.ok (.mk 6 n [] [a, b]) r) = .ok e r → (xA6 e).length + r.length ≤ ts.length := by
  intro n hn n1 h
  obtain ⟨b, u, hb, h⟩ := PR.bind_ok h
  cases h
  have v := hg _ b r hb
  have o : el 1 (.mk 6 n [] [a, b]) = el 2 a + 1 + el 2 b := xW2 (n := n) a b (l := 1) hn.symm
  have := vDc 1 (.mk 6 n [] [a, b])
  omega
 have a2 := vDc 2 a
 unfold xOt at h
 cases c1 : seeS [60] q <;> rw [c1] at h
 · cases c2 : seeS [61, 61] q <;> rw [c2] at h
   · cases h; omega
   · exact one 5 rfl (xEH c2) h
 · exact one 4 rfl (xEH c1) h
theorem xSA {f : List Tok → PR Exp} (hf : Cn0 f) {k : Int} (hk : k = 7 ∨ k = 9) {s1 s2 : Str} {ts r : List Tok} {e : Exp} (h : pTwo f k s1 s2 ts = .ok e r) : (xA6 e).length + r.length ≤ ts.length + 1 := by
 obtain ⟨x, q1, e1, h⟩ := PR.bind_ok h
 obtain ⟨_, q2, e2, h⟩ := PR.bind_ok h
 obtain ⟨a, q3, e3, h⟩ := PR.bind_ok h
 obtain ⟨_, q4, e4, h⟩ := PR.bind_ok h
 obtain ⟨b, q5, e5, h⟩ := PR.bind_ok h
 cases h
 have l1 := xMF e1
 have l2 := xD3 e2
 have l3 := hf _ _ _ e3
 have l4 := xD3 e4
 have l5 := hf _ _ _ e5
 have : (xA6 (.mk k 0 x [a, b])).length = 4 + (xA6 a).length + (xA6 b).length := by
  rw [xGz]
  rcases hk with rfl | rfl
  · show ([tkN [108, 101, 116]] ++ [tkN x] ++ [tkS [61]] ++ xA6 a ++ [tkN [105, 110]] ++ xA6 b).length = _
    simp only [jA, jC, jN]; omega
  · show ([tkN [102, 111, 114]] ++ [tkN x] ++ [tkN [105, 110]] ++ xA6 a ++ [tkN [100, 111]] ++ xA6 b).length = _
    simp only [jA, jC, jN]; omega
 omega
theorem vDD {f : List Tok → PR Exp} (hf : Cn0 f) {ts r : List Tok} {e : Exp} (h : pIf f ts = .ok e r) : (xA6 e).length + r.length ≤ ts.length + 1 := by
 obtain ⟨a, q1, e1, h⟩ := PR.bind_ok h
 obtain ⟨_, q2, e2, h⟩ := PR.bind_ok h
 obtain ⟨b, q3, e3, h⟩ := PR.bind_ok h
 obtain ⟨_, q4, e4, h⟩ := PR.bind_ok h
 obtain ⟨c, q5, e5, h⟩ := PR.bind_ok h
 cases h
 have l1 := hf _ _ _ e1
 have l2 := xD3 e2
 have l3 := hf _ _ _ e3
 have l4 := xD3 e4
 have l5 := hf _ _ _ e5
 have : (xA6 (.mk 8 0 [] [a, b, c])).length = 3 + (xA6 a).length + (xA6 b).length + (xA6 c).length := by
  rw [xGz]
  show ([tkN [105, 102]] ++ xA6 a ++ [tkN [116, 104, 101, 110]] ++ xA6 b ++ [tkN [101, 108, 115, 101]] ++ xA6 c).length = _
  simp only [jA, jC, jN]; omega
 omega
theorem vDC : ∀ m, Cn0 (pE m)
 | 0 => fun ts e r h => by cases h
 | m + 1 => by
   intro ts e r h
   have ih := vDC m
   have h : xHI (pE m) (xLR (pE m) (m + 1)) ts = .ok e r := h
   unfold xHI at h
   cases c1 : seeK [108, 101, 116] ts <;> rw [c1] at h
   · cases c2 : seeK [105, 102] ts <;> rw [c2] at h
     · cases c3 : seeK [102, 111, 114] ts <;> rw [c3] at h
       · exact vCi (vCk (xWv (xWu ih _) _) _) ts e r h
       · have n := xFU c3
         have := xSA ih (.inr rfl) h
         omega
     · have n := xFU c2
       have := vDD ih h
       omega
   · have n := xFU c1
     have := xSA ih (.inl rfl) h
     omega
theorem xQJ {s : Str} (h : (xFr s).2 < 0) : xFc (xFr s).1 = true ∧ (xA6 (xFr s).1).length ≤ 60 ∧ (xFr s).2 = -1 := by
 obtain ⟨g1, g2, g3⟩ := xNr s
 have hs := xSB (xSS g1 g2) g2
 unfold xFr at h ⊢
 cases hb : decide ((lex s).2 ≥ 0)
 · rw [hb] at h
   simp only [jF] at h ⊢
   unfold xLh at h ⊢
   cases hp : pE ((lex s).1.length + 1) (lex s).1 with
   | err ts =>
     rw [hp] at h hs
     cases ts with
     | nil => have h : (s.length : Int) < 0 := h; omega
     | cons t q =>
       have h : t.pos < 0 := h
       have := (g1 t (hs.subset List.mem_cons_self)).pos
       omega
   | ok e ts =>
     rw [hp] at h hs
     have w := vDC _ _ _ _ hp
     cases ts with
     | nil =>
       have h : (bif xFc e then (e, (-1 : Int)) else (e0, 0)).2 < 0 := h
       show xFc (bif xFc e then (e, (-1 : Int)) else (e0, 0)).1 = true ∧ (xA6 (bif xFc e then (e, (-1 : Int)) else (e0, 0)).1).length ≤ 60 ∧ (bif xFc e then (e, (-1 : Int)) else (e0, 0)).2 = -1
       cases hv : xFc e
       · rw [hv] at h
         have h : (0 : Int) < 0 := h
         omega
       · simp only [jT]
         exact ⟨hv, by simp only [jN] at w; omega, trivial⟩
     | cons t q =>
       have h : t.pos < 0 := h
       have := (g1 t (hs.subset List.mem_cons_self)).pos
       omega
 · rw [hb] at h
   have hb := of_decide_eq_true hb
   have h : (lex s).2 < 0 := h
   omega
theorem xXa {K : Nat} (hK : K ≤ 9223372036854775807) : ∀ e : Exp, e.Fit K → Big2 fun N d => xEs N d e e = some true := by
 refine Exp.ind fun k n t a ih h => ?_
 obtain ⟨h1, h2, h3, h4⟩ := Exp.fit_iff.1 h
 refine Big2.succ ?_
 refine ((Big2.list fun x hx => ih x hx (h4.2 x hx)).and (xM3 a.length).two).imp fun N d ⟨hx, hn⟩ => ?_
 have hl : a.length ≤ K := h4.1
 show xEV N (xEs N d) (.mk k n t a) (.mk k n t a) = some true
 simp only [xEV, bne_self_eq_false, beq_self_eq_true, Bool.not_true, jF]
 exact vDd (x0 := a) (L := fun m i => xEQ N (xEs N d) m (List.length a : Int) i (.mk k n t a) (.mk k n t a)) (fun m => by simp [xEQ]) (fun i x m hi hxi hm => by
  have hi' : (i : Int) < ((Exp.mk k n t a).args.length : Int) := by show (i : Int) < (a.length : Int); omega
  have hi2 : (0 : Int) ≤ (i : Int) ∧ (i : Int) < ((Exp.mk k n t a).args.length : Int) := ⟨by omega, hi'⟩
  have hi3 : (i : Int) < (a.length : Int) := hi'
  have hxi2 : (Exp.mk k n t a).args[i]? = some x := hxi
  simp only [xEQ, decide_eq_true hi3, if_pos hi2, jT, Int.toNat_natCast, xCK hxi2, hx x hm, jS, xBI hi (by omega : a.length ≤ _), Bool.not_true, jF]) hn
theorem xKI {e : Exp} {K : Nat} (h : e.Fit K) (hK : K ≤ 9223372036854775807) : Big fun N => xIG N e e = some true := (xXa hK e h).diag
theorem xLa (a0 : List Int) (f0 : ∀ z ∈ [CV.sl .ro .byte a0], DFit z.toD) : ∃ N, xG8 N a0 = some true := by
 by_cases hb : (a0.length : Int) > 1048576
 · exact ⟨0, by simp [xG8, xKj, hb]⟩
 · obtain ⟨s, hdraw⟩ : ∃ s : Str, Big fun N => xD4 N a0 = some s := by
    have : E2 (fun N _ => xD4 N a0) (fun _ => True) := .bnd (newE (by omega)) fun c hc => .bnd (vFi hc) fun s hs => .mk' trivial
    obtain ⟨s, _, h2⟩ := this.diag
    exact ⟨s, h2⟩
   obtain ⟨f1, f2⟩ := xNh s
   have hfm := xMp (K := 10000) (by omega) f1 (by omega)
   refine (((hdraw.and (xNV s)).and ((xOl s).and hfm)).and (((xNV (fmtE (xFr s).1)).and (xOl (fmtE (xFr s).1))).and (xKI f1 (by omega)))).imp (fun N ⟨⟨⟨h1, h2, _⟩, ⟨h3, h4⟩, h5, _⟩, ⟨⟨h6, _⟩, h7, _⟩, h8⟩ => ?_) |>.get
   have hB : xKj N a0 = some false := by
    unfold xKj
    rw [decide_eq_false (by omega)]
   simp only [xG8, hB, h1, h2, h3, h4, h5, xK7 h2, jS, jF, beq_self_eq_true, Bool.not_true]
   by_cases hg : 0 ≤ (xFr s).2
   · rw [decide_eq_true (by omega : (xFr s).2 ≥ 0)]
     rfl
   · obtain ⟨p1, p2, p3⟩ := xQJ (by omega : (xFr s).2 < 0)
     have hf : fmtE (xFr s).1 = srcE (xFr s).1 := by unfold fmtE; rw [p1]; rfl
     rw [decide_eq_false (by omega : ¬ (xFr s).2 ≥ 0)]
     simp only [jF, Bool.not_true]
     by_cases hl : ((fmtE (xFr s).1).length : Int) > 120
     · rw [decide_eq_true hl, jT]
       simp only [jS, beq_self_eq_true]
     · have hr := vFo p1 (by rw [hf] at hl; omega) p2
       rw [hf] at h6 h7 hl ⊢
       rw [decide_eq_false hl, jF, h6, h7]
       rw [hr]
       simp only [jS]
       have q1 : ((-1 : Int) == -1) = true := rfl
       have q2 : decide ((-1 : Int) ≥ 0) = false := rfl
       simp only [q1, q2, jT, jF, h8, jS, hf, beq_self_eq_true]
end Go.Ab
end
