/- The statement FnExactNormalizeCode holds: plain functions, certificates, laws. Conditions: none. -/
import Derived.Test.YthbobcapimmnhaaGreatDoorL2
import Derived.Test.YthbobcapimmnhaaGreatDoorFnExactNormalizeCodeP1
set_option linter.all false
section
namespace Go.Ab
set_option linter.unusedVariables false
set_option linter.unusedSimpArgs false
def allI {α : Type} (p : Nat → α → Bool) : List α → Nat → Bool
  | [], _ => true
  | x :: r, i => p i x && allI p r (i + 1)
theorem allLoop {α : Type} {L : Nat → Int → Option Bool} {x0 : List α} {p : Nat → α → Bool} {e : Option Bool} (hend : ∀ n, L (n + 1) (x0.length : Nat) = e)
    (hcons : ∀ (i : Nat) x n, i < x0.length → x0[i]? = some x → x ∈ x0 → L (n + 1) (i : Nat) = bif p i x then L n ((i + 1 : Nat) : Int) else some false) {n : Nat} (hn : x0.length < n) :
    L n 0 = bif allI p x0 0 then e else some false := by
  have key : ∀ (m i : Nat), i ≤ x0.length → x0.length < m + i → L m (i : Nat) = bif allI p (x0.drop i) i then e else some false := by
    intro m
    induction m with
    | zero => intro i h1 h2; omega
    | succ m ih =>
      intro i h1 h2
      cases hd : x0.drop i with
      | nil =>
        have := xGe hd
        obtain rfl : i = x0.length := by omega
        rw [hend]; rfl
      | cons x l =>
        obtain ⟨g1, g2, g3⟩ := xDq hd
        rw [hcons i x m g1 g2 (List.mem_of_getElem? g2), ih (i + 1) (by omega) (by omega), g3]
        simp only [allI]
        cases p i x <;> rfl
  exact key n 0 (by omega) (by omega)
def textC (c : UInt8) : Bool := !(decide ((c.toNat : Int) < 32)) && (!(decide ((c.toNat : Int) > 126)) && !((c.toNat : Int) == 34))
def xG9 (s : Str) : Bool := allI (fun _ => textC) s 0 && decide ((s.length : Int) ≤ 20)
theorem bif_and {a b : Bool} : (bif a then some b else some false) = some (a && b) := by cases a <;> rfl
theorem xFf {N : Nat} {s : Str} (hl : s.length ≤ 9223372036854775807) (hn : s.length < N) : xD4 N s = some (xG9 s) := by
  rw [xG9, ← bif_and]
  exact allLoop (L := fun n i => xCE N n s i) (fun n => by simp [xCE]) (fun i x n hi hx hm => by
    have hi' : (i : Int) < (s.length : Int) := by omega
    simp only [xCE, decide_eq_true hi', cond_true, Int.toNat_natCast, xCw hx, xBV hi hl, textC]
    rw [if_pos (by omega)]
    cases decide ((x.toNat : Int) < 32) <;> cases decide ((x.toNat : Int) > 126) <;> cases ((x.toNat : Int) == 34) <;> rfl) hn
theorem xGQ (N n : Nat) (s : Str) (i : Int) : xDY N n s i = xCE N n s i := by
  induction n generalizing i with
  | zero => rfl
  | succ n ih => simp only [xDY, xCE, ih]
theorem xFX {N : Nat} {s : Str} (hl : s.length ≤ 9223372036854775807) (hn : s.length < N) : xC2 N s = some (xG9 s) := (xGQ N N s 0).trans (xFf hl hn)
end Go.Ab
end
section
namespace Go.Ab
set_option linter.unusedVariables false
set_option linter.unusedSimpArgs false
theorem Big2.up {p : Nat → Nat → Prop} (h : Big2 p) : Big2 fun N d => p N (d + 1) := h.elim fun k hk => ⟨k, fun N d h1 h2 => hk N (d + 1) h1 (by omega)⟩
end Go.Ab
end
section
namespace Go.Ab
set_option linter.unusedVariables false
set_option linter.unusedSimpArgs false
def kb : List Val → List Int → Bool
  | [], _ => false
  | _ :: _, [] => false
  | x :: r, k :: ks => (x.kind != k) || kb r ks
end Go.Ab
end
section
namespace Go.Ab
set_option linter.unusedVariables false
set_option linter.unusedSimpArgs false
def pick (k : Int) (n : Int) (rs : List Rowd) : List Rowd := rs.filter fun r => r.cells.getD k.toNat Ty.int.dflt == n
end Go.Ab
end
section
namespace Go.Ab
set_option linter.unusedVariables false
def dd (n : Nat) : Str := if n = 0 then [] else Lib.decDigits n
theorem dd_step {n : Nat} (h : n ≠ 0) : dd n = dd (n / 10) ++ [UInt8.ofNat (48 + n % 10)] := by
  unfold dd
  rw [if_neg h]
  by_cases h1 : n < 10
  · rw [Lib.decDigits, dif_pos h1, if_pos (by omega), Nat.mod_eq_of_lt h1]; rfl
  · rw [Lib.decDigits, dif_neg h1, if_neg (by omega)]
theorem itoa_dd {n : Int} (h : n ≠ 0) : Lib.itoa n = (bif decide (n < 0) then [45] else []) ++ dd n.natAbs := by
  have h2 : ¬ n.natAbs = 0 := by omega
  unfold Lib.itoa dd
  by_cases h1 : n < 0
  · rw [if_pos h1, decide_eq_true h1, if_neg h2]; rfl
  · rw [if_neg h1, decide_eq_false h1, if_neg h2, show n.toNat = n.natAbs from by omega]; rfl
theorem dd_len : ∀ (k n : Nat), n < 10 ^ k → (dd n).length ≤ k := by
  intro k
  induction k with
  | zero => intro n h; have : n = 0 := by simpa using h
            subst this; exact Nat.le_refl _
  | succ k ih =>
    intro n h
    by_cases h0 : n = 0
    · subst h0; exact Nat.zero_le _
    · rw [dd_step h0, List.length_append]
      have := ih (n / 10) (by rw [Nat.pow_succ] at h; omega)
      simp only [List.length_cons, List.length_nil]; omega
theorem itoa_len {n : Int} (h : -9223372036854775808 ≤ n ∧ n ≤ 9223372036854775807) : (Lib.itoa n).length ≤ 21 := by
  by_cases h0 : n = 0
  · subst h0
    show (Lib.decDigits 0).length ≤ 21
    rw [Lib.decDigits, dif_pos (by omega)]; simp
  · rw [itoa_dd h0, List.length_append]
    have := dd_len 20 n.natAbs (by have : (10 : Nat) ^ 20 = 100000000000000000000 := by decide
                                   omega)
    cases decide (n < 0) <;> simp <;> omega
theorem bytes_back (s : Str) : List.map (fun n => UInt8.ofNat (Int.toNat n)) (List.map (fun c : UInt8 => (c.toNat : Int)) s) = s := by
  rw [List.map_map]
  have : ((fun n => UInt8.ofNat (Int.toNat n)) ∘ fun c : UInt8 => (c.toNat : Int)) = id := by
    funext c
    simp
  rw [this, List.map_id]
theorem join_len : ∀ (xs : List Str) (sep : Str), (Lib.join xs sep).length ≤ (xs.map List.length).sum + sep.length * xs.length := by
  intro xs sep
  cases xs with
  | nil => simp [Lib.join, List.intercalate]
  | cons x r =>
    rw [Lib.join_cons, List.length_append, Lib.joinTail_length]
    simp only [Lib.lens, List.map_cons, List.sum_cons, List.length_cons, Nat.mul_add, Nat.mul_one]
    have e : (List.map (fun x => List.length x) r) = List.map List.length r := rfl
    rw [e]; omega
mutual
def Exp.cnt : Exp → Nat
  | .mk _ _ _ a => 1 + Exp.cnts a
def Exp.cnts : List Exp → Nat
  | [] => 0
  | x :: r => Exp.cnt x + Exp.cnts r
end
theorem Exp.cnts_eq (l : List Exp) : Exp.cnts l = (l.map Exp.cnt).sum := by
  induction l with
  | nil => rfl
  | cons x l ih => simp only [Exp.cnts, List.map_cons, List.sum_cons, ih]
theorem Exp.cnt_eq (e : Exp) : e.cnt = 1 + (e.args.map Exp.cnt).sum := by
  cases e; simp only [Exp.cnt, Exp.cnts_eq, Exp.args]
mutual
def Exp.nest : Exp → Nat
  | .mk _ _ _ a => Exp.nests a + 1
def Exp.nests : List Exp → Nat
  | [] => 0
  | x :: r => max (Exp.nest x) (Exp.nests r)
end
theorem Exp.nest_eq (e : Exp) : e.nest = Exp.nests e.args + 1 := by cases e; rfl
theorem sums_le {f g : Exp → Nat} : ∀ {a : List Exp}, (∀ x ∈ a, f x ≤ g x + 1) → (a.map f).sum ≤ a.length + (a.map g).sum
  | [], _ => Nat.le_refl _
  | x :: l, ih => by
    have h1 := ih x List.mem_cons_self
    have h2 := sums_le fun y hy => ih y (List.mem_cons_of_mem _ hy)
    simp only [List.map_cons, List.sum_cons, List.length_cons]; omega
theorem Exp.cnt_le : ∀ e : Exp, e.cnt ≤ e.size + 1 := by
  refine Exp.ind fun k n t a ih => ?_
  rw [Exp.cnt_eq, Exp.size_eq]
  have := sums_le ih
  show 1 + (a.map Exp.cnt).sum ≤ t.length + (a.length + (a.map Exp.size).sum) + 1
  omega
theorem nests_le : ∀ {a : List Exp}, (∀ x ∈ a, x.nest ≤ x.cnt) → Exp.nests a ≤ (a.map Exp.cnt).sum
  | [], _ => Nat.le_refl _
  | x :: l, ih => by
    have h1 := ih x List.mem_cons_self
    have h2 := nests_le fun y hy => ih y (List.mem_cons_of_mem _ hy)
    simp only [Exp.nests, List.map_cons, List.sum_cons]; omega
theorem Exp.nest_le : ∀ e : Exp, e.nest ≤ e.cnt := by
  refine Exp.ind fun k n t a ih => ?_
  rw [Exp.nest_eq, Exp.cnt_eq]
  have := nests_le ih
  show Exp.nests a + 1 ≤ 1 + (a.map Exp.cnt).sum
  omega
def opSym (n : Int) : Str := bif n == 1 then [43] else bif n == 2 then [45] else bif n == 3 then [42] else bif n == 4 then [60] else [61, 61]
def lvl (e : Exp) : Int := bif e.kind == 7 then 0 else bif e.kind == 8 then 0 else bif e.kind == 9 then 0 else bif e.kind == 6 then (bif e.n == 4 then 1 else bif e.n == 5 then 1 else bif e.n == 1 then 2 else bif e.n == 2 then 2 else bif e.n == 3 then 3 else 4) else 4
def encl (l : Int) (x : Exp) (s : Str) : Str := bif decide (lvl x < l) then [40] ++ s ++ [41] else s
def nodeS (k n : Int) (t : Str) (a : List Exp) (s : List Str) : Str :=
  bif k == 1 then Lib.itoa n else bif k == 2 then [34] ++ t ++ [34] else bif k == 3 then t else bif k == 4 then [91] ++ Lib.join s [44, 32] ++ [93]
  else bif k == 5 then t ++ [40] ++ Lib.join s [44, 32] ++ [41]
  else bif k == 7 then [108, 101, 116, 32] ++ t ++ [32, 61, 32] ++ s.getD 0 [] ++ [32, 105, 110, 32] ++ s.getD 1 []
  else bif k == 9 then [102, 111, 114, 32] ++ t ++ [32, 105, 110, 32] ++ s.getD 0 [] ++ [32, 100, 111, 32] ++ s.getD 1 []
  else bif k == 8 then [105, 102, 32] ++ s.getD 0 [] ++ [32, 116, 104, 101, 110, 32] ++ s.getD 1 [] ++ [32, 101, 108, 115, 101, 32] ++ s.getD 2 []
  else encl (bif lvl (.mk k n t a) == 1 then 2 else lvl (.mk k n t a)) (a.getD 0 Ty.exp.dflt) (s.getD 0 []) ++ [32] ++ opSym n ++ [32] ++ encl (lvl (.mk k n t a) + 1) (a.getD 1 Ty.exp.dflt) (s.getD 1 [])
mutual
def srcE : Exp → Str
  | .mk k n t a => nodeS k n t a (srcEs a)
def srcEs : List Exp → List Str
  | [] => []
  | x :: r => srcE x :: srcEs r
end
theorem srcEs_eq (l : List Exp) : srcEs l = l.map srcE := by
  induction l with
  | nil => rfl
  | cons x l ih => simp only [srcEs, List.map_cons, ih]
theorem srcE_eq (k n : Int) (t : Str) (a : List Exp) : srcE (.mk k n t a) = nodeS k n t a (a.map srcE) := by
  simp only [srcE, srcEs_eq]
def nodeOk (vT vN : Str → Bool) (ac : Str → Int) (k n : Int) (t : Str) (l : Nat) : Bool :=
  bif k == 1 then (decide (0 ≤ n) && decide (n ≤ 1000000000)) && ((t == []) && (l == 0))
  else bif k == 2 then (n == 0) && (vT t && (l == 0))
  else bif k == 3 then (n == 0) && (vN t && (l == 0))
  else bif k == 4 then (n == 0) && ((t == []) && decide (l ≤ 8))
  else bif k == 5 then (n == 0) && ((l : Int) == ac t)
  else bif k == 6 then (decide (1 ≤ n) && decide (n ≤ 5)) && ((t == []) && (l == 2))
  else bif k == 7 then (n == 0) && (vN t && (l == 2))
  else bif k == 9 then (n == 0) && (vN t && (l == 2))
  else bif k == 8 then (n == 0) && ((t == []) && (l == 3)) else false
end Go.Ab
end
section
namespace Go.Ab
set_option linter.unusedVariables false
set_option linter.unusedSimpArgs false
theorem xHv {N : Nat} : ∀ (k n : Nat) (x : Int) (b : Bool) (q : Str), x.natAbs < 10 ^ k → k < n → k + q.length ≤ 1000 → (-9223372036854775808 ≤ x ∧ x ≤ 9223372036854775807) →
    xCm N n x b q = some ((bif b then [45] else []) ++ (dd x.natAbs ++ q)) := by
  intro k
  induction k with
  | zero =>
    intro n x b q hx hn hq hi
    obtain ⟨n, rfl⟩ : ∃ m, n = m + 1 := ⟨n - 1, by omega⟩
    have : x = 0 := by have : x.natAbs < 1 := by simpa using hx
                       omega
    subst this
    simp only [xCm, show ((0 : Int) != 0) = false from rfl, cond_false]
    cases b
    · rfl
    · simp only [cond_true]
      rw [if_pos (by simp only [List.length_cons, List.length_nil]; unfold Lim; omega)]; rfl
  | succ k ih =>
    intro n x b q hx hn hq hi
    obtain ⟨n, rfl⟩ : ∃ m, n = m + 1 := ⟨n - 1, by omega⟩
    by_cases h0 : x = 0
    · subst h0
      simp only [xCm, show ((0 : Int) != 0) = false from rfl, cond_false]
      cases b
      · rfl
      · simp only [cond_true]
        rw [if_pos (by simp only [List.length_cons, List.length_nil]; unfold Lim; omega)]; rfl
    · have hne : (x != 0) = true := by simpa using h0
      have hn0 : x.natAbs ≠ 0 := by omega
      have hd : (Int.tdiv x 10).natAbs = x.natAbs / 10 := by rw [Int.natAbs_tdiv]; rfl
      have hm : (Int.tmod x 10).natAbs = x.natAbs % 10 := by rw [Int.natAbs_tmod]; rfl
      have hdi : -9223372036854775808 ≤ Int.tdiv x 10 ∧ Int.tdiv x 10 ≤ 9223372036854775807 := by omega
      have hb : (Int.tdiv x 10).natAbs < 10 ^ k := by rw [hd]; rw [Nat.pow_succ] at hx; omega
      have hw : IntKind.i64.wrap (Int.tdiv x 10) = Int.tdiv x 10 := xCk (by omega) (by omega)
      have fin : ∀ c : Int, c = ((48 + x.natAbs % 10 : Nat) : Int) → xCm N n (Int.tdiv x 10) b ((List.map (fun n => UInt8.ofNat (Int.toNat n)) [c]) ++ q) = some ((bif b then [45] else []) ++ (dd x.natAbs ++ q)) := by
        intro c hc
        rw [ih n _ b _ hb (by omega) (by simp only [List.length_append, List.length_map, List.length_cons, List.length_nil]; omega) hdi, hd, dd_step hn0, hc]
        simp only [List.map_cons, List.map_nil, Int.toNat_natCast, List.append_assoc, List.cons_append, List.nil_append]
      have hlim : ∀ c : Int, List.length (List.map (fun n => UInt8.ofNat (Int.toNat n)) [c]) + List.length q ≤ Lim := fun c => by
        simp only [List.length_map, List.length_cons, List.length_nil]; unfold Lim; omega
      by_cases hneg : Int.tmod x 10 < 0
      · have e1 : IntKind.i64.wrap (0 - Int.tmod x 10) = 0 - Int.tmod x 10 := xCk (by omega) (by omega)
        have e2 : IntKind.i64.wrap (48 + (0 - Int.tmod x 10)) = 48 + (0 - Int.tmod x 10) := xCk (by omega) (by omega)
        have e3 : IntKind.u8.wrap (48 + (0 - Int.tmod x 10)) = 48 + (0 - Int.tmod x 10) := wrap_u8 (by omega) (by omega)
        simp only [xCm, hne, cond_true, decide_eq_true hneg, e1, e2, e3, hw]
        rw [if_pos (hlim _)]
        exact fin _ (by omega)
      · have e2 : IntKind.i64.wrap (48 + Int.tmod x 10) = 48 + Int.tmod x 10 := xCk (by omega) (by omega)
        have e3 : IntKind.u8.wrap (48 + Int.tmod x 10) = 48 + Int.tmod x 10 := wrap_u8 (by omega) (by omega)
        simp only [xCm, hne, cond_true, decide_eq_false hneg, cond_false, e2, e3, hw]
        rw [if_pos (hlim _)]
        exact fin _ (by omega)
theorem xGA {N : Nat} {x : Int} (hN : 100 < N) (hi : -9223372036854775808 ≤ x ∧ x ≤ 9223372036854775807) : xEj N x = some (Lib.itoa x) := by
  unfold xEj
  by_cases h0 : x = 0
  · subst h0
    simp only [beq_self_eq_true, cond_true]
    show some [48] = some (Lib.decDigits 0)
    rw [Lib.decDigits, dif_pos (by omega)]; rfl
  · have e20 : x.natAbs < 10 ^ 20 := by
      have : (10 : Nat) ^ 20 = 100000000000000000000 := by decide
      omega
    rw [show (x == 0) = false from beq_eq_false_iff_ne.2 h0, cond_false, xHv 20 N x _ [] e20 (by omega) (by simp) hi, itoa_dd h0, List.append_nil]
theorem impl_FormatInt_eq {N : Nat} {x : Int} (hi : -9223372036854775808 ≤ x ∧ x ≤ 9223372036854775807) : xE1 N x = some (Lib.itoa x) := by
  unfold xE1 strconv_Itoa itoaP
  rw [if_pos hi.1, if_pos hi.2]; rfl
theorem impl_Join_eq {N : Nat} {xs : List Str} {sep : Str} (h1 : xs.length ≤ 100000000000) (h2 : (xs.map List.length).sum + sep.length * xs.length ≤ 100000000000) : xGV N xs sep = some (Lib.join xs sep) := by
  have := join_len xs sep
  unfold xGV strings_Join joinP
  rw [if_pos (by omega), if_pos (by omega)]; rfl
theorem spec_Join_eq {N : Nat} {xs : List Str} {sep : Str} (h1 : xs.length ≤ 100000000000) (h2 : (xs.map List.length).sum + sep.length * xs.length ≤ 100000000000) (hN : xs.length < N) : xG1 N xs sep = some (Lib.join xs sep) := by
  have key : ∀ (n i : Nat) (q : List Int), 0 < i → i ≤ xs.length → xs.length < n + i → q.length + (((xs.drop i).map List.length).sum + sep.length * (xs.drop i).length) ≤ 100000000000 →
      xDS N n xs sep q (i : Nat) = some (List.map (fun n => UInt8.ofNat (Int.toNat n)) q ++ Lib.joinTail sep (xs.drop i)) := by
    intro n
    induction n with
    | zero => intro i q _ h1 h2; omega
    | succ n ih =>
      intro i q hp hi hn hl
      cases hd : xs.drop i with
      | nil =>
        have hi2 : i = xs.length := by have := xGe hd; omega
        subst hi2
        simp only [xDS, Int.lt_irrefl, decide_false, cond_false, Lib.joinTail, List.map_nil, List.flatten_nil, List.append_nil]
      | cons x l =>
        obtain ⟨e1, e2, e3⟩ := xDq hd
        rw [hd] at hl
        simp only [List.map_cons, List.sum_cons, List.length_cons, Nat.mul_add, Nat.mul_one] at hl
        have hi' : (i : Int) < (xs.length : Int) := by omega
        have hp' : (i : Int) > 0 := by omega
        have := ih (i + 1) ((q ++ List.map (fun c => (c.toNat : Int)) sep) ++ List.map (fun c => (c.toNat : Int)) x) (by omega) (by omega) (by omega) (by rw [e3]; simp only [List.length_append, List.length_map]; omega)
        rw [e3] at this
        simp only [xDS, decide_eq_true hi', decide_eq_true hp', cond_true, Int.toNat_natCast, xCw e2, xBV e1 (by omega : xs.length ≤ _), this]
        rw [if_pos (by unfold Lim; omega), if_pos (by omega), if_pos (by simp only [List.length_append, List.length_map]; unfold Lim; omega)]
        simp only [List.map_append, bytes_back, Lib.joinTail, List.map_cons, List.flatten_cons, List.append_assoc]
  obtain ⟨n, rfl⟩ : ∃ m, N = m + 1 := ⟨N - 1, by omega⟩
  cases xs with
  | nil => simp [xG1, xDS, Lib.join, List.intercalate]
  | cons x l =>
    have := key n 1 (List.map (fun c => (c.toNat : Int)) x) (by omega) (by simp only [List.length_cons]; omega) (by simp only [List.length_cons] at hN ⊢; omega) (by
      simp only [List.drop_succ_cons, List.drop_zero, List.length_map]
      simp only [List.map_cons, List.sum_cons, List.length_cons, Nat.mul_add, Nat.mul_one] at h2; omega)
    simp only [List.map_cons, List.sum_cons, List.length_cons, Nat.mul_add, Nat.mul_one] at h2 h1
    have hi' : ((0 : Nat) : Int) < (((x :: l).length : Nat) : Int) := by simp only [List.length_cons]; omega
    have hp' : ¬ ((0 : Nat) : Int) > 0 := by omega
    show xDS (n + 1) (n + 1) (x :: l) sep [] ((0 : Nat) : Int) = _
    simp only [xDS, decide_eq_true hi', decide_eq_false hp', cond_true, cond_false, Int.toNat_natCast, List.getD_cons_zero, xBV (show 0 < (x :: l).length by simp) (by simp only [List.length_cons]; omega : (x :: l).length ≤ _), List.nil_append]
    rw [if_pos (by simp only [List.length_cons]; omega), if_pos (by simp only [List.length_nil]; unfold Lim; omega)]
    rw [this, bytes_back, Lib.join_cons]; rfl
theorem bif_ex {α : Type} {b : Bool} {x y : Option α} (h1 : ∃ r, x = some r) (h2 : ∃ r, y = some r) : ∃ r, (bif b then x else y) = some r := by cases b <;> assumption
theorem xDP {α : Type} {b : Bool} {x y : Option α} {p q : α} (h1 : x = some p) (h2 : y = some q) : (bif b then x else y) = some (bif b then p else q) := by cases b <;> assumption
def argc (s : Str) : Int := (xCf 0 s).getD 0
theorem xEM (N : Nat) (s : Str) : xCf N s = some (argc s) := by
  have key : ∃ r, xCf 0 s = some r := by
    unfold xCf
    repeat (first | exact ⟨_, rfl⟩ | refine bif_ex ⟨_, rfl⟩ ?_)
  obtain ⟨r, hr⟩ := key
  show xCf 0 s = _
  rw [argc, hr]; rfl
theorem xFE (N : Nat) (s : Str) : xCV N s = some (argc s) := (show xCV N s = xCf N s from rfl).trans (xEM N s)
def nodeE (e : Exp) : Bool := nodeOk xG9 xDr argc e.kind e.n e.text e.args.length
theorem lenI0 (l : Nat) : ((l : Int) == 0) = (l == 0) := by
  rcases Nat.eq_zero_or_pos l with rfl | h
  · rfl
  · rw [beq_eq_false_iff_ne.2 (by omega : l ≠ 0), beq_eq_false_iff_ne.2 (by omega : (l : Int) ≠ 0)]
theorem lenI2 (l : Nat) : ((l : Int) == 2) = (l == 2) := by
  rcases Decidable.em (l = 2) with rfl | h
  · rfl
  · rw [beq_eq_false_iff_ne.2 h, beq_eq_false_iff_ne.2 (by omega : (l : Int) ≠ 2)]
theorem lenI3 (l : Nat) : ((l : Int) == 3) = (l == 3) := by
  rcases Decidable.em (l = 3) with rfl | h
  · rfl
  · rw [beq_eq_false_iff_ne.2 h, beq_eq_false_iff_ne.2 (by omega : (l : Int) ≠ 3)]
theorem lenI8 (l : Nat) : decide ((l : Int) ≤ 8) = decide (l ≤ 8) := by
  rcases Decidable.em (l ≤ 8) with h | h
  · rw [decide_eq_true h, decide_eq_true (by omega : (l : Int) ≤ 8)]
  · rw [decide_eq_false h, decide_eq_false (by omega : ¬ (l : Int) ≤ 8)]
theorem impl_isNode_eq {N : Nat} {e : Exp} (ht : e.text.length ≤ 9223372036854775807) (hn : e.text.length < N) : xFY N e = some (nodeE e) := by
  simp only [xFY, nodeE, nodeOk, xHn, xFX ht hn, xFb (N := N) ht hn, xFE, Option.bind_some, lenI0, lenI2, lenI3, lenI8]
  refine xDP ?_ (xDP ?_ (xDP ?_ (xDP ?_ (xDP ?_ (xDP ?_ (xDP ?_ (xDP ?_ (xDP ?_ rfl)))))))) <;>
    first
    | rfl
    | (cases (decide ((0 : Int) ≤ e.n) && decide (e.n ≤ 1000000000)) <;> cases (e.text == []) <;> rfl)
    | (cases (decide ((1 : Int) ≤ e.n) && decide (e.n ≤ 5)) <;> cases (e.text == []) <;> rfl)
    | (cases (e.n == 0) <;> cases (e.text == []) <;> rfl)
    | (cases (e.n == 0) <;> cases (xG9 e.text) <;> rfl)
    | (cases (e.n == 0) <;> cases (xDr e.text) <;> rfl)
theorem spec_l10Node_eq {N : Nat} {e : Exp} (ht : e.text.length ≤ 9223372036854775807) (hn : e.text.length < N) (h24 : 24 < N) : xFL N e = some (nodeE e) := by
  simp only [xFL, nodeE, nodeOk, spec_l1In_eq, xFf ht hn, xFe (N := N) (s := e.text) ht hn h24, xEM, Option.bind_some, lenI0, lenI2, lenI3, lenI8]
  refine xDP ?_ (xDP ?_ (xDP ?_ (xDP ?_ (xDP ?_ (xDP ?_ (xDP ?_ (xDP ?_ (xDP ?_ rfl)))))))) <;>
    first
    | rfl
    | (cases (e.args.length == 0) <;> cases (e.text == []) <;> cases (decide ((0 : Int) ≤ e.n) && decide (e.n ≤ 1000000000)) <;> rfl)
    | (cases (e.args.length == 0) <;> cases (e.n == 0) <;> cases (xG9 e.text) <;> rfl)
    | (cases (e.args.length == 0) <;> cases (e.n == 0) <;> cases (xDr e.text) <;> rfl)
    | (cases (e.n == 0) <;> cases (e.text == []) <;> rfl)
    | (cases (e.args.length == 2) <;> cases (e.text == []) <;> cases (decide ((1 : Int) ≤ e.n) && decide (e.n ≤ 5)) <;> rfl)
    | (cases (e.args.length == 2) <;> cases (e.n == 0) <;> cases (xDr e.text) <;> rfl)
    | (cases (e.args.length == 3) <;> cases (e.n == 0) <;> cases (e.text == []) <;> rfl)
mutual
def okE : Exp → Bool
  | .mk k n t a => okEs a && nodeE (.mk k n t a)
def okEs : List Exp → Bool
  | [] => true
  | x :: r => okE x && okEs r
end
theorem okEs_eq (l : List Exp) : okEs l = l.all okE := by
  induction l with
  | nil => rfl
  | cons x l ih => simp only [okEs, List.all_cons, ih]
theorem okE_eq (e : Exp) : okE e = (e.args.all okE && nodeE e) := by
  cases e; simp only [okE, okEs_eq]; rfl
theorem all_ok {K : Nat} (hK : K ≤ 1048576) : ∀ e : Exp, e.Fit K → Big2 fun N d => xEp N d e = some (okE e) ∧ xEQ N d e = some (okE e) := by
  refine Exp.ind fun k n t a ih h => ?_
  obtain ⟨h1, h2, h3, h4⟩ := Exp.fit_iff.1 h
  refine Big2.succ ?_
  refine ((Big2.list fun x hx => ih x hx (h4.2 x hx)).and (big_lt (K + 30)).two).imp fun N d ⟨hx, hn⟩ => ?_
  have hl : a.length ≤ K := h4.1
  have ht : (Exp.mk k n t a).text.length ≤ K := h3
  rw [okE_eq]
  refine ⟨?_, ?_⟩
  · exact xFl (σ := Unit) (L := fun m i _ => xDM N (xEp N d) m a a.length i (.mk k n t a)) a (fun l _ => l.all okE && nodeE (.mk k n t a)) (fun _ _ => True) (fun m _ _ => by simp [xDM, impl_isNode_eq (N := N) (e := .mk k n t a) (by omega) (by omega)])
      (fun i x l _ hd hi hxi _ => by
        have hi' : (i : Int) < (a.length : Int) := by omega
        have hm := List.mem_of_getElem? hxi
        cases ho : okE x
        · refine .inr fun m => ?_
          simp only [xDM, decide_eq_true hi', cond_true, Int.toNat_natCast, xCw hxi, (hx x hm).1, ho, Option.bind_some, Bool.not_false, List.all_cons, Bool.false_and]
          rw [if_pos (by omega)]
        · refine .inl ⟨(), trivial, by simp [ho], fun m => ?_⟩
          simp only [xDM, decide_eq_true hi', cond_true, Int.toNat_natCast, xCw hxi, (hx x hm).1, ho, Option.bind_some, Bool.not_true, cond_false, xBV hi (by omega : a.length ≤ _)]
          rw [if_pos (by omega)]) N 0 () trivial (by omega) (by omega)
  · exact xFl (σ := Unit) (L := fun m i _ => xEl N (xEQ N d) m i (.mk k n t a)) a (fun l _ => l.all okE && nodeE (.mk k n t a)) (fun _ _ => True) (fun m _ _ => by simp [xEl, ea, spec_l10Node_eq (N := N) (e := .mk k n t a) (by omega) (by omega) (by omega)])
      (fun i x l _ hd hi hxi _ => by
        have hi' : (i : Int) < ((Exp.mk k n t a).args.length : Int) := by show (i : Int) < (a.length : Int); omega
        have hi2 : (0 : Int) ≤ (i : Int) ∧ (i : Int) < ((Exp.mk k n t a).args.length : Int) := ⟨by omega, hi'⟩
        have hm := List.mem_of_getElem? hxi
        have hxi2 : (Exp.mk k n t a).args[i]? = some x := hxi
        cases ho : okE x
        · refine .inr fun m => ?_
          simp only [xEl, decide_eq_true hi', if_pos hi2, cond_true, Int.toNat_natCast, xCw hxi2, (hx x hm).2, ho, Option.bind_some, Bool.not_false, List.all_cons, Bool.false_and]
        · refine .inl ⟨(), trivial, by simp [ho], fun m => ?_⟩
          simp only [xEl, decide_eq_true hi', if_pos hi2, cond_true, Int.toNat_natCast, xCw hxi2, (hx x hm).2, ho, Option.bind_some, Bool.not_true, cond_false, xBV hi (by omega : a.length ≤ _)]) N 0 () trivial (by omega) (by omega)
end Go.Ab
end
section
namespace Go.Ab
set_option linter.unusedVariables false
set_option linter.unusedSimpArgs false
def sumC (l : List Exp) : Nat := (l.map Exp.cnt).sum
theorem sumC_cons (x : Exp) (l : List Exp) : sumC (x :: l) = x.cnt + sumC l := by simp only [sumC, List.map_cons, List.sum_cons]
theorem left_left (c s : Nat) {l : Int} (h : 0 ≤ l) : left (c + s) l = if left c l < 0 then left c l else left s (left c l) := by
  by_cases c1 : (c : Int) ≤ l
  · rw [left_of c1, if_neg (by omega)]
    by_cases c2 : (s : Int) ≤ l - c
    · rw [left_of c2, left_of (by omega)]; omega
    · rw [left_not c2, left_not (by omega)]
  · rw [left_not c1, if_pos (by omega), left_not (by omega)]
theorem count_eq {K : Nat} (hK : K ≤ 1048576) : ∀ e : Exp, e.Fit K → e.cnt ≤ 2000000 → Big2 fun N d => xDI N d e = some (e.cnt : Int) ∧ ∀ l : Int, 0 ≤ l → l ≤ 1000 → xD7 N d e l = some (left e.cnt l) := by
  refine Exp.ind fun k n t a ih h hc => ?_
  obtain ⟨h1, h2, h3, h4⟩ := Exp.fit_iff.1 h
  rw [Exp.cnt_eq] at hc
  have hc : 1 + sumC a ≤ 2000000 := hc
  have hmem : ∀ x ∈ a, x.cnt ≤ sumC a := fun x hx => size_mem (f := Exp.cnt) hx
  refine Big2.succ ?_
  refine ((Big2.list fun x hx => ih x hx (h4.2 x hx) (by have := hmem x hx; omega)).and (big_lt (K + 30)).two).imp fun N d ⟨hx, hn⟩ => ?_
  have hl : a.length ≤ K := h4.1
  rw [Exp.cnt_eq]
  refine ⟨?_, fun l hl0 hl1 => ?_⟩
  · have := xFl (L := fun m i s => xDt N (xDI N d) m s a a.length i) a (fun l s => s + (sumC l : Int)) (fun i s => 0 ≤ s ∧ s + (sumC (a.drop i) : Int) ≤ 2000000) (fun m s _ => by simp [xDt, sumC])
      (fun i x l s hd hi hxi hs => by
        have hi' : (i : Int) < (a.length : Int) := by omega
        have hm := List.mem_of_getElem? hxi
        rw [hd, sumC_cons] at hs
        have hw : IntKind.i64.wrap (s + (x.cnt : Int)) = s + (x.cnt : Int) := xCk (by omega) (by omega)
        refine .inl ⟨s + (x.cnt : Int), ⟨by omega, by rw [(xDq hd).2.2]; omega⟩, by rw [sumC_cons]; omega, fun m => ?_⟩
        simp only [xDt, decide_eq_true hi', cond_true, Int.toNat_natCast, xCw hxi, (hx x hm).1, Option.bind_some, hw, xBV hi (by omega : a.length ≤ _)]
        rw [if_pos (by omega)]) N 0 1 ⟨by omega, by rw [List.drop_zero]; omega⟩ (by omega) (by omega)
    rw [List.drop_zero] at this
    show xDt N (xDI N d) N 1 a a.length 0 = some ((1 + sumC a : Nat) : Int)
    rw [show ((1 + sumC a : Nat) : Int) = 1 + (sumC a : Int) from by omega]
    exact this
  · have := xFl (L := fun m i s => xDF N (xD7 N d) m s i (.mk k n t a)) a (fun l s => if s < 0 then s else left (sumC l) s) (fun i s => -1 ≤ s ∧ s ≤ 1000) (fun m s hs => by
        simp only [xDF, ea, Int.lt_irrefl, decide_false, cond_false, sumC, List.map_nil, List.sum_nil]
        split
        · rfl
        · rw [left_of (by omega)]; simp)
      (fun i x l s hd hi hxi hs => by
        have hi' : (i : Int) < ((Exp.mk k n t a).args.length : Int) := by show (i : Int) < (a.length : Int); omega
        have hi2 : (0 : Int) ≤ (i : Int) ∧ (i : Int) < ((Exp.mk k n t a).args.length : Int) := ⟨by omega, hi'⟩
        have hm := List.mem_of_getElem? hxi
        have hxi2 : (Exp.mk k n t a).args[i]? = some x := hxi
        by_cases hneg : s < 0
        · refine .inr fun m => ?_
          have h2 : ¬ s ≥ 0 := by omega
          simp only [xDF, decide_eq_true hi', cond_true, decide_eq_false h2, cond_false, if_pos hneg]
        · have h2 : s ≥ 0 := by omega
          refine .inl ⟨left x.cnt s, ?_, ?_, fun m => ?_⟩
          · unfold left; split <;> omega
          · rw [if_neg hneg, sumC_cons, left_left _ _ (by omega)]
          · simp only [xDF, decide_eq_true hi', cond_true, decide_eq_true h2, if_pos hi2, Int.toNat_natCast, xCw hxi2, (hx x hm).2 s (by omega) (by omega), Option.bind_some, xBV hi (by omega : a.length ≤ _)]) N 0 (l - 1) ⟨by omega, by omega⟩ (by omega) (by omega)
    rw [List.drop_zero] at this
    show xDF N (xD7 N d) N (IntKind.i64.wrap (l - 1)) 0 (.mk k n t a) = some (left (1 + sumC a) l)
    rw [xCk (by omega) (by omega)]
    refine Eq.trans this ?_
    unfold left
    by_cases c0 : l - 1 < 0
    · rw [if_pos c0, if_neg (by omega)]; congr 1; omega
    · rw [if_neg c0]
      by_cases c2 : (sumC a : Int) ≤ l - 1
      · rw [if_pos c2, if_pos (by omega)]; congr 1; omega
      · rw [if_neg c2, if_neg (by omega)]
theorem nest_mem {x : Exp} : ∀ {a : List Exp}, x ∈ a → x.nest ≤ Exp.nests a
  | y :: l, h => by
    rcases List.mem_cons.1 h with rfl | h
    · simp only [Exp.nests]; omega
    · have := nest_mem h; simp only [Exp.nests]; omega
theorem maxI (a b : Nat) : (if (a : Int) > (b : Int) then (a : Int) else (b : Int)) = ((max b a : Nat) : Int) := by
  split <;> omega
theorem nest_eq {K : Nat} (hK : K ≤ 1048576) : ∀ e : Exp, e.Fit K → e.nest ≤ 2000000 → Big2 fun N d => xD9 N d e = some (e.nest : Int) ∧ xEf N d e = some (e.nest : Int) := by
  refine Exp.ind fun k n t a ih h hc => ?_
  obtain ⟨h1, h2, h3, h4⟩ := Exp.fit_iff.1 h
  rw [Exp.nest_eq] at hc
  have hc : Exp.nests a + 1 ≤ 2000000 := hc
  have hmem : ∀ x ∈ a, x.nest ≤ Exp.nests a := fun x hx => nest_mem hx
  refine Big2.succ ?_
  refine ((Big2.list fun x hx => ih x hx (h4.2 x hx) (by have := hmem x hx; omega)).and (big_lt (K + 30)).two).imp fun N d ⟨hx, hn⟩ => ?_
  have hl : a.length ≤ K := h4.1
  rw [Exp.nest_eq]
  refine ⟨?_, ?_⟩
  · have := xFl (L := fun m i (s : Nat) => xDU N (xD9 N d) m (s : Int) a a.length i) a (fun l s => ((max s (Exp.nests l) + 1 : Nat) : Int)) (fun i s => s ≤ 2000000) (fun m s hs => by
        have hw : IntKind.i64.wrap ((s : Int) + 1) = ((max s 0 + 1 : Nat) : Int) := by rw [xCk (by omega) (by omega)]; omega
        simp only [xDU, Int.lt_irrefl, decide_false, cond_false, hw, Exp.nests])
      (fun i x l s hd hi hxi hs => by
        have hi' : (i : Int) < (a.length : Int) := by omega
        have hm := List.mem_of_getElem? hxi
        have := hmem x hm
        refine .inl ⟨max s x.nest, by omega, by simp only [Exp.nests]; omega, fun m => ?_⟩
        simp only [xDU, decide_eq_true hi', cond_true, Int.toNat_natCast, xCw hxi, (hx x hm).1, Option.bind_some, maxI, xBV hi (by omega : a.length ≤ _)]
        rw [if_pos (by omega)]) N 0 0 (by omega) (by omega) (by omega)
    rw [List.drop_zero] at this
    refine Eq.trans this ?_
    simp; rfl
  · have := xFl (L := fun m i (s : Nat) => xDW N (xEf N d) m (s : Int) i (.mk k n t a)) a (fun l s => ((max s (Exp.nests l) + 1 : Nat) : Int)) (fun i s => s ≤ 2000000) (fun m s hs => by
        have hw : IntKind.i64.wrap ((s : Int) + 1) = ((max s 0 + 1 : Nat) : Int) := by rw [xCk (by omega) (by omega)]; omega
        simp only [xDW, ea, Int.lt_irrefl, decide_false, cond_false, hw, Exp.nests])
      (fun i x l s hd hi hxi hs => by
        have hi' : (i : Int) < ((Exp.mk k n t a).args.length : Int) := by show (i : Int) < (a.length : Int); omega
        have hi2 : (0 : Int) ≤ (i : Int) ∧ (i : Int) < ((Exp.mk k n t a).args.length : Int) := ⟨by omega, hi'⟩
        have hm := List.mem_of_getElem? hxi
        have hxi2 : (Exp.mk k n t a).args[i]? = some x := hxi
        have := hmem x hm
        have hmax : xGD N (s : Int) (x.nest : Int) = some ((max s x.nest : Nat) : Int) := by
          unfold xGD
          by_cases c : (s : Int) > (x.nest : Int)
          · rw [decide_eq_true c]; show some (s : Int) = _; congr 1; omega
          · rw [decide_eq_false c]; show some (x.nest : Int) = _; congr 1; omega
        refine .inl ⟨max s x.nest, by omega, by simp only [Exp.nests]; omega, fun m => ?_⟩
        simp only [xDW, decide_eq_true hi', cond_true, if_pos hi2, Int.toNat_natCast, xCw hxi2, (hx x hm).2, Option.bind_some, hmax, xBV hi (by omega : a.length ≤ _)]) N 0 0 (by omega) (by omega) (by omega)
    rw [List.drop_zero] at this
    refine Eq.trans this ?_
    simp; rfl
def xFw (e : Exp) : Bool := (decide (e.cnt ≤ 40) && decide (e.nest ≤ 8)) && okE e
theorem validX_eq {K : Nat} (hK : K ≤ 1048576) {e : Exp} (h : e.Fit K) (hs : e.size ≤ 1048576) : Big fun N => xCI N e = some (xFw e) ∧ xCJ N e = some (xFw e) := by
  have h1 := Exp.cnt_le e
  have h2 := Exp.nest_le e
  refine (((count_eq hK e h (by omega)).diag.and (nest_eq hK e h (by omega)).diag).and (all_ok hK e h).diag).imp fun N ⟨⟨⟨c1, c2⟩, n1, n2⟩, a1, a2⟩ => ?_
  have c3 : xGo N e = some (e.cnt : Int) := c1
  have c4 : xG2 N e 40 = some (left e.cnt 40) := c2 40 (by omega) (by omega)
  have n3 : xGn N e = some (e.nest : Int) := n1
  have n4 : xGr N e = some (e.nest : Int) := n2
  have a3 : xGG N e = some (okE e) := a1
  have a4 : xHw N e = some (okE e) := a2
  have d1 : decide ((e.cnt : Int) ≤ 40) = decide (e.cnt ≤ 40) := decide_eq_decide.2 (by omega)
  have d2 : decide (left e.cnt 40 ≥ 0) = decide (e.cnt ≤ 40) := decide_eq_decide.2 (by unfold left; split <;> omega)
  have d3 : decide ((e.nest : Int) ≤ 8) = decide (e.nest ≤ 8) := decide_eq_decide.2 (by omega)
  refine ⟨?_, ?_⟩
  · simp only [xCI, c3, n3, a3, Option.bind_some, d1, d3, xFw]
    cases decide (e.cnt ≤ 40) <;> cases decide (e.nest ≤ 8) <;> rfl
  · simp only [xCJ, c4, n4, a4, Option.bind_some, d2, d3, xFw]
    cases decide (e.cnt ≤ 40) <;> cases decide (e.nest ≤ 8) <;> rfl
theorem xF5 (N : Nat) (e : Exp) : xEO N e = some (lvl e) := by
  unfold xEO lvl
  repeat (first | rfl | refine xDP ?_ ?_)
theorem xGW (N : Nat) (e : Exp) : xFh N e = some (lvl e) := (level_same N e).trans (xF5 N e)
theorem getD012 : ∀ s : List Str, (s.getD 0 []).length + (s.getD 1 []).length + (s.getD 2 []).length ≤ (s.map List.length).sum
  | [] => by simp
  | [x] => by simp
  | [x, y] => by simp
  | x :: y :: z :: r => by simp only [List.getD_cons_zero, List.getD_cons_succ, List.map_cons, List.sum_cons]; omega
theorem opSym_len (n : Int) : (opSym n).length ≤ 2 := by
  unfold opSym
  cases (n == 1) <;> cases (n == 2) <;> cases (n == 3) <;> cases (n == 4) <;> simp
theorem encl_len (l : Int) (x : Exp) (s : Str) : (encl l x s).length ≤ s.length + 2 := by
  unfold encl
  cases decide (lvl x < l) <;> simp
theorem nodeS_len {k n : Int} (hn : -9223372036854775808 ≤ n ∧ n ≤ 9223372036854775807) (t : Str) (a : List Exp) (s : List Str) : (nodeS k n t a s).length ≤ 60 + t.length + (s.map List.length).sum + 2 * s.length := by
  have h1 := itoa_len hn
  have h2 := join_len s [44, 32]
  have h3 := getD012 s
  have h4 := opSym_len n
  have h5 := encl_len (bif lvl (.mk k n t a) == 1 then 2 else lvl (.mk k n t a)) (a.getD 0 Ty.exp.dflt) (s.getD 0 [])
  have h6 := encl_len (lvl (.mk k n t a) + 1) (a.getD 1 Ty.exp.dflt) (s.getD 1 [])
  have h7 : ([44, 32] : Str).length = 2 := rfl
  rw [h7] at h2
  unfold nodeS
  cases (k == 1) <;> cases (k == 2) <;> cases (k == 3) <;> cases (k == 4) <;> cases (k == 5) <;> cases (k == 7) <;> cases (k == 9) <;> cases (k == 8) <;> simp only [cond_true, cond_false, List.length_append, List.length_cons, List.length_nil] <;> omega
theorem srcE_len : ∀ (K : Nat) (e : Exp), e.Fit K → (srcE e).length + 4 ≤ 64 * e.cnt + e.size := by
  intro K
  refine Exp.ind fun k n t a ih h => ?_
  obtain ⟨h1, h2, h3, h4⟩ := Exp.fit_iff.1 h
  have h5 : (a.map fun x => (srcE x).length).sum + 4 * a.length ≤ 64 * sumC a + (a.map Exp.size).sum := by
    have h6 := fun x hx => ih x hx (h4.2 x hx)
    clear ih h h1 h2 h3 h4
    induction a with
    | nil => exact Nat.le_refl _
    | cons x l ih2 =>
      have g1 := h6 x List.mem_cons_self
      have g2 := ih2 fun y hy => h6 y (List.mem_cons_of_mem _ hy)
      simp only [List.map_cons, List.sum_cons, sumC_cons, List.length_cons]; omega
  have h6 := nodeS_len (k := k) (n := n) h2 t a (a.map srcE)
  rw [srcE_eq, Exp.cnt_eq, Exp.size_eq]
  rw [List.map_map, List.length_map] at h6
  have e1 : (List.length ∘ srcE) = fun x => (srcE x).length := rfl
  rw [e1] at h6
  show _ ≤ 64 * (1 + sumC a) + (t.length + (a.length + (a.map Exp.size).sum))
  omega
theorem impl_encl {N d : Nat} {x : Exp} {s : Str} (h : (xAl N d).c_impl_source x = some s) (hs : s.length ≤ 1000000000) (l : Int) : (xAl N (d + 1)).c_impl_enclosed x l = some (encl l x s) := by
  show xEc N (xAl N d).c_impl_enclosed (xAl N d).c_impl_source (xAl N d).c_impl_sources x l = _
  simp only [xEc, h, Option.bind_some, xGW, encl]
  cases decide (lvl x < l)
  · rfl
  · simp only [cond_true]
    rw [if_pos (by simp only [List.length_cons, List.length_nil]; unfold Lim; omega), if_pos (by simp only [List.length_append, List.length_cons, List.length_nil]; unfold Lim; omega)]
theorem spec_encl {N d : Nat} {x : Exp} {s : Str} (h : (xAC N d).c_spec_l12Text x = some s) (hs : s.length ≤ 1000000000) (l : Int) : (xAC N (d + 1)).c_spec_l12At x l = some (encl l x s) := by
  show xES N (xAC N d).c_spec_l12At (xAC N d).c_spec_l12List (xAC N d).c_spec_l12Text x l = _
  simp only [xES, h, Option.bind_some, xF5, encl]
  cases decide (lvl x < l)
  · rfl
  · simp only [cond_true]
    rw [if_pos (by simp only [List.length_cons, List.length_nil]; unfold Lim; omega), if_pos (by simp only [List.length_append, List.length_cons, List.length_nil]; unfold Lim; omega)]
theorem impl_srcs {N d : Nat} {a : List Exp} (h : ∀ x ∈ a, (xAl N d).c_impl_source x = some (srcE x)) (hl : a.length ≤ 1048576) (hN : 1048576 < N) (hs : ((a.map srcE).map List.length).sum ≤ 1000000000) :
    (xAl N (d + 1)).c_impl_sources a = some (Lib.join (a.map srcE) [44, 32]) := by
  show xD0 N (xAl N d).c_impl_enclosed (xAl N d).c_impl_source (xAl N d).c_impl_sources N [] a a.length 0 = _
  refine xFl (L := fun m i q => xD0 N (xAl N d).c_impl_enclosed (xAl N d).c_impl_source (xAl N d).c_impl_sources m q a a.length i) a (fun l q => Lib.join (q ++ l.map srcE) [44, 32]) (fun i q => q = (a.take i).map srcE) (fun m q hq => ?_)
    (fun i x l q hd hi hxi hq => ?_) N 0 [] rfl (by omega) (by omega)
  · have hq : q = a.map srcE := by rw [List.take_length] at hq; exact hq
    subst hq
    have e : ([44, 32] : Str).length = 2 := rfl
    simp only [xD0, Int.lt_irrefl, decide_false, cond_false, impl_Join_eq (N := N) (xs := a.map srcE) (sep := [44, 32]) (by rw [List.length_map]; omega) (by rw [List.length_map, e]; omega), Option.bind_some, List.map_nil, List.append_nil]
  · have hi' : (i : Int) < (a.length : Int) := by omega
    refine .inl ⟨q ++ [srcE x], by rw [hq, List.take_add_one, hxi]; simp, by simp, fun m => ?_⟩
    have hql : q.length ≤ 1048576 := by rw [hq, List.length_map, List.length_take]; omega
    simp only [xD0, decide_eq_true hi', cond_true, Int.toNat_natCast, xCw hxi, h x (List.mem_of_getElem? hxi), Option.bind_some, xBV hi (by omega : a.length ≤ _)]
    rw [if_pos (by omega), if_pos (by simp only [List.length_cons, List.length_nil]; unfold Lim; omega)]
theorem spec_srcs {N d : Nat} {a : List Exp} (h : ∀ x ∈ a, (xAC N d).c_spec_l12Text x = some (srcE x)) (hl : a.length ≤ 1048576) (hN : 1048576 < N) (hs : ((a.map srcE).map List.length).sum ≤ 1000000000) :
    (xAC N (d + 1)).c_spec_l12List a = some (Lib.join (a.map srcE) [44, 32]) := by
  show xD2 N (xAC N d).c_spec_l12At (xAC N d).c_spec_l12List (xAC N d).c_spec_l12Text N a [] 0 = _
  refine xFl (L := fun m i q => xD2 N (xAC N d).c_spec_l12At (xAC N d).c_spec_l12List (xAC N d).c_spec_l12Text m a q i) a (fun l q => Lib.join (q ++ l.map srcE) [44, 32]) (fun i q => q = (a.take i).map srcE) (fun m q hq => ?_)
    (fun i x l q hd hi hxi hq => ?_) N 0 [] rfl (by omega) (by omega)
  · have hq : q = a.map srcE := by rw [List.take_length] at hq; exact hq
    subst hq
    have e : ([44, 32] : Str).length = 2 := rfl
    simp only [xD2, Int.lt_irrefl, decide_false, cond_false, spec_Join_eq (N := N) (xs := a.map srcE) (sep := [44, 32]) (by rw [List.length_map]; omega) (by rw [List.length_map, e]; omega) (by rw [List.length_map]; omega), Option.bind_some, List.map_nil, List.append_nil]
  · have hi' : (i : Int) < (a.length : Int) := by omega
    refine .inl ⟨q ++ [srcE x], by rw [hq, List.take_add_one, hxi]; simp, by simp, fun m => ?_⟩
    have hql : q.length ≤ 1048576 := by rw [hq, List.length_map, List.length_take]; omega
    simp only [xD2, decide_eq_true hi', cond_true, Int.toNat_natCast, xCw hxi, h x (List.mem_of_getElem? hxi), Option.bind_some, xBV hi (by omega : a.length ≤ _)]
    rw [if_pos (by omega), if_pos (by simp only [List.length_cons, List.length_nil]; unfold Lim; omega)]
theorem opSym_eq {N : Nat} {n : Int} (h1 : 1 ≤ n) (h5 : n ≤ 5) : xEb N n = some (opSym n) ∧ xFq N n = some (opSym n) := by
  have hw : IntKind.i64.wrap (n - 1) = n - 1 := xCk (by omega) (by omega)
  rcases (by omega : n = 1 ∨ n = 2 ∨ n = 3 ∨ n = 4 ∨ n = 5) with rfl | rfl | rfl | rfl | rfl <;> exact ⟨rfl, rfl⟩
theorem kinds {k n : Int} {t : Str} {l : Nat} (h : nodeOk xG9 xDr argc k n t l = true) : k = 1 ∨ k = 2 ∨ k = 3 ∨ k = 4 ∨ k = 5 ∨ (k = 6 ∧ 1 ≤ n ∧ n ≤ 5 ∧ l = 2) ∨ (k = 7 ∧ l = 2) ∨ (k = 9 ∧ l = 2) ∨ (k = 8 ∧ l = 3) := by
  unfold nodeOk at h
  by_cases h1 : k = 1; · exact .inl h1
  by_cases h2 : k = 2; · exact .inr (.inl h2)
  by_cases h3 : k = 3; · exact .inr (.inr (.inl h3))
  by_cases h4 : k = 4; · exact .inr (.inr (.inr (.inl h4)))
  by_cases h5 : k = 5; · exact .inr (.inr (.inr (.inr (.inl h5))))
  rw [beq_eq_false_iff_ne.2 h1, beq_eq_false_iff_ne.2 h2, beq_eq_false_iff_ne.2 h3, beq_eq_false_iff_ne.2 h4, beq_eq_false_iff_ne.2 h5] at h
  simp only [cond_false] at h
  by_cases h6 : k = 6
  · subst h6
    simp only [beq_self_eq_true, cond_true, Bool.and_eq_true, decide_eq_true_eq, beq_iff_eq] at h
    exact .inr (.inr (.inr (.inr (.inr (.inl ⟨rfl, h.1.1, h.1.2, h.2.2⟩)))))
  by_cases h7 : k = 7
  · subst h7
    simp only [show ((7 : Int) == 6) = false from rfl, cond_false, beq_self_eq_true, cond_true, Bool.and_eq_true, beq_iff_eq] at h
    exact .inr (.inr (.inr (.inr (.inr (.inr (.inl ⟨rfl, h.2.2⟩))))))
  by_cases h9 : k = 9
  · subst h9
    simp only [show ((9 : Int) == 6) = false from rfl, show ((9 : Int) == 7) = false from rfl, cond_false, beq_self_eq_true, cond_true, Bool.and_eq_true, beq_iff_eq] at h
    exact .inr (.inr (.inr (.inr (.inr (.inr (.inr (.inl ⟨rfl, h.2.2⟩)))))))
  by_cases h8 : k = 8
  · subst h8
    simp only [show ((8 : Int) == 6) = false from rfl, show ((8 : Int) == 7) = false from rfl, show ((8 : Int) == 9) = false from rfl, cond_false, beq_self_eq_true, cond_true, Bool.and_eq_true, beq_iff_eq] at h
    exact .inr (.inr (.inr (.inr (.inr (.inr (.inr (.inr ⟨rfl, h.2.2⟩)))))))
  rw [beq_eq_false_iff_ne.2 h6, beq_eq_false_iff_ne.2 h7, beq_eq_false_iff_ne.2 h9, beq_eq_false_iff_ne.2 h8] at h
  cases h
theorem two_of {α : Type} {l : List α} (h : l.length = 2) : ∃ x y, l = [x, y] := by
  match l, h with
  | [x, y], _ => exact ⟨x, y, rfl⟩
theorem three_of {α : Type} {l : List α} (h : l.length = 3) : ∃ x y z, l = [x, y, z] := by
  match l, h with
  | [x, y, z], _ => exact ⟨x, y, z, rfl⟩
theorem lvl6 {n : Int} {t : Str} {a : List Exp} (h1 : 1 ≤ n) (h5 : n ≤ 5) : 1 ≤ lvl (.mk 6 n t a) ∧ lvl (.mk 6 n t a) ≤ 3 := by
  rcases (by omega : n = 1 ∨ n = 2 ∨ n = 3 ∨ n = 4 ∨ n = 5) with rfl | rfl | rfl | rfl | rfl <;> simp [lvl, ek, en]
theorem sum_three {f g h : Exp → Nat} : ∀ {a : List Exp}, (∀ x ∈ a, f x + 4 ≤ 64 * g x + h x) → (a.map f).sum ≤ 64 * (a.map g).sum + (a.map h).sum
  | [], _ => Nat.le_refl _
  | x :: l, H => by
    have g1 := H x List.mem_cons_self
    have g2 := sum_three fun y hy => H y (List.mem_cons_of_mem _ hy)
    simp only [List.map_cons, List.sum_cons]; omega
theorem srcX_eq {K : Nat} (hK : K ≤ 1048576) : ∀ e : Exp, e.Fit K → e.size ≤ 1048576 → okE e = true → Big2 fun N d => (xAl N d).c_impl_source e = some (srcE e) ∧ (xAC N d).c_spec_l12Text e = some (srcE e) := by
  refine Exp.ind fun k n t a ih h hs ho => ?_
  obtain ⟨h1, h2, h3, h4⟩ := Exp.fit_iff.1 h
  have hnn : -9223372036854775808 ≤ n ∧ n ≤ 9223372036854775807 := h2
  have ht : t.length ≤ K := h3
  have hl : a.length ≤ K := h4.1
  rw [Exp.size_eq] at hs
  have hs : t.length + (a.length + (a.map Exp.size).sum) ≤ 1048576 := hs
  rw [okE_eq, Bool.and_eq_true] at ho
  have hoa : ∀ x ∈ a, okE x = true := List.all_eq_true.1 ho.1
  have hsz : ∀ x ∈ a, x.size ≤ 1048576 := fun x hx => by have := size_mem (f := Exp.size) hx; omega
  have IH := fun x hx => ih x hx (h4.2 x hx) (hsz x hx) (hoa x hx)
  refine Big2.succ (Big2.succ ?_)
  refine ((Big2.list fun x hx => (IH x hx).and (IH x hx).up).and (big_lt 1048576).two).imp fun N d ⟨hx, hn⟩ => ?_
  have hlen : ∀ x ∈ a, (srcE x).length ≤ 200000000 := fun x hx => by
    have e1 := srcE_len K x (h4.2 x hx)
    have e2 := Exp.cnt_le x
    have e3 := hsz x hx
    omega
  have hsum : ((a.map srcE).map List.length).sum ≤ 200000000 := by
    rw [List.map_map]
    have e1 := sum_three (f := List.length ∘ srcE) (g := Exp.cnt) (h := Exp.size) (a := a) fun x hx => srcE_len K x (h4.2 x hx)
    have e2 := sums_le (f := Exp.cnt) (g := Exp.size) (a := a) fun x _ => Exp.cnt_le x
    omega
  have A1 : ∀ x ∈ a, ∀ l, (xAl N (d + 1)).c_impl_enclosed x l = some (encl l x (srcE x)) := fun x hm l => impl_encl (hx x hm).1.1 (by have := hlen x hm; omega) l
  have A2 : ∀ x ∈ a, ∀ l, (xAC N (d + 1)).c_spec_l12At x l = some (encl l x (srcE x)) := fun x hm l => spec_encl (hx x hm).1.2 (by have := hlen x hm; omega) l
  have B1 := impl_srcs (N := N) (d := d) (a := a) (fun x hm => (hx x hm).1.1) (by omega) hn (by omega)
  have B2 := spec_srcs (N := N) (d := d) (a := a) (fun x hm => (hx x hm).1.2) (by omega) hn (by omega)
  have hj := join_len (a.map srcE) [44, 32]
  have h7 : ([44, 32] : Str).length = 2 := rfl
  rw [h7, List.length_map] at hj
  rw [srcE_eq]
  show xB7 N (xAl N (d + 1)).c_impl_enclosed (xAl N (d + 1)).c_impl_source (xAl N (d + 1)).c_impl_sources (.mk k n t a) = _ ∧
    xBQ N (xAC N (d + 1)).c_spec_l12At (xAC N (d + 1)).c_spec_l12List (xAC N (d + 1)).c_spec_l12Text (.mk k n t a) = _
  have C1 : ∀ x ∈ a, (xAl N (d + 1)).c_impl_source x = some (srcE x) := fun x hm => (hx x hm).2.1
  have C2 : ∀ x ∈ a, (xAC N (d + 1)).c_spec_l12Text x = some (srcE x) := fun x hm => (hx x hm).2.2
  generalize (xAl N (d + 1)).c_impl_enclosed = q0 at A1 ⊢
  generalize (xAl N (d + 1)).c_impl_source = q1 at C1 ⊢
  generalize (xAl N (d + 1)).c_impl_sources = q2 at B1 ⊢
  generalize (xAC N (d + 1)).c_spec_l12At = r0 at A2 ⊢
  generalize (xAC N (d + 1)).c_spec_l12Text = r1 at C2 ⊢
  generalize (xAC N (d + 1)).c_spec_l12List = r2 at B2 ⊢
  rcases kinds ho.2 with hk | hk | hk | hk | hk | ⟨hk, hn1, hn5, hl2⟩ | ⟨hk, hl2⟩ | ⟨hk, hl2⟩ | ⟨hk, hl2⟩ <;> (have hk : k = _ := hk; subst hk)
  · exact ⟨by simp [xB7, ek, en, impl_FormatInt_eq hnn, nodeS], by simp [xBQ, ek, en, xGA (by omega : 100 < N) hnn, nodeS]⟩
  · have e1 : List.length [34] + List.length t ≤ Lim := by simp only [List.length_cons, List.length_nil]; unfold Lim; omega
    have e2 : List.length (([34] : Str) ++ t) + List.length [34] ≤ Lim := by simp only [List.length_append, List.length_cons, List.length_nil]; unfold Lim; omega
    refine ⟨?_, ?_⟩
    · simp only [xB7, ek, et, show ((2 : Int) == 1) = false from rfl, beq_self_eq_true, cond_true, cond_false, nodeS]
      repeat (first | refine Eq.trans (if_pos (by simp only [List.length_append, List.length_cons, List.length_nil]; unfold Lim; omega)) ?_ | refine Eq.trans (if_pos (by simp only [List.length_cons, List.length_nil]; omega)) ?_)
      rfl
    · simp only [xBQ, ek, et, show ((2 : Int) == 1) = false from rfl, beq_self_eq_true, cond_true, cond_false, nodeS]
      repeat (first | refine Eq.trans (if_pos (by simp only [List.length_append, List.length_cons, List.length_nil]; unfold Lim; omega)) ?_ | refine Eq.trans (if_pos (by simp only [List.length_cons, List.length_nil]; omega)) ?_)
      rfl
  · exact ⟨rfl, rfl⟩
  · have e1 : List.length [91] + List.length (Lib.join (a.map srcE) [44, 32]) ≤ Lim := by simp only [List.length_cons, List.length_nil]; unfold Lim; omega
    have e2 : List.length (([91] : Str) ++ Lib.join (a.map srcE) [44, 32]) + List.length [93] ≤ Lim := by simp only [List.length_append, List.length_cons, List.length_nil]; unfold Lim; omega
    refine ⟨?_, ?_⟩
    · simp only [xB7, ek, ea, show ((4 : Int) == 1) = false from rfl, show ((4 : Int) == 2) = false from rfl, show ((4 : Int) == 3) = false from rfl, beq_self_eq_true, cond_true, cond_false, nodeS, B1, Option.bind_some]
      repeat (first | refine Eq.trans (if_pos (by simp only [List.length_append, List.length_cons, List.length_nil]; unfold Lim; omega)) ?_ | refine Eq.trans (if_pos (by simp only [List.length_cons, List.length_nil]; omega)) ?_)
      rfl
    · simp only [xBQ, ek, ea, show ((4 : Int) == 1) = false from rfl, show ((4 : Int) == 2) = false from rfl, show ((4 : Int) == 3) = false from rfl, beq_self_eq_true, cond_true, cond_false, nodeS, B2, Option.bind_some]
      repeat (first | refine Eq.trans (if_pos (by simp only [List.length_append, List.length_cons, List.length_nil]; unfold Lim; omega)) ?_ | refine Eq.trans (if_pos (by simp only [List.length_cons, List.length_nil]; omega)) ?_)
      rfl
  · have e0 : List.length t + List.length [40] ≤ Lim := by simp only [List.length_cons, List.length_nil]; unfold Lim; omega
    have e1 : List.length (t ++ [40]) + List.length (Lib.join (a.map srcE) [44, 32]) ≤ Lim := by simp only [List.length_append, List.length_cons, List.length_nil]; unfold Lim; omega
    have e2 : List.length ((t ++ [40]) ++ Lib.join (a.map srcE) [44, 32]) + List.length [41] ≤ Lim := by simp only [List.length_append, List.length_cons, List.length_nil]; unfold Lim; omega
    refine ⟨?_, ?_⟩
    · simp only [xB7, ek, ea, et, show ((5 : Int) == 1) = false from rfl, show ((5 : Int) == 2) = false from rfl, show ((5 : Int) == 3) = false from rfl, show ((5 : Int) == 4) = false from rfl, beq_self_eq_true, cond_true, cond_false, nodeS, B1, Option.bind_some]
      repeat (first | refine Eq.trans (if_pos (by simp only [List.length_append, List.length_cons, List.length_nil]; unfold Lim; omega)) ?_ | refine Eq.trans (if_pos (by simp only [List.length_cons, List.length_nil]; omega)) ?_)
      rfl
    · simp only [xBQ, ek, ea, et, show ((5 : Int) == 1) = false from rfl, show ((5 : Int) == 2) = false from rfl, show ((5 : Int) == 3) = false from rfl, show ((5 : Int) == 4) = false from rfl, beq_self_eq_true, cond_true, cond_false, nodeS, B2, Option.bind_some]
      repeat (first | refine Eq.trans (if_pos (by simp only [List.length_append, List.length_cons, List.length_nil]; unfold Lim; omega)) ?_ | refine Eq.trans (if_pos (by simp only [List.length_cons, List.length_nil]; omega)) ?_)
      rfl
  · obtain ⟨x, y, rfl⟩ := two_of hl2
    have lx := hlen x (by simp)
    have ly := hlen y (by simp)
    have cx := A1 x (by simp)
    have cy := A1 y (by simp)
    have dx := A2 x (by simp)
    have dy := A2 y (by simp)
    have gx : List.getD [x, y] (Int.toNat 0) Ty.exp.dflt = x := rfl
    have gy : List.getD [x, y] (Int.toNat 1) Ty.exp.dflt = y := rfl
    have hv := lvl6 (n := n) (t := t) (a := [x, y]) hn1 hn5
    have hw : IntKind.i64.wrap (lvl (.mk 6 n t [x, y]) + 1) = lvl (.mk 6 n t [x, y]) + 1 := xCk (by omega) (by omega)
    obtain ⟨o1, o2⟩ := opSym_eq (N := N) (n := n) hn1 hn5
    have ol := opSym_len n
    have kx := fun l => encl_len l x (srcE x)
    have ky := fun l => encl_len l y (srcE y)
    have k1 := kx 2
    have k2 := kx (lvl (.mk 6 n t [x, y]))
    have k3 := ky (lvl (.mk 6 n t [x, y]) + 1)
    refine ⟨?_, ?_⟩
    · cases hb : (lvl (.mk 6 n t [x, y]) == 1)
      all_goals
        simp only [xB7, ek, en, et, ea, show ((6 : Int) == 1) = false from rfl, show ((6 : Int) == 2) = false from rfl, show ((6 : Int) == 3) = false from rfl, show ((6 : Int) == 4) = false from rfl, show ((6 : Int) == 5) = false from rfl, show ((6 : Int) == 7) = false from rfl, show ((6 : Int) == 8) = false from rfl, show ((6 : Int) == 9) = false from rfl, cond_true, cond_false, xGW, Option.bind_some, hb, gx, gy, cx, cy, hw, o1]
        repeat (first | refine Eq.trans (if_pos (by simp only [List.length_append, List.length_cons, List.length_nil]; unfold Lim; omega)) ?_ | rw [o1, Option.bind_some] | refine Eq.trans (if_pos (by simp only [List.length_cons, List.length_nil]; omega)) ?_)
        simp only [nodeS, show ((6 : Int) == 1) = false from rfl, show ((6 : Int) == 2) = false from rfl, show ((6 : Int) == 3) = false from rfl, show ((6 : Int) == 4) = false from rfl, show ((6 : Int) == 5) = false from rfl, show ((6 : Int) == 7) = false from rfl, show ((6 : Int) == 8) = false from rfl, show ((6 : Int) == 9) = false from rfl, cond_true, cond_false, hb]
        rfl
    · cases hb : (lvl (.mk 6 n t [x, y]) == 1)
      all_goals
        simp only [xBQ, ek, en, et, ea, show ((6 : Int) == 1) = false from rfl, show ((6 : Int) == 2) = false from rfl, show ((6 : Int) == 3) = false from rfl, show ((6 : Int) == 4) = false from rfl, show ((6 : Int) == 5) = false from rfl, show ((6 : Int) == 7) = false from rfl, show ((6 : Int) == 8) = false from rfl, show ((6 : Int) == 9) = false from rfl, cond_true, cond_false, xF5, Option.bind_some, hb, gx, gy, dx, dy, hw, o2]
        repeat (first | refine Eq.trans (if_pos (by simp only [List.length_append, List.length_cons, List.length_nil]; unfold Lim; omega)) ?_ | rw [o2, Option.bind_some] | refine Eq.trans (if_pos (by simp only [List.length_cons, List.length_nil]; omega)) ?_)
        simp only [nodeS, show ((6 : Int) == 1) = false from rfl, show ((6 : Int) == 2) = false from rfl, show ((6 : Int) == 3) = false from rfl, show ((6 : Int) == 4) = false from rfl, show ((6 : Int) == 5) = false from rfl, show ((6 : Int) == 7) = false from rfl, show ((6 : Int) == 8) = false from rfl, show ((6 : Int) == 9) = false from rfl, cond_true, cond_false, hb]
        rfl
  · obtain ⟨x, y, rfl⟩ := two_of hl2
    have lx := hlen x (by simp)
    have cx := C1 x (by simp)
    have dx := C2 x (by simp)
    have gx : List.getD [x, y] (Int.toNat 0) Ty.exp.dflt = x := rfl
    have ly := hlen y (by simp)
    have cy := C1 y (by simp)
    have dy := C2 y (by simp)
    have gy : List.getD [x, y] (Int.toNat 1) Ty.exp.dflt = y := rfl
    refine ⟨?_, ?_⟩
    · simp only [xB7, ek, en, et, ea, show ((7 : Int) == 1) = false from rfl, show ((7 : Int) == 2) = false from rfl, show ((7 : Int) == 3) = false from rfl, show ((7 : Int) == 4) = false from rfl, show ((7 : Int) == 5) = false from rfl, show ((7 : Int) == 6) = false from rfl, beq_self_eq_true, cond_true, cond_false, gx, gy, cx, cy, Option.bind_some]
      repeat (first | refine Eq.trans (if_pos (by simp only [List.length_append, List.length_cons, List.length_nil]; unfold Lim; omega)) ?_ | refine Eq.trans (if_pos (by simp only [List.length_cons, List.length_nil]; omega)) ?_)
      rfl
    · simp only [xBQ, ek, en, et, ea, show ((7 : Int) == 1) = false from rfl, show ((7 : Int) == 2) = false from rfl, show ((7 : Int) == 3) = false from rfl, show ((7 : Int) == 4) = false from rfl, show ((7 : Int) == 5) = false from rfl, show ((7 : Int) == 6) = false from rfl, beq_self_eq_true, cond_true, cond_false, gx, gy, dx, dy, Option.bind_some]
      repeat (first | refine Eq.trans (if_pos (by simp only [List.length_append, List.length_cons, List.length_nil]; unfold Lim; omega)) ?_ | refine Eq.trans (if_pos (by simp only [List.length_cons, List.length_nil]; omega)) ?_)
      rfl
  · obtain ⟨x, y, rfl⟩ := two_of hl2
    have lx := hlen x (by simp)
    have cx := C1 x (by simp)
    have dx := C2 x (by simp)
    have gx : List.getD [x, y] (Int.toNat 0) Ty.exp.dflt = x := rfl
    have ly := hlen y (by simp)
    have cy := C1 y (by simp)
    have dy := C2 y (by simp)
    have gy : List.getD [x, y] (Int.toNat 1) Ty.exp.dflt = y := rfl
    refine ⟨?_, ?_⟩
    · simp only [xB7, ek, en, et, ea, show ((9 : Int) == 1) = false from rfl, show ((9 : Int) == 2) = false from rfl, show ((9 : Int) == 3) = false from rfl, show ((9 : Int) == 4) = false from rfl, show ((9 : Int) == 5) = false from rfl, show ((9 : Int) == 7) = false from rfl, show ((9 : Int) == 8) = false from rfl, beq_self_eq_true, cond_true, cond_false, gx, gy, cx, cy, Option.bind_some]
      repeat (first | refine Eq.trans (if_pos (by simp only [List.length_append, List.length_cons, List.length_nil]; unfold Lim; omega)) ?_ | refine Eq.trans (if_pos (by simp only [List.length_cons, List.length_nil]; omega)) ?_)
      rfl
    · simp only [xBQ, ek, en, et, ea, show ((9 : Int) == 1) = false from rfl, show ((9 : Int) == 2) = false from rfl, show ((9 : Int) == 3) = false from rfl, show ((9 : Int) == 4) = false from rfl, show ((9 : Int) == 5) = false from rfl, show ((9 : Int) == 7) = false from rfl, show ((9 : Int) == 8) = false from rfl, beq_self_eq_true, cond_true, cond_false, gx, gy, dx, dy, Option.bind_some]
      repeat (first | refine Eq.trans (if_pos (by simp only [List.length_append, List.length_cons, List.length_nil]; unfold Lim; omega)) ?_ | refine Eq.trans (if_pos (by simp only [List.length_cons, List.length_nil]; omega)) ?_)
      rfl
  · obtain ⟨x, y, z, rfl⟩ := three_of hl2
    have lx := hlen x (by simp)
    have cx := C1 x (by simp)
    have dx := C2 x (by simp)
    have gx : List.getD [x, y, z] (Int.toNat 0) Ty.exp.dflt = x := rfl
    have ly := hlen y (by simp)
    have cy := C1 y (by simp)
    have dy := C2 y (by simp)
    have gy : List.getD [x, y, z] (Int.toNat 1) Ty.exp.dflt = y := rfl
    have lz := hlen z (by simp)
    have cz := C1 z (by simp)
    have dz := C2 z (by simp)
    have gz : List.getD [x, y, z] (Int.toNat 2) Ty.exp.dflt = z := rfl
    refine ⟨?_, ?_⟩
    · simp only [xB7, ek, en, et, ea, show ((8 : Int) == 1) = false from rfl, show ((8 : Int) == 2) = false from rfl, show ((8 : Int) == 3) = false from rfl, show ((8 : Int) == 4) = false from rfl, show ((8 : Int) == 5) = false from rfl, show ((8 : Int) == 7) = false from rfl, show ((8 : Int) == 9) = false from rfl, beq_self_eq_true, cond_true, cond_false, gx, gy, gz, cx, cy, cz, Option.bind_some]
      repeat (first | refine Eq.trans (if_pos (by simp only [List.length_append, List.length_cons, List.length_nil]; unfold Lim; omega)) ?_ | refine Eq.trans (if_pos (by simp only [List.length_cons, List.length_nil]; omega)) ?_)
      rfl
    · simp only [xBQ, ek, en, et, ea, show ((8 : Int) == 1) = false from rfl, show ((8 : Int) == 2) = false from rfl, show ((8 : Int) == 3) = false from rfl, show ((8 : Int) == 4) = false from rfl, show ((8 : Int) == 5) = false from rfl, show ((8 : Int) == 7) = false from rfl, show ((8 : Int) == 9) = false from rfl, beq_self_eq_true, cond_true, cond_false, gx, gy, gz, dx, dy, dz, Option.bind_some]
      repeat (first | refine Eq.trans (if_pos (by simp only [List.length_append, List.length_cons, List.length_nil]; unfold Lim; omega)) ?_ | refine Eq.trans (if_pos (by simp only [List.length_cons, List.length_nil]; omega)) ?_)
      rfl
end Go.Ab
end
section
namespace Go.Ab
set_option linter.unusedVariables false
set_option linter.unusedSimpArgs false
def fmtE (e : Exp) : Str := bif !xFw e then [] else srcE e
theorem format_eq {K : Nat} (hK : K ≤ 1048576) {e : Exp} (h : e.Fit K) (hs : e.size ≤ 1048576) : Big fun N => xEn N e = some (fmtE e) ∧ xEr N e = some (fmtE e) := by
  cases hv : xFw e
  · refine (validX_eq hK h hs).imp fun N ⟨h1, h2⟩ => ?_
    simp only [xEn, xEr, h1, h2, hv, Option.bind_some, Bool.not_false, cond_true, fmtE]
    exact ⟨trivial, trivial⟩
  · have ho : okE e = true := by
      unfold xFw at hv
      simp only [Bool.and_eq_true] at hv
      exact hv.2
    refine ((validX_eq hK h hs).and (srcX_eq hK e h hs ho).diag).imp fun N ⟨⟨h1, h2⟩, s1, s2⟩ => ?_
    have s3 : xHp N e = some (srcE e) := s1
    have s4 : xG5 N e = some (srcE e) := s2
    simp only [xEn, xEr, h1, h2, hv, Option.bind_some, Bool.not_true, cond_false, fmtE, s3, s4]
    exact ⟨trivial, trivial⟩
end Go.Ab
end
section
namespace Go.Ab
set_option linter.unusedVariables false
inductive PR (α : Type) where
  | ok (a : α) (r : List Tok)
  | err (r : List Tok)
def PR.bind {α β : Type} : PR α → (α → List Tok → PR β) → PR β
  | .ok a r, k => k a r
  | .err r, _ => .err r
theorem PR.bind_ok {α β : Type} {R : PR α} {k : α → List Tok → PR β} {b : β} {r : List Tok} (h : R.bind k = .ok b r) : ∃ a q, R = .ok a q ∧ k a q = .ok b r := by
  cases R with
  | ok a q => exact ⟨a, q, rfl, h⟩
  | err q => cases h
def isK (t : Tok) (s : Str) : Bool := bif t.kind == 1 then t.text == s else false
def isS (t : Tok) (s : Str) : Bool := bif t.kind == 4 then t.text == s else false
def seeK (s : Str) : List Tok → Bool
  | [] => false
  | t :: _ => isK t s
def seeS (s : Str) : List Tok → Bool
  | [] => false
  | t :: _ => isS t s
def xFj (s : Str) : List Tok → PR Unit
  | [] => .err []
  | t :: r => bif isK t s || isS t s then .ok () r else .err (t :: r)
def pName : List Tok → PR Str
  | [] => .err []
  | t :: r => bif t.kind == 1 then (bif xDr t.text then .ok t.text r else .err (t :: r)) else .err (t :: r)
def pListL (f : List Tok → PR Exp) (c : Str) : Nat → List Exp → List Tok → PR (List Exp)
  | 0, _, ts => .err ts
  | m + 1, acc, ts => (f ts).bind fun e r => bif seeS c r then .ok (acc ++ [e]) r.tail else (xFj [44] r).bind fun _ q => pListL f c m (acc ++ [e]) q
def pList (f : List Tok → PR Exp) (m : Nat) (c : Str) (ts : List Tok) : PR (List Exp) := bif seeS c ts then .ok [] ts.tail else pListL f c m [] ts
def pAtom2 (f : List Tok → PR Exp) (m : Nat) (t : Tok) (r : List Tok) : PR Exp :=
  bif isS t [91] then (pList f m [93] r).bind fun a q => .ok (.mk 4 0 [] a) q
  else bif isS t [40] then (f r).bind fun e q => (xFj [41] q).bind fun _ u => .ok e u
  else .err (t :: r)
def pAtom (f : List Tok → PR Exp) (m : Nat) : List Tok → PR Exp
  | [] => .err []
  | t :: r =>
    bif t.kind == 2 then .ok (.mk 1 t.n [] []) r
    else bif t.kind == 3 then .ok (.mk 2 0 t.text []) r
    else bif t.kind == 1 then
      (bif xDr t.text then .ok (.mk 3 0 t.text []) r
      else bif decide (argc t.text ≥ 0) then (xFj [40] r).bind fun _ q => (pList f m [41] q).bind fun a u => .ok (.mk 5 0 t.text a) u
      else pAtom2 f m t r)
    else pAtom2 f m t r
def pProdL (g : List Tok → PR Exp) : Nat → Exp → List Tok → PR Exp
  | 0, _, ts => .err ts
  | m + 1, a, ts => bif seeS [42] ts then (g ts.tail).bind fun b r => pProdL g m (.mk 6 3 [] [a, b]) r else .ok a ts
def pProd (g : List Tok → PR Exp) (m : Nat) (ts : List Tok) : PR Exp := (g ts).bind fun a r => pProdL g m a r
def pSumL (g : List Tok → PR Exp) : Nat → Exp → List Tok → PR Exp
  | 0, _, ts => .err ts
  | m + 1, a, ts => bif seeS [43] ts then (g ts.tail).bind fun b r => pSumL g m (.mk 6 1 [] [a, b]) r
    else bif seeS [45] ts then (g ts.tail).bind fun b r => pSumL g m (.mk 6 2 [] [a, b]) r else .ok a ts
def pSum (g : List Tok → PR Exp) (m : Nat) (ts : List Tok) : PR Exp := (g ts).bind fun a r => pSumL g m a r
def pCmpT (g : List Tok → PR Exp) (a : Exp) (r : List Tok) : PR Exp :=
  bif seeS [60] r then (g r.tail).bind fun b q => .ok (.mk 6 4 [] [a, b]) q
  else bif seeS [61, 61] r then (g r.tail).bind fun b q => .ok (.mk 6 5 [] [a, b]) q else .ok a r
def pCmp (g : List Tok → PR Exp) (ts : List Tok) : PR Exp := (g ts).bind fun a r => pCmpT g a r
def pTwo (f : List Tok → PR Exp) (k : Int) (s1 s2 : Str) (ts : List Tok) : PR Exp :=
  (pName ts).bind fun x q1 => (xFj s1 q1).bind fun _ q2 => (f q2).bind fun a q3 => (xFj s2 q3).bind fun _ q4 => (f q4).bind fun b q5 => .ok (.mk k 0 x [a, b]) q5
def pIf (f : List Tok → PR Exp) (ts : List Tok) : PR Exp :=
  (f ts).bind fun a q1 => (xFj [116, 104, 101, 110] q1).bind fun _ q2 => (f q2).bind fun b q3 => (xFj [101, 108, 115, 101] q3).bind fun _ q4 => (f q4).bind fun c q5 => .ok (.mk 8 0 [] [a, b, c]) q5
def pExprB (f g : List Tok → PR Exp) (ts : List Tok) : PR Exp :=
  bif seeK [108, 101, 116] ts then pTwo f 7 [61] [105, 110] ts.tail
  else bif seeK [105, 102] ts then pIf f ts.tail
  else bif seeK [102, 111, 114] ts then pTwo f 9 [105, 110] [100, 111] ts.tail
  else pCmp g ts
def pSumF (f : List Tok → PR Exp) (m : Nat) : List Tok → PR Exp := pSum (pProd (pAtom f m) m) m
def pE : Nat → List Tok → PR Exp
  | 0, ts => .err ts
  | m + 1, ts => pExprB (pE m) (pSumF (pE m) (m + 1)) ts
theorem pNeed_ok {s : Str} {ts r : List Tok} {u : Unit} (h : xFj s ts = .ok u r) : ∃ t, ts = t :: r ∧ (isK t s || isS t s) = true := by
  cases ts with
  | nil => cases h
  | cons t q =>
    simp only [xFj] at h
    cases hb : isK t s || isS t s <;> rw [hb] at h <;> cases h
    exact ⟨t, rfl, hb⟩
theorem pName_ok {ts r : List Tok} {x : Str} (h : pName ts = .ok x r) : ∃ t, ts = t :: r ∧ x = t.text ∧ t.kind = 1 ∧ xDr t.text = true := by
  cases ts with
  | nil => cases h
  | cons t q =>
    simp only [pName] at h
    cases hb : t.kind == 1 <;> rw [hb] at h
    · cases h
    · cases hv : xDr t.text <;> rw [hv] at h <;> cases h
      exact ⟨t, rfl, rfl, by simpa using hb, hv⟩
theorem seeS_cons {s : Str} {ts : List Tok} (h : seeS s ts = true) : ∃ t, ts = t :: ts.tail ∧ isS t s = true := by
  cases ts with
  | nil => cases h
  | cons t q => exact ⟨t, rfl, h⟩
theorem seeK_cons {s : Str} {ts : List Tok} (h : seeK s ts = true) : ∃ t, ts = t :: ts.tail ∧ isK t s = true := by
  cases ts with
  | nil => cases h
  | cons t q => exact ⟨t, rfl, h⟩
theorem xE9 {s : Str} {ts : List Tok} (h : seeS s ts = true) : ts.tail.length + 1 = ts.length := by
  obtain ⟨t, h1, _⟩ := seeS_cons h
  rw [h1]; rfl
theorem xE8 {s : Str} {ts : List Tok} (h : seeK s ts = true) : ts.tail.length + 1 = ts.length := by
  obtain ⟨t, h1, _⟩ := seeK_cons h
  rw [h1]; rfl
theorem xEL {s : Str} {ts r : List Tok} {u : Unit} (h : xFj s ts = .ok u r) : r.length + 1 = ts.length := by
  obtain ⟨t, h1, _⟩ := pNeed_ok h
  rw [h1]; rfl
theorem pName_len {ts r : List Tok} {x : Str} (h : pName ts = .ok x r) : r.length + 1 = ts.length := by
  obtain ⟨t, h1, _⟩ := pName_ok h
  rw [h1]; rfl
def tw (ts : List Tok) : Nat := (ts.map fun t => t.text.length + 3).sum
theorem tw_cons (t : Tok) (r : List Tok) : tw (t :: r) = t.text.length + 3 + tw r := by simp [tw]
def Light (K : Nat) (ts : List Tok) (e : Exp) (r : List Tok) : Prop := e.size + tw r ≤ tw ts ∧ e.Fit K
def xCv (K : Nat) (f : List Tok → PR Exp) : Prop := ∀ ts e r, (∀ t ∈ ts, t.Fit K) → tw ts ≤ K → f ts = .ok e r → Light K ts e r ∧ (∀ t ∈ r, t.Fit K) ∧ r.length < ts.length
theorem xFO {K : Nat} {k n : Int} {t : Str} {a : List Exp} (hk : I64 k) (hn : I64 n) (ht : t.length ≤ K) (ha : a.length ≤ K) (hx : ∀ x ∈ a, x.Fit K) : (Exp.mk k n t a).Fit K :=
  Exp.fit_iff.2 ⟨hk, hn, ht, ha, hx⟩
theorem xFo (k n : Int) (t : Str) (a : List Exp) : (Exp.mk k n t a).size = t.length + (a.length + (a.map Exp.size).sum) := Exp.size_eq _
theorem xBy {x : Int} (h : 0 ≤ x ∧ x ≤ 1000) : I64 x := by unfold I64; omega
theorem xGL {K : Nat} {s : Str} {ts r : List Tok} {u : Unit} (hf : ∀ t ∈ ts, t.Fit K) (h : xFj s ts = .ok u r) : (∀ t ∈ r, t.Fit K) ∧ tw r + 3 ≤ tw ts ∧ r.length < ts.length := by
  obtain ⟨t, rfl, _⟩ := pNeed_ok h
  exact ⟨fun x hx => hf x (List.mem_cons_of_mem _ hx), by rw [tw_cons]; omega, by simp⟩
theorem tail_in {K : Nat} {ts : List Tok} (hf : ∀ t ∈ ts, t.Fit K) (h : (∃ t, ts = t :: ts.tail ∧ True)) : (∀ t ∈ ts.tail, t.Fit K) ∧ tw ts.tail + 3 ≤ tw ts ∧ ts.tail.length < ts.length := by
  obtain ⟨t, h1, _⟩ := h
  generalize ts.tail = q at h1
  subst h1
  exact ⟨fun x hx => hf x (List.mem_cons_of_mem _ hx), by rw [tw_cons]; omega, by simp⟩
theorem xHu {K : Nat} {s : Str} {ts : List Tok} (hf : ∀ t ∈ ts, t.Fit K) (h : seeS s ts = true) : (∀ t ∈ ts.tail, t.Fit K) ∧ tw ts.tail + 3 ≤ tw ts ∧ ts.tail.length < ts.length := by
  obtain ⟨t, h1, _⟩ := seeS_cons h
  exact tail_in hf ⟨t, h1, trivial⟩
theorem seeK_in {K : Nat} {s : Str} {ts : List Tok} (hf : ∀ t ∈ ts, t.Fit K) (h : seeK s ts = true) : (∀ t ∈ ts.tail, t.Fit K) ∧ tw ts.tail + 3 ≤ tw ts ∧ ts.tail.length < ts.length := by
  obtain ⟨t, h1, _⟩ := seeK_cons h
  exact tail_in hf ⟨t, h1, trivial⟩
theorem sizes_append (a b : List Exp) : ((a ++ b).map Exp.size).sum = (a.map Exp.size).sum + (b.map Exp.size).sum := by simp
theorem pListL_light {K : Nat} {f : List Tok → PR Exp} (hf : xCv K f) (c : Str) : ∀ (m : Nat) (acc : List Exp) (ts : List Tok) (a : List Exp) (r : List Tok), (∀ t ∈ ts, t.Fit K) → tw ts ≤ K → (∀ x ∈ acc, x.Fit K) → pListL f c m acc ts = .ok a r →
    (a.length + (a.map Exp.size).sum + tw r ≤ acc.length + (acc.map Exp.size).sum + tw ts) ∧ (∀ x ∈ a, x.Fit K) ∧ (∀ t ∈ r, t.Fit K) ∧ r.length < ts.length := by
  intro m
  induction m with
  | zero => intro acc ts a r _ _ _ h; cases h
  | succ m ih =>
    intro acc ts a r h1 h2 h3 h
    obtain ⟨e, q, he, h⟩ := PR.bind_ok h
    obtain ⟨⟨w1, w2⟩, g1, g2⟩ := hf ts e q h1 h2 he
    have hacc : ∀ x ∈ acc ++ [e], x.Fit K := fun x hx => by
      rcases List.mem_append.1 hx with hx | hx
      · exact h3 x hx
      · rw [List.mem_singleton.1 hx]; exact w2
    have hsz : (acc ++ [e]).length + ((acc ++ [e]).map Exp.size).sum = acc.length + (acc.map Exp.size).sum + (1 + e.size) := by
      rw [sizes_append, List.length_append]; simp only [List.map_cons, List.map_nil, List.sum_cons, List.sum_nil, List.length_cons, List.length_nil]; omega
    cases hc : seeS c q <;> rw [hc] at h
    · obtain ⟨u, v, hn, h⟩ := PR.bind_ok h
      obtain ⟨n1, n2, n3⟩ := xGL g1 hn
      obtain ⟨a1, a2, a3, a4⟩ := ih (acc ++ [e]) v a r n1 (by omega) hacc h
      exact ⟨by omega, a2, a3, by omega⟩
    · cases h
      obtain ⟨n1, n2, n3⟩ := xHu g1 hc
      exact ⟨by omega, hacc, n1, by omega⟩
theorem pList_light {K : Nat} {f : List Tok → PR Exp} (hf : xCv K f) {m : Nat} {c : Str} {ts r : List Tok} {a : List Exp} (h1 : ∀ t ∈ ts, t.Fit K) (h2 : tw ts ≤ K) (h : pList f m c ts = .ok a r) :
    (a.length + (a.map Exp.size).sum + tw r ≤ tw ts) ∧ (∀ x ∈ a, x.Fit K) ∧ (∀ t ∈ r, t.Fit K) ∧ r.length < ts.length := by
  unfold pList at h
  cases hc : seeS c ts <;> rw [hc] at h
  · have := pListL_light hf c m [] ts a r h1 h2 (fun x hx => by cases hx) h
    simpa using this
  · cases h
    obtain ⟨n1, n2, n3⟩ := xHu h1 hc
    exact ⟨by simp; omega, (fun x hx => by cases hx), n1, n3⟩
theorem pAtom2_light {K : Nat} {f : List Tok → PR Exp} (hf : xCv K f) {m : Nat} {t : Tok} {q r : List Tok} {e : Exp} (h1 : ∀ x ∈ t :: q, x.Fit K) (h2 : tw (t :: q) ≤ K) (h : pAtom2 f m t q = .ok e r) :
    Light K (t :: q) e r ∧ (∀ x ∈ r, x.Fit K) ∧ r.length < (t :: q).length := by
  have hq : ∀ x ∈ q, x.Fit K := fun x hx => h1 x (List.mem_cons_of_mem _ hx)
  have hw := tw_cons t q
  unfold pAtom2 at h
  cases c1 : isS t [91] <;> rw [c1] at h
  · cases c2 : isS t [40] <;> rw [c2] at h
    · cases h
    · obtain ⟨e', u, he, h⟩ := PR.bind_ok h
      obtain ⟨_, v, hn, h⟩ := PR.bind_ok h
      cases h
      obtain ⟨⟨w1, w2⟩, g1, g2⟩ := hf q e u hq (by omega) he
      obtain ⟨n1, n2, n3⟩ := xGL g1 hn
      exact ⟨⟨by omega, w2⟩, n1, by simp only [List.length_cons]; omega⟩
  · obtain ⟨a, u, ha, h⟩ := PR.bind_ok h
    cases h
    obtain ⟨w1, w2, w3, w4⟩ := pList_light hf hq (by omega) ha
    refine ⟨⟨by rw [xFo]; simp only [List.length_nil]; omega, xFO (xBy (by omega)) (xBy (by omega)) (Nat.zero_le _) (by omega) w2⟩, w3, by simp only [List.length_cons]; omega⟩
theorem xF4 {K : Nat} {f : List Tok → PR Exp} (hf : xCv K f) (m : Nat) : xCv K (pAtom f m) := by
  intro ts e r h1 h2 h
  cases ts with
  | nil => cases h
  | cons t q =>
    have hq : ∀ x ∈ q, x.Fit K := fun x hx => h1 x (List.mem_cons_of_mem _ hx)
    obtain ⟨ft1, ft2, ft3, ft4⟩ := h1 t List.mem_cons_self
    have ft4 : t.text.length ≤ K := ft4
    have hw := tw_cons t q
    have zero : ∀ x ∈ ([] : List Exp), x.Fit K := fun x hx => by cases hx
    simp only [pAtom] at h
    cases c1 : t.kind == 2 <;> rw [c1] at h
    · cases c2 : t.kind == 3 <;> rw [c2] at h
      · cases c3 : t.kind == 1 <;> rw [c3] at h
        · exact pAtom2_light hf h1 h2 h
        · cases c4 : xDr t.text <;> rw [c4] at h
          · cases c5 : decide (argc t.text ≥ 0) <;> rw [c5] at h
            · exact pAtom2_light hf h1 h2 h
            · obtain ⟨_, u, hn, h⟩ := PR.bind_ok h
              obtain ⟨a, v, ha, h⟩ := PR.bind_ok h
              cases h
              obtain ⟨n1, n2, n3⟩ := xGL hq hn
              obtain ⟨w1, w2, w3, w4⟩ := pList_light hf n1 (by omega) ha
              exact ⟨⟨by rw [xFo]; omega, xFO (xBy (by omega)) (xBy (by omega)) ft4 (by omega) w2⟩, w3, by simp only [List.length_cons]; omega⟩
          · cases h
            exact ⟨⟨by rw [xFo]; simp only [List.length_nil, List.map_nil, List.sum_nil]; omega, xFO (xBy (by omega)) (xBy (by omega)) ft4 (Nat.zero_le _) zero⟩, hq, by simp⟩
      · cases h
        exact ⟨⟨by rw [xFo]; simp only [List.length_nil, List.map_nil, List.sum_nil]; omega, xFO (xBy (by omega)) (xBy (by omega)) ft4 (Nat.zero_le _) zero⟩, hq, by simp⟩
    · cases h
      exact ⟨⟨by rw [xFo]; simp only [List.length_nil, List.map_nil, List.sum_nil]; omega, xFO (xBy (by omega)) ft2 (Nat.zero_le _) (Nat.zero_le _) zero⟩, hq, by simp⟩
theorem light_two {K : Nat} {k n : Int} {a b : Exp} {w : Nat} (hk : I64 k) (hn : I64 n) (ha : a.Fit K) (hb : b.Fit K) (h2 : 2 ≤ K) : (Exp.mk k n [] [a, b]).Fit K ∧ (Exp.mk k n [] [a, b]).size = a.size + b.size + 2 :=
  ⟨xFO hk hn (Nat.zero_le _) h2 (fun x hx => by
    simp only [List.mem_cons, List.not_mem_nil, or_false] at hx
    rcases hx with rfl | rfl <;> assumption), by rw [xFo]; simp only [List.length_cons, List.length_nil, List.map_cons, List.map_nil, List.sum_cons, List.sum_nil]; omega⟩
theorem pProdL_light {K : Nat} {g : List Tok → PR Exp} (hg : xCv K g) : ∀ (m : Nat) (a : Exp) (ts : List Tok) (e : Exp) (r : List Tok), (∀ t ∈ ts, t.Fit K) → tw ts ≤ K → a.Fit K → pProdL g m a ts = .ok e r →
    e.size + tw r ≤ a.size + tw ts ∧ e.Fit K ∧ (∀ t ∈ r, t.Fit K) ∧ r.length ≤ ts.length := by
  intro m
  induction m with
  | zero => intro a ts e r _ _ _ h; cases h
  | succ m ih =>
    intro a ts e r h1 h2 h3 h
    unfold pProdL at h
    cases c1 : seeS [42] ts <;> rw [c1] at h
    · cases h; exact ⟨Nat.le_refl _, h3, h1, Nat.le_refl _⟩
    · obtain ⟨b, q, hb, h⟩ := PR.bind_ok h
      obtain ⟨n1, n2, n3⟩ := xHu h1 c1
      obtain ⟨⟨w1, w2⟩, g1, g2⟩ := hg _ b q n1 (by omega) hb
      obtain ⟨f1, f2⟩ := light_two (w := 0) (k := 6) (n := 3) (xBy (by omega)) (xBy (by omega)) h3 w2 (by omega)
      obtain ⟨p1, p2, p3, p4⟩ := ih _ q e r g1 (by omega) f1 h
      exact ⟨by omega, p2, p3, by omega⟩
theorem pSumL_light {K : Nat} {g : List Tok → PR Exp} (hg : xCv K g) : ∀ (m : Nat) (a : Exp) (ts : List Tok) (e : Exp) (r : List Tok), (∀ t ∈ ts, t.Fit K) → tw ts ≤ K → a.Fit K → pSumL g m a ts = .ok e r →
    e.size + tw r ≤ a.size + tw ts ∧ e.Fit K ∧ (∀ t ∈ r, t.Fit K) ∧ r.length ≤ ts.length := by
  intro m
  induction m with
  | zero => intro a ts e r _ _ _ h; cases h
  | succ m ih =>
    intro a ts e r h1 h2 h3 h
    have one : ∀ (n : Int), I64 n → (∀ t ∈ ts.tail, t.Fit K) ∧ tw ts.tail + 3 ≤ tw ts ∧ ts.tail.length < ts.length → ((g ts.tail).bind fun b r => pSumL g m (.mk 6 n [] [a, b]) r) = .ok e r →
        e.size + tw r ≤ a.size + tw ts ∧ e.Fit K ∧ (∀ t ∈ r, t.Fit K) ∧ r.length ≤ ts.length := by
      rintro n hn ⟨n1, n2, n3⟩ h
      obtain ⟨b, q, hb, h⟩ := PR.bind_ok h
      obtain ⟨⟨w1, w2⟩, g1, g2⟩ := hg _ b q n1 (by omega) hb
      obtain ⟨f1, f2⟩ := light_two (w := 0) (k := 6) (n := n) (xBy (by omega)) hn h3 w2 (by omega)
      obtain ⟨p1, p2, p3, p4⟩ := ih _ q e r g1 (by omega) f1 h
      exact ⟨by omega, p2, p3, by omega⟩
    unfold pSumL at h
    cases c1 : seeS [43] ts <;> rw [c1] at h
    · cases c2 : seeS [45] ts <;> rw [c2] at h
      · cases h; exact ⟨Nat.le_refl _, h3, h1, Nat.le_refl _⟩
      · exact one 2 (xBy (by omega)) (xHu h1 c2) h
    · exact one 1 (xBy (by omega)) (xHu h1 c1) h
theorem xHs {K : Nat} {g : List Tok → PR Exp} (hg : xCv K g) (m : Nat) : xCv K (pProd g m) := by
  intro ts e r h1 h2 h
  obtain ⟨a, q, ha, h⟩ := PR.bind_ok h
  obtain ⟨⟨w1, w2⟩, g1, g2⟩ := hg ts a q h1 h2 ha
  obtain ⟨p1, p2, p3, p4⟩ := pProdL_light hg m a q e r g1 (by omega) w2 h
  exact ⟨⟨by omega, p2⟩, p3, by omega⟩
theorem pSum_light {K : Nat} {g : List Tok → PR Exp} (hg : xCv K g) (m : Nat) : xCv K (pSum g m) := by
  intro ts e r h1 h2 h
  obtain ⟨a, q, ha, h⟩ := PR.bind_ok h
  obtain ⟨⟨w1, w2⟩, g1, g2⟩ := hg ts a q h1 h2 ha
  obtain ⟨p1, p2, p3, p4⟩ := pSumL_light hg m a q e r g1 (by omega) w2 h
  exact ⟨⟨by omega, p2⟩, p3, by omega⟩
theorem pCmp_light {K : Nat} {g : List Tok → PR Exp} (hg : xCv K g) : xCv K (pCmp g) := by
  intro ts e r h1 h2 h
  obtain ⟨a, q, ha, h⟩ := PR.bind_ok h
  obtain ⟨⟨w1, w2⟩, g1, g2⟩ := hg ts a q h1 h2 ha
  have one : ∀ (n : Int), I64 n → (∀ t ∈ q.tail, t.Fit K) ∧ tw q.tail + 3 ≤ tw q ∧ q.tail.length < q.length → ((g q.tail).bind fun b r => PR.ok (.mk 6 n [] [a, b]) r) = .ok e r → Light K ts e r ∧ (∀ x ∈ r, x.Fit K) ∧ r.length < ts.length := by
    rintro n hn ⟨n1, n2, n3⟩ h
    obtain ⟨b, u, hb, h⟩ := PR.bind_ok h
    cases h
    obtain ⟨⟨v1, v2⟩, l1, l2⟩ := hg _ b r n1 (by omega) hb
    obtain ⟨f1, f2⟩ := light_two (w := 0) (k := 6) (n := n) (xBy (by omega)) hn w2 v2 (by omega)
    exact ⟨⟨by omega, f1⟩, l1, by omega⟩
  unfold pCmpT at h
  cases c1 : seeS [60] q <;> rw [c1] at h
  · cases c2 : seeS [61, 61] q <;> rw [c2] at h
    · cases h; exact ⟨⟨w1, w2⟩, g1, g2⟩
    · exact one 5 (xBy (by omega)) (xHu g1 c2) h
  · exact one 4 (xBy (by omega)) (xHu g1 c1) h
theorem pTwo_light {K : Nat} {f : List Tok → PR Exp} (hf : xCv K f) {k : Int} (hk : I64 k) {s1 s2 : Str} {ts r : List Tok} {e : Exp} (h1 : ∀ x ∈ ts, x.Fit K) (h2 : tw ts + 3 ≤ K) (h : pTwo f k s1 s2 ts = .ok e r) :
    e.size + tw r ≤ tw ts ∧ e.Fit K ∧ (∀ x ∈ r, x.Fit K) ∧ r.length < ts.length := by
  obtain ⟨x, q1, e1, h⟩ := PR.bind_ok h
  obtain ⟨_, q2, e2, h⟩ := PR.bind_ok h
  obtain ⟨a, q3, e3, h⟩ := PR.bind_ok h
  obtain ⟨_, q4, e4, h⟩ := PR.bind_ok h
  obtain ⟨b, q5, e5, h⟩ := PR.bind_ok h
  cases h
  obtain ⟨t, rfl, rfl, _, _⟩ := pName_ok e1
  have hq : ∀ x ∈ q1, x.Fit K := fun x hx => h1 x (List.mem_cons_of_mem _ hx)
  have ft4 : t.text.length ≤ K := (h1 t List.mem_cons_self).2.2.2
  have hw := tw_cons t q1
  obtain ⟨n1, n2, n3⟩ := xGL hq e2
  obtain ⟨⟨w1, w2⟩, g1, g2⟩ := hf _ a q3 n1 (by omega) e3
  obtain ⟨m1, m2, m3⟩ := xGL g1 e4
  obtain ⟨⟨v1, v2⟩, l1, l2⟩ := hf _ b r m1 (by omega) e5
  refine ⟨by rw [xFo]; simp only [List.length_cons, List.length_nil, List.map_cons, List.map_nil, List.sum_cons, List.sum_nil]; omega, xFO hk (xBy (by omega)) ft4 (by simp; omega) (fun x hx => ?_), l1, by simp only [List.length_cons]; omega⟩
  simp only [List.mem_cons, List.not_mem_nil, or_false] at hx
  rcases hx with rfl | rfl <;> assumption
theorem pIf_light {K : Nat} {f : List Tok → PR Exp} (hf : xCv K f) {ts r : List Tok} {e : Exp} (h1 : ∀ x ∈ ts, x.Fit K) (h2 : tw ts + 3 ≤ K) (h : pIf f ts = .ok e r) :
    e.size + tw r ≤ tw ts ∧ e.Fit K ∧ (∀ x ∈ r, x.Fit K) ∧ r.length < ts.length := by
  obtain ⟨a, q1, e1, h⟩ := PR.bind_ok h
  obtain ⟨_, q2, e2, h⟩ := PR.bind_ok h
  obtain ⟨b, q3, e3, h⟩ := PR.bind_ok h
  obtain ⟨_, q4, e4, h⟩ := PR.bind_ok h
  obtain ⟨c, q5, e5, h⟩ := PR.bind_ok h
  cases h
  obtain ⟨⟨w1, w2⟩, g1, g2⟩ := hf _ a q1 h1 (by omega) e1
  obtain ⟨n1, n2, n3⟩ := xGL g1 e2
  obtain ⟨⟨v1, v2⟩, l1, l2⟩ := hf _ b q3 n1 (by omega) e3
  obtain ⟨m1, m2, m3⟩ := xGL l1 e4
  obtain ⟨⟨x1, x2⟩, y1, y2⟩ := hf _ c r m1 (by omega) e5
  refine ⟨by rw [xFo]; simp only [List.length_cons, List.length_nil, List.map_cons, List.map_nil, List.sum_cons, List.sum_nil]; omega, xFO (xBy (by omega)) (xBy (by omega)) (Nat.zero_le _) (by simp; omega) (fun x hx => ?_), y1, by omega⟩
  simp only [List.mem_cons, List.not_mem_nil, or_false] at hx
  rcases hx with rfl | rfl | rfl <;> assumption
theorem xHt {K : Nat} {f : List Tok → PR Exp} (hf : xCv K f) (m : Nat) : xCv K (pSumF f m) := pSum_light (xHs (xF4 hf m) m) m
theorem pExprB_light {K : Nat} {f g : List Tok → PR Exp} (hf : xCv K f) (hg : xCv K g) : xCv K (pExprB f g) := by
  intro ts e r h1 h2 h
  unfold pExprB at h
  cases c1 : seeK [108, 101, 116] ts <;> rw [c1] at h
  · cases c2 : seeK [105, 102] ts <;> rw [c2] at h
    · cases c3 : seeK [102, 111, 114] ts <;> rw [c3] at h
      · exact pCmp_light hg ts e r h1 h2 h
      · obtain ⟨n1, n2, n3⟩ := seeK_in h1 c3
        obtain ⟨a1, a2, a3, a4⟩ := pTwo_light hf (xBy (by omega)) n1 (by omega) h
        exact ⟨⟨by omega, a2⟩, a3, by omega⟩
    · obtain ⟨n1, n2, n3⟩ := seeK_in h1 c2
      obtain ⟨a1, a2, a3, a4⟩ := pIf_light hf n1 (by omega) h
      exact ⟨⟨by omega, a2⟩, a3, by omega⟩
  · obtain ⟨n1, n2, n3⟩ := seeK_in h1 c1
    obtain ⟨a1, a2, a3, a4⟩ := pTwo_light hf (xBy (by omega)) n1 (by omega) h
    exact ⟨⟨by omega, a2⟩, a3, by omega⟩
theorem xEA {K : Nat} : ∀ m, xCv K (pE m)
  | 0 => fun ts e r _ _ h => by cases h
  | m + 1 => pExprB_light (xEA m) (xHt (xEA m) (m + 1))
end Go.Ab
end
section
namespace Go.Ab
set_option linter.unusedVariables false
set_option linter.unusedSimpArgs false
def gp (T ts : List Tok) : Psr := ⟨T, ((T.length - ts.length : Nat) : Int), -1⟩
def BadP (T ts : List Tok) (p : Psr) : Prop := p.list = T ∧ p.bad = ((T.length - ts.length : Nat) : Int) ∧ ts <:+ T
def SimP {α : Type} (T : List Tok) (R : PR α) (x : Option (α × Psr)) : Prop := match R with
  | .ok a ts => ts <:+ T ∧ x = some (a, gp T ts)
  | .err ts => ∃ a p, x = some (a, p) ∧ BadP T ts p
theorem BadP.nn {T ts : List Tok} {p : Psr} (h : BadP T ts p) : 0 ≤ p.bad := by rw [h.2.1]; omega
theorem SimP.bind {α β : Type} {T : List Tok} {R : PR α} {x : Option (α × Psr)} {k : α → List Tok → PR β} {g : α × Psr → Option (β × Psr)} (h : SimP T R x)
    (hk : ∀ a ts, R = .ok a ts → ts <:+ T → SimP T (k a ts) (g (a, gp T ts))) (hb : ∀ a p, 0 ≤ p.bad → ∃ b, g (a, p) = some (b, p)) : SimP T (R.bind k) (Option.bind x g) := by
  cases R with
  | ok a ts =>
    obtain ⟨h1, h2⟩ := h
    rw [h2]
    exact hk a ts rfl h1
  | err ts =>
    obtain ⟨a, p, h1, h2⟩ := h
    obtain ⟨b, h3⟩ := hb a p h2.nn
    rw [h1]
    exact ⟨b, p, h3, h2⟩
def hdT : List Tok → Tok
  | [] => Tok.mk 0 0 0 []
  | t :: _ => t
theorem isS_eq (N : Nat) (t : Tok) (s : Str) : xEV N t s = some (isS t s) := by unfold xEV isS; cases t.kind == 4 <;> rfl
theorem isK_eq (N : Nat) (t : Tok) (s : Str) : xDR N t s = some (isK t s) := by unfold xDR isK; cases t.kind == 1 <;> rfl
theorem isK_hd (s : Str) (ts : List Tok) : isK (hdT ts) s = seeK s ts := by cases ts <;> rfl
theorem isS_hd (s : Str) (ts : List Tok) : isS (hdT ts) s = seeS s ts := by cases ts <;> rfl
theorem xCu {T ts : List Tok} (h : ts <:+ T) : ts.tail <:+ T := (List.tail_suffix ts).trans h
theorem xF3 {T ts : List Tok} (N : Nat) (h : ts <:+ T) : xBG N (gp T ts) = some (hdT ts, gp T ts) := by
  obtain ⟨pre, rfl⟩ := h
  have e : (pre ++ ts).length - ts.length = pre.length := by rw [List.length_append]; omega
  unfold xBG
  simp only [gp, e]
  rw [show decide ((-1 : Int) < 0) = true from rfl, cond_true]
  cases ts with
  | nil => rw [decide_eq_false (by simp), cond_false]; rfl
  | cons t r =>
    rw [decide_eq_true (by simp only [List.length_append, List.length_cons]; omega), cond_true, if_pos (by simp only [List.length_append, List.length_cons]; omega)]
    simp [List.getD, hdT]
theorem gp_adv {T ts : List Tok} (hT : T.length ≤ 1000) (h : ts <:+ T) (hne : ts.tail.length + 1 = ts.length) : Psr.mk (gp T ts).list (IntKind.i64.wrap ((gp T ts).pos + 1)) (gp T ts).bad = gp T ts.tail := by
  have hl := h.length_le
  unfold gp
  have : IntKind.i64.wrap (((T.length - ts.length : Nat) : Int) + 1) = ((T.length - ts.tail.length : Nat) : Int) := by rw [xCk (by omega) (by omega)]; omega
  simp only [this]
theorem xFR {T ts : List Tok} {s : Str} (N : Nat) (hT : T.length ≤ 1000) (h : ts <:+ T) (hs : seeS s ts = true) : xAR N (gp T ts) s = some (true, gp T ts.tail) := by
  unfold xAR
  rw [xF3 N h]
  simp only [Option.bind_some, isS_eq, isS_hd, hs, cond_true, gp_adv hT h (xE9 hs)]
theorem xFv {T ts : List Tok} {s : Str} (N : Nat) (h : ts <:+ T) (hs : seeS s ts = false) : xAR N (gp T ts) s = some (false, gp T ts) := by
  unfold xAR
  rw [xF3 N h]
  simp only [Option.bind_some, isS_eq, isS_hd, hs, cond_false]
theorem fail_eq {T ts : List Tok} (N : Nat) (h : ts <:+ T) : ∃ p, xB5 N (gp T ts) = some (.mk 0 0 [] [], p) ∧ BadP T ts p := ⟨_, rfl, rfl, rfl, h⟩
theorem next_bad {p : Psr} (N : Nat) (h : 0 ≤ p.bad) : xBG N p = some (Tok.mk 0 0 0 [], p) := by
  unfold xBG; rw [decide_eq_false (by omega), cond_false]
theorem xFB {p : Psr} (N : Nat) (s : Str) (h : 0 ≤ p.bad) : xAR N p s = some (false, p) := by
  unfold xAR; rw [next_bad N h]; rfl
theorem fail_bad {p : Psr} (N : Nat) (h : 0 ≤ p.bad) : xB5 N p = some (.mk 0 0 [] [], p) := by
  unfold xB5; rw [decide_eq_false (by omega), cond_false]
theorem xGg {p : Psr} (N : Nat) (s : Str) (h : 0 ≤ p.bad) : xAN N p s = some p := by
  unfold xAN; simp only [next_bad N h, Option.bind_some, isK_eq, isS_eq, fail_bad N h]; rfl
theorem SimP.need {β : Type} {T ts : List Tok} {s : Str} {N : Nat} {k : Unit → List Tok → PR β} {g : Psr → Option (β × Psr)} (hT : T.length ≤ 1000) (h : ts <:+ T)
    (hk : ∀ r, xFj s ts = .ok () r → r <:+ T → SimP T (k () r) (g (gp T r))) (hb : ∀ p, 0 ≤ p.bad → ∃ b, g p = some (b, p)) : SimP T ((xFj s ts).bind k) (Option.bind (xAN N (gp T ts) s) g) := by
  have bad : isK (hdT ts) s = false → isS (hdT ts) s = false → ∀ R : PR β, R = .err ts → SimP T R (Option.bind (xAN N (gp T ts) s) g) := by
    intro h1 h2 R hR
    subst hR
    obtain ⟨p, hp1, hp2⟩ := fail_eq N h
    obtain ⟨b, hb⟩ := hb p hp2.nn
    refine ⟨b, p, ?_, hp2⟩
    unfold xAN
    simp only [xF3 N h, Option.bind_some, isK_eq, isS_eq, h1, h2, cond_false, hp1, hb]
  cases ts with
  | nil => exact bad rfl rfl _ rfl
  | cons t r =>
    cases h1 : isK t s
    · cases h2 : isS t s
      · exact bad h1 h2 _ (by simp only [xFj, h1, h2, Bool.or_false, cond_false, PR.bind])
      · have e : xFj s (t :: r) = .ok () r := by simp only [xFj, h1, h2, Bool.or_true, cond_true]
        rw [e]
        have := hk r e (xCu h)
        unfold xAN
        simp only [xF3 N h, Option.bind_some, isK_eq, isS_eq, hdT, h1, h2, cond_false, cond_true, gp_adv hT h rfl]
        exact this
    · have e : xFj s (t :: r) = .ok () r := by simp only [xFj, h1, Bool.true_or, cond_true]
      rw [e]
      have := hk r e (xCu h)
      unfold xAN
      simp only [xF3 N h, Option.bind_some, isK_eq, isS_eq, hdT, h1, cond_false, cond_true, gp_adv hT h rfl]
      exact this
structure TokT (K : Nat) (T : List Tok) : Prop where
  len : T.length ≤ 1000
  fit : ∀ t ∈ T, t.Fit K
  tw : tw T ≤ K
theorem tw_suf {T ts : List Tok} (h : ts <:+ T) : tw ts ≤ tw T := by
  obtain ⟨pre, rfl⟩ := h
  simp [tw]
theorem TokT.suf {K : Nat} {T ts : List Tok} (hT : TokT K T) (h : ts <:+ T) : (∀ t ∈ ts, t.Fit K) ∧ Ab.tw ts ≤ K := ⟨fun t ht => hT.fit t (h.subset ht), Nat.le_trans (tw_suf h) hT.tw⟩
theorem eat {K : Nat} {T ts r : List Tok} {f : List Tok → PR Exp} {e : Exp} (hT : TokT K T) (hf : xCv K f) (h : ts <:+ T) (he : f ts = .ok e r) : r.length < ts.length := by
  obtain ⟨h1, h2⟩ := hT.suf h
  exact (hf ts e r h1 h2 he).2.2
theorem name_sim {K : Nat} {T ts : List Tok} {N : Nat} (hT : TokT K T) (hN : K < N) (hK : K ≤ 1048576) (h : ts <:+ T) : SimP T (pName ts) (xB6 N (gp T ts)) := by
  have bad : xB6 N (gp T ts) = Option.bind (xB5 N (gp T ts)) (fun r2 => some ([], r2.2)) → SimP T (.err ts : PR Str) (xB6 N (gp T ts)) := fun he => by
    obtain ⟨p, h1, h2⟩ := fail_eq N h
    rw [he, h1]
    exact ⟨[], p, rfl, h2⟩
  cases ts with
  | nil =>
    refine bad ?_
    unfold xB6
    simp only [xF3 N h, Option.bind_some, hdT]; rfl
  | cons t r =>
    have hft := hT.fit t (h.subset List.mem_cons_self)
    have hlen : t.text.length ≤ K := hft.2.2.2
    have hv := xFb (N := N) (s := t.text) (by omega) (by omega)
    simp only [pName]
    cases h1 : t.kind == 1
    · refine bad ?_
      unfold xB6
      simp only [xF3 N h, Option.bind_some, hdT, bne, h1, Bool.not_false, cond_true]
    · cases h2 : xDr t.text
      · refine bad ?_
        unfold xB6
        simp only [xF3 N h, Option.bind_some, hdT, bne, h1, hv, h2, Bool.not_true, Bool.not_false, cond_true, cond_false]
      · refine ⟨xCu h, ?_⟩
        unfold xB6
        simp only [xF3 N h, Option.bind_some, hdT, bne, h1, hv, h2, Bool.not_true, cond_true, cond_false, gp_adv hT.len h rfl]
        rfl
abbrev e0 : Exp := .mk 0 0 [] []
def xFV (q : Psr → Option (Exp × Psr)) : Prop := ∀ p, 0 ≤ p.bad → q p = some (e0, p)
def BadOkL (q : Psr → Str → Option (List Exp × Psr)) : Prop := ∀ p s, 0 ≤ p.bad → q p s = some ([], p)
def FPs (T : List Tok) (n : Nat) (f : List Tok → PR Exp) (q : Psr → Option (Exp × Psr)) : Prop := ∀ ts, ts <:+ T → ts.length < n → SimP T (f ts) (q (gp T ts))
section
variable {K : Nat} {T : List Tok} {N : Nat} {q0 q1 : Psr → Option (Exp × Psr)} {q2 : Psr → Str → Option (List Exp × Psr)} {q3 q4 : Psr → Option (Exp × Psr)}
theorem decm1 : decide ((-1 : Int) < 0) = true := rfl
theorem gp_bad (T ts : List Tok) : (gp T ts).bad = -1 := rfl
theorem listL_sim (hT : TokT K T) {n : Nat} {f : List Tok → PR Exp} (hf : xCv K f) (hq : FPs T n f q1) (hb : xFV q1) (c : Str) : ∀ (m fuel : Nat) (acc : List Exp) (ts : List Tok), ts <:+ T → ts.length < n → ts.length < m → ts.length + 1 < fuel → acc.length + ts.length ≤ 2000 →
    SimP T (pListL f c m acc ts) (xCp N q0 q1 q2 q3 q4 fuel c acc (gp T ts)) := by
  intro m
  induction m with
  | zero => intro fuel acc ts _ _ h; omega
  | succ m ih =>
    intro fuel acc ts h hn hm hfu ha
    obtain ⟨fuel, rfl⟩ : ∃ k, fuel = k + 1 := ⟨fuel - 1, by omega⟩
    simp only [pListL, xCp, gp_bad, decm1, cond_true]
    refine SimP.bind (hq ts h hn) (fun e r he hr => ?_) (fun e p hp => ?_)
    · have hl := eat hT hf h he
      simp only [Exp.re_eq]
      rw [if_pos (by simp only [List.length_cons, List.length_nil]; unfold Lim; omega)]
      cases hs : seeS c r
      · rw [xFv N hr hs, Option.bind_some]
        simp only [cond_false]
        refine SimP.need hT.len hr (fun q hq' hqs => ?_) (fun p hp => ?_)
        · have := xEL hq'
          exact ih fuel (acc ++ [e]) q hqs (by omega) (by omega) (by omega) (by simp only [List.length_append, List.length_cons, List.length_nil]; omega)
        · obtain ⟨fuel, rfl⟩ : ∃ k, fuel = k + 1 := ⟨fuel - 1, by omega⟩
          exact ⟨acc ++ [e], by simp only [xCp]; rw [decide_eq_false (by omega), cond_false]⟩
      · rw [xFR N hT.len hr hs, Option.bind_some]
        exact ⟨xCu hr, rfl⟩
    · obtain ⟨fuel, rfl⟩ : ∃ k, fuel = k + 1 := ⟨fuel - 1, by omega⟩
      simp only [Exp.re_eq]
      rw [if_pos (by simp only [List.length_cons, List.length_nil]; unfold Lim; omega), xFB N c hp, Option.bind_some]
      simp only [cond_false, xGg N _ hp, Option.bind_some]
      exact ⟨acc ++ [e], by simp only [xCp]; rw [decide_eq_false (by omega), cond_false]⟩
theorem list_bad (hN : 0 < N) (s : Str) {p : Psr} (h : 0 ≤ p.bad) : xCr N q0 q1 q2 q3 q4 p s = some ([], p) := by
  obtain ⟨M, rfl⟩ : ∃ k, N = k + 1 := ⟨N - 1, by omega⟩
  unfold xCr
  rw [xFB _ s h, Option.bind_some]
  simp only [cond_false, xCp]
  rw [decide_eq_false (by omega), cond_false]
theorem list_sim (hT : TokT K T) (hN : 1002 < N) {n m : Nat} {f : List Tok → PR Exp} (hf : xCv K f) (hq : FPs T n f q1) (hb : xFV q1) (c : Str) {ts : List Tok} (h : ts <:+ T) (hn : ts.length < n) (hm : ts.length < m) :
    SimP T (pList f m c ts) (xCr N q0 q1 q2 q3 q4 (gp T ts) c) := by
  have hl := h.length_le
  have := hT.len
  unfold pList xCr
  cases hs : seeS c ts
  · rw [xFv N h hs, Option.bind_some]
    simp only [cond_false]
    exact listL_sim hT hf hq hb c m N [] ts h hn hm (by omega) (by simp; omega)
  · rw [xFR N hT.len h hs, Option.bind_some]
    exact ⟨xCu h, rfl⟩
def FPl (T : List Tok) (n m : Nat) (f : List Tok → PR Exp) (q : Psr → Str → Option (List Exp × Psr)) : Prop := ∀ c ts, ts <:+ T → ts.length < n → SimP T (pList f m c ts) (q (gp T ts) c)
theorem atom_bad {p : Psr} (h : 0 ≤ p.bad) : xCz N q0 q1 q2 q3 q4 p = some (e0, p) := by
  unfold xCz
  simp only [next_bad N h, Option.bind_some, xFB N _ h, fail_bad N h]
  rfl
theorem atom2_sim (hT : TokT K T) {n m : Nat} {f : List Tok → PR Exp} (hf : xCv K f) (hq : FPs T n f q1) (hb : xFV q1) (hl : FPl T n m f q2) (hbl : BadOkL q2) {t : Tok} {r : List Tok} (h : t :: r <:+ T) (hn : r.length < n) :
    SimP T (pAtom2 f m t r) (Option.bind (xAR N (gp T (t :: r)) [91]) fun r2 =>
        bif r2.1 then (
          Option.bind (q2 r2.2 [93]) fun r3 =>
          some ((Exp.mk 4 0 [] r3.1), r3.2)
        ) else (
          Option.bind (xAR N r2.2 [40]) fun r3 =>
          bif r3.1 then (
            Option.bind (q1 r3.2) fun r4 =>
            Option.bind (xAN N r4.2 [41]) fun r5 =>
            some (r4.1, r5)
          ) else (
            Option.bind (xB5 N r3.2) fun r4 =>
            some (r4.1, r4.2)
          )
        )) := by
  have hr : r <:+ T := xCu h
  unfold pAtom2
  cases h1 : isS t [91]
  · rw [xFv N h h1, Option.bind_some]
    simp only [cond_false]
    cases h2 : isS t [40]
    · rw [xFv N h h2, Option.bind_some]
      simp only [cond_false]
      obtain ⟨p, hp1, hp2⟩ := fail_eq N h
      rw [hp1]
      exact ⟨_, p, rfl, hp2⟩
    · rw [xFR N hT.len h h2, Option.bind_some]
      simp only [cond_true, List.tail_cons]
      refine SimP.bind (hq r hr hn) (fun e u he hu => ?_) (fun e p hp => ⟨e, by simp only [xGg N _ hp, Option.bind_some]⟩)
      exact SimP.need hT.len hu (fun v _ hv => ⟨hv, rfl⟩) (fun p hp => ⟨e, rfl⟩)
  · rw [xFR N hT.len h h1, Option.bind_some]
    simp only [cond_true, List.tail_cons]
    exact SimP.bind (hl [93] r hr hn) (fun a u _ hu => ⟨hu, rfl⟩) (fun a p hp => ⟨_, rfl⟩)
theorem atom_sim (hT : TokT K T) (hN : K < N) (hK : K ≤ 1048576) {n m : Nat} {f : List Tok → PR Exp} (hf : xCv K f) (hq : FPs T n f q1) (hb : xFV q1) (hl : FPl T n m f q2) (hbl : BadOkL q2) :
    FPs T (n + 1) (pAtom f m) (xCz N q0 q1 q2 q3 q4) := by
  intro ts h hn
  unfold xCz
  rw [xF3 N h, Option.bind_some]
  cases ts with
  | nil =>
    simp only [hdT, xFv N h (s := [91]) rfl, xFv N h (s := [40]) rfl, Option.bind_some]
    obtain ⟨p, hp1, hp2⟩ := fail_eq N h
    exact ⟨_, p, by rw [hp1]; rfl, hp2⟩
  | cons t r =>
    have hr : r <:+ T := xCu h
    have hn' : r.length < n := by simp only [List.length_cons] at hn; omega
    have hft := hT.fit t (h.subset List.mem_cons_self)
    have hlen : t.text.length ≤ K := hft.2.2.2
    have hv := xFb (N := N) (s := t.text) (by omega) (by omega)
    have hadv := gp_adv hT.len h rfl
    rw [List.tail_cons] at hadv
    simp only [pAtom, hdT, hadv]
    cases h1 : t.kind == 2
    · cases h2 : t.kind == 3
      · cases h3 : t.kind == 1
        · exact atom2_sim hT hf hq hb hl hbl h hn'
        · simp only [cond_true, cond_false, hv, Option.bind_some]
          cases h4 : xDr t.text
          · simp only [cond_false, xFE, Option.bind_some]
            cases h5 : decide (argc t.text ≥ 0)
            · exact atom2_sim hT hf hq hb hl hbl h hn'
            · simp only [cond_true]
              refine SimP.need hT.len hr (fun u hu hus => ?_) (fun p hp => ⟨_, by rw [hbl p _ hp, Option.bind_some]⟩)
              have := xEL hu
              exact SimP.bind (hl [41] u hus (by omega)) (fun a v _ hv => ⟨hv, rfl⟩) (fun a p hp => ⟨_, rfl⟩)
          · exact ⟨hr, rfl⟩
      · exact ⟨hr, rfl⟩
    · exact ⟨hr, rfl⟩
theorem prodL_sim (hT : TokT K T) {n : Nat} {g : List Tok → PR Exp} (hg : xCv K g) (hq : FPs T n g q0) (hb : xFV q0) (b2 : Exp) : ∀ (m fuel : Nat) (a : Exp) (ts : List Tok), ts <:+ T → ts.length ≤ n → ts.length < m → ts.length < fuel →
    SimP T (pProdL g m a ts) (xB1 N q0 q1 q2 q3 q4 fuel (gp T ts) b2 a) := by
  intro m
  induction m with
  | zero => intro fuel a ts _ _ h; omega
  | succ m ih =>
    intro fuel a ts h hn hm hfu
    obtain ⟨fuel, rfl⟩ : ∃ k, fuel = k + 1 := ⟨fuel - 1, by omega⟩
    simp only [pProdL, xB1]
    cases hs : seeS [42] ts
    · rw [xFv N h hs, Option.bind_some]
      exact ⟨h, rfl⟩
    · have hl := xE9 hs
      rw [xFR N hT.len h hs, Option.bind_some]
      simp only [cond_true, Exp.re_eq]
      obtain ⟨fuel, rfl⟩ : ∃ k, fuel = k + 1 := ⟨fuel - 1, by omega⟩
      refine SimP.bind (hq ts.tail (xCu h) (by omega)) (fun b r hbr hr => ?_) (fun b p hp => ⟨.mk 6 3 [] [a, b], by simp only [xB1, xFB N _ hp, Option.bind_some, cond_false]⟩)
      have := eat hT hg (xCu h) hbr
      exact ih (fuel + 1) _ r hr (by omega) (by omega) (by omega)
theorem prod_sim (hT : TokT K T) (hN : 1002 < N) {n m : Nat} {g : List Tok → PR Exp} (hg : xCv K g) (hq : FPs T n g q0) (hb : xFV q0) (hnm : n ≤ m) : FPs T n (pProd g m) (xCa N q0 q1 q2 q3 q4) := by
  intro ts h hn
  have hl := h.length_le
  have := hT.len
  unfold pProd xCa
  obtain ⟨M, rfl⟩ : ∃ k, N = k + 1 := ⟨N - 1, by omega⟩
  refine SimP.bind (hq ts h hn) (fun b r hbr hr => ?_) (fun b p hp => ⟨b, by simp only [xB1, xFB _ _ hp, Option.bind_some, cond_false]⟩)
  have := eat hT hg h hbr
  exact prodL_sim hT hg hq hb e0 m (M + 1) b r hr (by omega) (by omega) (by omega)
theorem prod_bad (hN : 0 < N) (hb : xFV q0) : xFV (xCa N q0 q1 q2 q3 q4) := by
  intro p hp
  obtain ⟨M, rfl⟩ : ∃ k, N = k + 1 := ⟨N - 1, by omega⟩
  unfold xCa
  simp only [hb p hp, Option.bind_some, xB1, xFB _ _ hp, cond_false]
theorem sumL_sim (hT : TokT K T) {n : Nat} {g : List Tok → PR Exp} (hg : xCv K g) (hq : FPs T n g q3) (hb : xFV q3) (b2 : Exp) : ∀ (m fuel : Nat) (a : Exp) (ts : List Tok), ts <:+ T → ts.length ≤ n → ts.length < m → ts.length < fuel →
    SimP T (pSumL g m a ts) (xCd N q0 q1 q2 q3 q4 fuel (gp T ts) b2 a) := by
  intro m
  induction m with
  | zero => intro fuel a ts _ _ h; omega
  | succ m ih =>
    intro fuel a ts h hn hm hfu
    obtain ⟨fuel, rfl⟩ : ∃ k, fuel = k + 1 := ⟨fuel - 1, by omega⟩
    have step : ∀ s k, seeS s ts = true → SimP T ((g ts.tail).bind fun b r => pSumL g m (.mk 6 k [] [a, b]) r) (Option.bind (q3 (gp T ts.tail)) fun r3 => xCd N q0 q1 q2 q3 q4 fuel r3.2 b2 (Exp.mk 6 k [] [(Exp.re a), (Exp.re r3.1)])) := by
      intro s k hs
      have hl := xE9 hs
      simp only [Exp.re_eq]
      obtain ⟨fuel, rfl⟩ : ∃ k, fuel = k + 1 := ⟨fuel - 1, by omega⟩
      refine SimP.bind (hq ts.tail (xCu h) (by omega)) (fun b r hbr hr => ?_) (fun b p hp => ⟨.mk 6 k [] [a, b], by simp only [xCd]; rw [decide_eq_false (by omega), cond_false]⟩)
      have := eat hT hg (xCu h) hbr
      exact ih (fuel + 1) _ r hr (by omega) (by omega) (by omega)
    simp only [pSumL, xCd, gp_bad, decm1, cond_true]
    cases hs : seeS [43] ts
    · rw [xFv N h hs, Option.bind_some]
      simp only [Bool.not_false, cond_true, cond_false]
      cases hs2 : seeS [45] ts
      · rw [xFv N h hs2, Option.bind_some]
        exact ⟨h, rfl⟩
      · rw [xFR N hT.len h hs2, Option.bind_some]
        simp only [Bool.not_true, cond_false, cond_true]
        exact step _ 2 hs2
    · rw [xFR N hT.len h hs, Option.bind_some]
      simp only [Bool.not_true, cond_false, cond_true]
      exact step _ 1 hs
theorem sum_sim (hT : TokT K T) (hN : 1002 < N) {n m : Nat} {g : List Tok → PR Exp} (hg : xCv K g) (hq : FPs T n g q3) (hb : xFV q3) (hnm : n ≤ m) : FPs T n (pSum g m) (xCR N q0 q1 q2 q3 q4) := by
  intro ts h hn
  have hl := h.length_le
  have := hT.len
  unfold pSum xCR
  obtain ⟨M, rfl⟩ : ∃ k, N = k + 1 := ⟨N - 1, by omega⟩
  refine SimP.bind (hq ts h hn) (fun b r hbr hr => ?_) (fun b p hp => ⟨b, by simp only [xCd]; rw [decide_eq_false (by omega), cond_false]⟩)
  have := eat hT hg h hbr
  exact sumL_sim hT hg hq hb e0 m (M + 1) b r hr (by omega) (by omega) (by omega)
theorem sum_bad (hN : 0 < N) (hb : xFV q3) : xFV (xCR N q0 q1 q2 q3 q4) := by
  intro p hp
  obtain ⟨M, rfl⟩ : ∃ k, N = k + 1 := ⟨N - 1, by omega⟩
  unfold xCR
  simp only [hb p hp, Option.bind_some, xCd]
  rw [decide_eq_false (by omega), cond_false]
theorem opsym4 (N : Nat) : xEb N (List.getD [4, 5] (Int.toNat 0) Ty.int.dflt) = some [60] := rfl
theorem opsym5 (N : Nat) : xEb N (List.getD [4, 5] (Int.toNat 1) Ty.int.dflt) = some [61, 61] := rfl
theorem cmp_bad {p : Psr} (hp : 0 ≤ p.bad) (fuel : Nat) (a b2 : Exp) : xCQ N q0 q1 q2 q3 q4 (fuel + 3) [4, 5] (List.length [4, 5] : Int) 0 p b2 a = some (a, p) := by
  have e1 : IntKind.i64.wrap (0 + 1) = 1 := rfl
  have e2 : IntKind.i64.wrap (1 + 1) = 2 := rfl
  simp only [xCQ, opsym4, opsym5, Option.bind_some, xFB N _ hp, cond_false, e1, e2]
  rfl
theorem cmp_sim (hT : TokT K T) {n : Nat} {g : List Tok → PR Exp} (hg : xCv K g) (hq : FPs T n g q4) (hb : xFV q4) (fuel : Nat) (a b2 : Exp) {ts : List Tok} (h : ts <:+ T) (hn : ts.length ≤ n) :
    SimP T (pCmpT g a ts) (xCQ N q0 q1 q2 q3 q4 (fuel + 3) [4, 5] (List.length [4, 5] : Int) 0 (gp T ts) b2 a) := by
  have e1 : IntKind.i64.wrap (0 + 1) = 1 := rfl
  have e2 : IntKind.i64.wrap (1 + 1) = 2 := rfl
  have c0 : decide ((0 : Int) < (List.length [4, 5] : Int)) = true := rfl
  have c1 : decide ((1 : Int) < (List.length [4, 5] : Int)) = true := rfl
  have c2 : decide ((2 : Int) < (List.length [4, 5] : Int)) = false := rfl
  have i0 : (0 : Int) ≤ 0 ∧ (0 : Int) < (List.length [4, 5] : Int) := by decide
  have i1 : (0 : Int) ≤ 1 ∧ (1 : Int) < (List.length [4, 5] : Int) := by decide
  have step : ∀ s k, seeS s ts = true → SimP T ((g ts.tail).bind fun b r => PR.ok (.mk 6 k [] [a, b]) r) (Option.bind (q4 (gp T ts.tail)) fun r3 => some ((Exp.mk 6 k [] [(Exp.re a), (Exp.re r3.1)]), r3.2)) := by
    intro s k hs
    have hl := xE9 hs
    simp only [Exp.re_eq]
    exact SimP.bind (hq ts.tail (xCu h) (by omega)) (fun b r hbr hr => ⟨hr, rfl⟩) (fun b p hp => ⟨_, rfl⟩)
  unfold pCmpT
  simp only [xCQ, c0, c1, c2, if_pos i0, if_pos i1, cond_true, cond_false, opsym4, opsym5, e1, e2, Option.bind_some]
  cases hs : seeS [60] ts
  · rw [xFv N h hs, Option.bind_some]
    simp only [cond_false]
    cases hs2 : seeS [61, 61] ts
    · rw [xFv N h hs2, Option.bind_some]
      exact ⟨h, rfl⟩
    · rw [xFR N hT.len h hs2, Option.bind_some]
      exact step _ 5 hs2
  · rw [xFR N hT.len h hs, Option.bind_some]
    exact step _ 4 hs
theorem expr_bad (hN : 3 ≤ N) (hb : xFV q4) : xFV (xCA N q0 q1 q2 q3 q4) := by
  intro p hp
  obtain ⟨M, rfl⟩ : ∃ k, N = k + 3 := ⟨N - 3, by omega⟩
  unfold xCA
  simp only [next_bad _ hp, Option.bind_some, isK_eq, hb p hp]
  exact cmp_bad hp M e0 e0
theorem lim1 (x : Exp) : 0 + List.length [x] ≤ Lim := by simp [Lim]
theorem lim2 (x y : Exp) : List.length ([] ++ [x]) + List.length [y] ≤ Lim := by simp [Lim]
theorem lim3 (x y z : Exp) : List.length (([] ++ [x]) ++ [y]) + List.length [z] ≤ Lim := by simp [Lim]
theorem two_sim (hT : TokT K T) (hN : K < N) (hK : K ≤ 1048576) {n : Nat} {f : List Tok → PR Exp} (hf : xCv K f) (hq : FPs T n f q1) (hb : xFV q1) (k : Int) (s1 s2 : Str) {ts : List Tok} (h : ts <:+ T) (hn : ts.length < n) :
    SimP T (pTwo f k s1 s2 ts) (Option.bind (xB6 N (gp T ts)) fun r3 => Option.bind (xAN N r3.2 s1) fun r4 => Option.bind (q1 r4) fun r5 =>
      if 0 + List.length [(Exp.re r5.1)] ≤ Lim then Option.bind (xAN N r5.2 s2) fun r6 => Option.bind (q1 r6) fun r7 =>
        if List.length ([] ++ [(Exp.re r5.1)]) + List.length [(Exp.re r7.1)] ≤ Lim then some ((Exp.mk k 0 r3.1 (([] ++ [(Exp.re r5.1)]) ++ [(Exp.re r7.1)])), r7.2) else none else none) := by
  simp only [if_pos (lim1 _), if_pos (lim2 _ _), Exp.re_eq]
  refine SimP.bind (name_sim hT hN hK h) (fun x r1 hx hr1 => ?_) (fun x p hp => ⟨.mk k 0 x [e0, e0], by simp only [xGg N _ hp, hb p hp, Option.bind_some]; rfl⟩)
  have l1 := pName_len hx
  refine SimP.need hT.len hr1 (fun r2 h2 hr2 => ?_) (fun p hp => ⟨.mk k 0 x [e0, e0], by simp only [xGg N _ hp, hb p hp, Option.bind_some]; rfl⟩)
  have l2 := xEL h2
  refine SimP.bind (hq r2 hr2 (by omega)) (fun a r3 h3 hr3 => ?_) (fun a p hp => ⟨.mk k 0 x [a, e0], by simp only [xGg N _ hp, hb p hp, Option.bind_some]; rfl⟩)
  have l3 := eat hT hf hr2 h3
  refine SimP.need hT.len hr3 (fun r4 h4 hr4 => ?_) (fun p hp => ⟨.mk k 0 x [a, e0], by simp only [hb p hp, Option.bind_some]; rfl⟩)
  have l4 := xEL h4
  exact SimP.bind (hq r4 hr4 (by omega)) (fun b r5 h5 hr5 => ⟨hr5, rfl⟩) (fun b p hp => ⟨_, rfl⟩)
theorem if_sim (hT : TokT K T) {n : Nat} {f : List Tok → PR Exp} (hf : xCv K f) (hq : FPs T n f q1) (hb : xFV q1) {ts : List Tok} (h : ts <:+ T) (hn : ts.length < n) :
    SimP T (pIf f ts) (Option.bind (q1 (gp T ts)) fun r5 =>
      if 0 + List.length [(Exp.re r5.1)] ≤ Lim then
      Option.bind (xAN N r5.2 [116, 104, 101, 110]) fun r6 =>
      Option.bind (q1 r6) fun r7 =>
      if List.length ([] ++ [(Exp.re r5.1)]) + List.length [(Exp.re r7.1)] ≤ Lim then
      Option.bind (xAN N r7.2 [101, 108, 115, 101]) fun r8 =>
      Option.bind (q1 r8) fun r9 =>
      if List.length (([] ++ [(Exp.re r5.1)]) ++ [(Exp.re r7.1)]) + List.length [(Exp.re r9.1)] ≤ Lim then
      some ((Exp.mk 8 0 [] ((([] ++ [(Exp.re r5.1)]) ++ [(Exp.re r7.1)]) ++ [(Exp.re r9.1)])), r9.2)
      else none
      else none
      else none) := by
  simp only [if_pos (lim1 _), if_pos (lim2 _ _), if_pos (lim3 _ _ _), Exp.re_eq]
  refine SimP.bind (hq ts h hn) (fun a r1 h1 hr1 => ?_) (fun a p hp => ⟨.mk 8 0 [] [a, e0, e0], by simp only [xGg N _ hp, hb p hp, Option.bind_some]; rfl⟩)
  have l1 := eat hT hf h h1
  refine SimP.need hT.len hr1 (fun r2 h2 hr2 => ?_) (fun p hp => ⟨.mk 8 0 [] [a, e0, e0], by simp only [xGg N _ hp, hb p hp, Option.bind_some]; rfl⟩)
  have l2 := xEL h2
  refine SimP.bind (hq r2 hr2 (by omega)) (fun b r3 h3 hr3 => ?_) (fun b p hp => ⟨.mk 8 0 [] [a, b, e0], by simp only [xGg N _ hp, hb p hp, Option.bind_some]; rfl⟩)
  have l3 := eat hT hf hr2 h3
  refine SimP.need hT.len hr3 (fun r4 h4 hr4 => ?_) (fun p hp => ⟨.mk 8 0 [] [a, b, e0], by simp only [hb p hp, Option.bind_some]; rfl⟩)
  have l4 := xEL h4
  exact SimP.bind (hq r4 hr4 (by omega)) (fun c r5 h5 hr5 => ⟨hr5, rfl⟩) (fun c p hp => ⟨_, rfl⟩)
theorem exprB_sim (hT : TokT K T) (hN : K < N) (hN2 : 1002 < N) (hK : K ≤ 1048576) {n : Nat} {f g : List Tok → PR Exp} (hf : xCv K f) (hg : xCv K g) (hq : FPs T n f q1) (hb : xFV q1) (hq4 : FPs T (n + 1) g q4) (hb4 : xFV q4) :
    FPs T (n + 1) (pExprB f g) (xCA N q0 q1 q2 q3 q4) := by
  intro ts h hn
  unfold pExprB xCA
  simp only [xF3 N h, Option.bind_some, isK_eq, isK_hd]
  cases c1 : seeK [108, 101, 116] ts
  · simp only [cond_false]
    cases c2 : seeK [105, 102] ts
    · simp only [cond_false]
      cases c3 : seeK [102, 111, 114] ts
      · simp only [cond_false]
        obtain ⟨M, rfl⟩ : ∃ k, N = k + 3 := ⟨N - 3, by omega⟩
        unfold pCmp
        refine SimP.bind (hq4 ts h hn) (fun a r ha hr => ?_) (fun a p hp => ⟨a, cmp_bad hp M a e0⟩)
        have := eat hT hg h ha
        exact cmp_sim hT hg hq4 hb4 M a e0 hr (by omega)
      · simp only [cond_true, gp_adv hT.len h (xE8 c3)]
        have := xE8 c3
        exact two_sim hT hN hK hf hq hb 9 _ _ (xCu h) (by omega)
    · simp only [cond_true, gp_adv hT.len h (xE8 c2)]
      have := xE8 c2
      exact if_sim hT hf hq hb (xCu h) (by omega)
  · simp only [cond_true, gp_adv hT.len h (xE8 c1)]
    have := xE8 c1
    exact two_sim hT hN hK hf hq hb 7 _ _ (xCu h) (by omega)
end
theorem bad_all {N : Nat} (hN : 3 ≤ N) : ∀ d, 4 ≤ d → xFV (xAb N d).c_impl_parser_expr := by
  intro d hd
  obtain ⟨d, rfl⟩ : ∃ k, d = k + 4 := ⟨d - 4, by omega⟩
  exact expr_bad (q0 := (xAb N (d + 3)).c_impl_parser_atom) (q1 := (xAb N (d + 3)).c_impl_parser_expr) (q2 := (xAb N (d + 3)).c_impl_parser_list2) (q3 := (xAb N (d + 3)).c_impl_parser_product) (q4 := (xAb N (d + 3)).c_impl_parser_sum) hN (sum_bad (q0 := (xAb N (d + 2)).c_impl_parser_atom) (q1 := (xAb N (d + 2)).c_impl_parser_expr) (q2 := (xAb N (d + 2)).c_impl_parser_list2) (q3 := (xAb N (d + 2)).c_impl_parser_product) (q4 := (xAb N (d + 2)).c_impl_parser_sum) (by omega) (prod_bad (q0 := (xAb N (d + 1)).c_impl_parser_atom) (q1 := (xAb N (d + 1)).c_impl_parser_expr) (q2 := (xAb N (d + 1)).c_impl_parser_list2) (q3 := (xAb N (d + 1)).c_impl_parser_product) (q4 := (xAb N (d + 1)).c_impl_parser_sum) (by omega) fun p hp => atom_bad (q0 := (xAb N d).c_impl_parser_atom) (q1 := (xAb N d).c_impl_parser_expr) (q2 := (xAb N d).c_impl_parser_list2) (q3 := (xAb N d).c_impl_parser_product) (q4 := (xAb N d).c_impl_parser_sum) hp))
theorem pE_sim {K : Nat} {T : List Tok} {N : Nat} (hT : TokT K T) (hN : K < N) (hN2 : 1002 < N) (hK : K ≤ 1048576) : ∀ n d, 5 * n + 9 ≤ d → FPs T n (pE n) (xAb N d).c_impl_parser_expr := by
  intro n
  induction n with
  | zero => intro d _ ts _ h; omega
  | succ n ih =>
    intro d hd
    obtain ⟨d, rfl⟩ : ∃ k, d = k + 5 := ⟨d - 5, by omega⟩
    have f1 := ih d (by omega)
    have f2 := ih (d + 1) (by omega)
    have f4 := ih (d + 4) (by omega)
    have b1 := bad_all (N := N) (by omega) d (by omega)
    have b2 := bad_all (N := N) (by omega) (d + 1) (by omega)
    have b4 := bad_all (N := N) (by omega) (d + 4) (by omega)
    have hl : FPl T n (n + 1) (pE n) (xAb N (d + 1)).c_impl_parser_list2 := fun c ts h hn => list_sim (q0 := (xAb N d).c_impl_parser_atom) (q1 := (xAb N d).c_impl_parser_expr) (q2 := (xAb N d).c_impl_parser_list2) (q3 := (xAb N d).c_impl_parser_product) (q4 := (xAb N d).c_impl_parser_sum) hT hN2 (xEA n) f1 b1 c h hn (by omega)
    have hbl : BadOkL (xAb N (d + 1)).c_impl_parser_list2 := fun p s hp => list_bad (q0 := (xAb N d).c_impl_parser_atom) (q1 := (xAb N d).c_impl_parser_expr) (q2 := (xAb N d).c_impl_parser_list2) (q3 := (xAb N d).c_impl_parser_product) (q4 := (xAb N d).c_impl_parser_sum) (by omega) s hp
    have a : FPs T (n + 1) (pAtom (pE n) (n + 1)) (xAb N (d + 2)).c_impl_parser_atom := atom_sim (q0 := (xAb N (d + 1)).c_impl_parser_atom) (q1 := (xAb N (d + 1)).c_impl_parser_expr) (q2 := (xAb N (d + 1)).c_impl_parser_list2) (q3 := (xAb N (d + 1)).c_impl_parser_product) (q4 := (xAb N (d + 1)).c_impl_parser_sum) hT hN hK (xEA n) f2 b2 hl hbl
    have ba : xFV (xAb N (d + 2)).c_impl_parser_atom := fun p hp => atom_bad (q0 := (xAb N (d + 1)).c_impl_parser_atom) (q1 := (xAb N (d + 1)).c_impl_parser_expr) (q2 := (xAb N (d + 1)).c_impl_parser_list2) (q3 := (xAb N (d + 1)).c_impl_parser_product) (q4 := (xAb N (d + 1)).c_impl_parser_sum) hp
    have p : FPs T (n + 1) (pProd (pAtom (pE n) (n + 1)) (n + 1)) (xAb N (d + 3)).c_impl_parser_product := prod_sim (q0 := (xAb N (d + 2)).c_impl_parser_atom) (q1 := (xAb N (d + 2)).c_impl_parser_expr) (q2 := (xAb N (d + 2)).c_impl_parser_list2) (q3 := (xAb N (d + 2)).c_impl_parser_product) (q4 := (xAb N (d + 2)).c_impl_parser_sum) hT hN2 (xF4 (xEA n) _) a ba (Nat.le_refl _)
    have bp : xFV (xAb N (d + 3)).c_impl_parser_product := prod_bad (q0 := (xAb N (d + 2)).c_impl_parser_atom) (q1 := (xAb N (d + 2)).c_impl_parser_expr) (q2 := (xAb N (d + 2)).c_impl_parser_list2) (q3 := (xAb N (d + 2)).c_impl_parser_product) (q4 := (xAb N (d + 2)).c_impl_parser_sum) (by omega) ba
    have s : FPs T (n + 1) (pSumF (pE n) (n + 1)) (xAb N (d + 4)).c_impl_parser_sum := sum_sim (q0 := (xAb N (d + 3)).c_impl_parser_atom) (q1 := (xAb N (d + 3)).c_impl_parser_expr) (q2 := (xAb N (d + 3)).c_impl_parser_list2) (q3 := (xAb N (d + 3)).c_impl_parser_product) (q4 := (xAb N (d + 3)).c_impl_parser_sum) hT hN2 (xHs (xF4 (xEA n) _) _) p bp (Nat.le_refl _)
    have bs : xFV (xAb N (d + 4)).c_impl_parser_sum := sum_bad (q0 := (xAb N (d + 3)).c_impl_parser_atom) (q1 := (xAb N (d + 3)).c_impl_parser_expr) (q2 := (xAb N (d + 3)).c_impl_parser_list2) (q3 := (xAb N (d + 3)).c_impl_parser_product) (q4 := (xAb N (d + 3)).c_impl_parser_sum) (by omega) bp
    exact exprB_sim (q0 := (xAb N (d + 4)).c_impl_parser_atom) (q1 := (xAb N (d + 4)).c_impl_parser_expr) (q2 := (xAb N (d + 4)).c_impl_parser_list2) (q3 := (xAb N (d + 4)).c_impl_parser_product) (q4 := (xAb N (d + 4)).c_impl_parser_sum) hT hN hN2 hK (xEA n) (xHt (xEA n) _) f4 b4 s bs
end Go.Ab
end
section
namespace Go.Ab
set_option linter.unusedVariables false
set_option linter.unusedSimpArgs false
def gr (T : List Tok) (L : Int) (ts : List Tok) : Rdr := ⟨T, ((T.length - ts.length : Nat) : Int), L, -1⟩
def offT (L : Int) : List Tok → Int
  | [] => L
  | t :: _ => t.pos
def BadR (T : List Tok) (L : Int) (ts : List Tok) (r : Rdr) : Prop := r.toks = T ∧ r.fin = L ∧ r.bad = offT L ts ∧ ts <:+ T
structure TokW (T : List Tok) (L : Int) : Prop where
  pos : ∀ t ∈ T, 0 ≤ t.pos
  fin : 0 ≤ L
  name : ∀ t ∈ T, t.kind = 1 → ∃ (c : UInt8) (l : Str), t.text = c :: l ∧ 97 ≤ c.toNat
  sym : ∀ t ∈ T, t.kind = 4 → ∃ (c : UInt8) (l : Str), t.text = c :: l ∧ c.toNat < 97
theorem BadR.nn {T ts : List Tok} {L : Int} {r : Rdr} (hW : TokW T L) (h : BadR T L ts r) : 0 ≤ r.bad := by
  rw [h.2.2.1]
  cases ts with
  | nil => exact hW.fin
  | cons t q => exact hW.pos t (h.2.2.2.subset List.mem_cons_self)
def SimR {α : Type} (T : List Tok) (L : Int) (R : PR α) (x : Option (α × Rdr)) : Prop := match R with
  | .ok a ts => ts <:+ T ∧ x = some (a, gr T L ts)
  | .err ts => ∃ a p, x = some (a, p) ∧ BadR T L ts p
theorem SimR.bind {α β : Type} {T : List Tok} {L : Int} (hW : TokW T L) {R : PR α} {x : Option (α × Rdr)} {k : α → List Tok → PR β} {g : α × Rdr → Option (β × Rdr)} (h : SimR T L R x)
    (hk : ∀ a ts, R = .ok a ts → ts <:+ T → SimR T L (k a ts) (g (a, gr T L ts))) (hb : ∀ a p, 0 ≤ p.bad → ∃ b, g (a, p) = some (b, p)) : SimR T L (R.bind k) (Option.bind x g) := by
  cases R with
  | ok a ts =>
    obtain ⟨h1, h2⟩ := h
    rw [h2]
    exact hk a ts rfl h1
  | err ts =>
    obtain ⟨a, p, h1, h2⟩ := h
    obtain ⟨b, h3⟩ := hb a p (h2.nn hW)
    rw [h1]
    exact ⟨b, p, h3, h2⟩
theorem sS_eq (N : Nat) (t : Tok) (s : Str) : xDc N t s = some (isS t s) := by unfold xDc isS; cases t.kind == 4 <;> rfl
theorem sK_eq (N : Nat) (t : Tok) (s : Str) : xE3 N t s = some (isK t s) := by unfold xE3 isK; cases t.kind == 1 <;> rfl
theorem gr_at {T ts : List Tok} {L : Int} {t : Tok} {q : List Tok} (h : t :: q <:+ T) : (decide ((gr T L (t :: q)).i < (List.length (gr T L (t :: q)).toks : Int)) = true ∧ decide ((gr T L (t :: q)).i ≥ (List.length (gr T L (t :: q)).toks : Int)) = false) ∧
    ((0 : Int) ≤ (gr T L (t :: q)).i ∧ (gr T L (t :: q)).i < (List.length (gr T L (t :: q)).toks)) ∧ List.getD (gr T L (t :: q)).toks (Int.toNat (gr T L (t :: q)).i) Ty.tok.dflt = t := by
  obtain ⟨pre, rfl⟩ := h
  have e : (pre ++ t :: q).length - (t :: q).length = pre.length := by rw [List.length_append]; omega
  have e2 : (pre ++ t :: q).length = pre.length + (q.length + 1) := by simp
  simp only [gr, e]
  refine ⟨⟨decide_eq_true (by omega), decide_eq_false (by omega)⟩, by omega, ?_⟩
  simp [List.getD]
theorem gr_end (T : List Tok) (L : Int) : decide ((gr T L []).i < (List.length (gr T L []).toks : Int)) = false ∧ decide ((gr T L []).i ≥ (List.length (gr T L []).toks : Int)) = true := by
  simp only [gr, List.length_nil, Nat.sub_zero]
  exact ⟨decide_eq_false (by omega), decide_eq_true (by omega)⟩
theorem gr_bad (T ts : List Tok) (L : Int) : (gr T L ts).bad = -1 := rfl
theorem sees_eq {T ts : List Tok} {L : Int} (N : Nat) (s : Str) (h : ts <:+ T) : xBD N (gr T L ts) s = some (seeS s ts || seeK s ts, gr T L ts) := by
  unfold xBD
  rw [gr_bad, decm1, cond_true]
  cases ts with
  | nil => rw [(gr_end T L).1, cond_false]; rfl
  | cons t q =>
    obtain ⟨⟨a1, _⟩, a2, a3⟩ := gr_at (ts := t :: q) (L := L) h
    rw [a1, cond_true, if_pos a2, a3, sS_eq, Option.bind_some, sK_eq]
    show _ = some (isS t s || isK t s, _)
    cases isS t s <;> rfl
def SymS (s : Str) : Prop := ∃ (c : UInt8) (l : Str), s = c :: l ∧ c.toNat < 97
def KeyS (s : Str) : Prop := ∃ (c : UInt8) (l : Str), s = c :: l ∧ 97 ≤ c.toNat
theorem seeK_no {T ts : List Tok} {L : Int} (hW : TokW T L) (h : ts <:+ T) {s : Str} (hs : SymS s) : seeK s ts = false := by
  cases ts with
  | nil => rfl
  | cons t q =>
    show isK t s = false
    unfold isK
    cases hk : t.kind == 1
    · rfl
    · obtain ⟨c, l, h1, h2⟩ := hW.name t (h.subset List.mem_cons_self) (by simpa using hk)
      obtain ⟨c', l', rfl, h4⟩ := hs
      rw [cond_true, h1, beq_eq_false_iff_ne]
      intro e
      cases e
      omega
theorem seeS_no {T ts : List Tok} {L : Int} (hW : TokW T L) (h : ts <:+ T) {s : Str} (hs : KeyS s) : seeS s ts = false := by
  cases ts with
  | nil => rfl
  | cons t q =>
    show isS t s = false
    unfold isS
    cases hk : t.kind == 4
    · rfl
    · obtain ⟨c, l, h1, h2⟩ := hW.sym t (h.subset List.mem_cons_self) (by simpa using hk)
      obtain ⟨c', l', rfl, h4⟩ := hs
      rw [cond_true, h1, beq_eq_false_iff_ne]
      intro e
      cases e
      omega
theorem seesS {T ts : List Tok} {L : Int} (hW : TokW T L) (N : Nat) {s : Str} (hs : SymS s) (h : ts <:+ T) : xBD N (gr T L ts) s = some (seeS s ts, gr T L ts) := by
  rw [sees_eq N s h, seeK_no hW h hs, Bool.or_false]
theorem seesK {T ts : List Tok} {L : Int} (hW : TokW T L) (N : Nat) {s : Str} (hs : KeyS s) (h : ts <:+ T) : xBD N (gr T L ts) s = some (seeK s ts, gr T L ts) := by
  rw [sees_eq N s h, seeS_no hW h hs, Bool.false_or]
theorem xGt {T ts : List Tok} {L : Int} (hT : T.length ≤ 1000) (h : ts <:+ T) (hne : ts.tail.length + 1 = ts.length) : Rdr.mk (gr T L ts).toks (IntKind.i64.wrap ((gr T L ts).i + 1)) (gr T L ts).fin (gr T L ts).bad = gr T L ts.tail := by
  have hl := h.length_le
  unfold gr
  have : IntKind.i64.wrap (((T.length - ts.length : Nat) : Int) + 1) = ((T.length - ts.tail.length : Nat) : Int) := by rw [xCk (by omega) (by omega)]; omega
  simp only [this]
theorem sfail_eq {T ts : List Tok} {L : Int} (N : Nat) (h : ts <:+ T) : ∃ p, xBT N (gr T L ts) = some (e0, p) ∧ BadR T L ts p := by
  unfold xBT
  rw [gr_bad, decm1, cond_true]
  cases ts with
  | nil =>
    rw [(gr_end T L).1, cond_false]
    exact ⟨_, rfl, rfl, rfl, rfl, h⟩
  | cons t q =>
    obtain ⟨⟨a1, _⟩, a2, a3⟩ := gr_at (ts := t :: q) (L := L) h
    rw [a1, cond_true, if_pos a2, a3]
    exact ⟨_, rfl, rfl, rfl, rfl, h⟩
theorem xFa {p : Rdr} (N : Nat) (s : Str) (h : 0 ≤ p.bad) : xBD N p s = some (false, p) := by
  unfold xBD; rw [decide_eq_false (by omega), cond_false]
theorem sfail_bad {p : Rdr} (N : Nat) (h : 0 ≤ p.bad) : xBT N p = some (e0, p) := by
  unfold xBT; rw [decide_eq_false (by omega), cond_false]
theorem xFS {p : Rdr} (N : Nat) (s : Str) (h : 0 ≤ p.bad) : xBx N p s = some p := by
  unfold xBx; simp only [xFa N s h, Option.bind_some, sfail_bad N h]; rfl
theorem SimR.need {β : Type} {T ts : List Tok} {L : Int} (hW : TokW T L) {s : Str} {N : Nat} {k : Unit → List Tok → PR β} {g : Rdr → Option (β × Rdr)} (hT : T.length ≤ 1000) (h : ts <:+ T)
    (hk : ∀ r, xFj s ts = .ok () r → r <:+ T → SimR T L (k () r) (g (gr T L r))) (hb : ∀ p, 0 ≤ p.bad → ∃ b, g p = some (b, p)) : SimR T L ((xFj s ts).bind k) (Option.bind (xBx N (gr T L ts) s) g) := by
  unfold xBx
  rw [sees_eq N s h, Option.bind_some]
  have bad : ∀ R : PR β, R = .err ts → SimR T L R (Option.bind (Option.bind (xBT N (gr T L ts)) fun r2 => some r2.2) g) := by
    intro R hR
    subst hR
    obtain ⟨p, hp1, hp2⟩ := sfail_eq (L := L) N h
    obtain ⟨b, hb⟩ := hb p (hp2.nn hW)
    refine ⟨b, p, ?_, hp2⟩
    rw [hp1, Option.bind_some, Option.bind_some, hb]
  cases ts with
  | nil => exact bad _ rfl
  | cons t r =>
    show SimR T L _ (Option.bind (bif (!(isS t s || isK t s)) then _ else _) g)
    cases h1 : isS t s || isK t s
    · exact bad _ (by simp only [xFj, Bool.or_comm (isK t s), h1, cond_false, PR.bind])
    · have e : xFj s (t :: r) = .ok () r := by simp only [xFj, Bool.or_comm (isK t s), h1, cond_true]
      rw [e]
      simp only [Bool.not_true, cond_false, Option.bind_some]
      have ha : Rdr.mk (gr T L (t :: r)).toks (IntKind.i64.wrap ((gr T L (t :: r)).i + 1)) (gr T L (t :: r)).fin (gr T L (t :: r)).bad = gr T L r := xGt hT h rfl
      rw [ha]
      exact hk r e (xCu h)
theorem sname_sim {K : Nat} {T ts : List Tok} {L : Int} {N : Nat} (hT : TokT K T) (hN : K < N) (h24 : 24 < N) (hK : K ≤ 1048576) (h : ts <:+ T) : SimR T L (pName ts) (xDn N (gr T L ts)) := by
  have bad : xDn N (gr T L ts) = Option.bind (xBT N (gr T L ts)) (fun r2 => some ([], r2.2)) → SimR T L (.err ts : PR Str) (xDn N (gr T L ts)) := fun he => by
    obtain ⟨p, h1, h2⟩ := sfail_eq (L := L) N h
    rw [he, h1]
    exact ⟨[], p, rfl, h2⟩
  have c0 : decide ((-1 : Int) ≥ 0) = false := rfl
  cases ts with
  | nil =>
    refine bad ?_
    unfold xDn
    rw [gr_bad, c0, cond_false, (gr_end T L).2, cond_true]
  | cons t r =>
    have hft := hT.fit t (h.subset List.mem_cons_self)
    have hlen : t.text.length ≤ K := hft.2.2.2
    have hv := xFe (N := N) (s := t.text) (by omega) (by omega) h24
    obtain ⟨⟨_, a1⟩, a2, a3⟩ := gr_at (ts := t :: r) (L := L) h
    simp only [pName]
    cases h1 : t.kind == 1
    · refine bad ?_
      unfold xDn
      rw [gr_bad, c0, cond_false, a1, cond_false, if_pos a2, a3]
      simp only [bne, h1, Bool.not_false, cond_true]
    · cases h2 : xDr t.text
      · refine bad ?_
        unfold xDn
        rw [gr_bad, c0, cond_false, a1, cond_false, if_pos a2, a3]
        simp only [bne, h1, hv, h2, Option.bind_some, Bool.not_true, Bool.not_false, cond_true, cond_false]
      · refine ⟨xCu h, ?_⟩
        have hl := h.length_le
        have hT1 := hT.len
        have e1 : IntKind.i64.wrap ((IntKind.i64.wrap ((gr T L (t :: r)).i + 1)) - 1) = (gr T L (t :: r)).i := by
          show IntKind.i64.wrap ((IntKind.i64.wrap (((T.length - (t :: r).length : Nat) : Int) + 1)) - 1) = ((T.length - (t :: r).length : Nat) : Int)
          rw [xCk (x := ((T.length - (t :: r).length : Nat) : Int) + 1) (by omega) (by omega), xCk (by omega) (by omega)]; omega
        have ha : Rdr.mk (gr T L (t :: r)).toks (IntKind.i64.wrap ((gr T L (t :: r)).i + 1)) (gr T L (t :: r)).fin (gr T L (t :: r)).bad = gr T L r := xGt hT.len h rfl
        unfold xDn
        rw [e1, ha, gr_bad, c0, cond_false, a1, cond_false, if_pos a2, a3]
        simp only [bne, h1, hv, h2, Option.bind_some, Bool.not_true, cond_true, cond_false, if_pos a2]
def xE0 (q : Rdr → Option (Exp × Rdr)) : Prop := ∀ p, 0 ≤ p.bad → q p = some (e0, p)
def BadOkRL (q : Rdr → Str → Option (List Exp × Rdr)) : Prop := ∀ p s, 0 ≤ p.bad → q p s = some ([], p)
def FRs (T : List Tok) (L : Int) (n : Nat) (f : List Tok → PR Exp) (q : Rdr → Option (Exp × Rdr)) : Prop := ∀ ts, ts <:+ T → ts.length < n → SimR T L (f ts) (q (gr T L ts))
theorem sOp (N : Nat) (k : Int) (a b : Exp) : xDX N k a b = some (.mk 6 k [] [a, b]) := by unfold xDX; simp only [Exp.re_eq]
theorem seeS_ne {s s' : Str} {ts : List Tok} (h : seeS s ts = true) (hne : s ≠ s') : seeS s' ts = false := by
  cases ts with
  | nil => cases h
  | cons t q =>
    have h : isS t s = true := h
    show isS t s' = false
    unfold isS at h ⊢
    cases hk : t.kind == 4
    · rfl
    · rw [hk, cond_true] at h
      rw [cond_true, beq_eq_false_iff_ne]
      intro e
      exact hne ((beq_iff_eq.1 h).symm.trans e)
section
variable {K : Nat} {T : List Tok} {L : Int} {N : Nat} {q0 : Rdr → Str → Option (List Exp × Rdr)} {q1 q2 q3 q4 q5 : Rdr → Option (Exp × Rdr)}
theorem argsL_sim (hW : TokW T L) (hT : TokT K T) {n : Nat} {f : List Tok → PR Exp} (hf : xCv K f) (hq : FRs T L n f q3) (c : Str) (hc : SymS c) (hc2 : c ≠ [44]) : ∀ (m fuel : Nat) (acc : List Exp) (ts : List Tok), ts <:+ T → ts.length < n → ts.length < m → ts.length < fuel → acc.length + ts.length ≤ 2000 →
    SimR T L (pListL f c m acc ts) (xEu N q0 q1 q2 q3 q4 q5 fuel c acc (gr T L ts)) := by
  have hco : SymS [44] := ⟨44, [], rfl, by decide⟩
  intro m
  induction m with
  | zero => intro fuel acc ts _ _ h; omega
  | succ m ih =>
    intro fuel acc ts h hn hm hfu ha
    obtain ⟨fuel, rfl⟩ : ∃ k, fuel = k + 1 := ⟨fuel - 1, by omega⟩
    simp only [pListL, xEu, gr_bad, decm1, cond_true]
    refine SimR.bind hW (hq ts h hn) (fun e r he hr => ?_) (fun e p hp => ?_)
    · have hl := eat hT hf h he
      simp only [Exp.re_eq]
      rw [if_pos (by simp only [List.length_cons, List.length_nil]; unfold Lim; omega)]
      rw [seesS hW N hco hr, Option.bind_some]
      cases hs : seeS [44] r
      · simp only [Bool.not_false, cond_true]
        have hk := seeK_no hW hr hco
        have e1 : xFj [44] r = .err r := by
          cases r with
          | nil => rfl
          | cons t q =>
            have hk : isK t [44] = false := hk
            have hs : isS t [44] = false := hs
            simp only [xFj, hk, hs, Bool.or_false, cond_false]
        have hkc := seeK_no hW hr hc
        have e2 : (bif seeS c r then PR.ok (acc ++ [e]) r.tail else (xFj [44] r).bind fun _ q => pListL f c m (acc ++ [e]) q) = (xFj c r).bind fun _ q => .ok (acc ++ [e]) q := by
          rw [e1]
          cases r with
          | nil => rfl
          | cons t q =>
            have hkc : isK t c = false := hkc
            show (bif isS t c then _ else _) = _
            simp only [xFj, hkc, Bool.false_or]
            cases isS t c <;> rfl
        rw [e2]
        exact SimR.need hW hT.len hr (fun q _ hq => ⟨hq, rfl⟩) (fun p hp => ⟨_, rfl⟩)
      · have hs' := seeS_ne hs (Ne.symm hc2)
        obtain ⟨t, q, rfl⟩ : ∃ t q, r = t :: q := by
          obtain ⟨t, h1, _⟩ := seeS_cons hs
          exact ⟨t, _, h1⟩
        have hs2 : isS t [44] = true := hs
        have e1 : xFj [44] (t :: q) = .ok () q := by simp only [xFj, hs2, Bool.or_true, cond_true]
        have ha : Rdr.mk (gr T L (t :: q)).toks (IntKind.i64.wrap ((gr T L (t :: q)).i + 1)) (gr T L (t :: q)).fin (gr T L (t :: q)).bad = gr T L q := xGt hT.len hr rfl
        rw [hs', e1]
        simp only [Bool.not_true, cond_false, ha, PR.bind]
        exact ih fuel (acc ++ [e]) q (xCu hr) (by simp only [List.length_cons] at hl; omega) (by simp only [List.length_cons] at hl; omega) (by simp only [List.length_cons] at hl; omega) (by simp only [List.length_append, List.length_cons, List.length_nil] at hl ⊢; omega)
    · simp only [Exp.re_eq]
      rw [if_pos (by simp only [List.length_cons, List.length_nil]; unfold Lim; omega), xFa N _ hp, Option.bind_some]
      simp only [Bool.not_false, cond_true, xFS N _ hp, Option.bind_some]
      exact ⟨_, rfl⟩
theorem args_bad (hN : 0 < N) (s : Str) {p : Rdr} (h : 0 ≤ p.bad) : xDu N q0 q1 q2 q3 q4 q5 p s = some ([], p) := by
  obtain ⟨M, rfl⟩ : ∃ k, N = k + 1 := ⟨N - 1, by omega⟩
  unfold xDu
  rw [xFa _ s h, Option.bind_some]
  simp only [cond_false, xEu]
  rw [decide_eq_false (by omega), cond_false, xFS _ s h]; rfl
theorem args_sim (hW : TokW T L) (hT : TokT K T) (hN : 1002 < N) {n m : Nat} {f : List Tok → PR Exp} (hf : xCv K f) (hq : FRs T L n f q3) (c : Str) (hc : SymS c) (hc2 : c ≠ [44]) {ts : List Tok} (h : ts <:+ T) (hn : ts.length < n) (hm : ts.length < m) :
    SimR T L (pList f m c ts) (xDu N q0 q1 q2 q3 q4 q5 (gr T L ts) c) := by
  have hl := h.length_le
  have := hT.len
  unfold pList xDu
  rw [seesS hW N hc h, Option.bind_some]
  cases hs : seeS c ts
  · simp only [cond_false]
    exact argsL_sim hW hT hf hq c hc hc2 m N [] ts h hn hm (by omega) (by simp; omega)
  · simp only [cond_true, xGt hT.len h (xE9 hs)]
    exact ⟨xCu h, rfl⟩
def FRl (T : List Tok) (L : Int) (n m : Nat) (f : List Tok → PR Exp) (q : Rdr → Str → Option (List Exp × Rdr)) : Prop := ∀ c ts, SymS c → c ≠ [44] → ts <:+ T → ts.length < n → SimR T L (pList f m c ts) (q (gr T L ts) c)
theorem satom_bad {p : Rdr} (h : 0 ≤ p.bad) : xDv N q0 q1 q2 q3 q4 q5 p = some (e0, p) := by
  unfold xDv
  rw [decide_eq_true (by omega : p.bad ≥ 0), cond_true, sfail_bad N h]; rfl
theorem satom2_sim (hW : TokW T L) (hT : TokT K T) {n m : Nat} {f : List Tok → PR Exp} (hf : xCv K f) (hq : FRs T L n f q3) (hb : xE0 q3) (hl : FRl T L n m f q0) (hbl : BadOkRL q0) {t : Tok} {r : List Tok} (h : t :: r <:+ T) (hn : r.length < n) :
    SimR T L (pAtom2 f m t r) (Option.bind (xDc N t [91]) fun r1 =>
            bif r1 then (
              Option.bind (q0 (gr T L r) [93]) fun r2 =>
              some ((Exp.mk 4 0 [] r2.1), r2.2)
            ) else (
              Option.bind (xDc N t [40]) fun r2 =>
              bif r2 then (
                Option.bind (q3 (gr T L r)) fun r3 =>
                Option.bind (xBx N r3.2 [41]) fun r4 =>
                some (r3.1, r4)
              ) else (
                Option.bind (xBT N (gr T L (t :: r))) fun r3 =>
                some (r3.1, r3.2)
              )
            )) := by
  have hr : r <:+ T := xCu h
  unfold pAtom2
  rw [sS_eq, Option.bind_some]
  cases h1 : isS t [91]
  · simp only [cond_false, sS_eq, Option.bind_some]
    cases h2 : isS t [40]
    · simp only [cond_false]
      obtain ⟨p, hp1, hp2⟩ := sfail_eq (L := L) N h
      rw [hp1]
      exact ⟨_, p, rfl, hp2⟩
    · simp only [cond_true]
      refine SimR.bind hW (hq r hr hn) (fun e u he hu => ?_) (fun e p hp => ⟨e, by simp only [xFS N _ hp, Option.bind_some]⟩)
      exact SimR.need hW hT.len hu (fun v _ hv => ⟨hv, rfl⟩) (fun p hp => ⟨e, rfl⟩)
  · simp only [cond_true]
    exact SimR.bind hW (hl [93] r ⟨93, [], rfl, by decide⟩ (by decide) hr hn) (fun a u _ hu => ⟨hu, rfl⟩) (fun a p hp => ⟨_, rfl⟩)
theorem satom_sim (hW : TokW T L) (hT : TokT K T) (hN : K < N) (h24 : 24 < N) (hK : K ≤ 1048576) {n m : Nat} {f : List Tok → PR Exp} (hf : xCv K f) (hq : FRs T L n f q3) (hb : xE0 q3) (hl : FRl T L n m f q0) (hbl : BadOkRL q0) :
    FRs T L (n + 1) (pAtom f m) (xDv N q0 q1 q2 q3 q4 q5) := by
  intro ts h hn
  have c0 : decide ((-1 : Int) ≥ 0) = false := rfl
  unfold xDv
  rw [gr_bad, c0, cond_false]
  cases ts with
  | nil =>
    rw [(gr_end T L).2, cond_true]
    obtain ⟨p, hp1, hp2⟩ := sfail_eq (L := L) N h
    exact ⟨_, p, by rw [hp1]; rfl, hp2⟩
  | cons t r =>
    have hr : r <:+ T := xCu h
    have hn' : r.length < n := by simp only [List.length_cons] at hn; omega
    have hft := hT.fit t (h.subset List.mem_cons_self)
    have hlen : t.text.length ≤ K := hft.2.2.2
    have hv := xFe (N := N) (s := t.text) (by omega) (by omega) h24
    obtain ⟨⟨_, a1⟩, a2, a3⟩ := gr_at (ts := t :: r) (L := L) h
    have ha : Rdr.mk (gr T L (t :: r)).toks (IntKind.i64.wrap ((gr T L (t :: r)).i + 1)) (gr T L (t :: r)).fin (gr T L (t :: r)).bad = gr T L r := xGt hT.len h rfl
    have ha' : Rdr.mk (gr T L (t :: r)).toks (IntKind.i64.wrap ((gr T L (t :: r)).i + 1)) (gr T L (t :: r)).fin (-1) = gr T L r := ha
    rw [a1, cond_false, if_pos a2, a3]
    simp only [pAtom, ha']
    cases h1 : t.kind == 2
    · cases h2 : t.kind == 3
      · cases h3 : t.kind == 1
        · exact satom2_sim hW hT hf hq hb hl hbl h hn'
        · simp only [cond_true, cond_false, hv, Option.bind_some]
          cases h4 : xDr t.text
          · simp only [cond_false, xEM, Option.bind_some]
            cases h5 : decide (argc t.text ≥ 0)
            · exact satom2_sim hW hT hf hq hb hl hbl h hn'
            · simp only [cond_true]
              refine SimR.need hW hT.len hr (fun u hu hus => ?_) (fun p hp => ⟨_, by rw [hbl p _ hp, Option.bind_some]⟩)
              have := xEL hu
              exact SimR.bind hW (hl [41] u ⟨41, [], rfl, by decide⟩ (by decide) hus (by omega)) (fun a v _ hv => ⟨hv, rfl⟩) (fun a p hp => ⟨_, rfl⟩)
          · exact ⟨hr, rfl⟩
      · exact ⟨hr, rfl⟩
    · exact ⟨hr, rfl⟩
theorem sprodL_sim (hW : TokW T L) (hT : TokT K T) {n : Nat} {g : List Tok → PR Exp} (hg : xCv K g) (hq : FRs T L n g q1) (hb : xE0 q1) (b2 : Exp) : ∀ (m fuel : Nat) (a : Exp) (ts : List Tok), ts <:+ T → ts.length ≤ n → ts.length < m → ts.length < fuel →
    SimR T L (pProdL g m a ts) (xCX N q0 q1 q2 q3 q4 q5 fuel (gr T L ts) b2 a) := by
  have hs0 : SymS [42] := ⟨42, [], rfl, by decide⟩
  intro m
  induction m with
  | zero => intro fuel a ts _ _ h; omega
  | succ m ih =>
    intro fuel a ts h hn hm hfu
    obtain ⟨fuel, rfl⟩ : ∃ k, fuel = k + 1 := ⟨fuel - 1, by omega⟩
    simp only [pProdL, xCX]
    rw [seesS hW N hs0 h, Option.bind_some]
    cases hs : seeS [42] ts
    · exact ⟨h, rfl⟩
    · have hl := xE9 hs
      simp only [cond_true, sOp, Option.bind_some, xGt hT.len h hl]
      obtain ⟨fuel, rfl⟩ : ∃ k, fuel = k + 1 := ⟨fuel - 1, by omega⟩
      refine SimR.bind hW (hq ts.tail (xCu h) (by omega)) (fun b r hbr hr => ?_) (fun b p hp => ⟨.mk 6 3 [] [a, b], by simp only [xCX, xFa N _ hp, Option.bind_some, cond_false]⟩)
      have := eat hT hg (xCu h) hbr
      exact ih (fuel + 1) _ r hr (by omega) (by omega) (by omega)
theorem sprod_sim (hW : TokW T L) (hT : TokT K T) (hN : 1002 < N) {n m : Nat} {g : List Tok → PR Exp} (hg : xCv K g) (hq : FRs T L n g q1) (hb : xE0 q1) (hnm : n ≤ m) : FRs T L n (pProd g m) (xCU N q0 q1 q2 q3 q4 q5) := by
  intro ts h hn
  have hl := h.length_le
  have := hT.len
  unfold pProd xCU
  obtain ⟨M, rfl⟩ : ∃ k, N = k + 1 := ⟨N - 1, by omega⟩
  refine SimR.bind hW (hq ts h hn) (fun b r hbr hr => ?_) (fun b p hp => ⟨b, by simp only [xCX, xFa _ _ hp, Option.bind_some, cond_false]⟩)
  have := eat hT hg h hbr
  exact sprodL_sim hW hT hg hq hb e0 m (M + 1) b r hr (by omega) (by omega) (by omega)
theorem sprod_bad (hN : 0 < N) (hb : xE0 q1) : xE0 (xCU N q0 q1 q2 q3 q4 q5) := by
  intro p hp
  obtain ⟨M, rfl⟩ : ∃ k, N = k + 1 := ⟨N - 1, by omega⟩
  unfold xCU
  simp only [hb p hp, Option.bind_some, xCX, xFa _ _ hp, cond_false]
theorem ssumL_sim (hW : TokW T L) (hT : TokT K T) {n : Nat} {g : List Tok → PR Exp} (hg : xCv K g) (hq : FRs T L n g q4) (hb : xE0 q4) (b2 : Exp) : ∀ (m fuel : Nat) (a : Exp) (ts : List Tok), ts <:+ T → ts.length ≤ n → ts.length < m → ts.length < fuel →
    SimR T L (pSumL g m a ts) (xCL N q0 q1 q2 q3 q4 q5 fuel (gr T L ts) b2 a) := by
  have hp0 : SymS [43] := ⟨43, [], rfl, by decide⟩
  have hm0 : SymS [45] := ⟨45, [], rfl, by decide⟩
  intro m
  induction m with
  | zero => intro fuel a ts _ _ h; omega
  | succ m ih =>
    intro fuel a ts h hn hm hfu
    obtain ⟨fuel, rfl⟩ : ∃ k, fuel = k + 1 := ⟨fuel - 1, by omega⟩
    have step : ∀ s k, seeS s ts = true → SimR T L ((g ts.tail).bind fun b r => pSumL g m (.mk 6 k [] [a, b]) r) (Option.bind (q4 (gr T L ts.tail)) fun r3 => Option.bind (xDX N k a r3.1) fun r4 => xCL N q0 q1 q2 q3 q4 q5 fuel r3.2 b2 r4) := by
      intro s k hs
      have hl := xE9 hs
      simp only [sOp, Option.bind_some]
      obtain ⟨fuel, rfl⟩ : ∃ k, fuel = k + 1 := ⟨fuel - 1, by omega⟩
      refine SimR.bind hW (hq ts.tail (xCu h) (by omega)) (fun b r hbr hr => ?_) (fun b p hp => ⟨.mk 6 k [] [a, b], by simp only [xCL, xFa N _ hp, Option.bind_some, cond_false]⟩)
      have := eat hT hg (xCu h) hbr
      exact ih (fuel + 1) _ r hr (by omega) (by omega) (by omega)
    simp only [pSumL, xCL]
    rw [seesS hW N hp0 h, Option.bind_some]
    cases hs : seeS [43] ts
    · simp only [cond_false, seesS hW N hm0 h, Option.bind_some]
      cases hs2 : seeS [45] ts
      · exact ⟨h, rfl⟩
      · simp only [cond_true, xGt hT.len h (xE9 hs2)]
        exact step _ 2 hs2
    · simp only [cond_true, seesS hW N hm0 h, Option.bind_some, seeS_ne hs (by decide : ([43] : Str) ≠ [45]), cond_false, xGt hT.len h (xE9 hs)]
      exact step _ 1 hs
theorem ssum_sim (hW : TokW T L) (hT : TokT K T) (hN : 1002 < N) {n m : Nat} {g : List Tok → PR Exp} (hg : xCv K g) (hq : FRs T L n g q4) (hb : xE0 q4) (hnm : n ≤ m) : FRs T L n (pSum g m) (xDO N q0 q1 q2 q3 q4 q5) := by
  intro ts h hn
  have hl := h.length_le
  have := hT.len
  unfold pSum xDO
  obtain ⟨M, rfl⟩ : ∃ k, N = k + 1 := ⟨N - 1, by omega⟩
  refine SimR.bind hW (hq ts h hn) (fun b r hbr hr => ?_) (fun b p hp => ⟨b, by simp only [xCL, xFa _ _ hp, Option.bind_some, cond_false]⟩)
  have := eat hT hg h hbr
  exact ssumL_sim hW hT hg hq hb e0 m (M + 1) b r hr (by omega) (by omega) (by omega)
theorem ssum_bad (hN : 0 < N) (hb : xE0 q4) : xE0 (xDO N q0 q1 q2 q3 q4 q5) := by
  intro p hp
  obtain ⟨M, rfl⟩ : ∃ k, N = k + 1 := ⟨N - 1, by omega⟩
  unfold xDO
  simp only [hb p hp, Option.bind_some, xCL, xFa _ _ hp, cond_false]
theorem scmp_bad (hb : xE0 q5) : xE0 (xCT N q0 q1 q2 q3 q4 q5) := by
  intro p hp
  unfold xCT
  simp only [hb p hp, Option.bind_some, xFa _ _ hp, cond_false]
theorem scmp_sim (hW : TokW T L) (hT : TokT K T) {n : Nat} {g : List Tok → PR Exp} (hg : xCv K g) (hq : FRs T L n g q5) (hb : xE0 q5) : FRs T L n (pCmp g) (xCT N q0 q1 q2 q3 q4 q5) := by
  intro ts h hn
  have s1 : SymS [60] := ⟨60, [], rfl, by decide⟩
  have s2 : SymS [61, 61] := ⟨61, [61], rfl, by decide⟩
  unfold pCmp xCT
  refine SimR.bind hW (hq ts h hn) (fun a r ha hr => ?_) (fun a p hp => ⟨a, by simp only [Option.bind_some, xFa _ _ hp, cond_false]⟩)
  have hl := eat hT hg h ha
  have step : ∀ s k, seeS s r = true → SimR T L ((g r.tail).bind fun b q => PR.ok (.mk 6 k [] [a, b]) q) (Option.bind (q5 (gr T L r.tail)) fun r3 => Option.bind (xDX N k a r3.1) fun r4 => some (r4, r3.2)) := by
    intro s k hs
    have hl := xE9 hs
    simp only [sOp, Option.bind_some]
    exact SimR.bind hW (hq r.tail (xCu hr) (by omega)) (fun b r hbr hr => ⟨hr, rfl⟩) (fun b p hp => ⟨_, rfl⟩)
  unfold pCmpT
  simp only [seesS hW N s1 hr, seesS hW N s2 hr, Option.bind_some]
  cases hs : seeS [60] r
  · simp only [cond_false]
    cases hs2 : seeS [61, 61] r
    · exact ⟨hr, rfl⟩
    · simp only [cond_true, xGt hT.len hr (xE9 hs2)]
      exact step _ 5 hs2
  · simp only [cond_true, xGt hT.len hr (xE9 hs)]
    exact step _ 4 hs
theorem sexpr_bad (hb : xE0 q2) : xE0 (xDw N q0 q1 q2 q3 q4 q5) := by
  intro p hp
  unfold xDw
  simp only [hb p hp, Option.bind_some, xFa _ _ hp, cond_false]
theorem stwo_sim (hW : TokW T L) (hT : TokT K T) (hN : K < N) (h24 : 24 < N) (hK : K ≤ 1048576) {n : Nat} {f : List Tok → PR Exp} (hf : xCv K f) (hq : FRs T L n f q3) (hb : xE0 q3) (k : Int) (s1 s2 : Str) {ts : List Tok} (h : ts <:+ T) (hn : ts.length < n) :
    SimR T L (pTwo f k s1 s2 ts) (Option.bind (xDn N (gr T L ts)) fun r2 =>
    Option.bind (xBx N r2.2 s1) fun r3 =>
    Option.bind (q3 r3) fun r4 =>
    Option.bind (xBx N r4.2 s2) fun r5 =>
    Option.bind (q3 r5) fun r6 =>
    some ((Exp.mk k 0 r2.1 [(Exp.re r4.1), (Exp.re r6.1)]), r6.2)) := by
  simp only [Exp.re_eq]
  refine SimR.bind hW (sname_sim hT hN h24 hK h) (fun x r1 hx hr1 => ?_) (fun x p hp => ⟨.mk k 0 x [e0, e0], by simp only [xFS N _ hp, hb p hp, Option.bind_some]⟩)
  have l1 := pName_len hx
  refine SimR.need hW hT.len hr1 (fun r2 h2 hr2 => ?_) (fun p hp => ⟨.mk k 0 x [e0, e0], by simp only [xFS N _ hp, hb p hp, Option.bind_some]⟩)
  have l2 := xEL h2
  refine SimR.bind hW (hq r2 hr2 (by omega)) (fun a r3 h3 hr3 => ?_) (fun a p hp => ⟨.mk k 0 x [a, e0], by simp only [xFS N _ hp, hb p hp, Option.bind_some]⟩)
  have l3 := eat hT hf hr2 h3
  refine SimR.need hW hT.len hr3 (fun r4 h4 hr4 => ?_) (fun p hp => ⟨.mk k 0 x [a, e0], by simp only [hb p hp, Option.bind_some]⟩)
  have l4 := xEL h4
  exact SimR.bind hW (hq r4 hr4 (by omega)) (fun b r5 h5 hr5 => ⟨hr5, rfl⟩) (fun b p hp => ⟨_, rfl⟩)
theorem sif_sim (hW : TokW T L) (hT : TokT K T) {n : Nat} {f : List Tok → PR Exp} (hf : xCv K f) (hq : FRs T L n f q3) (hb : xE0 q3) {ts : List Tok} (h : ts <:+ T) (hn : ts.length < n) :
    SimR T L (pIf f ts) (Option.bind (q3 (gr T L ts)) fun r3 =>
      Option.bind (xBx N r3.2 [116, 104, 101, 110]) fun r4 =>
      Option.bind (q3 r4) fun r5 =>
      Option.bind (xBx N r5.2 [101, 108, 115, 101]) fun r6 =>
      Option.bind (q3 r6) fun r7 =>
      some ((Exp.mk 8 0 [] [(Exp.re r3.1), (Exp.re r5.1), (Exp.re r7.1)]), r7.2)) := by
  simp only [Exp.re_eq]
  refine SimR.bind hW (hq ts h hn) (fun a r1 h1 hr1 => ?_) (fun a p hp => ⟨.mk 8 0 [] [a, e0, e0], by simp only [xFS N _ hp, hb p hp, Option.bind_some]⟩)
  have l1 := eat hT hf h h1
  refine SimR.need hW hT.len hr1 (fun r2 h2 hr2 => ?_) (fun p hp => ⟨.mk 8 0 [] [a, e0, e0], by simp only [xFS N _ hp, hb p hp, Option.bind_some]⟩)
  have l2 := xEL h2
  refine SimR.bind hW (hq r2 hr2 (by omega)) (fun b r3 h3 hr3 => ?_) (fun b p hp => ⟨.mk 8 0 [] [a, b, e0], by simp only [xFS N _ hp, hb p hp, Option.bind_some]⟩)
  have l3 := eat hT hf hr2 h3
  refine SimR.need hW hT.len hr3 (fun r4 h4 hr4 => ?_) (fun p hp => ⟨.mk 8 0 [] [a, b, e0], by simp only [hb p hp, Option.bind_some]⟩)
  have l4 := xEL h4
  exact SimR.bind hW (hq r4 hr4 (by omega)) (fun c r5 h5 hr5 => ⟨hr5, rfl⟩) (fun c p hp => ⟨_, rfl⟩)
theorem sexprB_sim (hW : TokW T L) (hT : TokT K T) (hN : K < N) (h24 : 24 < N) (hK : K ≤ 1048576) {n : Nat} {f g : List Tok → PR Exp} (hf : xCv K f) (hq : FRs T L n f q3) (hb : xE0 q3) (hq2 : FRs T L (n + 1) (pCmp g) q2) :
    FRs T L (n + 1) (pExprB f g) (xDw N q0 q1 q2 q3 q4 q5) := by
  intro ts h hn
  have k1 : KeyS [108, 101, 116] := ⟨108, [101, 116], rfl, by decide⟩
  have k2 : KeyS [105, 102] := ⟨105, [102], rfl, by decide⟩
  have k3 : KeyS [102, 111, 114] := ⟨102, [111, 114], rfl, by decide⟩
  unfold pExprB xDw
  simp only [seesK hW N k1 h, seesK hW N k2 h, seesK hW N k3 h, Option.bind_some]
  cases c1 : seeK [108, 101, 116] ts
  · simp only [cond_false]
    cases c2 : seeK [105, 102] ts
    · simp only [cond_false]
      cases c3 : seeK [102, 111, 114] ts
      · simp only [cond_false]
        have := hq2 ts h hn
        have e : (Option.bind (q2 (gr T L ts)) fun r4 => some (r4.1, r4.2)) = q2 (gr T L ts) := by cases q2 (gr T L ts) <;> rfl
        rw [e]
        exact this
      · simp only [cond_true, xGt hT.len h (xE8 c3)]
        have := xE8 c3
        exact stwo_sim hW hT hN h24 hK hf hq hb 9 _ _ (xCu h) (by omega)
    · simp only [cond_true, xGt hT.len h (xE8 c2)]
      have := xE8 c2
      exact sif_sim hW hT hf hq hb (xCu h) (by omega)
  · simp only [cond_true, xGt hT.len h (xE8 c1)]
    have := xE8 c1
    exact stwo_sim hW hT hN h24 hK hf hq hb 7 _ _ (xCu h) (by omega)
end
theorem sbad_all {N : Nat} (hN : 0 < N) : ∀ d, 5 ≤ d → xE0 (xAa N d).c_spec_l11Expr := by
  intro d hd
  obtain ⟨d, rfl⟩ : ∃ k, d = k + 5 := ⟨d - 5, by omega⟩
  exact sexpr_bad (q0 := (xAa N (d + 4)).c_spec_l11Args) (q1 := (xAa N (d + 4)).c_spec_l11Atom) (q2 := (xAa N (d + 4)).c_spec_l11Compare) (q3 := (xAa N (d + 4)).c_spec_l11Expr) (q4 := (xAa N (d + 4)).c_spec_l11Product) (q5 := (xAa N (d + 4)).c_spec_l11Sum) (scmp_bad (q0 := (xAa N (d + 3)).c_spec_l11Args) (q1 := (xAa N (d + 3)).c_spec_l11Atom) (q2 := (xAa N (d + 3)).c_spec_l11Compare) (q3 := (xAa N (d + 3)).c_spec_l11Expr) (q4 := (xAa N (d + 3)).c_spec_l11Product) (q5 := (xAa N (d + 3)).c_spec_l11Sum) (ssum_bad (q0 := (xAa N (d + 2)).c_spec_l11Args) (q1 := (xAa N (d + 2)).c_spec_l11Atom) (q2 := (xAa N (d + 2)).c_spec_l11Compare) (q3 := (xAa N (d + 2)).c_spec_l11Expr) (q4 := (xAa N (d + 2)).c_spec_l11Product) (q5 := (xAa N (d + 2)).c_spec_l11Sum) hN (sprod_bad (q0 := (xAa N (d + 1)).c_spec_l11Args) (q1 := (xAa N (d + 1)).c_spec_l11Atom) (q2 := (xAa N (d + 1)).c_spec_l11Compare) (q3 := (xAa N (d + 1)).c_spec_l11Expr) (q4 := (xAa N (d + 1)).c_spec_l11Product) (q5 := (xAa N (d + 1)).c_spec_l11Sum) hN fun p hp => satom_bad (q0 := (xAa N d).c_spec_l11Args) (q1 := (xAa N d).c_spec_l11Atom) (q2 := (xAa N d).c_spec_l11Compare) (q3 := (xAa N d).c_spec_l11Expr) (q4 := (xAa N d).c_spec_l11Product) (q5 := (xAa N d).c_spec_l11Sum) hp)))
theorem pE_simR {K : Nat} {T : List Tok} {L : Int} {N : Nat} (hW : TokW T L) (hT : TokT K T) (hN : K < N) (hN2 : 1002 < N) (hK : K ≤ 1048576) : ∀ n d, 6 * n + 11 ≤ d → FRs T L n (pE n) (xAa N d).c_spec_l11Expr := by
  intro n
  induction n with
  | zero => intro d _ ts _ h; omega
  | succ n ih =>
    intro d hd
    obtain ⟨d, rfl⟩ : ∃ k, d = k + 6 := ⟨d - 6, by omega⟩
    have f1 := ih d (by omega)
    have f2 := ih (d + 1) (by omega)
    have f5 := ih (d + 5) (by omega)
    have b2 := sbad_all (N := N) (by omega) (d + 1) (by omega)
    have b5 := sbad_all (N := N) (by omega) (d + 5) (by omega)
    have hl : FRl T L n (n + 1) (pE n) (xAa N (d + 1)).c_spec_l11Args := fun c ts hc hc2 h hn => args_sim (q0 := (xAa N d).c_spec_l11Args) (q1 := (xAa N d).c_spec_l11Atom) (q2 := (xAa N d).c_spec_l11Compare) (q3 := (xAa N d).c_spec_l11Expr) (q4 := (xAa N d).c_spec_l11Product) (q5 := (xAa N d).c_spec_l11Sum) hW hT hN2 (xEA n) f1 c hc hc2 h hn (by omega)
    have hbl : BadOkRL (xAa N (d + 1)).c_spec_l11Args := fun p s hp => args_bad (q0 := (xAa N d).c_spec_l11Args) (q1 := (xAa N d).c_spec_l11Atom) (q2 := (xAa N d).c_spec_l11Compare) (q3 := (xAa N d).c_spec_l11Expr) (q4 := (xAa N d).c_spec_l11Product) (q5 := (xAa N d).c_spec_l11Sum) (by omega) s hp
    have a : FRs T L (n + 1) (pAtom (pE n) (n + 1)) (xAa N (d + 2)).c_spec_l11Atom := satom_sim (q0 := (xAa N (d + 1)).c_spec_l11Args) (q1 := (xAa N (d + 1)).c_spec_l11Atom) (q2 := (xAa N (d + 1)).c_spec_l11Compare) (q3 := (xAa N (d + 1)).c_spec_l11Expr) (q4 := (xAa N (d + 1)).c_spec_l11Product) (q5 := (xAa N (d + 1)).c_spec_l11Sum) hW hT hN (by omega) hK (xEA n) f2 b2 hl hbl
    have ba : xE0 (xAa N (d + 2)).c_spec_l11Atom := fun p hp => satom_bad (q0 := (xAa N (d + 1)).c_spec_l11Args) (q1 := (xAa N (d + 1)).c_spec_l11Atom) (q2 := (xAa N (d + 1)).c_spec_l11Compare) (q3 := (xAa N (d + 1)).c_spec_l11Expr) (q4 := (xAa N (d + 1)).c_spec_l11Product) (q5 := (xAa N (d + 1)).c_spec_l11Sum) hp
    have p : FRs T L (n + 1) (pProd (pAtom (pE n) (n + 1)) (n + 1)) (xAa N (d + 3)).c_spec_l11Product := sprod_sim (q0 := (xAa N (d + 2)).c_spec_l11Args) (q1 := (xAa N (d + 2)).c_spec_l11Atom) (q2 := (xAa N (d + 2)).c_spec_l11Compare) (q3 := (xAa N (d + 2)).c_spec_l11Expr) (q4 := (xAa N (d + 2)).c_spec_l11Product) (q5 := (xAa N (d + 2)).c_spec_l11Sum) hW hT hN2 (xF4 (xEA n) _) a ba (Nat.le_refl _)
    have bp : xE0 (xAa N (d + 3)).c_spec_l11Product := sprod_bad (q0 := (xAa N (d + 2)).c_spec_l11Args) (q1 := (xAa N (d + 2)).c_spec_l11Atom) (q2 := (xAa N (d + 2)).c_spec_l11Compare) (q3 := (xAa N (d + 2)).c_spec_l11Expr) (q4 := (xAa N (d + 2)).c_spec_l11Product) (q5 := (xAa N (d + 2)).c_spec_l11Sum) (by omega) ba
    have s : FRs T L (n + 1) (pSumF (pE n) (n + 1)) (xAa N (d + 4)).c_spec_l11Sum := ssum_sim (q0 := (xAa N (d + 3)).c_spec_l11Args) (q1 := (xAa N (d + 3)).c_spec_l11Atom) (q2 := (xAa N (d + 3)).c_spec_l11Compare) (q3 := (xAa N (d + 3)).c_spec_l11Expr) (q4 := (xAa N (d + 3)).c_spec_l11Product) (q5 := (xAa N (d + 3)).c_spec_l11Sum) hW hT hN2 (xHs (xF4 (xEA n) _) _) p bp (Nat.le_refl _)
    have bs : xE0 (xAa N (d + 4)).c_spec_l11Sum := ssum_bad (q0 := (xAa N (d + 3)).c_spec_l11Args) (q1 := (xAa N (d + 3)).c_spec_l11Atom) (q2 := (xAa N (d + 3)).c_spec_l11Compare) (q3 := (xAa N (d + 3)).c_spec_l11Expr) (q4 := (xAa N (d + 3)).c_spec_l11Product) (q5 := (xAa N (d + 3)).c_spec_l11Sum) (by omega) bp
    have c : FRs T L (n + 1) (pCmp (pSumF (pE n) (n + 1))) (xAa N (d + 5)).c_spec_l11Compare := scmp_sim (q0 := (xAa N (d + 4)).c_spec_l11Args) (q1 := (xAa N (d + 4)).c_spec_l11Atom) (q2 := (xAa N (d + 4)).c_spec_l11Compare) (q3 := (xAa N (d + 4)).c_spec_l11Expr) (q4 := (xAa N (d + 4)).c_spec_l11Product) (q5 := (xAa N (d + 4)).c_spec_l11Sum) hW hT (xHt (xEA n) _) s bs
    exact sexprB_sim (q0 := (xAa N (d + 5)).c_spec_l11Args) (q1 := (xAa N (d + 5)).c_spec_l11Atom) (q2 := (xAa N (d + 5)).c_spec_l11Compare) (q3 := (xAa N (d + 5)).c_spec_l11Expr) (q4 := (xAa N (d + 5)).c_spec_l11Product) (q5 := (xAa N (d + 5)).c_spec_l11Sum) hW hT hN (by omega) hK (xEA n) f5 b5 c
end Go.Ab
end
section
namespace Go.Ab
set_option linter.unusedVariables false
set_option linter.unusedSimpArgs false
def xGy (c : UInt8) : Bool := decide (97 ≤ c.toNat) && decide (c.toNat ≤ 122)
def xCS (c : UInt8) : Bool := decide (48 ≤ c.toNat) && decide (c.toNat ≤ 57)
def isWd (c : UInt8) : Bool := xGy c || xCS c
def notQ (c : UInt8) : Bool := !(c.toNat == 34)
def symOk (c : UInt8) : Bool := decide (Lib.indexByte [40, 41, 91, 93, 44, 43, 45, 42, 60, 61] c ≥ 0)
def xGZ (p : Int) : Str → Option (Tok × Str)
  | [] => none
  | c :: l =>
    bif xGy c then (bif decide ((c :: l).length - ((c :: l).dropWhile isWd).length ≤ 8) then some (⟨1, 0, p, (c :: l).take ((c :: l).length - ((c :: l).dropWhile isWd).length)⟩, (c :: l).dropWhile isWd) else none)
    else bif xCS c then (bif (numOf ((c :: l).take ((c :: l).length - ((c :: l).dropWhile xCS).length)) 0 1000000000).2 then some (⟨2, (numOf ((c :: l).take ((c :: l).length - ((c :: l).dropWhile xCS).length)) 0 1000000000).1, p, []⟩, (c :: l).dropWhile xCS) else none)
    else bif c.toNat == 34 then (match l.dropWhile notQ with
      | [] => none
      | q :: r => bif xG9 (l.take (l.length - (q :: r).length)) then some (⟨3, 0, p, l.take (l.length - (q :: r).length)⟩, r) else none)
    else bif Lib.hasPrefix (c :: l) [61, 61] then some (⟨4, 0, p, [61, 61]⟩, l.tail)
    else bif symOk c then some (⟨4, 0, p, [c]⟩, l) else none
theorem xD3 (p : Int) (c : UInt8) (l : Str) : xGZ p (c :: l) =
    bif xGy c then (bif decide ((c :: l).length - ((c :: l).dropWhile isWd).length ≤ 8) then some (⟨1, 0, p, (c :: l).take ((c :: l).length - ((c :: l).dropWhile isWd).length)⟩, (c :: l).dropWhile isWd) else none)
    else bif xCS c then (bif (numOf ((c :: l).take ((c :: l).length - ((c :: l).dropWhile xCS).length)) 0 1000000000).2 then some (⟨2, (numOf ((c :: l).take ((c :: l).length - ((c :: l).dropWhile xCS).length)) 0 1000000000).1, p, []⟩, (c :: l).dropWhile xCS) else none)
    else bif c.toNat == 34 then (match l.dropWhile notQ with
      | [] => none
      | q :: r => bif xG9 (l.take (l.length - (q :: r).length)) then some (⟨3, 0, p, l.take (l.length - (q :: r).length)⟩, r) else none)
    else bif Lib.hasPrefix (c :: l) [61, 61] then some (⟨4, 0, p, [61, 61]⟩, l.tail)
    else bif symOk c then some (⟨4, 0, p, [c]⟩, l) else none := rfl
def lexL : Nat → Int → List Tok → Str → List Tok × Int
  | 0, p, _, _ => ([], p)
  | _ + 1, _, acc, [] => (acc, -1)
  | n + 1, p, acc, c :: l => bif c.toNat == 32 then lexL n (p + 1) acc l else match xGZ p (c :: l) with
    | none => ([], p)
    | some (t, r) => bif acc.length == 60 then ([], p) else lexL n (p + ((c :: l).length - r.length : Nat)) (acc ++ [t]) r
def lex (s : Str) : List Tok × Int := bif decide (s.length > 120) then ([], 120) else lexL (s.length + 1) 0 [] s
theorem dge97 (x : UInt8) : decide (((x.toNat : Int) : Int) ≥ 97) = decide (97 ≤ x.toNat) := decide_eq_decide.2 (by omega)
theorem dle122 (x : UInt8) : decide (((x.toNat : Int) : Int) ≤ 122) = decide (x.toNat ≤ 122) := decide_eq_decide.2 (by omega)
theorem dge48 (x : UInt8) : decide (((x.toNat : Int) : Int) ≥ 48) = decide (48 ≤ x.toNat) := decide_eq_decide.2 (by omega)
theorem dle57 (x : UInt8) : decide (((x.toNat : Int) : Int) ≤ 57) = decide (x.toNat ≤ 57) := decide_eq_decide.2 (by omega)
theorem beqI (x k : Nat) : ((x : Int) == (k : Int)) = (x == k) := by
  by_cases h : x = k
  · rw [h]; simp
  · rw [beq_eq_false_iff_ne.2 h, beq_eq_false_iff_ne.2 (by omega)]
theorem beq34 (x : UInt8) : (((x.toNat : Int) : Int) == 34) = (x.toNat == 34) := beqI x.toNat 34
theorem beq32 (x : UInt8) : (((x.toNat : Int) : Int) == 32) = (x.toNat == 32) := beqI x.toNat 32
theorem xEm {p : UInt8 → Bool} (l : Str) : (l.dropWhile p).length ≤ l.length := (List.dropWhile_suffix p).length_le
theorem xEF {S : Str} {i : Nat} {x : UInt8} {l : Str} (h : S.drop i = x :: l) : S.length - (x :: l).length = i ∧ i + (x :: l).length = S.length := by
  have := congrArg List.length h
  obtain ⟨h1, _⟩ := xDq h
  rw [List.length_drop] at this
  omega
theorem xG8 {S s : Str} {i : Nat} (h : S.drop i = s) (hi : i ≤ S.length) {k : Nat} (hk : k ≤ s.length) : List.drop i (List.take (S.length - k) S) = s.take (s.length - k) := by
  subst h
  rw [List.drop_take, List.length_drop, show S.length - k - i = S.length - i - k from by omega]
section
variable {N : Nat} {S : Str}
theorem word_scan (hS : S.length ≤ 1000) {i : Nat} (b4 : Tok) : ∀ n j, i ≤ j → j ≤ S.length → S.length < n + j → xCB N n S i (j : Nat) b4 =
    some (Tok.mk 1 0 i (List.drop i (List.take (S.length - ((S.drop j).dropWhile isWd).length) S)), ((S.length - ((S.drop j).dropWhile isWd).length : Nat) : Int), decide (S.length - ((S.drop j).dropWhile isWd).length - i ≤ 8)) := by
  intro n j hij hj hn
  refine xFl (σ := Unit) (L := fun n j _ => xCB N n S i j b4) S (fun l _ => (Tok.mk 1 0 i (List.drop i (List.take (S.length - (l.dropWhile isWd).length) S)), ((S.length - (l.dropWhile isWd).length : Nat) : Int), decide (S.length - (l.dropWhile isWd).length - i ≤ 8)))
    (fun j _ => i ≤ j) (fun n _ hi => ?_) (fun j x l _ hd hj hx hi => ?_) n j () hij hj hn
  · have hi : i ≤ S.length := hi
    simp only [xCB, Int.lt_irrefl, decide_false, cond_false]
    rw [if_pos (by omega)]
    have e1 : IntKind.i64.wrap ((S.length : Int) - (i : Int)) = (S.length : Int) - i := xCk (by omega) (by omega)
    simp only [e1, List.dropWhile_nil, List.length_nil, Nat.sub_zero, Int.toNat_natCast]
    rw [decide_eq_decide.2 (by omega : (S.length : Int) - i ≤ 8 ↔ S.length - i ≤ 8)]
    rfl
  · have hi : i ≤ j := hi
    have hj' : (j : Int) < (S.length : Int) := by omega
    have hj2 : (0 : Int) ≤ (j : Int) ∧ (j : Int) < (S.length : Int) := ⟨by omega, hj'⟩
    have hj3 : (0 : Int) ≤ (i : Int) ∧ (i : Int) ≤ (j : Int) ∧ (j : Int) ≤ (S.length : Int) := by omega
    have e1 : IntKind.i64.wrap ((j : Int) - (i : Int)) = (j : Int) - i := xCk (by omega) (by omega)
    cases hw : isWd x
    · refine .inr fun n => ?_
      have e2 : (x :: l).dropWhile isWd = x :: l := by rw [List.dropWhile_cons]; simp [hw]
      have e3 := (xEF hd).1
      have e4 : decide ((j : Int) - i ≤ 8) = decide (j - i ≤ 8) := decide_eq_decide.2 (by omega)
      simp only [xCB, decide_eq_true hj', cond_true, if_pos hj2, if_pos hj3, Int.toNat_natCast, xCw hx, dge97, dle122, dge48, dle57, e1, e2, e3, e4]
      unfold isWd xGy xCS at hw
      revert hw
      cases decide (97 ≤ x.toNat) <;> cases decide (x.toNat ≤ 122) <;> cases decide (48 ≤ x.toNat) <;> cases decide (x.toNat ≤ 57) <;> intro hw <;> first | rfl | (simp at hw; done)
    · refine .inl ⟨(), by omega, ?_, fun n => ?_⟩
      · have e2 : (x :: l).dropWhile isWd = l.dropWhile isWd := by rw [List.dropWhile_cons]; simp [hw]
        rw [e2]
      · simp only [xCB, decide_eq_true hj', cond_true, if_pos hj2, if_pos hj3, Int.toNat_natCast, xCw hx, dge97, dle122, dge48, dle57, xBV hj (by omega : S.length ≤ _)]
        unfold isWd xGy xCS at hw
        revert hw
        cases decide (97 ≤ x.toNat) <;> cases decide (x.toNat ≤ 122) <;> cases decide (48 ≤ x.toNat) <;> cases decide (x.toNat ≤ 57) <;> intro hw <;> first | rfl | (simp at hw; done)
theorem parse_num {w : Str} (h : w.length ≤ 1000) : xFU N w 0 1000000000 = some (numOf w 0 1000000000) := by
  unfold xFU parseNumP
  rw [if_pos (by omega)]
def numG (S : Str) (i : Nat) (l : Str) : Int × Bool := numOf (List.drop i (List.take (S.length - (l.dropWhile xCS).length) S)) 0 1000000000
theorem num_scan (hS : S.length ≤ 1000) {i : Nat} (b4 : Tok) : ∀ n j, i ≤ j → j ≤ S.length → S.length < n + j → xCY N n S i (j : Nat) b4 =
    some (Tok.mk 2 (numG S i (S.drop j)).1 i [], ((S.length - ((S.drop j).dropWhile xCS).length : Nat) : Int), (numG S i (S.drop j)).2) := by
  intro n j hij hj hn
  refine xFl (σ := Unit) (L := fun n j _ => xCY N n S i j b4) S (fun l _ => (Tok.mk 2 (numG S i l).1 i [], ((S.length - (l.dropWhile xCS).length : Nat) : Int), (numG S i l).2))
    (fun j _ => i ≤ j) (fun n _ hi => ?_) (fun j x l _ hd hj hx hi => ?_) n j () hij hj hn
  · have hi : i ≤ S.length := hi
    simp only [xCY, Int.lt_irrefl, decide_false, cond_false]
    rw [if_pos (by omega)]
    simp only [Int.toNat_natCast]
    rw [parse_num (by rw [List.length_drop, List.length_take]; omega)]
    simp only [Option.bind_some, numG, List.dropWhile_nil, List.length_nil, Nat.sub_zero]
  · have hi : i ≤ j := hi
    have hj' : (j : Int) < (S.length : Int) := by omega
    have hj2 : (0 : Int) ≤ (j : Int) ∧ (j : Int) < (S.length : Int) := ⟨by omega, hj'⟩
    have hj3 : (0 : Int) ≤ (i : Int) ∧ (i : Int) ≤ (j : Int) ∧ (j : Int) ≤ (S.length : Int) := by omega
    cases hw : xCS x
    · refine .inr fun n => ?_
      have e2 : (x :: l).dropWhile xCS = x :: l := by rw [List.dropWhile_cons]; simp [hw]
      have e3 := (xEF hd).1
      simp only [xCY, decide_eq_true hj', cond_true, if_pos hj2, if_pos hj3, Int.toNat_natCast, xCw hx, dge48, dle57, numG, e2, e3]
      rw [parse_num (by rw [List.length_drop, List.length_take]; omega)]
      simp only [Option.bind_some]
      unfold xCS at hw
      revert hw
      cases decide (48 ≤ x.toNat) <;> cases decide (x.toNat ≤ 57) <;> intro hw <;> first | rfl | (simp at hw; done)
    · refine .inl ⟨(), by omega, ?_, fun n => ?_⟩
      · have e2 : (x :: l).dropWhile xCS = l.dropWhile xCS := by rw [List.dropWhile_cons]; simp [hw]
        simp only [numG, e2]
      · simp only [xCY, decide_eq_true hj', cond_true, if_pos hj2, if_pos hj3, Int.toNat_natCast, xCw hx, dge48, dle57, xBV hj (by omega : S.length ≤ _)]
        unfold xCS at hw
        revert hw
        cases decide (48 ≤ x.toNat) <;> cases decide (x.toNat ≤ 57) <;> intro hw <;> first | rfl | (simp at hw; done)
theorem toNat_eq (c : UInt8) (k : UInt8) : (c == k) = (c.toNat == k.toNat) := by
  by_cases h : c = k
  · subst h; simp
  · rw [beq_eq_false_iff_ne.2 h, beq_eq_false_iff_ne.2 (fun e => h (UInt8.toNat_inj.1 e))]
theorem index_q : ∀ l : Str, Lib.indexByte l 34 = match l.dropWhile notQ with
    | [] => -1
    | q :: r => ((l.length - (q :: r).length : Nat) : Int)
  | [] => rfl
  | x :: l => by
    have ih := index_q l
    unfold Lib.indexByte
    rw [toNat_eq x 34, List.dropWhile_cons]
    unfold notQ at ih ⊢
    show (if (x.toNat == 34) = true then _ else _) = _
    cases h : x.toNat == 34
    · simp only [Bool.not_false, if_true]
      have hd := xEm (p := fun c => !(c.toNat == 34)) l
      cases he : List.dropWhile (fun c => !(c.toNat == 34)) l with
      | nil => rw [he] at ih; simp only at ih; rw [ih]; rfl
      | cons q r =>
        rw [he] at ih hd
        simp only at ih
        simp only [List.length_cons] at hd ih ⊢
        rw [ih]
        have e : (((l.length - (r.length + 1) : Nat) : Int) == -1) = false := beq_eq_false_iff_ne.2 (by omega)
        rw [e]
        simp only [Bool.false_eq_true, if_false]
        omega
    · simp
def LxP (S : Str) (o : Option (Tok × Str)) (x : Tok × Int × Bool) : Prop := match o with
  | some (t, r) => x = (t, ((S.length - r.length : Nat) : Int), true)
  | none => x.2.2 = false
theorem quote_at (hS : S.length ≤ 1000) (hN : 1000 < N) {i : Nat} {c : UInt8} {l : Str} (hd : S.drop i = c :: l) (h34 : (c.toNat == 34) = true) (hL : xGy c = false) (hD : xCS c = false) : ∃ x, (
            if (0 : Int) ≤ (IntKind.i64.wrap ((i : Int) + 1)) ∧ (IntKind.i64.wrap ((i : Int) + 1)) ≤ (List.length S) then
            Option.bind (strings_IndexByte N (List.drop (Int.toNat (IntKind.i64.wrap ((i : Int) + 1))) S) 34) fun r1 =>
            bif (decide ((r1 : Int) < 0)) then (
              some ((Tok.mk 0 0 0 []), 0, false)
            ) else (
              if (0 : Int) ≤ (IntKind.i64.wrap ((i : Int) + 1)) ∧ (IntKind.i64.wrap ((i : Int) + 1)) ≤ (IntKind.i64.wrap ((IntKind.i64.wrap ((i : Int) + 1)) + r1)) ∧ (IntKind.i64.wrap ((IntKind.i64.wrap ((i : Int) + 1)) + r1)) ≤ (List.length S) then
              Option.bind (xC2 N (List.drop (Int.toNat (IntKind.i64.wrap ((i : Int) + 1))) (List.take (Int.toNat (IntKind.i64.wrap ((IntKind.i64.wrap ((i : Int) + 1)) + r1))) S))) fun r2 =>
              some ((Tok.mk 3 0 i (List.drop (Int.toNat (IntKind.i64.wrap ((i : Int) + 1))) (List.take (Int.toNat (IntKind.i64.wrap ((IntKind.i64.wrap ((i : Int) + 1)) + r1))) S))), (IntKind.i64.wrap ((IntKind.i64.wrap ((i : Int) + r1)) + 2)), r2)
              else none
            )
            else none) = some x ∧ LxP S (xGZ i (c :: l)) x := by
  obtain ⟨e1, e2⟩ := xEF hd
  obtain ⟨hi, _, hd1⟩ := xDq hd
  simp only [List.length_cons] at e2
  have w1 : IntKind.i64.wrap ((i : Int) + 1) = ((i + 1 : Nat) : Int) := xBV hi (by omega)
  simp only [w1, Int.toNat_natCast, hd1]
  rw [if_pos (by omega)]
  unfold strings_IndexByte indexByteP
  rw [show ((34 : Int).toNat.toUInt8) = 34 from rfl, index_q, Option.bind_some]
  rw [xD3, hL, hD, h34]
  simp only [cond_false, cond_true]
  have hq := xEm (p := notQ) l
  cases he : l.dropWhile notQ with
  | nil => exact ⟨_, rfl, rfl⟩
  | cons q r =>
    rw [he] at hq
    simp only [List.length_cons] at hq ⊢
    have w2 : IntKind.i64.wrap (((i + 1 : Nat) : Int) + ((l.length - (r.length + 1) : Nat) : Int)) = ((i + 1 + (l.length - (r.length + 1)) : Nat) : Int) := by rw [xCk (by omega) (by omega)]; omega
    have w3 : IntKind.i64.wrap ((i : Int) + ((l.length - (r.length + 1) : Nat) : Int)) = ((i + (l.length - (r.length + 1)) : Nat) : Int) := by rw [xCk (by omega) (by omega)]; omega
    have w4 : IntKind.i64.wrap (((i + (l.length - (r.length + 1)) : Nat) : Int) + 2) = ((S.length - r.length : Nat) : Int) := by rw [xCk (by omega) (by omega)]; omega
    have w5 : List.drop (i + 1) (List.take (i + 1 + (l.length - (r.length + 1))) S) = l.take (l.length - (r.length + 1)) := by
      rw [List.drop_take, hd1, show i + 1 + (l.length - (r.length + 1)) - (i + 1) = l.length - (r.length + 1) from by omega]
    rw [decide_eq_false (by omega), cond_false]
    simp only [w2, w3, w4, Int.toNat_natCast, w5]
    rw [if_pos (by omega)]
    have ht : (l.take (l.length - (r.length + 1))).length ≤ 1000 := by rw [List.length_take]; omega
    rw [xFX (N := N) (s := l.take (l.length - (r.length + 1))) (by omega) (by omega), Option.bind_some]
    refine ⟨_, rfl, ?_⟩
    cases xG9 (l.take (l.length - (r.length + 1)))
    · rfl
    · rfl
theorem sym_at (hS : S.length ≤ 1000) (hN : 1000 < N) {i : Nat} {c : UInt8} {l : Str} (hd : S.drop i = c :: l) (h34 : (c.toNat == 34) = false) (hL : xGy c = false) (hD : xCS c = false) : ∃ x, (
            if (0 : Int) ≤ (i : Int) ∧ (i : Int) ≤ (List.length S) then
            Option.bind (strings_HasPrefix N (List.drop (Int.toNat (i : Int)) S) [61, 61]) fun r1 =>
            bif r1 then (
              some ((Tok.mk 4 0 i [61, 61]), (IntKind.i64.wrap ((i : Int) + 2)), true)
            ) else (
              if (0 : Int) ≤ (i : Int) ∧ (i : Int) ≤ (IntKind.i64.wrap ((i : Int) + 1)) ∧ (IntKind.i64.wrap ((i : Int) + 1)) ≤ (List.length S) then
              Option.bind (strings_IndexByte N [40, 41, 91, 93, 44, 43, 45, 42, 60, 61] ((List.getD S (Int.toNat (i : Int)) 0).toNat : Int)) fun r2 =>
              some ((Tok.mk 4 0 i (List.drop (Int.toNat (i : Int)) (List.take (Int.toNat (IntKind.i64.wrap ((i : Int) + 1))) S))), (IntKind.i64.wrap ((i : Int) + 1)), (decide ((r2 : Int) ≥ 0)))
              else none
            )
            else none) = some x ∧ LxP S (xGZ i (c :: l)) x := by
  obtain ⟨e1, e2⟩ := xEF hd
  obtain ⟨hi, hx, hd1⟩ := xDq hd
  simp only [List.length_cons] at e2
  have w1 : IntKind.i64.wrap ((i : Int) + 1) = ((i + 1 : Nat) : Int) := xBV hi (by omega)
  simp only [w1, Int.toNat_natCast, hd, xCw hx]
  rw [if_pos (by omega)]
  unfold strings_HasPrefix hasPrefixP
  rw [Option.bind_some, xD3, hL, hD, h34]
  simp only [cond_false]
  cases hp : Lib.hasPrefix (c :: l) [61, 61]
  · simp only [cond_false]
    rw [if_pos (by omega)]
    unfold strings_IndexByte indexByteP
    rw [Option.bind_some]
    have ec : ((c.toNat : Int)).toNat.toUInt8 = c := by simp
    have w5 : List.drop i (List.take (i + 1) S) = [c] := by
      rw [List.drop_take, hd, show i + 1 - i = 1 from by omega]; rfl
    rw [ec, w5]
    refine ⟨_, rfl, ?_⟩
    unfold symOk
    cases decide (Lib.indexByte [40, 41, 91, 93, 44, 43, 45, 42, 60, 61] c ≥ 0)
    · rfl
    · show (_, _, _) = (_, _, _)
      rw [show i + 1 = S.length - l.length from by omega]
  · simp only [cond_true]
    refine ⟨_, rfl, ?_⟩
    have h2 : l.tail.length + 1 = l.length := by
      cases l with
      | nil => simp [Lib.hasPrefix, List.isPrefixOf] at hp
      | cons a b => rfl
    have w2 : IntKind.i64.wrap ((i : Int) + 2) = ((S.length - l.tail.length : Nat) : Int) := by rw [xCk (by omega) (by omega)]; omega
    show (_, _, _) = (_, _, _)
    rw [w2]
theorem tokenAt_eq (hS : S.length ≤ 1000) (hN : 1000 < N) {i : Nat} {c : UInt8} {l : Str} (hd : S.drop i = c :: l) : ∃ x, xFI N S i = some x ∧ LxP S (xGZ i (c :: l)) x := by
  obtain ⟨e1, e2⟩ := xEF hd
  obtain ⟨hi, hx, hd1⟩ := xDq hd
  have hQ := fun a b e => quote_at (N := N) hS hN hd a b e
  have hY := fun a b e => sym_at (N := N) hS hN hd a b e
  have word : xGy c = true → ∃ x, xCB N N S i i (Tok.mk 0 0 0 []) = some x ∧ LxP S (xGZ i (c :: l)) x := fun hl => by
    refine ⟨_, word_scan hS _ N i (Nat.le_refl _) (by omega) (by omega), ?_⟩
    rw [hd]
    rw [xD3, hl, cond_true]
    have hq := xEm (p := isWd) (c :: l)
    rw [xG8 hd (by omega) hq, show S.length - ((c :: l).dropWhile isWd).length - i = (c :: l).length - ((c :: l).dropWhile isWd).length from by omega]
    cases decide ((c :: l).length - ((c :: l).dropWhile isWd).length ≤ 8) <;> rfl
  have numb : xGy c = false → xCS c = true → ∃ x, xCY N N S i i (Tok.mk 0 0 0 []) = some x ∧ LxP S (xGZ i (c :: l)) x := fun hl hg => by
    refine ⟨_, num_scan hS _ N i (Nat.le_refl _) (by omega) (by omega), ?_⟩
    have hq := xEm (p := xCS) (c :: l)
    rw [hd]
    unfold numG
    rw [xD3, hl, hg, cond_true, cond_false, xG8 hd (by omega) hq]
    cases hb : (numOf ((c :: l).take ((c :: l).length - ((c :: l).dropWhile xCS).length)) 0 1000000000).2 <;> rfl
  unfold xFI
  rw [if_pos (by omega)]
  simp only [Int.toNat_natCast, xCw hx, dge97, dle122, dge48, dle57, beq34] at hQ hY ⊢
  simp only [xGy, xCS] at hQ hY word numb
  generalize decide (97 ≤ c.toNat) = A at *
  generalize decide (c.toNat ≤ 122) = B at *
  generalize decide (48 ≤ c.toNat) = C at *
  generalize decide (c.toNat ≤ 57) = D at *
  generalize (c.toNat == 34) = E at *
  cases A <;> cases B <;> cases C <;> cases D <;>
    first
    | exact word rfl
    | exact numb rfl rfl
    | (cases E
       · exact hY rfl rfl rfl
       · exact hQ rfl rfl rfl)
theorem xFC {α : Type} {b : Bool} {x y : α} (h : (bif b then some x else none) = some y) : b = true ∧ x = y := by cases b <;> cases h; exact ⟨rfl, rfl⟩
theorem lexAt_len {p : Int} {s r : Str} {t : Tok} (h : xGZ p s = some (t, r)) : r.length < s.length := by
  cases s with
  | nil => cases h
  | cons c l =>
    have d1 := xEm (p := isWd) l
    have d2 := xEm (p := xCS) l
    have d3 := xEm (p := notQ) l
    rw [xD3] at h
    cases h1 : xGy c <;> rw [h1] at h
    · cases h2 : xCS c <;> rw [h2] at h
      · cases h3 : c.toNat == 34 <;> rw [h3] at h
        · cases h4 : Lib.hasPrefix (c :: l) [61, 61] <;> rw [h4] at h
          · cases h5 : symOk c <;> rw [h5] at h
            · cases h
            · cases h; simp
          · cases h; simp; omega
        · simp only [cond_true, cond_false] at h
          split at h
          · cases h
          · rename_i q r' he
            rw [he] at d3
            simp only [List.length_cons] at d3 ⊢
            obtain ⟨hb, hx⟩ := xFC h
            cases hx; omega
      · simp only [cond_true, cond_false] at h
        obtain ⟨hb, hx⟩ := xFC h
        cases hx
        rw [List.dropWhile_cons]; simp only [h2, if_true, List.length_cons]; omega
    · simp only [cond_true] at h
      obtain ⟨hb, hx⟩ := xFC h
      · cases hx
        have : isWd c = true := by unfold isWd; rw [h1]; rfl
        rw [List.dropWhile_cons]; simp only [this, if_true, List.length_cons]; omega
theorem lexAt_suf {p : Int} {s r : Str} {t : Tok} (h : xGZ p s = some (t, r)) : r <:+ s := by
  cases s with
  | nil => cases h
  | cons c l =>
    rw [xD3] at h
    cases h1 : xGy c <;> rw [h1] at h
    · cases h2 : xCS c <;> rw [h2] at h
      · cases h3 : c.toNat == 34 <;> rw [h3] at h
        · cases h4 : Lib.hasPrefix (c :: l) [61, 61] <;> rw [h4] at h
          · cases h5 : symOk c <;> rw [h5] at h
            · cases h
            · cases h; exact List.suffix_cons _ _
          · cases h; exact (List.tail_suffix _).trans (List.suffix_cons _ _)
        · simp only [cond_true, cond_false] at h
          split at h
          · cases h
          · rename_i q r' he
            have hs : q :: r' <:+ l := by rw [← he]; exact List.dropWhile_suffix _
            obtain ⟨hb, hx⟩ := xFC h
            cases hx; exact ((List.suffix_cons _ _).trans hs).trans (List.suffix_cons _ _)
      · simp only [cond_true, cond_false] at h
        obtain ⟨hb, hx⟩ := xFC h
        cases hx
        exact List.dropWhile_suffix _
    · simp only [cond_true] at h
      obtain ⟨hb, hx⟩ := xFC h
      cases hx
      exact List.dropWhile_suffix _
theorem drop_suf {r : Str} (h : r <:+ S) : S.drop (S.length - r.length) = r := by
  obtain ⟨a, rfl⟩ := h
  rw [List.length_append, show a.length + r.length - r.length = a.length from by omega, List.drop_left]
theorem tokL_eq (hS : S.length ≤ 120) (hN : 1000 < N) : ∀ (m n i : Nat) (acc : List Tok), i ≤ S.length → S.length - i < m → S.length - i < n → acc.length ≤ 60 → xDL N n S acc (i : Nat) = some (lexL m (i : Nat) acc (S.drop i)) := by
  intro m
  induction m with
  | zero => intro n i acc _ h; omega
  | succ m ih =>
    intro n i acc hi hm hn ha
    obtain ⟨n, rfl⟩ : ∃ k, n = k + 1 := ⟨n - 1, by omega⟩
    cases hd : S.drop i with
    | nil =>
      have := xGe hd
      obtain rfl : i = S.length := by omega
      simp only [xDL, Int.lt_irrefl, decide_false, cond_false, lexL]
    | cons c l =>
      obtain ⟨h1, hx, hd1⟩ := xDq hd
      have hi' : (i : Int) < (S.length : Int) := by omega
      simp only [xDL, decide_eq_true hi', cond_true, Int.toNat_natCast, xCw hx, beq32, lexL, xBV h1 (by omega : S.length ≤ _)]
      rw [if_pos (by omega)]
      cases h32 : c.toNat == 32
      · simp only [cond_false]
        obtain ⟨x, hx1, hx2⟩ := tokenAt_eq (N := N) (S := S) (by omega) hN hd
        rw [hx1, Option.bind_some]
        cases ho : xGZ i (c :: l) with
        | none =>
          rw [ho] at hx2
          have hx2 : x.2.2 = false := hx2
          simp only [hx2, Bool.not_false, cond_true]
        | some z =>
          obtain ⟨t, r⟩ := z
          rw [ho] at hx2
          have hx2 : x = (t, ((S.length - r.length : Nat) : Int), true) := hx2
          subst hx2
          have hl := lexAt_len ho
          have hs : r <:+ S := by
            have : c :: l <:+ S := by rw [← hd]; exact List.drop_suffix _ _
            exact (lexAt_suf ho).trans this
          have hrl := hs.length_le
          obtain ⟨g1, g2⟩ := xEF hd
          simp only [Bool.not_true, cond_false]
          have e60 : (((acc.length : Int) : Int) == 60) = (acc.length == 60) := beqI acc.length 60
          rw [e60]
          cases h60 : acc.length == 60
          · have h60 : acc.length ≠ 60 := beq_eq_false_iff_ne.1 h60
            simp only [cond_false]
            rw [if_pos (by simp only [List.length_cons, List.length_nil]; unfold Lim; omega)]
            rw [ih n (S.length - r.length) (acc ++ [t]) (by omega) (by omega) (by omega) (by simp only [List.length_append, List.length_cons, List.length_nil]; omega), drop_suf hs]
            rw [show ((S.length - r.length : Nat) : Int) = (i : Int) + ((c :: l).length - r.length : Nat) from by omega]
          · rfl
      · simp only [cond_true]
        rw [ih n (i + 1) acc (by omega) (by omega) (by omega) ha, hd1]
        rfl
theorem impl_Tokenize_eq (hN : 1000 < N) (s : Str) : xEW N s = some (lex s) := by
  unfold xEW lex
  have e : decide (((s.length : Int) : Int) > 120) = decide (s.length > 120) := decide_eq_decide.2 (by omega)
  rw [e]
  cases h : decide (s.length > 120)
  · have h := of_decide_eq_false h
    simp only [cond_false]
    exact tokL_eq (S := s) (by omega) hN (s.length + 1) N 0 [] (by omega) (by omega) (by omega) (by simp)
  · rfl
end
end Go.Ab
end
section
namespace Go.Ab
set_option linter.unusedVariables false
set_option linter.unusedSimpArgs false
def valD (acc : Nat) : Str → Nat
  | [] => acc
  | c :: r => valD (acc * 10 + (c.toNat - 48)) r
theorem valD_le : ∀ (l : Str) (acc : Nat), acc ≤ valD acc l
  | [], acc => Nat.le_refl _
  | c :: r, acc => Nat.le_trans (by omega) (valD_le r _)
theorem valD_append : ∀ (a b : Str) (acc : Nat), valD acc (a ++ b) = valD (valD acc a) b
  | [], b, acc => rfl
  | c :: r, b, acc => valD_append r b _
theorem xF2 {c : UInt8} : xCS c = true ↔ 48 ≤ c.toNat ∧ c.toNat ≤ 57 := by unfold xCS; rw [Bool.and_eq_true, decide_eq_true_eq, decide_eq_true_eq]
theorem parse_ok : ∀ (l : Str) (acc : Nat), l.all xCS = true → valD acc l < 1844674407370955162 → Lib.parseUint10 acc l = .ok (valD acc l)
  | [], acc, _, _ => rfl
  | c :: r, acc, hl, hv => by
    rw [List.all_cons, Bool.and_eq_true] at hl
    have hc := xF2.1 hl.1
    have h1 := valD_le r (acc * 10 + (c.toNat - 48))
    have hv' : valD (acc * 10 + (c.toNat - 48)) r < 1844674407370955162 := hv
    show (if 48 ≤ c.toNat ∧ c.toNat ≤ 57 then _ else _) = _
    rw [if_pos hc, if_neg (by omega), if_neg (by omega)]
    exact parse_ok r _ hl.2 hv'
theorem digit_u8 (k : Nat) (h : k < 10) : (UInt8.ofNat (48 + k)).toNat = 48 + k := by
  rw [UInt8.toNat_ofNat']; omega
theorem dd_props : ∀ n : Nat, (dd n).all xCS = true ∧ valD 0 (dd n) = n := by
  intro n
  induction n using Nat.strongRecOn with
  | _ n ih =>
    by_cases h : n = 0
    · subst h; exact ⟨rfl, rfl⟩
    · obtain ⟨h1, h2⟩ := ih (n / 10) (by omega)
      have hd := digit_u8 (n % 10) (by omega)
      rw [dd_step h, List.all_append, h1, valD_append, h2]
      refine ⟨?_, ?_⟩
      · simp only [List.all_cons, List.all_nil, Bool.and_true, Bool.true_and]
        exact xF2.2 (by omega)
      · show n / 10 * 10 + ((UInt8.ofNat (48 + n % 10)).toNat - 48) = n
        rw [hd]; omega
theorem itoa_props {v : Nat} (h : v ≤ 1000000000) : (Lib.itoa v).all xCS = true ∧ valD 0 (Lib.itoa v) = v ∧ (Lib.itoa v).length ≤ 10 ∧ Lib.itoa v ≠ [] := by
  by_cases h0 : v = 0
  · subst h0
    have e : Lib.itoa ((0 : Nat) : Int) = [48] := by
      show Lib.decDigits 0 = [48]
      rw [Lib.decDigits, dif_pos (by omega)]; rfl
    rw [e]; exact ⟨rfl, rfl, by decide, by decide⟩
  · have e : Lib.itoa (v : Int) = dd v := by
      rw [itoa_dd (by omega), decide_eq_false (by omega)]; rfl
    obtain ⟨h1, h2⟩ := dd_props v
    rw [e]
    refine ⟨h1, h2, dd_len 10 v (by omega), fun he => ?_⟩
    rw [he] at h2
    exact h0 h2.symm
theorem atoi_dig {w : Str} (h1 : w.all xCS = true) (h2 : w ≠ []) (h3 : valD 0 w < 1844674407370955162) : Lib.atoiAll w = .ok (valD 0 w) := by
  cases w with
  | nil => exact absurd rfl h2
  | cons c r =>
    have hc := h1
    rw [List.all_cons, Bool.and_eq_true] at hc
    have hc := xF2.1 hc.1
    unfold Lib.atoiAll
    have e1 : ¬ (c.toNat = 43 ∨ c.toNat = 45) := by omega
    have e2 : ¬ c.toNat = 45 := by omega
    simp only [if_neg e1]
    unfold Lib.parseMag
    rw [if_neg h2, parse_ok _ 0 h1 h3]
    simp only [e2, not_false_eq_true, true_and, false_and, if_false]
    rw [if_neg (by omega)]
theorem numOf_itoa {v : Nat} (h : v ≤ 1000000000) : numOf (Lib.itoa v) 0 1000000000 = ((v : Int), true) := by
  obtain ⟨h1, h2, h3, h4⟩ := itoa_props h
  unfold numOf
  rw [atoi_dig h1 h4 (by rw [h2]; omega), h2]
  simp only
  rw [if_neg (by omega), if_neg (by omega)]
  first
  | exact if_pos rfl
  | exact if_pos trivial
theorem numOf_inv {w : Str} (h : (numOf w 0 1000000000).2 = true) : ∃ v : Nat, v ≤ 1000000000 ∧ w = Lib.itoa v := by
  unfold numOf at h
  split at h
  · rename_i v hv
    split at h
    · cases h
    · split at h
      · cases h
      · split at h
        · rename_i h1 h2 h3
          exact ⟨v.toNat, by omega, by rw [show ((v.toNat : Nat) : Int) = v from by omega, h3]⟩
        · cases h
  · cases h
section
variable {N : Nat}
theorem u8d {c : UInt8} (h : xCS c = true) : IntKind.i64.wrap (IntKind.u8.wrap ((c.toNat : Int) - 48)) = ((c.toNat - 48 : Nat) : Int) := by
  have := xF2.1 h
  rw [wrap_u8 (by omega) (by omega), xCk (by omega) (by omega)]; omega
theorem read_scan (w : Str) (hw : w.all xCS = true) (hl : w.length ≤ 12) (hN : 100 < N) : ∀ n, w.length < n → xDa N n w false w 0 0 =
    (bif !(Lib.itoa ((valD 0 w : Nat) : Int) == w) then some (0, false) else some (((valD 0 w : Nat) : Int), true)) := by
  intro n hn
  have big : ∀ (l : Str) (acc k : Nat), l.all xCS = true → acc < 10 ^ k → valD acc l < 10 ^ (k + l.length) := by
    intro l
    induction l with
    | nil => intro acc k _ h; exact h
    | cons c r ih =>
      intro acc k hl h
      rw [List.all_cons, Bool.and_eq_true] at hl
      have hc := xF2.1 hl.1
      have := ih (acc * 10 + (c.toNat - 48)) (k + 1) hl.2 (by rw [Nat.pow_succ]; omega)
      show valD (acc * 10 + (c.toNat - 48)) r < _
      rw [List.length_cons, show k + (r.length + 1) = k + 1 + r.length from by omega]
      exact this
  have hb := big w 0 0 hw (by decide)
  have hb2 : valD 0 w < 10 ^ 12 := Nat.lt_of_lt_of_le hb (Nat.pow_le_pow_right (by omega) (by omega))
  have e12 : (10 : Nat) ^ 12 = 1000000000000 := by decide
  have key : ∀ n j (acc : Nat), j ≤ w.length → w.length < n + j → valD acc (w.drop j) = valD 0 w → xDa N n w false w (acc : Int) (j : Nat) =
      (bif !(Lib.itoa ((valD 0 w : Nat) : Int) == w) then some (0, false) else some (((valD 0 w : Nat) : Int), true)) := by
    intro n
    induction n with
    | zero => intro j acc h1 h2; omega
    | succ n ih =>
      intro j acc h1 h2 h3
      cases hd : w.drop j with
      | nil =>
        have := xGe hd
        obtain rfl : j = w.length := by omega
        rw [hd] at h3
        have h3 : acc = valD 0 w := h3
        simp only [xDa, Int.lt_irrefl, decide_false, cond_false]
        rw [xGA hN (by omega), Option.bind_some, h3]
      | cons c r =>
        obtain ⟨g1, g2, g3⟩ := xDq hd
        have hc : xCS c = true := List.all_eq_true.1 hw c (List.mem_of_getElem? g2)
        have hc' := xF2.1 hc
        rw [hd] at h3
        have h3 : valD (acc * 10 + (c.toNat - 48)) r = valD 0 w := h3
        have h4 := valD_le r (acc * 10 + (c.toNat - 48))
        have hj' : (j : Int) < (w.length : Int) := by omega
        have e1 : IntKind.i64.wrap (10 * (acc : Int)) = 10 * (acc : Int) := xCk (by omega) (by omega)
        have e2 : IntKind.i64.wrap (10 * (acc : Int) + ((c.toNat - 48 : Nat) : Int)) = ((acc * 10 + (c.toNat - 48) : Nat) : Int) := by rw [xCk (by omega) (by omega)]; omega
        simp only [xDa, decide_eq_true hj', cond_true, Int.toNat_natCast, xCw g2, u8d hc, e1, e2, xBV g1 (by omega : w.length ≤ _)]
        rw [if_pos (by omega), decide_eq_false (by omega), cond_false, decide_eq_false (by omega), cond_false]
        exact ih (j + 1) _ (by omega) (by omega) (by rw [g3]; exact h3)
  exact key n 0 0 (by omega) (by omega) rfl
theorem spec_ParseInt_eq {w : Str} (hw : w.all xCS = true) (hne : w ≠ []) (hl : w.length ≤ 1000) (hN : 1000 < N) : ∃ n ok, xEB N w = some (n, ok) ∧
    (ok && !decide (n > 1000000000)) = (numOf w 0 1000000000).2 ∧ ((numOf w 0 1000000000).2 = true → n = (numOf w 0 1000000000).1) := by
  obtain ⟨c, r, rfl⟩ : ∃ c r, w = c :: r := by
    cases w with
    | nil => exact absurd rfl hne
    | cons c r => exact ⟨c, r, rfl⟩
  have hc := hw
  rw [List.all_cons, Bool.and_eq_true] at hc
  have hc' := xF2.1 hc.1
  have hlen : (c :: r).length = r.length + 1 := rfl
  have e45 : (((c.toNat : Int) : Int) == 45) = false := beq_eq_false_iff_ne.2 (by omega)
  have hr : xF9 N (c :: r) 12 = (bif decide ((((c :: r).length : Int) : Int) > 12) then some (0, false) else xDa N N (c :: r) false (c :: r) 0 0) := by
    unfold xF9
    rw [decide_eq_true (by omega : (((c :: r).length : Int) : Int) > 0), cond_true, if_pos (by omega)]
    simp only [Int.toNat_zero, List.getD_cons_zero, e45, cond_false]
    rw [decide_eq_false (by omega : ¬ (((c :: r).length : Int) : Int) < 1), cond_false]
  unfold xEB
  rw [hr]
  by_cases hcan : (numOf (c :: r) 0 1000000000).2 = true
  · obtain ⟨v, hv, he⟩ := numOf_inv hcan
    obtain ⟨p1, p2, p3, p4⟩ := itoa_props hv
    rw [← he] at p2 p3
    rw [decide_eq_false (by omega), cond_false, read_scan _ hw (by omega) (by omega) N (by omega), p2, ← he]
    simp only [beq_self_eq_true, Bool.not_true, cond_false, Option.bind_some]
    have hn : numOf (c :: r) 0 1000000000 = ((v : Int), true) := by rw [he]; exact numOf_itoa hv
    refine ⟨(v : Int), true, rfl, ?_, fun _ => by rw [hn]⟩
    rw [hn, decide_eq_false (by omega)]; rfl
  · have hcan : (numOf (c :: r) 0 1000000000).2 = false := by simpa using hcan
    rw [hcan]
    cases h12 : decide ((((c :: r).length : Int) : Int) > 12)
    · have h12 := of_decide_eq_false h12
      rw [cond_false, read_scan _ hw (by omega) (by omega) N (by omega)]
      cases hi : Lib.itoa ((valD 0 (c :: r) : Nat) : Int) == c :: r
      · exact ⟨0, false, rfl, rfl, fun h => by cases h⟩
      · have hi := beq_iff_eq.1 hi
        have hbig : ¬ valD 0 (c :: r) ≤ 1000000000 := fun h => by
          have := numOf_itoa h
          rw [hi] at this
          rw [this] at hcan
          cases hcan
        exact ⟨_, true, rfl, by rw [decide_eq_true (by omega)]; rfl, fun h => by cases h⟩
    · exact ⟨0, false, rfl, rfl, fun h => by cases h⟩
theorem letter_eq (c : UInt8) : xEZ N (c.toNat : Int) = some (xGy c) := by
  unfold xEZ xGy
  rw [dge97, dle122]
  cases decide (97 ≤ c.toNat) <;> rfl
theorem digit_eq (c : UInt8) : xET N (c.toNat : Int) = some (xCS c) := by
  unfold xET xCS
  rw [dge48, dle57]
  cases decide (48 ≤ c.toNat) <;> rfl
variable {S : Str}
def wordS (S : Str) (i : Nat) (n6 p6 : Int) (l : Str) (p : UInt8 → Bool) : Tok × Int :=
  bif decide (S.length - (l.dropWhile p).length - i > 8) then (Tok.mk 1 n6 p6 (List.drop i (List.take (S.length - (l.dropWhile p).length) S)), 0) else (Tok.mk 1 n6 p6 (List.drop i (List.take (S.length - (l.dropWhile p).length) S)), ((S.length - (l.dropWhile p).length - i : Nat) : Int))
theorem sword_scan (hS : S.length ≤ 1000) {i : Nat} (b4 b6 : Tok) : ∀ n j, i ≤ j → j ≤ S.length → S.length < n + j → xDD N n S i (j : Nat) b4 b6 = some (wordS S i b6.n b6.pos (S.drop j) isWd) := by
  intro n j hij hj hn
  have fin : ∀ j : Nat, i ≤ j → j ≤ S.length → (bif (decide (((IntKind.i64.wrap ((j : Int) - (i : Int))) : Int) > 8)) then (
        some ((Tok.mk 1 (Tok.n b6) (Tok.pos b6) (List.drop i (List.take j S))), (0 : Int))
      ) else (
        some ((Tok.mk 1 (Tok.n b6) (Tok.pos b6) (List.drop i (List.take j S))), (IntKind.i64.wrap ((j : Int) - (i : Int))))
      )) = some (bif decide (j - i > 8) then (Tok.mk 1 b6.n b6.pos (List.drop i (List.take j S)), 0) else (Tok.mk 1 b6.n b6.pos (List.drop i (List.take j S)), ((j - i : Nat) : Int))) := by
    intro j h1 h2
    have e1 : IntKind.i64.wrap ((j : Int) - (i : Int)) = ((j - i : Nat) : Int) := by rw [xCk (by omega) (by omega)]; omega
    rw [e1, decide_eq_decide.2 (by omega : ((j - i : Nat) : Int) > 8 ↔ j - i > 8)]
    cases decide (j - i > 8) <;> rfl
  refine xFl (σ := Unit) (L := fun n j _ => xDD N n S i j b4 b6) S (fun l _ => wordS S i b6.n b6.pos l isWd)
    (fun j _ => i ≤ j) (fun n _ hi => ?_) (fun j x l _ hd hj hx hi => ?_) n j () hij hj hn
  · have hi : i ≤ S.length := hi
    simp only [xDD, Int.lt_irrefl, decide_false, cond_false]
    rw [if_pos (by omega)]
    simp only [Int.toNat_natCast, fin _ hi (Nat.le_refl _), wordS, List.dropWhile_nil, List.length_nil, Nat.sub_zero]
    rfl
  · have hi : i ≤ j := hi
    have hj' : (j : Int) < (S.length : Int) := by omega
    have hj2 : (0 : Int) ≤ (j : Int) ∧ (j : Int) < (S.length : Int) := ⟨by omega, hj'⟩
    have hj3 : (0 : Int) ≤ (i : Int) ∧ (i : Int) ≤ (j : Int) ∧ (j : Int) ≤ (S.length : Int) := by omega
    cases hw : isWd x
    · refine .inr fun n => ?_
      have e2 : (x :: l).dropWhile isWd = x :: l := by rw [List.dropWhile_cons]; simp [hw]
      have e3 := (xEF hd).1
      unfold isWd at hw
      rw [Bool.or_eq_false_iff] at hw
      simp only [xDD, decide_eq_true hj', cond_true, cond_false, if_pos hj2, if_pos hj3, Int.toNat_natCast, xCw hx, letter_eq, digit_eq, hw.1, hw.2, Option.bind_some, fin _ hi (by omega : j ≤ S.length), wordS, e2, e3]
    · refine .inl ⟨(), by omega, ?_, fun n => ?_⟩
      · have e2 : (x :: l).dropWhile isWd = l.dropWhile isWd := by rw [List.dropWhile_cons]; simp [hw]
        simp only [wordS, e2]
      · unfold isWd at hw
        simp only [xDD, decide_eq_true hj', cond_true, if_pos hj2, Int.toNat_natCast, xCw hx, letter_eq, digit_eq, Option.bind_some, xBV hj (by omega : S.length ≤ _)]
        cases h1 : xGy x
        · rw [h1, Bool.false_or] at hw
          rw [hw]; rfl
        · rfl
def LxS (s : Str) (o : Option (Tok × Str)) (x : Tok × Int) : Prop := match o with
  | some (t, r) => x = (t, ((s.length - r.length : Nat) : Int))
  | none => x.2 = 0
theorem xFT {p : UInt8 → Bool} {c : UInt8} (l : Str) (h : p c = true) : (c :: l).dropWhile p = l.dropWhile p := by rw [List.dropWhile_cons]; simp [h]
theorem snum_scan (hS : S.length ≤ 1000) (hN : 1000 < N) {i : Nat} {c : UInt8} {l0 : Str} (hd0 : S.drop i = c :: l0) (hc : xCS c = true) (hL : xGy c = false) (b4 : Tok) (p6 : Int) (hp : p6 = i) : ∀ n j, i < j → j ≤ S.length → S.length < n + j → (c :: l0).dropWhile xCS = (S.drop j).dropWhile xCS →
    ∃ x, xDi N n S i (j : Nat) b4 (Tok.mk 0 0 p6 []) = some x ∧ LxS (c :: l0) (xGZ i (c :: l0)) x := by
  obtain ⟨g1, g2⟩ := xEF hd0
  obtain ⟨gi, gx, gd⟩ := xDq hd0
  have hq := xEm (p := xCS) l0
  have hsame := xFT (p := xCS) l0 hc
  have fin : ∀ j : Nat, i < j → j ≤ S.length → S.length - j = ((c :: l0).dropWhile xCS).length → ∃ x, (Option.bind (xEB N (List.drop i (List.take j S))) fun r2 =>
        bif (!r2.2) then (
          some ((Tok.mk 2 r2.1 p6 []), 0)
        ) else (
          bif (decide ((r2.1 : Int) > 1000000000)) then (
            some ((Tok.mk 2 r2.1 p6 []), 0)
          ) else (
            some ((Tok.mk 2 r2.1 p6 []), (IntKind.i64.wrap ((j : Int) - (i : Int))))
          )
        )) = some x ∧ LxS (c :: l0) (xGZ i (c :: l0)) x := by
    intro j h1 h2 h3
    have ew : List.drop i (List.take j S) = (c :: l0).take ((c :: l0).length - ((c :: l0).dropWhile xCS).length) := by
      have := xG8 (S := S) (s := c :: l0) hd0 (by omega) (k := ((c :: l0).dropWhile xCS).length) (xEm _)
      rw [← this, show S.length - ((c :: l0).dropWhile xCS).length = j from by omega]
    have hall : ((c :: l0).take ((c :: l0).length - ((c :: l0).dropWhile xCS).length)).all xCS = true := by
      have : (c :: l0).take ((c :: l0).length - ((c :: l0).dropWhile xCS).length) = (c :: l0).takeWhile xCS := by
        have e := List.takeWhile_append_dropWhile (p := xCS) (l := c :: l0)
        have hl := congrArg List.length e
        rw [List.length_append] at hl
        conv => lhs; arg 2; rw [← e]
        rw [show (c :: l0).length - ((c :: l0).dropWhile xCS).length = ((c :: l0).takeWhile xCS).length from by omega, List.take_left']
        rfl
      rw [this]
      exact List.all_takeWhile
    have hne : (c :: l0).take ((c :: l0).length - ((c :: l0).dropWhile xCS).length) ≠ [] := by
      intro he
      have := congrArg List.length he
      rw [List.length_take, hsame, List.length_nil] at this
      simp only [List.length_cons] at this
      omega
    obtain ⟨n, ok, e1, e2, e3⟩ := spec_ParseInt_eq (N := N) hall hne (by rw [List.length_take]; simp only [List.length_cons] at g2 ⊢; omega) hN
    rw [ew, e1, Option.bind_some, xD3, hL, hc]
    simp only [cond_true, cond_false]
    rw [← e2] at e3 ⊢
    have e4 : IntKind.i64.wrap ((j : Int) - (i : Int)) = (((c :: l0).length - ((c :: l0).dropWhile xCS).length : Nat) : Int) := by rw [xCk (by omega) (by omega)]; omega
    cases ok
    · exact ⟨_, rfl, rfl⟩
    · cases hb : decide (n > 1000000000)
      · rw [hb] at e3
        have e3 := e3 rfl
        refine ⟨_, rfl, ?_⟩
        show (_, _) = (_, _)
        rw [e4, ← e3, hp]
      · exact ⟨_, rfl, rfl⟩
  intro n
  induction n with
  | zero => intro j h1 h2 h3; omega
  | succ n ih =>
    intro j h1 h2 h3 h4
    cases hd : S.drop j with
    | nil =>
      have := xGe hd
      obtain rfl : j = S.length := by omega
      rw [hd] at h4
      simp only [xDi, Int.lt_irrefl, decide_false, cond_false]
      rw [if_pos (by omega)]
      simp only [Int.toNat_natCast]
      exact fin _ h1 h2 (by rw [h4]; simp)
    | cons x l =>
      obtain ⟨k1, k2, k3⟩ := xDq hd
      have hj' : (j : Int) < (S.length : Int) := by omega
      have hj2 : (0 : Int) ≤ (j : Int) ∧ (j : Int) < (S.length : Int) := ⟨by omega, hj'⟩
      have hj3 : (0 : Int) ≤ (i : Int) ∧ (i : Int) ≤ (j : Int) ∧ (j : Int) ≤ (S.length : Int) := by omega
      simp only [xDi, decide_eq_true hj', cond_true, if_pos hj2, if_pos hj3, Int.toNat_natCast, xCw k2, digit_eq, Option.bind_some, xBV k1 (by omega : S.length ≤ _)]
      cases hw : xCS x
      · have e2 : (x :: l).dropWhile xCS = x :: l := by rw [List.dropWhile_cons]; simp [hw]
        rw [hd, e2] at h4
        exact fin j h1 h2 (by rw [h4]; have := (xEF hd).2; omega)
      · have e2 : (x :: l).dropWhile xCS = l.dropWhile xCS := xFT l hw
        exact ih (j + 1) (by omega) (by omega) (by omega) (by rw [h4, hd, e2, k3])
theorem sq_scan (hS : S.length ≤ 1000) (hN : 1000 < N) {i : Nat} {c : UInt8} {l0 : Str} (hd0 : S.drop i = c :: l0) (h34 : (c.toNat == 34) = true) (hD : xCS c = false) (hL : xGy c = false) (b4 : Tok) (p6 : Int) (hp : p6 = i) : ∀ n j, i < j → j ≤ S.length → S.length < n + j → l0.dropWhile notQ = (S.drop j).dropWhile notQ →
    ∃ x, xEx N n S i (j : Nat) b4 (Tok.mk 0 0 p6 []) = some x ∧ LxS (c :: l0) (xGZ i (c :: l0)) x := by
  obtain ⟨g1, g2⟩ := xEF hd0
  obtain ⟨gi, gx, gd⟩ := xDq hd0
  have hq := xEm (p := notQ) l0
  simp only [List.length_cons] at g1 g2
  have w1 : IntKind.i64.wrap ((i : Int) + 1) = ((i + 1 : Nat) : Int) := xBV gi (by omega)
  intro n
  induction n with
  | zero => intro j h1 h2 h3; omega
  | succ n ih =>
    intro j h1 h2 h3 h4
    cases hd : S.drop j with
    | nil =>
      have := xGe hd
      obtain rfl : j = S.length := by omega
      rw [hd] at h4
      simp only [xEx, Int.lt_irrefl, decide_false, cond_false, w1]
      rw [if_pos (by omega)]
      simp only [beq_self_eq_true, cond_true]
      refine ⟨_, rfl, ?_⟩
      rw [xD3, hL, hD, h34, h4]
      rfl
    | cons x l =>
      obtain ⟨k1, k2, k3⟩ := xDq hd
      have hj' : (j : Int) < (S.length : Int) := by omega
      have hj2 : (0 : Int) ≤ (j : Int) ∧ (j : Int) < (S.length : Int) := ⟨by omega, hj'⟩
      have hj3 : (0 : Int) ≤ ((i + 1 : Nat) : Int) ∧ ((i + 1 : Nat) : Int) ≤ (j : Int) ∧ (j : Int) ≤ (S.length : Int) := by omega
      simp only [xEx, decide_eq_true hj', cond_true, if_pos hj2, w1, if_pos hj3, Int.toNat_natCast, xCw k2, bne, beq34, xBV k1 (by omega : S.length ≤ _)]
      cases hw : x.toNat == 34
      · have e2 : (x :: l).dropWhile notQ = l.dropWhile notQ := xFT l (by unfold notQ; rw [hw]; rfl)
        exact ih (j + 1) (by omega) (by omega) (by omega) (by rw [h4, hd, e2, k3])
      · have e2 : (x :: l).dropWhile notQ = x :: l := by rw [List.dropWhile_cons]; simp [notQ, hw]
        rw [hd, e2] at h4
        rw [h4] at hq
        simp only [List.length_cons] at hq
        have hjl := (xEF hd).2
        simp only [List.length_cons] at hjl
        have ew : List.drop (i + 1) (List.take j S) = l0.take (l0.length - (x :: l).length) := by
          have := xG8 (S := S) (s := l0) gd (by omega) (k := (x :: l).length) (by simp only [List.length_cons]; omega)
          rw [← this, show S.length - (x :: l).length = j from by simp only [List.length_cons]; omega]
        have ht : (l0.take (l0.length - (x :: l).length)).length ≤ 1000 := by rw [List.length_take]; omega
        have ne : ((j : Int) == (S.length : Int)) = false := beq_eq_false_iff_ne.2 (by omega)
        have e4 : IntKind.i64.wrap (((j + 1 : Nat) : Int) - (i : Int)) = (((c :: l0).length - l.length : Nat) : Int) := by rw [xCk (by omega) (by omega)]; simp only [List.length_cons]; omega
        simp only [Bool.not_true, cond_false, ne, ew]
        rw [xFf (N := N) (by omega) (by omega), Option.bind_some, xD3, hL, hD, h34, h4]
        simp only [cond_true, cond_false]
        cases xG9 (l0.take (l0.length - (x :: l).length))
        · exact ⟨_, rfl, rfl⟩
        · refine ⟨_, rfl, ?_⟩
          show (_, _) = (_, _)
          rw [e4, hp]
theorem idx_any (c : UInt8) : ∀ l : Str, decide (Lib.indexByte l c ≥ 0) = l.any fun b => b.toNat == c.toNat
  | [] => rfl
  | b :: l => by
    have ih := idx_any c l
    have h1 := Lib.indexByte_ge l c
    have e : Lib.indexByte (b :: l) c = if b == c then 0 else if Lib.indexByte l c == -1 then -1 else Lib.indexByte l c + 1 := rfl
    rw [List.any_cons, ← ih, e, toNat_eq b c]
    cases b.toNat == c.toNat
    · simp only [Bool.false_eq_true, if_false, Bool.false_or]
      by_cases h : Lib.indexByte l c = -1
      · rw [h]; rfl
      · rw [show (Lib.indexByte l c == -1) = false from beq_eq_false_iff_ne.2 h]
        simp only [Bool.false_eq_true, if_false]
        rw [decide_eq_true (by omega), decide_eq_true (by omega)]
    · rfl
theorem beqc (c : UInt8) (k : Nat) : (((c.toNat : Int) : Int) == (k : Int)) = (c.toNat == k) := beqI c.toNat k
def head61 : Str → Bool
  | [] => false
  | d :: _ => 61 == d.toNat
def symN (c : UInt8) (l : Str) : Nat := bif Lib.hasPrefix (c :: l) [61, 61] then 2 else bif symOk c then 1 else 0
theorem symbol_eq (hS : S.length ≤ 1000) {i : Nat} {c : UInt8} {l : Str} (hd : S.drop i = c :: l) : xFu N S i = some ((symN c l : Nat) : Int) := by
  obtain ⟨g1, g2⟩ := xEF hd
  obtain ⟨gi, gx, gd⟩ := xDq hd
  have w1 : IntKind.i64.wrap ((i : Int) + 1) = ((i + 1 : Nat) : Int) := xBV gi (by omega)
  have hok : symOk c = (40 == c.toNat || (41 == c.toNat || (91 == c.toNat || (93 == c.toNat || (44 == c.toNat || (43 == c.toNat || (45 == c.toNat || (42 == c.toNat || (60 == c.toNat || (61 == c.toNat || false)))))))))) := by
    unfold symOk; rw [idx_any]; rfl
  have hpre : Lib.hasPrefix (c :: l) [61, 61] = (61 == c.toNat && head61 l) := by
    unfold Lib.hasPrefix
    cases l with
    | nil => simp [List.isPrefixOf, head61]
    | cons d r =>
      simp only [List.isPrefixOf, toNat_eq, Bool.and_true, head61]; rfl
  have b (k : Nat) : (c.toNat == k) = (k == c.toNat) := by
    by_cases h : c.toNat = k
    · rw [h]
    · rw [beq_eq_false_iff_ne.2 h, beq_eq_false_iff_ne.2 (fun e => h e.symm)]
  unfold xFu
  rw [if_pos (by omega)]
  have k40 := (beqc c 40).trans (b 40); have k41 := (beqc c 41).trans (b 41); have k91 := (beqc c 91).trans (b 91); have k93 := (beqc c 93).trans (b 93); have k44 := (beqc c 44).trans (b 44)
  have k43 := (beqc c 43).trans (b 43); have k45 := (beqc c 45).trans (b 45); have k42 := (beqc c 42).trans (b 42); have k60 := (beqc c 60).trans (b 60); have k61 := (beqc c 61).trans (b 61)
  simp only [Int.toNat_natCast, xCw gx, w1]
  unfold symN
  rw [hok, hpre]
  have no61 : ∀ k : Nat, k ≠ 61 → (k == c.toNat) = true → (61 == c.toNat) = false := fun k hk h => beq_eq_false_iff_ne.2 fun e => hk ((beq_iff_eq.1 h).trans e.symm)
  have fin : (bif (decide (((i + 1 : Nat) : Int) < (List.length S : Int))) then (
                        if (0 : Int) ≤ ((i + 1 : Nat) : Int) ∧ ((i + 1 : Nat) : Int) < (List.length S) then
                        bif ((((List.getD S (i + 1) 0).toNat : Int) : Int) == 61) then (
                          some (2 : Int)
                        ) else (
                          some 1
                        )
                        else none
                      ) else (
                        some 1
                      )) = some (((bif head61 l then 2 else 1 : Nat)) : Int) := by
    cases l with
    | nil =>
      simp only [List.length_cons, List.length_nil] at g2
      rw [decide_eq_false (by omega)]; rfl
    | cons d r =>
      simp only [List.length_cons] at g2
      obtain ⟨ji, jx, jd⟩ := xDq gd
      rw [decide_eq_true (by omega), cond_true, if_pos (by omega), xCw jx]
      have bd : (((d.toNat : Int) : Int) == 61) = (61 == d.toNat) := (beqI d.toNat 61).trans (by
        by_cases h : d.toNat = 61
        · rw [h]
        · rw [beq_eq_false_iff_ne.2 h, beq_eq_false_iff_ne.2 (fun e => h e.symm)])
      rw [bd, show head61 (d :: r) = (61 == d.toNat) from rfl]
      cases (61 == d.toNat) <;> rfl
  rw [fin]
  have k40 : (((c.toNat : Int) : Int) == 40) = (40 == c.toNat) := k40
  have k41 : (((c.toNat : Int) : Int) == 41) = (41 == c.toNat) := k41
  have k91 : (((c.toNat : Int) : Int) == 91) = (91 == c.toNat) := k91
  have k93 : (((c.toNat : Int) : Int) == 93) = (93 == c.toNat) := k93
  have k44 : (((c.toNat : Int) : Int) == 44) = (44 == c.toNat) := k44
  have k43 : (((c.toNat : Int) : Int) == 43) = (43 == c.toNat) := k43
  have k45 : (((c.toNat : Int) : Int) == 45) = (45 == c.toNat) := k45
  have k42 : (((c.toNat : Int) : Int) == 42) = (42 == c.toNat) := k42
  have k60 : (((c.toNat : Int) : Int) == 60) = (60 == c.toNat) := k60
  have k61 : (((c.toNat : Int) : Int) == 61) = (61 == c.toNat) := k61
  rw [k40, k41, k91, k93, k44, k43, k45, k42, k60, k61]
  cases h1 : (40 == c.toNat)
  · cases h2 : (41 == c.toNat)
    · cases h3 : (91 == c.toNat)
      · cases h4 : (93 == c.toNat)
        · cases h5 : (44 == c.toNat)
          · cases h6 : (43 == c.toNat)
            · cases h7 : (45 == c.toNat)
              · cases h8 : (42 == c.toNat)
                · cases h9 : (60 == c.toNat)
                  · cases h10 : (61 == c.toNat)
                    · rfl
                    · simp only [cond_false, cond_true, Bool.true_and, Bool.or_true, Bool.false_or, Bool.true_or]
                  · rw [no61 60 (by decide) h9]; rfl
                · rw [no61 42 (by decide) h8]; rfl
              · rw [no61 45 (by decide) h7]; rfl
            · rw [no61 43 (by decide) h6]; rfl
          · rw [no61 44 (by decide) h5]; rfl
        · rw [no61 93 (by decide) h4]; rfl
      · rw [no61 91 (by decide) h3]; rfl
    · rw [no61 41 (by decide) h2]; rfl
  · rw [no61 40 (by decide) h1]; rfl
theorem next_l9 (hS : S.length ≤ 1000) (hN : 1000 < N) {i : Nat} {c : UInt8} {l : Str} (hd : S.drop i = c :: l) : ∃ x, xGb N S i = some x ∧ LxS (c :: l) (xGZ i (c :: l)) x := by
  obtain ⟨e1, e2⟩ := xEF hd
  obtain ⟨hi, hx, hd1⟩ := xDq hd
  simp only [List.length_cons] at e1 e2
  have w1 : IntKind.i64.wrap ((i : Int) + 1) = ((i + 1 : Nat) : Int) := xBV hi (by omega)
  unfold xGb
  rw [if_pos (by omega)]
  simp only [Int.toNat_natCast, xCw hx, letter_eq, digit_eq, Option.bind_some, beq34, w1]
  cases hL : xGy c
  · cases hD : xCS c
    · cases h34 : c.toNat == 34
      · simp only [cond_false]
        rw [symbol_eq hS hd, Option.bind_some]
        have hle : symN c l ≤ (c :: l).length := by
          unfold symN
          cases hp : Lib.hasPrefix (c :: l) [61, 61]
          · cases symOk c <;> simp
          · have : 2 ≤ (c :: l).length := by
              cases l with
              | nil => simp [Lib.hasPrefix, List.isPrefixOf] at hp
              | cons a b => simp
            simpa using this
        simp only [List.length_cons] at hle
        have s2 : symN c l ≤ 2 := by
          unfold symN
          cases Lib.hasPrefix (c :: l) [61, 61] <;> cases symOk c <;> simp
        have v1 : IntKind.i64.wrap ((i : Int) + ((symN c l : Nat) : Int)) = ((i + symN c l : Nat) : Int) := by rw [xCk (by omega) (by omega)]; omega
        have v2 : IntKind.i64.wrap (((i + symN c l : Nat) : Int) - (i : Int)) = ((symN c l : Nat) : Int) := by rw [xCk (by omega) (by omega)]; omega
        have v3 : List.drop i (List.take (i + symN c l) S) = (c :: l).take (symN c l) := by rw [List.drop_take, hd, show i + symN c l - i = symN c l from by omega]
        simp only [v1, v2, Int.toNat_natCast, v3]
        rw [if_pos (by omega), xD3, hL, hD, h34]
        refine ⟨_, rfl, ?_⟩
        simp only [cond_false]
        unfold symN at s2 ⊢
        cases hp : Lib.hasPrefix (c :: l) [61, 61]
        · cases symOk c
          · rfl
          · show (_, _) = (_, _)
            simp
        · have h2 : l.tail.length + 1 = l.length := by
            cases l with
            | nil => simp [Lib.hasPrefix, List.isPrefixOf] at hp
            | cons a b => rfl
          have h3 : (c :: l).take 2 = [61, 61] := by
            cases l with
            | nil => simp [Lib.hasPrefix, List.isPrefixOf] at hp
            | cons a b =>
              simp only [Lib.hasPrefix, List.isPrefixOf, Bool.and_eq_true, beq_iff_eq] at hp
              obtain ⟨rfl, rfl, _⟩ := hp
              rfl
          show (_, _) = (_, _)
          simp only [cond_true, h3, List.length_cons]
          rw [show l.length + 1 - l.tail.length = 2 from by omega]
      · exact sq_scan hS hN hd h34 hD hL _ _ rfl N (i + 1) (by omega) (by omega) (by omega) (by rw [hd1])
    · simp only [cond_true, cond_false]
      obtain ⟨n, rfl⟩ : ∃ n, N = n + 1 := ⟨N - 1, by omega⟩
      have hj' : (i : Int) < (S.length : Int) := by omega
      have hj2 : (0 : Int) ≤ (i : Int) ∧ (i : Int) < (S.length : Int) := ⟨by omega, hj'⟩
      have step : xDi (n + 1) (n + 1) S i i (Tok.mk 0 0 0 []) (Tok.mk 0 0 i []) = xDi (n + 1) n S i ((i + 1 : Nat) : Int) (Tok.mk 0 0 0 []) (Tok.mk 0 0 i []) := by
        simp only [xDi, decide_eq_true hj', cond_true, if_pos hj2, Int.toNat_natCast, xCw hx, digit_eq, Option.bind_some, hD, w1]
      rw [step]
      exact snum_scan hS hN hd hD hL _ _ rfl n (i + 1) (by omega) (by omega) (by omega) (by rw [hd1, xFT l hD])
  · simp only [cond_true]
    have hw : isWd c = true := by unfold isWd; rw [hL]; rfl
    have hq := xEm (p := isWd) (c :: l)
    have hq2 := xEm (p := isWd) l
    refine ⟨_, sword_scan hS _ _ N i (Nat.le_refl _) (by omega) (by omega), ?_⟩
    rw [hd, xD3, hL, cond_true]
    unfold wordS
    have h0 := xFT l hw
    simp only [List.length_cons] at hq
    rw [xG8 hd (by omega) (by simp only [List.length_cons]; omega), show S.length - ((c :: l).dropWhile isWd).length - i = (c :: l).length - ((c :: l).dropWhile isWd).length from by simp only [List.length_cons]; omega]
    by_cases h8 : (c :: l).length - ((c :: l).dropWhile isWd).length ≤ 8
    · rw [decide_eq_true h8, decide_eq_false (by omega)]; rfl
    · rw [decide_eq_false h8, decide_eq_true (by omega)]; rfl
theorem stokL_eq (hS : S.length ≤ 120) (hN : 1000 < N) : ∀ (m n i : Nat) (acc : List Tok), i ≤ S.length → S.length - i < m → S.length - i < n → acc.length ≤ 60 → xDN N n S acc (i : Nat) = some (lexL m (i : Nat) acc (S.drop i)) := by
  intro m
  induction m with
  | zero => intro n i acc _ h; omega
  | succ m ih =>
    intro n i acc hi hm hn ha
    obtain ⟨n, rfl⟩ : ∃ k, n = k + 1 := ⟨n - 1, by omega⟩
    cases hd : S.drop i with
    | nil =>
      have := xGe hd
      obtain rfl : i = S.length := by omega
      simp only [xDN, Int.lt_irrefl, decide_false, cond_false, lexL]
    | cons c l =>
      obtain ⟨h1, hx, hd1⟩ := xDq hd
      have hi' : (i : Int) < (S.length : Int) := by omega
      simp only [xDN, decide_eq_true hi', cond_true, Int.toNat_natCast, xCw hx, beq32, lexL, xBV h1 (by omega : S.length ≤ _)]
      rw [if_pos (by omega)]
      cases h32 : c.toNat == 32
      · simp only [cond_false]
        obtain ⟨x, hx1, hx2⟩ := next_l9 (N := N) (S := S) (by omega) hN hd
        rw [hx1, Option.bind_some]
        cases ho : xGZ i (c :: l) with
        | none =>
          rw [ho] at hx2
          have hx2 : x.2 = 0 := hx2
          simp only [hx2, beq_self_eq_true, cond_true]
        | some z =>
          obtain ⟨t, r⟩ := z
          rw [ho] at hx2
          have hx2 : x = (t, (((c :: l).length - r.length : Nat) : Int)) := hx2
          subst hx2
          have hl := lexAt_len ho
          have hs : r <:+ S := by
            have : c :: l <:+ S := by rw [← hd]; exact List.drop_suffix _ _
            exact (lexAt_suf ho).trans this
          have hrl := hs.length_le
          obtain ⟨g1, g2⟩ := xEF hd
          have ne0 : ((((c :: l).length - r.length : Nat) : Int) == 0) = false := beq_eq_false_iff_ne.2 (by omega)
          have v1 : IntKind.i64.wrap ((i : Int) + (((c :: l).length - r.length : Nat) : Int)) = ((S.length - r.length : Nat) : Int) := by rw [xCk (by omega) (by omega)]; omega
          have e60 : (((acc.length : Int) : Int) == 60) = (acc.length == 60) := beqI acc.length 60
          simp only [ne0, cond_false, e60, v1]
          cases h60 : acc.length == 60
          · have h60 : acc.length ≠ 60 := beq_eq_false_iff_ne.1 h60
            simp only [cond_false]
            rw [if_pos (by simp only [List.length_cons, List.length_nil]; unfold Lim; omega)]
            rw [ih n (S.length - r.length) (acc ++ [t]) (by omega) (by omega) (by omega) (by simp only [List.length_append, List.length_cons, List.length_nil]; omega), drop_suf hs]
            rw [show ((S.length - r.length : Nat) : Int) = (i : Int) + ((c :: l).length - r.length : Nat) from by omega]
          · rfl
      · simp only [cond_true]
        rw [ih n (i + 1) acc (by omega) (by omega) (by omega) ha, hd1]
        rfl
theorem spec_Tokenize_eq (hN : 1000 < N) (s : Str) : xEX N s = some (lex s) := by
  unfold xEX lex
  have e : decide (((s.length : Int) : Int) > 120) = decide (s.length > 120) := decide_eq_decide.2 (by omega)
  rw [e]
  cases h : decide (s.length > 120)
  · have h := of_decide_eq_false h
    simp only [cond_false]
    exact stokL_eq (S := s) (by omega) hN (s.length + 1) N 0 [] (by omega) (by omega) (by omega) (by simp)
  · rfl
end
end Go.Ab
end
section
namespace Go.Ab
set_option linter.unusedVariables false
set_option linter.unusedSimpArgs false
structure TokG (t : Tok) : Prop where
  kind : I64 t.kind
  n : I64 t.n
  pos : 0 ≤ t.pos ∧ t.pos ≤ 120
  len : t.text.length ≤ 120
  name : t.kind = 1 → ∃ (c : UInt8) (l : Str), t.text = c :: l ∧ 97 ≤ c.toNat
  sym : t.kind = 4 → ∃ (c : UInt8) (l : Str), t.text = c :: l ∧ c.toNat < 97
theorem symOk_lt {c : UInt8} (h : symOk c = true) : c.toNat < 97 := by
  unfold symOk at h
  rw [idx_any] at h
  simp only [List.any_cons, List.any_nil, Bool.or_eq_true, beq_iff_eq, Bool.or_false] at h
  have e : ∀ k : UInt8, k.toNat < 97 → k.toNat = c.toNat → c.toNat < 97 := fun k h1 h2 => by omega
  rcases h with h | h | h | h | h | h | h | h | h | h <;> exact e _ (by decide) h
theorem take_head {c : UInt8} {l : Str} {k : Nat} (h : 0 < k) : ∃ r, (c :: l).take k = c :: r := by
  obtain ⟨k, rfl⟩ : ∃ m, k = m + 1 := ⟨k - 1, by omega⟩
  exact ⟨l.take k, rfl⟩
theorem lexAt_good {p : Int} {s r : Str} {t : Tok} (hp : 0 ≤ p ∧ p ≤ 120) (hs : s.length ≤ 120) (h : xGZ p s = some (t, r)) : TokG t := by
  cases s with
  | nil => cases h
  | cons c l =>
    have d1 := xEm (p := isWd) l
    rw [xD3] at h
    cases h1 : xGy c <;> rw [h1] at h
    · cases h2 : xCS c <;> rw [h2] at h
      · cases h3 : c.toNat == 34 <;> rw [h3] at h
        · cases h4 : Lib.hasPrefix (c :: l) [61, 61] <;> rw [h4] at h
          · obtain ⟨hb, hx⟩ := xFC h
            cases hx
            exact ⟨xBy (x := 4) (by decide), xBy (x := 0) (by decide), hp, by simp, (fun h => by have h : (4 : Int) = 1 := h; omega), fun _ => ⟨c, [], rfl, symOk_lt hb⟩⟩
          · cases h
            exact ⟨xBy (x := 4) (by decide), xBy (x := 0) (by decide), hp, by simp, (fun h => by have h : (4 : Int) = 1 := h; omega), fun _ => ⟨61, [61], rfl, by decide⟩⟩
        · simp only [cond_true, cond_false] at h
          split at h
          · cases h
          · rename_i q r' he
            obtain ⟨hb, hx⟩ := xFC h
            cases hx
            simp only [List.length_cons] at hs
            refine ⟨xBy (by show (0 : Int) ≤ 3 ∧ (3 : Int) ≤ 1000; decide), xBy (by show (0 : Int) ≤ 0 ∧ (0 : Int) ≤ 1000; decide), hp, ?_, fun h => ?_, fun h => ?_⟩
            · show (l.take _).length ≤ 120
              rw [List.length_take]; omega
            · have h : (3 : Int) = 1 := h
              omega
            · have h : (3 : Int) = 4 := h
              omega
      · simp only [cond_true, cond_false] at h
        obtain ⟨hb, hx⟩ := xFC h
        cases hx
        obtain ⟨v, hv, he⟩ := numOf_inv hb
        have hn := numOf_itoa hv
        rw [← he] at hn
        refine ⟨xBy (by show (0 : Int) ≤ 2 ∧ (2 : Int) ≤ 1000; decide), ?_, hp, by simp, fun h => ?_, fun h => ?_⟩
        · show I64 (numOf _ 0 1000000000).1
          rw [hn]; unfold I64; omega
        · have h : (2 : Int) = 1 := h
          omega
        · have h : (2 : Int) = 4 := h
          omega
    · simp only [cond_true] at h
      obtain ⟨hb, hx⟩ := xFC h
      cases hx
      have hw : isWd c = true := by unfold isWd; rw [h1]; rfl
      rw [xFT l hw]
      simp only [List.length_cons] at hs
      obtain ⟨r, hr⟩ := take_head (c := c) (l := l) (k := (c :: l).length - (l.dropWhile isWd).length) (by simp only [List.length_cons]; omega)
      refine ⟨xBy (by show (0 : Int) ≤ 1 ∧ (1 : Int) ≤ 1000; decide), xBy (by show (0 : Int) ≤ 0 ∧ (0 : Int) ≤ 1000; decide), hp, ?_, fun _ => ⟨c, r, hr, ?_⟩, fun h => ?_⟩
      · show ((c :: l).take _).length ≤ 120
        rw [List.length_take]; simp only [List.length_cons]; omega
      · unfold xGy at h1
        simp only [Bool.and_eq_true, decide_eq_true_eq] at h1
        exact h1.1
      · have h : (1 : Int) = 4 := h
        omega
theorem lexL_good : ∀ (n : Nat) (p : Int) (acc : List Tok) (s : Str), 0 ≤ p → p + s.length ≤ 120 → acc.length ≤ 60 → (∀ t ∈ acc, TokG t) → (∀ t ∈ (lexL n p acc s).1, TokG t) ∧ (lexL n p acc s).1.length ≤ 60 ∧ ((lexL n p acc s).2 = -1 ∨ (0 ≤ (lexL n p acc s).2 ∧ (lexL n p acc s).2 ≤ p + s.length)) := by
  intro n
  induction n with
  | zero => intro p acc s h1 h2 _ _; exact ⟨(fun t ht => by cases ht), by simp [lexL], .inr (by simp only [lexL]; omega)⟩
  | succ n ih =>
    intro p acc s h1 h2 h3 h4
    cases s with
    | nil => exact ⟨h4, h3, .inl rfl⟩
    | cons c l =>
      simp only [lexL]
      cases c.toNat == 32
      · simp only [cond_false]
        have hl : (c :: l).length ≤ 120 := by simp only [List.length_cons] at h2 ⊢; omega
        cases ho : xGZ p (c :: l) with
        | none => exact ⟨(fun t ht => by cases ht), by simp, .inr (by simp only; omega)⟩
        | some z =>
          obtain ⟨t, r⟩ := z
          have hg := lexAt_good (by omega) hl ho
          have hr := lexAt_len ho
          simp only
          cases h60 : acc.length == 60
          · have h60 : acc.length ≠ 60 := beq_eq_false_iff_ne.1 h60
            simp only [cond_false]
            have := ih (p + ((c :: l).length - r.length : Nat)) (acc ++ [t]) r (by omega) (by omega) (by simp only [List.length_append, List.length_cons, List.length_nil]; omega) (fun x hx => by
              rcases List.mem_append.1 hx with hx | hx
              · exact h4 x hx
              · rw [List.mem_singleton.1 hx]; exact hg)
            refine ⟨this.1, this.2.1, ?_⟩
            rcases this.2.2 with h | ⟨ha, hb⟩
            · exact .inl h
            · exact .inr ⟨ha, by omega⟩
          · exact ⟨(fun t ht => by cases ht), by simp, .inr (by simp only [cond_true]; omega)⟩
      · simp only [cond_true]
        simp only [List.length_cons] at h2
        have := ih (p + 1) acc l (by omega) (by omega) h3 h4
        refine ⟨this.1, this.2.1, ?_⟩
        rcases this.2.2 with h | ⟨ha, hb⟩
        · exact .inl h
        · exact .inr ⟨ha, by simp only [List.length_cons]; omega⟩
theorem lex_good (s : Str) : (∀ t ∈ (lex s).1, TokG t) ∧ (lex s).1.length ≤ 60 ∧ ((lex s).2 = -1 ∨ (0 ≤ (lex s).2 ∧ (lex s).2 ≤ s.length)) := by
  unfold lex
  cases h : decide (s.length > 120)
  · have h := of_decide_eq_false h
    have := lexL_good (s.length + 1) 0 [] s (by omega) (by omega) (by simp) (fun t ht => by cases ht)
    refine ⟨this.1, this.2.1, ?_⟩
    rcases this.2.2 with h | ⟨ha, hb⟩
    · exact .inl h
    · exact .inr ⟨ha, by simp only [cond_false]; omega⟩
  · have h := of_decide_eq_true h
    exact ⟨(fun t ht => by cases ht), by simp, .inr (by simp only [cond_true]; omega)⟩
theorem tw_le : ∀ ts : List Tok, (∀ t ∈ ts, TokG t) → tw ts ≤ 123 * ts.length
  | [], _ => Nat.le_refl _
  | t :: r, h => by
    have h1 := (h t List.mem_cons_self).len
    have h2 := tw_le r fun x hx => h x (List.mem_cons_of_mem _ hx)
    rw [tw_cons, List.length_cons]; omega
theorem tokG_T {T : List Tok} (h : ∀ t ∈ T, TokG t) (hl : T.length ≤ 60) : TokT 10000 T where
  len := by omega
  fit := fun t ht => ⟨(h t ht).kind, (h t ht).n, by have := (h t ht).pos; unfold I64; omega, Nat.le_trans (h t ht).len (by omega)⟩
  tw := by have := tw_le T h; omega
theorem tokG_W {T : List Tok} (h : ∀ t ∈ T, TokG t) {L : Int} (hL : 0 ≤ L) : TokW T L where
  pos := fun t ht => (h t ht).pos.1
  fin := hL
  name := fun t ht => (h t ht).name
  sym := fun t ht => (h t ht).sym
def parseT (L : Int) (T : List Tok) : Exp × Int := match pE (T.length + 1) T with
  | .err ts => (e0, offT L ts)
  | .ok e [] => bif xFw e then (e, -1) else (e0, 0)
  | .ok e (t :: _) => (e0, t.pos)
def xG0 (s : Str) : Exp × Int := bif decide ((lex s).2 ≥ 0) then (e0, (lex s).2) else parseT s.length (lex s).1
theorem parse_light {T : List Tok} (hT : TokT 10000 T) {e : Exp} {r : List Tok} (h : pE (T.length + 1) T = .ok e r) : e.Fit 10000 ∧ e.size ≤ 10000 := by
  obtain ⟨⟨h1, h2⟩, _⟩ := xEA (K := 10000) (T.length + 1) T e r hT.fit hT.tw h
  have := hT.tw
  exact ⟨h2, by omega⟩
theorem gp_at {T : List Tok} {t : Tok} {q : List Tok} (h : t :: q <:+ T) : T.length - (t :: q).length < T.length ∧ List.getD T (T.length - (t :: q).length) Ty.tok.dflt = t := by
  obtain ⟨pre, rfl⟩ := h
  have e : (pre ++ t :: q).length - (t :: q).length = pre.length := by rw [List.length_append]; omega
  rw [e]
  exact ⟨by simp, by simp [List.getD]⟩
theorem impl_parseT {N : Nat} {T : List Tok} {s : Str} (hT : TokT 10000 T) (hl : T.length ≤ 60) (hN : 20000 < N) (hv : ∀ e r, pE (T.length + 1) T = .ok e r → xCI N e = some (xFw e)) (ht : xEW N s = some (T, -1)) :
    xEi N s = some (parseT s.length T) := by
  have hs := pE_sim (N := N) hT (by omega) (by omega) (by omega) (T.length + 1) N (by omega) T (List.suffix_refl T) (by omega)
  have hx : xE7 N (Psr.mk T 0 (-1)) = (xAb N N).c_impl_parser_expr (gp T T) := by
    unfold xE7 gp
    rw [Nat.sub_self]; rfl
  unfold xEi parseT
  rw [ht, Option.bind_some]
  simp only [show decide ((-1 : Int) ≥ 0) = false from rfl, cond_false, hx]
  cases hp : pE (T.length + 1) T with
  | err ts =>
    rw [hp] at hs
    obtain ⟨a, p, h1, h2, h3, h4⟩ := hs
    rw [h1, Option.bind_some]
    have hnn : 0 ≤ p.bad := by rw [h3]; omega
    rw [decide_eq_false (by omega : ¬ p.bad < 0), cond_false]
    have hle := h4.length_le
    cases ts with
    | nil => rw [decide_eq_true (by rw [h3]; simp : p.bad ≥ (T.length : Int)), cond_true]; rfl
    | cons t q =>
      obtain ⟨g1, g2⟩ := gp_at h4
      rw [decide_eq_false (by rw [h3]; omega), cond_false, decide_eq_true (by omega : p.bad ≥ 0), cond_true, if_pos (by rw [h3]; omega), h3, Int.toNat_natCast, g2]; rfl
  | ok e ts =>
    rw [hp] at hs
    obtain ⟨h1, h2⟩ := hs
    rw [h2, Option.bind_some]
    rw [gp_bad, decm1, cond_true]
    cases ts with
    | nil =>
      have e1 : decide ((gp T []).pos < (T.length : Int)) = false := decide_eq_false (by simp [gp])
      rw [e1, cond_false, decide_eq_false (by omega : ¬ (-1 : Int) ≥ (T.length : Int)), cond_false]
      rw [show decide ((-1 : Int) ≥ 0) = false from rfl, cond_false, hv e [] hp, Option.bind_some]
      show _ = some (bif xFw e then (e, -1) else (e0, 0))
      cases xFw e <;> rfl
    | cons t q =>
      obtain ⟨g1, g2⟩ := gp_at h1
      have e1 : (gp T (t :: q)).pos = ((T.length - (t :: q).length : Nat) : Int) := rfl
      rw [e1, decide_eq_true (by omega), cond_true, decide_eq_false (by omega), cond_false, decide_eq_true (by omega), cond_true, if_pos (by omega), Int.toNat_natCast, g2]
theorem spec_parseT {N : Nat} {T : List Tok} {s : Str} (hT : TokT 10000 T) (hW : TokW T s.length) (hl : T.length ≤ 60) (hN : 20000 < N) (hv : ∀ e r, pE (T.length + 1) T = .ok e r → xCJ N e = some (xFw e)) (ht : xEX N s = some (T, -1)) :
    xEk N s = some (parseT s.length T) := by
  have hs := pE_simR (N := N) hW hT (by omega) (by omega) (by omega) (T.length + 1) N (by omega) T (List.suffix_refl T) (by omega)
  have hx : xGk N (Rdr.mk T 0 (s.length : Int) (-1)) = (xAa N N).c_spec_l11Expr (gr T s.length T) := by
    unfold xGk gr
    rw [Nat.sub_self]; rfl
  unfold xEk parseT
  rw [ht, Option.bind_some]
  simp only [show decide ((-1 : Int) ≥ 0) = false from rfl, cond_false, hx]
  cases hp : pE (T.length + 1) T with
  | err ts =>
    rw [hp] at hs
    obtain ⟨a, p, h1, h2⟩ := hs
    rw [h1, Option.bind_some]
    have hnn := h2.nn hW
    rw [decide_eq_false (by omega : ¬ p.bad < 0), cond_false, decide_eq_true (by omega : p.bad ≥ 0), cond_true, h2.2.2.1]
  | ok e ts =>
    rw [hp] at hs
    obtain ⟨h1, h2⟩ := hs
    rw [h2, Option.bind_some]
    rw [gr_bad, decm1, cond_true]
    cases ts with
    | nil =>
      have e1 : decide ((gr T s.length []).i < (T.length : Int)) = false := decide_eq_false (by simp [gr])
      rw [e1, cond_false]
      rw [show decide ((-1 : Int) ≥ 0) = false from rfl, cond_false, hv e [] hp, Option.bind_some]
      show _ = some (bif xFw e then (e, -1) else (e0, 0))
      cases xFw e <;> rfl
    | cons t q =>
      obtain ⟨g1, g2⟩ := gp_at h1
      have e1 : (gr T s.length (t :: q)).i = ((T.length - (t :: q).length : Nat) : Int) := rfl
      obtain ⟨p, f1, f2⟩ := sfail_eq (L := s.length) N h1
      have hnn := f2.nn hW
      rw [e1, decide_eq_true (by omega), cond_true, f1, Option.bind_some, decide_eq_true (by omega : p.bad ≥ 0), cond_true, f2.2.2.1]; rfl
theorem parse_eq (s : Str) : Big fun N => xEi N s = some (xG0 s) ∧ xEk N s = some (xG0 s) := by
  obtain ⟨g1, g2, g3⟩ := lex_good s
  have hT := tokG_T g1 g2
  have hW := tokG_W g1 (L := s.length) (by omega)
  have hv : Big fun N => ∀ e r, pE ((lex s).1.length + 1) (lex s).1 = .ok e r → xCI N e = some (xFw e) ∧ xCJ N e = some (xFw e) := by
    cases hp : pE ((lex s).1.length + 1) (lex s).1 with
    | err ts => exact Big.of fun N e r h => by cases h
    | ok e ts =>
      obtain ⟨h1, h2⟩ := parse_light hT hp
      refine (validX_eq (K := 10000) (by omega) h1 (by omega)).imp fun N h e' r' he => ?_
      cases he
      exact h
  refine (hv.and (big_lt 20000)).imp fun N ⟨h, hN⟩ => ?_
  have t1 := impl_Tokenize_eq (N := N) (by omega) s
  have t2 := spec_Tokenize_eq (N := N) (by omega) s
  unfold xG0
  rcases g3 with g3 | ⟨g3, g4⟩
  · have e : lex s = ((lex s).1, -1) := by rw [← g3]
    rw [e] at t1 t2
    rw [g3]
    simp only [show decide ((-1 : Int) ≥ 0) = false from rfl, cond_false]
    exact ⟨impl_parseT hT g2 hN (fun e r he => (h e r he).1) t1, spec_parseT hT hW g2 hN (fun e r he => (h e r he).2) t2⟩
  · unfold xEi xEk
    rw [t1, t2]
    simp only [Option.bind_some, decide_eq_true g3, cond_true]
    exact ⟨trivial, trivial⟩
theorem parseP_fit (s : Str) : (xG0 s).1.Fit 10000 ∧ (xG0 s).1.size ≤ 10000 := by
  have z : e0.Fit 10000 ∧ e0.size ≤ 10000 := ⟨xFO (xBy (by decide)) (xBy (by decide)) (Nat.zero_le _) (Nat.zero_le _) (fun x hx => by cases hx), by rw [xFo]; decide⟩
  obtain ⟨g1, g2, g3⟩ := lex_good s
  have hT := tokG_T g1 g2
  unfold xG0
  cases decide ((lex s).2 ≥ 0)
  · simp only [cond_false, parseT]
    cases hp : pE ((lex s).1.length + 1) (lex s).1 with
    | err ts => exact z
    | ok e ts =>
      have := parse_light hT hp
      cases ts with
      | nil =>
        show Exp.Fit 10000 (bif xFw e then (e, (-1 : Int)) else (e0, 0)).1 ∧ (bif xFw e then (e, (-1 : Int)) else (e0, 0)).1.size ≤ 10000
        cases xFw e
        · exact z
        · exact this
      | cons t q => exact z
  · exact z
theorem normal_eq (s : Str) : Big fun N => xEa N s = some (bif decide ((xG0 s).2 ≥ 0) then ([], false) else (fmtE (xG0 s).1, true)) ∧ xEg N s = some (bif decide ((xG0 s).2 ≥ 0) then ([], false) else (fmtE (xG0 s).1, true)) := by
  obtain ⟨f1, f2⟩ := parseP_fit s
  refine ((parse_eq s).and (format_eq (K := 10000) (by omega) f1 (by omega))).imp fun N ⟨⟨h1, h2⟩, h3, h4⟩ => ?_
  unfold xEa xEg
  rw [h1, h2]
  simp only [Option.bind_some, h3, h4]
  cases decide ((xG0 s).2 ≥ 0) <;> exact ⟨rfl, rfl⟩
theorem xFJ (a0 : Str) (f0 : ∀ z ∈ [CV.str a0], DFit z.toD) : ∃ N, xDz N a0 = some true := by
  refine (normal_eq a0).imp (fun N ⟨h1, h2⟩ => ?_) |>.get
  simp only [xDz, h1, h2, Option.bind_some, beq_self_eq_true, Bool.not_true, cond_false]
  cases decide (((a0.length : Int) : Int) > 1048576) <;> rfl
end Go.Ab
end
section
namespace Go.Proofs.YthbobcapimmnhaaGreatDoor
open Go.Ab Go.ChangeShapes Go.WideShapes Go.ChangeAt Go.RowKit
set_option linter.unusedVariables false
theorem own : ownKnob Tryz.prog.godebug = none := by kernel_rfl
theorem laidOut : laidOutB Tryz.prog = true := by kernel_rfl
theorem xGq : ktChk Tryz.prog [] = true := by kernel_rfl
theorem fnExactNormalizeCode_tab {W : World} (h : laidMetH Tryz.prog Rows.fnExactNormalizeCodeRow.laid W) : Go.Lib.TabIs Tryz.prog W Go.Ab.T.p10 .u64 Go.Lib.pow10Tab := by
  rw [MakeChecks.laidMetH_plain _ _ _ (by kernel_rfl)] at h
  exact Go.Lib.tabIs_of_head (g := 3) (t := 137) (e := 123) (n := 20) (by kernel_rfl) (by kernel_rfl) Tryz.underlying137 Tryz.underlying123 (by kernel_rfl) (by kernel_rfl) h.tail.tail
theorem fnExactNormalizeCode_ev {W : World} (h : laidMetH Tryz.prog Rows.fnExactNormalizeCodeRow.laid W) : (∃ t1 p1, W.var? Tryz.prog "strconv.ErrSyntax" = some #[.iface t1 p1]) ∧ ∃ t2 p2, W.var? Tryz.prog "strconv.ErrRange" = some #[.iface t2 p2] := by
  rw [MakeChecks.laidMetH_plain _ _ _ (by kernel_rfl)] at h
  have star : "*" ++ "errors.errorString" = "*errors.errorString" := by decide
  have row : ∀ u, Tryz.prog.typeName? 3 u = some "*errors.errorString" → u = 146 := fun u hu => typeName_ptr_named (nm := "errors.errorString") (by rw [star]; kernel_rfl) (by kernel_rfl) (by decide) u (by rw [star]; exact hu)
  obtain ⟨a_hs, _, hs, _⟩ := laid_sentinel (g := 1) (ti := 99) (tp := 146) (te := 148) (ts := 9) h.tail.tail.tail.tail (by kernel_rfl) (by kernel_rfl) Tryz.underlying99 row Tryz.underlying146 Tryz.underlying148 rfl rfl Tryz.underlying9 (by kernel_rfl) (by kernel_rfl)
  obtain ⟨a_hr, _, hr, _⟩ := laid_sentinel (g := 2) (ti := 99) (tp := 146) (te := 148) (ts := 9) h.tail.tail.tail (by kernel_rfl) (by kernel_rfl) Tryz.underlying99 row Tryz.underlying146 Tryz.underlying148 rfl rfl Tryz.underlying9 (by kernel_rfl) (by kernel_rfl)
  exact ⟨⟨_, _, hs⟩, _, _, hr⟩
set_option maxRecDepth 100000 in
theorem fnExactNormalizeCode_lifted (os : Os) (started : os.Started) (H : Type) (enc : TypeId × Value → H) :
    ReturnsInHanded {} Tryz.checked os 5 .any (fun w args => (Rows.fnExactNormalizeCodeSpec.pre enc Tryz.prog Tryz.f5 Rows.fnExactNormalizeCodeRow.domain false w args ∧ laidMetH Tryz.prog Rows.fnExactNormalizeCodeRow.laid w) ∧ sizedMet enc Tryz.prog Tryz.f5 (OpenSpec.ofChange Rows.fnExactNormalizeCodeSpec) false w args)
      (Rows.fnExactNormalizeCodeSpec.post enc Tryz.prog Tryz.f5 false true false false) := by
  refine returnsInHanded_of_change_and (C := Tryz.checked) (X := fun w _ => laidMetH Tryz.prog Rows.fnExactNormalizeCodeRow.laid w) (fun _ _ _ hh h => h.of_heap hh) own started (by kernel_rfl) Tryz.func5
    (ChangeSpec.witness_shaped (enc := enc) (C := Tryz.checked) (os := os) (X := fun w _ => laidMetH Tryz.prog Rows.fnExactNormalizeCodeRow.laid w) false (World.laidAll Tryz.prog os Rows.fnExactNormalizeCodeRow.laid) #[.string ByteArray.empty] 8 (World.laidAll_os _ _ _)
      (World.shaped_of_ZipB (by kernel_rfl) (by kernel_rfl)) (by kernel_rfl) (by kernel_rfl) (by kernel_rfl)
      (by rw [MakeChecks.laidMetH_plain _ _ _ (by kernel_rfl)]; exact laidMet_laidAll _ (by kernel_rfl) (by kernel_rfl))) ?_
  intro W base args ds gs before hval0 hW hcnd _ hL _
  obtain ⟨g0, o0, hgo, hall⟩ := tab_obj (fnExactNormalizeCode_tab hL)
  obtain ⟨⟨u1, u2, hv1⟩, u3, u4, hv2⟩ := fnExactNormalizeCode_ev hL
  obtain ⟨g3, o3, hgo3, hall3⟩ := var_obj hv1
  obtain ⟨g4, o4, hgo4, hall4⟩ := var_obj hv2
  letI : Inhabited Lb := ⟨⟨[(g0, o0), (g3, o3), (g4, o4)]⟩⟩
  haveI : Nonempty T.Tab10 := ⟨fun w hw => hall w (hw (g0, o0) List.mem_cons_self)⟩
  haveI : Nonempty T.ErrVars := ⟨fun w hw => ⟨⟨u1, u2, hall3 w (hw (g3, o3) (List.mem_cons_of_mem _ List.mem_cons_self))⟩, u3, u4, hall4 w (hw (g4, o4) (List.mem_cons_of_mem _ (List.mem_cons_of_mem _ List.mem_cons_self)))⟩⟩
  have hlb : ∀ x ∈ laidB, W.heap[x.1]? = some x.2 := fun x hx => by
    have hx : x ∈ [(g0, o0), (g3, o3), (g4, o4)] := hx
    simp only [List.mem_cons, List.not_mem_nil, or_false] at hx
    rcases hx with rfl | rfl | rfl <;> first | exact hgo | exact hgo3 | exact hgo4
  have hval : ∀ (j : Nat) t v, Tryz.f5.params[j]? = some t → args[j]? = some v → Value.okWide Tryz.prog W .any base t v := hval0
  have hW' := hW
  obtain ⟨p, q, hA0, hV, rfl, hfz, hnd⟩ := hW
  have hA : DataW.TrodAll enc Tryz.prog W 0 (fun _ => true) true Tryz.f5.params.toList args.toList ds p := hA0
  rw [Tryz.params5] at hA hval
  obtain ⟨v0, vs0, d0, ds0, p0, q0, hargs, rfl, rfl, h0, r0⟩ := trodAll_cons hA
  obtain ⟨rfl, rfl, rfl⟩ := trodAll_nil r0
  obtain rfl : args = #[v0] := by cases args; simp_all
  obtain ⟨rfl, rfl⟩ := trodVars_none hV
  have lt0 : ∀ x ∈ p0, x.block < W.heap.size := by obtain ⟨m, hm⟩ := h0; exact DataW.trod_lt m _ _ _ hm
  obtain ⟨z0, e0, f0, vr0⟩ := vr_of xGq (g := false) (t := 9) (ns := [.inl .str]) (by kernel_rfl) (hval 0 9 v0 rfl rfl) h0
  obtain ⟨x0_0, _, rfl, e0_0⟩ := AreOf.str_inv e0
  obtain rfl := e0_0.nil_inv
  obtain ⟨N, hF⟩ := xFJ x0_0 f0
  clear hA0 hval0
  refine (calls_of T.fk5 (T.laws_FnExactNormalizeCode_ok hF) (W := W) (args := #[v0]) ⟨vr0 _, trivial⟩ hlb).mono fun e W' ⟨he, bel⟩ => ?_
  subst he
  exact ⟨_, rfl, _, _, _, [], _, [], hW', trodAll_mk1 (shut_bool Tryz.underlying4 _), (trodAll_cons_mk (Below.trod laidOut (by kernel_rfl) (of_decide_eq_true (by kernel_rfl)) h0 bel lt0) trodAll_mk0), rfl, bel.frame _, fun h => by cases h⟩
theorem fnExactNormalizeCode_proved : Rows.FnExactNormalizeCodeSaid :=
  OpenClaim.holds_of_wide 5 Tryz.f5 rfl rfl rfl rfl rfl rfl rfl ⟨rfl, rfl, rfl, rfl, rfl⟩ rfl rfl rfl rfl rfl (by kernel_rfl) Tryz.func5 (by kernel_rfl)
    (of_decide_eq_true (by kernel_rfl)) (by unfold Func.isWrapper; first | (rw [if_pos (by decide +kernel)]; kernel_rfl) | (rw [if_neg (by decide +kernel)]; exact ⟨rfl, rfl⟩))
    (fun os started H enc _ => fnExactNormalizeCode_lifted os started H enc)
theorem fnExactNormalizeCode_card : Rows.FnExactNormalizeCodeCardSaid :=
  Claim7.holds_tied_plain_at .later [] Rows.fnExactNormalizeCodeCard.laidKinds true Rows.fnExactNormalizeCodeCard.stood.harness Rows.fnExactNormalizeCodeCard.stood.looks fnExactNormalizeCode_proved (fun _ h => by cases h) (by kernel_rfl) (fun _ h => by cases h) fnExactNormalizeCode_row_tie rfl ⟨rfl, rfl⟩ (by kernel_rfl) rfl
    (fun f fn hf hfn => by
      obtain rfl : f = 5 := Option.some.inj ((show Tryz.prog.funcNamed Rows.fnExactNormalizeCodeRow.func = some 5 by kernel_rfl).symm.trans hf) |>.symm
      obtain rfl : fn = Tryz.f5 := (Option.some.inj (Tryz.func5.symm.trans hfn)).symm
      exact ⟨by kernel_rfl, fun j t ht => by
        rw [Tryz.params5] at ht
        have hm : t ∈ [9] := by simpa using Array.mem_of_getElem? ht
        have hall : ([9].all fun u => !Tryz.prog.wantsStandIn u) = true := by kernel_rfl
        exact (show Tryz.prog.wantsStandIn t = false by simpa using List.all_eq_true.1 hall t hm)⟩)
    (by kernel_rfl)
end Go.Proofs.YthbobcapimmnhaaGreatDoor
end
