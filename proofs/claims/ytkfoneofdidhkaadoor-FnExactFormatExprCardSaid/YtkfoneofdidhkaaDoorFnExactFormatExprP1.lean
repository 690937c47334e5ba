/- The statement FnExactFormatExpr holds: plain functions, certificates, laws. Conditions: none. -/
import Derived.Test.YtkfoneofdidhkaaDoorL2
import Derived.Test.YtkfoneofdidhkaaDoorFnExactFormatExprP0
set_option linter.all false
section
namespace Go.Ab
set_option linter.unusedVariables false
theorem szExpr_big : ∀ e : Exp, e.Fit maxLen → Big2 fun N d => ∀ l, 0 ≤ l → l ≤ 1048576 → (xA4 N d).c_laws_szExpr e l = some (left e.size l) := by
  refine Exp.ind fun k n t a ih h => ?_
  obtain ⟨h1, h2, h3, h4⟩ := Exp.fit_iff.1 h
  refine Big2.succ (Big2.succ ?_)
  refine ((Big2.list fun x hx => ih x hx (h4.2 x hx)).and (big_lt a.length).two).imp fun N d ⟨hx, hn⟩ l h0 l1 => ?_
  rw [Exp.size_eq]
  exact szThen h3 h0 l1 rfl fun m m0 m1 => left_two (szThen h4.1 m0 m1 rfl fun m m0 m1 =>
    szLoop (L := fun n x0 x1 x5 => xCL N (xA4 N d).c_laws_szExpr (xA4 N d).c_laws_szExprS n x0 x1 x5) (d := Ty.exp.dflt) (sz := (xA4 N d).c_laws_szExpr)
      (fun _ _ _ => rfl) h4.1 (fun x hxm l h0 h1 => hx x hxm l h0 h1) hn m0 m1)
theorem toExpr_big {K : Nat} (hK : K ≤ 1048576) : ∀ e : Exp, e.Fit K → Big2 fun N d => (xAB N d).c_laws_toExpr e = some e := by
  refine Exp.ind fun k n t a ih h => ?_
  obtain ⟨h1, h2, h3, h4⟩ := Exp.fit_iff.1 h
  refine Big2.succ (Big2.succ ?_)
  refine ((Big2.list fun x hx => ih x hx (h4.2 x hx)).and (big_lt a.length).two).imp fun N d ⟨hx, hn⟩ => ?_
  have hl : a.length ≤ K := h4.1
  have key : (xAB N (d + 1)).c_laws_toExprS a = some a := by
    show xB5 _ _ _ a = _
    unfold xB5
    rw [if_pos ⟨by omega, rfl, by unfold Lim; omega⟩]
    exact toLoop (L := fun n x0 x3 x4 => xCM N (xAB N d).c_laws_toExpr (xAB N d).c_laws_toExprS n x0 x3 x4) (to := (xAB N d).c_laws_toExpr) (re := Exp.re) (fun _ _ _ => rfl) (by omega) (fun x hxm => ⟨x, hx x hxm, Exp.re_eq x⟩) hn
  show xCg N (xAB N (d + 1)).c_laws_toExpr (xAB N (d + 1)).c_laws_toExprS _ = _
  unfold xCg
  show Option.bind ((xAB N (d + 1)).c_laws_toExprS a) _ = _
  rw [key]; rfl
theorem eqExpr_big {K : Nat} (hK : K ≤ 9223372036854775807) : ∀ e : Exp, e.Fit K → Big2 fun N d => (xAM N d).c_laws_eqExpr e e = some true := by
  refine Exp.ind fun k n t a ih h => ?_
  obtain ⟨h1, h2, h3, h4⟩ := Exp.fit_iff.1 h
  refine Big2.succ (Big2.succ ?_)
  refine ((Big2.list fun x hx => ih x hx (h4.2 x hx)).and (big_lt a.length).two).imp fun N d ⟨hx, hn⟩ => ?_
  have hl : a.length ≤ K := h4.1
  have key : (xAM N (d + 1)).c_laws_eqExprS a a = some true := by
    show xB4 _ _ _ a a = _
    unfold xB4
    rw [bne_self_eq_false, cond_false]
    exact eqLoop (L := fun n i => xB3 N (xAM N d).c_laws_eqExpr (xAM N d).c_laws_eqExprS n a a i) (fun n => by simp [xB3]) (fun i x n hi hxi hm => by
      have hi' : (i : Int) < (a.length : Int) := by omega
      simp only [xB3, decide_eq_true hi', cond_true, Int.toNat_natCast, xBP hxi, hx x hm, Option.bind_some, xBm hi (by omega), Bool.not_true, cond_false]
      rw [if_pos (by omega), if_pos (by omega)]) hn
  show xCf N (xAM N (d + 1)).c_laws_eqExpr (xAM N (d + 1)).c_laws_eqExprS _ _ = _
  unfold xCf
  simp [Exp.args, key]
theorem szExpr_eq {e : Exp} (h : e.Fit maxLen) : Big fun N => xEl N e 1048576 = some (left e.size 1048576) := (szExpr_big e h).diag.imp fun N h => h _ (by omega) (by omega)
theorem toExpr_eq {e : Exp} (h : e.Fit 1048576) : Big fun N => xDh N e = some e := (toExpr_big (by omega) e h).diag
theorem eqExpr_self {e : Exp} {K : Nat} (h : e.Fit K) (hK : K ≤ 9223372036854775807) : Big fun N => xEj N e e = some true := (eqExpr_big hK e h).diag
end Go.Ab
end
section
namespace Go.Ab
set_option linter.unusedVariables false
set_option linter.unusedSimpArgs false
def xEo (c : UInt8) : Bool := decide ((c.toNat : Int) ≥ 97) && decide ((c.toNat : Int) ≤ 122)
def digitC (c : UInt8) : Bool := decide ((c.toNat : Int) ≥ 48) && decide ((c.toNat : Int) ≤ 57)
def xDs : List UInt8 → Bool → Bool
  | [], _ => true
  | x :: r, f => (xEo x || (!f && digitC x)) && xDs r false
theorem spec_l2Shape_eq {N : Nat} {s : Str} (hl : s.length ≤ 9223372036854775807) (hn : s.length < N) : xDw N s = some (xDs s true && decide ((s.length : Int) > 0)) :=
  xCG (L := fun n i _ => xA9 N n s i) s (fun l f => xDs l f && decide ((s.length : Int) > 0)) (fun i f => f = (i == 0)) (fun n _ _ => by simp [xA9, xDs])
    (fun i x l f hd hi hx hf => by
      have hi' : (i : Int) < (s.length : Int) := by omega
      have hi0 : ((i : Int) == 0) = f := by rw [hf]; cases i <;> simp <;> omega
      by_cases h1 : (xEo x || (!f && digitC x)) = true
      · refine .inl ⟨false, by simp, by simp [xDs, h1], fun n => ?_⟩
        simp only [xA9, decide_eq_true hi', cond_true, Int.toNat_natCast, xBP hx, xBm hi hl, hi0]
        rw [if_pos (by omega)]
        unfold xEo digitC at h1
        by_cases c1 : (x.toNat : Int) ≥ 97 <;> by_cases c2 : (x.toNat : Int) ≤ 122 <;> by_cases c3 : (x.toNat : Int) ≥ 48 <;> by_cases c4 : (x.toNat : Int) ≤ 57 <;> cases f <;>
          simp only [c1, c2, c3, c4, decide_true, decide_false, cond_true, cond_false, Bool.not_true, Bool.not_false, Bool.and_true, Bool.and_false, Bool.or_true, Bool.or_false, Bool.false_and, Bool.true_and, Bool.false_or, Bool.false_eq_true] at h1 ⊢
      · refine .inr fun n => ?_
        have h1 := Bool.eq_false_iff.2 h1
        simp only [xA9, decide_eq_true hi', cond_true, Int.toNat_natCast, xBP hx, xBm hi hl, hi0, xDs, h1, Bool.false_and]
        rw [if_pos (by omega)]
        unfold xEo digitC at h1
        by_cases c1 : (x.toNat : Int) ≥ 97 <;> by_cases c2 : (x.toNat : Int) ≤ 122 <;> by_cases c3 : (x.toNat : Int) ≥ 48 <;> by_cases c4 : (x.toNat : Int) ≤ 57 <;> cases f <;>
          simp only [c1, c2, c3, c4, decide_true, decide_false, cond_true, cond_false, Bool.not_true, Bool.not_false, Bool.and_true, Bool.and_false, Bool.or_true, Bool.or_false, Bool.false_and, Bool.true_and, Bool.false_or, Bool.true_eq_false] at h1 ⊢) N 0 true rfl (by omega) (by omega)
theorem xEc (N : Nat) (a b c : Int) : xCl N a b c = some (decide (b ≤ a) && decide (a ≤ c)) := by
  unfold xCl
  cases h : decide (b ≤ a) <;> simp
theorem spec_l1In_eq (N : Nat) (a b c : Int) : xDn N a b c = some (decide (b ≤ a) && decide (a ≤ c)) := by
  unfold xDn
  cases h : decide (b ≤ a)
  · rfl
  · rfl
theorem impl_isWord_eq {N : Nat} {s : Str} (hl : s.length ≤ 9223372036854775807) (hn : s.length < N) : xDH N s = some (xDs s true && (decide ((1 : Int) ≤ s.length) && decide ((s.length : Int) ≤ 8))) :=
  xCG (L := fun n i _ => xBu N n s i) s (fun l f => xDs l f && (decide ((1 : Int) ≤ s.length) && decide ((s.length : Int) ≤ 8))) (fun i f => f = (i == 0)) (fun n _ _ => by simp [xBu, xDs, xEc])
    (fun i x l f hd hi hx hf => by
      have hi' : (i : Int) < (s.length : Int) := by omega
      have hi0 : ((i : Int) == 0) = f := by rw [hf]; cases i <;> simp <;> omega
      have e1 : decide ((x.toNat : Int) < 48) = !decide ((x.toNat : Int) ≥ 48) := by by_cases c : (x.toNat : Int) ≥ 48 <;> simp [c] <;> omega
      have e2 : decide ((x.toNat : Int) > 57) = !decide ((x.toNat : Int) ≤ 57) := by by_cases c : (x.toNat : Int) ≤ 57 <;> simp [c] <;> omega
      by_cases h1 : (xEo x || (!f && digitC x)) = true
      · refine .inl ⟨false, by simp, by simp [xDs, h1], fun n => ?_⟩
        simp only [xBu, decide_eq_true hi', cond_true, Int.toNat_natCast, xBP hx, xBm hi hl, hi0, e1, e2]
        rw [if_pos (by omega)]
        unfold xEo digitC at h1
        by_cases c1 : (x.toNat : Int) ≥ 97 <;> by_cases c2 : (x.toNat : Int) ≤ 122 <;> by_cases c3 : (x.toNat : Int) ≥ 48 <;> by_cases c4 : (x.toNat : Int) ≤ 57 <;> cases f <;>
          simp only [c1, c2, c3, c4, decide_true, decide_false, cond_true, cond_false, Bool.not_true, Bool.not_false, Bool.and_true, Bool.and_false, Bool.or_true, Bool.or_false, Bool.false_and, Bool.true_and, Bool.false_or, Bool.false_eq_true] at h1 ⊢
      · refine .inr fun n => ?_
        have h1 := Bool.eq_false_iff.2 h1
        simp only [xBu, decide_eq_true hi', cond_true, Int.toNat_natCast, xBP hx, xBm hi hl, hi0, e1, e2, xDs, h1, Bool.false_and]
        rw [if_pos (by omega)]
        unfold xEo digitC at h1
        by_cases c1 : (x.toNat : Int) ≥ 97 <;> by_cases c2 : (x.toNat : Int) ≤ 122 <;> by_cases c3 : (x.toNat : Int) ≥ 48 <;> by_cases c4 : (x.toNat : Int) ≤ 57 <;> cases f <;>
          simp only [c1, c2, c3, c4, decide_true, decide_false, cond_true, cond_false, Bool.not_true, Bool.not_false, Bool.and_true, Bool.and_false, Bool.or_true, Bool.or_false, Bool.false_and, Bool.true_and, Bool.false_or, Bool.true_eq_false] at h1 ⊢) N 0 true rfl (by omega) (by omega)
def xDB : List Str := [[108, 101, 116], [105, 110], [105, 102], [116, 104, 101, 110], [101, 108, 115, 101], [102, 111, 114], [100, 111], [108, 101, 110], [115, 117, 109], [116, 97, 107, 101], [115, 107, 105, 112], [114, 97, 110, 103, 101], [110, 116, 104], [119, 104, 101, 114, 101], [107, 101, 101, 112], [97, 100, 100], [103, 114, 111, 117, 112], [106, 111, 105, 110], [99, 111, 108, 117, 109, 110], [114, 111, 119, 115], [99, 108, 111, 99, 107], [99, 104, 97, 110, 99, 101], [102, 105, 108, 101], [116, 97, 98, 108, 101]]
theorem spec_l1Has_eq {N : Nat} {xs : List Str} {s : Str} (hl : xs.length ≤ 9223372036854775807) (hn : xs.length < N) : xD2 N xs s = some (xs.any (· == s)) :=
  xCG (σ := Unit) (L := fun n i _ => xCc N n xs s i) xs (fun l _ => l.any (· == s)) (fun _ _ => True) (fun n _ _ => by simp [xCc])
    (fun i x l _ hd hi hx _ => by
      have hi' : (i : Int) < (xs.length : Int) := by omega
      cases h1 : x == s
      · refine .inl ⟨(), trivial, by simp [h1], fun n => ?_⟩
        simp only [xCc, decide_eq_true hi', cond_true, Int.toNat_natCast, xBP hx, h1, cond_false, xBm hi hl]
        rw [if_pos (by omega)]
      · refine .inr fun n => ?_
        simp only [xCc, decide_eq_true hi', cond_true, Int.toNat_natCast, xBP hx, h1]
        rw [if_pos (by omega)]
        simp [h1]) N 0 () trivial (by omega) (by omega)
def xD1 (s : Str) : Bool := xDB.any (· == s)
theorem spec_IsReserved_eq {N : Nat} {s : Str} (hn : 24 < N) : xCn N s = some (xD1 s) := by
  unfold xCn xCR
  rw [Option.bind_some, show ([[108, 101, 116], [105, 110], [105, 102], [116, 104, 101, 110], [101, 108, 115, 101], [102, 111, 114], [100, 111], [108, 101, 110], [115, 117, 109], [116, 97, 107, 101], [115, 107, 105, 112], [114, 97, 110, 103, 101], [110, 116, 104], [119, 104, 101, 114, 101], [107, 101, 101, 112], [97, 100, 100], [103, 114, 111, 117, 112], [106, 111, 105, 110], [99, 111, 108, 117, 109, 110], [114, 111, 119, 115], [99, 108, 111, 99, 107], [99, 104, 97, 110, 99, 101], [102, 105, 108, 101], [116, 97, 98, 108, 101]] : List Str) = xDB from rfl, spec_l1Has_eq (by decide) hn]
  rfl
theorem impl_IsReserved_eq (N : Nat) (s : Str) : xCk N s = some (xD1 s) := by
  by_cases h : s ∈ xDB
  · have h' : xD1 s = true := List.any_eq_true.2 ⟨s, h, by simp⟩
    rw [h']
    simp only [xDB, List.mem_cons, List.not_mem_nil, or_false] at h
    rcases h with h | h | h | h | h | h | h | h | h | h | h | h | h | h | h | h | h | h | h | h | h | h | h | h <;> subst h <;> rfl
  · have h' : xD1 s = false := by
      unfold xD1
      rw [List.any_eq_false]
      intro x hx hxs
      exact h (by rw [← eq_of_beq hxs]; exact hx)
    rw [h']
    have hne : ∀ x ∈ xDB, (s == x) = false := by
      intro x hx
      cases hb : s == x
      · rfl
      · exact absurd (by rw [eq_of_beq hb]; exact hx) h
    simp only [xDB, List.mem_cons, List.not_mem_nil, or_false, forall_eq_or_imp, forall_eq] at hne
    simp only [xCk, xBg, hne, cond_false, Option.bind_some]
    rfl
def xCS (s : Str) : Bool := xDs s true && (decide ((1 : Int) ≤ s.length) && decide ((s.length : Int) ≤ 8)) && !xD1 s
theorem xEf {N : Nat} {s : Str} (hl : s.length ≤ 9223372036854775807) (hn : s.length < N) : xBy N s = some (xCS s) := by
  unfold xBy xCS
  rw [impl_isWord_eq hl hn, Option.bind_some]
  cases (xDs s true && (decide ((1 : Int) ≤ s.length) && decide ((s.length : Int) ≤ 8)))
  · rfl
  · rw [impl_IsReserved_eq]; rfl
theorem xEq {N : Nat} {s : Str} (hl : s.length ≤ 9223372036854775807) (hn : s.length < N) (hn2 : 24 < N) : xBA N s = some (xCS s) := by
  unfold xBA xCS
  rw [spec_l2Shape_eq hl hn, Option.bind_some, spec_IsReserved_eq hn2]
  have : decide ((s.length : Int) > 0) = decide ((1 : Int) ≤ s.length) := by by_cases c : (s.length : Int) > 0 <;> simp [c] <;> omega
  rw [this]
  cases xDs s true <;> cases decide ((1 : Int) ≤ s.length) <;> cases decide ((s.length : Int) ≤ 8) <;> rfl
end Go.Ab
end
section
namespace Go.Ab
set_option linter.unusedVariables false
set_option linter.unusedSimpArgs false
theorem guard {s : Nat} (h : ¬ left s 1048576 < 0) : s ≤ 1048576 := by unfold left at h; split at h <;> omega
theorem level_same (N : Nat) (e : Exp) : xCD N e = xCo N e := rfl
theorem exp_of_cells {a0 : Exp} (f0 : ∀ z ∈ [CV.int .i64 (Exp.kind a0), .int .i64 (Exp.n a0), .str (Exp.text a0), .sl .ro .exp (Exp.args a0)], DFit z.toD) : a0.Fit maxLen := by
  have f := fun z hz => (f0 z hz).dk
  simp only [List.mem_cons, List.not_mem_nil, or_false, forall_eq_or_imp, forall_eq] at f
  obtain ⟨h1, h2, h3, h4⟩ := f
  exact Exp.fit_iff.2 ⟨cell_int h1, cell_int h2, cell_str h3, cell_sl h4⟩
end Go.Ab
end
section
namespace Go.Ab
set_option linter.unusedVariables false
set_option linter.unusedSimpArgs false
def allI {α : Type} (p : Nat → α → Bool) : List α → Nat → Bool
  | [], _ => true
  | x :: r, i => p i x && allI p r (i + 1)
theorem allLoop {α : Type} {L : Nat → Int → Option Bool} {x0 : List α} {p : Nat → α → Bool} {e : Option Bool} (hend : ∀ n, L (n + 1) (x0.length : Nat) = e)
    (hcons : ∀ (i : Nat) x n, i < x0.length → x0[i]? = some x → x ∈ x0 → L (n + 1) (i : Nat) = bif p i x then L n ((i + 1 : Nat) : Int) else some false) {n : Nat} (hn : x0.length < n) :
    L n 0 = bif allI p x0 0 then e else some false := by
  have key : ∀ (m i : Nat), i ≤ x0.length → x0.length < m + i → L m (i : Nat) = bif allI p (x0.drop i) i then e else some false := by
    intro m
    induction m with
    | zero => intro i h1 h2; omega
    | succ m ih =>
      intro i h1 h2
      cases hd : x0.drop i with
      | nil =>
        have := drop_nil hd
        obtain rfl : i = x0.length := by omega
        rw [hend]; rfl
      | cons x l =>
        obtain ⟨g1, g2, g3⟩ := drop_cons hd
        rw [hcons i x m g1 g2 (List.mem_of_getElem? g2), ih (i + 1) (by omega) (by omega), g3]
        simp only [allI]
        cases p i x <;> rfl
  exact key n 0 (by omega) (by omega)
def textC (c : UInt8) : Bool := !(decide ((c.toNat : Int) < 32)) && (!(decide ((c.toNat : Int) > 126)) && !((c.toNat : Int) == 34))
def textOk (s : Str) : Bool := allI (fun _ => textC) s 0 && decide ((s.length : Int) ≤ 20)
theorem bif_and {a b : Bool} : (bif a then some b else some false) = some (a && b) := by cases a <;> rfl
theorem xDj {N : Nat} {s : Str} (hl : s.length ≤ 9223372036854775807) (hn : s.length < N) : xCx N s = some (textOk s) := by
  rw [textOk, ← bif_and]
  exact allLoop (L := fun n i => xA6 N n s i) (fun n => by simp [xA6]) (fun i x n hi hx hm => by
    have hi' : (i : Int) < (s.length : Int) := by omega
    simp only [xA6, decide_eq_true hi', cond_true, Int.toNat_natCast, xBP hx, xBm hi hl, textC]
    rw [if_pos (by omega)]
    cases decide ((x.toNat : Int) < 32) <;> cases decide ((x.toNat : Int) > 126) <;> cases ((x.toNat : Int) == 34) <;> rfl) hn
theorem xDK (N n : Nat) (s : Str) (i : Int) : xBJ N n s i = xA6 N n s i := by
  induction n generalizing i with
  | zero => rfl
  | succ n ih => simp only [xBJ, xA6, ih]
theorem xEg {N : Nat} {s : Str} (hl : s.length ≤ 9223372036854775807) (hn : s.length < N) : xCw N s = some (textOk s) := (xDK N N s 0).trans (xDj hl hn)
end Go.Ab
end
section
namespace Go.Ab
set_option linter.unusedVariables false
set_option linter.unusedSimpArgs false
theorem Big2.up {p : Nat → Nat → Prop} (h : Big2 p) : Big2 fun N d => p N (d + 1) := h.elim fun k hk => ⟨k, fun N d h1 h2 => hk N (d + 1) h1 (by omega)⟩
end Go.Ab
end
section
namespace Go.Ab
set_option linter.unusedVariables false
set_option linter.unusedSimpArgs false
def kb : List Val → List Int → Bool
  | [], _ => false
  | _ :: _, [] => false
  | x :: r, k :: ks => (x.kind != k) || kb r ks
end Go.Ab
end
section
namespace Go.Ab
set_option linter.unusedVariables false
set_option linter.unusedSimpArgs false
def pick (k : Int) (n : Int) (rs : List Rowd) : List Rowd := rs.filter fun r => r.cells.getD k.toNat Ty.int.dflt == n
end Go.Ab
end
section
namespace Go.Ab
set_option linter.unusedVariables false
def dd (n : Nat) : Str := if n = 0 then [] else Lib.decDigits n
theorem dd_step {n : Nat} (h : n ≠ 0) : dd n = dd (n / 10) ++ [UInt8.ofNat (48 + n % 10)] := by
  unfold dd
  rw [if_neg h]
  by_cases h1 : n < 10
  · rw [Lib.decDigits, dif_pos h1, if_pos (by omega), Nat.mod_eq_of_lt h1]; rfl
  · rw [Lib.decDigits, dif_neg h1, if_neg (by omega)]
theorem itoa_dd {n : Int} (h : n ≠ 0) : Lib.itoa n = (bif decide (n < 0) then [45] else []) ++ dd n.natAbs := by
  have h2 : ¬ n.natAbs = 0 := by omega
  unfold Lib.itoa dd
  by_cases h1 : n < 0
  · rw [if_pos h1, decide_eq_true h1, if_neg h2]; rfl
  · rw [if_neg h1, decide_eq_false h1, if_neg h2, show n.toNat = n.natAbs from by omega]; rfl
theorem dd_len : ∀ (k n : Nat), n < 10 ^ k → (dd n).length ≤ k := by
  intro k
  induction k with
  | zero => intro n h; have : n = 0 := by simpa using h
            subst this; exact Nat.le_refl _
  | succ k ih =>
    intro n h
    by_cases h0 : n = 0
    · subst h0; exact Nat.zero_le _
    · rw [dd_step h0, List.length_append]
      have := ih (n / 10) (by rw [Nat.pow_succ] at h; omega)
      simp only [List.length_cons, List.length_nil]; omega
theorem itoa_len {n : Int} (h : -9223372036854775808 ≤ n ∧ n ≤ 9223372036854775807) : (Lib.itoa n).length ≤ 21 := by
  by_cases h0 : n = 0
  · subst h0
    show (Lib.decDigits 0).length ≤ 21
    rw [Lib.decDigits, dif_pos (by omega)]; simp
  · rw [itoa_dd h0, List.length_append]
    have := dd_len 20 n.natAbs (by have : (10 : Nat) ^ 20 = 100000000000000000000 := by decide
                                   omega)
    cases decide (n < 0) <;> simp <;> omega
theorem bytes_back (s : Str) : List.map (fun n => UInt8.ofNat (Int.toNat n)) (List.map (fun c : UInt8 => (c.toNat : Int)) s) = s := by
  rw [List.map_map]
  have : ((fun n => UInt8.ofNat (Int.toNat n)) ∘ fun c : UInt8 => (c.toNat : Int)) = id := by
    funext c
    simp
  rw [this, List.map_id]
theorem join_len : ∀ (xs : List Str) (sep : Str), (Lib.join xs sep).length ≤ (xs.map List.length).sum + sep.length * xs.length := by
  intro xs sep
  cases xs with
  | nil => simp [Lib.join, List.intercalate]
  | cons x r =>
    rw [Lib.join_cons, List.length_append, Lib.joinTail_length]
    simp only [Lib.lens, List.map_cons, List.sum_cons, List.length_cons, Nat.mul_add, Nat.mul_one]
    have e : (List.map (fun x => List.length x) r) = List.map List.length r := rfl
    rw [e]; omega
mutual
def Exp.cnt : Exp → Nat
  | .mk _ _ _ a => 1 + Exp.cnts a
def Exp.cnts : List Exp → Nat
  | [] => 0
  | x :: r => Exp.cnt x + Exp.cnts r
end
theorem Exp.cnts_eq (l : List Exp) : Exp.cnts l = (l.map Exp.cnt).sum := by
  induction l with
  | nil => rfl
  | cons x l ih => simp only [Exp.cnts, List.map_cons, List.sum_cons, ih]
theorem Exp.cnt_eq (e : Exp) : e.cnt = 1 + (e.args.map Exp.cnt).sum := by
  cases e; simp only [Exp.cnt, Exp.cnts_eq, Exp.args]
mutual
def Exp.nest : Exp → Nat
  | .mk _ _ _ a => Exp.nests a + 1
def Exp.nests : List Exp → Nat
  | [] => 0
  | x :: r => max (Exp.nest x) (Exp.nests r)
end
theorem Exp.nest_eq (e : Exp) : e.nest = Exp.nests e.args + 1 := by cases e; rfl
theorem sums_le {f g : Exp → Nat} : ∀ {a : List Exp}, (∀ x ∈ a, f x ≤ g x + 1) → (a.map f).sum ≤ a.length + (a.map g).sum
  | [], _ => Nat.le_refl _
  | x :: l, ih => by
    have h1 := ih x List.mem_cons_self
    have h2 := sums_le fun y hy => ih y (List.mem_cons_of_mem _ hy)
    simp only [List.map_cons, List.sum_cons, List.length_cons]; omega
theorem Exp.cnt_le : ∀ e : Exp, e.cnt ≤ e.size + 1 := by
  refine Exp.ind fun k n t a ih => ?_
  rw [Exp.cnt_eq, Exp.size_eq]
  have := sums_le ih
  show 1 + (a.map Exp.cnt).sum ≤ t.length + (a.length + (a.map Exp.size).sum) + 1
  omega
theorem nests_le : ∀ {a : List Exp}, (∀ x ∈ a, x.nest ≤ x.cnt) → Exp.nests a ≤ (a.map Exp.cnt).sum
  | [], _ => Nat.le_refl _
  | x :: l, ih => by
    have h1 := ih x List.mem_cons_self
    have h2 := nests_le fun y hy => ih y (List.mem_cons_of_mem _ hy)
    simp only [Exp.nests, List.map_cons, List.sum_cons]; omega
theorem Exp.nest_le : ∀ e : Exp, e.nest ≤ e.cnt := by
  refine Exp.ind fun k n t a ih => ?_
  rw [Exp.nest_eq, Exp.cnt_eq]
  have := nests_le ih
  show Exp.nests a + 1 ≤ 1 + (a.map Exp.cnt).sum
  omega
def opSym (n : Int) : Str := bif n == 1 then [43] else bif n == 2 then [45] else bif n == 3 then [42] else bif n == 4 then [60] else [61, 61]
def lvl (e : Exp) : Int := bif e.kind == 7 then 0 else bif e.kind == 8 then 0 else bif e.kind == 9 then 0 else bif e.kind == 6 then (bif e.n == 4 then 1 else bif e.n == 5 then 1 else bif e.n == 1 then 2 else bif e.n == 2 then 2 else bif e.n == 3 then 3 else 4) else 4
def encl (l : Int) (x : Exp) (s : Str) : Str := bif decide (lvl x < l) then [40] ++ s ++ [41] else s
def nodeS (k n : Int) (t : Str) (a : List Exp) (s : List Str) : Str :=
  bif k == 1 then Lib.itoa n else bif k == 2 then [34] ++ t ++ [34] else bif k == 3 then t else bif k == 4 then [91] ++ Lib.join s [44, 32] ++ [93]
  else bif k == 5 then t ++ [40] ++ Lib.join s [44, 32] ++ [41]
  else bif k == 7 then [108, 101, 116, 32] ++ t ++ [32, 61, 32] ++ s.getD 0 [] ++ [32, 105, 110, 32] ++ s.getD 1 []
  else bif k == 9 then [102, 111, 114, 32] ++ t ++ [32, 105, 110, 32] ++ s.getD 0 [] ++ [32, 100, 111, 32] ++ s.getD 1 []
  else bif k == 8 then [105, 102, 32] ++ s.getD 0 [] ++ [32, 116, 104, 101, 110, 32] ++ s.getD 1 [] ++ [32, 101, 108, 115, 101, 32] ++ s.getD 2 []
  else encl (bif lvl (.mk k n t a) == 1 then 2 else lvl (.mk k n t a)) (a.getD 0 Ty.exp.dflt) (s.getD 0 []) ++ [32] ++ opSym n ++ [32] ++ encl (lvl (.mk k n t a) + 1) (a.getD 1 Ty.exp.dflt) (s.getD 1 [])
mutual
def srcE : Exp → Str
  | .mk k n t a => nodeS k n t a (srcEs a)
def srcEs : List Exp → List Str
  | [] => []
  | x :: r => srcE x :: srcEs r
end
theorem srcEs_eq (l : List Exp) : srcEs l = l.map srcE := by
  induction l with
  | nil => rfl
  | cons x l ih => simp only [srcEs, List.map_cons, ih]
theorem srcE_eq (k n : Int) (t : Str) (a : List Exp) : srcE (.mk k n t a) = nodeS k n t a (a.map srcE) := by
  simp only [srcE, srcEs_eq]
def nodeOk (vT vN : Str → Bool) (ac : Str → Int) (k n : Int) (t : Str) (l : Nat) : Bool :=
  bif k == 1 then (decide (0 ≤ n) && decide (n ≤ 1000000000)) && ((t == []) && (l == 0))
  else bif k == 2 then (n == 0) && (vT t && (l == 0))
  else bif k == 3 then (n == 0) && (vN t && (l == 0))
  else bif k == 4 then (n == 0) && ((t == []) && decide (l ≤ 8))
  else bif k == 5 then (n == 0) && ((l : Int) == ac t)
  else bif k == 6 then (decide (1 ≤ n) && decide (n ≤ 5)) && ((t == []) && (l == 2))
  else bif k == 7 then (n == 0) && (vN t && (l == 2))
  else bif k == 9 then (n == 0) && (vN t && (l == 2))
  else bif k == 8 then (n == 0) && ((t == []) && (l == 3)) else false
end Go.Ab
end
section
namespace Go.Ab
set_option linter.unusedVariables false
set_option linter.unusedSimpArgs false
theorem xEp {N : Nat} : ∀ (k n : Nat) (x : Int) (b : Bool) (q : Str), x.natAbs < 10 ^ k → k < n → k + q.length ≤ 1000 → (-9223372036854775808 ≤ x ∧ x ≤ 9223372036854775807) →
    xAZ N n x b q = some ((bif b then [45] else []) ++ (dd x.natAbs ++ q)) := by
  intro k
  induction k with
  | zero =>
    intro n x b q hx hn hq hi
    obtain ⟨n, rfl⟩ : ∃ m, n = m + 1 := ⟨n - 1, by omega⟩
    have : x = 0 := by have : x.natAbs < 1 := by simpa using hx
                       omega
    subst this
    simp only [xAZ, show ((0 : Int) != 0) = false from rfl, cond_false]
    cases b
    · rfl
    · simp only [cond_true]
      rw [if_pos (by simp only [List.length_cons, List.length_nil]; unfold Lim; omega)]; rfl
  | succ k ih =>
    intro n x b q hx hn hq hi
    obtain ⟨n, rfl⟩ : ∃ m, n = m + 1 := ⟨n - 1, by omega⟩
    by_cases h0 : x = 0
    · subst h0
      simp only [xAZ, show ((0 : Int) != 0) = false from rfl, cond_false]
      cases b
      · rfl
      · simp only [cond_true]
        rw [if_pos (by simp only [List.length_cons, List.length_nil]; unfold Lim; omega)]; rfl
    · have hne : (x != 0) = true := by simpa using h0
      have hn0 : x.natAbs ≠ 0 := by omega
      have hd : (Int.tdiv x 10).natAbs = x.natAbs / 10 := by rw [Int.natAbs_tdiv]; rfl
      have hm : (Int.tmod x 10).natAbs = x.natAbs % 10 := by rw [Int.natAbs_tmod]; rfl
      have hdi : -9223372036854775808 ≤ Int.tdiv x 10 ∧ Int.tdiv x 10 ≤ 9223372036854775807 := by omega
      have hb : (Int.tdiv x 10).natAbs < 10 ^ k := by rw [hd]; rw [Nat.pow_succ] at hx; omega
      have hw : IntKind.i64.wrap (Int.tdiv x 10) = Int.tdiv x 10 := xCy (by omega) (by omega)
      have fin : ∀ c : Int, c = ((48 + x.natAbs % 10 : Nat) : Int) → xAZ N n (Int.tdiv x 10) b ((List.map (fun n => UInt8.ofNat (Int.toNat n)) [c]) ++ q) = some ((bif b then [45] else []) ++ (dd x.natAbs ++ q)) := by
        intro c hc
        rw [ih n _ b _ hb (by omega) (by simp only [List.length_append, List.length_map, List.length_cons, List.length_nil]; omega) hdi, hd, dd_step hn0, hc]
        simp only [List.map_cons, List.map_nil, Int.toNat_natCast, List.append_assoc, List.cons_append, List.nil_append]
      have hlim : ∀ c : Int, List.length (List.map (fun n => UInt8.ofNat (Int.toNat n)) [c]) + List.length q ≤ Lim := fun c => by
        simp only [List.length_map, List.length_cons, List.length_nil]; unfold Lim; omega
      by_cases hneg : Int.tmod x 10 < 0
      · have e1 : IntKind.i64.wrap (0 - Int.tmod x 10) = 0 - Int.tmod x 10 := xCy (by omega) (by omega)
        have e2 : IntKind.i64.wrap (48 + (0 - Int.tmod x 10)) = 48 + (0 - Int.tmod x 10) := xCy (by omega) (by omega)
        have e3 : IntKind.u8.wrap (48 + (0 - Int.tmod x 10)) = 48 + (0 - Int.tmod x 10) := wrap_u8 (by omega) (by omega)
        simp only [xAZ, hne, cond_true, decide_eq_true hneg, e1, e2, e3, hw]
        rw [if_pos (hlim _)]
        exact fin _ (by omega)
      · have e2 : IntKind.i64.wrap (48 + Int.tmod x 10) = 48 + Int.tmod x 10 := xCy (by omega) (by omega)
        have e3 : IntKind.u8.wrap (48 + Int.tmod x 10) = 48 + Int.tmod x 10 := wrap_u8 (by omega) (by omega)
        simp only [xAZ, hne, cond_true, decide_eq_false hneg, cond_false, e2, e3, hw]
        rw [if_pos (hlim _)]
        exact fin _ (by omega)
theorem spec_FormatInt_eq {N : Nat} {x : Int} (hN : 100 < N) (hi : -9223372036854775808 ≤ x ∧ x ≤ 9223372036854775807) : xCv N x = some (Lib.itoa x) := by
  unfold xCv
  by_cases h0 : x = 0
  · subst h0
    simp only [beq_self_eq_true, cond_true]
    show some [48] = some (Lib.decDigits 0)
    rw [Lib.decDigits, dif_pos (by omega)]; rfl
  · have e20 : x.natAbs < 10 ^ 20 := by
      have : (10 : Nat) ^ 20 = 100000000000000000000 := by decide
      omega
    rw [show (x == 0) = false from beq_eq_false_iff_ne.2 h0, cond_false, xEp 20 N x _ [] e20 (by omega) (by simp) hi, itoa_dd h0, List.append_nil]
theorem impl_FormatInt_eq {N : Nat} {x : Int} (hi : -9223372036854775808 ≤ x ∧ x ≤ 9223372036854775807) : xCt N x = some (Lib.itoa x) := by
  unfold xCt strconv_Itoa itoaP
  rw [if_pos hi.1, if_pos hi.2]; rfl
theorem impl_Join_eq {N : Nat} {xs : List Str} {sep : Str} (h1 : xs.length ≤ 100000000000) (h2 : (xs.map List.length).sum + sep.length * xs.length ≤ 100000000000) : xDQ N xs sep = some (Lib.join xs sep) := by
  have := join_len xs sep
  unfold xDQ strings_Join joinP
  rw [if_pos (by omega), if_pos (by omega)]; rfl
theorem spec_Join_eq {N : Nat} {xs : List Str} {sep : Str} (h1 : xs.length ≤ 100000000000) (h2 : (xs.map List.length).sum + sep.length * xs.length ≤ 100000000000) (hN : xs.length < N) : xDV N xs sep = some (Lib.join xs sep) := by
  have key : ∀ (n i : Nat) (q : List Int), 0 < i → i ≤ xs.length → xs.length < n + i → q.length + (((xs.drop i).map List.length).sum + sep.length * (xs.drop i).length) ≤ 100000000000 →
      xBE N n xs sep q (i : Nat) = some (List.map (fun n => UInt8.ofNat (Int.toNat n)) q ++ Lib.joinTail sep (xs.drop i)) := by
    intro n
    induction n with
    | zero => intro i q _ h1 h2; omega
    | succ n ih =>
      intro i q hp hi hn hl
      cases hd : xs.drop i with
      | nil =>
        have hi2 : i = xs.length := by have := drop_nil hd; omega
        subst hi2
        simp only [xBE, Int.lt_irrefl, decide_false, cond_false, Lib.joinTail, List.map_nil, List.flatten_nil, List.append_nil]
      | cons x l =>
        obtain ⟨e1, e2, e3⟩ := drop_cons hd
        rw [hd] at hl
        simp only [List.map_cons, List.sum_cons, List.length_cons, Nat.mul_add, Nat.mul_one] at hl
        have hi' : (i : Int) < (xs.length : Int) := by omega
        have hp' : (i : Int) > 0 := by omega
        have := ih (i + 1) ((q ++ List.map (fun c => (c.toNat : Int)) sep) ++ List.map (fun c => (c.toNat : Int)) x) (by omega) (by omega) (by omega) (by rw [e3]; simp only [List.length_append, List.length_map]; omega)
        rw [e3] at this
        simp only [xBE, decide_eq_true hi', decide_eq_true hp', cond_true, Int.toNat_natCast, xBP e2, xBm e1 (by omega : xs.length ≤ _), this]
        rw [if_pos (by unfold Lim; omega), if_pos (by omega), if_pos (by simp only [List.length_append, List.length_map]; unfold Lim; omega)]
        simp only [List.map_append, bytes_back, Lib.joinTail, List.map_cons, List.flatten_cons, List.append_assoc]
  obtain ⟨n, rfl⟩ : ∃ m, N = m + 1 := ⟨N - 1, by omega⟩
  cases xs with
  | nil => simp [xDV, xBE, Lib.join, List.intercalate]
  | cons x l =>
    have := key n 1 (List.map (fun c => (c.toNat : Int)) x) (by omega) (by simp only [List.length_cons]; omega) (by simp only [List.length_cons] at hN ⊢; omega) (by
      simp only [List.drop_succ_cons, List.drop_zero, List.length_map]
      simp only [List.map_cons, List.sum_cons, List.length_cons, Nat.mul_add, Nat.mul_one] at h2; omega)
    simp only [List.map_cons, List.sum_cons, List.length_cons, Nat.mul_add, Nat.mul_one] at h2 h1
    have hi' : ((0 : Nat) : Int) < (((x :: l).length : Nat) : Int) := by simp only [List.length_cons]; omega
    have hp' : ¬ ((0 : Nat) : Int) > 0 := by omega
    show xBE (n + 1) (n + 1) (x :: l) sep [] ((0 : Nat) : Int) = _
    simp only [xBE, decide_eq_true hi', decide_eq_false hp', cond_true, cond_false, Int.toNat_natCast, List.getD_cons_zero, xBm (show 0 < (x :: l).length by simp) (by simp only [List.length_cons]; omega : (x :: l).length ≤ _), List.nil_append]
    rw [if_pos (by simp only [List.length_cons]; omega), if_pos (by simp only [List.length_nil]; unfold Lim; omega)]
    rw [this, bytes_back, Lib.join_cons]; rfl
theorem bif_ex {α : Type} {b : Bool} {x y : Option α} (h1 : ∃ r, x = some r) (h2 : ∃ r, y = some r) : ∃ r, (bif b then x else y) = some r := by cases b <;> assumption
theorem xBB {α : Type} {b : Bool} {x y : Option α} {p q : α} (h1 : x = some p) (h2 : y = some q) : (bif b then x else y) = some (bif b then p else q) := by cases b <;> assumption
def argc (s : Str) : Int := (xA1 0 s).getD 0
theorem xC5 (N : Nat) (s : Str) : xA1 N s = some (argc s) := by
  have key : ∃ r, xA1 0 s = some r := by
    unfold xA1
    repeat (first | exact ⟨_, rfl⟩ | refine bif_ex ⟨_, rfl⟩ ?_)
  obtain ⟨r, hr⟩ := key
  show xA1 0 s = _
  rw [argc, hr]; rfl
theorem xDP (N : Nat) (s : Str) : xBg N s = some (argc s) := (show xBg N s = xA1 N s from rfl).trans (xC5 N s)
def nodeE (e : Exp) : Bool := nodeOk textOk xCS argc e.kind e.n e.text e.args.length
theorem lenI0 (l : Nat) : ((l : Int) == 0) = (l == 0) := by
  rcases Nat.eq_zero_or_pos l with rfl | h
  · rfl
  · rw [beq_eq_false_iff_ne.2 (by omega : l ≠ 0), beq_eq_false_iff_ne.2 (by omega : (l : Int) ≠ 0)]
theorem lenI2 (l : Nat) : ((l : Int) == 2) = (l == 2) := by
  rcases Decidable.em (l = 2) with rfl | h
  · rfl
  · rw [beq_eq_false_iff_ne.2 h, beq_eq_false_iff_ne.2 (by omega : (l : Int) ≠ 2)]
theorem lenI3 (l : Nat) : ((l : Int) == 3) = (l == 3) := by
  rcases Decidable.em (l = 3) with rfl | h
  · rfl
  · rw [beq_eq_false_iff_ne.2 h, beq_eq_false_iff_ne.2 (by omega : (l : Int) ≠ 3)]
theorem lenI8 (l : Nat) : decide ((l : Int) ≤ 8) = decide (l ≤ 8) := by
  rcases Decidable.em (l ≤ 8) with h | h
  · rw [decide_eq_true h, decide_eq_true (by omega : (l : Int) ≤ 8)]
  · rw [decide_eq_false h, decide_eq_false (by omega : ¬ (l : Int) ≤ 8)]
theorem impl_isNode_eq {N : Nat} {e : Exp} (ht : e.text.length ≤ 9223372036854775807) (hn : e.text.length < N) : xDf N e = some (nodeE e) := by
  simp only [xDf, nodeE, nodeOk, xEc, xEg ht hn, xEf (N := N) ht hn, xDP, Option.bind_some, lenI0, lenI2, lenI3, lenI8]
  refine xBB ?_ (xBB ?_ (xBB ?_ (xBB ?_ (xBB ?_ (xBB ?_ (xBB ?_ (xBB ?_ (xBB ?_ rfl)))))))) <;>
    first
    | rfl
    | (cases (decide ((0 : Int) ≤ e.n) && decide (e.n ≤ 1000000000)) <;> cases (e.text == []) <;> rfl)
    | (cases (decide ((1 : Int) ≤ e.n) && decide (e.n ≤ 5)) <;> cases (e.text == []) <;> rfl)
    | (cases (e.n == 0) <;> cases (e.text == []) <;> rfl)
    | (cases (e.n == 0) <;> cases (textOk e.text) <;> rfl)
    | (cases (e.n == 0) <;> cases (xCS e.text) <;> rfl)
theorem spec_l10Node_eq {N : Nat} {e : Exp} (ht : e.text.length ≤ 9223372036854775807) (hn : e.text.length < N) (h24 : 24 < N) : xC7 N e = some (nodeE e) := by
  simp only [xC7, nodeE, nodeOk, spec_l1In_eq, xDj ht hn, xEq (N := N) (s := e.text) ht hn h24, xC5, Option.bind_some, lenI0, lenI2, lenI3, lenI8]
  refine xBB ?_ (xBB ?_ (xBB ?_ (xBB ?_ (xBB ?_ (xBB ?_ (xBB ?_ (xBB ?_ (xBB ?_ rfl)))))))) <;>
    first
    | rfl
    | (cases (e.args.length == 0) <;> cases (e.text == []) <;> cases (decide ((0 : Int) ≤ e.n) && decide (e.n ≤ 1000000000)) <;> rfl)
    | (cases (e.args.length == 0) <;> cases (e.n == 0) <;> cases (textOk e.text) <;> rfl)
    | (cases (e.args.length == 0) <;> cases (e.n == 0) <;> cases (xCS e.text) <;> rfl)
    | (cases (e.n == 0) <;> cases (e.text == []) <;> rfl)
    | (cases (e.args.length == 2) <;> cases (e.text == []) <;> cases (decide ((1 : Int) ≤ e.n) && decide (e.n ≤ 5)) <;> rfl)
    | (cases (e.args.length == 2) <;> cases (e.n == 0) <;> cases (xCS e.text) <;> rfl)
    | (cases (e.args.length == 3) <;> cases (e.n == 0) <;> cases (e.text == []) <;> rfl)
mutual
def okE : Exp → Bool
  | .mk k n t a => okEs a && nodeE (.mk k n t a)
def okEs : List Exp → Bool
  | [] => true
  | x :: r => okE x && okEs r
end
theorem okEs_eq (l : List Exp) : okEs l = l.all okE := by
  induction l with
  | nil => rfl
  | cons x l ih => simp only [okEs, List.all_cons, ih]
theorem okE_eq (e : Exp) : okE e = (e.args.all okE && nodeE e) := by
  cases e; simp only [okE, okEs_eq]; rfl
theorem all_ok {K : Nat} (hK : K ≤ 1048576) : ∀ e : Exp, e.Fit K → Big2 fun N d => xB1 N d e = some (okE e) ∧ xCp N d e = some (okE e) := by
  refine Exp.ind fun k n t a ih h => ?_
  obtain ⟨h1, h2, h3, h4⟩ := Exp.fit_iff.1 h
  refine Big2.succ ?_
  refine ((Big2.list fun x hx => ih x hx (h4.2 x hx)).and (big_lt (K + 30)).two).imp fun N d ⟨hx, hn⟩ => ?_
  have hl : a.length ≤ K := h4.1
  have ht : (Exp.mk k n t a).text.length ≤ K := h3
  rw [okE_eq]
  refine ⟨?_, ?_⟩
  · exact xCG (σ := Unit) (L := fun m i _ => xBz N (xB1 N d) m a a.length i (.mk k n t a)) a (fun l _ => l.all okE && nodeE (.mk k n t a)) (fun _ _ => True) (fun m _ _ => by simp [xBz, impl_isNode_eq (N := N) (e := .mk k n t a) (by omega) (by omega)])
      (fun i x l _ hd hi hxi _ => by
        have hi' : (i : Int) < (a.length : Int) := by omega
        have hm := List.mem_of_getElem? hxi
        cases ho : okE x
        · refine .inr fun m => ?_
          simp only [xBz, decide_eq_true hi', cond_true, Int.toNat_natCast, xBP hxi, (hx x hm).1, ho, Option.bind_some, Bool.not_false, List.all_cons, Bool.false_and]
          rw [if_pos (by omega)]
        · refine .inl ⟨(), trivial, by simp [ho], fun m => ?_⟩
          simp only [xBz, decide_eq_true hi', cond_true, Int.toNat_natCast, xBP hxi, (hx x hm).1, ho, Option.bind_some, Bool.not_true, cond_false, xBm hi (by omega : a.length ≤ _)]
          rw [if_pos (by omega)]) N 0 () trivial (by omega) (by omega)
  · exact xCG (σ := Unit) (L := fun m i _ => xBY N (xCp N d) m i (.mk k n t a)) a (fun l _ => l.all okE && nodeE (.mk k n t a)) (fun _ _ => True) (fun m _ _ => by simp [xBY, ea, spec_l10Node_eq (N := N) (e := .mk k n t a) (by omega) (by omega) (by omega)])
      (fun i x l _ hd hi hxi _ => by
        have hi' : (i : Int) < ((Exp.mk k n t a).args.length : Int) := by show (i : Int) < (a.length : Int); omega
        have hi2 : (0 : Int) ≤ (i : Int) ∧ (i : Int) < ((Exp.mk k n t a).args.length : Int) := ⟨by omega, hi'⟩
        have hm := List.mem_of_getElem? hxi
        have hxi2 : (Exp.mk k n t a).args[i]? = some x := hxi
        cases ho : okE x
        · refine .inr fun m => ?_
          simp only [xBY, decide_eq_true hi', if_pos hi2, cond_true, Int.toNat_natCast, xBP hxi2, (hx x hm).2, ho, Option.bind_some, Bool.not_false, List.all_cons, Bool.false_and]
        · refine .inl ⟨(), trivial, by simp [ho], fun m => ?_⟩
          simp only [xBY, decide_eq_true hi', if_pos hi2, cond_true, Int.toNat_natCast, xBP hxi2, (hx x hm).2, ho, Option.bind_some, Bool.not_true, cond_false, xBm hi (by omega : a.length ≤ _)]) N 0 () trivial (by omega) (by omega)
end Go.Ab
end
section
namespace Go.Ab
set_option linter.unusedVariables false
set_option linter.unusedSimpArgs false
def sumC (l : List Exp) : Nat := (l.map Exp.cnt).sum
theorem sumC_cons (x : Exp) (l : List Exp) : sumC (x :: l) = x.cnt + sumC l := by simp only [sumC, List.map_cons, List.sum_cons]
theorem left_left (c s : Nat) {l : Int} (h : 0 ≤ l) : left (c + s) l = if left c l < 0 then left c l else left s (left c l) := by
  by_cases c1 : (c : Int) ≤ l
  · rw [left_of c1, if_neg (by omega)]
    by_cases c2 : (s : Int) ≤ l - c
    · rw [left_of c2, left_of (by omega)]; omega
    · rw [xD0 c2, xD0 (by omega)]
  · rw [xD0 c1, if_pos (by omega), xD0 (by omega)]
theorem count_eq {K : Nat} (hK : K ≤ 1048576) : ∀ e : Exp, e.Fit K → e.cnt ≤ 2000000 → Big2 fun N d => xBx N d e = some (e.cnt : Int) ∧ ∀ l : Int, 0 ≤ l → l ≤ 1000 → xBS N d e l = some (left e.cnt l) := by
  refine Exp.ind fun k n t a ih h hc => ?_
  obtain ⟨h1, h2, h3, h4⟩ := Exp.fit_iff.1 h
  rw [Exp.cnt_eq] at hc
  have hc : 1 + sumC a ≤ 2000000 := hc
  have hmem : ∀ x ∈ a, x.cnt ≤ sumC a := fun x hx => size_mem (f := Exp.cnt) hx
  refine Big2.succ ?_
  refine ((Big2.list fun x hx => ih x hx (h4.2 x hx) (by have := hmem x hx; omega)).and (big_lt (K + 30)).two).imp fun N d ⟨hx, hn⟩ => ?_
  have hl : a.length ≤ K := h4.1
  rw [Exp.cnt_eq]
  refine ⟨?_, fun l hl0 hl1 => ?_⟩
  · have := xCG (L := fun m i s => xBt N (xBx N d) m s a a.length i) a (fun l s => s + (sumC l : Int)) (fun i s => 0 ≤ s ∧ s + (sumC (a.drop i) : Int) ≤ 2000000) (fun m s _ => by simp [xBt, sumC])
      (fun i x l s hd hi hxi hs => by
        have hi' : (i : Int) < (a.length : Int) := by omega
        have hm := List.mem_of_getElem? hxi
        rw [hd, sumC_cons] at hs
        have hw : IntKind.i64.wrap (s + (x.cnt : Int)) = s + (x.cnt : Int) := xCy (by omega) (by omega)
        refine .inl ⟨s + (x.cnt : Int), ⟨by omega, by rw [(drop_cons hd).2.2]; omega⟩, by rw [sumC_cons]; omega, fun m => ?_⟩
        simp only [xBt, decide_eq_true hi', cond_true, Int.toNat_natCast, xBP hxi, (hx x hm).1, Option.bind_some, hw, xBm hi (by omega : a.length ≤ _)]
        rw [if_pos (by omega)]) N 0 1 ⟨by omega, by rw [List.drop_zero]; omega⟩ (by omega) (by omega)
    rw [List.drop_zero] at this
    show xBt N (xBx N d) N 1 a a.length 0 = some ((1 + sumC a : Nat) : Int)
    rw [show ((1 + sumC a : Nat) : Int) = 1 + (sumC a : Int) from by omega]
    exact this
  · have := xCG (L := fun m i s => xBw N (xBS N d) m s i (.mk k n t a)) a (fun l s => if s < 0 then s else left (sumC l) s) (fun i s => -1 ≤ s ∧ s ≤ 1000) (fun m s hs => by
        simp only [xBw, ea, Int.lt_irrefl, decide_false, cond_false, sumC, List.map_nil, List.sum_nil]
        split
        · rfl
        · rw [left_of (by omega)]; simp)
      (fun i x l s hd hi hxi hs => by
        have hi' : (i : Int) < ((Exp.mk k n t a).args.length : Int) := by show (i : Int) < (a.length : Int); omega
        have hi2 : (0 : Int) ≤ (i : Int) ∧ (i : Int) < ((Exp.mk k n t a).args.length : Int) := ⟨by omega, hi'⟩
        have hm := List.mem_of_getElem? hxi
        have hxi2 : (Exp.mk k n t a).args[i]? = some x := hxi
        by_cases hneg : s < 0
        · refine .inr fun m => ?_
          have h2 : ¬ s ≥ 0 := by omega
          simp only [xBw, decide_eq_true hi', cond_true, decide_eq_false h2, cond_false, if_pos hneg]
        · have h2 : s ≥ 0 := by omega
          refine .inl ⟨left x.cnt s, ?_, ?_, fun m => ?_⟩
          · unfold left; split <;> omega
          · rw [if_neg hneg, sumC_cons, left_left _ _ (by omega)]
          · simp only [xBw, decide_eq_true hi', cond_true, decide_eq_true h2, if_pos hi2, Int.toNat_natCast, xBP hxi2, (hx x hm).2 s (by omega) (by omega), Option.bind_some, xBm hi (by omega : a.length ≤ _)]) N 0 (l - 1) ⟨by omega, by omega⟩ (by omega) (by omega)
    rw [List.drop_zero] at this
    show xBw N (xBS N d) N (IntKind.i64.wrap (l - 1)) 0 (.mk k n t a) = some (left (1 + sumC a) l)
    rw [xCy (by omega) (by omega)]
    refine Eq.trans this ?_
    unfold left
    by_cases c0 : l - 1 < 0
    · rw [if_pos c0, if_neg (by omega)]; congr 1; omega
    · rw [if_neg c0]
      by_cases c2 : (sumC a : Int) ≤ l - 1
      · rw [if_pos c2, if_pos (by omega)]; congr 1; omega
      · rw [if_neg c2, if_neg (by omega)]
theorem nest_mem {x : Exp} : ∀ {a : List Exp}, x ∈ a → x.nest ≤ Exp.nests a
  | y :: l, h => by
    rcases List.mem_cons.1 h with rfl | h
    · simp only [Exp.nests]; omega
    · have := nest_mem h; simp only [Exp.nests]; omega
theorem maxI (a b : Nat) : (if (a : Int) > (b : Int) then (a : Int) else (b : Int)) = ((max b a : Nat) : Int) := by
  split <;> omega
theorem nest_eq {K : Nat} (hK : K ≤ 1048576) : ∀ e : Exp, e.Fit K → e.nest ≤ 2000000 → Big2 fun N d => xBT N d e = some (e.nest : Int) ∧ xBW N d e = some (e.nest : Int) := by
  refine Exp.ind fun k n t a ih h hc => ?_
  obtain ⟨h1, h2, h3, h4⟩ := Exp.fit_iff.1 h
  rw [Exp.nest_eq] at hc
  have hc : Exp.nests a + 1 ≤ 2000000 := hc
  have hmem : ∀ x ∈ a, x.nest ≤ Exp.nests a := fun x hx => nest_mem hx
  refine Big2.succ ?_
  refine ((Big2.list fun x hx => ih x hx (h4.2 x hx) (by have := hmem x hx; omega)).and (big_lt (K + 30)).two).imp fun N d ⟨hx, hn⟩ => ?_
  have hl : a.length ≤ K := h4.1
  rw [Exp.nest_eq]
  refine ⟨?_, ?_⟩
  · have := xCG (L := fun m i (s : Nat) => xBG N (xBT N d) m (s : Int) a a.length i) a (fun l s => ((max s (Exp.nests l) + 1 : Nat) : Int)) (fun i s => s ≤ 2000000) (fun m s hs => by
        have hw : IntKind.i64.wrap ((s : Int) + 1) = ((max s 0 + 1 : Nat) : Int) := by rw [xCy (by omega) (by omega)]; omega
        simp only [xBG, Int.lt_irrefl, decide_false, cond_false, hw, Exp.nests])
      (fun i x l s hd hi hxi hs => by
        have hi' : (i : Int) < (a.length : Int) := by omega
        have hm := List.mem_of_getElem? hxi
        have := hmem x hm
        refine .inl ⟨max s x.nest, by omega, by simp only [Exp.nests]; omega, fun m => ?_⟩
        simp only [xBG, decide_eq_true hi', cond_true, Int.toNat_natCast, xBP hxi, (hx x hm).1, Option.bind_some, maxI, xBm hi (by omega : a.length ≤ _)]
        rw [if_pos (by omega)]) N 0 0 (by omega) (by omega) (by omega)
    rw [List.drop_zero] at this
    refine Eq.trans this ?_
    simp; rfl
  · have := xCG (L := fun m i (s : Nat) => xBH N (xBW N d) m (s : Int) i (.mk k n t a)) a (fun l s => ((max s (Exp.nests l) + 1 : Nat) : Int)) (fun i s => s ≤ 2000000) (fun m s hs => by
        have hw : IntKind.i64.wrap ((s : Int) + 1) = ((max s 0 + 1 : Nat) : Int) := by rw [xCy (by omega) (by omega)]; omega
        simp only [xBH, ea, Int.lt_irrefl, decide_false, cond_false, hw, Exp.nests])
      (fun i x l s hd hi hxi hs => by
        have hi' : (i : Int) < ((Exp.mk k n t a).args.length : Int) := by show (i : Int) < (a.length : Int); omega
        have hi2 : (0 : Int) ≤ (i : Int) ∧ (i : Int) < ((Exp.mk k n t a).args.length : Int) := ⟨by omega, hi'⟩
        have hm := List.mem_of_getElem? hxi
        have hxi2 : (Exp.mk k n t a).args[i]? = some x := hxi
        have := hmem x hm
        have hmax : xDD N (s : Int) (x.nest : Int) = some ((max s x.nest : Nat) : Int) := by
          unfold xDD
          by_cases c : (s : Int) > (x.nest : Int)
          · rw [decide_eq_true c]; show some (s : Int) = _; congr 1; omega
          · rw [decide_eq_false c]; show some (x.nest : Int) = _; congr 1; omega
        refine .inl ⟨max s x.nest, by omega, by simp only [Exp.nests]; omega, fun m => ?_⟩
        simp only [xBH, decide_eq_true hi', cond_true, if_pos hi2, Int.toNat_natCast, xBP hxi2, (hx x hm).2, Option.bind_some, hmax, xBm hi (by omega : a.length ≤ _)]) N 0 0 (by omega) (by omega) (by omega)
    rw [List.drop_zero] at this
    refine Eq.trans this ?_
    simp; rfl
def validE (e : Exp) : Bool := (decide (e.cnt ≤ 40) && decide (e.nest ≤ 8)) && okE e
theorem validX_eq {K : Nat} (hK : K ≤ 1048576) {e : Exp} (h : e.Fit K) (hs : e.size ≤ 1048576) : Big fun N => xCe N e = some (validE e) ∧ xCh N e = some (validE e) := by
  have h1 := Exp.cnt_le e
  have h2 := Exp.nest_le e
  refine (((count_eq hK e h (by omega)).diag.and (nest_eq hK e h (by omega)).diag).and (all_ok hK e h).diag).imp fun N ⟨⟨⟨c1, c2⟩, n1, n2⟩, a1, a2⟩ => ?_
  have c3 : xDy N e = some (e.cnt : Int) := c1
  have c4 : xDW N e 40 = some (left e.cnt 40) := c2 40 (by omega) (by omega)
  have n3 : xDx N e = some (e.nest : Int) := n1
  have n4 : xDz N e = some (e.nest : Int) := n2
  have a3 : xDG N e = some (okE e) := a1
  have a4 : xEs N e = some (okE e) := a2
  have d1 : decide ((e.cnt : Int) ≤ 40) = decide (e.cnt ≤ 40) := decide_eq_decide.2 (by omega)
  have d2 : decide (left e.cnt 40 ≥ 0) = decide (e.cnt ≤ 40) := decide_eq_decide.2 (by unfold left; split <;> omega)
  have d3 : decide ((e.nest : Int) ≤ 8) = decide (e.nest ≤ 8) := decide_eq_decide.2 (by omega)
  refine ⟨?_, ?_⟩
  · simp only [xCe, c3, n3, a3, Option.bind_some, d1, d3, validE]
    cases decide (e.cnt ≤ 40) <;> cases decide (e.nest ≤ 8) <;> rfl
  · simp only [xCh, c4, n4, a4, Option.bind_some, d2, d3, validE]
    cases decide (e.cnt ≤ 40) <;> cases decide (e.nest ≤ 8) <;> rfl
theorem xDk (N : Nat) (e : Exp) : xCo N e = some (lvl e) := by
  unfold xCo lvl
  repeat (first | rfl | refine xBB ?_ ?_)
theorem xDR (N : Nat) (e : Exp) : xCD N e = some (lvl e) := (level_same N e).trans (xDk N e)
theorem getD012 : ∀ s : List Str, (s.getD 0 []).length + (s.getD 1 []).length + (s.getD 2 []).length ≤ (s.map List.length).sum
  | [] => by simp
  | [x] => by simp
  | [x, y] => by simp
  | x :: y :: z :: r => by simp only [List.getD_cons_zero, List.getD_cons_succ, List.map_cons, List.sum_cons]; omega
theorem opSym_len (n : Int) : (opSym n).length ≤ 2 := by
  unfold opSym
  cases (n == 1) <;> cases (n == 2) <;> cases (n == 3) <;> cases (n == 4) <;> simp
theorem encl_len (l : Int) (x : Exp) (s : Str) : (encl l x s).length ≤ s.length + 2 := by
  unfold encl
  cases decide (lvl x < l) <;> simp
theorem nodeS_len {k n : Int} (hn : -9223372036854775808 ≤ n ∧ n ≤ 9223372036854775807) (t : Str) (a : List Exp) (s : List Str) : (nodeS k n t a s).length ≤ 60 + t.length + (s.map List.length).sum + 2 * s.length := by
  have h1 := itoa_len hn
  have h2 := join_len s [44, 32]
  have h3 := getD012 s
  have h4 := opSym_len n
  have h5 := encl_len (bif lvl (.mk k n t a) == 1 then 2 else lvl (.mk k n t a)) (a.getD 0 Ty.exp.dflt) (s.getD 0 [])
  have h6 := encl_len (lvl (.mk k n t a) + 1) (a.getD 1 Ty.exp.dflt) (s.getD 1 [])
  have h7 : ([44, 32] : Str).length = 2 := rfl
  rw [h7] at h2
  unfold nodeS
  cases (k == 1) <;> cases (k == 2) <;> cases (k == 3) <;> cases (k == 4) <;> cases (k == 5) <;> cases (k == 7) <;> cases (k == 9) <;> cases (k == 8) <;> simp only [cond_true, cond_false, List.length_append, List.length_cons, List.length_nil] <;> omega
theorem srcE_len : ∀ (K : Nat) (e : Exp), e.Fit K → (srcE e).length + 4 ≤ 64 * e.cnt + e.size := by
  intro K
  refine Exp.ind fun k n t a ih h => ?_
  obtain ⟨h1, h2, h3, h4⟩ := Exp.fit_iff.1 h
  have h5 : (a.map fun x => (srcE x).length).sum + 4 * a.length ≤ 64 * sumC a + (a.map Exp.size).sum := by
    have h6 := fun x hx => ih x hx (h4.2 x hx)
    clear ih h h1 h2 h3 h4
    induction a with
    | nil => exact Nat.le_refl _
    | cons x l ih2 =>
      have g1 := h6 x List.mem_cons_self
      have g2 := ih2 fun y hy => h6 y (List.mem_cons_of_mem _ hy)
      simp only [List.map_cons, List.sum_cons, sumC_cons, List.length_cons]; omega
  have h6 := nodeS_len (k := k) (n := n) h2 t a (a.map srcE)
  rw [srcE_eq, Exp.cnt_eq, Exp.size_eq]
  rw [List.map_map, List.length_map] at h6
  have e1 : (List.length ∘ srcE) = fun x => (srcE x).length := rfl
  rw [e1] at h6
  show _ ≤ 64 * (1 + sumC a) + (t.length + (a.length + (a.map Exp.size).sum))
  omega
theorem impl_encl {N d : Nat} {x : Exp} {s : Str} (h : (xAa N d).c_impl_source x = some s) (hs : s.length ≤ 1000000000) (l : Int) : (xAa N (d + 1)).c_impl_enclosed x l = some (encl l x s) := by
  show xBU N (xAa N d).c_impl_enclosed (xAa N d).c_impl_source (xAa N d).c_impl_sources x l = _
  simp only [xBU, h, Option.bind_some, xDR, encl]
  cases decide (lvl x < l)
  · rfl
  · simp only [cond_true]
    rw [if_pos (by simp only [List.length_cons, List.length_nil]; unfold Lim; omega), if_pos (by simp only [List.length_append, List.length_cons, List.length_nil]; unfold Lim; omega)]
theorem spec_encl {N d : Nat} {x : Exp} {s : Str} (h : (xAh N d).c_spec_l12Text x = some s) (hs : s.length ≤ 1000000000) (l : Int) : (xAh N (d + 1)).c_spec_l12At x l = some (encl l x s) := by
  show xCq N (xAh N d).c_spec_l12At (xAh N d).c_spec_l12List (xAh N d).c_spec_l12Text x l = _
  simp only [xCq, h, Option.bind_some, xDk, encl]
  cases decide (lvl x < l)
  · rfl
  · simp only [cond_true]
    rw [if_pos (by simp only [List.length_cons, List.length_nil]; unfold Lim; omega), if_pos (by simp only [List.length_append, List.length_cons, List.length_nil]; unfold Lim; omega)]
theorem impl_srcs {N d : Nat} {a : List Exp} (h : ∀ x ∈ a, (xAa N d).c_impl_source x = some (srcE x)) (hl : a.length ≤ 1048576) (hN : 1048576 < N) (hs : ((a.map srcE).map List.length).sum ≤ 1000000000) :
    (xAa N (d + 1)).c_impl_sources a = some (Lib.join (a.map srcE) [44, 32]) := by
  show xBK N (xAa N d).c_impl_enclosed (xAa N d).c_impl_source (xAa N d).c_impl_sources N [] a a.length 0 = _
  refine xCG (L := fun m i q => xBK N (xAa N d).c_impl_enclosed (xAa N d).c_impl_source (xAa N d).c_impl_sources m q a a.length i) a (fun l q => Lib.join (q ++ l.map srcE) [44, 32]) (fun i q => q = (a.take i).map srcE) (fun m q hq => ?_)
    (fun i x l q hd hi hxi hq => ?_) N 0 [] rfl (by omega) (by omega)
  · have hq : q = a.map srcE := by rw [List.take_length] at hq; exact hq
    subst hq
    have e : ([44, 32] : Str).length = 2 := rfl
    simp only [xBK, Int.lt_irrefl, decide_false, cond_false, impl_Join_eq (N := N) (xs := a.map srcE) (sep := [44, 32]) (by rw [List.length_map]; omega) (by rw [List.length_map, e]; omega), Option.bind_some, List.map_nil, List.append_nil]
  · have hi' : (i : Int) < (a.length : Int) := by omega
    refine .inl ⟨q ++ [srcE x], by rw [hq, List.take_add_one, hxi]; simp, by simp, fun m => ?_⟩
    have hql : q.length ≤ 1048576 := by rw [hq, List.length_map, List.length_take]; omega
    simp only [xBK, decide_eq_true hi', cond_true, Int.toNat_natCast, xBP hxi, h x (List.mem_of_getElem? hxi), Option.bind_some, xBm hi (by omega : a.length ≤ _)]
    rw [if_pos (by omega), if_pos (by simp only [List.length_cons, List.length_nil]; unfold Lim; omega)]
theorem spec_srcs {N d : Nat} {a : List Exp} (h : ∀ x ∈ a, (xAh N d).c_spec_l12Text x = some (srcE x)) (hl : a.length ≤ 1048576) (hN : 1048576 < N) (hs : ((a.map srcE).map List.length).sum ≤ 1000000000) :
    (xAh N (d + 1)).c_spec_l12List a = some (Lib.join (a.map srcE) [44, 32]) := by
  show xBO N (xAh N d).c_spec_l12At (xAh N d).c_spec_l12List (xAh N d).c_spec_l12Text N a [] 0 = _
  refine xCG (L := fun m i q => xBO N (xAh N d).c_spec_l12At (xAh N d).c_spec_l12List (xAh N d).c_spec_l12Text m a q i) a (fun l q => Lib.join (q ++ l.map srcE) [44, 32]) (fun i q => q = (a.take i).map srcE) (fun m q hq => ?_)
    (fun i x l q hd hi hxi hq => ?_) N 0 [] rfl (by omega) (by omega)
  · have hq : q = a.map srcE := by rw [List.take_length] at hq; exact hq
    subst hq
    have e : ([44, 32] : Str).length = 2 := rfl
    simp only [xBO, Int.lt_irrefl, decide_false, cond_false, spec_Join_eq (N := N) (xs := a.map srcE) (sep := [44, 32]) (by rw [List.length_map]; omega) (by rw [List.length_map, e]; omega) (by rw [List.length_map]; omega), Option.bind_some, List.map_nil, List.append_nil]
  · have hi' : (i : Int) < (a.length : Int) := by omega
    refine .inl ⟨q ++ [srcE x], by rw [hq, List.take_add_one, hxi]; simp, by simp, fun m => ?_⟩
    have hql : q.length ≤ 1048576 := by rw [hq, List.length_map, List.length_take]; omega
    simp only [xBO, decide_eq_true hi', cond_true, Int.toNat_natCast, xBP hxi, h x (List.mem_of_getElem? hxi), Option.bind_some, xBm hi (by omega : a.length ≤ _)]
    rw [if_pos (by omega), if_pos (by simp only [List.length_cons, List.length_nil]; unfold Lim; omega)]
theorem opSym_eq {N : Nat} {n : Int} (h1 : 1 ≤ n) (h5 : n ≤ 5) : xCJ N n = some (opSym n) ∧ xCP N n = some (opSym n) := by
  have hw : IntKind.i64.wrap (n - 1) = n - 1 := xCy (by omega) (by omega)
  rcases (by omega : n = 1 ∨ n = 2 ∨ n = 3 ∨ n = 4 ∨ n = 5) with rfl | rfl | rfl | rfl | rfl <;> exact ⟨rfl, rfl⟩
theorem kinds {k n : Int} {t : Str} {l : Nat} (h : nodeOk textOk xCS argc k n t l = true) : k = 1 ∨ k = 2 ∨ k = 3 ∨ k = 4 ∨ k = 5 ∨ (k = 6 ∧ 1 ≤ n ∧ n ≤ 5 ∧ l = 2) ∨ (k = 7 ∧ l = 2) ∨ (k = 9 ∧ l = 2) ∨ (k = 8 ∧ l = 3) := by
  unfold nodeOk at h
  by_cases h1 : k = 1; · exact .inl h1
  by_cases h2 : k = 2; · exact .inr (.inl h2)
  by_cases h3 : k = 3; · exact .inr (.inr (.inl h3))
  by_cases h4 : k = 4; · exact .inr (.inr (.inr (.inl h4)))
  by_cases h5 : k = 5; · exact .inr (.inr (.inr (.inr (.inl h5))))
  rw [beq_eq_false_iff_ne.2 h1, beq_eq_false_iff_ne.2 h2, beq_eq_false_iff_ne.2 h3, beq_eq_false_iff_ne.2 h4, beq_eq_false_iff_ne.2 h5] at h
  simp only [cond_false] at h
  by_cases h6 : k = 6
  · subst h6
    simp only [beq_self_eq_true, cond_true, Bool.and_eq_true, decide_eq_true_eq, beq_iff_eq] at h
    exact .inr (.inr (.inr (.inr (.inr (.inl ⟨rfl, h.1.1, h.1.2, h.2.2⟩)))))
  by_cases h7 : k = 7
  · subst h7
    simp only [show ((7 : Int) == 6) = false from rfl, cond_false, beq_self_eq_true, cond_true, Bool.and_eq_true, beq_iff_eq] at h
    exact .inr (.inr (.inr (.inr (.inr (.inr (.inl ⟨rfl, h.2.2⟩))))))
  by_cases h9 : k = 9
  · subst h9
    simp only [show ((9 : Int) == 6) = false from rfl, show ((9 : Int) == 7) = false from rfl, cond_false, beq_self_eq_true, cond_true, Bool.and_eq_true, beq_iff_eq] at h
    exact .inr (.inr (.inr (.inr (.inr (.inr (.inr (.inl ⟨rfl, h.2.2⟩)))))))
  by_cases h8 : k = 8
  · subst h8
    simp only [show ((8 : Int) == 6) = false from rfl, show ((8 : Int) == 7) = false from rfl, show ((8 : Int) == 9) = false from rfl, cond_false, beq_self_eq_true, cond_true, Bool.and_eq_true, beq_iff_eq] at h
    exact .inr (.inr (.inr (.inr (.inr (.inr (.inr (.inr ⟨rfl, h.2.2⟩)))))))
  rw [beq_eq_false_iff_ne.2 h6, beq_eq_false_iff_ne.2 h7, beq_eq_false_iff_ne.2 h9, beq_eq_false_iff_ne.2 h8] at h
  cases h
theorem two_of {α : Type} {l : List α} (h : l.length = 2) : ∃ x y, l = [x, y] := by
  match l, h with
  | [x, y], _ => exact ⟨x, y, rfl⟩
theorem three_of {α : Type} {l : List α} (h : l.length = 3) : ∃ x y z, l = [x, y, z] := by
  match l, h with
  | [x, y, z], _ => exact ⟨x, y, z, rfl⟩
theorem lvl6 {n : Int} {t : Str} {a : List Exp} (h1 : 1 ≤ n) (h5 : n ≤ 5) : 1 ≤ lvl (.mk 6 n t a) ∧ lvl (.mk 6 n t a) ≤ 3 := by
  rcases (by omega : n = 1 ∨ n = 2 ∨ n = 3 ∨ n = 4 ∨ n = 5) with rfl | rfl | rfl | rfl | rfl <;> simp [lvl, ek, en]
theorem sum_three {f g h : Exp → Nat} : ∀ {a : List Exp}, (∀ x ∈ a, f x + 4 ≤ 64 * g x + h x) → (a.map f).sum ≤ 64 * (a.map g).sum + (a.map h).sum
  | [], _ => Nat.le_refl _
  | x :: l, H => by
    have g1 := H x List.mem_cons_self
    have g2 := sum_three fun y hy => H y (List.mem_cons_of_mem _ hy)
    simp only [List.map_cons, List.sum_cons]; omega
theorem srcX_eq {K : Nat} (hK : K ≤ 1048576) : ∀ e : Exp, e.Fit K → e.size ≤ 1048576 → okE e = true → Big2 fun N d => (xAa N d).c_impl_source e = some (srcE e) ∧ (xAh N d).c_spec_l12Text e = some (srcE e) := by
  refine Exp.ind fun k n t a ih h hs ho => ?_
  obtain ⟨h1, h2, h3, h4⟩ := Exp.fit_iff.1 h
  have hnn : -9223372036854775808 ≤ n ∧ n ≤ 9223372036854775807 := h2
  have ht : t.length ≤ K := h3
  have hl : a.length ≤ K := h4.1
  rw [Exp.size_eq] at hs
  have hs : t.length + (a.length + (a.map Exp.size).sum) ≤ 1048576 := hs
  rw [okE_eq, Bool.and_eq_true] at ho
  have hoa : ∀ x ∈ a, okE x = true := List.all_eq_true.1 ho.1
  have hsz : ∀ x ∈ a, x.size ≤ 1048576 := fun x hx => by have := size_mem (f := Exp.size) hx; omega
  have IH := fun x hx => ih x hx (h4.2 x hx) (hsz x hx) (hoa x hx)
  refine Big2.succ (Big2.succ ?_)
  refine ((Big2.list fun x hx => (IH x hx).and (IH x hx).up).and (big_lt 1048576).two).imp fun N d ⟨hx, hn⟩ => ?_
  have hlen : ∀ x ∈ a, (srcE x).length ≤ 200000000 := fun x hx => by
    have e1 := srcE_len K x (h4.2 x hx)
    have e2 := Exp.cnt_le x
    have e3 := hsz x hx
    omega
  have hsum : ((a.map srcE).map List.length).sum ≤ 200000000 := by
    rw [List.map_map]
    have e1 := sum_three (f := List.length ∘ srcE) (g := Exp.cnt) (h := Exp.size) (a := a) fun x hx => srcE_len K x (h4.2 x hx)
    have e2 := sums_le (f := Exp.cnt) (g := Exp.size) (a := a) fun x _ => Exp.cnt_le x
    omega
  have A1 : ∀ x ∈ a, ∀ l, (xAa N (d + 1)).c_impl_enclosed x l = some (encl l x (srcE x)) := fun x hm l => impl_encl (hx x hm).1.1 (by have := hlen x hm; omega) l
  have A2 : ∀ x ∈ a, ∀ l, (xAh N (d + 1)).c_spec_l12At x l = some (encl l x (srcE x)) := fun x hm l => spec_encl (hx x hm).1.2 (by have := hlen x hm; omega) l
  have B1 := impl_srcs (N := N) (d := d) (a := a) (fun x hm => (hx x hm).1.1) (by omega) hn (by omega)
  have B2 := spec_srcs (N := N) (d := d) (a := a) (fun x hm => (hx x hm).1.2) (by omega) hn (by omega)
  have hj := join_len (a.map srcE) [44, 32]
  have h7 : ([44, 32] : Str).length = 2 := rfl
  rw [h7, List.length_map] at hj
  rw [srcE_eq]
  show xAL N (xAa N (d + 1)).c_impl_enclosed (xAa N (d + 1)).c_impl_source (xAa N (d + 1)).c_impl_sources (.mk k n t a) = _ ∧
    xAI N (xAh N (d + 1)).c_spec_l12At (xAh N (d + 1)).c_spec_l12List (xAh N (d + 1)).c_spec_l12Text (.mk k n t a) = _
  have C1 : ∀ x ∈ a, (xAa N (d + 1)).c_impl_source x = some (srcE x) := fun x hm => (hx x hm).2.1
  have C2 : ∀ x ∈ a, (xAh N (d + 1)).c_spec_l12Text x = some (srcE x) := fun x hm => (hx x hm).2.2
  generalize (xAa N (d + 1)).c_impl_enclosed = q0 at A1 ⊢
  generalize (xAa N (d + 1)).c_impl_source = q1 at C1 ⊢
  generalize (xAa N (d + 1)).c_impl_sources = q2 at B1 ⊢
  generalize (xAh N (d + 1)).c_spec_l12At = r0 at A2 ⊢
  generalize (xAh N (d + 1)).c_spec_l12Text = r1 at C2 ⊢
  generalize (xAh N (d + 1)).c_spec_l12List = r2 at B2 ⊢
  rcases kinds ho.2 with hk | hk | hk | hk | hk | ⟨hk, hn1, hn5, hl2⟩ | ⟨hk, hl2⟩ | ⟨hk, hl2⟩ | ⟨hk, hl2⟩ <;> (have hk : k = _ := hk; subst hk)
  · exact ⟨by simp [xAL, ek, en, impl_FormatInt_eq hnn, nodeS], by simp [xAI, ek, en, spec_FormatInt_eq (by omega : 100 < N) hnn, nodeS]⟩
  · have e1 : List.length [34] + List.length t ≤ Lim := by simp only [List.length_cons, List.length_nil]; unfold Lim; omega
    have e2 : List.length (([34] : Str) ++ t) + List.length [34] ≤ Lim := by simp only [List.length_append, List.length_cons, List.length_nil]; unfold Lim; omega
    refine ⟨?_, ?_⟩
    · simp only [xAL, ek, et, show ((2 : Int) == 1) = false from rfl, beq_self_eq_true, cond_true, cond_false, nodeS]
      repeat (first | refine Eq.trans (if_pos (by simp only [List.length_append, List.length_cons, List.length_nil]; unfold Lim; omega)) ?_ | refine Eq.trans (if_pos (by simp only [List.length_cons, List.length_nil]; omega)) ?_)
      rfl
    · simp only [xAI, ek, et, show ((2 : Int) == 1) = false from rfl, beq_self_eq_true, cond_true, cond_false, nodeS]
      repeat (first | refine Eq.trans (if_pos (by simp only [List.length_append, List.length_cons, List.length_nil]; unfold Lim; omega)) ?_ | refine Eq.trans (if_pos (by simp only [List.length_cons, List.length_nil]; omega)) ?_)
      rfl
  · exact ⟨rfl, rfl⟩
  · have e1 : List.length [91] + List.length (Lib.join (a.map srcE) [44, 32]) ≤ Lim := by simp only [List.length_cons, List.length_nil]; unfold Lim; omega
    have e2 : List.length (([91] : Str) ++ Lib.join (a.map srcE) [44, 32]) + List.length [93] ≤ Lim := by simp only [List.length_append, List.length_cons, List.length_nil]; unfold Lim; omega
    refine ⟨?_, ?_⟩
    · simp only [xAL, ek, ea, show ((4 : Int) == 1) = false from rfl, show ((4 : Int) == 2) = false from rfl, show ((4 : Int) == 3) = false from rfl, beq_self_eq_true, cond_true, cond_false, nodeS, B1, Option.bind_some]
      repeat (first | refine Eq.trans (if_pos (by simp only [List.length_append, List.length_cons, List.length_nil]; unfold Lim; omega)) ?_ | refine Eq.trans (if_pos (by simp only [List.length_cons, List.length_nil]; omega)) ?_)
      rfl
    · simp only [xAI, ek, ea, show ((4 : Int) == 1) = false from rfl, show ((4 : Int) == 2) = false from rfl, show ((4 : Int) == 3) = false from rfl, beq_self_eq_true, cond_true, cond_false, nodeS, B2, Option.bind_some]
      repeat (first | refine Eq.trans (if_pos (by simp only [List.length_append, List.length_cons, List.length_nil]; unfold Lim; omega)) ?_ | refine Eq.trans (if_pos (by simp only [List.length_cons, List.length_nil]; omega)) ?_)
      rfl
  · have e0 : List.length t + List.length [40] ≤ Lim := by simp only [List.length_cons, List.length_nil]; unfold Lim; omega
    have e1 : List.length (t ++ [40]) + List.length (Lib.join (a.map srcE) [44, 32]) ≤ Lim := by simp only [List.length_append, List.length_cons, List.length_nil]; unfold Lim; omega
    have e2 : List.length ((t ++ [40]) ++ Lib.join (a.map srcE) [44, 32]) + List.length [41] ≤ Lim := by simp only [List.length_append, List.length_cons, List.length_nil]; unfold Lim; omega
    refine ⟨?_, ?_⟩
    · simp only [xAL, ek, ea, et, show ((5 : Int) == 1) = false from rfl, show ((5 : Int) == 2) = false from rfl, show ((5 : Int) == 3) = false from rfl, show ((5 : Int) == 4) = false from rfl, beq_self_eq_true, cond_true, cond_false, nodeS, B1, Option.bind_some]
      repeat (first | refine Eq.trans (if_pos (by simp only [List.length_append, List.length_cons, List.length_nil]; unfold Lim; omega)) ?_ | refine Eq.trans (if_pos (by simp only [List.length_cons, List.length_nil]; omega)) ?_)
      rfl
    · simp only [xAI, ek, ea, et, show ((5 : Int) == 1) = false from rfl, show ((5 : Int) == 2) = false from rfl, show ((5 : Int) == 3) = false from rfl, show ((5 : Int) == 4) = false from rfl, beq_self_eq_true, cond_true, cond_false, nodeS, B2, Option.bind_some]
      repeat (first | refine Eq.trans (if_pos (by simp only [List.length_append, List.length_cons, List.length_nil]; unfold Lim; omega)) ?_ | refine Eq.trans (if_pos (by simp only [List.length_cons, List.length_nil]; omega)) ?_)
      rfl
  · obtain ⟨x, y, rfl⟩ := two_of hl2
    have lx := hlen x (by simp)
    have ly := hlen y (by simp)
    have cx := A1 x (by simp)
    have cy := A1 y (by simp)
    have dx := A2 x (by simp)
    have dy := A2 y (by simp)
    have gx : List.getD [x, y] (Int.toNat 0) Ty.exp.dflt = x := rfl
    have gy : List.getD [x, y] (Int.toNat 1) Ty.exp.dflt = y := rfl
    have hv := lvl6 (n := n) (t := t) (a := [x, y]) hn1 hn5
    have hw : IntKind.i64.wrap (lvl (.mk 6 n t [x, y]) + 1) = lvl (.mk 6 n t [x, y]) + 1 := xCy (by omega) (by omega)
    obtain ⟨o1, o2⟩ := opSym_eq (N := N) (n := n) hn1 hn5
    have ol := opSym_len n
    have kx := fun l => encl_len l x (srcE x)
    have ky := fun l => encl_len l y (srcE y)
    have k1 := kx 2
    have k2 := kx (lvl (.mk 6 n t [x, y]))
    have k3 := ky (lvl (.mk 6 n t [x, y]) + 1)
    refine ⟨?_, ?_⟩
    · cases hb : (lvl (.mk 6 n t [x, y]) == 1)
      all_goals
        simp only [xAL, ek, en, et, ea, show ((6 : Int) == 1) = false from rfl, show ((6 : Int) == 2) = false from rfl, show ((6 : Int) == 3) = false from rfl, show ((6 : Int) == 4) = false from rfl, show ((6 : Int) == 5) = false from rfl, show ((6 : Int) == 7) = false from rfl, show ((6 : Int) == 8) = false from rfl, show ((6 : Int) == 9) = false from rfl, cond_true, cond_false, xDR, Option.bind_some, hb, gx, gy, cx, cy, hw, o1]
        repeat (first | refine Eq.trans (if_pos (by simp only [List.length_append, List.length_cons, List.length_nil]; unfold Lim; omega)) ?_ | rw [o1, Option.bind_some] | refine Eq.trans (if_pos (by simp only [List.length_cons, List.length_nil]; omega)) ?_)
        simp only [nodeS, show ((6 : Int) == 1) = false from rfl, show ((6 : Int) == 2) = false from rfl, show ((6 : Int) == 3) = false from rfl, show ((6 : Int) == 4) = false from rfl, show ((6 : Int) == 5) = false from rfl, show ((6 : Int) == 7) = false from rfl, show ((6 : Int) == 8) = false from rfl, show ((6 : Int) == 9) = false from rfl, cond_true, cond_false, hb]
        rfl
    · cases hb : (lvl (.mk 6 n t [x, y]) == 1)
      all_goals
        simp only [xAI, ek, en, et, ea, show ((6 : Int) == 1) = false from rfl, show ((6 : Int) == 2) = false from rfl, show ((6 : Int) == 3) = false from rfl, show ((6 : Int) == 4) = false from rfl, show ((6 : Int) == 5) = false from rfl, show ((6 : Int) == 7) = false from rfl, show ((6 : Int) == 8) = false from rfl, show ((6 : Int) == 9) = false from rfl, cond_true, cond_false, xDk, Option.bind_some, hb, gx, gy, dx, dy, hw, o2]
        repeat (first | refine Eq.trans (if_pos (by simp only [List.length_append, List.length_cons, List.length_nil]; unfold Lim; omega)) ?_ | rw [o2, Option.bind_some] | refine Eq.trans (if_pos (by simp only [List.length_cons, List.length_nil]; omega)) ?_)
        simp only [nodeS, show ((6 : Int) == 1) = false from rfl, show ((6 : Int) == 2) = false from rfl, show ((6 : Int) == 3) = false from rfl, show ((6 : Int) == 4) = false from rfl, show ((6 : Int) == 5) = false from rfl, show ((6 : Int) == 7) = false from rfl, show ((6 : Int) == 8) = false from rfl, show ((6 : Int) == 9) = false from rfl, cond_true, cond_false, hb]
        rfl
  · obtain ⟨x, y, rfl⟩ := two_of hl2
    have lx := hlen x (by simp)
    have cx := C1 x (by simp)
    have dx := C2 x (by simp)
    have gx : List.getD [x, y] (Int.toNat 0) Ty.exp.dflt = x := rfl
    have ly := hlen y (by simp)
    have cy := C1 y (by simp)
    have dy := C2 y (by simp)
    have gy : List.getD [x, y] (Int.toNat 1) Ty.exp.dflt = y := rfl
    refine ⟨?_, ?_⟩
    · simp only [xAL, ek, en, et, ea, show ((7 : Int) == 1) = false from rfl, show ((7 : Int) == 2) = false from rfl, show ((7 : Int) == 3) = false from rfl, show ((7 : Int) == 4) = false from rfl, show ((7 : Int) == 5) = false from rfl, show ((7 : Int) == 6) = false from rfl, beq_self_eq_true, cond_true, cond_false, gx, gy, cx, cy, Option.bind_some]
      repeat (first | refine Eq.trans (if_pos (by simp only [List.length_append, List.length_cons, List.length_nil]; unfold Lim; omega)) ?_ | refine Eq.trans (if_pos (by simp only [List.length_cons, List.length_nil]; omega)) ?_)
      rfl
    · simp only [xAI, ek, en, et, ea, show ((7 : Int) == 1) = false from rfl, show ((7 : Int) == 2) = false from rfl, show ((7 : Int) == 3) = false from rfl, show ((7 : Int) == 4) = false from rfl, show ((7 : Int) == 5) = false from rfl, show ((7 : Int) == 6) = false from rfl, beq_self_eq_true, cond_true, cond_false, gx, gy, dx, dy, Option.bind_some]
      repeat (first | refine Eq.trans (if_pos (by simp only [List.length_append, List.length_cons, List.length_nil]; unfold Lim; omega)) ?_ | refine Eq.trans (if_pos (by simp only [List.length_cons, List.length_nil]; omega)) ?_)
      rfl
  · obtain ⟨x, y, rfl⟩ := two_of hl2
    have lx := hlen x (by simp)
    have cx := C1 x (by simp)
    have dx := C2 x (by simp)
    have gx : List.getD [x, y] (Int.toNat 0) Ty.exp.dflt = x := rfl
    have ly := hlen y (by simp)
    have cy := C1 y (by simp)
    have dy := C2 y (by simp)
    have gy : List.getD [x, y] (Int.toNat 1) Ty.exp.dflt = y := rfl
    refine ⟨?_, ?_⟩
    · simp only [xAL, ek, en, et, ea, show ((9 : Int) == 1) = false from rfl, show ((9 : Int) == 2) = false from rfl, show ((9 : Int) == 3) = false from rfl, show ((9 : Int) == 4) = false from rfl, show ((9 : Int) == 5) = false from rfl, show ((9 : Int) == 7) = false from rfl, show ((9 : Int) == 8) = false from rfl, beq_self_eq_true, cond_true, cond_false, gx, gy, cx, cy, Option.bind_some]
      repeat (first | refine Eq.trans (if_pos (by simp only [List.length_append, List.length_cons, List.length_nil]; unfold Lim; omega)) ?_ | refine Eq.trans (if_pos (by simp only [List.length_cons, List.length_nil]; omega)) ?_)
      rfl
    · simp only [xAI, ek, en, et, ea, show ((9 : Int) == 1) = false from rfl, show ((9 : Int) == 2) = false from rfl, show ((9 : Int) == 3) = false from rfl, show ((9 : Int) == 4) = false from rfl, show ((9 : Int) == 5) = false from rfl, show ((9 : Int) == 7) = false from rfl, show ((9 : Int) == 8) = false from rfl, beq_self_eq_true, cond_true, cond_false, gx, gy, dx, dy, Option.bind_some]
      repeat (first | refine Eq.trans (if_pos (by simp only [List.length_append, List.length_cons, List.length_nil]; unfold Lim; omega)) ?_ | refine Eq.trans (if_pos (by simp only [List.length_cons, List.length_nil]; omega)) ?_)
      rfl
  · obtain ⟨x, y, z, rfl⟩ := three_of hl2
    have lx := hlen x (by simp)
    have cx := C1 x (by simp)
    have dx := C2 x (by simp)
    have gx : List.getD [x, y, z] (Int.toNat 0) Ty.exp.dflt = x := rfl
    have ly := hlen y (by simp)
    have cy := C1 y (by simp)
    have dy := C2 y (by simp)
    have gy : List.getD [x, y, z] (Int.toNat 1) Ty.exp.dflt = y := rfl
    have lz := hlen z (by simp)
    have cz := C1 z (by simp)
    have dz := C2 z (by simp)
    have gz : List.getD [x, y, z] (Int.toNat 2) Ty.exp.dflt = z := rfl
    refine ⟨?_, ?_⟩
    · simp only [xAL, ek, en, et, ea, show ((8 : Int) == 1) = false from rfl, show ((8 : Int) == 2) = false from rfl, show ((8 : Int) == 3) = false from rfl, show ((8 : Int) == 4) = false from rfl, show ((8 : Int) == 5) = false from rfl, show ((8 : Int) == 7) = false from rfl, show ((8 : Int) == 9) = false from rfl, beq_self_eq_true, cond_true, cond_false, gx, gy, gz, cx, cy, cz, Option.bind_some]
      repeat (first | refine Eq.trans (if_pos (by simp only [List.length_append, List.length_cons, List.length_nil]; unfold Lim; omega)) ?_ | refine Eq.trans (if_pos (by simp only [List.length_cons, List.length_nil]; omega)) ?_)
      rfl
    · simp only [xAI, ek, en, et, ea, show ((8 : Int) == 1) = false from rfl, show ((8 : Int) == 2) = false from rfl, show ((8 : Int) == 3) = false from rfl, show ((8 : Int) == 4) = false from rfl, show ((8 : Int) == 5) = false from rfl, show ((8 : Int) == 7) = false from rfl, show ((8 : Int) == 9) = false from rfl, beq_self_eq_true, cond_true, cond_false, gx, gy, gz, dx, dy, dz, Option.bind_some]
      repeat (first | refine Eq.trans (if_pos (by simp only [List.length_append, List.length_cons, List.length_nil]; unfold Lim; omega)) ?_ | refine Eq.trans (if_pos (by simp only [List.length_cons, List.length_nil]; omega)) ?_)
      rfl
end Go.Ab
end
section
namespace Go.Ab
set_option linter.unusedVariables false
set_option linter.unusedSimpArgs false
def fmtE (e : Exp) : Str := bif !validE e then [] else srcE e
theorem format_eq {K : Nat} (hK : K ≤ 1048576) {e : Exp} (h : e.Fit K) (hs : e.size ≤ 1048576) : Big fun N => xBZ N e = some (fmtE e) ∧ xB6 N e = some (fmtE e) := by
  cases hv : validE e
  · refine (validX_eq hK h hs).imp fun N ⟨h1, h2⟩ => ?_
    simp only [xBZ, xB6, h1, h2, hv, Option.bind_some, Bool.not_false, cond_true, fmtE]
    exact ⟨trivial, trivial⟩
  · have ho : okE e = true := by
      unfold validE at hv
      simp only [Bool.and_eq_true] at hv
      exact hv.2
    refine ((validX_eq hK h hs).and (srcX_eq hK e h hs ho).diag).imp fun N ⟨⟨h1, h2⟩, s1, s2⟩ => ?_
    have s3 : xEh N e = some (srcE e) := s1
    have s4 : xDX N e = some (srcE e) := s2
    simp only [xBZ, xB6, h1, h2, hv, Option.bind_some, Bool.not_true, cond_false, fmtE, s3, s4]
    exact ⟨trivial, trivial⟩
theorem xDg (a0 : Exp) (f0 : ∀ z ∈ [CV.int .i64 (Exp.kind a0), .int .i64 (Exp.n a0), .str (Exp.text a0), .sl .ro .exp (Exp.args a0)], DFit z.toD) : ∃ N, xBr N a0 = some true := by
  have hF := exp_of_cells f0
  by_cases h : left a0.size 1048576 < 0
  · exact ((szExpr_eq hF).imp fun N hs => by simp [xBr, hs, h]).get
  · have hs := guard h
    have hfit : a0.Fit 1048576 := Exp.fit_size a0 hF hs
    refine (((szExpr_eq hF).and (toExpr_eq hfit)).and ((format_eq (by omega) hfit hs).and (eqExpr_self hfit (by omega)))).imp (fun N ⟨⟨h1, h2⟩, ⟨h3, h4⟩, h5⟩ => ?_) |>.get
    simp only [xBr, h1, h2, h3, h4, h5, Option.bind_some, decide_eq_false h, cond_false, beq_self_eq_true, Bool.not_true]
end Go.Ab
end
section
namespace Go.Proofs.YtkfoneofdidhkaaDoor
open Go.Ab Go.ChangeShapes Go.WideShapes Go.ChangeAt Go.RowKit
set_option linter.unusedVariables false
theorem own : ownKnob Tryd.prog.godebug = none := by kernel_rfl
theorem laidOut : laidOutB Tryd.prog = true := by kernel_rfl
theorem xDN : ktChk Tryd.prog [(39, .exp)] = true := by kernel_rfl
theorem fnExactFormatExpr_tab {W : World} (h : laidMetH Tryd.prog Rows.fnExactFormatExprRow.laid W) : Go.Lib.TabIs Tryd.prog W Go.Ab.T.p10 .u64 Go.Lib.pow10Tab := by
  rw [MakeChecks.laidMetH_plain _ _ _ (by kernel_rfl)] at h
  exact Go.Lib.tabIs_of_head (g := 2) (t := 148) (e := 137) (n := 20) (by kernel_rfl) (by kernel_rfl) Tryd.underlying148 Tryd.underlying137 (by kernel_rfl) (by kernel_rfl) h.tail.tail
set_option maxRecDepth 100000 in
theorem fnExactFormatExpr_lifted (os : Os) (started : os.Started) (H : Type) (enc : TypeId × Value → H) :
    ReturnsInHanded {} Tryd.checked os 5 .any (fun w args => (Rows.fnExactFormatExprSpec.pre enc Tryd.prog Tryd.f5 Rows.fnExactFormatExprRow.domain false w args ∧ laidMetH Tryd.prog Rows.fnExactFormatExprRow.laid w) ∧ sizedMet enc Tryd.prog Tryd.f5 (OpenSpec.ofChange Rows.fnExactFormatExprSpec) false w args)
      (Rows.fnExactFormatExprSpec.post enc Tryd.prog Tryd.f5 false true false false) := by
  refine returnsInHanded_of_change_and (C := Tryd.checked) (X := fun w _ => laidMetH Tryd.prog Rows.fnExactFormatExprRow.laid w) (fun _ _ _ hh h => h.of_heap hh) own started (by kernel_rfl) Tryd.func5
    (ChangeSpec.witness_shaped (enc := enc) (C := Tryd.checked) (os := os) (X := fun w _ => laidMetH Tryd.prog Rows.fnExactFormatExprRow.laid w) false (World.laidAll Tryd.prog os Rows.fnExactFormatExprRow.laid) #[.agg #[.int .i64 0, .int .i64 0, .string ByteArray.empty, .slice none 0 0]] 8 (World.laidAll_os _ _ _)
      (World.shaped_of_ZipB (by kernel_rfl) (by kernel_rfl)) (by kernel_rfl) (by kernel_rfl) (by kernel_rfl)
      (by rw [MakeChecks.laidMetH_plain _ _ _ (by kernel_rfl)]; exact laidMet_laidAll _ (by kernel_rfl) (by kernel_rfl))) ?_
  intro W base args ds gs before hval0 hW hcnd _ hL _
  obtain ⟨g0, o0, hgo, hall⟩ := tab_obj (fnExactFormatExpr_tab hL)
  letI : Inhabited Lb := ⟨⟨[(g0, o0)]⟩⟩
  haveI : Nonempty T.Tab10 := ⟨fun w hw => hall w (hw (g0, o0) (List.mem_singleton.2 rfl))⟩
  have hval : ∀ (j : Nat) t v, Tryd.f5.params[j]? = some t → args[j]? = some v → Value.okWide Tryd.prog W .any base t v := hval0
  have hW' := hW
  obtain ⟨p, q, hA0, hV, rfl, hfz, hnd⟩ := hW
  have hA : DataW.TrodAll enc Tryd.prog W 0 (fun _ => true) true Tryd.f5.params.toList args.toList ds p := hA0
  rw [Tryd.params5] at hA hval
  obtain ⟨v0, vs0, d0, ds0, p0, q0, hargs, rfl, rfl, h0, r0⟩ := trodAll_cons hA
  obtain ⟨rfl, rfl, rfl⟩ := trodAll_nil r0
  obtain rfl : args = #[v0] := by cases args; simp_all
  obtain ⟨rfl, rfl⟩ := trodVars_none hV
  have lt0 : ∀ x ∈ p0, x.block < W.heap.size := by obtain ⟨m, hm⟩ := h0; exact DataW.trod_lt m _ _ _ hm
  obtain ⟨z0, e0, f0, vr0⟩ := vr_of xDN (g := true) (t := 39) (ns := [.inl (.int .i64), .inl (.int .i64), .inl .str, .inr .exp]) (by kernel_rfl) (hval 0 39 v0 rfl rfl) h0
  obtain ⟨x0_0, _, rfl, e0_0⟩ := AreOf.int_inv e0
  obtain ⟨x0_1, _, rfl, e0_1⟩ := AreOf.int_inv e0_0
  obtain ⟨x0_2, _, rfl, e0_2⟩ := AreOf.str_inv e0_1
  obtain ⟨x0_3, _, rfl, e0_3⟩ := AreOf.sl_inv e0_2
  obtain rfl := e0_3.nil_inv
  obtain ⟨N, hF⟩ := xDg (Exp.mk x0_0 x0_1 x0_2 x0_3) f0
  clear hA0 hval0
  refine (calls_of T.fk5 (T.laws_FnExactFormatExpr_ok hF) (W := W) (args := #[v0]) ⟨vr0 _, trivial⟩ (fun x hx => by obtain rfl := List.mem_singleton.1 hx; exact hgo)).mono fun e W' ⟨he, bel⟩ => ?_
  subst he
  exact ⟨_, rfl, _, _, _, [], _, [], hW', trodAll_mk1 (shut_bool Tryd.underlying4 _), (trodAll_cons_mk (Below.trod laidOut (by kernel_rfl) (of_decide_eq_true (by kernel_rfl)) h0 bel lt0) trodAll_mk0), rfl, bel.frame _, fun h => by cases h⟩
theorem fnExactFormatExpr_proved : Rows.FnExactFormatExprSaid :=
  OpenClaim.holds_of_wide 5 Tryd.f5 rfl rfl rfl rfl rfl rfl rfl ⟨rfl, rfl, rfl, rfl, rfl⟩ rfl rfl rfl rfl rfl (by kernel_rfl) Tryd.func5 (by kernel_rfl)
    (of_decide_eq_true (by kernel_rfl)) (by unfold Func.isWrapper; first | (rw [if_pos (by decide +kernel)]; kernel_rfl) | (rw [if_neg (by decide +kernel)]; exact ⟨rfl, rfl⟩))
    (fun os started H enc _ => fnExactFormatExpr_lifted os started H enc)
theorem fnExactFormatExpr_card : Rows.FnExactFormatExprCardSaid :=
  Claim7.holds_tied_plain_at .later [] Rows.fnExactFormatExprCard.laidKinds true Rows.fnExactFormatExprCard.stood.harness false fnExactFormatExpr_proved (fun _ h => by cases h) (by kernel_rfl) (fun _ h => by cases h) fnExactFormatExpr_row_tie rfl ⟨rfl, rfl⟩ (by kernel_rfl) rfl
    (fun f fn hf hfn => by
      obtain rfl : f = 5 := Option.some.inj ((show Tryd.prog.funcNamed Rows.fnExactFormatExprRow.func = some 5 by kernel_rfl).symm.trans hf) |>.symm
      obtain rfl : fn = Tryd.f5 := (Option.some.inj (Tryd.func5.symm.trans hfn)).symm
      exact ⟨by kernel_rfl, fun j t ht => by
        rw [Tryd.params5] at ht
        have hm : t ∈ [39] := by simpa using Array.mem_of_getElem? ht
        have hall : ([39].all fun u => !Tryd.prog.wantsStandIn u) = true := by kernel_rfl
        exact (show Tryd.prog.wantsStandIn t = false by simpa using List.all_eq_true.1 hall t hm)⟩)
    (by kernel_rfl)
end Go.Proofs.YtkfoneofdidhkaaDoor
end
