/- The statement FnExactRenameFree holds: plain functions, certificates, laws. Conditions: none. -/
import Derived.Test.YtkfoneofdidhkaaL2
import Derived.Test.YtkfoneofdidhkaaFnExactRenameFreeP0
set_option linter.all false
section
namespace Go.Ab
section
variable {N d : Nat} {k n : Int} {t : Str} {a : List Exp} {bd : List Str}
theorem xN5 (hN : 4000000 < N) (hbd : bd.length + 1 ≤ 4000000) (hal : a.length ≤ 4000000) {b : Bool} {e : Exp} {o : Bool} {p q : Str} (ht : e.text = t)
 {f : Exp → List Str → Bool → Str → Str → Option (Bool × Str × Str)} (hq : ∀ x ∈ a, ∀ g o, f x (inn bd b t g) o p q = some (o || xDg x p q (inn bd b t g), p, q)) :
 xAg N f N bd b a a.length 0 e o p q = some (o || xEi a p q bd b t true, p, q) := by
 have key := xCZ (σ := Bool × Bool) (L := fun m i s => xAg N f m bd b a a.length i e s.1 p q) a (fun l s => (s.1 || xEi l p q bd b t s.2, p, q)) (fun i s => s.2 = (i == 0))
  (fun m s _ => by simp [xAg, xEi])
  (fun i x l s hd hi hxi hs1 => by
    have hi' : (i : Int) < (a.length : Int) := by omega
    have hm := List.mem_of_getElem? hxi
    have hqx := hq x hm s.2 s.1
    refine .inl ⟨(s.1 || xDg x p q (inn bd b t s.2), false), by simp, by simp only [xEi, Bool.or_assoc], fun m => ?_⟩
    simp only [xAg, decide_eq_true hi', jT, Int.toNat_natCast, xBG hxi, ht, List.nil_append, xBh hi (by omega : a.length ≤ _)]
    rw [if_pos (by omega)]
    unfold inn at hqx ⊢
    cases b with
    | false => simp only [Bool.false_and, jF] at hqx ⊢; rw [hqx]; rfl
    | true =>
      cases hp : decide ((i : Int) > 0) with
      | true =>
        rw [hs1, xI9 hp] at hqx ⊢
        simp only [Bool.not_false, Bool.and_true, jT] at hqx ⊢
        rw [if_pos (by unfold Lim; omega), if_pos (by simp only [List.length_singleton]; unfold Lim; omega), hqx]; rfl
      | false =>
        rw [hs1, xHT hp] at hqx ⊢
        simp only [Bool.not_true, Bool.and_false, jF, jT] at hqx ⊢
        rw [hqx]; rfl) N 0 (o, true) rfl (by omega) (by omega)
 exact key
theorem xN3 (hN : 4000000 < N) (hbd : bd.length + 1 ≤ 4000000) (hal : a.length ≤ 4000000) {p q : Str}
 {f : Exp → Str → Str → List Str → Option Bool} (hq : ∀ x ∈ a, ∀ g, f x p q (inn bd (xBT k) t g) = some (xDg x p q (inn bd (xBT k) t g))) :
 xAJ N f N p q bd 0 (.mk k n t a) = some (xEi a p q bd (xBT k) t true) := by
 have key := xCZ (σ := Bool) (L := fun m i s => xAJ N f m p q bd i (.mk k n t a)) a (fun l s => xEi l p q bd (xBT k) t s) (fun i s => s = (i == 0))
  (fun m s _ => by simp [xAJ, xEi, ea])
  (fun i x l s hd hi hxi hs1 => by
    have hi' : (i : Int) < (a.length : Int) := by omega
    have hm := List.mem_of_getElem? hxi
    have hqx := hq x hm s
    have hi2 : (i : Int) < ((Exp.mk k n t a).args.length : Int) := hi'
    have hil : (0 : Int) ≤ (i : Int) ∧ (i : Int) < ((Exp.mk k n t a).args.length : Int) := ⟨by omega, hi2⟩
    have hxi2 : (Exp.mk k n t a).args[i]? = some x := hxi
    have hg0 : 0 + bd.length ≤ Lim := by unfold Lim; omega
    have hg1 : bd.length + [t].length ≤ Lim := by simp only [List.length_singleton]; unfold Lim; omega
    have step : ∀ m, xAJ N f (m + 1) p q bd i (.mk k n t a) = bif xDg x p q (inn bd (xBT k) t s) then some true else xAJ N f m p q bd ((i + 1 : Nat) : Int) (.mk k n t a) := by
     intro m
     simp only [xAJ, et, ek, decide_eq_true hi2, jT, Int.toNat_natCast, xBG hxi2, List.nil_append, xBh hi (by omega : a.length ≤ _), if_pos hil, if_pos hg0, if_pos hg1]
     unfold xBT inn at hqx ⊢
     cases h7 : k == 7 <;> cases h9 : k == 9 <;> cases hp : decide ((i : Int) > 0) <;> simp only [h7, h9, hp, hs1, Bool.or_false, Bool.or_true, Bool.false_and, Bool.true_and, jF, jT] at hqx ⊢ <;>
      first
      | (rw [hqx]; rfl)
      | (rw [xHT hp] at hqx ⊢; simp only [Bool.not_true, jF] at hqx ⊢; rw [hqx]; rfl)
      | (rw [xI9 hp] at hqx ⊢; simp only [Bool.not_false, jT] at hqx ⊢; rw [hqx]; rfl)
    cases hc : xDg x p q (inn bd (xBT k) t s)
    · refine .inl ⟨false, by simp, by simp only [xEi, hc, Bool.false_or], fun m => ?_⟩
      rw [step, hc]; rfl
    · refine .inr fun m => ?_
      rw [step, hc]; simp only [jT, xEi, hc, Bool.true_or]) N 0 true rfl (by omega) (by omega)
 exact key
end
theorem xIv (p q : Str) : ∀ e : Exp, Big2 fun N d => ∀ bd o, bd.length + e.size ≤ 3000000 →
 xBY N d e p q bd = some (xDg e p q bd) ∧ xAG N d e bd o p q = some (o || xDg e p q bd, p, q) := by
 refine Exp.ind fun k n t a ih => ?_
 refine Big2.succ ?_
 refine ((Big2.list fun x hx => ih x hx).and (xFm 8000000).two).imp fun N d ⟨hx, hN⟩ bd o hb => ?_
 have hal := xKl (k := k) (n := n) (t := t) (a := a)
 have hc : ∀ x ∈ a, ∀ (f : Bool), (inn bd (xBT k) t f).length + x.size ≤ 3000000 := fun x hm f => by
  have h1 := xKv (bd := bd) (b := xBT k) (t := t) (f := f)
  have h2 := (xJa (k := k) (n := n) (t := t) hm).1
  omega
 have hS := xN3 (N := N) (k := k) (n := n) (t := t) (a := a) (bd := bd) (p := p) (q := q) (f := xBY N d) (by omega) (by omega) (by omega) fun x hm f => (hx x hm (inn bd (xBT k) t f) false (hc x hm f)).1
 have hV : ∀ (b : Bool) , b = xBT k → xAg N (xAG N d) N bd b a a.length 0 (.mk k n t a) o p q = some (o || xEi a p q bd (xBT k) t true, p, q) := by
  rintro b rfl
  exact xN5 (by omega) (by omega) (by omega) rfl fun x hm f o => (hx x hm (inn bd (xBT k) t f) o (hc x hm f)).2
 have hH : ∀ s, xD6 N bd s = some (bd.any (· == s)) := fun s => xGb (by omega) (by omega)
 have hI : ∀ s, xDK N bd s = some (idxS bd s 0) := fun s => xGu (by omega) (by omega)
 have hge : ∀ s, decide (idxS bd s 0 ≥ 0) = bd.any (· == s) := fun s => by
  have := xG1 (s := s) bd 0
  cases ha : bd.any (· == s)
  · rw [ha] at this; exact decide_eq_false (by have := of_decide_eq_true this; omega)
  · rw [ha] at this; exact decide_eq_true (by have := of_decide_eq_false this; omega)
 refine ⟨?_, ?_⟩
 · show xCl N (xBY N d) (.mk k n t a) p q bd = _
   simp only [xCl, xDg, ek, et, hH, jS, hS]
   cases k == 3 <;> cases bd.any (· == t) <;> cases t == p <;> rfl
 · show xAM N (xAG N d) (.mk k n t a) bd o p q = _
   simp only [xAM, xDg, ek, et, ea, hI, jS, xG1]
   cases h3 : k == 3
   · simp only [jF, Bool.false_and]
     cases h7 : k == 7
     · cases h9 : k == 9
       · simp only [jF]; exact hV false (by simp [xBT, h7, h9])
       · simp only [jT, jF]; exact hV true (by simp [xBT, h7, h9])
     · simp only [jT]; exact hV true (by simp [xBT, h7])
   · obtain ⟨g1, g7, g9⟩ := xOb h3
     cases bd.any (· == t)
     · simp only [jT, Bool.not_false, Bool.and_true, xDp, hI, jS, hge]
       cases o <;> cases t == p <;> simp
     · simp only [jT, Bool.not_true, Bool.and_false, jF, g9]
       exact hV false g1.symm
end Go.Ab
end
section
namespace Go.Ab
abbrev e0 : Exp := .mk 0 0 [] []
end Go.Ab
end
section
namespace Go.Ab
def cExp (e : Exp) : Nat := 3 * e.cnt
theorem xHC (e : Exp) : cExp e = 3 + (e.args.map cExp).sum := by
 unfold cExp
 rw [Exp.cnt_eq]
 have : ∀ l : List Exp, (l.map fun e => 3 * e.cnt).sum = 3 * (l.map Exp.cnt).sum := by
  intro l
  induction l with
  | nil => rfl
  | cons x l ih => simp only [List.map_cons, List.sum_cons, ih]; omega
 rw [this]; omega
theorem xIJ (l : List Exp) : l.length ≤ (l.map cExp).sum := by
 induction l with
 | nil => simp
 | cons x l ih =>
   have := xHC x
   simp only [jC, List.map_cons, List.sum_cons]; omega
def xKq (N d : Nat) (l : List Exp) : Prop := ∀ k : Int, 0 ≤ k → k + ((l.map cExp).sum : Nat) ≤ 137438953472 →
    ∃ ys, ys.length = l.length ∧ xCx N d l k = some (k + ((l.map cExp).sum : Nat), ys) ∧ xCw N d ys k = some (k + ((l.map cExp).sum : Nat))
theorem xIx {N d : Nat} (hN : 274877906944 < N) {l : List Exp} (hx : ∀ x ∈ l, xKq N d x.args) : xKq N (d + 1) l := by
 intro k h0 h1
 have hlen := xIJ l
 refine xJi (Lm := fun n xs k i => xB9 N (xCx N d) n xs k i) (Lh := fun n ys k i => xB8 N (xCw N d) n ys k i) (c := cExp) (fun n xs k hl => by simp [xB9]) (fun n ys k hl => by simp [xB8])
  (fun x hxm k hk hB => ?_) h1 (by omega)
 have hc := xHC x
 rw [hc] at hB ⊢
 obtain ⟨t, ht⟩ := xG2 hN (k := k + 1 + 1) (by omega) (by omega)
 obtain ⟨ya, a1, a2, a3⟩ := hx x hxm (k + 1 + 1 + 1) (by omega) (by omega)
 have w1 : IntKind.i64.wrap (k + 1) = k + 1 := xDX (by omega) (by omega)
 have w2 : IntKind.i64.wrap (k + 1 + 1) = k + 1 + 1 := xDX (by omega) (by omega)
 have w3 : IntKind.i64.wrap (k + 1 + 1 + 1) = k + 1 + 1 + 1 := xDX (by omega) (by omega)
 refine ⟨.mk k (k + 1) t ya, fun n xs' i hl hxi => ?_, fun n ys i hl hyi => ?_⟩
 · have hi := (List.getElem?_eq_some_iff.1 hxi).1
   have hi' : (i : Int) < (xs'.length : Int) := by omega
   have hcd : (0 : Int) ≤ (i : Int) ∧ (i : Int) < (xs'.length : Int) := by omega
   simp only [xB9, decide_eq_true hi', jT, Int.toNat_natCast, xBG hxi, List.length_set, xG0 hi, List.set_set, xBh hi (by omega : xs'.length ≤ _), if_pos hcd, w1, w2, w3, ht, jS,
    ek, en, et, ea, a2, if_pos a1]
   congr 1
   omega
 · have hi := (List.getElem?_eq_some_iff.1 hyi).1
   have hi' : (i : Int) < (ys.length : Int) := by omega
   have hcd : (0 : Int) ≤ (i : Int) ∧ (i : Int) < (ys.length : Int) := by omega
   simp only [xB8, decide_eq_true hi', jT, Int.toNat_natCast, xBG hyi, xBh hi (by omega : ys.length ≤ _), if_pos hcd, w1, w2, w3, ht, jS, ek, en, et, ea, a3, bne_self_eq_false, beq_self_eq_true, Bool.not_true, jF]
   rw [decide_eq_false (by omega), jF]
   congr 1
   omega
theorem xIN {K : Nat} : ∀ v : Exp, Big2 fun N d => xKq N d v.args := by
 refine Exp.ind fun k n t a ih => ?_
 refine Big2.succ ?_
 refine ((Big2.list fun x hx => ih x hx).and (xFm 274877906944).two).imp fun N d ⟨hx, hN⟩ => ?_
 exact xIx hN hx
theorem xF4 {v : Exp} (hc : v.cnt ≤ 1000000000) :
 Big fun N => ∃ k xa, 0 ≤ k ∧ xa.length = v.args.length ∧ xDr N v 1 = some (k, xa) ∧ xDq N (Exp.mk v.kind v.n v.text xa) 1 = some k := by
 refine ((xIN (K := 0) v).diag).imp fun N hm => ?_
 have hc' := xHC v
 have hc2 : cExp v = 3 * v.cnt := rfl
 obtain ⟨ya, a1, a2, a3⟩ := hm 1 (by omega) (by omega)
 have a2' : xEQ N v.args 1 = _ := a2
 have a3' : xEP N ya 1 = _ := a3
 refine ⟨1 + ((v.args.map cExp).sum : Nat), ya, by omega, a1, ?_, ?_⟩
 · simp only [xDr, a2', jS, if_pos a1]
 · simp only [xDq, ea, a3', jS]
   try rw [decide_eq_false (by omega), jF]
end Go.Ab
end
section
namespace Go.Ab
theorem xIK {e : Exp} {p q : Str} (hs : e.size ≤ 1048576) : Big fun N => xDh N e p q = some (xDg e p q []) ∧ xDm N e p q = some (xDg e p q []) := by
 refine (xIv p q e).diag.imp fun N h => ?_
 obtain ⟨h1, h2⟩ := h [] false (by simp; omega)
 have h1' : xEV N e p q [] = some (xDg e p q []) := h1
 have h2' : xBP N e [] false p q = some (false || xDg e p q [], p, q) := h2
 simp only [xDh, xDm, h1', h2', jS, Bool.false_or]
 exact ⟨trivial, trivial⟩
end Go.Ab
end
section
namespace Go.Ab
mutual
def renE : Exp → Str → Str → Exp
 | .mk k n t a, p, q => .mk k n (bif (k == 3) && t == p then q else t) (renL a p q (xBT k && t == p) true)
def renL : List Exp → Str → Str → Bool → Bool → List Exp
 | [], _, _, _, _ => []
 | x :: r, p, q, b, f => (bif b && !f then x else renE x p q) :: renL r p q b false
end
theorem xIl : ∀ (a : List Exp) (p q : Str) (b f : Bool), (renL a p q b f).length = a.length
 | [], _, _, _, _ => rfl
 | x :: r, p, q, b, f => by simp only [renL, jC, xIl r p q b false]
section
variable {N d : Nat} {k n : Int} {t : Str} {a : List Exp} {e z : Exp}
theorem xJf {K : Nat} (hK : K ≤ 8000000) : ∀ e : Exp, e.Fit K → Big2 fun N d => xCK N d e = some e ∧ xC9 N d e = some e := by
 refine Exp.ind fun k n t a ih h => ?_
 obtain ⟨h1, h2, h3, h4⟩ := Exp.fit_iff.1 h
 refine Big2.succ ?_
 refine ((Big2.list fun x hx => ih x hx (h4.2 x hx)).and (xFm K).two).imp fun N d ⟨hx, hn⟩ => ?_
 have hl : a.length ≤ K := h4.1
 refine ⟨?_, ?_⟩
 · have key := xCZ (L := fun m i q => xCq N (xCK N d) m a a.length i (Exp.mk 0 0 [] []) (Exp.mk k n t q)) a (fun l q => Exp.mk k n t (q ++ l)) (fun i q => q.length = i) (fun m q _ => by simp [xCq])
    (fun i x l q hd hi hxi hq => by
      have hi' : (i : Int) < (a.length : Int) := by omega
      have hq : q.length = i := hq
      refine .inl ⟨q ++ [x], by simp [hq], by simp, fun m => ?_⟩
      simp only [xCq, decide_eq_true hi', jT, Int.toNat_natCast, xBG hxi, (hx x (List.mem_of_getElem? hxi)).1, jS, Exp.re_eq, xBh hi (by omega : a.length ≤ _)]
      rw [if_pos (by omega), if_pos (by show q.length + 1 ≤ Lim; unfold Lim; omega)]; rfl) N 0 [] rfl (by omega) (by omega)
   exact key
 · have key := xCZ (L := fun m i q => xCU N (xC9 N d) m i (Exp.mk k n t a) (Exp.mk 0 0 [] []) (Exp.mk k n t q)) a (fun l q => Exp.mk k n t (q ++ l)) (fun i q => q.length = i) (fun m q _ => by simp [xCU, ea])
    (fun i x l q hd hi hxi hq => by
      have hi' : (i : Int) < ((Exp.mk k n t a).args.length : Int) := by show (i : Int) < (a.length : Int); omega
      have hi2 : (0 : Int) ≤ (i : Int) ∧ (i : Int) < ((Exp.mk k n t a).args.length : Int) := ⟨by omega, hi'⟩
      have hxi2 : (Exp.mk k n t a).args[i]? = some x := hxi
      have hq : q.length = i := hq
      refine .inl ⟨q ++ [x], by simp [hq], by simp, fun m => ?_⟩
      simp only [xCU, decide_eq_true hi', if_pos hi2, jT, Int.toNat_natCast, xBG hxi2, (hx x (List.mem_of_getElem? hxi)).2, jS, Exp.re_eq, xBh hi (by omega : a.length ≤ _)]
      rw [if_pos (by show q.length + 1 ≤ Lim; unfold Lim; omega)]; rfl) N 0 [] rfl (by omega) (by omega)
   exact key
theorem xN6 (hN : 8000000 < N) (hal : a.length ≤ 4000000) {p q : Str} {b : Bool} {k' n' : Int} {t' : Str} {f : Exp → Str → Str → Option Exp} (hq : ∀ x ∈ a, f x p q = some (renE x p q)) (hc : ∀ x ∈ a, xEr N x = some x) :
 xAX N f N p q b a a.length 0 z (Exp.mk k' n' t' []) = some (Exp.mk k' n' t' (renL a p q b true)) := by
 have key := xCZ (σ := List Exp × Bool) (L := fun m i s => xAX N f m p q b a a.length i z (Exp.mk k' n' t' s.1)) a (fun l s => Exp.mk k' n' t' (s.1 ++ renL l p q b s.2)) (fun i s => s.2 = (i == 0) ∧ s.1.length = i)
  (fun m s _ => by simp [xAX, renL])
  (fun i x l s hd hi hxi hs => by
    obtain ⟨hs1, hs2⟩ := hs
    have hi' : (i : Int) < (a.length : Int) := by omega
    have hm := List.mem_of_getElem? hxi
    have hlim : s.1.length + 1 ≤ Lim := by unfold Lim; omega
    refine .inl ⟨(s.1 ++ [bif b && !s.2 then x else renE x p q], false), ⟨by simp, by simp [hs2]⟩, by simp only [renL, List.append_assoc, List.singleton_append], fun m => ?_⟩
    simp only [xAX, decide_eq_true hi', jT, Int.toNat_natCast, xBG hxi, hq x hm, hc x hm, jS, Exp.re_eq, ek, en, et, ea, List.length_singleton, xBh hi (by omega : a.length ≤ _), if_pos hlim]
    rw [if_pos (by omega)]
    cases b with
    | false => simp only [Bool.false_and, jF]
    | true =>
      cases hp : decide ((i : Int) > 0) with
      | true => rw [hs1, xI9 hp]; rfl
      | false => rw [hs1, xHT hp]; rfl) N 0 ([], true) ⟨rfl, rfl⟩ (by omega) (by omega)
 exact key
theorem xKn {i : Nat} {l : Nat} (hi : i < l) (h2 : l = 2) : ((i : Int) == 1) = !(i == 0) := by
 rcases (by omega : i = 0 ∨ i = 1) with rfl | rfl <;> rfl
theorem xN4 (hN : 8000000 < N) (hal : a.length ≤ 4000000) {p q : Str} (hb2 : xBT k = true → a.length = 2) {k' n' : Int} {t' : Str} {f : Exp → Str → Str → Option Exp} (hq : ∀ x ∈ a, f x p q = some (renE x p q)) (hc : ∀ x ∈ a, xEe N x = some x) :
 xAA N f N p q 0 (.mk k n t a) z (Exp.mk k' n' t' []) = some (Exp.mk k' n' t' (renL a p q (xBT k && t == p) true)) := by
 have key := xCZ (σ := List Exp × Bool) (L := fun m i s => xAA N f m p q i (.mk k n t a) z (Exp.mk k' n' t' s.1)) a (fun l s => Exp.mk k' n' t' (s.1 ++ renL l p q (xBT k && t == p) s.2)) (fun i s => s.2 = (i == 0) ∧ s.1.length = i)
  (fun m s _ => by simp [xAA, renL, ea])
  (fun i x l s hd hi hxi hs => by
    obtain ⟨hs1, hs2⟩ := hs
    have hm := List.mem_of_getElem? hxi
    have hi' : (i : Int) < ((Exp.mk k n t a).args.length : Int) := by show (i : Int) < (a.length : Int); omega
    have hi2 : (0 : Int) ≤ (i : Int) ∧ (i : Int) < ((Exp.mk k n t a).args.length : Int) := ⟨by omega, hi'⟩
    have hxi2 : (Exp.mk k n t a).args[i]? = some x := hxi
    have hlim : s.1.length + 1 ≤ Lim := by unfold Lim; omega
    refine .inl ⟨(s.1 ++ [bif (xBT k && t == p) && !s.2 then x else renE x p q], false), ⟨by simp, by simp [hs2]⟩, by simp only [renL, List.append_assoc, List.singleton_append], fun m => ?_⟩
    simp only [xAA, decide_eq_true hi', jT, Int.toNat_natCast, xBG hxi2, hq x hm, hc x hm, jS, Exp.re_eq, ek, en, et, List.length_singleton, xBh hi (by omega : a.length ≤ _), if_pos hi2]
    have e1 : ∀ (y : Exp), (if List.length (Exp.args (Exp.mk k' n' t' s.1)) + 1 ≤ Lim then xAA N f m p q ((i + 1 : Nat) : Int) (Exp.mk k n t a) z (Exp.mk k' n' t' (Exp.args (Exp.mk k' n' t' s.1) ++ [y])) else none) =
     xAA N f m p q ((i + 1 : Nat) : Int) (Exp.mk k n t a) z (Exp.mk k' n' t' (s.1 ++ [y])) := fun y => if_pos hlim
    simp only [e1]
    cases h7 : k == 7
    · cases h9 : k == 9
      · have hb : xBT k = false := by simp [xBT, h7, h9]
        simp only [hb, Bool.false_and, jF]
      · have hb : xBT k = true := by simp [xBT, h7, h9]
        rw [hs1, xKn hi (hb2 hb), hb]
        cases i == 0 <;> cases t == p <;> rfl
    · have hb : xBT k = true := by simp [xBT, h7]
      rw [hs1, xKn hi (hb2 hb), hb]
      cases i == 0 <;> cases t == p <;> rfl) N 0 ([], true) ⟨rfl, rfl⟩ (by omega) (by omega)
 exact key
end
theorem xI8 {k n : Int} {t : Str} {a : List Exp} (h : okE (.mk k n t a) = true) : (xBT k = true → a.length = 2) ∧ ((k == 3) = true → a = []) ∧ ∀ x ∈ a, okE x = true := by
 rw [xKm, Bool.and_eq_true] at h
 obtain ⟨h1, h2⟩ := h
 have hk := kinds h2
 refine ⟨fun hb => ?_, fun h3 => ?_, fun x hx => List.all_eq_true.1 h1 x hx⟩
 · unfold xBT at hb
   simp only [Bool.or_eq_true, beq_iff_eq] at hb
   rcases hk with h | h | h | h | h | ⟨h, _⟩ | ⟨h, hl⟩ | ⟨h, hl⟩ | ⟨h, _⟩
   · have h : k = 1 := h; omega
   · have h : k = 2 := h; omega
   · have h : k = 3 := h; omega
   · have h : k = 4 := h; omega
   · have h : k = 5 := h; omega
   · have h : k = 6 := h; omega
   · exact hl
   · exact hl
   · have h : k = 8 := h; omega
 · have : k = 3 := by simpa using h3
   subst this
   have : xGx xGl xB3 argc 3 n t a.length = true := h2
   unfold xGx at this
   simp only [show ((3 : Int) == 1) = false from rfl, show ((3 : Int) == 2) = false from rfl, beq_self_eq_true, jF, jT, Bool.and_eq_true, beq_iff_eq] at this
   exact List.length_eq_zero_iff.1 this.2.2
theorem xN2 {K : Nat} (hK : K ≤ 4000000) (p q : Str) : ∀ e : Exp, e.Fit K → okE e = true → Big2 fun N d => xCr N d e p q = some (renE e p q) ∧ xBZ N d e p q = some (renE e p q) := by
 refine Exp.ind fun k n t a ih h ho => ?_
 obtain ⟨h1, h2, h3, h4⟩ := Exp.fit_iff.1 h
 obtain ⟨o1, o2, o3⟩ := xI8 ho
 refine Big2.succ ?_
 refine (((Big2.list fun x hx => ih x hx (h4.2 x hx) (o3 x hx)).and (Big2.list fun x hx => (xJf (by omega) x (h4.2 x hx)).diag.two)).and (xFm 8000000).two).imp fun N d ⟨⟨hx, hc⟩, hn⟩ => ?_
 have hl : a.length ≤ K := h4.1
 have c1 : ∀ x ∈ a, xEr N x = some x := fun x hx => (hc x hx).1
 have c2 : ∀ x ∈ a, xEe N x = some x := fun x hx => (hc x hx).2
 refine ⟨?_, ?_⟩
 · show xCL N (xCr N d) (.mk k n t a) p q = _
   have hv : ∀ (b : Bool) (t' : Str), xAX N (xCr N d) N p q b a a.length 0 (Exp.mk 0 0 [] []) (Exp.mk k n t' []) = some (Exp.mk k n t' (renL a p q b true)) := fun b t' =>
    xN6 hn (by omega) (fun x hm => (hx x hm).1) c1
   simp only [xCL, renE, ek, en, et, ea, hv]
   cases h3 : k == 3
   · simp only [jF, Bool.false_and]
     unfold xBT
     cases k == 7 <;> cases k == 9 <;> simp
   · obtain ⟨g1, g7, g9⟩ := xOb h3
     rw [g1]
     cases t == p <;> rfl
 · show xCm N (xBZ N d) (.mk k n t a) p q = _
   have hv : ∀ (t' : Str), xAA N (xBZ N d) N p q 0 (.mk k n t a) (Exp.mk 0 0 [] []) (Exp.mk k n t' []) = some (Exp.mk k n t' (renL a p q (xBT k && t == p) true)) := fun t' =>
    xN4 hn (by omega) o1 (fun x hm => (hx x hm).2) c2
   simp only [xCm, renE, ek, en, et, hv]
   cases k == 3 <;> cases t == p <;> rfl
def renP (e : Exp) (p q : Str) : Exp × Bool := bif xGm e && (xB3 p && (xB3 q && !xDg e p q [])) then (renE e p q, true) else (.mk 0 0 [] [], false)
theorem xOu {K : Nat} (hK : K ≤ 1048576) {e : Exp} (h : e.Fit K) (hs : e.size ≤ 1048576) {p q : Str} (hp : p.length ≤ 1048576) (hq : q.length ≤ 1048576) :
 Big fun N => xCf N e p q = some (renP e p q) ∧ xCS N e p q = some (renP e p q) := by
 cases hv : xGm e
 · refine (xHA hK h hs).imp fun N ⟨h1, h2⟩ => ?_
   simp only [xCf, xCS, h1, h2, hv, jS, Bool.not_false, jT, renP, Bool.false_and, jF]
   exact ⟨trivial, trivial⟩
 · have ho : okE e = true := by
    unfold xGm at hv
    simp only [Bool.and_eq_true] at hv
    exact hv.2
   refine (((xHA hK h hs).and (xIK (p := p) (q := q) hs)).and ((xN2 (by omega) p q e h ho).diag.and (xFm 2000000))).imp fun N ⟨⟨⟨h1, h2⟩, c1, c2⟩, ⟨r1, r2⟩, hN⟩ => ?_
   have r1' : xFq N e p q = some (renE e p q) := r1
   have r2' : xEW N e p q = some (renE e p q) := r2
   simp only [xCf, xCS, h1, h2, hv, c1, c2, r1', r2', xDC (N := N) (s := p) (by omega) (by omega), xDC (N := N) (s := q) (by omega) (by omega),
    xDI (N := N) (s := p) (by omega) (by omega) (by omega), xDI (N := N) (s := q) (by omega) (by omega) (by omega), jS, Bool.not_true, jF, renP, Bool.true_and]
   cases xB3 p <;> cases xB3 q <;> cases xDg e p q [] <;> exact ⟨rfl, rfl⟩
theorem xIj {p q : Str} : ∀ {a : List Exp} {b f : Bool}, (∀ x ∈ a, (renE x p q).cnt = x.cnt ∧ (renE x p q).nest = x.nest) → ((renL a p q b f).map Exp.cnt).sum = (a.map Exp.cnt).sum ∧ Exp.nests (renL a p q b f) = Exp.nests a
 | [], _, _, _ => ⟨rfl, rfl⟩
 | x :: r, b, f, h => by
   obtain ⟨i1, i2⟩ := xIj (a := r) (b := b) (f := false) fun y hy => h y (List.mem_cons_of_mem _ hy)
   obtain ⟨h1, h2⟩ := h x List.mem_cons_self
   simp only [renL, List.map_cons, List.sum_cons, Exp.nests, i1, i2]
   cases b && !f
   · simp only [jF, h1, h2]; exact ⟨trivial, trivial⟩
   · simp only [jT]; exact ⟨trivial, trivial⟩
theorem xKi (p q : Str) : ∀ e : Exp, (renE e p q).cnt = e.cnt ∧ (renE e p q).nest = e.nest := by
 refine Exp.ind fun k n t a ih => ?_
 obtain ⟨h1, h2⟩ := xIj (b := xBT k && t == p) (f := true) ih
 rw [Exp.cnt_eq, Exp.nest_eq, Exp.cnt_eq (.mk k n t a), Exp.nest_eq (.mk k n t a)]
 simp only [renE, ea, h1, h2]
 exact ⟨trivial, trivial⟩
theorem xIk {K : Nat} {p q : Str} : ∀ {a : List Exp} {b f : Bool}, (∀ x ∈ a, (renE x p q).Fit K ∧ x.Fit K) → ∀ y ∈ renL a p q b f, y.Fit K
 | [], _, _, _ => fun y hy => by cases hy
 | x :: r, b, f, h => fun y hy => by
   rcases List.mem_cons.1 (show y ∈ (bif b && !f then x else renE x p q) :: renL r p q b false from hy) with rfl | hy
   · cases b && !f
     · exact (h x List.mem_cons_self).1
     · exact (h x List.mem_cons_self).2
   · exact xIk (fun z hz => h z (List.mem_cons_of_mem _ hz)) y hy
theorem xKj {K : Nat} {p q : Str} (hq : q.length ≤ K) : ∀ e : Exp, e.Fit K → (renE e p q).Fit K := by
 refine Exp.ind fun k n t a ih h => ?_
 obtain ⟨h1, h2, h3, h4⟩ := Exp.fit_iff.1 h
 refine Exp.fit_iff.2 ⟨h1, h2, ?_, ?_, xIk fun x hx => ⟨ih x hx (h4.2 x hx), h4.2 x hx⟩⟩
 · show (bif (k == 3) && t == p then q else t).length ≤ K
   cases (k == 3) && t == p
   · exact h3
   · exact hq
 · show (renL a p q (xBT k && t == p) true).length ≤ K
   rw [xIl]; exact h4.1
theorem xKk {K : Nat} {e : Exp} {p q : Str} (hq : q.length ≤ K) (h : e.Fit K) : (renP e p q).1.Fit K ∧ (renP e p q).1.cnt ≤ e.cnt := by
 unfold renP
 cases xGm e && (xB3 p && (xB3 q && !xDg e p q []))
 · refine ⟨Exp.fit_iff.2 ⟨(show I64 0 from ⟨by decide, by decide⟩), (show I64 0 from ⟨by decide, by decide⟩), Nat.zero_le _, Nat.zero_le _, fun x hx => by cases hx⟩, ?_⟩
   show (Exp.mk 0 0 [] []).cnt ≤ e.cnt
   rw [Exp.cnt_eq, Exp.cnt_eq e]; simp only [ea, List.map_nil, List.sum_nil]; omega
 · exact ⟨xKj hq e h, by show (renE e p q).cnt ≤ e.cnt; rw [(xKi p q e).1]; exact Nat.le_refl _⟩
theorem xEw (a0 : Exp) (a1 : Str) (a2 : Str) (f0 : ∀ z ∈ [CV.int .i64 (Exp.kind a0), CV.int .i64 (Exp.n a0), CV.str (Exp.text a0), CV.sl .ro .exp (Exp.args a0)], DFit z.toD) (f1 : ∀ z ∈ [CV.str a1], DFit z.toD) (f2 : ∀ z ∈ [CV.str a2], DFit z.toD) : ∃ N, xBf N a0 a1 a2 = some true := by
 have hF := xHe f0
 by_cases g1 : ((a1.length : Int) : Int) > 1048576
 · exact ⟨0, by simp [xBf, decide_eq_true g1]⟩
 by_cases g2 : ((a2.length : Int) : Int) > 1048576
 · exact ⟨0, by simp [xBf, decide_eq_false g1, decide_eq_true g2]⟩
 by_cases h : left a0.size 1048576 < 0
 · exact ((xHz hF).imp fun N hs => by simp [xBf, decide_eq_false g1, decide_eq_false g2, hs, h]).get
 · have hs := guard h
   have hfit : a0.Fit 1048576 := Exp.fit_size a0 hF hs
   have hc := Exp.cnt_le a0
   obtain ⟨rf, rc⟩ := xKk (p := a1) (q := a2) (by omega) hfit
   refine ((((xHz hF).and (xJc hfit)).and ((xOu (by omega) hfit hs (p := a1) (q := a2) (by omega) (by omega)).and (xGt hfit (by omega)))).and
    (((xF4 (v := a0) (by omega)).and (xF4 (v := (renP a0 a1 a2).1) (by omega))).and (xGt rf (by omega)))).imp (fun N ⟨⟨⟨h1, h2⟩, ⟨h3, h4⟩, h5⟩, ⟨h6, h7⟩, h8⟩ => ?_) |>.get
   obtain ⟨k, xa, k0, m1, m2, m3⟩ := h6
   obtain ⟨k', ya, k0', n1, n2, n3⟩ := h7
   simp only [xBf, decide_eq_false g1, decide_eq_false g2, h1, h2, h3, h4, h5, h8, m2, n2, n3, jS, decide_eq_false h, jF, beq_self_eq_true, Bool.not_true, if_pos m1, if_pos n1, bne_self_eq_false]
   rw [decide_eq_false (by omega : ¬ k < 0), decide_eq_false (by omega : ¬ k' < 0)]
   rfl
end Go.Ab
end
section
namespace Go.Proofs.Ytkfoneofdidhkaa
open Go.Ab Go.ChangeShapes Go.WideShapes Go.ChangeAt Go.RowKit
theorem own : ownKnob Try.prog.godebug = none := by kernel_rfl
theorem xHD : laidOutB Try.prog = true := by kernel_rfl
theorem xDb : zG6 Try.prog [(24, .exp)] = true := by kernel_rfl
set_option maxRecDepth 100000 in
theorem fnExactRenameFree_lifted (os : Os) (started : os.Started) (H : Type) (enc : TypeId × Value → H) :
 ReturnsInHanded {} Try.checked os 4 .any (Rows.fnExactRenameFreeSpec.pre6 enc Try.prog Try.f4 Rows.fnExactRenameFreeRow.domain false) (Rows.fnExactRenameFreeSpec.post enc Try.prog Try.f4 false true false false) := by
 refine returnsInHanded_of_change (C := Try.checked) own started (by kernel_rfl) Try.func4
  (ChangeSpec.witness6 (enc := enc) (C := Try.checked) false ⟨#[], #[.agg #[.int .i64 0, .int .i64 0, .string ByteArray.empty, .slice none 0 0], .string ByteArray.empty, .string ByteArray.empty], []⟩ 8 (by kernel_rfl) (by kernel_rfl) (by kernel_rfl) (by kernel_rfl)) ?_
 intro W base args ds gs before hval0 hW hcnd _
 letI : Inhabited Lb := ⟨⟨[]⟩⟩
 have hval : ∀ (j : Nat) t v, Try.f4.params[j]? = some t → args[j]? = some v → Value.okWide Try.prog W .any base t v := hval0
 have hW' := hW
 obtain ⟨p, q, hA0, hV, rfl, hfz, hnd⟩ := hW
 have hA : DataW.TrodAll enc Try.prog W 0 (fun _ => true) true Try.f4.params.toList args.toList ds p := hA0
 rw [Try.params4] at hA hval
 obtain ⟨v0, vs0, d0, ds0, p0, q0, hargs, rfl, rfl, h0, r0⟩ := trodAll_cons hA
 obtain ⟨v1, vs1, d1, ds1, p1, q1, rfl, rfl, rfl, h1, r1⟩ := trodAll_cons r0
 obtain ⟨v2, vs2, d2, ds2, p2, q2, rfl, rfl, rfl, h2, r2⟩ := trodAll_cons r1
 obtain ⟨rfl, rfl, rfl⟩ := trodAll_nil r2
 obtain rfl : args = #[v0, v1, v2] := by cases args; simp_all
 obtain ⟨rfl, rfl⟩ := trodVars_none hV
 have lt0 : ∀ x ∈ p0, x.block < W.heap.size := by obtain ⟨m, hm⟩ := h0; exact DataW.trod_lt m _ _ _ hm
 have lt1 : ∀ x ∈ p1, x.block < W.heap.size := by obtain ⟨m, hm⟩ := h1; exact DataW.trod_lt m _ _ _ hm
 have lt2 : ∀ x ∈ p2, x.block < W.heap.size := by obtain ⟨m, hm⟩ := h2; exact DataW.trod_lt m _ _ _ hm
 obtain ⟨z0, e0, f0, vr0⟩ := vr_of xDb (g := true) (t := 24) (ns := [.inl (.int .i64), .inl (.int .i64), .inl .str, .inr .exp]) (by kernel_rfl) (hval 0 24 v0 rfl rfl) h0
 obtain ⟨x0_0, _, rfl, e0_0⟩ := AreOf.int_inv e0
 obtain ⟨x0_1, _, rfl, e0_1⟩ := AreOf.int_inv e0_0
 obtain ⟨x0_2, _, rfl, e0_2⟩ := AreOf.str_inv e0_1
 obtain ⟨x0_3, _, rfl, e0_3⟩ := AreOf.sl_inv e0_2
 obtain rfl := e0_3.nil_inv
 obtain ⟨z1, e1, f1, vr1⟩ := vr_of xDb (g := false) (t := 9) (ns := [.inl .str]) (by kernel_rfl) (hval 1 9 v1 rfl rfl) h1
 obtain ⟨x1_0, _, rfl, e1_0⟩ := AreOf.str_inv e1
 obtain rfl := e1_0.nil_inv
 obtain ⟨z2, e2, f2, vr2⟩ := vr_of xDb (g := false) (t := 9) (ns := [.inl .str]) (by kernel_rfl) (hval 2 9 v2 rfl rfl) h2
 obtain ⟨x2_0, _, rfl, e2_0⟩ := AreOf.str_inv e2
 obtain rfl := e2_0.nil_inv
 obtain ⟨N, hF⟩ := xEw (Exp.mk x0_0 x0_1 x0_2 x0_3) x1_0 x2_0 f0 f1 f2
 clear hA0 hval0
 refine (zI8 T.fk4 (T.laws_FnExactRenameFree_ok hF) (W := W) (args := #[v0, v1, v2]) ⟨vr0 _, vr1 _, vr2 _, trivial⟩ (fun x hx => nomatch hx)).mono fun e W' ⟨he, bel⟩ => ?_
 subst he
 exact ⟨_, rfl, _, _, _, [], _, [], hW', trodAll_mk1 (shut_bool Try.underlying4 _), (trodAll_cons_mk (Below.trod xHD (by kernel_rfl) (of_decide_eq_true (by kernel_rfl)) h0 bel lt0) (trodAll_cons_mk (Below.trod xHD (by kernel_rfl) (of_decide_eq_true (by kernel_rfl)) h1 bel lt1) (trodAll_cons_mk (Below.trod xHD (by kernel_rfl) (of_decide_eq_true (by kernel_rfl)) h2 bel lt2) trodAll_mk0))), rfl, bel.frame _, fun h => by cases h⟩
theorem fnExactRenameFree_proved : Rows.FnExactRenameFreeSaid :=
 OpenClaim.holds_of_wide 4 Try.f4 rfl rfl rfl rfl rfl rfl rfl ⟨rfl, rfl, rfl, rfl, rfl⟩ rfl rfl rfl rfl rfl (by kernel_rfl) Try.func4 (by kernel_rfl)
  (of_decide_eq_true (by kernel_rfl)) (by unfold Func.isWrapper; first | (rw [if_pos (by decide +kernel)]; kernel_rfl) | (rw [if_neg (by decide +kernel)]; exact ⟨rfl, rfl⟩))
  (fun os started H enc _ => fnExactRenameFree_lifted os started H enc)
end Go.Proofs.Ytkfoneofdidhkaa
end
