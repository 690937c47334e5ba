/- The statement FnExactParseExpr holds: plain functions, certificates, laws. Conditions: none. -/
import Derived.Test.YthbobcapimmnhaaGreatDoorL2
import Derived.Test.YthbobcapimmnhaaGreatDoorFnExactParseExprP1
set_option linter.all false
section
namespace Go.Ab
structure TokG (t : Tok) : Prop where
 kind : I64 t.kind
 n : I64 t.n
 pos : 0 ≤ t.pos ∧ t.pos ≤ 120
 len : t.text.length ≤ 120
 name : t.kind = 1 → ∃ (c : UInt8) (l : Str), t.text = c :: l ∧ 97 ≤ c.toNat
 sym : t.kind = 4 → ∃ (c : UInt8) (l : Str), t.text = c :: l ∧ c.toNat < 97
theorem xSi {c : UInt8} (h : xI0 c = true) : c.toNat < 97 := by
 unfold xI0 at h
 rw [xLG] at h
 simp only [List.any_cons, List.any_nil, Bool.or_eq_true, beq_iff_eq, Bool.or_false] at h
 have e : ∀ k : UInt8, k.toNat < 97 → k.toNat = c.toNat → c.toNat < 97 := fun k h1 h2 => by omega
 rcases h with h | h | h | h | h | h | h | h | h | h <;> exact e _ (by decide) h
theorem xOZ {c : UInt8} {l : Str} {k : Nat} (h : 0 < k) : ∃ r, (c :: l).take k = c :: r := by
 obtain ⟨k, rfl⟩ : ∃ m, k = m + 1 := ⟨k - 1, by omega⟩
 exact ⟨l.take k, rfl⟩
theorem xNb {p : Int} {s r : Str} {t : Tok} (hp : 0 ≤ p ∧ p ≤ 120) (hs : s.length ≤ 120) (h : xHt p s = some (t, r)) : TokG t := by
 cases s with
 | nil => cases h
 | cons c l =>
   have d1 := xEf (p := isWd) l
   rw [xD0] at h
   cases h1 : xGO c <;> rw [h1] at h
   · cases h2 : xCu c <;> rw [h2] at h
     · cases h3 : c.toNat == 34 <;> rw [h3] at h
       · cases h4 : Lib.hasPrefix (c :: l) [61, 61] <;> rw [h4] at h
         · obtain ⟨hb, hx⟩ := xHY h
           cases hx
           exact ⟨xDB (x := 4) (by decide), xDB (x := 0) (by decide), hp, by simp, (fun h => by have h : (4 : Int) = 1 := h; omega), fun _ => ⟨c, [], rfl, xSi hb⟩⟩
         · cases h
           exact ⟨xDB (x := 4) (by decide), xDB (x := 0) (by decide), hp, by simp, (fun h => by have h : (4 : Int) = 1 := h; omega), fun _ => ⟨61, [61], rfl, by decide⟩⟩
       · simp only [jT, jF] at h
         split at h
         · cases h
         · rename_i q r' he
           obtain ⟨hb, hx⟩ := xHY h
           cases hx
           simp only [jC] at hs
           refine ⟨xDB (by show (0 : Int) ≤ 3 ∧ (3 : Int) ≤ 1000; decide), xDB (by show (0 : Int) ≤ 0 ∧ (0 : Int) ≤ 1000; decide), hp, ?_, fun h => ?_, fun h => ?_⟩
           · show (l.take _).length ≤ 120
             rw [List.length_take]; omega
           · have h : (3 : Int) = 1 := h
             omega
           · have h : (3 : Int) = 4 := h
             omega
     · simp only [jT, jF] at h
       obtain ⟨hb, hx⟩ := xHY h
       cases hx
       obtain ⟨v, hv, he⟩ := xLe hb
       have hn := xIE hv
       rw [← he] at hn
       refine ⟨xDB (by show (0 : Int) ≤ 2 ∧ (2 : Int) ≤ 1000; decide), ?_, hp, by simp, fun h => ?_, fun h => ?_⟩
       · show I64 (zHG _ 0 1000000000).1
         rw [hn]; unfold I64; omega
       · have h : (2 : Int) = 1 := h
         omega
       · have h : (2 : Int) = 4 := h
         omega
   · simp only [jT] at h
     obtain ⟨hb, hx⟩ := xHY h
     cases hx
     have hw : isWd c = true := by unfold isWd; rw [h1]; rfl
     rw [xGa l hw]
     simp only [jC] at hs
     obtain ⟨r, hr⟩ := xOZ (c := c) (l := l) (k := (c :: l).length - (l.dropWhile isWd).length) (by simp only [jC]; omega)
     refine ⟨xDB (by show (0 : Int) ≤ 1 ∧ (1 : Int) ≤ 1000; decide), xDB (by show (0 : Int) ≤ 0 ∧ (0 : Int) ≤ 1000; decide), hp, ?_, fun _ => ⟨c, r, hr, ?_⟩, fun h => ?_⟩
     · show ((c :: l).take _).length ≤ 120
       rw [List.length_take]; simp only [jC]; omega
     · unfold xGO at h1
       simp only [Bool.and_eq_true, decide_eq_true_eq] at h1
       exact h1.1
     · have h : (1 : Int) = 4 := h
       omega
theorem xNE : ∀ (n : Nat) (p : Int) (acc : List Tok) (s : Str), 0 ≤ p → p + s.length ≤ 120 → acc.length ≤ 60 → (∀ t ∈ acc, TokG t) → (∀ t ∈ (lexL n p acc s).1, TokG t) ∧ (lexL n p acc s).1.length ≤ 60 ∧ ((lexL n p acc s).2 = -1 ∨ (0 ≤ (lexL n p acc s).2 ∧ (lexL n p acc s).2 ≤ p + s.length)) := by
 intro n
 induction n with
 | zero => intro p acc s h1 h2 _ _; exact ⟨(fun t ht => by cases ht), by simp [lexL], .inr (by simp only [lexL]; omega)⟩
 | succ n ih =>
   intro p acc s h1 h2 h3 h4
   cases s with
   | nil => exact ⟨h4, h3, .inl rfl⟩
   | cons c l =>
     simp only [lexL]
     cases c.toNat == 32
     · simp only [jF]
       have hl : (c :: l).length ≤ 120 := by simp only [jC] at h2 ⊢; omega
       cases ho : xHt p (c :: l) with
       | none => exact ⟨(fun t ht => by cases ht), by simp, .inr (by simp only; omega)⟩
       | some z =>
         obtain ⟨t, r⟩ := z
         have hg := xNb (by omega) hl ho
         have hr := xJv ho
         simp only
         cases h60 : acc.length == 60
         · have h60 : acc.length ≠ 60 := beq_eq_false_iff_ne.1 h60
           simp only [jF]
           have := ih (p + ((c :: l).length - r.length : Nat)) (acc ++ [t]) r (by omega) (by omega) (by simp only [jA, jC, jN]; omega) (fun x hx => by
            rcases List.mem_append.1 hx with hx | hx
            · exact h4 x hx
            · rw [List.mem_singleton.1 hx]; exact hg)
           refine ⟨this.1, this.2.1, ?_⟩
           rcases this.2.2 with h | ⟨ha, hb⟩
           · exact .inl h
           · exact .inr ⟨ha, by omega⟩
         · exact ⟨(fun t ht => by cases ht), by simp, .inr (by simp only [jT]; omega)⟩
     · simp only [jT]
       simp only [jC] at h2
       have := ih (p + 1) acc l (by omega) (by omega) h3 h4
       refine ⟨this.1, this.2.1, ?_⟩
       rcases this.2.2 with h | ⟨ha, hb⟩
       · exact .inl h
       · exact .inr ⟨ha, by simp only [jC]; omega⟩
theorem xMv (s : Str) : (∀ t ∈ (lex s).1, TokG t) ∧ (lex s).1.length ≤ 60 ∧ ((lex s).2 = -1 ∨ (0 ≤ (lex s).2 ∧ (lex s).2 ≤ s.length)) := by
 unfold lex
 cases h : decide (s.length > 120)
 · have h := of_decide_eq_false h
   have := xNE (s.length + 1) 0 [] s (by omega) (by omega) (by simp) (fun t ht => by cases ht)
   refine ⟨this.1, this.2.1, ?_⟩
   rcases this.2.2 with h | ⟨ha, hb⟩
   · exact .inl h
   · exact .inr ⟨ha, by simp only [jF]; omega⟩
 · have h := of_decide_eq_true h
   exact ⟨(fun t ht => by cases ht), by simp, .inr (by simp only [jT]; omega)⟩
theorem xXA : ∀ ts : List Tok, (∀ t ∈ ts, TokG t) → tw ts ≤ 123 * ts.length
 | [], _ => Nat.le_refl _
 | t :: r, h => by
   have h1 := (h t List.mem_cons_self).len
   have h2 := xXA r fun x hx => h x (List.mem_cons_of_mem _ hx)
   rw [xI1, jC]; omega
theorem xSs {T : List Tok} (h : ∀ t ∈ T, TokG t) (hl : T.length ≤ 60) : TokT 10000 T where
 len := by omega
 fit := fun t ht => ⟨(h t ht).kind, (h t ht).n, by have := (h t ht).pos; unfold I64; omega, Nat.le_trans (h t ht).len (by omega)⟩
 tw := by have := xXA T h; omega
theorem xXz {T : List Tok} (h : ∀ t ∈ T, TokG t) {L : Int} (hL : 0 ≤ L) : TokW T L where
 pos := fun t ht => (h t ht).pos.1
 fin := hL
 name := fun t ht => (h t ht).name
 sym := fun t ht => (h t ht).sym
def xKl (L : Int) (T : List Tok) : Exp × Int := match pE (T.length + 1) T with
 | .err ts => (e0, offT L ts)
 | .ok e [] => bif xF5 e then (e, -1) else (e0, 0)
 | .ok e (t :: _) => (e0, t.pos)
def xJe (s : Str) : Exp × Int := bif decide ((lex s).2 ≥ 0) then (e0, (lex s).2) else xKl s.length (lex s).1
theorem xJL {T : List Tok} (hT : TokT 10000 T) {e : Exp} {r : List Tok} (h : pE (T.length + 1) T = .ok e r) : e.Fit 10000 ∧ e.size ≤ 10000 := by
 obtain ⟨⟨h1, h2⟩, _⟩ := xEr (K := 10000) (T.length + 1) T e r hT.fit hT.tw h
 have := hT.tw
 exact ⟨h2, by omega⟩
theorem xSD {T : List Tok} {t : Tok} {q : List Tok} (h : t :: q <:+ T) : T.length - (t :: q).length < T.length ∧ List.getD T (T.length - (t :: q).length) Ty.tok.dflt = t := by
 obtain ⟨pre, rfl⟩ := h
 have e : (pre ++ t :: q).length - (t :: q).length = pre.length := by rw [jA]; omega
 rw [e]
 exact ⟨by simp, by simp [List.getD]⟩
theorem xLH {N : Nat} {T : List Tok} {s : Str} (hT : TokT 10000 T) (hl : T.length ≤ 60) (hN : 20000 < N) (hv : ∀ e r, pE (T.length + 1) T = .ok e r → xCG N e = some (xF5 e)) (ht : xES N s = some (T, -1)) :
 xDE N s = some (xKl s.length T) := by
 have hs := xXw (N := N) hT (by omega) (by omega) (by omega) (T.length + 1) N (by omega) T (List.suffix_refl T) (by omega)
 have hx : xE8 N (Psr.mk T 0 (-1)) = (xAb N N).c_impl_parser_expr (gp T T) := by
  unfold xE8 gp
  rw [Nat.sub_self]; rfl
 unfold xDE xKl
 rw [ht, jS]
 simp only [show decide ((-1 : Int) ≥ 0) = false from rfl, jF, hx]
 cases hp : pE (T.length + 1) T with
 | err ts =>
   rw [hp] at hs
   obtain ⟨a, p, h1, h2, h3, h4⟩ := hs
   rw [h1, jS]
   have hnn : 0 ≤ p.bad := by rw [h3]; omega
   rw [decide_eq_false (by omega : ¬ p.bad < 0), jF]
   have hle := h4.length_le
   cases ts with
   | nil => rw [decide_eq_true (by rw [h3]; simp : p.bad ≥ (T.length : Int)), jT]; rfl
   | cons t q =>
     obtain ⟨g1, g2⟩ := xSD h4
     rw [decide_eq_false (by rw [h3]; omega), jF, decide_eq_true (by omega : p.bad ≥ 0), jT, if_pos (by rw [h3]; omega), h3, Int.toNat_natCast, g2]; rfl
 | ok e ts =>
   rw [hp] at hs
   obtain ⟨h1, h2⟩ := hs
   rw [h2, jS]
   rw [xNA, xLC, jT]
   cases ts with
   | nil =>
     have e1 : decide ((gp T []).pos < (T.length : Int)) = false := decide_eq_false (by simp [gp])
     rw [e1, jF, decide_eq_false (by omega : ¬ (-1 : Int) ≥ (T.length : Int)), jF]
     rw [show decide ((-1 : Int) ≥ 0) = false from rfl, jF, hv e [] hp, jS]
     show _ = some (bif xF5 e then (e, -1) else (e0, 0))
     cases xF5 e <;> rfl
   | cons t q =>
     obtain ⟨g1, g2⟩ := xSD h1
     have e1 : (gp T (t :: q)).pos = ((T.length - (t :: q).length : Nat) : Int) := rfl
     rw [e1, decide_eq_true (by omega), jT, decide_eq_false (by omega), jF, decide_eq_true (by omega), jT, if_pos (by omega), Int.toNat_natCast, g2]
theorem xMm {N : Nat} {T : List Tok} {s : Str} (hT : TokT 10000 T) (hW : TokW T s.length) (hl : T.length ≤ 60) (hN : 20000 < N) (hv : ∀ e r, pE (T.length + 1) T = .ok e r → xCJ N e = some (xF5 e)) (ht : xEW N s = some (T, -1)) :
 xEc N s = some (xKl s.length T) := by
 have hs := xWx (N := N) hW hT (by omega) (by omega) (by omega) (T.length + 1) N (by omega) T (List.suffix_refl T) (by omega)
 have hx : xGy N (Rdr.mk T 0 (s.length : Int) (-1)) = (xAa N N).c_spec_l11Expr (gr T s.length T) := by
  unfold xGy gr
  rw [Nat.sub_self]; rfl
 unfold xEc xKl
 rw [ht, jS]
 simp only [show decide ((-1 : Int) ≥ 0) = false from rfl, jF, hx]
 cases hp : pE (T.length + 1) T with
 | err ts =>
   rw [hp] at hs
   obtain ⟨a, p, h1, h2⟩ := hs
   rw [h1, jS]
   have hnn := h2.nn hW
   rw [decide_eq_false (by omega : ¬ p.bad < 0), jF, decide_eq_true (by omega : p.bad ≥ 0), jT, h2.2.2.1]
 | ok e ts =>
   rw [hp] at hs
   obtain ⟨h1, h2⟩ := hs
   rw [h2, jS]
   rw [xIo, xLC, jT]
   cases ts with
   | nil =>
     have e1 : decide ((gr T s.length []).i < (T.length : Int)) = false := decide_eq_false (by simp [gr])
     rw [e1, jF]
     rw [show decide ((-1 : Int) ≥ 0) = false from rfl, jF, hv e [] hp, jS]
     show _ = some (bif xF5 e then (e, -1) else (e0, 0))
     cases xF5 e <;> rfl
   | cons t q =>
     obtain ⟨g1, g2⟩ := xSD h1
     have e1 : (gr T s.length (t :: q)).i = ((T.length - (t :: q).length : Nat) : Int) := rfl
     obtain ⟨p, f1, f2⟩ := xIx (L := s.length) N h1
     have hnn := f2.nn hW
     rw [e1, decide_eq_true (by omega), jT, f1, jS, decide_eq_true (by omega : p.bad ≥ 0), jT, f2.2.2.1]; rfl
theorem xR9 (s : Str) : Big fun N => xDE N s = some (xJe s) ∧ xEc N s = some (xJe s) := by
 obtain ⟨g1, g2, g3⟩ := xMv s
 have hT := xSs g1 g2
 have hW := xXz g1 (L := s.length) (by omega)
 have hv : Big fun N => ∀ e r, pE ((lex s).1.length + 1) (lex s).1 = .ok e r → xCG N e = some (xF5 e) ∧ xCJ N e = some (xF5 e) := by
  cases hp : pE ((lex s).1.length + 1) (lex s).1 with
  | err ts => exact Big.of fun N e r h => by cases h
  | ok e ts =>
    obtain ⟨h1, h2⟩ := xJL hT hp
    refine (xO1 (K := 10000) (by omega) h1 (by omega)).imp fun N h e' r' he => ?_
    cases he
    exact h
 refine (hv.and (xJ6 20000)).imp fun N ⟨h, hN⟩ => ?_
 have t1 := xJh (N := N) (by omega) s
 have t2 := xJl (N := N) (by omega) s
 unfold xJe
 rcases g3 with g3 | ⟨g3, g4⟩
 · have e : lex s = ((lex s).1, -1) := by rw [← g3]
   rw [e] at t1 t2
   rw [g3]
   simp only [show decide ((-1 : Int) ≥ 0) = false from rfl, jF]
   exact ⟨xLH hT g2 hN (fun e r he => (h e r he).1) t1, xMm hT hW g2 hN (fun e r he => (h e r he).2) t2⟩
 · unfold xDE xEc
   rw [t1, t2]
   simp only [jS, decide_eq_true g3, jT]
   exact ⟨trivial, trivial⟩
theorem xNh (s : Str) : (xJe s).1.Fit 10000 ∧ (xJe s).1.size ≤ 10000 := by
 have z : e0.Fit 10000 ∧ e0.size ≤ 10000 := ⟨xF6 (xDB (by decide)) (xDB (by decide)) (Nat.zero_le _) (Nat.zero_le _) (fun x hx => by cases hx), by rw [xFB]; decide⟩
 obtain ⟨g1, g2, g3⟩ := xMv s
 have hT := xSs g1 g2
 unfold xJe
 cases decide ((lex s).2 ≥ 0)
 · simp only [jF, xKl]
   cases hp : pE ((lex s).1.length + 1) (lex s).1 with
   | err ts => exact z
   | ok e ts =>
     have := xJL hT hp
     cases ts with
     | nil =>
       show Exp.Fit 10000 (bif xF5 e then (e, (-1 : Int)) else (e0, 0)).1 ∧ (bif xF5 e then (e, (-1 : Int)) else (e0, 0)).1.size ≤ 10000
       cases xF5 e
       · exact z
       · exact this
     | cons t q => exact z
 · exact z
end Go.Ab
end
section
namespace Go.Ab
def cExp (e : Exp) : Nat := 3 * e.cnt
theorem xLA (e : Exp) : cExp e = 3 + (e.args.map cExp).sum := by
 unfold cExp
 rw [Exp.cnt_eq]
 have : ∀ l : List Exp, (l.map fun e => 3 * e.cnt).sum = 3 * (l.map Exp.cnt).sum := by
  intro l
  induction l with
  | nil => rfl
  | cons x l ih => simp only [List.map_cons, List.sum_cons, ih]; omega
 rw [this]; omega
theorem xNw (l : List Exp) : l.length ≤ (l.map cExp).sum := by
 induction l with
 | nil => simp
 | cons x l ih =>
   have := xLA x
   simp only [jC, List.map_cons, List.sum_cons]; omega
def xSw (N d : Nat) (l : List Exp) : Prop := ∀ k : Int, 0 ≤ k → k + ((l.map cExp).sum : Nat) ≤ 137438953472 →
    ∃ ys, ys.length = l.length ∧ xD7 N d l k = some (k + ((l.map cExp).sum : Nat), ys) ∧ xD6 N d ys k = some (k + ((l.map cExp).sum : Nat))
theorem xNc {N d : Nat} (hN : 274877906944 < N) {l : List Exp} (hx : ∀ x ∈ l, xSw N d x.args) : xSw N (d + 1) l := by
 intro k h0 h1
 have hlen := xNw l
 refine xPk (Lm := fun n xs k i => xDK N (xD7 N d) n xs k i) (Lh := fun n ys k i => xDJ N (xD6 N d) n ys k i) (c := cExp) (fun n xs k hl => by simp [xDK]) (fun n ys k hl => by simp [xDJ])
  (fun x hxm k hk hB => ?_) h1 (by omega)
 have hc := xLA x
 rw [hc] at hB ⊢
 obtain ⟨t, ht⟩ := xKv hN (k := k + 1 + 1) (by omega) (by omega)
 obtain ⟨ya, a1, a2, a3⟩ := hx x hxm (k + 1 + 1 + 1) (by omega) (by omega)
 have w1 : IntKind.i64.wrap (k + 1) = k + 1 := xBG (by omega) (by omega)
 have w2 : IntKind.i64.wrap (k + 1 + 1) = k + 1 + 1 := xBG (by omega) (by omega)
 have w3 : IntKind.i64.wrap (k + 1 + 1 + 1) = k + 1 + 1 + 1 := xBG (by omega) (by omega)
 refine ⟨.mk k (k + 1) t ya, fun n xs' i hl hxi => ?_, fun n ys i hl hyi => ?_⟩
 · have hi := (List.getElem?_eq_some_iff.1 hxi).1
   have hi' : (i : Int) < (xs'.length : Int) := by omega
   have hcd : (0 : Int) ≤ (i : Int) ∧ (i : Int) < (xs'.length : Int) := by omega
   simp only [xDK, decide_eq_true hi', jT, Int.toNat_natCast, xCa hxi, List.length_set, xKs hi, List.set_set, xBD hi (by omega : xs'.length ≤ _), if_pos hcd, w1, w2, w3, ht, jS,
    ek, en, et, ea, a2, if_pos a1]
   congr 1
   omega
 · have hi := (List.getElem?_eq_some_iff.1 hyi).1
   have hi' : (i : Int) < (ys.length : Int) := by omega
   have hcd : (0 : Int) ≤ (i : Int) ∧ (i : Int) < (ys.length : Int) := by omega
   simp only [xDJ, decide_eq_true hi', jT, Int.toNat_natCast, xCa hyi, xBD hi (by omega : ys.length ≤ _), if_pos hcd, w1, w2, w3, ht, jS, ek, en, et, ea, a3, bne_self_eq_false, beq_self_eq_true, Bool.not_true, jF]
   rw [decide_eq_false (by omega), jF]
   congr 1
   omega
theorem xNG {K : Nat} : ∀ v : Exp, Big2 fun N d => xSw N d v.args := by
 refine Exp.ind fun k n t a ih => ?_
 refine Big2.succ ?_
 refine ((Big2.list fun x hx => ih x hx).and (xJ6 274877906944).two).imp fun N d ⟨hx, hN⟩ => ?_
 exact xNc hN hx
theorem xKu {v : Exp} (hc : v.cnt ≤ 1000000000) :
 Big fun N => ∃ k xa, 0 ≤ k ∧ xa.length = v.args.length ∧ xFu N v 1 = some (k, xa) ∧ xET N (Exp.mk v.kind v.n v.text xa) 1 = some k := by
 refine ((xNG (K := 0) v).diag).imp fun N hm => ?_
 have hc' := xLA v
 have hc2 : cExp v = 3 * v.cnt := rfl
 obtain ⟨ya, a1, a2, a3⟩ := hm 1 (by omega) (by omega)
 have a2' : xGE N v.args 1 = _ := a2
 have a3' : xGD N ya 1 = _ := a3
 refine ⟨1 + ((v.args.map cExp).sum : Nat), ya, by omega, a1, ?_, ?_⟩
 · simp only [xFu, a2', jS, if_pos a1]
 · simp only [xET, ea, a3', jS]
   try rw [decide_eq_false (by omega), jF]
theorem xGt (a0 : Str) (f0 : ∀ z ∈ [CV.str a0], DFit z.toD) : ∃ N, xD5 N a0 = some true := by
 obtain ⟨f1, f2⟩ := xNh a0
 have hc := Exp.cnt_le (xJe a0).1
 refine (((xR9 a0).and (xLF f1 (by omega))).and (xKu (v := (xJe a0).1) (by omega))).imp (fun N ⟨⟨⟨h1, h2⟩, h3⟩, h4⟩ => ?_) |>.get
 obtain ⟨k, xa, k0, m1, m2, m3⟩ := h4
 simp only [xD5, h1, h2, h3, jS, Bool.not_true, jF, bne_self_eq_false, m2, m3, if_pos m1]
 rw [decide_eq_false (by omega : ¬ k < 0)]
 cases decide (((a0.length : Int) : Int) > 1048576) <;> rfl
end Go.Ab
end
section
namespace Go.Proofs.YthbobcapimmnhaaGreatDoor
open Go.Ab Go.ChangeShapes Go.WideShapes Go.ChangeAt Go.RowKit
theorem own : ownKnob Tryz.prog.godebug = none := by kernel_rfl
theorem xSE : laidOutB Tryz.prog = true := by kernel_rfl
theorem xHs : zGk Tryz.prog [] = true := by kernel_rfl
theorem fnExactParseExpr_tab {W : World} (h : laidMetH Tryz.prog Rows.fnExactParseExprRow.laid W) : Go.Lib.TabIs Tryz.prog W Go.Ab.T.p10 .u64 Go.Lib.pow10Tab := by
 rw [MakeChecks.laidMetH_plain _ _ _ (by kernel_rfl)] at h
 exact Go.Lib.tabIs_of_head (g := 3) (t := 137) (e := 123) (n := 20) (by kernel_rfl) (by kernel_rfl) Tryz.underlying137 Tryz.underlying123 (by kernel_rfl) (by kernel_rfl) h.tail.tail
theorem fnExactParseExpr_ev {W : World} (h : laidMetH Tryz.prog Rows.fnExactParseExprRow.laid W) : (∃ t1 p1, W.var? Tryz.prog "strconv.ErrSyntax" = some #[.iface t1 p1]) ∧ ∃ t2 p2, W.var? Tryz.prog "strconv.ErrRange" = some #[.iface t2 p2] := by
 rw [MakeChecks.laidMetH_plain _ _ _ (by kernel_rfl)] at h
 have star : "*" ++ "errors.errorString" = "*errors.errorString" := by decide
 have row : ∀ u, Tryz.prog.typeName? 3 u = some "*errors.errorString" → u = 146 := fun u hu => typeName_ptr_named (nm := "errors.errorString") (by rw [star]; kernel_rfl) (by kernel_rfl) (by decide) u (by rw [star]; exact hu)
 obtain ⟨a_hs, _, hs, _⟩ := laid_sentinel (g := 1) (ti := 99) (tp := 146) (te := 148) (ts := 9) h.tail.tail.tail.tail (by kernel_rfl) (by kernel_rfl) Tryz.underlying99 row Tryz.underlying146 Tryz.underlying148 rfl rfl Tryz.underlying9 (by kernel_rfl) (by kernel_rfl)
 obtain ⟨a_hr, _, hr, _⟩ := laid_sentinel (g := 2) (ti := 99) (tp := 146) (te := 148) (ts := 9) h.tail.tail.tail (by kernel_rfl) (by kernel_rfl) Tryz.underlying99 row Tryz.underlying146 Tryz.underlying148 rfl rfl Tryz.underlying9 (by kernel_rfl) (by kernel_rfl)
 exact ⟨⟨_, _, hs⟩, _, _, hr⟩
set_option maxRecDepth 100000 in
theorem fnExactParseExpr_lifted (os : Os) (started : os.Started) (H : Type) (enc : TypeId × Value → H) :
 ReturnsInHanded {} Tryz.checked os 4 .any (fun w args => (Rows.fnExactParseExprSpec.pre enc Tryz.prog Tryz.f4 Rows.fnExactParseExprRow.domain false w args ∧ laidMetH Tryz.prog Rows.fnExactParseExprRow.laid w) ∧ sizedMet enc Tryz.prog Tryz.f4 (OpenSpec.ofChange Rows.fnExactParseExprSpec) false w args)
  (Rows.fnExactParseExprSpec.post enc Tryz.prog Tryz.f4 false true false false) := by
 refine returnsInHanded_of_change_and (C := Tryz.checked) (X := fun w _ => laidMetH Tryz.prog Rows.fnExactParseExprRow.laid w) (fun _ _ _ hh h => h.of_heap hh) own started (by kernel_rfl) Tryz.func4
  (ChangeSpec.witness_shaped (enc := enc) (C := Tryz.checked) (os := os) (X := fun w _ => laidMetH Tryz.prog Rows.fnExactParseExprRow.laid w) false (World.laidAll Tryz.prog os Rows.fnExactParseExprRow.laid) #[.string ByteArray.empty] 8 (World.laidAll_os _ _ _)
    (World.shaped_of_ZipB (by kernel_rfl) (by kernel_rfl)) (by kernel_rfl) (by kernel_rfl) (by kernel_rfl)
    (by rw [MakeChecks.laidMetH_plain _ _ _ (by kernel_rfl)]; exact laidMet_laidAll _ (by kernel_rfl) (by kernel_rfl))) ?_
 intro W base args ds gs before hval0 hW hcnd _ hL _
 obtain ⟨g0, o0, hgo, hall⟩ := xWE (fnExactParseExpr_tab hL)
 obtain ⟨⟨u1, u2, hv1⟩, u3, u4, hv2⟩ := fnExactParseExpr_ev hL
 obtain ⟨g3, o3, hgo3, hall3⟩ := xO2 hv1
 obtain ⟨g4, o4, hgo4, hall4⟩ := xO2 hv2
 letI : Inhabited Lb := ⟨⟨[(g0, o0), (g3, o3), (g4, o4)]⟩⟩
 haveI : Nonempty T.Tab10 := ⟨fun w hw => hall w (hw (g0, o0) List.mem_cons_self)⟩
 haveI : Nonempty T.ErrVars := ⟨fun w hw => ⟨⟨u1, u2, hall3 w (hw (g3, o3) (List.mem_cons_of_mem _ List.mem_cons_self))⟩, u3, u4, hall4 w (hw (g4, o4) (List.mem_cons_of_mem _ (List.mem_cons_of_mem _ List.mem_cons_self)))⟩⟩
 have hlb : ∀ x ∈ zDP, W.heap[x.1]? = some x.2 := fun x hx => by
  have hx : x ∈ [(g0, o0), (g3, o3), (g4, o4)] := hx
  simp only [List.mem_cons, List.not_mem_nil, or_false] at hx
  rcases hx with rfl | rfl | rfl <;> first | exact hgo | exact hgo3 | exact hgo4
 have hval : ∀ (j : Nat) t v, Tryz.f4.params[j]? = some t → args[j]? = some v → Value.okWide Tryz.prog W .any base t v := hval0
 have hW' := hW
 obtain ⟨p, q, hA0, hV, rfl, hfz, hnd⟩ := hW
 have hA : DataW.TrodAll enc Tryz.prog W 0 (fun _ => true) true Tryz.f4.params.toList args.toList ds p := hA0
 rw [Tryz.params4] at hA hval
 obtain ⟨v0, vs0, d0, ds0, p0, q0, hargs, rfl, rfl, h0, r0⟩ := trodAll_cons hA
 obtain ⟨rfl, rfl, rfl⟩ := trodAll_nil r0
 obtain rfl : args = #[v0] := by cases args; simp_all
 obtain ⟨rfl, rfl⟩ := trodVars_none hV
 have lt0 : ∀ x ∈ p0, x.block < W.heap.size := by obtain ⟨m, hm⟩ := h0; exact DataW.trod_lt m _ _ _ hm
 obtain ⟨z0, e0, f0, vr0⟩ := vr_of xHs (g := false) (t := 9) (ns := [.inl .str]) (by kernel_rfl) (hval 0 9 v0 rfl rfl) h0
 obtain ⟨x0_0, _, rfl, e0_0⟩ := AreOf.str_inv e0
 obtain rfl := e0_0.nil_inv
 obtain ⟨N, hF⟩ := xGt x0_0 f0
 clear hA0 hval0
 refine (zIb T.fk4 (T.laws_FnExactParseExpr_ok hF) (W := W) (args := #[v0]) ⟨vr0 _, trivial⟩ hlb).mono fun e W' ⟨he, bel⟩ => ?_
 subst he
 exact ⟨_, rfl, _, _, _, [], _, [], hW', trodAll_mk1 (shut_bool Tryz.underlying4 _), (trodAll_cons_mk (Below.trod xSE (by kernel_rfl) (of_decide_eq_true (by kernel_rfl)) h0 bel lt0) trodAll_mk0), rfl, bel.frame _, fun h => by cases h⟩
theorem fnExactParseExpr_proved : Rows.FnExactParseExprSaid :=
 OpenClaim.holds_of_wide 4 Tryz.f4 rfl rfl rfl rfl rfl rfl rfl ⟨rfl, rfl, rfl, rfl, rfl⟩ rfl rfl rfl rfl rfl (by kernel_rfl) Tryz.func4 (by kernel_rfl)
  (of_decide_eq_true (by kernel_rfl)) (by unfold Func.isWrapper; first | (rw [if_pos (by decide +kernel)]; kernel_rfl) | (rw [if_neg (by decide +kernel)]; exact ⟨rfl, rfl⟩))
  (fun os started H enc _ => fnExactParseExpr_lifted os started H enc)
theorem fnExactParseExpr_card : Rows.FnExactParseExprCardSaid :=
 Claim7.holds_tied_plain_at .later [] Rows.fnExactParseExprCard.laidKinds true Rows.fnExactParseExprCard.stood.harness Rows.fnExactParseExprCard.stood.looks fnExactParseExpr_proved (fun _ h => by cases h) (by kernel_rfl) (fun _ h => by cases h) fnExactParseExpr_row_tie rfl ⟨rfl, rfl⟩ (by kernel_rfl) rfl
  (fun f fn hf hfn => by
    obtain rfl : f = 4 := Option.some.inj ((show Tryz.prog.funcNamed Rows.fnExactParseExprRow.func = some 4 by kernel_rfl).symm.trans hf) |>.symm
    obtain rfl : fn = Tryz.f4 := (Option.some.inj (Tryz.func4.symm.trans hfn)).symm
    exact ⟨by kernel_rfl, fun j t ht => by
     rw [Tryz.params4] at ht
     have hm : t ∈ [9] := by simpa using Array.mem_of_getElem? ht
     have hall : ([9].all fun u => !Tryz.prog.wantsStandIn u) = true := by kernel_rfl
     exact (show Tryz.prog.wantsStandIn t = false by simpa using List.all_eq_true.1 hall t hm)⟩)
  (by kernel_rfl)
end Go.Proofs.YthbobcapimmnhaaGreatDoor
end
