/- The statement FnParsed holds: plain functions, certificates, laws. Conditions: none. -/
import Derived.Test.YthbobcapimmnhaaGreatDoorL2
import Derived.Test.YthbobcapimmnhaaGreatDoorFnParsedP1
set_option linter.all false
section
namespace Go.Ab
def gr (T : List Tok) (L : Int) (ts : List Tok) : Rdr := ⟨T, ((T.length - ts.length : Nat) : Int), L, -1⟩
def offT (L : Int) : List Tok → Int
 | [] => L
 | t :: _ => t.pos
def BadR (T : List Tok) (L : Int) (ts : List Tok) (r : Rdr) : Prop := r.toks = T ∧ r.fin = L ∧ r.bad = offT L ts ∧ ts <:+ T
structure TokW (T : List Tok) (L : Int) : Prop where
 pos : ∀ t ∈ T, 0 ≤ t.pos
 fin : 0 ≤ L
 name : ∀ t ∈ T, t.kind = 1 → ∃ (c : UInt8) (l : Str), t.text = c :: l ∧ 97 ≤ c.toNat
 sym : ∀ t ∈ T, t.kind = 4 → ∃ (c : UInt8) (l : Str), t.text = c :: l ∧ c.toNat < 97
theorem BadR.nn {T ts : List Tok} {L : Int} {r : Rdr} (hW : TokW T L) (h : BadR T L ts r) : 0 ≤ r.bad := by
 rw [h.2.2.1]
 cases ts with
 | nil => exact hW.fin
 | cons t q => exact hW.pos t (h.2.2.2.subset List.mem_cons_self)
def SimR {α : Type} (T : List Tok) (L : Int) (R : PR α) (x : Option (α × Rdr)) : Prop := match R with
 | .ok a ts => ts <:+ T ∧ x = some (a, gr T L ts)
 | .err ts => ∃ a p, x = some (a, p) ∧ BadR T L ts p
theorem SimR.bind {α β : Type} {T : List Tok} {L : Int} (hW : TokW T L) {R : PR α} {x : Option (α × Rdr)} {k : α → List Tok → PR β} {g : α × Rdr → Option (β × Rdr)} (h : SimR T L R x)
 (hk : ∀ a ts, R = .ok a ts → ts <:+ T → SimR T L (k a ts) (g (a, gr T L ts))) (hb : ∀ a p, 0 ≤ p.bad → ∃ b, g (a, p) = some (b, p)) : SimR T L (R.bind k) (Option.bind x g) := by
 cases R with
 | ok a ts =>
   obtain ⟨h1, h2⟩ := h
   rw [h2]
   exact hk a ts rfl h1
 | err ts =>
   obtain ⟨a, p, h1, h2⟩ := h
   obtain ⟨b, h3⟩ := hb a p (h2.nn hW)
   rw [h1]
   exact ⟨b, p, h3, h2⟩
theorem xZA (N : Nat) (t : Tok) (s : Str) : xDY N t s = some (isS t s) := by unfold xDY isS; cases t.kind == 4 <;> rfl
theorem vCl (N : Nat) (t : Tok) (s : Str) : xH8 N t s = some (isK t s) := by unfold xH8 isK; cases t.kind == 1 <;> rfl
theorem xRB {T ts : List Tok} {L : Int} {t : Tok} {q : List Tok} (h : t :: q <:+ T) : (decide ((gr T L (t :: q)).i < (List.length (gr T L (t :: q)).toks : Int)) = true ∧ decide ((gr T L (t :: q)).i ≥ (List.length (gr T L (t :: q)).toks : Int)) = false) ∧
 ((0 : Int) ≤ (gr T L (t :: q)).i ∧ (gr T L (t :: q)).i < (List.length (gr T L (t :: q)).toks)) ∧ List.getD (gr T L (t :: q)).toks (Int.toNat (gr T L (t :: q)).i) Ty.tok.dflt = t := by
 obtain ⟨pre, rfl⟩ := h
 have e : (pre ++ t :: q).length - (t :: q).length = pre.length := by rw [jA]; omega
 have e2 : (pre ++ t :: q).length = pre.length + (q.length + 1) := by simp
 simp only [gr, e]
 refine ⟨⟨decide_eq_true (by omega), decide_eq_false (by omega)⟩, by omega, ?_⟩
 simp [List.getD]
theorem xOw (T : List Tok) (L : Int) : decide ((gr T L []).i < (List.length (gr T L []).toks : Int)) = false ∧ decide ((gr T L []).i ≥ (List.length (gr T L []).toks : Int)) = true := by
 simp only [gr, jN, Nat.sub_zero]
 exact ⟨decide_eq_false (by omega), decide_eq_true (by omega)⟩
theorem xJ9 (T ts : List Tok) (L : Int) : (gr T L ts).bad = -1 := rfl
theorem xOj {T ts : List Tok} {L : Int} (N : Nat) (s : Str) (h : ts <:+ T) : xBN N (gr T L ts) s = some (seeS s ts || seeK s ts, gr T L ts) := by
 unfold xBN
 rw [xJ9, xNy, jT]
 cases ts with
 | nil => rw [(xOw T L).1, jF]; rfl
 | cons t q =>
   obtain ⟨⟨a1, _⟩, a2, a3⟩ := xRB (ts := t :: q) (L := L) h
   rw [a1, jT, if_pos a2, a3, xZA, jS, vCl]
   show _ = some (isS t s || isK t s, _)
   cases isS t s <;> rfl
def SymS (s : Str) : Prop := ∃ (c : UInt8) (l : Str), s = c :: l ∧ c.toNat < 97
def KeyS (s : Str) : Prop := ∃ (c : UInt8) (l : Str), s = c :: l ∧ 97 ≤ c.toNat
theorem xOi {T ts : List Tok} {L : Int} (hW : TokW T L) (h : ts <:+ T) {s : Str} (hs : SymS s) : seeK s ts = false := by
 cases ts with
 | nil => rfl
 | cons t q =>
   show isK t s = false
   unfold isK
   cases hk : t.kind == 1
   · rfl
   · obtain ⟨c, l, h1, h2⟩ := hW.name t (h.subset List.mem_cons_self) (by simpa using hk)
     obtain ⟨c', l', rfl, h4⟩ := hs
     rw [jT, h1, beq_eq_false_iff_ne]
     intro e
     cases e
     omega
theorem xZB {T ts : List Tok} {L : Int} (hW : TokW T L) (h : ts <:+ T) {s : Str} (hs : KeyS s) : seeS s ts = false := by
 cases ts with
 | nil => rfl
 | cons t q =>
   show isS t s = false
   unfold isS
   cases hk : t.kind == 4
   · rfl
   · obtain ⟨c, l, h1, h2⟩ := hW.sym t (h.subset List.mem_cons_self) (by simpa using hk)
     obtain ⟨c', l', rfl, h4⟩ := hs
     rw [jT, h1, beq_eq_false_iff_ne]
     intro e
     cases e
     omega
theorem xNl {T ts : List Tok} {L : Int} (hW : TokW T L) (N : Nat) {s : Str} (hs : SymS s) (h : ts <:+ T) : xBN N (gr T L ts) s = some (seeS s ts, gr T L ts) := by
 rw [xOj N s h, xOi hW h hs, Bool.or_false]
theorem xZC {T ts : List Tok} {L : Int} (hW : TokW T L) (N : Nat) {s : Str} (hs : KeyS s) (h : ts <:+ T) : xBN N (gr T L ts) s = some (seeK s ts, gr T L ts) := by
 rw [xOj N s h, xZB hW h hs, Bool.false_or]
theorem xIb {T ts : List Tok} {L : Int} (hT : T.length ≤ 1000) (h : ts <:+ T) (hne : ts.tail.length + 1 = ts.length) : Rdr.mk (gr T L ts).toks (IntKind.i64.wrap ((gr T L ts).i + 1)) (gr T L ts).fin (gr T L ts).bad = gr T L ts.tail := by
 have hl := h.length_le
 unfold gr
 have : IntKind.i64.wrap (((T.length - ts.length : Nat) : Int) + 1) = ((T.length - ts.tail.length : Nat) : Int) := by rw [xBh (by omega) (by omega)]; omega
 simp only [this]
theorem xKj {T ts : List Tok} {L : Int} (N : Nat) (h : ts <:+ T) : ∃ p, xB7 N (gr T L ts) = some (e0, p) ∧ BadR T L ts p := by
 unfold xB7
 rw [xJ9, xNy, jT]
 cases ts with
 | nil =>
   rw [(xOw T L).1, jF]
   exact ⟨_, rfl, rfl, rfl, rfl, h⟩
 | cons t q =>
   obtain ⟨⟨a1, _⟩, a2, a3⟩ := xRB (ts := t :: q) (L := L) h
   rw [a1, jT, if_pos a2, a3]
   exact ⟨_, rfl, rfl, rfl, rfl, h⟩
theorem xF6 {p : Rdr} (N : Nat) (s : Str) (h : 0 ≤ p.bad) : xBN N p s = some (false, p) := by
 unfold xBN; rw [decide_eq_false (by omega), jF]
theorem xNm {p : Rdr} (N : Nat) (h : 0 ≤ p.bad) : xB7 N p = some (e0, p) := by
 unfold xB7; rw [decide_eq_false (by omega), jF]
theorem xHi {p : Rdr} (N : Nat) (s : Str) (h : 0 ≤ p.bad) : xBA N p s = some p := by
 unfold xBA; simp only [xF6 N s h, jS, xNm N h]; rfl
theorem SimR.need {β : Type} {T ts : List Tok} {L : Int} (hW : TokW T L) {s : Str} {N : Nat} {k : Unit → List Tok → PR β} {g : Rdr → Option (β × Rdr)} (hT : T.length ≤ 1000) (h : ts <:+ T)
 (hk : ∀ r, xFZ s ts = .ok () r → r <:+ T → SimR T L (k () r) (g (gr T L r))) (hb : ∀ p, 0 ≤ p.bad → ∃ b, g p = some (b, p)) : SimR T L ((xFZ s ts).bind k) (Option.bind (xBA N (gr T L ts) s) g) := by
 unfold xBA
 rw [xOj N s h, jS]
 have bad : ∀ R : PR β, R = .err ts → SimR T L R (Option.bind (Option.bind (xB7 N (gr T L ts)) fun r2 => some r2.2) g) := by
  intro R hR
  subst hR
  obtain ⟨p, hp1, hp2⟩ := xKj (L := L) N h
  obtain ⟨b, hb⟩ := hb p (hp2.nn hW)
  refine ⟨b, p, ?_, hp2⟩
  rw [hp1, jS, jS, hb]
 cases ts with
 | nil => exact bad _ rfl
 | cons t r =>
   show SimR T L _ (Option.bind (bif (!(isS t s || isK t s)) then _ else _) g)
   cases h1 : isS t s || isK t s
   · exact bad _ (by simp only [xFZ, Bool.or_comm (isK t s), h1, jF, PR.bind])
   · have e : xFZ s (t :: r) = .ok () r := by simp only [xFZ, Bool.or_comm (isK t s), h1, jT]
     rw [e]
     simp only [Bool.not_true, jF, jS]
     have ha : Rdr.mk (gr T L (t :: r)).toks (IntKind.i64.wrap ((gr T L (t :: r)).i + 1)) (gr T L (t :: r)).fin (gr T L (t :: r)).bad = gr T L r := xIb hT h rfl
     rw [ha]
     exact hk r e (xCm h)
theorem xQ9 {K : Nat} {T ts : List Tok} {L : Int} {N : Nat} (hT : TokT K T) (hN : K < N) (h24 : 24 < N) (hK : K ≤ 1048576) (h : ts <:+ T) : SimR T L (xLP ts) (xD5 N (gr T L ts)) := by
 have bad : xD5 N (gr T L ts) = Option.bind (xB7 N (gr T L ts)) (fun r2 => some ([], r2.2)) → SimR T L (.err ts : PR Str) (xD5 N (gr T L ts)) := fun he => by
  obtain ⟨p, h1, h2⟩ := xKj (L := L) N h
  rw [he, h1]
  exact ⟨[], p, rfl, h2⟩
 have c0 : decide ((-1 : Int) ≥ 0) = false := rfl
 cases ts with
 | nil =>
   refine bad ?_
   unfold xD5
   rw [xJ9, c0, jF, (xOw T L).2, jT]
 | cons t r =>
   have hft := hT.fit t (h.subset List.mem_cons_self)
   have hlen : t.text.length ≤ K := hft.2.2.2
   have hv := xGc (N := N) (s := t.text) (by omega) (by omega) h24
   obtain ⟨⟨_, a1⟩, a2, a3⟩ := xRB (ts := t :: r) (L := L) h
   simp only [xLP]
   cases h1 : t.kind == 1
   · refine bad ?_
     unfold xD5
     rw [xJ9, c0, jF, a1, jF, if_pos a2, a3]
     simp only [bne, h1, Bool.not_false, jT]
   · cases h2 : xB1 t.text
     · refine bad ?_
       unfold xD5
       rw [xJ9, c0, jF, a1, jF, if_pos a2, a3]
       simp only [bne, h1, hv, h2, jS, Bool.not_true, Bool.not_false, jT, jF]
     · refine ⟨xCm h, ?_⟩
       have hl := h.length_le
       have hT1 := hT.len
       have e1 : IntKind.i64.wrap ((IntKind.i64.wrap ((gr T L (t :: r)).i + 1)) - 1) = (gr T L (t :: r)).i := by
        show IntKind.i64.wrap ((IntKind.i64.wrap (((T.length - (t :: r).length : Nat) : Int) + 1)) - 1) = ((T.length - (t :: r).length : Nat) : Int)
        rw [xBh (x := ((T.length - (t :: r).length : Nat) : Int) + 1) (by omega) (by omega), xBh (by omega) (by omega)]; omega
       have ha : Rdr.mk (gr T L (t :: r)).toks (IntKind.i64.wrap ((gr T L (t :: r)).i + 1)) (gr T L (t :: r)).fin (gr T L (t :: r)).bad = gr T L r := xIb hT.len h rfl
       unfold xD5
       rw [e1, ha, xJ9, c0, jF, a1, jF, if_pos a2, a3]
       simp only [bne, h1, hv, h2, jS, Bool.not_true, jT, jF, if_pos a2]
def xFQ (q : Rdr → Option (Exp × Rdr)) : Prop := ∀ p, 0 ≤ p.bad → q p = some (e0, p)
def xNu (q : Rdr → Str → Option (List Exp × Rdr)) : Prop := ∀ p s, 0 ≤ p.bad → q p s = some ([], p)
def FRs (T : List Tok) (L : Int) (n : Nat) (f : List Tok → PR Exp) (q : Rdr → Option (Exp × Rdr)) : Prop := ∀ ts, ts <:+ T → ts.length < n → SimR T L (f ts) (q (gr T L ts))
theorem sOp (N : Nat) (k : Int) (a b : Exp) : xDb N k a b = some (.mk 6 k [] [a, b]) := by unfold xDb; simp only [Exp.re_eq]
theorem xQ7 {s s' : Str} {ts : List Tok} (h : seeS s ts = true) (hne : s ≠ s') : seeS s' ts = false := by
 cases ts with
 | nil => cases h
 | cons t q =>
   have h : isS t s = true := h
   show isS t s' = false
   unfold isS at h ⊢
   cases hk : t.kind == 4
   · rfl
   · rw [hk, jT] at h
     rw [jT, beq_eq_false_iff_ne]
     intro e
     exact hne ((beq_iff_eq.1 h).symm.trans e)
section
variable {K : Nat} {T : List Tok} {L : Int} {N : Nat} {q0 : Rdr → Str → Option (List Exp × Rdr)} {q1 q2 q3 q4 q5 : Rdr → Option (Exp × Rdr)}
theorem xPz (hW : TokW T L) (hT : TokT K T) {n : Nat} {f : List Tok → PR Exp} (hf : xCo K f) (hq : FRs T L n f q3) (c : Str) (hc : SymS c) (hc2 : c ≠ [44]) : ∀ (m fuel : Nat) (acc : List Exp) (ts : List Tok), ts <:+ T → ts.length < n → ts.length < m → ts.length < fuel → acc.length + ts.length ≤ 2000 →
 SimR T L (xJd f c m acc ts) (xFB N q0 q1 q2 q3 q4 q5 fuel c acc (gr T L ts)) := by
 have hco : SymS [44] := ⟨44, [], rfl, by decide⟩
 intro m
 induction m with
 | zero => intro fuel acc ts _ _ h; omega
 | succ m ih =>
   intro fuel acc ts h hn hm hfu ha
   obtain ⟨fuel, rfl⟩ : ∃ k, fuel = k + 1 := ⟨fuel - 1, by omega⟩
   simp only [xJd, xFB, xJ9, xNy, jT]
   refine SimR.bind hW (hq ts h hn) (fun e r he hr => ?_) (fun e p hp => ?_)
   · have hl := eat hT hf h he
     simp only [Exp.re_eq]
     rw [if_pos (by simp only [jC, jN]; unfold Lim; omega)]
     rw [xNl hW N hco hr, jS]
     cases hs : seeS [44] r
     · simp only [Bool.not_false, jT]
       have hk := xOi hW hr hco
       have e1 : xFZ [44] r = .err r := by
        cases r with
        | nil => rfl
        | cons t q =>
          have hk : isK t [44] = false := hk
          have hs : isS t [44] = false := hs
          simp only [xFZ, hk, hs, Bool.or_false, jF]
       have hkc := xOi hW hr hc
       have e2 : (bif seeS c r then PR.ok (acc ++ [e]) r.tail else (xFZ [44] r).bind fun _ q => xJd f c m (acc ++ [e]) q) = (xFZ c r).bind fun _ q => .ok (acc ++ [e]) q := by
        rw [e1]
        cases r with
        | nil => rfl
        | cons t q =>
          have hkc : isK t c = false := hkc
          show (bif isS t c then _ else _) = _
          simp only [xFZ, hkc, Bool.false_or]
          cases isS t c <;> rfl
       rw [e2]
       exact SimR.need hW hT.len hr (fun q _ hq => ⟨hq, rfl⟩) (fun p hp => ⟨_, rfl⟩)
     · have hs' := xQ7 hs (Ne.symm hc2)
       obtain ⟨t, q, rfl⟩ : ∃ t q, r = t :: q := by
        obtain ⟨t, h1, _⟩ := xLy hs
        exact ⟨t, _, h1⟩
       have hs2 : isS t [44] = true := hs
       have e1 : xFZ [44] (t :: q) = .ok () q := by simp only [xFZ, hs2, Bool.or_true, jT]
       have ha : Rdr.mk (gr T L (t :: q)).toks (IntKind.i64.wrap ((gr T L (t :: q)).i + 1)) (gr T L (t :: q)).fin (gr T L (t :: q)).bad = gr T L q := xIb hT.len hr rfl
       rw [hs', e1]
       simp only [Bool.not_true, jF, ha, PR.bind]
       exact ih fuel (acc ++ [e]) q (xCm hr) (by simp only [jC] at hl; omega) (by simp only [jC] at hl; omega) (by simp only [jC] at hl; omega) (by simp only [jA, jC, jN] at hl ⊢; omega)
   · simp only [Exp.re_eq]
     rw [if_pos (by simp only [jC, jN]; unfold Lim; omega), xF6 N _ hp, jS]
     simp only [Bool.not_false, jT, xHi N _ hp, jS]
     exact ⟨_, rfl⟩
theorem xRo (hN : 0 < N) (s : Str) {p : Rdr} (h : 0 ≤ p.bad) : xEV N q0 q1 q2 q3 q4 q5 p s = some ([], p) := by
 obtain ⟨M, rfl⟩ : ∃ k, N = k + 1 := ⟨N - 1, by omega⟩
 unfold xEV
 rw [xF6 _ s h, jS]
 simp only [jF, xFB]
 rw [decide_eq_false (by omega), jF, xHi _ s h]; rfl
theorem xRp (hW : TokW T L) (hT : TokT K T) (hN : 1002 < N) {n m : Nat} {f : List Tok → PR Exp} (hf : xCo K f) (hq : FRs T L n f q3) (c : Str) (hc : SymS c) (hc2 : c ≠ [44]) {ts : List Tok} (h : ts <:+ T) (hn : ts.length < n) (hm : ts.length < m) :
 SimR T L (xKM f m c ts) (xEV N q0 q1 q2 q3 q4 q5 (gr T L ts) c) := by
 have hl := h.length_le
 have := hT.len
 unfold xKM xEV
 rw [xNl hW N hc h, jS]
 cases hs : seeS c ts
 · simp only [jF]
   exact xPz hW hT hf hq c hc hc2 m N [] ts h hn hm (by omega) (by simp; omega)
 · simp only [jT, xIb hT.len h (xF5 hs)]
   exact ⟨xCm h, rfl⟩
def FRl (T : List Tok) (L : Int) (n m : Nat) (f : List Tok → PR Exp) (q : Rdr → Str → Option (List Exp × Rdr)) : Prop := ∀ c ts, SymS c → c ≠ [44] → ts <:+ T → ts.length < n → SimR T L (xKM f m c ts) (q (gr T L ts) c)
theorem xNj {p : Rdr} (h : 0 ≤ p.bad) : xEW N q0 q1 q2 q3 q4 q5 p = some (e0, p) := by
 unfold xEW
 rw [decide_eq_true (by omega : p.bad ≥ 0), jT, xNm N h]; rfl
theorem xMa (hW : TokW T L) (hT : TokT K T) {n m : Nat} {f : List Tok → PR Exp} (hf : xCo K f) (hq : FRs T L n f q3) (hb : xFQ q3) (hl : FRl T L n m f q0) (hbl : xNu q0) {t : Tok} {r : List Tok} (h : t :: r <:+ T) (hn : r.length < n) :
 SimR T L (xJM f m t r) (Option.bind (xDY N t [91]) fun r1 =>
         bif r1 then (
          Option.bind (q0 (gr T L r) [93]) fun r2 =>
          some ((Exp.mk 4 0 [] r2.1), r2.2)
         ) else (
           Option.bind (xDY N t [40]) fun r2 =>
           bif r2 then (
            Option.bind (q3 (gr T L r)) fun r3 =>
            Option.bind (xBA N r3.2 [41]) fun r4 =>
            some (r3.1, r4)
           ) else (
             Option.bind (xB7 N (gr T L (t :: r))) fun r3 =>
             some (r3.1, r3.2)
           )
         )) := by
 have hr : r <:+ T := xCm h
 unfold xJM
 rw [xZA, jS]
 cases h1 : isS t [91]
 · simp only [jF, xZA, jS]
   cases h2 : isS t [40]
   · simp only [jF]
     obtain ⟨p, hp1, hp2⟩ := xKj (L := L) N h
     rw [hp1]
     exact ⟨_, p, rfl, hp2⟩
   · simp only [jT]
     refine SimR.bind hW (hq r hr hn) (fun e u he hu => ?_) (fun e p hp => ⟨e, by simp only [xHi N _ hp, jS]⟩)
     exact SimR.need hW hT.len hu (fun v _ hv => ⟨hv, rfl⟩) (fun p hp => ⟨e, rfl⟩)
 · simp only [jT]
   exact SimR.bind hW (hl [93] r ⟨93, [], rfl, by decide⟩ (by decide) hr hn) (fun a u _ hu => ⟨hu, rfl⟩) (fun a p hp => ⟨_, rfl⟩)
theorem xQ6 (hW : TokW T L) (hT : TokT K T) (hN : K < N) (h24 : 24 < N) (hK : K ≤ 1048576) {n m : Nat} {f : List Tok → PR Exp} (hf : xCo K f) (hq : FRs T L n f q3) (hb : xFQ q3) (hl : FRl T L n m f q0) (hbl : xNu q0) :
 FRs T L (n + 1) (xGB f m) (xEW N q0 q1 q2 q3 q4 q5) := by
 intro ts h hn
 have c0 : decide ((-1 : Int) ≥ 0) = false := rfl
 unfold xEW
 rw [xJ9, c0, jF]
 cases ts with
 | nil =>
   rw [(xOw T L).2, jT]
   obtain ⟨p, hp1, hp2⟩ := xKj (L := L) N h
   exact ⟨_, p, by rw [hp1]; rfl, hp2⟩
 | cons t r =>
   have hr : r <:+ T := xCm h
   have hn' : r.length < n := by simp only [jC] at hn; omega
   have hft := hT.fit t (h.subset List.mem_cons_self)
   have hlen : t.text.length ≤ K := hft.2.2.2
   have hv := xGc (N := N) (s := t.text) (by omega) (by omega) h24
   obtain ⟨⟨_, a1⟩, a2, a3⟩ := xRB (ts := t :: r) (L := L) h
   have ha : Rdr.mk (gr T L (t :: r)).toks (IntKind.i64.wrap ((gr T L (t :: r)).i + 1)) (gr T L (t :: r)).fin (gr T L (t :: r)).bad = gr T L r := xIb hT.len h rfl
   have ha' : Rdr.mk (gr T L (t :: r)).toks (IntKind.i64.wrap ((gr T L (t :: r)).i + 1)) (gr T L (t :: r)).fin (-1) = gr T L r := ha
   rw [a1, jF, if_pos a2, a3]
   simp only [xGB, ha']
   cases h1 : t.kind == 2
   · cases h2 : t.kind == 3
     · cases h3 : t.kind == 1
       · exact xMa hW hT hf hq hb hl hbl h hn'
       · simp only [jT, jF, hv, jS]
         cases h4 : xB1 t.text
         · simp only [jF, xEA, jS]
           cases h5 : decide (argc t.text ≥ 0)
           · exact xMa hW hT hf hq hb hl hbl h hn'
           · simp only [jT]
             refine SimR.need hW hT.len hr (fun u hu hus => ?_) (fun p hp => ⟨_, by rw [hbl p _ hp, jS]⟩)
             have := xFt hu
             exact SimR.bind hW (hl [41] u ⟨41, [], rfl, by decide⟩ (by decide) hus (by omega)) (fun a v _ hv => ⟨hv, rfl⟩) (fun a p hp => ⟨_, rfl⟩)
         · exact ⟨hr, rfl⟩
     · exact ⟨hr, rfl⟩
   · exact ⟨hr, rfl⟩
theorem xPn (hW : TokW T L) (hT : TokT K T) {n : Nat} {g : List Tok → PR Exp} (hg : xCo K g) (hq : FRs T L n g q1) (hb : xFQ q1) (b2 : Exp) : ∀ (m fuel : Nat) (a : Exp) (ts : List Tok), ts <:+ T → ts.length ≤ n → ts.length < m → ts.length < fuel →
 SimR T L (xJe g m a ts) (xDj N q0 q1 q2 q3 q4 q5 fuel (gr T L ts) b2 a) := by
 have hs0 : SymS [42] := ⟨42, [], rfl, by decide⟩
 intro m
 induction m with
 | zero => intro fuel a ts _ _ h; omega
 | succ m ih =>
   intro fuel a ts h hn hm hfu
   obtain ⟨fuel, rfl⟩ : ∃ k, fuel = k + 1 := ⟨fuel - 1, by omega⟩
   simp only [xJe, xDj]
   rw [xNl hW N hs0 h, jS]
   cases hs : seeS [42] ts
   · exact ⟨h, rfl⟩
   · have hl := xF5 hs
     simp only [jT, sOp, jS, xIb hT.len h hl]
     obtain ⟨fuel, rfl⟩ : ∃ k, fuel = k + 1 := ⟨fuel - 1, by omega⟩
     refine SimR.bind hW (hq ts.tail (xCm h) (by omega)) (fun b r hbr hr => ?_) (fun b p hp => ⟨.mk 6 3 [] [a, b], by simp only [xDj, xF6 N _ hp, jS, jF]⟩)
     have := eat hT hg (xCm h) hbr
     exact ih (fuel + 1) _ r hr (by omega) (by omega) (by omega)
theorem xRd (hW : TokW T L) (hT : TokT K T) (hN : 1002 < N) {n m : Nat} {g : List Tok → PR Exp} (hg : xCo K g) (hq : FRs T L n g q1) (hb : xFQ q1) (hnm : n ≤ m) : FRs T L n (xKN g m) (xDW N q0 q1 q2 q3 q4 q5) := by
 intro ts h hn
 have hl := h.length_le
 have := hT.len
 unfold xKN xDW
 obtain ⟨M, rfl⟩ : ∃ k, N = k + 1 := ⟨N - 1, by omega⟩
 refine SimR.bind hW (hq ts h hn) (fun b r hbr hr => ?_) (fun b p hp => ⟨b, by simp only [xDj, xF6 _ _ hp, jS, jF]⟩)
 have := eat hT hg h hbr
 exact xPn hW hT hg hq hb e0 m (M + 1) b r hr (by omega) (by omega) (by omega)
theorem xNq (hN : 0 < N) (hb : xFQ q1) : xFQ (xDW N q0 q1 q2 q3 q4 q5) := by
 intro p hp
 obtain ⟨M, rfl⟩ : ∃ k, N = k + 1 := ⟨N - 1, by omega⟩
 unfold xDW
 simp only [hb p hp, jS, xDj, xF6 _ _ hp, jF]
theorem xRe (hW : TokW T L) (hT : TokT K T) {n : Nat} {g : List Tok → PR Exp} (hg : xCo K g) (hq : FRs T L n g q4) (hb : xFQ q4) (b2 : Exp) : ∀ (m fuel : Nat) (a : Exp) (ts : List Tok), ts <:+ T → ts.length ≤ n → ts.length < m → ts.length < fuel →
 SimR T L (xJy g m a ts) (xCS N q0 q1 q2 q3 q4 q5 fuel (gr T L ts) b2 a) := by
 have hp0 : SymS [43] := ⟨43, [], rfl, by decide⟩
 have hm0 : SymS [45] := ⟨45, [], rfl, by decide⟩
 intro m
 induction m with
 | zero => intro fuel a ts _ _ h; omega
 | succ m ih =>
   intro fuel a ts h hn hm hfu
   obtain ⟨fuel, rfl⟩ : ∃ k, fuel = k + 1 := ⟨fuel - 1, by omega⟩
   have step : ∀ s k, seeS s ts = true → SimR T L ((g ts.tail).bind fun b r => xJy g m (.mk 6 k [] [a, b]) r) (Option.bind (q4 (gr T L ts.tail)) fun r3 => Option.bind (xDb N k a r3.1) fun r4 => xCS N q0 q1 q2 q3 q4 q5 fuel r3.2 b2 r4) := by
    intro s k hs
    have hl := xF5 hs
    simp only [sOp, jS]
    obtain ⟨fuel, rfl⟩ : ∃ k, fuel = k + 1 := ⟨fuel - 1, by omega⟩
    refine SimR.bind hW (hq ts.tail (xCm h) (by omega)) (fun b r hbr hr => ?_) (fun b p hp => ⟨.mk 6 k [] [a, b], by simp only [xCS, xF6 N _ hp, jS, jF]⟩)
    have := eat hT hg (xCm h) hbr
    exact ih (fuel + 1) _ r hr (by omega) (by omega) (by omega)
   simp only [xJy, xCS]
   rw [xNl hW N hp0 h, jS]
   cases hs : seeS [43] ts
   · simp only [jF, xNl hW N hm0 h, jS]
     cases hs2 : seeS [45] ts
     · exact ⟨h, rfl⟩
     · simp only [jT, xIb hT.len h (xF5 hs2)]
       exact step _ 2 hs2
   · simp only [jT, xNl hW N hm0 h, jS, xQ7 hs (by decide : ([43] : Str) ≠ [45]), jF, xIb hT.len h (xF5 hs)]
     exact step _ 1 hs
theorem xUL (hW : TokW T L) (hT : TokT K T) (hN : 1002 < N) {n m : Nat} {g : List Tok → PR Exp} (hg : xCo K g) (hq : FRs T L n g q4) (hb : xFQ q4) (hnm : n ≤ m) : FRs T L n (pSum g m) (xFg N q0 q1 q2 q3 q4 q5) := by
 intro ts h hn
 have hl := h.length_le
 have := hT.len
 unfold pSum xFg
 obtain ⟨M, rfl⟩ : ∃ k, N = k + 1 := ⟨N - 1, by omega⟩
 refine SimR.bind hW (hq ts h hn) (fun b r hbr hr => ?_) (fun b p hp => ⟨b, by simp only [xCS, xF6 _ _ hp, jS, jF]⟩)
 have := eat hT hg h hbr
 exact xRe hW hT hg hq hb e0 m (M + 1) b r hr (by omega) (by omega) (by omega)
theorem xOZ (hN : 0 < N) (hb : xFQ q4) : xFQ (xFg N q0 q1 q2 q3 q4 q5) := by
 intro p hp
 obtain ⟨M, rfl⟩ : ∃ k, N = k + 1 := ⟨N - 1, by omega⟩
 unfold xFg
 simp only [hb p hp, jS, xCS, xF6 _ _ hp, jF]
theorem xUH (hb : xFQ q5) : xFQ (xDV N q0 q1 q2 q3 q4 q5) := by
 intro p hp
 unfold xDV
 simp only [hb p hp, jS, xF6 _ _ hp, jF]
theorem xUI (hW : TokW T L) (hT : TokT K T) {n : Nat} {g : List Tok → PR Exp} (hg : xCo K g) (hq : FRs T L n g q5) (hb : xFQ q5) : FRs T L n (pCmp g) (xDV N q0 q1 q2 q3 q4 q5) := by
 intro ts h hn
 have s1 : SymS [60] := ⟨60, [], rfl, by decide⟩
 have s2 : SymS [61, 61] := ⟨61, [61], rfl, by decide⟩
 unfold pCmp xDV
 refine SimR.bind hW (hq ts h hn) (fun a r ha hr => ?_) (fun a p hp => ⟨a, by simp only [jS, xF6 _ _ hp, jF]⟩)
 have hl := eat hT hg h ha
 have step : ∀ s k, seeS s r = true → SimR T L ((g r.tail).bind fun b q => PR.ok (.mk 6 k [] [a, b]) q) (Option.bind (q5 (gr T L r.tail)) fun r3 => Option.bind (xDb N k a r3.1) fun r4 => some (r4, r3.2)) := by
  intro s k hs
  have hl := xF5 hs
  simp only [sOp, jS]
  exact SimR.bind hW (hq r.tail (xCm hr) (by omega)) (fun b r hbr hr => ⟨hr, rfl⟩) (fun b p hp => ⟨_, rfl⟩)
 unfold xOc
 simp only [xNl hW N s1 hr, xNl hW N s2 hr, jS]
 cases hs : seeS [60] r
 · simp only [jF]
   cases hs2 : seeS [61, 61] r
   · exact ⟨hr, rfl⟩
   · simp only [jT, xIb hT.len hr (xF5 hs2)]
     exact step _ 5 hs2
 · simp only [jT, xIb hT.len hr (xF5 hs)]
   exact step _ 4 hs
theorem xQ8 (hb : xFQ q2) : xFQ (xEX N q0 q1 q2 q3 q4 q5) := by
 intro p hp
 unfold xEX
 simp only [hb p hp, jS, xF6 _ _ hp, jF]
theorem xO0 (hW : TokW T L) (hT : TokT K T) (hN : K < N) (h24 : 24 < N) (hK : K ≤ 1048576) {n : Nat} {f : List Tok → PR Exp} (hf : xCo K f) (hq : FRs T L n f q3) (hb : xFQ q3) (k : Int) (s1 s2 : Str) {ts : List Tok} (h : ts <:+ T) (hn : ts.length < n) :
 SimR T L (pTwo f k s1 s2 ts) (Option.bind (xD5 N (gr T L ts)) fun r2 =>
 Option.bind (xBA N r2.2 s1) fun r3 =>
 Option.bind (q3 r3) fun r4 =>
 Option.bind (xBA N r4.2 s2) fun r5 =>
 Option.bind (q3 r5) fun r6 =>
 some ((Exp.mk k 0 r2.1 [(Exp.re r4.1), (Exp.re r6.1)]), r6.2)) := by
 simp only [Exp.re_eq]
 refine SimR.bind hW (xQ9 hT hN h24 hK h) (fun x r1 hx hr1 => ?_) (fun x p hp => ⟨.mk k 0 x [e0, e0], by simp only [xHi N _ hp, hb p hp, jS]⟩)
 have l1 := xNf hx
 refine SimR.need hW hT.len hr1 (fun r2 h2 hr2 => ?_) (fun p hp => ⟨.mk k 0 x [e0, e0], by simp only [xHi N _ hp, hb p hp, jS]⟩)
 have l2 := xFt h2
 refine SimR.bind hW (hq r2 hr2 (by omega)) (fun a r3 h3 hr3 => ?_) (fun a p hp => ⟨.mk k 0 x [a, e0], by simp only [xHi N _ hp, hb p hp, jS]⟩)
 have l3 := eat hT hf hr2 h3
 refine SimR.need hW hT.len hr3 (fun r4 h4 hr4 => ?_) (fun p hp => ⟨.mk k 0 x [a, e0], by simp only [hb p hp, jS]⟩)
 have l4 := xFt h4
 exact SimR.bind hW (hq r4 hr4 (by omega)) (fun b r5 h5 hr5 => ⟨hr5, rfl⟩) (fun b p hp => ⟨_, rfl⟩)
theorem xZD (hW : TokW T L) (hT : TokT K T) {n : Nat} {f : List Tok → PR Exp} (hf : xCo K f) (hq : FRs T L n f q3) (hb : xFQ q3) {ts : List Tok} (h : ts <:+ T) (hn : ts.length < n) :
 SimR T L (pIf f ts) (Option.bind (q3 (gr T L ts)) fun r3 =>
  Option.bind (xBA N r3.2 [116, 104, 101, 110]) fun r4 =>
  Option.bind (q3 r4) fun r5 =>
  Option.bind (xBA N r5.2 [101, 108, 115, 101]) fun r6 =>
  Option.bind (q3 r6) fun r7 =>
  some ((Exp.mk 8 0 [] [(Exp.re r3.1), (Exp.re r5.1), (Exp.re r7.1)]), r7.2)) := by
 simp only [Exp.re_eq]
 refine SimR.bind hW (hq ts h hn) (fun a r1 h1 hr1 => ?_) (fun a p hp => ⟨.mk 8 0 [] [a, e0, e0], by simp only [xHi N _ hp, hb p hp, jS]⟩)
 have l1 := eat hT hf h h1
 refine SimR.need hW hT.len hr1 (fun r2 h2 hr2 => ?_) (fun p hp => ⟨.mk 8 0 [] [a, e0, e0], by simp only [xHi N _ hp, hb p hp, jS]⟩)
 have l2 := xFt h2
 refine SimR.bind hW (hq r2 hr2 (by omega)) (fun b r3 h3 hr3 => ?_) (fun b p hp => ⟨.mk 8 0 [] [a, b, e0], by simp only [xHi N _ hp, hb p hp, jS]⟩)
 have l3 := eat hT hf hr2 h3
 refine SimR.need hW hT.len hr3 (fun r4 h4 hr4 => ?_) (fun p hp => ⟨.mk 8 0 [] [a, b, e0], by simp only [hb p hp, jS]⟩)
 have l4 := xFt h4
 exact SimR.bind hW (hq r4 hr4 (by omega)) (fun c r5 h5 hr5 => ⟨hr5, rfl⟩) (fun c p hp => ⟨_, rfl⟩)
theorem xPm (hW : TokW T L) (hT : TokT K T) (hN : K < N) (h24 : 24 < N) (hK : K ≤ 1048576) {n : Nat} {f g : List Tok → PR Exp} (hf : xCo K f) (hq : FRs T L n f q3) (hb : xFQ q3) (hq2 : FRs T L (n + 1) (pCmp g) q2) :
 FRs T L (n + 1) (xHw f g) (xEX N q0 q1 q2 q3 q4 q5) := by
 intro ts h hn
 have k1 : KeyS [108, 101, 116] := ⟨108, [101, 116], rfl, by decide⟩
 have k2 : KeyS [105, 102] := ⟨105, [102], rfl, by decide⟩
 have k3 : KeyS [102, 111, 114] := ⟨102, [111, 114], rfl, by decide⟩
 unfold xHw xEX
 simp only [xZC hW N k1 h, xZC hW N k2 h, xZC hW N k3 h, jS]
 cases c1 : seeK [108, 101, 116] ts
 · simp only [jF]
   cases c2 : seeK [105, 102] ts
   · simp only [jF]
     cases c3 : seeK [102, 111, 114] ts
     · simp only [jF]
       have := hq2 ts h hn
       have e : (Option.bind (q2 (gr T L ts)) fun r4 => some (r4.1, r4.2)) = q2 (gr T L ts) := by cases q2 (gr T L ts) <;> rfl
       rw [e]
       exact this
     · simp only [jT, xIb hT.len h (xF4 c3)]
       have := xF4 c3
       exact xO0 hW hT hN h24 hK hf hq hb 9 _ _ (xCm h) (by omega)
   · simp only [jT, xIb hT.len h (xF4 c2)]
     have := xF4 c2
     exact xZD hW hT hf hq hb (xCm h) (by omega)
 · simp only [jT, xIb hT.len h (xF4 c1)]
   have := xF4 c1
   exact xO0 hW hT hN h24 hK hf hq hb 7 _ _ (xCm h) (by omega)
end
theorem xOV {N : Nat} (hN : 0 < N) : ∀ d, 5 ≤ d → xFQ (xAb N d).c_spec_l11Expr := by
 intro d hd
 obtain ⟨d, rfl⟩ : ∃ k, d = k + 5 := ⟨d - 5, by omega⟩
 exact xQ8 (q0 := (xAb N (d + 4)).c_spec_l11Args) (q1 := (xAb N (d + 4)).c_spec_l11Atom) (q2 := (xAb N (d + 4)).c_spec_l11Compare) (q3 := (xAb N (d + 4)).c_spec_l11Expr) (q4 := (xAb N (d + 4)).c_spec_l11Product) (q5 := (xAb N (d + 4)).c_spec_l11Sum) (xUH (q0 := (xAb N (d + 3)).c_spec_l11Args) (q1 := (xAb N (d + 3)).c_spec_l11Atom) (q2 := (xAb N (d + 3)).c_spec_l11Compare) (q3 := (xAb N (d + 3)).c_spec_l11Expr) (q4 := (xAb N (d + 3)).c_spec_l11Product) (q5 := (xAb N (d + 3)).c_spec_l11Sum) (xOZ (q0 := (xAb N (d + 2)).c_spec_l11Args) (q1 := (xAb N (d + 2)).c_spec_l11Atom) (q2 := (xAb N (d + 2)).c_spec_l11Compare) (q3 := (xAb N (d + 2)).c_spec_l11Expr) (q4 := (xAb N (d + 2)).c_spec_l11Product) (q5 := (xAb N (d + 2)).c_spec_l11Sum) hN (xNq (q0 := (xAb N (d + 1)).c_spec_l11Args) (q1 := (xAb N (d + 1)).c_spec_l11Atom) (q2 := (xAb N (d + 1)).c_spec_l11Compare) (q3 := (xAb N (d + 1)).c_spec_l11Expr) (q4 := (xAb N (d + 1)).c_spec_l11Product) (q5 := (xAb N (d + 1)).c_spec_l11Sum) hN fun p hp => xNj (q0 := (xAb N d).c_spec_l11Args) (q1 := (xAb N d).c_spec_l11Atom) (q2 := (xAb N d).c_spec_l11Compare) (q3 := (xAb N d).c_spec_l11Expr) (q4 := (xAb N d).c_spec_l11Product) (q5 := (xAb N d).c_spec_l11Sum) hp)))
theorem xZy {K : Nat} {T : List Tok} {L : Int} {N : Nat} (hW : TokW T L) (hT : TokT K T) (hN : K < N) (hN2 : 1002 < N) (hK : K ≤ 1048576) : ∀ n d, 6 * n + 11 ≤ d → FRs T L n (pE n) (xAb N d).c_spec_l11Expr := by
 intro n
 induction n with
 | zero => intro d _ ts _ h; omega
 | succ n ih =>
   intro d hd
   obtain ⟨d, rfl⟩ : ∃ k, d = k + 6 := ⟨d - 6, by omega⟩
   have f1 := ih d (by omega)
   have f2 := ih (d + 1) (by omega)
   have f5 := ih (d + 5) (by omega)
   have b2 := xOV (N := N) (by omega) (d + 1) (by omega)
   have b5 := xOV (N := N) (by omega) (d + 5) (by omega)
   have hl : FRl T L n (n + 1) (pE n) (xAb N (d + 1)).c_spec_l11Args := fun c ts hc hc2 h hn => xRp (q0 := (xAb N d).c_spec_l11Args) (q1 := (xAb N d).c_spec_l11Atom) (q2 := (xAb N d).c_spec_l11Compare) (q3 := (xAb N d).c_spec_l11Expr) (q4 := (xAb N d).c_spec_l11Product) (q5 := (xAb N d).c_spec_l11Sum) hW hT hN2 (xE6 n) f1 c hc hc2 h hn (by omega)
   have hbl : xNu (xAb N (d + 1)).c_spec_l11Args := fun p s hp => xRo (q0 := (xAb N d).c_spec_l11Args) (q1 := (xAb N d).c_spec_l11Atom) (q2 := (xAb N d).c_spec_l11Compare) (q3 := (xAb N d).c_spec_l11Expr) (q4 := (xAb N d).c_spec_l11Product) (q5 := (xAb N d).c_spec_l11Sum) (by omega) s hp
   have a : FRs T L (n + 1) (xGB (pE n) (n + 1)) (xAb N (d + 2)).c_spec_l11Atom := xQ6 (q0 := (xAb N (d + 1)).c_spec_l11Args) (q1 := (xAb N (d + 1)).c_spec_l11Atom) (q2 := (xAb N (d + 1)).c_spec_l11Compare) (q3 := (xAb N (d + 1)).c_spec_l11Expr) (q4 := (xAb N (d + 1)).c_spec_l11Product) (q5 := (xAb N (d + 1)).c_spec_l11Sum) hW hT hN (by omega) hK (xE6 n) f2 b2 hl hbl
   have ba : xFQ (xAb N (d + 2)).c_spec_l11Atom := fun p hp => xNj (q0 := (xAb N (d + 1)).c_spec_l11Args) (q1 := (xAb N (d + 1)).c_spec_l11Atom) (q2 := (xAb N (d + 1)).c_spec_l11Compare) (q3 := (xAb N (d + 1)).c_spec_l11Expr) (q4 := (xAb N (d + 1)).c_spec_l11Product) (q5 := (xAb N (d + 1)).c_spec_l11Sum) hp
   have p : FRs T L (n + 1) (xKN (xGB (pE n) (n + 1)) (n + 1)) (xAb N (d + 3)).c_spec_l11Product := xRd (q0 := (xAb N (d + 2)).c_spec_l11Args) (q1 := (xAb N (d + 2)).c_spec_l11Atom) (q2 := (xAb N (d + 2)).c_spec_l11Compare) (q3 := (xAb N (d + 2)).c_spec_l11Expr) (q4 := (xAb N (d + 2)).c_spec_l11Product) (q5 := (xAb N (d + 2)).c_spec_l11Sum) hW hT hN2 (xHv (xE6 n) _) a ba (Nat.le_refl _)
   have bp : xFQ (xAb N (d + 3)).c_spec_l11Product := xNq (q0 := (xAb N (d + 2)).c_spec_l11Args) (q1 := (xAb N (d + 2)).c_spec_l11Atom) (q2 := (xAb N (d + 2)).c_spec_l11Compare) (q3 := (xAb N (d + 2)).c_spec_l11Expr) (q4 := (xAb N (d + 2)).c_spec_l11Product) (q5 := (xAb N (d + 2)).c_spec_l11Sum) (by omega) ba
   have s : FRs T L (n + 1) (xK8 (pE n) (n + 1)) (xAb N (d + 4)).c_spec_l11Sum := xUL (q0 := (xAb N (d + 3)).c_spec_l11Args) (q1 := (xAb N (d + 3)).c_spec_l11Atom) (q2 := (xAb N (d + 3)).c_spec_l11Compare) (q3 := (xAb N (d + 3)).c_spec_l11Expr) (q4 := (xAb N (d + 3)).c_spec_l11Product) (q5 := (xAb N (d + 3)).c_spec_l11Sum) hW hT hN2 (xJY (xHv (xE6 n) _) _) p bp (Nat.le_refl _)
   have bs : xFQ (xAb N (d + 4)).c_spec_l11Sum := xOZ (q0 := (xAb N (d + 3)).c_spec_l11Args) (q1 := (xAb N (d + 3)).c_spec_l11Atom) (q2 := (xAb N (d + 3)).c_spec_l11Compare) (q3 := (xAb N (d + 3)).c_spec_l11Expr) (q4 := (xAb N (d + 3)).c_spec_l11Product) (q5 := (xAb N (d + 3)).c_spec_l11Sum) (by omega) bp
   have c : FRs T L (n + 1) (pCmp (xK8 (pE n) (n + 1))) (xAb N (d + 5)).c_spec_l11Compare := xUI (q0 := (xAb N (d + 4)).c_spec_l11Args) (q1 := (xAb N (d + 4)).c_spec_l11Atom) (q2 := (xAb N (d + 4)).c_spec_l11Compare) (q3 := (xAb N (d + 4)).c_spec_l11Expr) (q4 := (xAb N (d + 4)).c_spec_l11Product) (q5 := (xAb N (d + 4)).c_spec_l11Sum) hW hT (xJZ (xE6 n) _) s bs
   exact xPm (q0 := (xAb N (d + 5)).c_spec_l11Args) (q1 := (xAb N (d + 5)).c_spec_l11Atom) (q2 := (xAb N (d + 5)).c_spec_l11Compare) (q3 := (xAb N (d + 5)).c_spec_l11Expr) (q4 := (xAb N (d + 5)).c_spec_l11Product) (q5 := (xAb N (d + 5)).c_spec_l11Sum) hW hT hN (by omega) hK (xE6 n) f5 b5 c
end Go.Ab
end
section
namespace Go.Ab
def xGn (c : UInt8) : Bool := decide (97 ≤ c.toNat) && decide (c.toNat ≤ 122)
def xCn (c : UInt8) : Bool := decide (48 ≤ c.toNat) && decide (c.toNat ≤ 57)
def isWd (c : UInt8) : Bool := xGn c || xCn c
def notQ (c : UInt8) : Bool := !(c.toNat == 34)
def xKq (c : UInt8) : Bool := decide (Lib.indexByte [40, 41, 91, 93, 44, 43, 45, 42, 60, 61] c ≥ 0)
def xH0 (p : Int) : Str → Option (Tok × Str)
 | [] => none
 | c :: l =>
   bif xGn c then (bif decide ((c :: l).length - ((c :: l).dropWhile isWd).length ≤ 8) then some (⟨1, 0, p, (c :: l).take ((c :: l).length - ((c :: l).dropWhile isWd).length)⟩, (c :: l).dropWhile isWd) else none)
   else bif xCn c then (bif (zHZ ((c :: l).take ((c :: l).length - ((c :: l).dropWhile xCn).length)) 0 1000000000).2 then some (⟨2, (zHZ ((c :: l).take ((c :: l).length - ((c :: l).dropWhile xCn).length)) 0 1000000000).1, p, []⟩, (c :: l).dropWhile xCn) else none)
   else bif c.toNat == 34 then (match l.dropWhile notQ with
    | [] => none
    | q :: r => bif xHe (l.take (l.length - (q :: r).length)) then some (⟨3, 0, p, l.take (l.length - (q :: r).length)⟩, r) else none)
   else bif Lib.hasPrefix (c :: l) [61, 61] then some (⟨4, 0, p, [61, 61]⟩, l.tail)
   else bif xKq c then some (⟨4, 0, p, [c]⟩, l) else none
theorem xC8 (p : Int) (c : UInt8) (l : Str) : xH0 p (c :: l) =
 bif xGn c then (bif decide ((c :: l).length - ((c :: l).dropWhile isWd).length ≤ 8) then some (⟨1, 0, p, (c :: l).take ((c :: l).length - ((c :: l).dropWhile isWd).length)⟩, (c :: l).dropWhile isWd) else none)
 else bif xCn c then (bif (zHZ ((c :: l).take ((c :: l).length - ((c :: l).dropWhile xCn).length)) 0 1000000000).2 then some (⟨2, (zHZ ((c :: l).take ((c :: l).length - ((c :: l).dropWhile xCn).length)) 0 1000000000).1, p, []⟩, (c :: l).dropWhile xCn) else none)
 else bif c.toNat == 34 then (match l.dropWhile notQ with
  | [] => none
  | q :: r => bif xHe (l.take (l.length - (q :: r).length)) then some (⟨3, 0, p, l.take (l.length - (q :: r).length)⟩, r) else none)
 else bif Lib.hasPrefix (c :: l) [61, 61] then some (⟨4, 0, p, [61, 61]⟩, l.tail)
 else bif xKq c then some (⟨4, 0, p, [c]⟩, l) else none := rfl
def lexL : Nat → Int → List Tok → Str → List Tok × Int
 | 0, p, _, _ => ([], p)
 | _ + 1, _, acc, [] => (acc, -1)
 | n + 1, p, acc, c :: l => bif c.toNat == 32 then lexL n (p + 1) acc l else match xH0 p (c :: l) with
   | none => ([], p)
   | some (t, r) => bif acc.length == 60 then ([], p) else lexL n (p + ((c :: l).length - r.length : Nat)) (acc ++ [t]) r
def lex (s : Str) : List Tok × Int := bif decide (s.length > 120) then ([], 120) else lexL (s.length + 1) 0 [] s
theorem xPD (x : UInt8) : decide (((x.toNat : Int) : Int) ≥ 97) = decide (97 ≤ x.toNat) := decide_eq_decide.2 (by omega)
theorem xM1 (x : UInt8) : decide (((x.toNat : Int) : Int) ≤ 122) = decide (x.toNat ≤ 122) := decide_eq_decide.2 (by omega)
theorem xNz (x : UInt8) : decide (((x.toNat : Int) : Int) ≥ 48) = decide (48 ≤ x.toNat) := decide_eq_decide.2 (by omega)
theorem xNA (x : UInt8) : decide (((x.toNat : Int) : Int) ≤ 57) = decide (x.toNat ≤ 57) := decide_eq_decide.2 (by omega)
theorem beqI (x k : Nat) : ((x : Int) == (k : Int)) = (x == k) := by
 by_cases h : x = k
 · rw [h]; simp
 · rw [beq_eq_false_iff_ne.2 h, beq_eq_false_iff_ne.2 (by omega)]
theorem xRu (x : UInt8) : (((x.toNat : Int) : Int) == 34) = (x.toNat == 34) := beqI x.toNat 34
theorem xZK (x : UInt8) : (((x.toNat : Int) : Int) == 32) = (x.toNat == 32) := beqI x.toNat 32
theorem xEK {p : UInt8 → Bool} (l : Str) : (l.dropWhile p).length ≤ l.length := (List.dropWhile_suffix p).length_le
theorem xFk {S : Str} {i : Nat} {x : UInt8} {l : Str} (h : S.drop i = x :: l) : S.length - (x :: l).length = i ∧ i + (x :: l).length = S.length := by
 have := congrArg List.length h
 obtain ⟨h1, _⟩ := xDu h
 rw [List.length_drop] at this
 omega
theorem xJo {S s : Str} {i : Nat} (h : S.drop i = s) (hi : i ≤ S.length) {k : Nat} (hk : k ≤ s.length) : List.drop i (List.take (S.length - k) S) = s.take (s.length - k) := by
 subst h
 rw [List.drop_take, List.length_drop, show S.length - k - i = S.length - i - k from by omega]
section
variable {N : Nat} {S : Str}
theorem xRn (hS : S.length ≤ 1000) {i : Nat} (b4 : Tok) : ∀ n j, i ≤ j → j ≤ S.length → S.length < n + j → xCu N n S i (j : Nat) b4 =
 some (Tok.mk 1 0 i (List.drop i (List.take (S.length - ((S.drop j).dropWhile isWd).length) S)), ((S.length - ((S.drop j).dropWhile isWd).length : Nat) : Int), decide (S.length - ((S.drop j).dropWhile isWd).length - i ≤ 8)) := by
 intro n j hij hj hn
 refine xF8 (σ := Unit) (L := fun n j _ => xCu N n S i j b4) S (fun l _ => (Tok.mk 1 0 i (List.drop i (List.take (S.length - (l.dropWhile isWd).length) S)), ((S.length - (l.dropWhile isWd).length : Nat) : Int), decide (S.length - (l.dropWhile isWd).length - i ≤ 8)))
  (fun j _ => i ≤ j) (fun n _ hi => ?_) (fun j x l _ hd hj hx hi => ?_) n j () hij hj hn
 · have hi : i ≤ S.length := hi
   simp only [xCu, Int.lt_irrefl, decide_false, jF]
   rw [if_pos (by omega)]
   have e1 : IntKind.i64.wrap ((S.length : Int) - (i : Int)) = (S.length : Int) - i := xBh (by omega) (by omega)
   simp only [e1, List.dropWhile_nil, jN, Nat.sub_zero, Int.toNat_natCast]
   rw [decide_eq_decide.2 (by omega : (S.length : Int) - i ≤ 8 ↔ S.length - i ≤ 8)]
   rfl
 · have hi : i ≤ j := hi
   have hj' : (j : Int) < (S.length : Int) := by omega
   have hj2 : (0 : Int) ≤ (j : Int) ∧ (j : Int) < (S.length : Int) := ⟨by omega, hj'⟩
   have hj3 : (0 : Int) ≤ (i : Int) ∧ (i : Int) ≤ (j : Int) ∧ (j : Int) ≤ (S.length : Int) := by omega
   have e1 : IntKind.i64.wrap ((j : Int) - (i : Int)) = (j : Int) - i := xBh (by omega) (by omega)
   cases hw : isWd x
   · refine .inr fun n => ?_
     have e2 : (x :: l).dropWhile isWd = x :: l := by rw [List.dropWhile_cons]; simp [hw]
     have e3 := (xFk hd).1
     have e4 : decide ((j : Int) - i ≤ 8) = decide (j - i ≤ 8) := decide_eq_decide.2 (by omega)
     simp only [xCu, decide_eq_true hj', jT, if_pos hj2, if_pos hj3, Int.toNat_natCast, xCh hx, xPD, xM1, xNz, xNA, e1, e2, e3, e4]
     unfold isWd xGn xCn at hw
     revert hw
     cases decide (97 ≤ x.toNat) <;> cases decide (x.toNat ≤ 122) <;> cases decide (48 ≤ x.toNat) <;> cases decide (x.toNat ≤ 57) <;> intro hw <;> first | rfl | (simp at hw; done)
   · refine .inl ⟨(), by omega, ?_, fun n => ?_⟩
     · have e2 : (x :: l).dropWhile isWd = l.dropWhile isWd := by rw [List.dropWhile_cons]; simp [hw]
       rw [e2]
     · simp only [xCu, decide_eq_true hj', jT, if_pos hj2, if_pos hj3, Int.toNat_natCast, xCh hx, xPD, xM1, xNz, xNA, xBo hj (by omega : S.length ≤ _)]
       unfold isWd xGn xCn at hw
       revert hw
       cases decide (97 ≤ x.toNat) <;> cases decide (x.toNat ≤ 122) <;> cases decide (48 ≤ x.toNat) <;> cases decide (x.toNat ≤ 57) <;> intro hw <;> first | rfl | (simp at hw; done)
theorem xNh {w : Str} (h : w.length ≤ 1000) : xHk N w 0 1000000000 = some (zHZ w 0 1000000000) := by
 unfold xHk zEB
 rw [if_pos (by omega)]
def numG (S : Str) (i : Nat) (l : Str) : Int × Bool := zHZ (List.drop i (List.take (S.length - (l.dropWhile xCn).length) S)) 0 1000000000
theorem xRJ (hS : S.length ≤ 1000) {i : Nat} (b4 : Tok) : ∀ n j, i ≤ j → j ≤ S.length → S.length < n + j → xCO N n S i (j : Nat) b4 =
 some (Tok.mk 2 (numG S i (S.drop j)).1 i [], ((S.length - ((S.drop j).dropWhile xCn).length : Nat) : Int), (numG S i (S.drop j)).2) := by
 intro n j hij hj hn
 refine xF8 (σ := Unit) (L := fun n j _ => xCO N n S i j b4) S (fun l _ => (Tok.mk 2 (numG S i l).1 i [], ((S.length - (l.dropWhile xCn).length : Nat) : Int), (numG S i l).2))
  (fun j _ => i ≤ j) (fun n _ hi => ?_) (fun j x l _ hd hj hx hi => ?_) n j () hij hj hn
 · have hi : i ≤ S.length := hi
   simp only [xCO, Int.lt_irrefl, decide_false, jF]
   rw [if_pos (by omega)]
   simp only [Int.toNat_natCast]
   rw [xNh (by rw [List.length_drop, List.length_take]; omega)]
   simp only [jS, numG, List.dropWhile_nil, jN, Nat.sub_zero]
 · have hi : i ≤ j := hi
   have hj' : (j : Int) < (S.length : Int) := by omega
   have hj2 : (0 : Int) ≤ (j : Int) ∧ (j : Int) < (S.length : Int) := ⟨by omega, hj'⟩
   have hj3 : (0 : Int) ≤ (i : Int) ∧ (i : Int) ≤ (j : Int) ∧ (j : Int) ≤ (S.length : Int) := by omega
   cases hw : xCn x
   · refine .inr fun n => ?_
     have e2 : (x :: l).dropWhile xCn = x :: l := by rw [List.dropWhile_cons]; simp [hw]
     have e3 := (xFk hd).1
     simp only [xCO, decide_eq_true hj', jT, if_pos hj2, if_pos hj3, Int.toNat_natCast, xCh hx, xNz, xNA, numG, e2, e3]
     rw [xNh (by rw [List.length_drop, List.length_take]; omega)]
     simp only [jS]
     unfold xCn at hw
     revert hw
     cases decide (48 ≤ x.toNat) <;> cases decide (x.toNat ≤ 57) <;> intro hw <;> first | rfl | (simp at hw; done)
   · refine .inl ⟨(), by omega, ?_, fun n => ?_⟩
     · have e2 : (x :: l).dropWhile xCn = l.dropWhile xCn := by rw [List.dropWhile_cons]; simp [hw]
       simp only [numG, e2]
     · simp only [xCO, decide_eq_true hj', jT, if_pos hj2, if_pos hj3, Int.toNat_natCast, xCh hx, xNz, xNA, xBo hj (by omega : S.length ≤ _)]
       unfold xCn at hw
       revert hw
       cases decide (48 ≤ x.toNat) <;> cases decide (x.toNat ≤ 57) <;> intro hw <;> first | rfl | (simp at hw; done)
theorem xMP (c : UInt8) (k : UInt8) : (c == k) = (c.toNat == k.toNat) := by
 by_cases h : c = k
 · subst h; simp
 · rw [beq_eq_false_iff_ne.2 h, beq_eq_false_iff_ne.2 (fun e => h (UInt8.toNat_inj.1 e))]
theorem xPN : ∀ l : Str, Lib.indexByte l 34 = (match l.dropWhile notQ with
 | [] => -1
 | q :: r => ((l.length - (q :: r).length : Nat) : Int))
 | [] => rfl
 | x :: l => by
   have ih := xPN l
   unfold Lib.indexByte
   rw [xMP x 34, List.dropWhile_cons]
   unfold notQ at ih ⊢
   show (if (x.toNat == 34) = true then _ else _) = _
   cases h : x.toNat == 34
   · simp only [Bool.not_false, if_true]
     have hd := xEK (p := fun c => !(c.toNat == 34)) l
     cases he : List.dropWhile (fun c => !(c.toNat == 34)) l with
     | nil => rw [he] at ih; simp only at ih; rw [ih]; rfl
     | cons q r =>
       rw [he] at ih hd
       simp only at ih
       simp only [jC] at hd ih ⊢
       rw [ih]
       have e : (((l.length - (r.length + 1) : Nat) : Int) == -1) = false := beq_eq_false_iff_ne.2 (by omega)
       rw [e]
       simp only [Bool.false_eq_true, if_false]
       omega
   · simp
def LxP (S : Str) (o : Option (Tok × Str)) (x : Tok × Int × Bool) : Prop := match o with
 | some (t, r) => x = (t, ((S.length - r.length : Nat) : Int), true)
 | none => x.2.2 = false
theorem xUG (hS : S.length ≤ 1000) (hN : 1000 < N) {i : Nat} {c : UInt8} {l : Str} (hd : S.drop i = c :: l) (h34 : (c.toNat == 34) = true) (hL : xGn c = false) (hD : xCn c = false) : ∃ x, (
         if (0 : Int) ≤ (IntKind.i64.wrap ((i : Int) + 1)) ∧ (IntKind.i64.wrap ((i : Int) + 1)) ≤ (List.length S) then
         Option.bind (strings_IndexByte N (List.drop (Int.toNat (IntKind.i64.wrap ((i : Int) + 1))) S) 34) fun r1 =>
         bif (decide ((r1 : Int) < 0)) then (
          some ((Tok.mk 0 0 0 []), 0, false)
         ) else (
           if (0 : Int) ≤ (IntKind.i64.wrap ((i : Int) + 1)) ∧ (IntKind.i64.wrap ((i : Int) + 1)) ≤ (IntKind.i64.wrap ((IntKind.i64.wrap ((i : Int) + 1)) + r1)) ∧ (IntKind.i64.wrap ((IntKind.i64.wrap ((i : Int) + 1)) + r1)) ≤ (List.length S) then
           Option.bind (xCX N (List.drop (Int.toNat (IntKind.i64.wrap ((i : Int) + 1))) (List.take (Int.toNat (IntKind.i64.wrap ((IntKind.i64.wrap ((i : Int) + 1)) + r1))) S))) fun r2 =>
           some ((Tok.mk 3 0 i (List.drop (Int.toNat (IntKind.i64.wrap ((i : Int) + 1))) (List.take (Int.toNat (IntKind.i64.wrap ((IntKind.i64.wrap ((i : Int) + 1)) + r1))) S))), (IntKind.i64.wrap ((IntKind.i64.wrap ((i : Int) + r1)) + 2)), r2)
           else none
         )
         else none) = some x ∧ LxP S (xH0 i (c :: l)) x := by
 obtain ⟨e1, e2⟩ := xFk hd
 obtain ⟨hi, _, hd1⟩ := xDu hd
 simp only [jC] at e2
 have w1 : IntKind.i64.wrap ((i : Int) + 1) = ((i + 1 : Nat) : Int) := xBo hi (by omega)
 simp only [w1, Int.toNat_natCast, hd1]
 rw [if_pos (by omega)]
 unfold strings_IndexByte zFV
 rw [show ((34 : Int).toNat.toUInt8) = 34 from rfl, xPN, jS]
 rw [xC8, hL, hD, h34]
 simp only [jF, jT]
 have hq := xEK (p := notQ) l
 cases he : l.dropWhile notQ with
 | nil => exact ⟨_, rfl, rfl⟩
 | cons q r =>
   rw [he] at hq
   simp only [jC] at hq ⊢
   have w2 : IntKind.i64.wrap (((i + 1 : Nat) : Int) + ((l.length - (r.length + 1) : Nat) : Int)) = ((i + 1 + (l.length - (r.length + 1)) : Nat) : Int) := by rw [xBh (by omega) (by omega)]; omega
   have w3 : IntKind.i64.wrap ((i : Int) + ((l.length - (r.length + 1) : Nat) : Int)) = ((i + (l.length - (r.length + 1)) : Nat) : Int) := by rw [xBh (by omega) (by omega)]; omega
   have w4 : IntKind.i64.wrap (((i + (l.length - (r.length + 1)) : Nat) : Int) + 2) = ((S.length - r.length : Nat) : Int) := by rw [xBh (by omega) (by omega)]; omega
   have w5 : List.drop (i + 1) (List.take (i + 1 + (l.length - (r.length + 1))) S) = l.take (l.length - (r.length + 1)) := by
    rw [List.drop_take, hd1, show i + 1 + (l.length - (r.length + 1)) - (i + 1) = l.length - (r.length + 1) from by omega]
   rw [decide_eq_false (by omega), jF]
   simp only [w2, w3, w4, Int.toNat_natCast, w5]
   rw [if_pos (by omega)]
   have ht : (l.take (l.length - (r.length + 1))).length ≤ 1000 := by rw [List.length_take]; omega
   rw [xHn (N := N) (s := l.take (l.length - (r.length + 1))) (by omega) (by omega), jS]
   refine ⟨_, rfl, ?_⟩
   cases xHe (l.take (l.length - (r.length + 1)))
   · rfl
   · rfl
theorem vAM (hS : S.length ≤ 1000) (hN : 1000 < N) {i : Nat} {c : UInt8} {l : Str} (hd : S.drop i = c :: l) (h34 : (c.toNat == 34) = false) (hL : xGn c = false) (hD : xCn c = false) : ∃ x, (
         if (0 : Int) ≤ (i : Int) ∧ (i : Int) ≤ (List.length S) then
         Option.bind (strings_HasPrefix N (List.drop (Int.toNat (i : Int)) S) [61, 61]) fun r1 =>
         bif r1 then (
          some ((Tok.mk 4 0 i [61, 61]), (IntKind.i64.wrap ((i : Int) + 2)), true)
         ) else (
           if (0 : Int) ≤ (i : Int) ∧ (i : Int) ≤ (IntKind.i64.wrap ((i : Int) + 1)) ∧ (IntKind.i64.wrap ((i : Int) + 1)) ≤ (List.length S) then
           Option.bind (strings_IndexByte N [40, 41, 91, 93, 44, 43, 45, 42, 60, 61] ((List.getD S (Int.toNat (i : Int)) 0).toNat : Int)) fun r2 =>
           some ((Tok.mk 4 0 i (List.drop (Int.toNat (i : Int)) (List.take (Int.toNat (IntKind.i64.wrap ((i : Int) + 1))) S))), (IntKind.i64.wrap ((i : Int) + 1)), (decide ((r2 : Int) ≥ 0)))
           else none
         )
         else none) = some x ∧ LxP S (xH0 i (c :: l)) x := by
 obtain ⟨e1, e2⟩ := xFk hd
 obtain ⟨hi, hx, hd1⟩ := xDu hd
 simp only [jC] at e2
 have w1 : IntKind.i64.wrap ((i : Int) + 1) = ((i + 1 : Nat) : Int) := xBo hi (by omega)
 simp only [w1, Int.toNat_natCast, hd, xCh hx]
 rw [if_pos (by omega)]
 unfold strings_HasPrefix zFU
 rw [jS, xC8, hL, hD, h34]
 simp only [jF]
 cases hp : Lib.hasPrefix (c :: l) [61, 61]
 · simp only [jF]
   rw [if_pos (by omega)]
   unfold strings_IndexByte zFV
   rw [jS]
   have ec : ((c.toNat : Int)).toNat.toUInt8 = c := by simp
   have w5 : List.drop i (List.take (i + 1) S) = [c] := by
    rw [List.drop_take, hd, show i + 1 - i = 1 from by omega]; rfl
   rw [ec, w5]
   refine ⟨_, rfl, ?_⟩
   unfold xKq
   cases decide (Lib.indexByte [40, 41, 91, 93, 44, 43, 45, 42, 60, 61] c ≥ 0)
   · rfl
   · show (_, _, _) = (_, _, _)
     rw [show i + 1 = S.length - l.length from by omega]
 · simp only [jT]
   refine ⟨_, rfl, ?_⟩
   have h2 : l.tail.length + 1 = l.length := by
    cases l with
    | nil => simp [Lib.hasPrefix, List.isPrefixOf] at hp
    | cons a b => rfl
   have w2 : IntKind.i64.wrap ((i : Int) + 2) = ((S.length - l.tail.length : Nat) : Int) := by rw [xBh (by omega) (by omega)]; omega
   show (_, _, _) = (_, _, _)
   rw [w2]
theorem xPp (hS : S.length ≤ 1000) (hN : 1000 < N) {i : Nat} {c : UInt8} {l : Str} (hd : S.drop i = c :: l) : ∃ x, xG0 N S i = some x ∧ LxP S (xH0 i (c :: l)) x := by
 obtain ⟨e1, e2⟩ := xFk hd
 obtain ⟨hi, hx, hd1⟩ := xDu hd
 have hQ := fun a b e => xUG (N := N) hS hN hd a b e
 have hY := fun a b e => vAM (N := N) hS hN hd a b e
 have word : xGn c = true → ∃ x, xCu N N S i i (Tok.mk 0 0 0 []) = some x ∧ LxP S (xH0 i (c :: l)) x := fun hl => by
  refine ⟨_, xRn hS _ N i (Nat.le_refl _) (by omega) (by omega), ?_⟩
  rw [hd]
  rw [xC8, hl, jT]
  have hq := xEK (p := isWd) (c :: l)
  rw [xJo hd (by omega) hq, show S.length - ((c :: l).dropWhile isWd).length - i = (c :: l).length - ((c :: l).dropWhile isWd).length from by omega]
  cases decide ((c :: l).length - ((c :: l).dropWhile isWd).length ≤ 8) <;> rfl
 have numb : xGn c = false → xCn c = true → ∃ x, xCO N N S i i (Tok.mk 0 0 0 []) = some x ∧ LxP S (xH0 i (c :: l)) x := fun hl hg => by
  refine ⟨_, xRJ hS _ N i (Nat.le_refl _) (by omega) (by omega), ?_⟩
  have hq := xEK (p := xCn) (c :: l)
  rw [hd]
  unfold numG
  rw [xC8, hl, hg, jT, jF, xJo hd (by omega) hq]
  cases hb : (zHZ ((c :: l).take ((c :: l).length - ((c :: l).dropWhile xCn).length)) 0 1000000000).2 <;> rfl
 unfold xG0
 rw [if_pos (by omega)]
 simp only [Int.toNat_natCast, xCh hx, xPD, xM1, xNz, xNA, xRu] at hQ hY ⊢
 simp only [xGn, xCn] at hQ hY word numb
 generalize decide (97 ≤ c.toNat) = A at *
 generalize decide (c.toNat ≤ 122) = B at *
 generalize decide (48 ≤ c.toNat) = C at *
 generalize decide (c.toNat ≤ 57) = D at *
 generalize (c.toNat == 34) = E at *
 cases A <;> cases B <;> cases C <;> cases D <;>
  first
  | exact word rfl
  | exact numb rfl rfl
  | (cases E
     · exact hY rfl rfl rfl
     · exact hQ rfl rfl rfl)
theorem xJF {α : Type} {b : Bool} {x y : α} (h : (bif b then some x else none) = some y) : b = true ∧ x = y := by cases b <;> cases h; exact ⟨rfl, rfl⟩
theorem xKf {p : Int} {s r : Str} {t : Tok} (h : xH0 p s = some (t, r)) : r.length < s.length := by
 cases s with
 | nil => cases h
 | cons c l =>
   have d1 := xEK (p := isWd) l
   have d2 := xEK (p := xCn) l
   have d3 := xEK (p := notQ) l
   rw [xC8] at h
   cases h1 : xGn c <;> rw [h1] at h
   · cases h2 : xCn c <;> rw [h2] at h
     · cases h3 : c.toNat == 34 <;> rw [h3] at h
       · cases h4 : Lib.hasPrefix (c :: l) [61, 61] <;> rw [h4] at h
         · cases h5 : xKq c <;> rw [h5] at h
           · cases h
           · cases h; simp
         · cases h; simp; omega
       · simp only [jT, jF] at h
         split at h
         · cases h
         · rename_i q r' he
           rw [he] at d3
           simp only [jC] at d3 ⊢
           obtain ⟨hb, hx⟩ := xJF h
           cases hx; omega
     · simp only [jT, jF] at h
       obtain ⟨hb, hx⟩ := xJF h
       cases hx
       rw [List.dropWhile_cons]; simp only [h2, if_true, jC]; omega
   · simp only [jT] at h
     obtain ⟨hb, hx⟩ := xJF h
     · cases hx
       have : isWd c = true := by unfold isWd; rw [h1]; rfl
       rw [List.dropWhile_cons]; simp only [this, if_true, jC]; omega
theorem xM5 {p : Int} {s r : Str} {t : Tok} (h : xH0 p s = some (t, r)) : r <:+ s := by
 cases s with
 | nil => cases h
 | cons c l =>
   rw [xC8] at h
   cases h1 : xGn c <;> rw [h1] at h
   · cases h2 : xCn c <;> rw [h2] at h
     · cases h3 : c.toNat == 34 <;> rw [h3] at h
       · cases h4 : Lib.hasPrefix (c :: l) [61, 61] <;> rw [h4] at h
         · cases h5 : xKq c <;> rw [h5] at h
           · cases h
           · cases h; exact List.suffix_cons _ _
         · cases h; exact (List.tail_suffix _).trans (List.suffix_cons _ _)
       · simp only [jT, jF] at h
         split at h
         · cases h
         · rename_i q r' he
           have hs : q :: r' <:+ l := by rw [← he]; exact List.dropWhile_suffix _
           obtain ⟨hb, hx⟩ := xJF h
           cases hx; exact ((List.suffix_cons _ _).trans hs).trans (List.suffix_cons _ _)
     · simp only [jT, jF] at h
       obtain ⟨hb, hx⟩ := xJF h
       cases hx
       exact List.dropWhile_suffix _
   · simp only [jT] at h
     obtain ⟨hb, hx⟩ := xJF h
     cases hx
     exact List.dropWhile_suffix _
theorem xOu {r : Str} (h : r <:+ S) : S.drop (S.length - r.length) = r := by
 obtain ⟨a, rfl⟩ := h
 rw [jA, show a.length + r.length - r.length = a.length from by omega, List.drop_left]
theorem xZI (hS : S.length ≤ 120) (hN : 1000 < N) : ∀ (m n i : Nat) (acc : List Tok), i ≤ S.length → S.length - i < m → S.length - i < n → acc.length ≤ 60 → xDQ N n S acc (i : Nat) = some (lexL m (i : Nat) acc (S.drop i)) := by
 intro m
 induction m with
 | zero => intro n i acc _ h; omega
 | succ m ih =>
   intro n i acc hi hm hn ha
   obtain ⟨n, rfl⟩ : ∃ k, n = k + 1 := ⟨n - 1, by omega⟩
   cases hd : S.drop i with
   | nil =>
     have := xHI hd
     obtain rfl : i = S.length := by omega
     simp only [xDQ, Int.lt_irrefl, decide_false, jF, lexL]
   | cons c l =>
     obtain ⟨h1, hx, hd1⟩ := xDu hd
     have hi' : (i : Int) < (S.length : Int) := by omega
     simp only [xDQ, decide_eq_true hi', jT, Int.toNat_natCast, xCh hx, xZK, lexL, xBo h1 (by omega : S.length ≤ _)]
     rw [if_pos (by omega)]
     cases h32 : c.toNat == 32
     · simp only [jF]
       obtain ⟨x, hx1, hx2⟩ := xPp (N := N) (S := S) (by omega) hN hd
       rw [hx1, jS]
       cases ho : xH0 i (c :: l) with
       | none =>
         rw [ho] at hx2
         have hx2 : x.2.2 = false := hx2
         simp only [hx2, Bool.not_false, jT]
       | some z =>
         obtain ⟨t, r⟩ := z
         rw [ho] at hx2
         have hx2 : x = (t, ((S.length - r.length : Nat) : Int), true) := hx2
         subst hx2
         have hl := xKf ho
         have hs : r <:+ S := by
          have : c :: l <:+ S := by rw [← hd]; exact List.drop_suffix _ _
          exact (xM5 ho).trans this
         have hrl := hs.length_le
         obtain ⟨g1, g2⟩ := xFk hd
         simp only [Bool.not_true, jF]
         have e60 : (((acc.length : Int) : Int) == 60) = (acc.length == 60) := beqI acc.length 60
         rw [e60]
         cases h60 : acc.length == 60
         · have h60 : acc.length ≠ 60 := beq_eq_false_iff_ne.1 h60
           simp only [jF]
           rw [if_pos (by simp only [jC, jN]; unfold Lim; omega)]
           rw [ih n (S.length - r.length) (acc ++ [t]) (by omega) (by omega) (by omega) (by simp only [jA, jC, jN]; omega), xOu hs]
           rw [show ((S.length - r.length : Nat) : Int) = (i : Int) + ((c :: l).length - r.length : Nat) from by omega]
         · rfl
     · simp only [jT]
       rw [ih n (i + 1) acc (by omega) (by omega) (by omega) ha, hd1]
       rfl
theorem xK6 (hN : 1000 < N) (s : Str) : xFJ N s = some (lex s) := by
 unfold xFJ lex
 have e : decide (((s.length : Int) : Int) > 120) = decide (s.length > 120) := decide_eq_decide.2 (by omega)
 rw [e]
 cases h : decide (s.length > 120)
 · have h := of_decide_eq_false h
   simp only [jF]
   exact xZI (S := s) (by omega) hN (s.length + 1) N 0 [] (by omega) (by omega) (by omega) (by simp)
 · rfl
end
end Go.Ab
end
section
namespace Go.Ab
def valD (acc : Nat) : Str → Nat
 | [] => acc
 | c :: r => valD (acc * 10 + (c.toNat - 48)) r
theorem xOn : ∀ (l : Str) (acc : Nat), acc ≤ valD acc l
 | [], acc => Nat.le_refl _
 | c :: r, acc => Nat.le_trans (by omega) (xOn r _)
theorem xLI : ∀ (a b : Str) (acc : Nat), valD acc (a ++ b) = valD (valD acc a) b
 | [], b, acc => rfl
 | c :: r, b, acc => xLI r b _
theorem xG1 {c : UInt8} : xCn c = true ↔ 48 ≤ c.toNat ∧ c.toNat ≤ 57 := by unfold xCn; rw [Bool.and_eq_true, decide_eq_true_eq, decide_eq_true_eq]
theorem xOT : ∀ (l : Str) (acc : Nat), l.all xCn = true → valD acc l < 1844674407370955162 → Lib.parseUint10 acc l = .ok (valD acc l)
 | [], acc, _, _ => rfl
 | c :: r, acc, hl, hv => by
   rw [List.all_cons, Bool.and_eq_true] at hl
   have hc := xG1.1 hl.1
   have h1 := xOn r (acc * 10 + (c.toNat - 48))
   have hv' : valD (acc * 10 + (c.toNat - 48)) r < 1844674407370955162 := hv
   show (if 48 ≤ c.toNat ∧ c.toNat ≤ 57 then _ else _) = _
   rw [if_pos hc, if_neg (by omega), if_neg (by omega)]
   exact xOT r _ hl.2 hv'
theorem xRy (k : Nat) (h : k < 10) : (UInt8.ofNat (48 + k)).toNat = 48 + k := by
 rw [UInt8.toNat_ofNat']; omega
theorem xRx : ∀ n : Nat, (dd n).all xCn = true ∧ valD 0 (dd n) = n := by
 intro n
 induction n using Nat.strongRecOn with
 | _ n ih =>
   by_cases h : n = 0
   · subst h; exact ⟨rfl, rfl⟩
   · obtain ⟨h1, h2⟩ := ih (n / 10) (by omega)
     have hd := xRy (n % 10) (by omega)
     rw [xNx h, List.all_append, h1, xLI, h2]
     refine ⟨?_, ?_⟩
     · simp only [List.all_cons, List.all_nil, Bool.and_true, Bool.true_and]
       exact xG1.2 (by omega)
     · show n / 10 * 10 + ((UInt8.ofNat (48 + n % 10)).toNat - 48) = n
       rw [hd]; omega
theorem xKu {v : Nat} (h : v ≤ 1000000000) : (Lib.itoa v).all xCn = true ∧ valD 0 (Lib.itoa v) = v ∧ (Lib.itoa v).length ≤ 10 ∧ Lib.itoa v ≠ [] := by
 by_cases h0 : v = 0
 · subst h0
   have e : Lib.itoa ((0 : Nat) : Int) = [48] := by
    show Lib.decDigits 0 = [48]
    rw [Lib.decDigits, dif_pos (by omega)]; rfl
   rw [e]; exact ⟨rfl, rfl, by decide, by decide⟩
 · have e : Lib.itoa (v : Int) = dd v := by
    rw [xNG (by omega), decide_eq_false (by omega)]; rfl
   obtain ⟨h1, h2⟩ := xRx v
   rw [e]
   refine ⟨h1, h2, xUR 10 v (by omega), fun he => ?_⟩
   rw [he] at h2
   exact h0 h2.symm
theorem xRr {w : Str} (h1 : w.all xCn = true) (h2 : w ≠ []) (h3 : valD 0 w < 1844674407370955162) : Lib.atoiAll w = .ok (valD 0 w) := by
 cases w with
 | nil => exact absurd rfl h2
 | cons c r =>
   have hc := h1
   rw [List.all_cons, Bool.and_eq_true] at hc
   have hc := xG1.1 hc.1
   unfold Lib.atoiAll
   have e1 : ¬ (c.toNat = 43 ∨ c.toNat = 45) := by omega
   have e2 : ¬ c.toNat = 45 := by omega
   simp only [if_neg e1]
   unfold Lib.parseMag
   rw [if_neg h2, xOT _ 0 h1 h3]
   simp only [e2, not_false_eq_true, true_and, false_and, if_false]
   rw [if_neg (by omega)]
theorem xJs {v : Nat} (h : v ≤ 1000000000) : zHZ (Lib.itoa v) 0 1000000000 = ((v : Int), true) := by
 obtain ⟨h1, h2, h3, h4⟩ := xKu h
 unfold zHZ
 rw [xRr h1 h4 (by rw [h2]; omega), h2]
 simp only
 rw [if_neg (by omega), if_neg (by omega)]
 first
 | exact if_pos rfl
 | exact if_pos trivial
theorem xM8 {w : Str} (h : (zHZ w 0 1000000000).2 = true) : ∃ v : Nat, v ≤ 1000000000 ∧ w = Lib.itoa v := by
 unfold zHZ at h
 split at h
 · rename_i v hv
   split at h
   · cases h
   · split at h
     · cases h
     · split at h
       · rename_i h1 h2 h3
         exact ⟨v.toNat, by omega, by rw [show ((v.toNat : Nat) : Int) = v from by omega, h3]⟩
       · cases h
 · cases h
section
variable {N : Nat}
theorem u8d {c : UInt8} (h : xCn c = true) : IntKind.i64.wrap (IntKind.u8.wrap ((c.toNat : Int) - 48)) = ((c.toNat - 48 : Nat) : Int) := by
 have := xG1.1 h
 rw [xOo (by omega) (by omega), xBh (by omega) (by omega)]; omega
theorem xNi (w : Str) (hw : w.all xCn = true) (hl : w.length ≤ 12) (hN : 100 < N) : ∀ n, w.length < n → xDd N n w false w 0 0 =
 (bif !(Lib.itoa ((valD 0 w : Nat) : Int) == w) then some (0, false) else some (((valD 0 w : Nat) : Int), true)) := by
 intro n hn
 have big : ∀ (l : Str) (acc k : Nat), l.all xCn = true → acc < 10 ^ k → valD acc l < 10 ^ (k + l.length) := by
  intro l
  induction l with
  | nil => intro acc k _ h; exact h
  | cons c r ih =>
    intro acc k hl h
    rw [List.all_cons, Bool.and_eq_true] at hl
    have hc := xG1.1 hl.1
    have := ih (acc * 10 + (c.toNat - 48)) (k + 1) hl.2 (by rw [Nat.pow_succ]; omega)
    show valD (acc * 10 + (c.toNat - 48)) r < _
    rw [jC, show k + (r.length + 1) = k + 1 + r.length from by omega]
    exact this
 have hb := big w 0 0 hw (by decide)
 have hb2 : valD 0 w < 10 ^ 12 := Nat.lt_of_lt_of_le hb (Nat.pow_le_pow_right (by omega) (by omega))
 have e12 : (10 : Nat) ^ 12 = 1000000000000 := by decide
 have key : ∀ n j (acc : Nat), j ≤ w.length → w.length < n + j → valD acc (w.drop j) = valD 0 w → xDd N n w false w (acc : Int) (j : Nat) =
  (bif !(Lib.itoa ((valD 0 w : Nat) : Int) == w) then some (0, false) else some (((valD 0 w : Nat) : Int), true)) := by
  intro n
  induction n with
  | zero => intro j acc h1 h2; omega
  | succ n ih =>
    intro j acc h1 h2 h3
    cases hd : w.drop j with
    | nil =>
      have := xHI hd
      obtain rfl : j = w.length := by omega
      rw [hd] at h3
      have h3 : acc = valD 0 w := h3
      simp only [xDd, Int.lt_irrefl, decide_false, jF]
      rw [xIj hN (by omega), jS, h3]
    | cons c r =>
      obtain ⟨g1, g2, g3⟩ := xDu hd
      have hc : xCn c = true := List.all_eq_true.1 hw c (List.mem_of_getElem? g2)
      have hc' := xG1.1 hc
      rw [hd] at h3
      have h3 : valD (acc * 10 + (c.toNat - 48)) r = valD 0 w := h3
      have h4 := xOn r (acc * 10 + (c.toNat - 48))
      have hj' : (j : Int) < (w.length : Int) := by omega
      have e1 : IntKind.i64.wrap (10 * (acc : Int)) = 10 * (acc : Int) := xBh (by omega) (by omega)
      have e2 : IntKind.i64.wrap (10 * (acc : Int) + ((c.toNat - 48 : Nat) : Int)) = ((acc * 10 + (c.toNat - 48) : Nat) : Int) := by rw [xBh (by omega) (by omega)]; omega
      simp only [xDd, decide_eq_true hj', jT, Int.toNat_natCast, xCh g2, u8d hc, e1, e2, xBo g1 (by omega : w.length ≤ _)]
      rw [if_pos (by omega), decide_eq_false (by omega), jF, decide_eq_false (by omega), jF]
      exact ih (j + 1) _ (by omega) (by omega) (by rw [g3]; exact h3)
 exact key n 0 0 (by omega) (by omega) rfl
theorem xK9 {w : Str} (hw : w.all xCn = true) (hne : w ≠ []) (hl : w.length ≤ 1000) (hN : 1000 < N) : ∃ n ok, xE7 N w = some (n, ok) ∧
 (ok && !decide (n > 1000000000)) = (zHZ w 0 1000000000).2 ∧ ((zHZ w 0 1000000000).2 = true → n = (zHZ w 0 1000000000).1) := by
 obtain ⟨c, r, rfl⟩ : ∃ c r, w = c :: r := by
  cases w with
  | nil => exact absurd rfl hne
  | cons c r => exact ⟨c, r, rfl⟩
 have hc := hw
 rw [List.all_cons, Bool.and_eq_true] at hc
 have hc' := xG1.1 hc.1
 have hlen : (c :: r).length = r.length + 1 := rfl
 have e45 : (((c.toNat : Int) : Int) == 45) = false := beq_eq_false_iff_ne.2 (by omega)
 have hr : xHC N (c :: r) 12 = (bif decide ((((c :: r).length : Int) : Int) > 12) then some (0, false) else xDd N N (c :: r) false (c :: r) 0 0) := by
  unfold xHC
  rw [decide_eq_true (by omega : (((c :: r).length : Int) : Int) > 0), jT, if_pos (by omega)]
  simp only [Int.toNat_zero, List.getD_cons_zero, e45, jF]
  rw [decide_eq_false (by omega : ¬ (((c :: r).length : Int) : Int) < 1), jF]
 unfold xE7
 rw [hr]
 by_cases hcan : (zHZ (c :: r) 0 1000000000).2 = true
 · obtain ⟨v, hv, he⟩ := xM8 hcan
   obtain ⟨p1, p2, p3, p4⟩ := xKu hv
   rw [← he] at p2 p3
   rw [decide_eq_false (by omega), jF, xNi _ hw (by omega) (by omega) N (by omega), p2, ← he]
   simp only [beq_self_eq_true, Bool.not_true, jF, jS]
   have hn : zHZ (c :: r) 0 1000000000 = ((v : Int), true) := by rw [he]; exact xJs hv
   refine ⟨(v : Int), true, rfl, ?_, fun _ => by rw [hn]⟩
   rw [hn, decide_eq_false (by omega)]; rfl
 · have hcan : (zHZ (c :: r) 0 1000000000).2 = false := by simpa using hcan
   rw [hcan]
   cases h12 : decide ((((c :: r).length : Int) : Int) > 12)
   · have h12 := of_decide_eq_false h12
     rw [jF, xNi _ hw (by omega) (by omega) N (by omega)]
     cases hi : Lib.itoa ((valD 0 (c :: r) : Nat) : Int) == c :: r
     · exact ⟨0, false, rfl, rfl, fun h => by cases h⟩
     · have hi := beq_iff_eq.1 hi
       have hbig : ¬ valD 0 (c :: r) ≤ 1000000000 := fun h => by
        have := xJs h
        rw [hi] at this
        rw [this] at hcan
        cases hcan
       exact ⟨_, true, rfl, by rw [decide_eq_true (by omega)]; rfl, fun h => by cases h⟩
   · exact ⟨0, false, rfl, rfl, fun h => by cases h⟩
theorem xLm (c : UInt8) : xFP N (c.toNat : Int) = some (xGn c) := by
 unfold xFP xGn
 rw [xPD, xM1]
 cases decide (97 ≤ c.toNat) <;> rfl
theorem xJ8 (c : UInt8) : xFE N (c.toNat : Int) = some (xCn c) := by
 unfold xFE xCn
 rw [xNz, xNA]
 cases decide (48 ≤ c.toNat) <;> rfl
variable {S : Str}
def xPq (S : Str) (i : Nat) (n6 p6 : Int) (l : Str) (p : UInt8 → Bool) : Tok × Int :=
 bif decide (S.length - (l.dropWhile p).length - i > 8) then (Tok.mk 1 n6 p6 (List.drop i (List.take (S.length - (l.dropWhile p).length) S)), 0) else (Tok.mk 1 n6 p6 (List.drop i (List.take (S.length - (l.dropWhile p).length) S)), ((S.length - (l.dropWhile p).length - i : Nat) : Int))
theorem xPo (hS : S.length ≤ 1000) {i : Nat} (b4 b6 : Tok) : ∀ n j, i ≤ j → j ≤ S.length → S.length < n + j → xDJ N n S i (j : Nat) b4 b6 = some (xPq S i b6.n b6.pos (S.drop j) isWd) := by
 intro n j hij hj hn
 have fin : ∀ j : Nat, i ≤ j → j ≤ S.length → (bif (decide (((IntKind.i64.wrap ((j : Int) - (i : Int))) : Int) > 8)) then (
       some ((Tok.mk 1 (Tok.n b6) (Tok.pos b6) (List.drop i (List.take j S))), (0 : Int))
  ) else (
    some ((Tok.mk 1 (Tok.n b6) (Tok.pos b6) (List.drop i (List.take j S))), (IntKind.i64.wrap ((j : Int) - (i : Int))))
  )) = some (bif decide (j - i > 8) then (Tok.mk 1 b6.n b6.pos (List.drop i (List.take j S)), 0) else (Tok.mk 1 b6.n b6.pos (List.drop i (List.take j S)), ((j - i : Nat) : Int))) := by
  intro j h1 h2
  have e1 : IntKind.i64.wrap ((j : Int) - (i : Int)) = ((j - i : Nat) : Int) := by rw [xBh (by omega) (by omega)]; omega
  rw [e1, decide_eq_decide.2 (by omega : ((j - i : Nat) : Int) > 8 ↔ j - i > 8)]
  cases decide (j - i > 8) <;> rfl
 refine xF8 (σ := Unit) (L := fun n j _ => xDJ N n S i j b4 b6) S (fun l _ => xPq S i b6.n b6.pos l isWd)
  (fun j _ => i ≤ j) (fun n _ hi => ?_) (fun j x l _ hd hj hx hi => ?_) n j () hij hj hn
 · have hi : i ≤ S.length := hi
   simp only [xDJ, Int.lt_irrefl, decide_false, jF]
   rw [if_pos (by omega)]
   simp only [Int.toNat_natCast, fin _ hi (Nat.le_refl _), xPq, List.dropWhile_nil, jN, Nat.sub_zero]
   rfl
 · have hi : i ≤ j := hi
   have hj' : (j : Int) < (S.length : Int) := by omega
   have hj2 : (0 : Int) ≤ (j : Int) ∧ (j : Int) < (S.length : Int) := ⟨by omega, hj'⟩
   have hj3 : (0 : Int) ≤ (i : Int) ∧ (i : Int) ≤ (j : Int) ∧ (j : Int) ≤ (S.length : Int) := by omega
   cases hw : isWd x
   · refine .inr fun n => ?_
     have e2 : (x :: l).dropWhile isWd = x :: l := by rw [List.dropWhile_cons]; simp [hw]
     have e3 := (xFk hd).1
     unfold isWd at hw
     rw [Bool.or_eq_false_iff] at hw
     simp only [xDJ, decide_eq_true hj', jT, jF, if_pos hj2, if_pos hj3, Int.toNat_natCast, xCh hx, xLm, xJ8, hw.1, hw.2, jS, fin _ hi (by omega : j ≤ S.length), xPq, e2, e3]
   · refine .inl ⟨(), by omega, ?_, fun n => ?_⟩
     · have e2 : (x :: l).dropWhile isWd = l.dropWhile isWd := by rw [List.dropWhile_cons]; simp [hw]
       simp only [xPq, e2]
     · unfold isWd at hw
       simp only [xDJ, decide_eq_true hj', jT, if_pos hj2, Int.toNat_natCast, xCh hx, xLm, xJ8, jS, xBo hj (by omega : S.length ≤ _)]
       cases h1 : xGn x
       · rw [h1, Bool.false_or] at hw
         rw [hw]; rfl
       · rfl
def LxS (s : Str) (o : Option (Tok × Str)) (x : Tok × Int) : Prop := match o with
 | some (t, r) => x = (t, ((s.length - r.length : Nat) : Int))
 | none => x.2 = 0
theorem xHj {p : UInt8 → Bool} {c : UInt8} (l : Str) (h : p c = true) : (c :: l).dropWhile p = l.dropWhile p := by rw [List.dropWhile_cons]; simp [h]
theorem xRa (hS : S.length ≤ 1000) (hN : 1000 < N) {i : Nat} {c : UInt8} {l0 : Str} (hd0 : S.drop i = c :: l0) (hc : xCn c = true) (hL : xGn c = false) (b4 : Tok) (p6 : Int) (hp : p6 = i) : ∀ n j, i < j → j ≤ S.length → S.length < n + j → (c :: l0).dropWhile xCn = (S.drop j).dropWhile xCn →
 ∃ x, xDm N n S i (j : Nat) b4 (Tok.mk 0 0 p6 []) = some x ∧ LxS (c :: l0) (xH0 i (c :: l0)) x := by
 obtain ⟨g1, g2⟩ := xFk hd0
 obtain ⟨gi, gx, gd⟩ := xDu hd0
 have hq := xEK (p := xCn) l0
 have hsame := xHj (p := xCn) l0 hc
 have fin : ∀ j : Nat, i < j → j ≤ S.length → S.length - j = ((c :: l0).dropWhile xCn).length → ∃ x, (Option.bind (xE7 N (List.drop i (List.take j S))) fun r2 =>
       bif (!r2.2) then (
        some ((Tok.mk 2 r2.1 p6 []), 0)
       ) else (
         bif (decide ((r2.1 : Int) > 1000000000)) then (
          some ((Tok.mk 2 r2.1 p6 []), 0)
         ) else (
           some ((Tok.mk 2 r2.1 p6 []), (IntKind.i64.wrap ((j : Int) - (i : Int))))
         )
       )) = some x ∧ LxS (c :: l0) (xH0 i (c :: l0)) x := by
  intro j h1 h2 h3
  have ew : List.drop i (List.take j S) = (c :: l0).take ((c :: l0).length - ((c :: l0).dropWhile xCn).length) := by
   have := xJo (S := S) (s := c :: l0) hd0 (by omega) (k := ((c :: l0).dropWhile xCn).length) (xEK _)
   rw [← this, show S.length - ((c :: l0).dropWhile xCn).length = j from by omega]
  have hall : ((c :: l0).take ((c :: l0).length - ((c :: l0).dropWhile xCn).length)).all xCn = true := by
   have : (c :: l0).take ((c :: l0).length - ((c :: l0).dropWhile xCn).length) = (c :: l0).takeWhile xCn := by
    have e := List.takeWhile_append_dropWhile (p := xCn) (l := c :: l0)
    have hl := congrArg List.length e
    rw [jA] at hl
    conv => lhs; arg 2; rw [← e]
    rw [show (c :: l0).length - ((c :: l0).dropWhile xCn).length = ((c :: l0).takeWhile xCn).length from by omega, List.take_left']
    rfl
   rw [this]
   exact List.all_takeWhile
  have hne : (c :: l0).take ((c :: l0).length - ((c :: l0).dropWhile xCn).length) ≠ [] := by
   intro he
   have := congrArg List.length he
   rw [List.length_take, hsame, jN] at this
   simp only [jC] at this
   omega
  obtain ⟨n, ok, e1, e2, e3⟩ := xK9 (N := N) hall hne (by rw [List.length_take]; simp only [jC] at g2 ⊢; omega) hN
  rw [ew, e1, jS, xC8, hL, hc]
  simp only [jT, jF]
  rw [← e2] at e3 ⊢
  have e4 : IntKind.i64.wrap ((j : Int) - (i : Int)) = (((c :: l0).length - ((c :: l0).dropWhile xCn).length : Nat) : Int) := by rw [xBh (by omega) (by omega)]; omega
  cases ok
  · exact ⟨_, rfl, rfl⟩
  · cases hb : decide (n > 1000000000)
    · rw [hb] at e3
      have e3 := e3 rfl
      refine ⟨_, rfl, ?_⟩
      show (_, _) = (_, _)
      rw [e4, ← e3, hp]
    · exact ⟨_, rfl, rfl⟩
 intro n
 induction n with
 | zero => intro j h1 h2 h3; omega
 | succ n ih =>
   intro j h1 h2 h3 h4
   cases hd : S.drop j with
   | nil =>
     have := xHI hd
     obtain rfl : j = S.length := by omega
     rw [hd] at h4
     simp only [xDm, Int.lt_irrefl, decide_false, jF]
     rw [if_pos (by omega)]
     simp only [Int.toNat_natCast]
     exact fin _ h1 h2 (by rw [h4]; simp)
   | cons x l =>
     obtain ⟨k1, k2, k3⟩ := xDu hd
     have hj' : (j : Int) < (S.length : Int) := by omega
     have hj2 : (0 : Int) ≤ (j : Int) ∧ (j : Int) < (S.length : Int) := ⟨by omega, hj'⟩
     have hj3 : (0 : Int) ≤ (i : Int) ∧ (i : Int) ≤ (j : Int) ∧ (j : Int) ≤ (S.length : Int) := by omega
     simp only [xDm, decide_eq_true hj', jT, if_pos hj2, if_pos hj3, Int.toNat_natCast, xCh k2, xJ8, jS, xBo k1 (by omega : S.length ≤ _)]
     cases hw : xCn x
     · have e2 : (x :: l).dropWhile xCn = x :: l := by rw [List.dropWhile_cons]; simp [hw]
       rw [hd, e2] at h4
       exact fin j h1 h2 (by rw [h4]; have := (xFk hd).2; omega)
     · have e2 : (x :: l).dropWhile xCn = l.dropWhile xCn := xHj l hw
       exact ih (j + 1) (by omega) (by omega) (by omega) (by rw [h4, hd, e2, k3])
theorem xZE (hS : S.length ≤ 1000) (hN : 1000 < N) {i : Nat} {c : UInt8} {l0 : Str} (hd0 : S.drop i = c :: l0) (h34 : (c.toNat == 34) = true) (hD : xCn c = false) (hL : xGn c = false) (b4 : Tok) (p6 : Int) (hp : p6 = i) : ∀ n j, i < j → j ≤ S.length → S.length < n + j → l0.dropWhile notQ = (S.drop j).dropWhile notQ →
 ∃ x, xE1 N n S i (j : Nat) b4 (Tok.mk 0 0 p6 []) = some x ∧ LxS (c :: l0) (xH0 i (c :: l0)) x := by
 obtain ⟨g1, g2⟩ := xFk hd0
 obtain ⟨gi, gx, gd⟩ := xDu hd0
 have hq := xEK (p := notQ) l0
 simp only [jC] at g1 g2
 have w1 : IntKind.i64.wrap ((i : Int) + 1) = ((i + 1 : Nat) : Int) := xBo gi (by omega)
 intro n
 induction n with
 | zero => intro j h1 h2 h3; omega
 | succ n ih =>
   intro j h1 h2 h3 h4
   cases hd : S.drop j with
   | nil =>
     have := xHI hd
     obtain rfl : j = S.length := by omega
     rw [hd] at h4
     simp only [xE1, Int.lt_irrefl, decide_false, jF, w1]
     rw [if_pos (by omega)]
     simp only [beq_self_eq_true, jT]
     refine ⟨_, rfl, ?_⟩
     rw [xC8, hL, hD, h34, h4]
     rfl
   | cons x l =>
     obtain ⟨k1, k2, k3⟩ := xDu hd
     have hj' : (j : Int) < (S.length : Int) := by omega
     have hj2 : (0 : Int) ≤ (j : Int) ∧ (j : Int) < (S.length : Int) := ⟨by omega, hj'⟩
     have hj3 : (0 : Int) ≤ ((i + 1 : Nat) : Int) ∧ ((i + 1 : Nat) : Int) ≤ (j : Int) ∧ (j : Int) ≤ (S.length : Int) := by omega
     simp only [xE1, decide_eq_true hj', jT, if_pos hj2, w1, if_pos hj3, Int.toNat_natCast, xCh k2, bne, xRu, xBo k1 (by omega : S.length ≤ _)]
     cases hw : x.toNat == 34
     · have e2 : (x :: l).dropWhile notQ = l.dropWhile notQ := xHj l (by unfold notQ; rw [hw]; rfl)
       exact ih (j + 1) (by omega) (by omega) (by omega) (by rw [h4, hd, e2, k3])
     · have e2 : (x :: l).dropWhile notQ = x :: l := by rw [List.dropWhile_cons]; simp [notQ, hw]
       rw [hd, e2] at h4
       rw [h4] at hq
       simp only [jC] at hq
       have hjl := (xFk hd).2
       simp only [jC] at hjl
       have ew : List.drop (i + 1) (List.take j S) = l0.take (l0.length - (x :: l).length) := by
        have := xJo (S := S) (s := l0) gd (by omega) (k := (x :: l).length) (by simp only [jC]; omega)
        rw [← this, show S.length - (x :: l).length = j from by simp only [jC]; omega]
       have ht : (l0.take (l0.length - (x :: l).length)).length ≤ 1000 := by rw [List.length_take]; omega
       have ne : ((j : Int) == (S.length : Int)) = false := beq_eq_false_iff_ne.2 (by omega)
       have e4 : IntKind.i64.wrap (((j + 1 : Nat) : Int) - (i : Int)) = (((c :: l0).length - l.length : Nat) : Int) := by rw [xBh (by omega) (by omega)]; simp only [jC]; omega
       simp only [Bool.not_true, jF, ne, ew]
       rw [xGe (N := N) (by omega) (by omega), jS, xC8, hL, hD, h34, h4]
       simp only [jT, jF]
       cases xHe (l0.take (l0.length - (x :: l).length))
       · exact ⟨_, rfl, rfl⟩
       · refine ⟨_, rfl, ?_⟩
         show (_, _) = (_, _)
         rw [e4, hp]
theorem xND (c : UInt8) : ∀ l : Str, decide (Lib.indexByte l c ≥ 0) = l.any fun b => b.toNat == c.toNat
 | [] => rfl
 | b :: l => by
   have ih := xND c l
   have h1 := Lib.indexByte_ge l c
   have e : Lib.indexByte (b :: l) c = if b == c then 0 else if Lib.indexByte l c == -1 then -1 else Lib.indexByte l c + 1 := rfl
   rw [List.any_cons, ← ih, e, xMP b c]
   cases b.toNat == c.toNat
   · simp only [Bool.false_eq_true, if_false, Bool.false_or]
     by_cases h : Lib.indexByte l c = -1
     · rw [h]; rfl
     · rw [show (Lib.indexByte l c == -1) = false from beq_eq_false_iff_ne.2 h]
       simp only [Bool.false_eq_true, if_false]
       rw [decide_eq_true (by omega), decide_eq_true (by omega)]
   · rfl
theorem beqc (c : UInt8) (k : Nat) : (((c.toNat : Int) : Int) == (k : Int)) = (c.toNat == k) := beqI c.toNat k
def xM2 : Str → Bool
 | [] => false
 | d :: _ => 61 == d.toNat
def symN (c : UInt8) (l : Str) : Nat := bif Lib.hasPrefix (c :: l) [61, 61] then 2 else bif xKq c then 1 else 0
theorem xRg (hS : S.length ≤ 1000) {i : Nat} {c : UInt8} {l : Str} (hd : S.drop i = c :: l) : xGz N S i = some ((symN c l : Nat) : Int) := by
 obtain ⟨g1, g2⟩ := xFk hd
 obtain ⟨gi, gx, gd⟩ := xDu hd
 have w1 : IntKind.i64.wrap ((i : Int) + 1) = ((i + 1 : Nat) : Int) := xBo gi (by omega)
 have hok : xKq c = (40 == c.toNat || (41 == c.toNat || (91 == c.toNat || (93 == c.toNat || (44 == c.toNat || (43 == c.toNat || (45 == c.toNat || (42 == c.toNat || (60 == c.toNat || (61 == c.toNat || false)))))))))) := by
  unfold xKq; rw [xND]; rfl
 have hpre : Lib.hasPrefix (c :: l) [61, 61] = (61 == c.toNat && xM2 l) := by
  unfold Lib.hasPrefix
  cases l with
  | nil => simp [List.isPrefixOf, xM2]
  | cons d r =>
    simp only [List.isPrefixOf, xMP, Bool.and_true, xM2]; rfl
 have b (k : Nat) : (c.toNat == k) = (k == c.toNat) := by
  by_cases h : c.toNat = k
  · rw [h]
  · rw [beq_eq_false_iff_ne.2 h, beq_eq_false_iff_ne.2 (fun e => h e.symm)]
 unfold xGz
 rw [if_pos (by omega)]
 have k40 := (beqc c 40).trans (b 40); have k41 := (beqc c 41).trans (b 41); have k91 := (beqc c 91).trans (b 91); have k93 := (beqc c 93).trans (b 93); have k44 := (beqc c 44).trans (b 44)
 have k43 := (beqc c 43).trans (b 43); have k45 := (beqc c 45).trans (b 45); have k42 := (beqc c 42).trans (b 42); have k60 := (beqc c 60).trans (b 60); have k61 := (beqc c 61).trans (b 61)
 simp only [Int.toNat_natCast, xCh gx, w1]
 unfold symN
 rw [hok, hpre]
 have no61 : ∀ k : Nat, k ≠ 61 → (k == c.toNat) = true → (61 == c.toNat) = false := fun k hk h => beq_eq_false_iff_ne.2 fun e => hk ((beq_iff_eq.1 h).trans e.symm)
 have fin : (bif (decide (((i + 1 : Nat) : Int) < (List.length S : Int))) then (
                   if (0 : Int) ≤ ((i + 1 : Nat) : Int) ∧ ((i + 1 : Nat) : Int) < (List.length S) then
                   bif ((((List.getD S (i + 1) 0).toNat : Int) : Int) == 61) then (
                    some (2 : Int)
                   ) else (
                     some 1
                   )
                   else none
                   ) else (
                     some 1
                   )) = some (((bif xM2 l then 2 else 1 : Nat)) : Int) := by
  cases l with
  | nil =>
    simp only [jC, jN] at g2
    rw [decide_eq_false (by omega)]; rfl
  | cons d r =>
    simp only [jC] at g2
    obtain ⟨ji, jx, jd⟩ := xDu gd
    rw [decide_eq_true (by omega), jT, if_pos (by omega), xCh jx]
    have bd : (((d.toNat : Int) : Int) == 61) = (61 == d.toNat) := (beqI d.toNat 61).trans (by
     by_cases h : d.toNat = 61
     · rw [h]
     · rw [beq_eq_false_iff_ne.2 h, beq_eq_false_iff_ne.2 (fun e => h e.symm)])
    rw [bd, show xM2 (d :: r) = (61 == d.toNat) from rfl]
    cases (61 == d.toNat) <;> rfl
 rw [fin]
 have k40 : (((c.toNat : Int) : Int) == 40) = (40 == c.toNat) := k40
 have k41 : (((c.toNat : Int) : Int) == 41) = (41 == c.toNat) := k41
 have k91 : (((c.toNat : Int) : Int) == 91) = (91 == c.toNat) := k91
 have k93 : (((c.toNat : Int) : Int) == 93) = (93 == c.toNat) := k93
 have k44 : (((c.toNat : Int) : Int) == 44) = (44 == c.toNat) := k44
 have k43 : (((c.toNat : Int) : Int) == 43) = (43 == c.toNat) := k43
 have k45 : (((c.toNat : Int) : Int) == 45) = (45 == c.toNat) := k45
 have k42 : (((c.toNat : Int) : Int) == 42) = (42 == c.toNat) := k42
 have k60 : (((c.toNat : Int) : Int) == 60) = (60 == c.toNat) := k60
 have k61 : (((c.toNat : Int) : Int) == 61) = (61 == c.toNat) := k61
 rw [k40, k41, k91, k93, k44, k43, k45, k42, k60, k61]
 cases h1 : (40 == c.toNat)
 · cases h2 : (41 == c.toNat)
   · cases h3 : (91 == c.toNat)
     · cases h4 : (93 == c.toNat)
       · cases h5 : (44 == c.toNat)
         · cases h6 : (43 == c.toNat)
           · cases h7 : (45 == c.toNat)
             · cases h8 : (42 == c.toNat)
               · cases h9 : (60 == c.toNat)
                 · cases h10 : (61 == c.toNat)
                   · rfl
                   · simp only [jF, jT, Bool.true_and, Bool.or_true, Bool.false_or, Bool.true_or]
                 · rw [no61 60 (by decide) h9]; rfl
               · rw [no61 42 (by decide) h8]; rfl
             · rw [no61 45 (by decide) h7]; rfl
           · rw [no61 43 (by decide) h6]; rfl
         · rw [no61 44 (by decide) h5]; rfl
       · rw [no61 93 (by decide) h4]; rfl
     · rw [no61 91 (by decide) h3]; rfl
   · rw [no61 41 (by decide) h2]; rfl
 · rw [no61 40 (by decide) h1]; rfl
theorem xVc (hS : S.length ≤ 1000) (hN : 1000 < N) {i : Nat} {c : UInt8} {l : Str} (hd : S.drop i = c :: l) : ∃ x, xHE N S i = some x ∧ LxS (c :: l) (xH0 i (c :: l)) x := by
 obtain ⟨e1, e2⟩ := xFk hd
 obtain ⟨hi, hx, hd1⟩ := xDu hd
 simp only [jC] at e1 e2
 have w1 : IntKind.i64.wrap ((i : Int) + 1) = ((i + 1 : Nat) : Int) := xBo hi (by omega)
 unfold xHE
 rw [if_pos (by omega)]
 simp only [Int.toNat_natCast, xCh hx, xLm, xJ8, jS, xRu, w1]
 cases hL : xGn c
 · cases hD : xCn c
   · cases h34 : c.toNat == 34
     · simp only [jF]
       rw [xRg hS hd, jS]
       have hle : symN c l ≤ (c :: l).length := by
        unfold symN
        cases hp : Lib.hasPrefix (c :: l) [61, 61]
        · cases xKq c <;> simp
        · have : 2 ≤ (c :: l).length := by
           cases l with
           | nil => simp [Lib.hasPrefix, List.isPrefixOf] at hp
           | cons a b => simp
          simpa using this
       simp only [jC] at hle
       have s2 : symN c l ≤ 2 := by
        unfold symN
        cases Lib.hasPrefix (c :: l) [61, 61] <;> cases xKq c <;> simp
       have v1 : IntKind.i64.wrap ((i : Int) + ((symN c l : Nat) : Int)) = ((i + symN c l : Nat) : Int) := by rw [xBh (by omega) (by omega)]; omega
       have v2 : IntKind.i64.wrap (((i + symN c l : Nat) : Int) - (i : Int)) = ((symN c l : Nat) : Int) := by rw [xBh (by omega) (by omega)]; omega
       have v3 : List.drop i (List.take (i + symN c l) S) = (c :: l).take (symN c l) := by rw [List.drop_take, hd, show i + symN c l - i = symN c l from by omega]
       simp only [v1, v2, Int.toNat_natCast, v3]
       rw [if_pos (by omega), xC8, hL, hD, h34]
       refine ⟨_, rfl, ?_⟩
       simp only [jF]
       unfold symN at s2 ⊢
       cases hp : Lib.hasPrefix (c :: l) [61, 61]
       · cases xKq c
         · rfl
         · show (_, _) = (_, _)
           simp
       · have h2 : l.tail.length + 1 = l.length := by
          cases l with
          | nil => simp [Lib.hasPrefix, List.isPrefixOf] at hp
          | cons a b => rfl
         have h3 : (c :: l).take 2 = [61, 61] := by
          cases l with
          | nil => simp [Lib.hasPrefix, List.isPrefixOf] at hp
          | cons a b =>
            simp only [Lib.hasPrefix, List.isPrefixOf, Bool.and_eq_true, beq_iff_eq] at hp
            obtain ⟨rfl, rfl, _⟩ := hp
            rfl
         show (_, _) = (_, _)
         simp only [jT, h3, jC]
         rw [show l.length + 1 - l.tail.length = 2 from by omega]
     · exact xZE hS hN hd h34 hD hL _ _ rfl N (i + 1) (by omega) (by omega) (by omega) (by rw [hd1])
   · simp only [jT, jF]
     obtain ⟨n, rfl⟩ : ∃ n, N = n + 1 := ⟨N - 1, by omega⟩
     have hj' : (i : Int) < (S.length : Int) := by omega
     have hj2 : (0 : Int) ≤ (i : Int) ∧ (i : Int) < (S.length : Int) := ⟨by omega, hj'⟩
     have step : xDm (n + 1) (n + 1) S i i (Tok.mk 0 0 0 []) (Tok.mk 0 0 i []) = xDm (n + 1) n S i ((i + 1 : Nat) : Int) (Tok.mk 0 0 0 []) (Tok.mk 0 0 i []) := by
      simp only [xDm, decide_eq_true hj', jT, if_pos hj2, Int.toNat_natCast, xCh hx, xJ8, jS, hD, w1]
     rw [step]
     exact xRa hS hN hd hD hL _ _ rfl n (i + 1) (by omega) (by omega) (by omega) (by rw [hd1, xHj l hD])
 · simp only [jT]
   have hw : isWd c = true := by unfold isWd; rw [hL]; rfl
   have hq := xEK (p := isWd) (c :: l)
   have hq2 := xEK (p := isWd) l
   refine ⟨_, xPo hS _ _ N i (Nat.le_refl _) (by omega) (by omega), ?_⟩
   rw [hd, xC8, hL, jT]
   unfold xPq
   have h0 := xHj l hw
   simp only [jC] at hq
   rw [xJo hd (by omega) (by simp only [jC]; omega), show S.length - ((c :: l).dropWhile isWd).length - i = (c :: l).length - ((c :: l).dropWhile isWd).length from by simp only [jC]; omega]
   by_cases h8 : (c :: l).length - ((c :: l).dropWhile isWd).length ≤ 8
   · rw [decide_eq_true h8, decide_eq_false (by omega)]; rfl
   · rw [decide_eq_false h8, decide_eq_true (by omega)]; rfl
theorem xUM (hS : S.length ≤ 120) (hN : 1000 < N) : ∀ (m n i : Nat) (acc : List Tok), i ≤ S.length → S.length - i < m → S.length - i < n → acc.length ≤ 60 → xDT N n S acc (i : Nat) = some (lexL m (i : Nat) acc (S.drop i)) := by
 intro m
 induction m with
 | zero => intro n i acc _ h; omega
 | succ m ih =>
   intro n i acc hi hm hn ha
   obtain ⟨n, rfl⟩ : ∃ k, n = k + 1 := ⟨n - 1, by omega⟩
   cases hd : S.drop i with
   | nil =>
     have := xHI hd
     obtain rfl : i = S.length := by omega
     simp only [xDT, Int.lt_irrefl, decide_false, jF, lexL]
   | cons c l =>
     obtain ⟨h1, hx, hd1⟩ := xDu hd
     have hi' : (i : Int) < (S.length : Int) := by omega
     simp only [xDT, decide_eq_true hi', jT, Int.toNat_natCast, xCh hx, xZK, lexL, xBo h1 (by omega : S.length ≤ _)]
     rw [if_pos (by omega)]
     cases h32 : c.toNat == 32
     · simp only [jF]
       obtain ⟨x, hx1, hx2⟩ := xVc (N := N) (S := S) (by omega) hN hd
       rw [hx1, jS]
       cases ho : xH0 i (c :: l) with
       | none =>
         rw [ho] at hx2
         have hx2 : x.2 = 0 := hx2
         simp only [hx2, beq_self_eq_true, jT]
       | some z =>
         obtain ⟨t, r⟩ := z
         rw [ho] at hx2
         have hx2 : x = (t, (((c :: l).length - r.length : Nat) : Int)) := hx2
         subst hx2
         have hl := xKf ho
         have hs : r <:+ S := by
          have : c :: l <:+ S := by rw [← hd]; exact List.drop_suffix _ _
          exact (xM5 ho).trans this
         have hrl := hs.length_le
         obtain ⟨g1, g2⟩ := xFk hd
         have ne0 : ((((c :: l).length - r.length : Nat) : Int) == 0) = false := beq_eq_false_iff_ne.2 (by omega)
         have v1 : IntKind.i64.wrap ((i : Int) + (((c :: l).length - r.length : Nat) : Int)) = ((S.length - r.length : Nat) : Int) := by rw [xBh (by omega) (by omega)]; omega
         have e60 : (((acc.length : Int) : Int) == 60) = (acc.length == 60) := beqI acc.length 60
         simp only [ne0, jF, e60, v1]
         cases h60 : acc.length == 60
         · have h60 : acc.length ≠ 60 := beq_eq_false_iff_ne.1 h60
           simp only [jF]
           rw [if_pos (by simp only [jC, jN]; unfold Lim; omega)]
           rw [ih n (S.length - r.length) (acc ++ [t]) (by omega) (by omega) (by omega) (by simp only [jA, jC, jN]; omega), xOu hs]
           rw [show ((S.length - r.length : Nat) : Int) = (i : Int) + ((c :: l).length - r.length : Nat) from by omega]
         · rfl
     · simp only [jT]
       rw [ih n (i + 1) acc (by omega) (by omega) (by omega) ha, hd1]
       rfl
theorem xIK (hN : 1000 < N) (s : Str) : xE8 N s = some (lex s) := by
 unfold xE8 lex
 have e : decide (((s.length : Int) : Int) > 120) = decide (s.length > 120) := decide_eq_decide.2 (by omega)
 rw [e]
 cases h : decide (s.length > 120)
 · have h := of_decide_eq_false h
   simp only [jF]
   exact xUM (S := s) (by omega) hN (s.length + 1) N 0 [] (by omega) (by omega) (by omega) (by simp)
 · rfl
end
end Go.Ab
end
section
namespace Go.Ab
structure TokG (t : Tok) : Prop where
 kind : I64 t.kind
 n : I64 t.n
 pos : 0 ≤ t.pos ∧ t.pos ≤ 120
 len : t.text.length ≤ 120
 name : t.kind = 1 → ∃ (c : UInt8) (l : Str), t.text = c :: l ∧ 97 ≤ c.toNat
 sym : t.kind = 4 → ∃ (c : UInt8) (l : Str), t.text = c :: l ∧ c.toNat < 97
theorem xUO {c : UInt8} (h : xKq c = true) : c.toNat < 97 := by
 unfold xKq at h
 rw [xND] at h
 simp only [List.any_cons, List.any_nil, Bool.or_eq_true, beq_iff_eq, Bool.or_false] at h
 have e : ∀ k : UInt8, k.toNat < 97 → k.toNat = c.toNat → c.toNat < 97 := fun k h1 h2 => by omega
 rcases h with h | h | h | h | h | h | h | h | h | h <;> exact e _ (by decide) h
theorem xRj {c : UInt8} {l : Str} {k : Nat} (h : 0 < k) : ∃ r, (c :: l).take k = c :: r := by
 obtain ⟨k, rfl⟩ : ∃ m, k = m + 1 := ⟨k - 1, by omega⟩
 exact ⟨l.take k, rfl⟩
theorem xPe {p : Int} {s r : Str} {t : Tok} (hp : 0 ≤ p ∧ p ≤ 120) (hs : s.length ≤ 120) (h : xH0 p s = some (t, r)) : TokG t := by
 cases s with
 | nil => cases h
 | cons c l =>
   have d1 := xEK (p := isWd) l
   rw [xC8] at h
   cases h1 : xGn c <;> rw [h1] at h
   · cases h2 : xCn c <;> rw [h2] at h
     · cases h3 : c.toNat == 34 <;> rw [h3] at h
       · cases h4 : Lib.hasPrefix (c :: l) [61, 61] <;> rw [h4] at h
         · obtain ⟨hb, hx⟩ := xJF h
           cases hx
           exact ⟨xDn (x := 4) (by decide), xDn (x := 0) (by decide), hp, by simp, (fun h => by have h : (4 : Int) = 1 := h; omega), fun _ => ⟨c, [], rfl, xUO hb⟩⟩
         · cases h
           exact ⟨xDn (x := 4) (by decide), xDn (x := 0) (by decide), hp, by simp, (fun h => by have h : (4 : Int) = 1 := h; omega), fun _ => ⟨61, [61], rfl, by decide⟩⟩
       · simp only [jT, jF] at h
         split at h
         · cases h
         · rename_i q r' he
           obtain ⟨hb, hx⟩ := xJF h
           cases hx
           simp only [jC] at hs
           refine ⟨xDn (by show (0 : Int) ≤ 3 ∧ (3 : Int) ≤ 1000; decide), xDn (by show (0 : Int) ≤ 0 ∧ (0 : Int) ≤ 1000; decide), hp, ?_, fun h => ?_, fun h => ?_⟩
           · show (l.take _).length ≤ 120
             rw [List.length_take]; omega
           · have h : (3 : Int) = 1 := h
             omega
           · have h : (3 : Int) = 4 := h
             omega
     · simp only [jT, jF] at h
       obtain ⟨hb, hx⟩ := xJF h
       cases hx
       obtain ⟨v, hv, he⟩ := xM8 hb
       have hn := xJs hv
       rw [← he] at hn
       refine ⟨xDn (by show (0 : Int) ≤ 2 ∧ (2 : Int) ≤ 1000; decide), ?_, hp, by simp, fun h => ?_, fun h => ?_⟩
       · show I64 (zHZ _ 0 1000000000).1
         rw [hn]; unfold I64; omega
       · have h : (2 : Int) = 1 := h
         omega
       · have h : (2 : Int) = 4 := h
         omega
   · simp only [jT] at h
     obtain ⟨hb, hx⟩ := xJF h
     cases hx
     have hw : isWd c = true := by unfold isWd; rw [h1]; rfl
     rw [xHj l hw]
     simp only [jC] at hs
     obtain ⟨r, hr⟩ := xRj (c := c) (l := l) (k := (c :: l).length - (l.dropWhile isWd).length) (by simp only [jC]; omega)
     refine ⟨xDn (by show (0 : Int) ≤ 1 ∧ (1 : Int) ≤ 1000; decide), xDn (by show (0 : Int) ≤ 0 ∧ (0 : Int) ≤ 1000; decide), hp, ?_, fun _ => ⟨c, r, hr, ?_⟩, fun h => ?_⟩
     · show ((c :: l).take _).length ≤ 120
       rw [List.length_take]; simp only [jC]; omega
     · unfold xGn at h1
       simp only [Bool.and_eq_true, decide_eq_true_eq] at h1
       exact h1.1
     · have h : (1 : Int) = 4 := h
       omega
theorem xPR : ∀ (n : Nat) (p : Int) (acc : List Tok) (s : Str), 0 ≤ p → p + s.length ≤ 120 → acc.length ≤ 60 → (∀ t ∈ acc, TokG t) → (∀ t ∈ (lexL n p acc s).1, TokG t) ∧ (lexL n p acc s).1.length ≤ 60 ∧ ((lexL n p acc s).2 = -1 ∨ (0 ≤ (lexL n p acc s).2 ∧ (lexL n p acc s).2 ≤ p + s.length)) := by
 intro n
 induction n with
 | zero => intro p acc s h1 h2 _ _; exact ⟨(fun t ht => by cases ht), by simp [lexL], .inr (by simp only [lexL]; omega)⟩
 | succ n ih =>
   intro p acc s h1 h2 h3 h4
   cases s with
   | nil => exact ⟨h4, h3, .inl rfl⟩
   | cons c l =>
     simp only [lexL]
     cases c.toNat == 32
     · simp only [jF]
       have hl : (c :: l).length ≤ 120 := by simp only [jC] at h2 ⊢; omega
       cases ho : xH0 p (c :: l) with
       | none => exact ⟨(fun t ht => by cases ht), by simp, .inr (by simp only; omega)⟩
       | some z =>
         obtain ⟨t, r⟩ := z
         have hg := xPe (by omega) hl ho
         have hr := xKf ho
         simp only
         cases h60 : acc.length == 60
         · have h60 : acc.length ≠ 60 := beq_eq_false_iff_ne.1 h60
           simp only [jF]
           have := ih (p + ((c :: l).length - r.length : Nat)) (acc ++ [t]) r (by omega) (by omega) (by simp only [jA, jC, jN]; omega) (fun x hx => by
            rcases List.mem_append.1 hx with hx | hx
            · exact h4 x hx
            · rw [List.mem_singleton.1 hx]; exact hg)
           refine ⟨this.1, this.2.1, ?_⟩
           rcases this.2.2 with h | ⟨ha, hb⟩
           · exact .inl h
           · exact .inr ⟨ha, by omega⟩
         · exact ⟨(fun t ht => by cases ht), by simp, .inr (by simp only [jT]; omega)⟩
     · simp only [jT]
       simp only [jC] at h2
       have := ih (p + 1) acc l (by omega) (by omega) h3 h4
       refine ⟨this.1, this.2.1, ?_⟩
       rcases this.2.2 with h | ⟨ha, hb⟩
       · exact .inl h
       · exact .inr ⟨ha, by simp only [jC]; omega⟩
theorem xRE (s : Str) : (∀ t ∈ (lex s).1, TokG t) ∧ (lex s).1.length ≤ 60 ∧ ((lex s).2 = -1 ∨ (0 ≤ (lex s).2 ∧ (lex s).2 ≤ s.length)) := by
 unfold lex
 cases h : decide (s.length > 120)
 · have h := of_decide_eq_false h
   have := xPR (s.length + 1) 0 [] s (by omega) (by omega) (by simp) (fun t ht => by cases ht)
   refine ⟨this.1, this.2.1, ?_⟩
   rcases this.2.2 with h | ⟨ha, hb⟩
   · exact .inl h
   · exact .inr ⟨ha, by simp only [jF]; omega⟩
 · have h := of_decide_eq_true h
   exact ⟨(fun t ht => by cases ht), by simp, .inr (by simp only [jT]; omega)⟩
theorem vAR : ∀ ts : List Tok, (∀ t ∈ ts, TokG t) → tw ts ≤ 123 * ts.length
 | [], _ => Nat.le_refl _
 | t :: r, h => by
   have h1 := (h t List.mem_cons_self).len
   have h2 := vAR r fun x hx => h x (List.mem_cons_of_mem _ hx)
   rw [xKR, jC]; omega
theorem vAP {T : List Tok} (h : ∀ t ∈ T, TokG t) (hl : T.length ≤ 60) : TokT 10000 T where
 len := by omega
 fit := fun t ht => ⟨(h t ht).kind, (h t ht).n, by have := (h t ht).pos; unfold I64; omega, Nat.le_trans (h t ht).len (by omega)⟩
 tw := by have := vAR T h; omega
theorem vAQ {T : List Tok} (h : ∀ t ∈ T, TokG t) {L : Int} (hL : 0 ≤ L) : TokW T L where
 pos := fun t ht => (h t ht).pos.1
 fin := hL
 name := fun t ht => (h t ht).name
 sym := fun t ht => (h t ht).sym
def xLx (L : Int) (T : List Tok) : Exp × Int := match pE (T.length + 1) T with
 | .err ts => (e0, offT L ts)
 | .ok e [] => bif xFG e then (e, -1) else (e0, 0)
 | .ok e (t :: _) => (e0, t.pos)
def xII (s : Str) : Exp × Int := bif decide ((lex s).2 ≥ 0) then (e0, (lex s).2) else xLx s.length (lex s).1
theorem xOf {T : List Tok} (hT : TokT 10000 T) {e : Exp} {r : List Tok} (h : pE (T.length + 1) T = .ok e r) : e.Fit 10000 ∧ e.size ≤ 10000 := by
 obtain ⟨⟨h1, h2⟩, _⟩ := xE6 (K := 10000) (T.length + 1) T e r hT.fit hT.tw h
 have := hT.tw
 exact ⟨h2, by omega⟩
theorem xU8 {T : List Tok} {t : Tok} {q : List Tok} (h : t :: q <:+ T) : T.length - (t :: q).length < T.length ∧ List.getD T (T.length - (t :: q).length) Ty.tok.dflt = t := by
 obtain ⟨pre, rfl⟩ := h
 have e : (pre ++ t :: q).length - (t :: q).length = pre.length := by rw [jA]; omega
 rw [e]
 exact ⟨by simp, by simp [List.getD]⟩
theorem xNE {N : Nat} {T : List Tok} {s : Str} (hT : TokT 10000 T) (hl : T.length ≤ 60) (hN : 20000 < N) (hv : ∀ e r, pE (T.length + 1) T = .ok e r → xCA N e = some (xFG e)) (ht : xFJ N s = some (T, -1)) :
 xDD N s = some (xLx s.length T) := by
 have hs := vAK (N := N) hT (by omega) (by omega) (by omega) (T.length + 1) N (by omega) T (List.suffix_refl T) (by omega)
 have hx : xF3 N (Psr.mk T 0 (-1)) = (xAa N N).c_impl_parser_expr (gp T T) := by
  unfold xF3 gp
  rw [Nat.sub_self]; rfl
 unfold xDD xLx
 rw [ht, jS]
 simp only [show decide ((-1 : Int) ≥ 0) = false from rfl, jF, hx]
 cases hp : pE (T.length + 1) T with
 | err ts =>
   rw [hp] at hs
   obtain ⟨a, p, h1, h2, h3, h4⟩ := hs
   rw [h1, jS]
   have hnn : 0 ≤ p.bad := by rw [h3]; omega
   rw [decide_eq_false (by omega : ¬ p.bad < 0), jF]
   have hle := h4.length_le
   cases ts with
   | nil => rw [decide_eq_true (by rw [h3]; simp : p.bad ≥ (T.length : Int)), jT]; rfl
   | cons t q =>
     obtain ⟨g1, g2⟩ := xU8 h4
     rw [decide_eq_false (by rw [h3]; omega), jF, decide_eq_true (by omega : p.bad ≥ 0), jT, if_pos (by rw [h3]; omega), h3, Int.toNat_natCast, g2]; rfl
 | ok e ts =>
   rw [hp] at hs
   obtain ⟨h1, h2⟩ := hs
   rw [h2, jS]
   rw [xPK, xNy, jT]
   cases ts with
   | nil =>
     have e1 : decide ((gp T []).pos < (T.length : Int)) = false := decide_eq_false (by simp [gp])
     rw [e1, jF, decide_eq_false (by omega : ¬ (-1 : Int) ≥ (T.length : Int)), jF]
     rw [show decide ((-1 : Int) ≥ 0) = false from rfl, jF, hv e [] hp, jS]
     show _ = some (bif xFG e then (e, -1) else (e0, 0))
     cases xFG e <;> rfl
   | cons t q =>
     obtain ⟨g1, g2⟩ := xU8 h1
     have e1 : (gp T (t :: q)).pos = ((T.length - (t :: q).length : Nat) : Int) := rfl
     rw [e1, decide_eq_true (by omega), jT, decide_eq_false (by omega), jF, decide_eq_true (by omega), jT, if_pos (by omega), Int.toNat_natCast, g2]
theorem xOk {N : Nat} {T : List Tok} {s : Str} (hT : TokT 10000 T) (hW : TokW T s.length) (hl : T.length ≤ 60) (hN : 20000 < N) (hv : ∀ e r, pE (T.length + 1) T = .ok e r → xBY N e = some (xFG e)) (ht : xE8 N s = some (T, -1)) :
 xGS N s = some (xLx s.length T) := by
 have hs := xZy (N := N) hW hT (by omega) (by omega) (by omega) (T.length + 1) N (by omega) T (List.suffix_refl T) (by omega)
 have hx : xJk N (Rdr.mk T 0 (s.length : Int) (-1)) = (xAb N N).c_spec_l11Expr (gr T s.length T) := by
  unfold xJk gr
  rw [Nat.sub_self]; rfl
 unfold xGS xLx
 rw [ht, jS]
 simp only [show decide ((-1 : Int) ≥ 0) = false from rfl, jF, hx]
 cases hp : pE (T.length + 1) T with
 | err ts =>
   rw [hp] at hs
   obtain ⟨a, p, h1, h2⟩ := hs
   rw [h1, jS]
   have hnn := h2.nn hW
   rw [decide_eq_false (by omega : ¬ p.bad < 0), jF, decide_eq_true (by omega : p.bad ≥ 0), jT, h2.2.2.1]
 | ok e ts =>
   rw [hp] at hs
   obtain ⟨h1, h2⟩ := hs
   rw [h2, jS]
   rw [xJ9, xNy, jT]
   cases ts with
   | nil =>
     have e1 : decide ((gr T s.length []).i < (T.length : Int)) = false := decide_eq_false (by simp [gr])
     rw [e1, jF]
     rw [show decide ((-1 : Int) ≥ 0) = false from rfl, jF, hv e [] hp, jS]
     show _ = some (bif xFG e then (e, -1) else (e0, 0))
     cases xFG e <;> rfl
   | cons t q =>
     obtain ⟨g1, g2⟩ := xU8 h1
     have e1 : (gr T s.length (t :: q)).i = ((T.length - (t :: q).length : Nat) : Int) := rfl
     obtain ⟨p, f1, f2⟩ := xKj (L := s.length) N h1
     have hnn := f2.nn hW
     rw [e1, decide_eq_true (by omega), jT, f1, jS, decide_eq_true (by omega : p.bad ≥ 0), jT, f2.2.2.1]; rfl
theorem xUE (s : Str) : Big fun N => xDD N s = some (xII s) ∧ xGS N s = some (xII s) := by
 obtain ⟨g1, g2, g3⟩ := xRE s
 have hT := vAP g1 g2
 have hW := vAQ g1 (L := s.length) (by omega)
 have hv : Big fun N => ∀ e r, pE ((lex s).1.length + 1) (lex s).1 = .ok e r → xCA N e = some (xFG e) ∧ xBY N e = some (xFG e) := by
  cases hp : pE ((lex s).1.length + 1) (lex s).1 with
  | err ts => exact Big.of fun N e r h => by cases h
  | ok e ts =>
    obtain ⟨h1, h2⟩ := xOf hT hp
    refine (xJp (K := 10000) (by omega) h1 (by omega)).imp fun N h e' r' he => ?_
    cases he
    exact h
 refine (hv.and (xKS 20000)).imp fun N ⟨h, hN⟩ => ?_
 have t1 := xK6 (N := N) (by omega) s
 have t2 := xIK (N := N) (by omega) s
 unfold xII
 rcases g3 with g3 | ⟨g3, g4⟩
 · have e : lex s = ((lex s).1, -1) := by rw [← g3]
   rw [e] at t1 t2
   rw [g3]
   simp only [show decide ((-1 : Int) ≥ 0) = false from rfl, jF]
   exact ⟨xNE hT g2 hN (fun e r he => (h e r he).1) t1, xOk hT hW g2 hN (fun e r he => (h e r he).2) t2⟩
 · unfold xDD xGS
   rw [t1, t2]
   simp only [jS, decide_eq_true g3, jT]
   exact ⟨trivial, trivial⟩
theorem xKc {N : Nat} {s : Str} (h : xDD N s = some (xII s)) : xEN N s = some (decide ((xII s).2 ≥ 0)) := by
 unfold xEN; rw [h]; rfl
end Go.Ab
end
section
namespace Go.Ab
def xMQ (x : List Tok) : Prop := seeS [42] x = false ∧ seeS [43] x = false ∧ seeS [45] x = false ∧ seeS [60] x = false ∧ seeS [61, 61] x = false
theorem PR.bind_of {α β : Type} {R : PR α} {k : α → List Tok → PR β} {a : α} {q : List Tok} (h : R = .ok a q) : R.bind k = k a q := by rw [h]; rfl
section
variable {x : List Tok}
end
end Go.Ab
end
section
namespace Go.Ab
def Ret {α : Type} (o : Option α) (Q : α → Prop) : Prop := ∃ r, o = some r ∧ Q r
theorem Ret.mk' {α : Type} {a : α} {Q : α → Prop} (h : Q a) : Ret (Option.some a) Q := ⟨a, rfl, h⟩
theorem Ret.bnd {α β : Type} {o : Option α} {f : α → Option β} {P : α → Prop} {Q : β → Prop} (h : Ret o P) (hf : ∀ a, P a → Ret (f a) Q) : Ret (Option.bind o f) Q := by
 obtain ⟨a, rfl, ha⟩ := h
 exact hf a ha
theorem Ret.cnd {α : Type} {b : Bool} {x y : Option α} {Q : α → Prop} (h1 : b = true → Ret x Q) (h2 : b = false → Ret y Q) : Ret (bif b then x else y) Q := by
 cases b
 · exact h2 rfl
 · exact h1 rfl
theorem Ret.chk {α : Type} {p : Prop} [Decidable p] {x : Option α} {Q : α → Prop} (hp : p) (h : Ret x Q) : Ret (if p then x else none) Q := by
 rw [if_pos hp]; exact h
theorem Ret.imp {α : Type} {o : Option α} {P Q : α → Prop} (h : Ret o P) (hi : ∀ a, P a → Q a) : Ret o Q := by
 obtain ⟨a, e, ha⟩ := h
 exact ⟨a, e, hi a ha⟩
structure CurOk (c : Cur) : Prop where
 lo : 0 ≤ c.i
 len : c.b.length ≤ 1048576
def Dr {α : Type} (P : α → Prop) : α × Cur → Prop := fun r => P r.1 ∧ CurOk r.2
theorem xPy (x : Int) : 0 ≤ andI .i64 x 255 ∧ andI .i64 x 255 ≤ 255 := by
 unfold andI
 have h : (BitVec.ofInt IntKind.i64.bits x &&& BitVec.ofInt IntKind.i64.bits 255).toNat ≤ 255 := by
  rw [BitVec.toNat_and]
  exact Nat.and_le_right
 rw [xBh (by omega) (by omega)]
 omega
theorem xLg {N : Nat} {c : Cur} (h : CurOk c) : Ret (xE9 N c) (Dr fun v => 0 ≤ v ∧ v ≤ 255) := by
 unfold xE9
 have h1 := h.lo
 have h2 := h.len
 refine .cnd (fun hc => ?_) (fun _ => .mk' ⟨xPy _, h1, h2⟩)
 have hc := of_decide_eq_true hc
 refine .chk ⟨h1, hc⟩ (.mk' ⟨xPy _, ?_, h2⟩)
 show 0 ≤ IntKind.i64.wrap (c.i + 1)
 rw [xBh (by omega) (by omega)]
 omega
theorem vAO {x n : Int} (hx : 0 ≤ x) (hn : 0 < n) : 0 ≤ Int.tmod x n ∧ Int.tmod x n < n := by
 rw [Int.tmod_eq_emod_of_nonneg hx]
 exact ⟨Int.emod_nonneg _ (by omega), Int.emod_lt_of_pos _ hn⟩
theorem xOs {N : Nat} {c : Cur} {n : Int} (h : CurOk c) : Ret (xAK N c n) (Dr fun v => 0 ≤ v ∧ (v < n ∨ v = 0)) := by
 unfold xAK
 refine .cnd (fun _ => .mk' ⟨⟨by omega, .inr rfl⟩, h⟩) (fun hc => ?_)
 have hc : ¬ n ≤ 0 := of_decide_eq_false hc
 have hn : n ≠ 0 := by omega
 refine .cnd (fun _ => .bnd (xLg h) fun a ha => ?_) (fun _ => .bnd (xLg h) fun a ha => .bnd (xLg ha.2) fun b hb => .bnd (xLg hb.2) fun d hd => .bnd (xLg hd.2) fun e he => ?_)
 · have := vAO ha.1.1 (by omega : 0 < n)
   exact .chk hn (.mk' ⟨⟨this.1, .inl this.2⟩, ha.2⟩)
 · have a1 := ha.1; have b1 := hb.1; have d1 := hd.1; have e1 := he.1
   have key : ∀ x y z w : Int, (0 ≤ x ∧ x ≤ 255) → (0 ≤ y ∧ y ≤ 255) → (0 ≤ z ∧ z ≤ 255) → (0 ≤ w ∧ w ≤ 255) →
    0 ≤ IntKind.i64.wrap ((IntKind.i64.wrap ((IntKind.i64.wrap ((IntKind.i64.wrap (x * 16777216)) + (IntKind.i64.wrap (y * 65536)))) + (IntKind.i64.wrap (z * 256)))) + w) := by
    intro x y z w hx hy hz hw
    rw [xBh (x := x * 16777216) (by omega) (by omega), xBh (x := y * 65536) (by omega) (by omega), xBh (x := z * 256) (by omega) (by omega), xBh (x := x * 16777216 + y * 65536) (by omega) (by omega),
     xBh (x := x * 16777216 + y * 65536 + z * 256) (by omega) (by omega), xBh (by omega) (by omega)]
    omega
   have := vAO (key _ _ _ _ a1 b1 d1 e1) (by omega : 0 < n)
   exact .chk hn (.mk' ⟨⟨this.1, .inl this.2⟩, he.2⟩)
theorem xUQ {N : Nat} {c : Cur} {n : Int} (h : CurOk c) (hn : 0 < n) : Ret (xAK N c n) (Dr fun v => 0 ≤ v ∧ v < n) :=
 (xOs h).imp fun a ha => ⟨⟨ha.1.1, by have := ha.1.2; omega⟩, ha.2⟩
theorem xVk {N : Nat} {c : Cur} {n : Int} (h : CurOk c) : Ret (xFD N c n) (Dr fun _ => True) :=
 .bnd (xOs h) fun a ha => .mk' ⟨trivial, ha.2⟩
theorem xPl {N : Nat} {c : Cur} {l : List Str} (h : CurOk c) (hl : 0 < l.length) : Ret (xC4 N c l) (Dr fun v => v ∈ l) := by
 refine .bnd (xUQ h (by omega)) fun a ha => ?_
 have h1 := ha.1
 refine .chk h1 (.mk' ⟨?_, ha.2⟩)
 have hlt : a.1.toNat < l.length := by omega
 show List.getD l a.1.toNat _ ∈ l
 rw [xCh (List.getElem?_eq_getElem hlt)]
 exact List.getElem_mem hlt
end Go.Ab
end
section
namespace Go.Ab
def U {ι α : Type} (S : ι → Prop) (o : ι → Option α) (Q : α → Prop) : Prop := ∃ r, Q r ∧ ∀ x, S x → o x = some r
section
variable {ι α β : Type} {S : ι → Prop} {P : α → Prop} {Q : β → Prop}
theorem U.mk' {a : α} (h : P a) : U S (fun _ => some a) P := ⟨a, h, fun _ _ => rfl⟩
theorem U.bnd {o : ι → Option α} {f : ι → α → Option β} (h : U S o P) (hf : ∀ a, P a → U S (fun x => f x a) Q) : U S (fun x => Option.bind (o x) (f x)) Q := by
 obtain ⟨a, ha, e⟩ := h
 obtain ⟨b, hb, e'⟩ := hf a ha
 exact ⟨b, hb, fun x hx => by show (o x).bind (f x) = _; rw [e x hx]; exact e' x hx⟩
theorem U.cnd {b : Bool} {p q : ι → Option α} (h1 : b = true → U S p P) (h2 : b = false → U S q P) : U S (fun x => bif b then p x else q x) P := by
 cases b
 · exact h2 rfl
 · exact h1 rfl
theorem U.chk {p : Prop} [Decidable p] {o : ι → Option α} (hp : p) (h : U S o P) : U S (fun x => if p then o x else none) P := by
 obtain ⟨a, ha, e⟩ := h
 exact ⟨a, ha, fun x hx => by show (if p then o x else none) = _; rw [if_pos hp]; exact e x hx⟩
theorem U.pre {κ : Type} {T : κ → Prop} {o : κ → Option α} (h : U T o P) (g : ι → κ) (hg : ∀ x, S x → T (g x)) : U S (fun x => o (g x)) P := by
 obtain ⟨a, ha, e⟩ := h
 exact ⟨a, ha, fun x hx => e _ (hg x hx)⟩
theorem U.ret {o : Nat → Option α} (g : ι → Nat) (h : Ret (o 0) P) (hc : ∀ N, o N = o 0) : U S (fun x => o (g x)) P := by
 obtain ⟨a, e, ha⟩ := h
 exact ⟨a, ha, fun x _ => (hc _).trans e⟩
end
theorem forU {σ ρ : Type} {L : Nat → Nat → Int → σ → Option ρ} {Q : ρ → Prop} {B : Nat} (len : Nat) (Inv : Nat → σ → Prop) (hB : len ≤ B)
 (hend : ∀ st, Inv len st → U (fun x : Nat × Nat => B < x.1) (fun x => L x.1 (x.2 + 1) (len : Nat) st) Q)
 (hstep : ∀ i st, i < len → Inv i st → (∀ st', Inv (i + 1) st' → U (fun x : Nat × Nat => B < x.1 ∧ len - (i + 1) < x.2) (fun x => L x.1 x.2 ((i + 1 : Nat) : Int) st') Q) → U (fun x : Nat × Nat => B < x.1 ∧ len - (i + 1) < x.2) (fun x => L x.1 (x.2 + 1) (i : Nat) st) Q) :
 ∀ st, Inv 0 st → U (fun N : Nat => B < N) (fun N => L N N 0 st) Q := by
 have key : ∀ k i st, len - i = k → i ≤ len → Inv i st → U (fun x : Nat × Nat => B < x.1 ∧ len - i < x.2) (fun x => L x.1 x.2 (i : Nat) st) Q := by
  intro k
  induction k with
  | zero =>
    intro i st hk hi hs
    have : i = len := by omega
    subst this
    obtain ⟨r, hr, e⟩ := hend st hs
    refine ⟨r, hr, fun x hx => ?_⟩
    obtain ⟨N, n⟩ := x
    obtain ⟨m, rfl⟩ : ∃ m, n = m + 1 := ⟨n - 1, by have := hx.2; simp at this; omega⟩
    exact e (N, m) hx.1
  | succ k ih =>
    intro i st hk hi hs
    obtain ⟨r, hr, e⟩ := hstep i st (by omega) hs fun st' h' => ih (i + 1) st' (by omega) (by omega) h'
    refine ⟨r, hr, fun x hx => ?_⟩
    obtain ⟨N, n⟩ := x
    have h2 : len - i < n := hx.2
    obtain ⟨m, rfl⟩ : ∃ m, n = m + 1 := ⟨n - 1, by omega⟩
    exact e (N, m) ⟨hx.1, by show len - (i + 1) < m; omega⟩
 intro st hs
 exact (key len 0 st (by omega) (by omega) hs).pre (fun N => (N, N)) fun N hN => ⟨hN, by have : B < N := hN; show len - 0 < N; omega⟩
section
variable {ι : Type} {S : ι → Prop} {c : Cur}
theorem xJ5 (g : ι → Nat) {n : Int} (h : CurOk c) (hn : 0 < n) : U S (fun x => xAK (g x) c n) (Dr fun v => 0 ≤ v ∧ v < n) := .ret (o := fun N => xAK N c n) g (xUQ h hn) fun _ => rfl
theorem vAz (g : ι → Nat) {n : Int} (h : CurOk c) : U S (fun x => xFD (g x) c n) (Dr fun _ => True) := .ret (o := fun N => xFD N c n) g (xVk h) fun _ => rfl
theorem xZz (g : ι → Nat) {l : List Str} (h : CurOk c) (hl : 0 < l.length) : U S (fun x => xC4 (g x) c l) (Dr fun v => v ∈ l) := .ret (o := fun N => xC4 N c l) g (xPl h hl) fun _ => rfl
theorem newU (g : ι → Nat) {a : List Int} (h : a.length ≤ 1048576) (hS : ∀ x, S x → 1048576 < g x) : U S (fun x => xGP (g x) a) CurOk := by
 have key : U (fun N : Nat => 1048576 < N) (fun N => xGP N a) CurOk := by
  unfold xGP
  refine forU (σ := Int) (L := fun N m i st => xFN N m a st i) (B := 1048576) a.length (fun _ _ => True) h (fun st _ => ?_) (fun i st hi _ ih => ?_) _ trivial
  · simp only [xFN, Int.lt_irrefl, decide_false, jF]
    exact .mk' ⟨by show (0 : Int) ≤ 0; omega, h⟩
  · simp only [xFN, decide_eq_true (show (i : Int) < (a.length : Int) by omega), jT, xBo hi (by omega : a.length ≤ _)]
    exact .cnd (fun _ => .chk ⟨by omega, by omega⟩ (ih _ trivial)) (fun _ => .mk' ⟨by show (0 : Int) ≤ 0; omega, h⟩)
 exact key.pre g hS
end
theorem xJS {v : Int} (h : 0 ≤ v) : ∃ n : Nat, v = (n : Int) := ⟨v.toNat, by omega⟩
end Go.Ab
end
section
namespace Go.Ab
def E2 {α : Type} (o : Nat → Nat → Option α) (Q : α → Prop) : Prop := ∃ r, Q r ∧ Big2 fun N d => o N d = some r
section
variable {α β : Type} {P : α → Prop} {Q : β → Prop}
theorem E2.mk' {a : α} (h : P a) : E2 (fun _ _ => some a) P := ⟨a, h, .of fun _ _ => rfl⟩
theorem E2.bnd {o : Nat → Nat → Option α} {f : Nat → Nat → α → Option β} (h : E2 o P) (hf : ∀ a, P a → E2 (fun N d => f N d a) Q) : E2 (fun N d => Option.bind (o N d) (f N d)) Q := by
 obtain ⟨a, ha, e⟩ := h
 obtain ⟨b, hb, e'⟩ := hf a ha
 exact ⟨b, hb, (e.and e').imp fun N d ⟨h1, h2⟩ => by show (o N d).bind (f N d) = _; rw [h1]; exact h2⟩
theorem E2.cnd {b : Bool} {p q : Nat → Nat → Option α} (h1 : b = true → E2 p P) (h2 : b = false → E2 q P) : E2 (fun N d => bif b then p N d else q N d) P := by
 cases b
 · exact h2 rfl
 · exact h1 rfl
theorem E2.chk {p : Prop} [Decidable p] {o : Nat → Nat → Option α} (hp : p) (h : E2 o P) : E2 (fun N d => if p then o N d else none) P := by
 obtain ⟨a, ha, e⟩ := h
 exact ⟨a, ha, e.imp fun N d h => by show (if p then o N d else none) = _; rw [if_pos hp]; exact h⟩
theorem E2.succ {o : Nat → Nat → Option α} (h : E2 (fun N d => o N (d + 1)) P) : E2 o P := by
 obtain ⟨a, ha, e⟩ := h
 exact ⟨a, ha, e.succ⟩
theorem E2.ofU {B : Nat} {o : Nat → Option α} (h : U (fun N => B < N) o P) : E2 (fun N _ => o N) P := by
 obtain ⟨a, ha, e⟩ := h
 exact ⟨a, ha, B + 1, fun N n h _ => e N (by omega)⟩
theorem E2.ofBig {o : Nat → Option α} {a : α} (h : Big fun N => o N = some a) (ha : P a) : E2 (fun N _ => o N) P := ⟨a, ha, h.two⟩
theorem E2.diag {o : Nat → Nat → Option α} (h : E2 o P) : ∃ r, P r ∧ Big fun N => o N N = some r := by
 obtain ⟨a, ha, e⟩ := h
 exact ⟨a, ha, e.diag⟩
end
theorem xIQ {c : Cur} {n : Int} (h : CurOk c) (hn : 0 < n) : E2 (fun N _ => xAK N c n) (Dr fun v => 0 ≤ v ∧ v < n) := .ofU (B := 0) (xJ5 id h hn)
theorem vCj {c : Cur} {n : Int} (h : CurOk c) : E2 (fun N _ => xFD N c n) (Dr fun _ => True) := .ofU (B := 0) (vAz id h)
theorem xOg {c : Cur} {l : List Str} (h : CurOk c) (hl : 0 < l.length) : E2 (fun N _ => xC4 N c l) (Dr fun v => v ∈ l) := .ofU (B := 0) (xZz id h hl)
def EDr (s : Nat) (e : Exp) : Prop := e.Fit 1000 ∧ e.size ≤ s
theorem EDr.mono {s s' : Nat} {e : Exp} (h : EDr s e) (hs : s ≤ s') : EDr s' e := ⟨h.1, Nat.le_trans h.2 hs⟩
def sizes (a : List Exp) : Nat := (a.map Exp.size).sum
theorem xJq {k n : Int} {t : Str} {a : List Exp} {s : Nat} (hk : 0 ≤ k ∧ k ≤ 1000) (hn : 0 ≤ n ∧ n ≤ 1000) (ht : t.length ≤ 8) (ha : a.length ≤ 1000) (hx : ∀ x ∈ a, x.Fit 1000) (hs : t.length + (a.length + sizes a) ≤ s) : EDr s (.mk k n t a) :=
 ⟨xE5 (xDn hk) (xDn hn) (by omega) ha hx, by rw [xDv]; exact hs⟩
theorem xGR {k n : Int} {t : Str} (hk : 0 ≤ k ∧ k ≤ 1000) (hn : 0 ≤ n ∧ n ≤ 1000) (ht : t.length ≤ 8) : EDr 8 (.mk k n t []) := xJq hk hn ht (by simp) (fun x hx => by cases hx) (by simp [sizes]; omega)
theorem all1 {p : Exp → Prop} {a : Exp} (h : p a) : ∀ x ∈ [a], p x := fun x hx => by
 simp only [List.mem_cons, List.not_mem_nil, or_false] at hx; subst hx; exact h
theorem all2 {p : Exp → Prop} {a b : Exp} (h : p a) (h' : p b) : ∀ x ∈ [a, b], p x := fun x hx => by
 simp only [List.mem_cons, List.not_mem_nil, or_false] at hx
 rcases hx with rfl | rfl <;> assumption
theorem all3 {p : Exp → Prop} {a b c : Exp} (h : p a) (h' : p b) (h'' : p c) : ∀ x ∈ [a, b, c], p x := fun x hx => by
 simp only [List.mem_cons, List.not_mem_nil, or_false] at hx
 rcases hx with rfl | rfl | rfl <;> assumption
theorem edr1 {k : Int} {t : Str} {a : Exp} {s : Nat} (hk : 0 ≤ k ∧ k ≤ 1000) (ht : t.length ≤ 8) (h : EDr s a) : EDr (s + 9) (.mk k 0 t [a]) :=
 xJq hk (by omega) ht (by simp) (all1 h.1) (by have := h.2; simp only [sizes, List.map_cons, List.map_nil, List.sum_cons, List.sum_nil, jC, jN]; omega)
theorem edr2 {k n : Int} {t : Str} {a b : Exp} {s s' : Nat} (hk : 0 ≤ k ∧ k ≤ 1000) (hn : 0 ≤ n ∧ n ≤ 1000) (ht : t.length ≤ 8) (h : EDr s a) (h' : EDr s' b) : EDr (s + s' + 10) (.mk k n t [a, b]) :=
 xJq hk hn ht (by simp) (all2 h.1 h'.1) (by have := h.2; have := h'.2; simp only [sizes, List.map_cons, List.map_nil, List.sum_cons, List.sum_nil, jC, jN]; omega)
theorem edr3 {k : Int} {t : Str} {a b c : Exp} {s s' s'' : Nat} (hk : 0 ≤ k ∧ k ≤ 1000) (ht : t.length ≤ 8) (h : EDr s a) (h' : EDr s' b) (h'' : EDr s'' c) : EDr (s + s' + s'' + 11) (.mk k 0 t [a, b, c]) :=
 xJq hk (by omega) ht (by simp) (all3 h.1 h'.1 h''.1) (by have := h.2; have := h'.2; have := h''.2; simp only [sizes, List.map_cons, List.map_nil, List.sum_cons, List.sum_nil, jC, jN]; omega)
def Nms (k : Nat) (l : List Str) : Prop := 0 < l.length ∧ l.length + 2 * k ≤ 100 ∧ ∀ s ∈ l, s.length ≤ 8
theorem xPP {c : Cur} (h : CurOk c) {k : Nat} {l : List Str} (hl : Nms k l) : U (fun N : Nat => 1000 < N) (fun N => xFy N c l) (Dr (EDr 8)) := by
 refine .bnd (xJ5 id h (by decide)) fun a ha => ?_
 have num : ∀ b : Int × Cur, (0 ≤ b.1 ∧ b.1 < 6) → CurOk b.2 → U (fun N : Nat => 1000 < N) (fun N => Option.bind (xB9 N b.1) fun r3 => some (r3, b.2)) (Dr (EDr 8)) := fun b h1 h2 =>
  .mk' ⟨xGR (k := 1) (n := b.1) (t := []) (by omega) (by omega) (by simp), h2⟩
 refine .cnd (fun _ => .bnd (xZz id ha.2 (by decide)) fun b hb => .mk' ⟨xGR (by omega) (by omega) ?_, hb.2⟩)
  (fun _ => .cnd (fun _ => .bnd (xJ5 id ha.2 (by decide)) fun b hb => num b hb.1 hb.2) (fun _ => .cnd (fun _ => .bnd (xJ5 id ha.2 (by decide)) fun b hb => num b hb.1 hb.2) (fun _ => .bnd (xZz id ha.2 hl.1) fun b hb => .mk' ⟨xGR (k := 3) (n := 0) (by omega) (by omega) (hl.2.2 _ hb.1), hb.2⟩)))
 have := hb.1
 simp only [List.mem_cons, List.not_mem_nil, or_false] at this
 rcases this with e | e | e | e <;> rw [e] <;> decide
def LDr (i : Nat) (l : List Exp) : Prop := l.length = i ∧ (∀ x ∈ l, EDr 20 x)
theorem xOX {s : Nat} : ∀ {l : List Exp}, (∀ x ∈ l, EDr s x) → sizes l ≤ s * l.length
 | [], _ => by simp [sizes]
 | x :: l, h => by
   have h1 := (h x List.mem_cons_self).2
   have h2 := xOX fun y hy => h y (List.mem_cons_of_mem _ hy)
   simp only [sizes, List.map_cons, List.sum_cons, jC, Nat.mul_add] at h2 ⊢
   omega
theorem LDr.app {i : Nat} {l : List Exp} {x : Exp} (h : LDr i l) (hx : EDr 20 x) : LDr (i + 1) (l ++ [x]) := by
 refine ⟨by rw [jA, h.1]; rfl, fun y hy => ?_⟩
 rcases List.mem_append.1 hy with hy | hy
 · exact h.2 y hy
 · rw [List.mem_singleton.1 hy]; exact hx
theorem LDr.edr {i : Nat} {l : List Exp} (h : LDr i l) (hi : i ≤ 4) : EDr 100 (.mk 4 0 [] l) := by
 have h1 := xOX h.2
 have h2 := h.1
 exact xJq (by omega) (by omega) (by simp) (by omega) (fun x hx => (h.2 x hx).1) (by rw [h2] at h1 ⊢; simp only [jN]; omega)
theorem xRF {c : Cur} (h : CurOk c) {k : Nat} {l : List Str} (hl : Nms k l) : U (fun N : Nat => 1000 < N) (fun N => xFz N c l) (Dr (EDr 100)) := by
 refine .bnd (xJ5 id h (by decide)) fun a ha => ?_
 obtain ⟨n, hn⟩ := xJS ha.1.1
 have hn2 : n < 4 := by have := ha.1.2; omega
 rw [hn]
 refine forU (σ := List Exp × Cur) (L := fun N m i st => xEj N m l n i st.2 (Exp.mk 0 0 [] []) (Exp.mk 4 0 [] st.1)) (B := 1000) n (fun i st => LDr i st.1 ∧ CurOk st.2) (by omega) (fun st hs => ?_) (fun i st hi hs ih => ?_) ([], a.2) ⟨⟨rfl, fun x hx => by cases hx⟩, ha.2⟩
 · simp only [xEj, Int.lt_irrefl, decide_false, jF]
   exact .mk' ⟨hs.1.edr (by omega), hs.2⟩
 · have hlen := hs.1.1
   simp only [xEj, xB9, decide_eq_true (show (i : Int) < (n : Int) by omega), jT, xBo hi (by omega : n ≤ _), jS, Exp.re_eq, ek, en, et, ea]
   refine .bnd (xJ5 _ hs.2 (by decide)) fun b hb => .chk (by simp only [jC, jN]; unfold Lim; omega) (.bnd (vAz _ hb.2) fun d hd => .cnd (fun _ => ?_) (fun _ => ih (st.1 ++ [_], d.2) ⟨hs.1.app ?_, hd.2⟩))
   · refine .bnd ((xPP hd.2 hl).pre (fun x : Nat × Nat => x.1) fun x hx => hx.1) fun e he => .chk (by simp only [jA, jC, jN]; omega) (ih ((st.1 ++ [_]).set i e.1, e.2) ⟨⟨by rw [List.length_set, jA, hlen]; rfl, fun y hy => ?_⟩, he.2⟩)
     rcases List.mem_or_eq_of_mem_set hy with hy | hy
     · rcases List.mem_append.1 hy with hy | hy
       · exact hs.1.2 y hy
       · rw [List.mem_singleton.1 hy]
         have := hb.1
         exact (xGR (by omega) (by omega) (by simp)).mono (by omega)
     · rw [hy]; exact he.1.mono (by omega)
   · have := hb.1
     exact (xGR (by omega) (by omega) (by simp)).mono (by omega)
theorem xRh {c : Cur} (h : CurOk c) : U (fun N : Nat => 1000 < N) (fun N => xFL N c) (Dr (EDr 150)) := by
 refine .bnd (xJ5 id h (by decide)) fun a ha => ?_
 obtain ⟨n, hn⟩ := xJS ha.1.1
 have hn2 : n < 4 := by have := ha.1.2; omega
 rw [hn]
 have z8 : ∀ {m : Int}, 0 ≤ m ∧ m ≤ 1000 → EDr 0 (Exp.mk 1 m [] []) := fun hm => xJq (by omega) hm (by simp) (by simp) (fun x hx => by cases hx) (by simp [sizes])
 refine forU (σ := List Exp × Cur) (L := fun N m i st => xEu N m n i st.2 (Exp.mk 0 0 [] []) (Exp.mk 4 0 [] st.1)) (B := 1000) n (fun i st => LDr i st.1 ∧ CurOk st.2) (by omega) (fun st hs => ?_) (fun i st hi hs ih => ?_) ([], a.2) ⟨⟨rfl, fun x hx => by cases hx⟩, ha.2⟩
 · simp only [xEu, xCN, Int.lt_irrefl, decide_false, jF, jS, Exp.re_eq]
   refine .mk' ⟨(edr2 (by omega) (by omega) (by decide) (xGR (k := 2) (n := 0) (by omega) (by omega) (by decide)) (hs.1.edr (by omega))).mono (by omega), hs.2⟩
 · have hlen := hs.1.1
   simp only [xEu, xB9, decide_eq_true (show (i : Int) < (n : Int) by omega), jT, xBo hi (by omega : n ≤ _), jS, Exp.re_eq, ek, en, et, ea]
   refine .bnd (xJ5 _ hs.2 (by decide)) fun b hb => .bnd (xJ5 _ hb.2 (by decide)) fun d hd => .chk (by simp only [jC, jN]; unfold Lim; omega) (ih (st.1 ++ [_], d.2) ⟨hs.1.app ?_, hd.2⟩)
   have h1 := hb.1; have h2 := hd.1
   exact (edr2 (by omega) (by omega) (by simp) (z8 (by omega)) (z8 (by omega))).mono (by omega)
theorem xL9 {c : Cur} (h : CurOk c) {a b : Exp} {s : Nat} (ha : EDr s a) (hb : EDr s b) : E2 (fun N _ => xDl N c a b) (Dr (EDr s)) :=
 .bnd (vCj h) fun r hr => .cnd (fun _ => .mk' ⟨ha, hr.2⟩) (fun _ => .mk' ⟨hb, hr.2⟩)
theorem xNw {c : Cur} (h : CurOk c) : E2 (fun N _ => xFi N c) (Dr (EDr 8)) := by
 refine .bnd (xOg h (by decide)) fun b hb => .mk' ⟨xGR (by omega) (by omega) ?_, hb.2⟩
 have := hb.1
 simp only [List.mem_cons, List.not_mem_nil, or_false] at this
 rcases this with e | e | e | e | e <;> rw [e] <;> decide
def bnd4 (k : Nat) : Nat := 400 * 4 ^ k
theorem xPA (k : Nat) : bnd4 (k + 1) = 4 * bnd4 k := by unfold bnd4; rw [Nat.pow_succ]; omega
theorem xOt (k : Nat) : 400 ≤ bnd4 k := by
 unfold bnd4
 have : 0 < 4 ^ k := Nat.pow_pos (by omega)
 omega
theorem vCi : ∀ (k : Nat) (c : Cur) (l : List Str), k ≤ 10 → CurOk c → Nms k l → E2 (fun N d => xC1 N d c l (k : Int)) (Dr (EDr (bnd4 k))) := by
 intro k
 induction k with
 | zero =>
   intro c l _ hc hl
   refine .succ ?_
   show E2 (fun N d => xDB N (xC1 N d) c l ((0 : Nat) : Int)) _
   unfold xDB
   refine .cnd (fun _ => .bnd (.ofU (xPP hc hl)) fun a ha => .mk' ⟨ha.1.mono (by have := xOt 0; omega), ha.2⟩) (fun h => by simp at h)
 | succ k ih =>
   intro c l hk hc hl
   have b1 := xPA k
   have b0 := xOt k
   have hl' : Nms k l := ⟨hl.1, by have := hl.2.1; omega, hl.2.2⟩
   refine .succ ?_
   show E2 (fun N d => xDB N (xC1 N d) c l ((k + 1 : Nat) : Int)) _
   have wk : IntKind.i64.wrap (((k + 1 : Nat) : Int) - 1) = (k : Int) := by rw [xBh (by omega) (by omega)]; omega
   have hrec : ∀ (c : Cur) (l : List Str), CurOk c → Nms k l → E2 (fun N d => xC1 N d c l (k : Int)) (Dr (EDr (bnd4 k))) := fun c l => ih c l (by omega)
   unfold xDB
   simp only [wk, sOp, xCN, xB9, jS, Exp.re_eq]
   have leaf8 : ∀ {m : Int}, 0 ≤ m ∧ m ≤ 1000 → EDr 8 (Exp.mk 1 m [] []) := fun hm => xGR (by omega) hm (by simp)
   refine .cnd (fun _ => .bnd (.ofU (xPP hc hl)) fun a ha => .mk' ⟨ha.1.mono (by omega), ha.2⟩) (fun _ => .bnd (xIQ hc (by decide)) fun a ha => ?_)
   have op2 : E2 (fun N d => Option.bind (xAK N a.2 5) fun r2 => Option.bind (xC1 N d r2.2 l (k : Int)) fun r3 => Option.bind (xC1 N d r3.2 l (k : Int)) fun r4 => some (Exp.mk 6 (IntKind.i64.wrap (1 + r2.1)) [] [r3.1, r4.1], r4.2)) (Dr (EDr (bnd4 (k + 1)))) :=
    .bnd (xIQ ha.2 (by decide)) fun b hb => .bnd (hrec _ _ hb.2 hl') fun x hx => .bnd (hrec _ _ hx.2 hl') fun y hy => .mk' ⟨(edr2 (by omega) (by
      have h1 := hb.1
      rw [xBh (by omega) (by omega)]; omega) (by simp) hx.1 hy.1).mono (by omega), hy.2⟩
   have nm3 : ∀ v : Str, v ∈ [[117], [118], List.getD l (Int.toNat 0) Ty.str.dflt] → v.length ≤ 8 := fun v hv => by
    simp only [List.mem_cons, List.not_mem_nil, or_false] at hv
    rcases hv with e | e | e
    · rw [e]; decide
    · rw [e]; decide
    · rw [e]
      obtain ⟨s, r, rfl⟩ : ∃ s r, l = s :: r := by
       cases l with
       | nil => exact absurd hl.1 (by simp)
       | cons s r => exact ⟨s, r, rfl⟩
      exact hl.2.2 s List.mem_cons_self
   have hpos : (0 : Int) ≤ 0 ∧ (0 : Int) < (List.length l) := ⟨by omega, by have := hl.1; omega⟩
   refine .cnd (fun _ => op2) (fun _ => .cnd (fun _ => op2) (fun _ => .cnd (fun _ => ?_) (fun _ => .cnd (fun _ => ?_) (fun _ => .cnd (fun _ => ?_) (fun _ => .cnd (fun _ => ?_) (fun _ => .cnd (fun _ => ?_) (fun _ => .cnd (fun _ => ?_) (fun _ => .cnd (fun _ => ?_) (fun _ => .cnd (fun _ => ?_) (fun _ => .cnd (fun _ => ?_) (fun _ => .cnd (fun _ => ?_) (fun _ => ?_))))))))))))
   · refine .chk hpos (.bnd (xOg ha.2 (by simp)) fun b hb => .bnd (hrec _ _ hb.2 hl') fun x hx => .chk (by have := hl.2.1; simp only [jC, jN]; unfold Lim; omega) (.bnd (hrec _ _ hx.2 ⟨by simp, by have := hl.2.1; simp only [jA, jC, jN]; omega, fun s hs => ?_⟩) fun y hy => .mk' ⟨(edr2 (by omega) (by omega) (nm3 _ hb.1) hx.1 hy.1).mono (by omega), hy.2⟩))
     rcases List.mem_append.1 hs with hs | hs
     · rw [List.mem_singleton.1 hs]; exact nm3 _ hb.1
     · exact hl.2.2 s hs
   · exact .bnd (hrec _ _ ha.2 hl') fun x hx => .bnd (hrec _ _ hx.2 hl') fun y hy => .bnd (hrec _ _ hy.2 hl') fun z hz => .mk' ⟨(edr3 (by omega) (by simp) hx.1 hy.1 hz.1).mono (by omega), hz.2⟩
   · refine .chk hpos (.bnd (xOg ha.2 (by simp)) fun b hb => .bnd (.ofU (xRF hb.2 hl)) fun x hx => .chk (by have := hl.2.1; simp only [jC, jN]; unfold Lim; omega) (.bnd (hrec _ _ hx.2 ⟨by simp, by have := hl.2.1; simp only [jA, jC, jN]; omega, fun s hs => ?_⟩) fun y hy => .mk' ⟨(edr2 (by omega) (by omega) (nm3 _ hb.1) hx.1 hy.1).mono (by omega), hy.2⟩))
     rcases List.mem_append.1 hs with hs | hs
     · simp only [List.mem_cons, List.not_mem_nil, or_false] at hs
       rcases hs with rfl | rfl <;> exact nm3 _ hb.1
     · exact hl.2.2 s hs
   · exact .bnd (.ofU (xRF ha.2 hl)) fun x hx => .mk' ⟨hx.1.mono (by omega), hx.2⟩
   · refine .bnd (xOg ha.2 (by decide)) fun b hb => .bnd (.ofU (xRF hb.2 hl)) fun x hx => .bnd (hrec _ _ hx.2 hl') fun y hy => .bnd (xL9 hy.2 (hx.1.mono (by omega : 100 ≤ bnd4 k)) hy.1) fun z hz => .mk' ⟨(edr1 (by omega) ?_ hz.1).mono (by omega), hz.2⟩
     have := hb.1
     simp only [List.mem_cons, List.not_mem_nil, or_false] at this
     rcases this with e | e <;> rw [e] <;> decide
   · refine .bnd (xOg ha.2 (by decide)) fun b hb => .bnd (xIQ hb.2 (by decide)) fun d hd => .bnd (.ofU (xRF hd.2 hl)) fun x hx => .bnd (xIQ hx.2 (by decide)) fun f hf => .bnd (xIQ hf.2 (by decide)) fun g hg => ?_
     have h1 := hd.1; have h2 := hf.1; have h3 := hg.1
     refine .bnd (xL9 hg.2 hx.1 ((edr2 (by omega) (by omega) (by decide) (leaf8 (by omega)) (leaf8 (by omega))).mono (by omega))) fun z hz => .mk' ⟨(edr2 (by omega) (by omega) ?_ (leaf8 (by omega)) hz.1).mono (by omega), hz.2⟩
     have := hb.1
     simp only [List.mem_cons, List.not_mem_nil, or_false] at this
     rcases this with e | e | e | e <;> rw [e] <;> decide
   · refine .bnd (xNw ha.2) fun b hb => .bnd (xIQ hb.2 (by decide)) fun d hd => .bnd (.ofU (xRh hd.2)) fun x hx => .bnd (hrec _ _ hx.2 hl') fun y hy => .bnd (xL9 hy.2 (hx.1.mono (by omega : 150 ≤ bnd4 k)) hy.1) fun z hz => ?_
     have h1 := hd.1
     exact .mk' ⟨(edr3 (by omega) (by decide) hb.1 (leaf8 (by omega)) hz.1).mono (by omega), hz.2⟩
   · exact .bnd (xNw ha.2) fun b hb => .bnd (xNw hb.2) fun d hd => .bnd (.ofU (xRh hd.2)) fun x hx => .bnd (hrec _ _ hx.2 hl') fun y hy => .bnd (xL9 hy.2 (hx.1.mono (by omega : 150 ≤ bnd4 k)) hy.1) fun z hz => .mk' ⟨(edr3 (by omega) (by decide) hb.1 hd.1 hz.1).mono (by omega), hz.2⟩
   · exact .bnd (.ofU (xRh ha.2)) fun x hx => .bnd (hrec _ _ hx.2 hl') fun y hy => .bnd (xL9 hy.2 (hx.1.mono (by omega : 150 ≤ bnd4 k)) hy.1) fun z hz => .mk' ⟨(edr1 (by omega) (by decide) hz.1).mono (by omega), hz.2⟩
   · refine .bnd (xIQ ha.2 (by decide)) fun b hb => ?_
     have h1 := hb.1
     exact .mk' ⟨(edr1 (by omega) (by decide) (leaf8 (by rw [xBh (by omega) (by omega)]; omega))).mono (by omega), hb.2⟩
   · refine .bnd (xOg ha.2 (by decide)) fun b hb => .bnd (xL9 hb.2 (s := 400) ((xGR (k := 5) (n := 0) (by omega) (by omega) (by decide)).mono (by omega)) ((edr1 (by omega) (by decide) (xGR (k := 2) (n := 0) (t := b.1) (by omega) (by omega) ?_)).mono (by omega))) fun z hz => .mk' ⟨hz.1.mono (by omega), hz.2⟩
     have := hb.1
     simp only [List.mem_cons, List.not_mem_nil, or_false] at this
     rcases this with e | e | e <;> rw [e] <;> decide
theorem nms0 : Nms 10 [[97], [98], [99]] := ⟨by decide, by decide, fun s hs => by
 simp only [List.mem_cons, List.not_mem_nil, or_false] at hs
 rcases hs with rfl | rfl | rfl <;> decide⟩
theorem vCg {c : Cur} (h : CurOk c) : E2 (fun N _ => xHR N c) (Dr (EDr 110000)) := by
 refine .bnd (xIQ h (by decide)) fun a ha => ?_
 obtain ⟨n, hn⟩ := xJS ha.1.1
 have hn2 : n < 4 := by have := ha.1.2; omega
 have wn : IntKind.i64.wrap (1 + a.1) = ((n + 1 : Nat) : Int) := by rw [hn, xBh (by omega) (by omega)]; omega
 rw [wn]
 obtain ⟨r, hr, hb⟩ := (vCi (n + 1) a.2 [[97], [98], [99]] (by omega) ha.2 ⟨by decide, by simp only [jC, jN]; omega, nms0.2.2⟩).diag
 have hsz : bnd4 (n + 1) ≤ 102400 := by
  unfold bnd4
  have : 4 ^ (n + 1) ≤ 4 ^ 4 := Nat.pow_le_pow_right (by omega) (by omega)
  have e : (4 : Nat) ^ 4 = 256 := by decide
  omega
 have hr1 := hr.1.mono hsz
 refine .bnd (.ofBig (o := fun N => xJi N a.2 [[97], [98], [99]] ((n + 1 : Nat) : Int)) hb (P := fun x => x = r) rfl) fun x hx => ?_
 subst hx
 refine .bnd (.ofBig ((xJp (K := 1000) (by omega) hr1.1 (by have := hr1.2; omega)).imp fun N h => h.2) (P := fun _ => True) trivial) fun v _ => .cnd (fun _ => .bnd (.ofU (xPP hr.2 nms0)) fun y hy => .mk' ⟨hy.1.mono (by omega), hy.2⟩) (fun _ => .mk' ⟨hr1.mono (by omega), hr.2⟩)
theorem newE {a : List Int} (h : a.length ≤ 1048576) : E2 (fun N _ => xGP N a) CurOk := .ofU (B := 1048576) (newU id h fun x hx => hx)
end Go.Ab
end
section
namespace Go.Ab
def tkN (t : Str) : Tok := ⟨1, 0, 0, t⟩
def tkS (t : Str) : Tok := ⟨4, 0, 0, t⟩
def atZ (t : Tok) : Tok := ⟨t.kind, t.n, 0, t.text⟩
def xIR (l : Int) (x : Exp) (s : List Tok) : List Tok := bif decide (lvl x < l) then [tkS [40]] ++ s ++ [tkS [41]] else s
def xFV : List (List Tok) → List Tok
 | [] => []
 | a :: r => [tkS [44]] ++ a ++ xFV r
def xJ6 : List (List Tok) → List Tok
 | [] => []
 | a :: r => a ++ xFV r
def xNI (k n : Int) (t : Str) (a : List Exp) (s : List (List Tok)) : List Tok :=
 bif k == 1 then [⟨2, n, 0, []⟩] else bif k == 2 then [⟨3, 0, 0, t⟩] else bif k == 3 then [tkN t]
 else bif k == 4 then [tkS [91]] ++ xJ6 s ++ [tkS [93]]
 else bif k == 5 then [tkN t] ++ [tkS [40]] ++ xJ6 s ++ [tkS [41]]
 else bif k == 7 then [tkN [108, 101, 116]] ++ [tkN t] ++ [tkS [61]] ++ s.getD 0 [] ++ [tkN [105, 110]] ++ s.getD 1 []
 else bif k == 9 then [tkN [102, 111, 114]] ++ [tkN t] ++ [tkN [105, 110]] ++ s.getD 0 [] ++ [tkN [100, 111]] ++ s.getD 1 []
 else bif k == 8 then [tkN [105, 102]] ++ s.getD 0 [] ++ [tkN [116, 104, 101, 110]] ++ s.getD 1 [] ++ [tkN [101, 108, 115, 101]] ++ s.getD 2 []
 else xIR (bif lvl (.mk k n t a) == 1 then 2 else lvl (.mk k n t a)) (a.getD 0 Ty.exp.dflt) (s.getD 0 []) ++ [tkS (xJX n)] ++ xIR (lvl (.mk k n t a) + 1) (a.getD 1 Ty.exp.dflt) (s.getD 1 [])
mutual
def xBy : Exp → List Tok
 | .mk k n t a => xNI k n t a (xO2 a)
def xO2 : List Exp → List (List Tok)
 | [] => []
 | x :: r => xBy x :: xO2 r
end
theorem xRk (l : List Exp) : xO2 l = l.map xBy := by
 induction l with
 | nil => rfl
 | cons x l ih => simp only [xO2, List.map_cons, ih]
theorem xHV (k n : Int) (t : Str) (a : List Exp) : xBy (.mk k n t a) = xNI k n t a (a.map xBy) := by
 simp only [xBy, xRk]
def Lx (p : Int) (acc : List Tok) (s : Str) (p' : Int) (acc' : List Tok) (r : Str) : Prop := ∀ n, s.length < n → ∃ n', r.length < n' ∧ lexL n p acc s = lexL n' p' acc' r
theorem Lx.trans {p p' p'' : Int} {acc acc' acc'' : List Tok} {s s' s'' : Str} (h : Lx p acc s p' acc' s') (h' : Lx p' acc' s' p'' acc'' s'') : Lx p acc s p'' acc'' s'' := fun n hn => by
 obtain ⟨m, h1, h2⟩ := h n hn
 obtain ⟨k, h3, h4⟩ := h' m h1
 exact ⟨k, h3, h2.trans h4⟩
theorem Lx.tok {p : Int} {acc : List Tok} {c : UInt8} {l r : Str} {t : Tok} (h32 : (c.toNat == 32) = false) (ho : xH0 p (c :: l) = some (t, r)) (h60 : acc.length < 60) : Lx p acc (c :: l) (p + ((c :: l).length - r.length : Nat)) (acc ++ [t]) r := fun n hn => by
 have hr := xKf ho
 obtain ⟨k, rfl⟩ : ∃ k, n = k + 1 := ⟨n - 1, by omega⟩
 refine ⟨k, by omega, ?_⟩
 simp only [lexL, h32, jF, ho]
 rw [show (acc.length == 60) = false from beq_eq_false_iff_ne.2 (by omega), jF]
theorem Lx.sp (p : Int) (acc : List Tok) (l : Str) : Lx p acc (32 :: l) (p + 1) acc l := fun n hn => by
 obtain ⟨k, rfl⟩ : ∃ k, n = k + 1 := ⟨n - 1, by omega⟩
 simp only [jC] at hn
 exact ⟨k, by omega, rfl⟩
def Ov (p : Int) (acc : List Tok) (s : Str) : Prop := ∀ n, s.length < n → ∃ q, p ≤ q ∧ lexL n p acc s = ([], q)
theorem Lx.ov {p p' : Int} {acc acc' : List Tok} {s s' : Str} (h : Lx p acc s p' acc' s') (hp : p ≤ p') (h' : Ov p' acc' s') : Ov p acc s := fun n hn => by
 obtain ⟨m, h1, h2⟩ := h n hn
 obtain ⟨q, h3, h4⟩ := h' m h1
 exact ⟨q, by omega, h2.trans h4⟩
def Rd (B : Str → Prop) (x : Str) (U : List Tok) : Prop := ∀ (p : Int) (acc : List Tok) (r : Str), B r → (acc.length + U.length ≤ 60 → ∃ p' T, p ≤ p' ∧ T.map atZ = U ∧ Lx p acc (x ++ r) p' (acc ++ T) r) ∧
 (acc.length ≤ 60 → 60 < acc.length + U.length → Ov p acc (x ++ r))
def Brk (r : Str) : Prop := r = [] ∨ ∃ c l, r = c :: l ∧ isWd c = false
def Any (_ : Str) : Prop := True
theorem Rd.app {B1 B2 : Str → Prop} {x y : Str} {U V : List Tok} (h1 : Rd B1 x U) (h2 : Rd B2 y V) (hB : ∀ r, B2 r → B1 (y ++ r)) : Rd B2 (x ++ y) (U ++ V) := by
 intro p acc r hr
 rw [jA, List.append_assoc]
 refine ⟨fun hl => ?_, fun ha hl => ?_⟩
 · obtain ⟨p1, T1, q1, e1, l1⟩ := (h1 p acc (y ++ r) (hB r hr)).1 (by omega)
   have hT : T1.length = U.length := by rw [← e1, List.length_map]
   obtain ⟨p2, T2, q2, e2, l2⟩ := (h2 p1 (acc ++ T1) r hr).1 (by rw [jA]; omega)
   refine ⟨p2, T1 ++ T2, by omega, by rw [List.map_append, e1, e2], ?_⟩
   rw [← List.append_assoc acc]
   exact l1.trans l2
 · by_cases hu : acc.length + U.length ≤ 60
   · obtain ⟨p1, T1, q1, e1, l1⟩ := (h1 p acc (y ++ r) (hB r hr)).1 hu
     have hT : T1.length = U.length := by rw [← e1, List.length_map]
     exact l1.ov q1 ((h2 p1 (acc ++ T1) r hr).2 (by rw [jA]; omega) (by rw [jA]; omega))
   · exact (h1 p acc (y ++ r) (hB r hr)).2 ha (by omega)
theorem Rd.weak {B B' : Str → Prop} {x : Str} {U : List Tok} (h : Rd B x U) (hB : ∀ r, B' r → B r) : Rd B' x U := fun p acc r hr => h p acc r (hB r hr)
theorem Rd.none {B : Str → Prop} : Rd B [] [] := fun p acc r _ => ⟨fun _ => ⟨p, [], Int.le_refl _, rfl, by rw [List.append_nil]; exact fun n hn => ⟨n, hn, rfl⟩⟩, fun h1 h2 => by simp only [jN] at h2; omega⟩
theorem Rd.sp : Rd Any [32] [] := fun p acc r _ => ⟨fun _ => ⟨p + 1, [], by omega, rfl, by rw [List.append_nil]; exact Lx.sp p acc r⟩, fun h1 h2 => by simp only [jN] at h2; omega⟩
theorem Rd.one {B : Str → Prop} {c : UInt8} {x : Str} {u : Tok} (h32 : (c.toNat == 32) = false) (h : ∀ (p : Int) (r : Str), B r → ∃ t, xH0 p (c :: x ++ r) = some (t, r) ∧ atZ t = u) : Rd B (c :: x) [u] := by
 intro p acc r hr
 obtain ⟨t, h1, h2⟩ := h p r hr
 refine ⟨fun hl => ⟨_, [t], ?_, by rw [List.map_cons, h2]; rfl, Lx.tok h32 h1 (by simp only [jC, jN] at hl; omega)⟩, fun ha hl n hn => ?_⟩
 · exact Int.le_add_of_nonneg_right (Int.natCast_nonneg _)
 · simp only [jC, jN] at hl
   obtain ⟨k, rfl⟩ : ∃ k, n = k + 1 := ⟨n - 1, by omega⟩
   refine ⟨p, Int.le_refl _, ?_⟩
   rw [List.cons_append] at h1 ⊢
   simp only [lexL, h32, jF, h1]
   rw [show (acc.length == 60) = true from beq_iff_eq.2 (by omega), jT]
theorem xIm {c : UInt8} (h : isWd c = false) (l : Str) : Brk (c :: l) := .inr ⟨c, l, rfl, h⟩
theorem xLh {p : UInt8 → Bool} (hp : ∀ c, isWd c = false → p c = false) {r : Str} (hr : Brk r) : ∀ {w : Str}, w.all p = true → (w ++ r).dropWhile p = r
 | [], _ => by
   rcases hr with rfl | ⟨c, l, rfl, hc⟩
   · rfl
   · rw [List.nil_append, List.dropWhile_cons]; simp [hp c hc]
 | d :: w, h => by
   rw [List.all_cons, Bool.and_eq_true] at h
   rw [List.cons_append, List.dropWhile_cons]
   simp only [h.1, if_true]
   exact xLh hp hr h.2
theorem xO1 (w r : Str) : (w ++ r).take ((w ++ r).length - r.length) = w := by
 rw [jA, Nat.add_sub_cancel, List.take_left]
def Word (w : Str) : Prop := ∃ c l, w = c :: l ∧ xGn c = true ∧ l.all isWd = true ∧ w.length ≤ 8
theorem xPO {c : UInt8} : xGn c = true ↔ 97 ≤ c.toNat ∧ c.toNat ≤ 122 := by unfold xGn; rw [Bool.and_eq_true, decide_eq_true_eq, decide_eq_true_eq]
theorem Rd.word {w : Str} (h : Word w) : Rd Brk w [tkN w] := by
 obtain ⟨c, l, rfl, h1, h2, h3⟩ := h
 have hc := xPO.1 h1
 refine .one (beq_eq_false_iff_ne.2 (by omega)) fun p r hr => ?_
 have hw : isWd c = true := by unfold isWd; rw [h1]; rfl
 have hall : (c :: l).all isWd = true := by rw [List.all_cons, hw, h2]; rfl
 have hd := xLh (p := isWd) (fun c h => h) hr hall
 have ht := xO1 (c :: l) r
 rw [List.cons_append] at hd ht ⊢
 rw [xC8, h1, jT, hd, ht]
 refine ⟨⟨1, 0, p, c :: l⟩, ?_, rfl⟩
 have e : (c :: (l ++ r)).length - r.length ≤ 8 := by simp only [jC, jA] at h3 ⊢; omega
 rw [decide_eq_true e, jT]
theorem Rd.num {n : Int} (h : 0 ≤ n ∧ n ≤ 1000000000) : Rd Brk (Lib.itoa n) [⟨2, n, 0, []⟩] := by
 obtain ⟨v, rfl⟩ : ∃ v : Nat, n = (v : Int) := ⟨n.toNat, by omega⟩
 obtain ⟨h1, h2, h3, h4⟩ := xKu (v := v) (by omega)
 have hv := xJs (v := v) (by omega)
 generalize Lib.itoa (v : Int) = w at h1 h3 h4 hv
 obtain ⟨c, l, rfl⟩ : ∃ c l, w = c :: l := by
  cases w with
  | nil => exact absurd rfl h4
  | cons c l => exact ⟨c, l, rfl⟩
 have hc := h1
 rw [List.all_cons, Bool.and_eq_true] at hc
 have hd0 := xG1.1 hc.1
 have hL : xGn c = false := by
  unfold xGn
  rw [decide_eq_false (by omega : ¬ 97 ≤ c.toNat)]; rfl
 refine .one (beq_eq_false_iff_ne.2 (by omega)) fun p r hr => ?_
 have hd := xLh (p := xCn) (fun c h => by
  unfold isWd at h
  rw [Bool.or_eq_false_iff] at h
  exact h.2) hr h1
 have ht := xO1 (c :: l) r
 rw [List.cons_append] at hd ht ⊢
 rw [xC8, hL, hc.1, jF, jT, hd, ht, hv]
 exact ⟨_, rfl, rfl⟩
theorem xMY {p : Nat → UInt8 → Bool} {q : UInt8 → Bool} (h : ∀ i c, p i c = true → q c = true) : ∀ {l : Str} {i : Nat}, allI p l i = true → l.all q = true
 | [], _, _ => rfl
 | c :: l, i, hl => by
   have hl : (p i c && allI p l (i + 1)) = true := hl
   rw [Bool.and_eq_true] at hl
   rw [List.all_cons, h _ _ hl.1, xMY h hl.2]; rfl
theorem xPE {t r : Str} : ∀ {t : Str}, t.all notQ = true → (t ++ 34 :: r).dropWhile notQ = 34 :: r
 | [], _ => rfl
 | d :: w, h => by
   rw [List.all_cons, Bool.and_eq_true] at h
   rw [List.cons_append, List.dropWhile_cons]
   simp only [h.1, if_true]
   exact xPE (t := t) h.2
theorem Rd.txt {t : Str} (h : xHe t = true) : Rd Any ([34] ++ t ++ [34]) [⟨3, 0, 0, t⟩] := by
 have ha : t.all notQ = true := by
  unfold xHe at h
  rw [Bool.and_eq_true] at h
  refine xMY (fun i c hc => ?_) h.1
  have hc : xUP c = true := hc
  unfold xUP at hc
  simp only [Bool.and_eq_true] at hc
  have := hc.2.2
  rw [xRu] at this
  exact this
 refine .one (c := 34) (x := t ++ [34]) rfl fun p r _ => ?_
 rw [List.cons_append, xC8]
 have hd : (t ++ [34] ++ r).dropWhile notQ = 34 :: r := by
  rw [List.append_assoc]
  exact xPE (t := t) ha
 have ht : (t ++ [34] ++ r).take ((t ++ [34] ++ r).length - (34 :: r).length) = t := by
  rw [List.append_assoc, show [34] ++ r = 34 :: r from rfl, jA, Nat.add_sub_cancel, List.take_left]
 rw [show xGn 34 = false from rfl, show xCn 34 = false from rfl, show ((34 : UInt8).toNat == 34) = true from rfl]
 simp only [jF, jT, hd, ht, h]
 exact ⟨_, rfl, rfl⟩
theorem Rd.sym {c : UInt8} (h1 : xKq c = true) (h2 : c.toNat ≠ 61) (h32 : (c.toNat == 32) = false) (hL : xGn c = false) (hD : xCn c = false) (h34 : (c.toNat == 34) = false) : Rd Any [c] [tkS [c]] := by
 refine .one h32 fun p r _ => ?_
 have hp : Lib.hasPrefix (c :: r) [61, 61] = false := by
  unfold Lib.hasPrefix
  have : (61 == c) = false := beq_eq_false_iff_ne.2 fun e => h2 (by rw [← e]; rfl)
  simp [List.isPrefixOf, this]
 show ∃ t, xH0 p (c :: r) = _ ∧ _
 rw [xC8, hL, hD, h34, hp, h1]
 exact ⟨_, rfl, rfl⟩
def Sp (r : Str) : Prop := ∃ l, r = 32 :: l
theorem Rd.eq : Rd Sp [61] [tkS [61]] := by
 refine .one rfl fun p r hr => ?_
 obtain ⟨l, rfl⟩ := hr
 exact ⟨⟨4, 0, p, [61]⟩, rfl, rfl⟩
theorem Rd.eqeq : Rd Any [61, 61] [tkS [61, 61]] := .one (c := 61) (x := [61]) rfl fun p r _ => ⟨⟨4, 0, p, [61, 61]⟩, by
 show xH0 p (61 :: 61 :: r) = _
 rw [xC8]
 have : Lib.hasPrefix (61 :: 61 :: r) [61, 61] = true := by simp [Lib.hasPrefix, List.isPrefixOf]
 rw [this]; rfl, rfl⟩
theorem xZM (l : Str) : Brk (32 :: l) := xIm rfl l
theorem Rd.any {B : Str → Prop} {x : Str} {U : List Tok} (h : Rd Any x U) : Rd B x U := h.weak fun _ _ => trivial
theorem Rd.blank {B : Str → Prop} {x : Str} {U : List Tok} (h : Rd Brk x U) : Rd B (x ++ [32]) U := by
 have := Rd.app h (B2 := B) Rd.sp.any (fun r _ => xZM r)
 rwa [List.append_nil] at this
theorem Rd.lead {B : Str → Prop} {x : Str} {U : List Tok} (h : Rd B x U) : Rd B ([32] ++ x) U := Rd.app Rd.sp h fun _ _ => trivial
theorem Rd.encl {l : Int} {x : Exp} {s : Str} {U : List Tok} (h : Rd Brk s U) : Rd Brk (encl l x s) (xIR l x U) := by
 unfold Go.Ab.encl xIR
 cases decide (lvl x < l)
 · exact h
 · exact Rd.app (Rd.app (Rd.sym (c := 40) rfl (by decide) rfl rfl rfl rfl) h fun _ _ => trivial) (Rd.sym (c := 41) rfl (by decide) rfl rfl rfl rfl).any fun r _ => xIm rfl _
theorem Rd.tail : ∀ {a : List Exp}, (∀ x ∈ a, Rd Brk (srcE x) (xBy x)) → Rd Brk (Lib.joinTail [44, 32] (a.map srcE)) (xFV (a.map xBy))
 | [], _ => Rd.none
 | x :: a, h => by
   have e : Lib.joinTail [44, 32] ((x :: a).map srcE) = ([44] ++ ([32] ++ srcE x)) ++ Lib.joinTail [44, 32] (a.map srcE) := by
    simp only [Lib.joinTail, List.map_cons, List.flatten_cons]; rfl
   rw [e]
   show Rd Brk _ (([tkS [44]] ++ xBy x) ++ xFV (a.map xBy))
   refine Rd.app (B1 := Brk) (Rd.app (Rd.sym (c := 44) rfl (by decide) rfl rfl rfl rfl) (Rd.lead (h x List.mem_cons_self)) fun _ _ => trivial) (Rd.tail fun y hy => h y (List.mem_cons_of_mem _ hy)) fun r hr => ?_
   cases a with
   | nil => exact hr
   | cons y a =>
     have e : Lib.joinTail [44, 32] ((y :: a).map srcE) = 44 :: (32 :: srcE y ++ Lib.joinTail [44, 32] (a.map srcE)) := by
      simp only [Lib.joinTail, List.map_cons, List.flatten_cons]; rfl
     rw [e]
     exact xIm rfl _
theorem xRv {a : List Exp} {r : Str} (hr : Brk r) : Brk (Lib.joinTail [44, 32] (a.map srcE) ++ r) := by
 cases a with
 | nil => exact hr
 | cons y a =>
   have e : Lib.joinTail [44, 32] ((y :: a).map srcE) = 44 :: (32 :: srcE y ++ Lib.joinTail [44, 32] (a.map srcE)) := by
    simp only [Lib.joinTail, List.map_cons, List.flatten_cons]; rfl
   rw [e]
   exact xIm rfl _
theorem Rd.join {a : List Exp} (h : ∀ x ∈ a, Rd Brk (srcE x) (xBy x)) : Rd Brk (Lib.join (a.map srcE) [44, 32]) (xJ6 (a.map xBy)) := by
 cases a with
 | nil => exact Rd.none
 | cons x a =>
   rw [List.map_cons, Lib.join_cons, List.map_cons]
   exact Rd.app (h x List.mem_cons_self) (Rd.tail fun y hy => h y (List.mem_cons_of_mem _ hy)) fun r hr => xRv hr
theorem Word.of_name {s : Str} (h : xB1 s = true) : Word s := by
 unfold xB1 at h
 simp only [Bool.and_eq_true, decide_eq_true_eq] at h
 obtain ⟨⟨h1, h2, h3⟩, _⟩ := h
 have lt (x : UInt8) : xIv x = xGn x := by
  unfold xIv xGn
  rw [← xPD, ← xM1]
 have dg (x : UInt8) : xJ7 x = xCn x := by
  unfold xJ7 xCn
  rw [← xNz, ← xNA]
 have tl : ∀ l : Str, xG2 l false = true → l.all isWd = true := by
  intro l
  induction l with
  | nil => exact fun _ => rfl
  | cons x l ih =>
    intro h
    simp only [xG2, Bool.not_false, Bool.true_and, Bool.and_eq_true] at h
    rw [List.all_cons, ih h.2, Bool.and_true]
    unfold isWd
    rw [← lt, ← dg]
    exact h.1
 cases s with
 | nil => simp at h2
 | cons c l =>
   simp only [xG2, Bool.not_true, Bool.false_and, Bool.or_false, Bool.and_eq_true] at h1
   exact ⟨c, l, rfl, by rw [← lt]; exact h1.1, tl l h1.2, by omega⟩
theorem Word.of_call {s : Str} (h : 0 ≤ argc s) : Word s ∧ xB1 s = false ∧ s ≠ [108, 101, 116] ∧ s ≠ [105, 102] ∧ s ≠ [102, 111, 114] := by
 have key : s ∈ ([[99, 108, 111, 99, 107], [108, 101, 110], [115, 117, 109], [114, 111, 119, 115], [99, 104, 97, 110, 99, 101], [102, 105, 108, 101], [116, 97, 107, 101], [115, 107, 105, 112], [114, 97, 110, 103, 101], [110, 116, 104], [107, 101, 101, 112], [99, 111, 108, 117, 109, 110], [116, 97, 98, 108, 101], [119, 104, 101, 114, 101], [103, 114, 111, 117, 112], [106, 111, 105, 110], [97, 100, 100]] : List Str) := by
  have h2 := xEA 0 s
  unfold xBL at h2
  simp only [List.mem_cons, List.not_mem_nil, or_false]
  by_cases c1 : s = [99, 108, 111, 99, 107]
  · exact .inl c1
  by_cases c2 : s = [108, 101, 110]
  · exact .inr (.inl c2)
  by_cases c3 : s = [115, 117, 109]
  · simp [c3]
  by_cases c4 : s = [114, 111, 119, 115]
  · simp [c4]
  by_cases c5 : s = [99, 104, 97, 110, 99, 101]
  · simp [c5]
  by_cases c6 : s = [102, 105, 108, 101]
  · simp [c6]
  by_cases c7 : s = [116, 97, 107, 101]
  · simp [c7]
  by_cases c8 : s = [115, 107, 105, 112]
  · simp [c8]
  by_cases c9 : s = [114, 97, 110, 103, 101]
  · simp [c9]
  by_cases c10 : s = [110, 116, 104]
  · simp [c10]
  by_cases c11 : s = [107, 101, 101, 112]
  · simp [c11]
  by_cases c12 : s = [99, 111, 108, 117, 109, 110]
  · simp [c12]
  by_cases c13 : s = [116, 97, 98, 108, 101]
  · simp [c13]
  by_cases c14 : s = [119, 104, 101, 114, 101]
  · simp [c14]
  by_cases c15 : s = [103, 114, 111, 117, 112]
  · simp [c15]
  by_cases c16 : s = [106, 111, 105, 110]
  · simp [c16]
  by_cases c17 : s = [97, 100, 100]
  · simp [c17]
  exfalso
  simp only [beq_eq_false_iff_ne.2 c1, beq_eq_false_iff_ne.2 c2, beq_eq_false_iff_ne.2 c3, beq_eq_false_iff_ne.2 c4, beq_eq_false_iff_ne.2 c5, beq_eq_false_iff_ne.2 c6, beq_eq_false_iff_ne.2 c7, beq_eq_false_iff_ne.2 c8, beq_eq_false_iff_ne.2 c9, beq_eq_false_iff_ne.2 c10, beq_eq_false_iff_ne.2 c11, beq_eq_false_iff_ne.2 c12, beq_eq_false_iff_ne.2 c13, beq_eq_false_iff_ne.2 c14, beq_eq_false_iff_ne.2 c15, beq_eq_false_iff_ne.2 c16, beq_eq_false_iff_ne.2 c17, jF, Option.some.injEq] at h2
  omega
 have all : ∀ s ∈ ([[99, 108, 111, 99, 107], [108, 101, 110], [115, 117, 109], [114, 111, 119, 115], [99, 104, 97, 110, 99, 101], [102, 105, 108, 101], [116, 97, 107, 101], [115, 107, 105, 112], [114, 97, 110, 103, 101], [110, 116, 104], [107, 101, 101, 112], [99, 111, 108, 117, 109, 110], [116, 97, 98, 108, 101], [119, 104, 101, 114, 101], [103, 114, 111, 117, 112], [106, 111, 105, 110], [97, 100, 100]] : List Str), Word s ∧ xB1 s = false ∧ s ≠ [108, 101, 116] ∧ s ≠ [105, 102] ∧ s ≠ [102, 111, 114] := by
  intro s hs
  simp only [List.mem_cons, List.not_mem_nil, or_false] at hs
  rcases hs with rfl | rfl | rfl | rfl | rfl | rfl | rfl | rfl | rfl | rfl | rfl | rfl | rfl | rfl | rfl | rfl | rfl <;> exact ⟨⟨_, _, rfl, rfl, rfl, by decide⟩, rfl, by decide, by decide, by decide⟩
 exact all s key
theorem xNr : ∀ e : Exp, okE e = true → Rd Brk (srcE e) (xBy e) := by
 refine Exp.ind fun k n t a ih h => ?_
 rw [xNb, Bool.and_eq_true] at h
 obtain ⟨ha, hn⟩ := h
 have hR : ∀ x ∈ a, Rd Brk (srcE x) (xBy x) := fun x hx => ih x hx (List.all_eq_true.1 ha x hx)
 have hn : xFe xHe xB1 argc k n t a.length = true := hn
 rw [xOl, xHV]
 have kLet : Word [108, 101, 116] := ⟨_, _, rfl, rfl, rfl, by decide⟩
 have kIn : Word [105, 110] := ⟨_, _, rfl, rfl, rfl, by decide⟩
 have kFor : Word [102, 111, 114] := ⟨_, _, rfl, rfl, rfl, by decide⟩
 have kDo : Word [100, 111] := ⟨_, _, rfl, rfl, rfl, by decide⟩
 have kIf : Word [105, 102] := ⟨_, _, rfl, rfl, rfl, by decide⟩
 have kThen : Word [116, 104, 101, 110] := ⟨_, _, rfl, rfl, rfl, by decide⟩
 have kElse : Word [101, 108, 115, 101] := ⟨_, _, rfl, rfl, rfl, by decide⟩
 rcases kinds hn with rfl | rfl | rfl | rfl | rfl | ⟨rfl, h1, h5, hl2⟩ | ⟨rfl, hl2⟩ | ⟨rfl, hl2⟩ | ⟨rfl, hl2⟩
 · simp only [xFe, show ((1 : Int) == 1) = true from rfl, jT, Bool.and_eq_true, decide_eq_true_eq] at hn
   exact Rd.num hn.1
 · simp only [xFe, show ((2 : Int) == 1) = false from rfl, show ((2 : Int) == 2) = true from rfl, jT, jF, Bool.and_eq_true] at hn
   exact (Rd.txt hn.2.1).any
 · simp only [xFe, show ((3 : Int) == 1) = false from rfl, show ((3 : Int) == 2) = false from rfl, show ((3 : Int) == 3) = true from rfl, jT, jF, Bool.and_eq_true] at hn
   exact Rd.word (.of_name hn.2.1)
 · exact Rd.app (Rd.app (Rd.sym (c := 91) rfl (by decide) rfl rfl rfl rfl) (Rd.join hR) fun _ _ => trivial) (Rd.sym (c := 93) rfl (by decide) rfl rfl rfl rfl).any fun r _ => xIm rfl _
 · simp only [xFe, show ((5 : Int) == 1) = false from rfl, show ((5 : Int) == 2) = false from rfl, show ((5 : Int) == 3) = false from rfl, show ((5 : Int) == 4) = false from rfl, show ((5 : Int) == 5) = true from rfl, jT, jF, Bool.and_eq_true, beq_iff_eq] at hn
   have hw := (Word.of_call (s := t) (by omega)).1
   exact Rd.app (Rd.app (Rd.app (B2 := Any) (Rd.word hw) (Rd.sym (c := 40) rfl (by decide) rfl rfl rfl rfl) fun r _ => xIm rfl _) (Rd.join hR) fun _ _ => trivial) (Rd.sym (c := 41) rfl (by decide) rfl rfl rfl rfl).any fun r _ => xIm rfl _
 · obtain ⟨x, y, rfl⟩ := xJN hl2
   have hx := hR x (by simp)
   have hy := hR y (by simp)
   have hop : Rd Sp (xJX n) [tkS (xJX n)] := by
    have : n = 1 ∨ n = 2 ∨ n = 3 ∨ n = 4 ∨ n = 5 := by omega
    rcases this with rfl | rfl | rfl | rfl | rfl
    · exact (Rd.sym (c := 43) rfl (by decide) rfl rfl rfl rfl).any
    · exact (Rd.sym (c := 45) rfl (by decide) rfl rfl rfl rfl).any
    · exact (Rd.sym (c := 42) rfl (by decide) rfl rfl rfl rfl).any
    · exact (Rd.sym (c := 60) rfl (by decide) rfl rfl rfl rfl).any
    · exact Rd.eqeq.any
   have e1 : xHH 6 n t [x, y] ([x, y].map srcE) = ((encl (bif lvl (.mk 6 n t [x, y]) == 1 then 2 else lvl (.mk 6 n t [x, y])) x (srcE x) ++ [32]) ++ xJX n) ++ ([32] ++ encl (lvl (.mk 6 n t [x, y]) + 1) y (srcE y)) := by
    have : xHH 6 n t [x, y] ([x, y].map srcE) = encl (bif lvl (.mk 6 n t [x, y]) == 1 then 2 else lvl (.mk 6 n t [x, y])) x (srcE x) ++ [32] ++ xJX n ++ [32] ++ encl (lvl (.mk 6 n t [x, y]) + 1) y (srcE y) := rfl
    rw [this]; simp only [List.append_assoc]
   have e2 : xNI 6 n t [x, y] ([x, y].map xBy) = (xIR (bif lvl (.mk 6 n t [x, y]) == 1 then 2 else lvl (.mk 6 n t [x, y])) x (xBy x) ++ [tkS (xJX n)]) ++ xIR (lvl (.mk 6 n t [x, y]) + 1) y (xBy y) := rfl
   rw [e1, e2]
   exact Rd.app (Rd.app (B2 := Sp) (Rd.blank (B := Any) (Rd.encl hx)) hop fun _ _ => trivial) (Rd.lead (Rd.encl hy)) fun r _ => ⟨_, rfl⟩
 · obtain ⟨x, y, rfl⟩ := xJN hl2
   have hx := hR x (by simp)
   have hy := hR y (by simp)
   simp only [xFe, show ((7 : Int) == 1) = false from rfl, show ((7 : Int) == 2) = false from rfl, show ((7 : Int) == 3) = false from rfl, show ((7 : Int) == 4) = false from rfl, show ((7 : Int) == 5) = false from rfl, show ((7 : Int) == 6) = false from rfl, show ((7 : Int) == 7) = true from rfl, jT, jF, Bool.and_eq_true] at hn
   have hw := Word.of_name hn.2.1
   have e1 : xHH 7 n t [x, y] ([x, y].map srcE) = (((((([108, 101, 116] ++ [32]) ++ (t ++ [32])) ++ [61]) ++ ([32] ++ (srcE x ++ [32]))) ++ ([105, 110] ++ [32])) ++ srcE y) := by
    have : xHH 7 n t [x, y] ([x, y].map srcE) = [108, 101, 116, 32] ++ t ++ [32, 61, 32] ++ srcE x ++ [32, 105, 110, 32] ++ srcE y := rfl
    rw [this]; simp only [List.append_assoc, List.cons_append, List.nil_append]
   have e2 : xNI 7 n t [x, y] ([x, y].map xBy) = ((((([tkN [108, 101, 116]] ++ [tkN t]) ++ [tkS [61]]) ++ xBy x) ++ [tkN [105, 110]]) ++ xBy y) := rfl
   rw [e1, e2]
   exact Rd.app (Rd.app (B2 := Any) (Rd.app (B2 := Any) (Rd.app (B2 := Sp) (Rd.app (B2 := Any) (Rd.blank (B := Any) (Rd.word kLet)) (Rd.blank (Rd.word hw)) fun _ _ => trivial) Rd.eq fun _ _ => trivial) (Rd.lead (Rd.blank hx)) fun r _ => ⟨_, rfl⟩) (Rd.blank (Rd.word kIn)) fun _ _ => trivial) hy fun _ _ => trivial
 · obtain ⟨x, y, rfl⟩ := xJN hl2
   have hx := hR x (by simp)
   have hy := hR y (by simp)
   simp only [xFe, show ((9 : Int) == 1) = false from rfl, show ((9 : Int) == 2) = false from rfl, show ((9 : Int) == 3) = false from rfl, show ((9 : Int) == 4) = false from rfl, show ((9 : Int) == 5) = false from rfl, show ((9 : Int) == 6) = false from rfl, show ((9 : Int) == 7) = false from rfl, show ((9 : Int) == 9) = true from rfl, jT, jF, Bool.and_eq_true] at hn
   have hw := Word.of_name hn.2.1
   have e1 : xHH 9 n t [x, y] ([x, y].map srcE) = (((((([102, 111, 114] ++ [32]) ++ (t ++ [32])) ++ ([105, 110] ++ [32])) ++ (srcE x ++ [32])) ++ ([100, 111] ++ [32])) ++ srcE y) := by
    have : xHH 9 n t [x, y] ([x, y].map srcE) = [102, 111, 114, 32] ++ t ++ [32, 105, 110, 32] ++ srcE x ++ [32, 100, 111, 32] ++ srcE y := rfl
    rw [this]; simp only [List.append_assoc, List.cons_append, List.nil_append]
   have e2 : xNI 9 n t [x, y] ([x, y].map xBy) = ((((([tkN [102, 111, 114]] ++ [tkN t]) ++ [tkN [105, 110]]) ++ xBy x) ++ [tkN [100, 111]]) ++ xBy y) := rfl
   rw [e1, e2]
   exact Rd.app (Rd.app (B2 := Any) (Rd.app (B2 := Any) (Rd.app (B2 := Any) (Rd.app (B2 := Any) (Rd.blank (B := Any) (Rd.word kFor)) (Rd.blank (Rd.word hw)) fun _ _ => trivial) (Rd.blank (Rd.word kIn)) fun _ _ => trivial) (Rd.blank hx) fun _ _ => trivial) (Rd.blank (Rd.word kDo)) fun _ _ => trivial) hy fun _ _ => trivial
 · obtain ⟨x, y, z, rfl⟩ := xMO hl2
   have hx := hR x (by simp)
   have hy := hR y (by simp)
   have hz := hR z (by simp)
   have e1 : xHH 8 n t [x, y, z] ([x, y, z].map srcE) = (((((([105, 102] ++ [32]) ++ (srcE x ++ [32])) ++ ([116, 104, 101, 110] ++ [32])) ++ (srcE y ++ [32])) ++ ([101, 108, 115, 101] ++ [32])) ++ srcE z) := by
    have : xHH 8 n t [x, y, z] ([x, y, z].map srcE) = [105, 102, 32] ++ srcE x ++ [32, 116, 104, 101, 110, 32] ++ srcE y ++ [32, 101, 108, 115, 101, 32] ++ srcE z := rfl
    rw [this]; simp only [List.append_assoc, List.cons_append, List.nil_append]
   have e2 : xNI 8 n t [x, y, z] ([x, y, z].map xBy) = ((((([tkN [105, 102]] ++ xBy x) ++ [tkN [116, 104, 101, 110]]) ++ xBy y) ++ [tkN [101, 108, 115, 101]]) ++ xBy z) := rfl
   rw [e1, e2]
   exact Rd.app (Rd.app (B2 := Any) (Rd.app (B2 := Any) (Rd.app (B2 := Any) (Rd.app (B2 := Any) (Rd.blank (B := Any) (Rd.word kIf)) (Rd.blank hx) fun _ _ => trivial) (Rd.blank (Rd.word kThen)) fun _ _ => trivial) (Rd.blank hy) fun _ _ => trivial) (Rd.blank (Rd.word kElse)) fun _ _ => trivial) hz fun _ _ => trivial
theorem xNH {e : Exp} (h : okE e = true) (h1 : (srcE e).length ≤ 120) (h2 : (xBy e).length ≤ 60) : ∃ T, T.map atZ = xBy e ∧ lex (srcE e) = (T, -1) := by
 obtain ⟨p', T, _, e1, hl⟩ := (xNr e h 0 [] [] (.inl rfl)).1 (by simpa using h2)
 rw [List.append_nil, List.nil_append] at hl
 obtain ⟨n, hn, he⟩ := hl ((srcE e).length + 1) (by omega)
 refine ⟨T, e1, ?_⟩
 unfold lex
 rw [decide_eq_false (by omega), jF, he]
 obtain ⟨n, rfl⟩ : ∃ k, n = k + 1 := ⟨n - 1, by simp at hn; omega⟩
 rfl
theorem xOx {e : Exp} (h : okE e = true) (h1 : (srcE e).length ≤ 120) (h2 : 60 < (xBy e).length) : ∃ q, 0 ≤ q ∧ lex (srcE e) = ([], q) := by
 have ho := (xNr e h 0 [] [] (.inl rfl)).2 (by simp) (by simpa using h2)
 rw [List.append_nil] at ho
 obtain ⟨q, h3, h4⟩ := ho ((srcE e).length + 1) (by omega)
 refine ⟨q, h3, ?_⟩
 unfold lex
 rw [decide_eq_false (by omega), jF, h4]
end Go.Ab
end
section
namespace Go.Ab
theorem xDS {T A B : List Tok} (h : T.map atZ = A ++ B) : ∃ T1 T2, T = T1 ++ T2 ∧ T1.map atZ = A ∧ T2.map atZ = B := List.map_eq_append_iff.1 h
theorem xEn {T : List Tok} {u : Tok} (h : T.map atZ = [u]) : ∃ t, T = [t] ∧ atZ t = u := by
 match T, h with
 | [t], h => exact ⟨t, rfl, by simpa using h⟩
theorem xJx {t u : Tok} (h : atZ t = u) (s : Str) : isS t s = isS u s := by subst h; rfl
theorem xNF {t u : Tok} (h : atZ t = u) (s : Str) : isK t s = isK u s := by subst h; rfl
def xOq (r : List Tok) : Prop := seeS [42] r = false
theorem xKO {t u : Tok} {r : List Tok} (h : atZ t = u) (hq : xMQ [u]) : xMQ (t :: r) := by
 subst h; exact hq
theorem xLo {t u : Tok} {s : Str} {r : List Tok} (h : atZ t = u) (hu : (isK u s || isS u s) = true) : xFZ s (t :: r) = .ok () r := by
 subst h
 have : (isK t s || isS t s) = true := hu
 simp only [xFZ, this, jT]
def PX (x : Exp) : Prop := ∀ T m rest, T.map atZ = xBy x → T.length < m → xMQ rest → pE m (T ++ rest) = .ok x rest
def PA (x : Exp) (U : List Tok) : Prop := ∀ T m rest, T.map atZ = U → T.length ≤ m → xGB (pE m) (m + 1) (T ++ rest) = .ok x rest
def PB (x : Exp) (U : List Tok) : Prop := ∀ T m rest, T.map atZ = U → T.length ≤ m → ∃ M', m + 1 ≤ M' + T.length ∧ M' ≤ m + 1 ∧ xKN (xGB (pE m) (m + 1)) (m + 1) (T ++ rest) = xJe (xGB (pE m) (m + 1)) M' x rest
def PC (x : Exp) (U : List Tok) : Prop := ∀ T m rest, T.map atZ = U → T.length ≤ m → xOq rest → ∃ M', m + 1 ≤ M' + T.length ∧ M' ≤ m + 1 ∧ pSum (xKN (xGB (pE m) (m + 1)) (m + 1)) (m + 1) (T ++ rest) = xJy (xKN (xGB (pE m) (m + 1)) (m + 1)) M' x rest
def PD (x : Exp) (U : List Tok) : Prop := ∀ T m rest, T.map atZ = U → T.length ≤ m → xMQ rest → pCmp (xK8 (pE m) (m + 1)) (T ++ rest) = .ok x rest
theorem PA.b {x : Exp} {U : List Tok} (h : PA x U) : PB x U := fun T m rest hT hm => ⟨m + 1, by omega, Nat.le_refl _, by
 unfold xKN
 rw [PR.bind_of (h T m rest hT hm)]⟩
theorem PB.ok {x : Exp} {U : List Tok} (h : PB x U) {T rest : List Tok} {m : Nat} (hT : T.map atZ = U) (hm : T.length ≤ m) (hr : xOq rest) : xKN (xGB (pE m) (m + 1)) (m + 1) (T ++ rest) = .ok x rest := by
 obtain ⟨M', h1, h2, h3⟩ := h T m rest hT hm
 obtain ⟨k, rfl⟩ : ∃ k, M' = k + 1 := ⟨M' - 1, by omega⟩
 have hr : seeS [42] rest = false := hr
 rw [h3]
 simp only [xJe, hr, jF]
theorem PB.c {x : Exp} {U : List Tok} (h : PB x U) : PC x U := fun T m rest hT hm hr => ⟨m + 1, by omega, Nat.le_refl _, by
 unfold pSum
 rw [PR.bind_of (h.ok hT hm hr)]⟩
theorem PC.ok {x : Exp} {U : List Tok} (h : PC x U) {T rest : List Tok} {m : Nat} (hT : T.map atZ = U) (hm : T.length ≤ m) (hr : xOq rest) (hp : seeS [43] rest = false) (hq : seeS [45] rest = false) : xK8 (pE m) (m + 1) (T ++ rest) = .ok x rest := by
 obtain ⟨M', h1, h2, h3⟩ := h T m rest hT hm hr
 obtain ⟨k, rfl⟩ : ∃ k, M' = k + 1 := ⟨M' - 1, by omega⟩
 unfold xK8
 rw [h3]
 simp only [xJy, hp, hq, jF]
theorem PC.d {x : Exp} {U : List Tok} (h : PC x U) : PD x U := fun T m rest hT hm hr => by
 unfold pCmp
 rw [PR.bind_of (h.ok hT hm hr.1 hr.2.1 hr.2.2.1)]
 unfold xOc
 rw [hr.2.2.2.1, hr.2.2.2.2]; rfl
theorem PX.encl {x : Exp} (h : PX x) : PA x ([tkS [40]] ++ xBy x ++ [tkS [41]]) := by
 intro T m rest hT hm
 obtain ⟨T1, T2, rfl, h1, h2⟩ := xDS hT
 obtain ⟨T3, T4, rfl, h3, h4⟩ := xDS h1
 obtain ⟨t, rfl, ht⟩ := xEn h3
 obtain ⟨u, rfl, hu⟩ := xEn h2
 simp only [jA, jC, jN] at hm
 have e : [t] ++ T4 ++ [u] ++ rest = t :: (T4 ++ (u :: rest)) := by simp
 have k : t.kind = 4 := by have := congrArg Tok.kind ht; exact this
 have s1 : isS t [91] = false := xJx ht [91]
 have s2 : isS t [40] = true := xJx ht [40]
 rw [e]
 simp only [xGB, k, show ((4 : Int) == 2) = false from rfl, show ((4 : Int) == 3) = false from rfl, show ((4 : Int) == 1) = false from rfl, jF, xJM, s1, s2, jT]
 rw [PR.bind_of (h T4 m (u :: rest) h4 (by omega) (xKO hu ⟨rfl, rfl, rfl, rfl, rfl⟩)), PR.bind_of (xLo hu rfl)]
theorem PA.of {l : Int} {x : Exp} (h : PX x) (ha : 4 ≤ lvl x → PA x (xBy x)) (hl : l = 4) : PA x (xIR l x (xBy x)) := by
 unfold xIR
 by_cases c : lvl x < l
 · rw [decide_eq_true c, jT]; exact h.encl
 · rw [decide_eq_false c, jF]; exact ha (by omega)
theorem PB.of {l : Int} {x : Exp} (h : PX x) (ha : 3 ≤ lvl x → PB x (xBy x)) (hl : 3 ≤ l) : PB x (xIR l x (xBy x)) := by
 unfold xIR
 by_cases c : lvl x < l
 · rw [decide_eq_true c, jT]; exact h.encl.b
 · rw [decide_eq_false c, jF]; exact ha (by omega)
theorem PC.of {l : Int} {x : Exp} (h : PX x) (ha : 2 ≤ lvl x → PC x (xBy x)) (hl : 2 ≤ l) : PC x (xIR l x (xBy x)) := by
 unfold xIR
 by_cases c : lvl x < l
 · rw [decide_eq_true c, jT]; exact h.encl.b.c
 · rw [decide_eq_false c, jF]; exact ha (by omega)
theorem PB.mul {a b : Exp} {U V : List Tok} (ha : PB a U) (hb : PA b V) : PB (.mk 6 3 [] [a, b]) (U ++ [tkS [42]] ++ V) := by
 intro T m rest hT hm
 obtain ⟨T1, Tb, rfl, h1, hTb⟩ := xDS hT
 obtain ⟨Ta, T2, rfl, hTa, h2⟩ := xDS h1
 obtain ⟨t, rfl, ht⟩ := xEn h2
 simp only [jA, jC, jN] at hm
 have e : Ta ++ [t] ++ Tb ++ rest = Ta ++ (t :: (Tb ++ rest)) := by simp
 obtain ⟨M', g1, g2, g3⟩ := ha Ta m (t :: (Tb ++ rest)) hTa (by omega)
 obtain ⟨k, rfl⟩ : ∃ k, M' = k + 1 := ⟨M' - 1, by omega⟩
 have s1 : seeS [42] (t :: (Tb ++ rest)) = true := xJx ht [42]
 refine ⟨k, by simp only [jA, jC, jN]; omega, by omega, ?_⟩
 rw [e, g3]
 simp only [xJe, s1, jT, List.tail_cons]
 rw [PR.bind_of (hb Tb m rest hTb (by omega))]
theorem PC.add {a b : Exp} {U V : List Tok} (ha : PC a U) (hb : PB b V) (n : Int) (hn : n = 1 ∨ n = 2) : PC (.mk 6 n [] [a, b]) (U ++ [tkS (xJX n)] ++ V) := by
 intro T m rest hT hm hr
 obtain ⟨T1, Tb, rfl, h1, hTb⟩ := xDS hT
 obtain ⟨Ta, T2, rfl, hTa, h2⟩ := xDS h1
 obtain ⟨t, rfl, ht⟩ := xEn h2
 simp only [jA, jC, jN] at hm
 have e : Ta ++ [t] ++ Tb ++ rest = Ta ++ (t :: (Tb ++ rest)) := by simp
 have ns : xOq (t :: (Tb ++ rest)) := by
  show isS t [42] = false
  rw [xJx ht]
  rcases hn with rfl | rfl <;> rfl
 obtain ⟨M', g1, g2, g3⟩ := ha Ta m (t :: (Tb ++ rest)) hTa (by omega) ns
 obtain ⟨k, rfl⟩ : ∃ k, M' = k + 1 := ⟨M' - 1, by omega⟩
 have hbk := hb.ok (rest := rest) hTb (by omega : Tb.length ≤ m) hr
 refine ⟨k, by simp only [jA, jC, jN]; omega, by omega, ?_⟩
 rw [e, g3]
 rcases hn with rfl | rfl
 · have s1 : seeS [43] (t :: (Tb ++ rest)) = true := xJx ht [43]
   simp only [xJy, s1, jT, List.tail_cons]
   rw [PR.bind_of hbk]
 · have s1 : seeS [43] (t :: (Tb ++ rest)) = false := xJx ht [43]
   have s2 : seeS [45] (t :: (Tb ++ rest)) = true := xJx ht [45]
   simp only [xJy, s1, s2, jT, jF, List.tail_cons]
   rw [PR.bind_of hbk]
theorem PD.cmp {a b : Exp} {U V : List Tok} (ha : PC a U) (hb : PC b V) (n : Int) (hn : n = 4 ∨ n = 5) : PD (.mk 6 n [] [a, b]) (U ++ [tkS (xJX n)] ++ V) := by
 intro T m rest hT hm hr
 obtain ⟨T1, Tb, rfl, h1, hTb⟩ := xDS hT
 obtain ⟨Ta, T2, rfl, hTa, h2⟩ := xDS h1
 obtain ⟨t, rfl, ht⟩ := xEn h2
 simp only [jA, jC, jN] at hm
 have e : Ta ++ [t] ++ Tb ++ rest = Ta ++ (t :: (Tb ++ rest)) := by simp
 have q : ∀ s, s = [42] ∨ s = [43] ∨ s = [45] → seeS s (t :: (Tb ++ rest)) = false := by
  intro s hs
  show isS t s = false
  rw [xJx ht]
  rcases hn with rfl | rfl <;> rcases hs with rfl | rfl | rfl <;> rfl
 have hak := ha.ok (rest := t :: (Tb ++ rest)) hTa (by omega : Ta.length ≤ m) (q _ (.inl rfl)) (q _ (.inr (.inl rfl))) (q _ (.inr (.inr rfl)))
 have hbk := hb.ok (rest := rest) hTb (by omega : Tb.length ≤ m) hr.1 hr.2.1 hr.2.2.1
 unfold pCmp
 rw [e, PR.bind_of hak]
 unfold xOc
 rcases hn with rfl | rfl
 · have s1 : seeS [60] (t :: (Tb ++ rest)) = true := xJx ht [60]
   rw [s1, jT, List.tail_cons, PR.bind_of hbk]
 · have s1 : seeS [60] (t :: (Tb ++ rest)) = false := xJx ht [60]
   have s2 : seeS [61, 61] (t :: (Tb ++ rest)) = true := xJx ht [61, 61]
   rw [s1, s2, jT, jF, List.tail_cons, PR.bind_of hbk]
theorem xPf {c : Str} (hc : c = [41] ∨ c = [93]) : ∀ (xs : List Exp) (x : Exp) (T rest : List Tok) (m fuel : Nat) (acc : List Exp), (∀ y ∈ x :: xs, PX y) → T.map atZ = xBy x ++ xFV (xs.map xBy) ++ [tkS c] → T.length ≤ m → T.length ≤ fuel →
 xJd (pE m) c fuel acc (T ++ rest) = .ok (acc ++ x :: xs) rest := by
 intro xs
 induction xs with
 | nil =>
   intro x T rest m fuel acc hx hT hm hf
   obtain ⟨T1, T2, rfl, h1, h2⟩ := xDS hT
   obtain ⟨u, rfl, hu⟩ := xEn h2
   rw [List.map_nil, xFV, List.append_nil] at h1
   simp only [jA, jC, jN] at hm hf
   obtain ⟨fuel, rfl⟩ : ∃ k, fuel = k + 1 := ⟨fuel - 1, by omega⟩
   have e : T1 ++ [u] ++ rest = T1 ++ (u :: rest) := by simp
   have hq : xMQ (u :: rest) := xKO hu (by rcases hc with rfl | rfl <;> exact ⟨rfl, rfl, rfl, rfl, rfl⟩)
   have s1 : seeS c (u :: rest) = true := by
    show isS u c = true
    rw [xJx hu]
    rcases hc with rfl | rfl <;> rfl
   rw [e]
   simp only [xJd]
   rw [PR.bind_of (hx x List.mem_cons_self T1 m (u :: rest) h1 (by omega) hq), s1]
   rfl
 | cons y ys ih =>
   intro x T rest m fuel acc hx hT hm hf
   have hT' : T.map atZ = xBy x ++ ([tkS [44]] ++ (xBy y ++ xFV (ys.map xBy) ++ [tkS c])) := by
    rw [hT]
    show xBy x ++ ([tkS [44]] ++ xBy y ++ xFV (ys.map xBy)) ++ [tkS c] = _
    simp only [List.append_assoc]
   obtain ⟨T1, T2, rfl, h1, h2⟩ := xDS hT'
   obtain ⟨T3, T4, rfl, h3, h4⟩ := xDS h2
   obtain ⟨u, rfl, hu⟩ := xEn h3
   simp only [jA, jC, jN] at hm hf
   obtain ⟨fuel, rfl⟩ : ∃ k, fuel = k + 1 := ⟨fuel - 1, by omega⟩
   have e : T1 ++ ([u] ++ T4) ++ rest = T1 ++ (u :: (T4 ++ rest)) := by simp
   have hq : xMQ (u :: (T4 ++ rest)) := xKO hu ⟨rfl, rfl, rfl, rfl, rfl⟩
   have s1 : seeS c (u :: (T4 ++ rest)) = false := by
    show isS u c = false
    rw [xJx hu]
    rcases hc with rfl | rfl <;> rfl
   rw [e]
   simp only [xJd]
   rw [PR.bind_of (hx x List.mem_cons_self T1 m _ h1 (by omega) hq), s1, jF, PR.bind_of (xLo hu rfl)]
   rw [ih y T4 rest m fuel (acc ++ [x]) (fun z hz => hx z (List.mem_cons_of_mem _ hz)) h4 (by omega) (by omega)]
   simp
theorem xLk : ∀ e : Exp, okE e = true → ∃ u r, xBy e = u :: r ∧ (∀ c, c = [41] ∨ c = [93] → isS u c = false) ∧ (1 ≤ lvl e → ∀ s, s = [108, 101, 116] ∨ s = [105, 102] ∨ s = [102, 111, 114] → isK u s = false) := by
 refine Exp.ind fun k n t a ih h => ?_
 rw [xNb, Bool.and_eq_true] at h
 obtain ⟨ha, hn⟩ := h
 have hn : xFe xHe xB1 argc k n t a.length = true := hn
 rw [xHV]
 have sy : ∀ (u : Tok) (r : List Tok), (∀ c, c = [41] ∨ c = [93] → isS u c = false) → (∀ s, s = [108, 101, 116] ∨ s = [105, 102] ∨ s = [102, 111, 114] → isK u s = false) → ∃ u' r', u :: r = u' :: r' ∧ (∀ c, c = [41] ∨ c = [93] → isS u' c = false) ∧ (1 ≤ lvl (.mk k n t a) → ∀ s, s = [108, 101, 116] ∨ s = [105, 102] ∨ s = [102, 111, 114] → isK u' s = false) := fun u r h1 h2 => ⟨u, r, rfl, h1, fun _ => h2⟩
 have nmS : ∀ w c : Str, c = [41] ∨ c = [93] → isS (tkN w) c = false := fun w c _ => rfl
 have res : ∀ {w : Str}, xB1 w = true → w ≠ [108, 101, 116] ∧ w ≠ [105, 102] ∧ w ≠ [102, 111, 114] := fun {w} hw => by
  refine ⟨fun e => ?_, fun e => ?_, fun e => ?_⟩ <;> rw [e] at hw <;> exact absurd hw (by decide)
 have nmK : ∀ w : Str, w ≠ [108, 101, 116] ∧ w ≠ [105, 102] ∧ w ≠ [102, 111, 114] → ∀ s, s = [108, 101, 116] ∨ s = [105, 102] ∨ s = [102, 111, 114] → isK (tkN w) s = false := fun w hw s hs => by
  show (w == s) = false
  rw [beq_eq_false_iff_ne]
  rcases hs with rfl | rfl | rfl
  · exact hw.1
  · exact hw.2.1
  · exact hw.2.2
 rcases kinds hn with rfl | rfl | rfl | rfl | rfl | ⟨rfl, h1, h5, hl2⟩ | ⟨rfl, hl2⟩ | ⟨rfl, hl2⟩ | ⟨rfl, hl2⟩
 · exact sy _ _ (fun c _ => rfl) (fun s _ => rfl)
 · exact sy _ _ (fun c _ => rfl) (fun s _ => rfl)
 · simp only [xFe, show ((3 : Int) == 1) = false from rfl, show ((3 : Int) == 2) = false from rfl, show ((3 : Int) == 3) = true from rfl, jT, jF, Bool.and_eq_true] at hn
   exact sy (tkN t) [] (nmS t) (nmK t (res hn.2.1))
 · exact sy (tkS [91]) (xJ6 (a.map xBy) ++ [tkS [93]]) (fun c hc => by rcases hc with rfl | rfl <;> rfl) (fun s _ => rfl)
 · simp only [xFe, show ((5 : Int) == 1) = false from rfl, show ((5 : Int) == 2) = false from rfl, show ((5 : Int) == 3) = false from rfl, show ((5 : Int) == 4) = false from rfl, show ((5 : Int) == 5) = true from rfl, jT, jF, Bool.and_eq_true, beq_iff_eq] at hn
   have hw := (Word.of_call (s := t) (by omega)).2.2
   exact sy (tkN t) _ (nmS t) (nmK t hw)
 · obtain ⟨x, y, rfl⟩ := xJN hl2
   have hx : okE x = true := List.all_eq_true.1 ha x (by show x ∈ [x, y]; simp)
   obtain ⟨u, r, e, g1, g2⟩ := ih x (by simp) hx
   have hl := lvl6 (t := t) (a := [x, y]) h1 h5
   have e2 : xNI 6 n t [x, y] ([x, y].map xBy) = (xIR (bif lvl (.mk 6 n t [x, y]) == 1 then 2 else lvl (.mk 6 n t [x, y])) x (xBy x) ++ [tkS (xJX n)]) ++ xIR (lvl (.mk 6 n t [x, y]) + 1) y (xBy y) := rfl
   rw [e2]
   have hll : 1 ≤ (bif lvl (.mk 6 n t [x, y]) == 1 then 2 else lvl (.mk 6 n t [x, y])) := by
    cases lvl (.mk 6 n t [x, y]) == 1
    · exact hl.1
    · show (1 : Int) ≤ 2
      decide
   generalize (bif lvl (.mk 6 n t [x, y]) == 1 then 2 else lvl (.mk 6 n t [x, y])) = L at hll
   unfold xIR
   by_cases c : lvl x < L
   · rw [decide_eq_true c, jT]
     exact sy (tkS [40]) _ (fun c hc => by rcases hc with rfl | rfl <;> rfl) (fun s _ => rfl)
   · rw [decide_eq_false c, jF, e]
     exact ⟨u, _, rfl, g1, fun _ => g2 (by omega)⟩
 · exact ⟨tkN [108, 101, 116], _, rfl, nmS _, fun h => by
    have h : (1 : Int) ≤ 0 := h
    omega⟩
 · exact ⟨tkN [102, 111, 114], _, rfl, nmS _, fun h => by
    have h : (1 : Int) ≤ 0 := h
    omega⟩
 · exact ⟨tkN [105, 102], _, rfl, nmS _, fun h => by
    have h : (1 : Int) ≤ 0 := h
    omega⟩
theorem xUS {T r : List Tok} {u : Tok} {rest : List Tok} (h : T.map atZ = u :: r) : ∃ t q, T = t :: q ∧ atZ t = u := by
 cases T with
 | nil => cases h
 | cons t q =>
   simp only [List.map_cons, List.cons.injEq] at h
   exact ⟨t, q, rfl, h.1⟩
theorem xM6 {c : Str} (hc : c = [41] ∨ c = [93]) {xs : List Exp} (hok : ∀ y ∈ xs, okE y = true) (hx : ∀ y ∈ xs, PX y) {T rest : List Tok} {m fuel : Nat} (hT : T.map atZ = xJ6 (xs.map xBy) ++ [tkS c]) (hm : T.length ≤ m) (hf : T.length ≤ fuel) :
 xKM (pE m) fuel c (T ++ rest) = .ok xs rest := by
 cases xs with
 | nil =>
   obtain ⟨u, rfl, hu⟩ := xEn hT
   have s1 : seeS c ([u] ++ rest) = true := by
    show isS u c = true
    rw [xJx hu]
    rcases hc with rfl | rfl <;> rfl
   unfold xKM
   rw [s1]; rfl
 | cons x xs =>
   obtain ⟨u, r, e, g1, _⟩ := xLk x (hok x List.mem_cons_self)
   have hT2 : T.map atZ = xBy x ++ xFV (xs.map xBy) ++ [tkS c] := hT
   obtain ⟨t, q, ht, hz⟩ := xUS (rest := rest) (show T.map atZ = u :: (r ++ xFV (xs.map xBy) ++ [tkS c]) by rw [hT2, e]; simp)
   have s1 : seeS c (T ++ rest) = false := by
    rw [ht]
    show isS t c = false
    rw [xJx hz]
    exact g1 c hc
   unfold xKM
   rw [s1, jF, xPf hc xs x T rest m fuel [] hx hT2 hm hf]; rfl
theorem PD.x {e : Exp} (hok : okE e = true) (hl : 1 ≤ lvl e) (h : PD e (xBy e)) : PX e := by
 intro T m rest hT hm hr
 obtain ⟨u, r, e1, _, g2⟩ := xLk e hok
 obtain ⟨t, q, ht, hz⟩ := xUS (rest := rest) (hT.trans e1)
 obtain ⟨m, rfl⟩ : ∃ k, m = k + 1 := ⟨m - 1, by omega⟩
 have k : ∀ s, s = [108, 101, 116] ∨ s = [105, 102] ∨ s = [102, 111, 114] → seeK s (T ++ rest) = false := fun s hs => by
  rw [ht]
  show isK t s = false
  rw [xNF hz]
  exact g2 hl s hs
 show xHw (pE m) (xK8 (pE m) (m + 1)) (T ++ rest) = _
 unfold xHw
 rw [k _ (.inl rfl), k _ (.inr (.inl rfl)), k _ (.inr (.inr rfl))]
 simp only [jF]
 exact h T m rest hT (by omega) hr
theorem xO3 {k : Int} {t : Str} {x y : Exp} {s1 s2 : Str} {u1 u2 : Tok} (hv : xB1 t = true) (hx : PX x) (hy : PX y) (h1 : (isK u1 s1 || isS u1 s1) = true) (h2 : (isK u2 s2 || isS u2 s2) = true) (q2 : xMQ [u2]) {T rest : List Tok} {m : Nat}
 (hT : T.map atZ = [tkN t] ++ [u1] ++ xBy x ++ [u2] ++ xBy y) (hm : T.length ≤ m) (hr : xMQ rest) : pTwo (pE m) k s1 s2 (T ++ rest) = .ok (.mk k 0 t [x, y]) rest := by
 obtain ⟨T1, Ty, rfl, a1, b1⟩ := xDS hT
 obtain ⟨T2, Tu, rfl, a2, b2⟩ := xDS a1
 obtain ⟨T3, Tx, rfl, a3, b3⟩ := xDS a2
 obtain ⟨T4, T5, rfl, a4, b4⟩ := xDS a3
 obtain ⟨n, rfl, hn⟩ := xEn a4
 obtain ⟨v, rfl, hv1⟩ := xEn b4
 obtain ⟨w, rfl, hw⟩ := xEn b2
 simp only [jA, jC, jN] at hm
 have e : [n] ++ [v] ++ Tx ++ [w] ++ Ty ++ rest = n :: (v :: (Tx ++ (w :: (Ty ++ rest)))) := by simp
 have nk : n.kind = 1 := by have := congrArg Tok.kind hn; exact this
 have nt : n.text = t := by have := congrArg Tok.text hn; exact this
 have hname : xLP (n :: (v :: (Tx ++ (w :: (Ty ++ rest))))) = .ok t (v :: (Tx ++ (w :: (Ty ++ rest)))) := by
  simp only [xLP, nk, nt, hv, show ((1 : Int) == 1) = true from rfl, jT]
 unfold pTwo
 rw [e, PR.bind_of hname, PR.bind_of (xLo hv1 h1), PR.bind_of (hx Tx m _ b3 (by omega) (xKO hw q2)), PR.bind_of (xLo hw h2), PR.bind_of (hy Ty m rest b1 (by omega) hr)]
theorem xPk : ∀ e : Exp, okE e = true → PX e ∧ (4 ≤ lvl e → PA e (xBy e)) ∧ (3 ≤ lvl e → PB e (xBy e)) ∧ (2 ≤ lvl e → PC e (xBy e)) := by
 refine Exp.ind fun k n t a ih h => ?_
 have hok := h
 rw [xNb, Bool.and_eq_true] at h
 obtain ⟨ha, hn⟩ := h
 have hao : ∀ x ∈ a, okE x = true := fun x hx => List.all_eq_true.1 ha x hx
 have hR := fun x hx => ih x hx (hao x hx)
 have hn : xFe xHe xB1 argc k n t a.length = true := hn
 have atom : lvl (.mk k n t a) = 4 → PA (.mk k n t a) (xBy (.mk k n t a)) → PX (.mk k n t a) ∧ (4 ≤ lvl (.mk k n t a) → PA (.mk k n t a) (xBy (.mk k n t a))) ∧ (3 ≤ lvl (.mk k n t a) → PB (.mk k n t a) (xBy (.mk k n t a))) ∧ (2 ≤ lvl (.mk k n t a) → PC (.mk k n t a) (xBy (.mk k n t a))) :=
  fun hl h => ⟨PD.x hok (by omega) h.b.c.d, fun _ => h, fun _ => h.b, fun _ => h.b.c⟩
 rcases kinds hn with rfl | rfl | rfl | rfl | rfl | ⟨rfl, h1, h5, hl2⟩ | ⟨rfl, hl2⟩ | ⟨rfl, hl2⟩ | ⟨rfl, hl2⟩
 · simp only [xFe, show ((1 : Int) == 1) = true from rfl, jT, Bool.and_eq_true, decide_eq_true_eq, beq_iff_eq] at hn
   obtain rfl : t = [] := hn.2.1
   obtain rfl : a = [] := List.length_eq_zero_iff.1 hn.2.2
   refine atom rfl fun T m rest hT hm => ?_
   obtain ⟨u, rfl, hu⟩ := xEn hT
   have k1 : u.kind = 2 := by have := congrArg Tok.kind hu; exact this
   have k2 : u.n = n := by have := congrArg Tok.n hu; exact this
   show xGB _ _ (u :: rest) = _
   simp only [xGB, k1, k2, show ((2 : Int) == 2) = true from rfl, jT]
 · simp only [xFe, show ((2 : Int) == 1) = false from rfl, show ((2 : Int) == 2) = true from rfl, jT, jF, Bool.and_eq_true, beq_iff_eq] at hn
   obtain rfl : n = 0 := hn.1
   obtain rfl : a = [] := List.length_eq_zero_iff.1 hn.2.2
   refine atom rfl fun T m rest hT hm => ?_
   obtain ⟨u, rfl, hu⟩ := xEn hT
   have k1 : u.kind = 3 := by have := congrArg Tok.kind hu; exact this
   have k2 : u.text = t := by have := congrArg Tok.text hu; exact this
   show xGB _ _ (u :: rest) = _
   simp only [xGB, k1, k2, show ((3 : Int) == 2) = false from rfl, show ((3 : Int) == 3) = true from rfl, jT, jF]
 · simp only [xFe, show ((3 : Int) == 1) = false from rfl, show ((3 : Int) == 2) = false from rfl, show ((3 : Int) == 3) = true from rfl, jT, jF, Bool.and_eq_true, beq_iff_eq] at hn
   obtain rfl : n = 0 := hn.1
   obtain rfl : a = [] := List.length_eq_zero_iff.1 hn.2.2
   refine atom rfl fun T m rest hT hm => ?_
   obtain ⟨u, rfl, hu⟩ := xEn hT
   have k1 : u.kind = 1 := by have := congrArg Tok.kind hu; exact this
   have k2 : u.text = t := by have := congrArg Tok.text hu; exact this
   show xGB _ _ (u :: rest) = _
   simp only [xGB, k1, k2, hn.2.1, show ((1 : Int) == 2) = false from rfl, show ((1 : Int) == 3) = false from rfl, show ((1 : Int) == 1) = true from rfl, jT, jF]
 · simp only [xFe, show ((4 : Int) == 1) = false from rfl, show ((4 : Int) == 2) = false from rfl, show ((4 : Int) == 3) = false from rfl, show ((4 : Int) == 4) = true from rfl, jT, jF, Bool.and_eq_true, beq_iff_eq] at hn
   obtain rfl : n = 0 := hn.1
   obtain rfl : t = [] := hn.2.1
   refine atom rfl fun T m rest hT hm => ?_
   rw [xHV] at hT
   have hT : T.map atZ = [tkS [91]] ++ (xJ6 (a.map xBy) ++ [tkS [93]]) := by rw [hT]; show [tkS [91]] ++ xJ6 (a.map xBy) ++ [tkS [93]] = _; rw [List.append_assoc]
   obtain ⟨T1, T2, rfl, h1, h2⟩ := xDS hT
   obtain ⟨u, rfl, hu⟩ := xEn h1
   simp only [jA, jC, jN] at hm
   have k1 : u.kind = 4 := by have := congrArg Tok.kind hu; exact this
   have s1 : isS u [91] = true := xJx hu [91]
   show xGB _ _ (u :: (T2 ++ rest)) = _
   simp only [xGB, k1, show ((4 : Int) == 2) = false from rfl, show ((4 : Int) == 3) = false from rfl, show ((4 : Int) == 1) = false from rfl, jF, xJM, s1, jT]
   rw [PR.bind_of (xM6 (.inr rfl) hao (fun y hy => (hR y hy).1) h2 (by omega) (by omega))]
 · simp only [xFe, show ((5 : Int) == 1) = false from rfl, show ((5 : Int) == 2) = false from rfl, show ((5 : Int) == 3) = false from rfl, show ((5 : Int) == 4) = false from rfl, show ((5 : Int) == 5) = true from rfl, jT, jF, Bool.and_eq_true, beq_iff_eq] at hn
   obtain rfl : n = 0 := hn.1
   have hac : 0 ≤ argc t := by omega
   have hnv := (Word.of_call hac).2.1
   refine atom rfl fun T m rest hT hm => ?_
   rw [xHV] at hT
   have hT : T.map atZ = [tkN t] ++ ([tkS [40]] ++ (xJ6 (a.map xBy) ++ [tkS [41]])) := by rw [hT]; show [tkN t] ++ [tkS [40]] ++ xJ6 (a.map xBy) ++ [tkS [41]] = _; simp only [List.append_assoc]
   obtain ⟨T1, T2, rfl, h1, h2⟩ := xDS hT
   obtain ⟨T3, T4, rfl, h3, h4⟩ := xDS h2
   obtain ⟨u, rfl, hu⟩ := xEn h1
   obtain ⟨v, rfl, hv⟩ := xEn h3
   simp only [jA, jC, jN] at hm
   have k1 : u.kind = 1 := by have := congrArg Tok.kind hu; exact this
   have k2 : u.text = t := by have := congrArg Tok.text hu; exact this
   show xGB _ _ (u :: (v :: (T4 ++ rest))) = _
   simp only [xGB, k1, k2, hnv, show ((1 : Int) == 2) = false from rfl, show ((1 : Int) == 3) = false from rfl, show ((1 : Int) == 1) = true from rfl, jT, jF, decide_eq_true hac]
   rw [PR.bind_of (xLo hv rfl), PR.bind_of (xM6 (.inl rfl) hao (fun y hy => (hR y hy).1) h4 (by omega) (by omega))]
 · obtain ⟨x, y, rfl⟩ := xJN hl2
   simp only [xFe, show ((6 : Int) == 1) = false from rfl, show ((6 : Int) == 2) = false from rfl, show ((6 : Int) == 3) = false from rfl, show ((6 : Int) == 4) = false from rfl, show ((6 : Int) == 5) = false from rfl, show ((6 : Int) == 6) = true from rfl, jT, jF, Bool.and_eq_true, beq_iff_eq] at hn
   obtain rfl : t = [] := hn.2.1
   obtain ⟨x1, x2, x3, x4⟩ := hR x (by simp)
   obtain ⟨y1, y2, y3, y4⟩ := hR y (by simp)
   have e2 : xBy (.mk 6 n [] [x, y]) = xIR (bif lvl (.mk 6 n [] [x, y]) == 1 then 2 else lvl (.mk 6 n [] [x, y])) x (xBy x) ++ [tkS (xJX n)] ++ xIR (lvl (.mk 6 n [] [x, y]) + 1) y (xBy y) := by rw [xHV]; rfl
   have : n = 1 ∨ n = 2 ∨ n = 3 ∨ n = 4 ∨ n = 5 := by omega
   rcases this with rfl | rfl | rfl | rfl | rfl
   · have hC : PC (.mk 6 1 [] [x, y]) (xBy (.mk 6 1 [] [x, y])) := by
      rw [e2]; exact PC.add (PC.of (l := 2) x1 x4 (by omega)) (PB.of (l := 3) y1 y3 (by omega)) 1 (.inl rfl)
     have hl : lvl (.mk 6 1 [] [x, y]) = 2 := rfl
     exact ⟨PD.x hok (by omega) hC.d, fun h => by omega, fun h => by omega, fun _ => hC⟩
   · have hC : PC (.mk 6 2 [] [x, y]) (xBy (.mk 6 2 [] [x, y])) := by
      rw [e2]; exact PC.add (PC.of (l := 2) x1 x4 (by omega)) (PB.of (l := 3) y1 y3 (by omega)) 2 (.inr rfl)
     have hl : lvl (.mk 6 2 [] [x, y]) = 2 := rfl
     exact ⟨PD.x hok (by omega) hC.d, fun h => by omega, fun h => by omega, fun _ => hC⟩
   · have hB : PB (.mk 6 3 [] [x, y]) (xBy (.mk 6 3 [] [x, y])) := by
      rw [e2]; exact PB.mul (PB.of (l := 3) x1 x3 (by omega)) (PA.of (l := 4) y1 y2 rfl)
     have hl : lvl (.mk 6 3 [] [x, y]) = 3 := rfl
     exact ⟨PD.x hok (by omega) hB.c.d, fun h => by omega, fun _ => hB, fun _ => hB.c⟩
   · have hD : PD (.mk 6 4 [] [x, y]) (xBy (.mk 6 4 [] [x, y])) := by
      rw [e2]; exact PD.cmp (PC.of (l := 2) x1 x4 (by omega)) (PC.of (l := 2) y1 y4 (by omega)) 4 (.inl rfl)
     have hl : lvl (.mk 6 4 [] [x, y]) = 1 := rfl
     exact ⟨PD.x hok (by omega) hD, fun h => by omega, fun h => by omega, fun h => by omega⟩
   · have hD : PD (.mk 6 5 [] [x, y]) (xBy (.mk 6 5 [] [x, y])) := by
      rw [e2]; exact PD.cmp (PC.of (l := 2) x1 x4 (by omega)) (PC.of (l := 2) y1 y4 (by omega)) 5 (.inr rfl)
     have hl : lvl (.mk 6 5 [] [x, y]) = 1 := rfl
     exact ⟨PD.x hok (by omega) hD, fun h => by omega, fun h => by omega, fun h => by omega⟩
 · obtain ⟨x, y, rfl⟩ := xJN hl2
   simp only [xFe, show ((7 : Int) == 1) = false from rfl, show ((7 : Int) == 2) = false from rfl, show ((7 : Int) == 3) = false from rfl, show ((7 : Int) == 4) = false from rfl, show ((7 : Int) == 5) = false from rfl, show ((7 : Int) == 6) = false from rfl, show ((7 : Int) == 7) = true from rfl, jT, jF, Bool.and_eq_true, beq_iff_eq] at hn
   obtain rfl : n = 0 := hn.1
   have hl : lvl (.mk 7 0 t [x, y]) = 0 := rfl
   refine ⟨fun T m rest hT hm hr => ?_, fun h => by omega, fun h => by omega, fun h => by omega⟩
   rw [xHV] at hT
   have hT : T.map atZ = [tkN [108, 101, 116]] ++ ([tkN t] ++ [tkS [61]] ++ xBy x ++ [tkN [105, 110]] ++ xBy y) := by rw [hT]; show [tkN [108, 101, 116]] ++ [tkN t] ++ [tkS [61]] ++ xBy x ++ [tkN [105, 110]] ++ xBy y = _; simp only [List.append_assoc]
   obtain ⟨T1, T2, rfl, h1, h2⟩ := xDS hT
   obtain ⟨u, rfl, hu⟩ := xEn h1
   simp only [jA, jC, jN] at hm
   obtain ⟨m, rfl⟩ : ∃ k, m = k + 1 := ⟨m - 1, by omega⟩
   have s1 : seeK [108, 101, 116] (u :: (T2 ++ rest)) = true := xNF hu _
   show xHw (pE m) (xK8 (pE m) (m + 1)) (u :: (T2 ++ rest)) = _
   unfold xHw
   rw [s1, jT, List.tail_cons]
   exact xO3 hn.2.1 (hR x (by simp)).1 (hR y (by simp)).1 rfl rfl ⟨rfl, rfl, rfl, rfl, rfl⟩ h2 (by omega) hr
 · obtain ⟨x, y, rfl⟩ := xJN hl2
   simp only [xFe, show ((9 : Int) == 1) = false from rfl, show ((9 : Int) == 2) = false from rfl, show ((9 : Int) == 3) = false from rfl, show ((9 : Int) == 4) = false from rfl, show ((9 : Int) == 5) = false from rfl, show ((9 : Int) == 6) = false from rfl, show ((9 : Int) == 7) = false from rfl, show ((9 : Int) == 9) = true from rfl, jT, jF, Bool.and_eq_true, beq_iff_eq] at hn
   obtain rfl : n = 0 := hn.1
   have hl : lvl (.mk 9 0 t [x, y]) = 0 := rfl
   refine ⟨fun T m rest hT hm hr => ?_, fun h => by omega, fun h => by omega, fun h => by omega⟩
   rw [xHV] at hT
   have hT : T.map atZ = [tkN [102, 111, 114]] ++ ([tkN t] ++ [tkN [105, 110]] ++ xBy x ++ [tkN [100, 111]] ++ xBy y) := by rw [hT]; show [tkN [102, 111, 114]] ++ [tkN t] ++ [tkN [105, 110]] ++ xBy x ++ [tkN [100, 111]] ++ xBy y = _; simp only [List.append_assoc]
   obtain ⟨T1, T2, rfl, h1, h2⟩ := xDS hT
   obtain ⟨u, rfl, hu⟩ := xEn h1
   simp only [jA, jC, jN] at hm
   obtain ⟨m, rfl⟩ : ∃ k, m = k + 1 := ⟨m - 1, by omega⟩
   have s1 : seeK [108, 101, 116] (u :: (T2 ++ rest)) = false := xNF hu _
   have s2 : seeK [105, 102] (u :: (T2 ++ rest)) = false := xNF hu _
   have s3 : seeK [102, 111, 114] (u :: (T2 ++ rest)) = true := xNF hu _
   show xHw (pE m) (xK8 (pE m) (m + 1)) (u :: (T2 ++ rest)) = _
   unfold xHw
   rw [s1, s2, s3, jT, jF, jF, List.tail_cons]
   exact xO3 hn.2.1 (hR x (by simp)).1 (hR y (by simp)).1 rfl rfl ⟨rfl, rfl, rfl, rfl, rfl⟩ h2 (by omega) hr
 · obtain ⟨x, y, z, rfl⟩ := xMO hl2
   simp only [xFe, show ((8 : Int) == 1) = false from rfl, show ((8 : Int) == 2) = false from rfl, show ((8 : Int) == 3) = false from rfl, show ((8 : Int) == 4) = false from rfl, show ((8 : Int) == 5) = false from rfl, show ((8 : Int) == 6) = false from rfl, show ((8 : Int) == 7) = false from rfl, show ((8 : Int) == 9) = false from rfl, show ((8 : Int) == 8) = true from rfl, jT, jF, Bool.and_eq_true, beq_iff_eq] at hn
   obtain rfl : n = 0 := hn.1
   obtain rfl : t = [] := hn.2.1
   have hl : lvl (.mk 8 0 [] [x, y, z]) = 0 := rfl
   refine ⟨fun T m rest hT hm hr => ?_, fun h => by omega, fun h => by omega, fun h => by omega⟩
   rw [xHV] at hT
   have hT : T.map atZ = [tkN [105, 102]] ++ (xBy x ++ ([tkN [116, 104, 101, 110]] ++ (xBy y ++ ([tkN [101, 108, 115, 101]] ++ xBy z)))) := by rw [hT]; show [tkN [105, 102]] ++ xBy x ++ [tkN [116, 104, 101, 110]] ++ xBy y ++ [tkN [101, 108, 115, 101]] ++ xBy z = _; simp only [List.append_assoc]
   obtain ⟨T1, T2, rfl, h1, h2⟩ := xDS hT
   obtain ⟨u, rfl, hu⟩ := xEn h1
   obtain ⟨Tx, T3, rfl, bx, h3⟩ := xDS h2
   obtain ⟨T4, T5, rfl, h4, h5⟩ := xDS h3
   obtain ⟨v, rfl, hv⟩ := xEn h4
   obtain ⟨Ty, T6, rfl, by', h6⟩ := xDS h5
   obtain ⟨T7, Tz, rfl, h7, bz⟩ := xDS h6
   obtain ⟨w, rfl, hw⟩ := xEn h7
   simp only [jA, jC, jN] at hm
   obtain ⟨m, rfl⟩ : ∃ k, m = k + 1 := ⟨m - 1, by omega⟩
   have e : [u] ++ (Tx ++ ([v] ++ (Ty ++ ([w] ++ Tz)))) ++ rest = u :: (Tx ++ (v :: (Ty ++ (w :: (Tz ++ rest))))) := by simp
   rw [e]
   have s1 : seeK [108, 101, 116] (u :: (Tx ++ (v :: (Ty ++ (w :: (Tz ++ rest)))))) = false := xNF hu _
   have s2 : seeK [105, 102] (u :: (Tx ++ (v :: (Ty ++ (w :: (Tz ++ rest)))))) = true := xNF hu _
   show xHw (pE m) (xK8 (pE m) (m + 1)) (u :: (Tx ++ (v :: (Ty ++ (w :: (Tz ++ rest)))))) = _
   unfold xHw
   rw [s1, s2, jT, jF, List.tail_cons]
   unfold pIf
   rw [PR.bind_of ((hR x (by simp)).1 Tx m _ bx (by omega) (xKO hv ⟨rfl, rfl, rfl, rfl, rfl⟩)), PR.bind_of (xLo hv rfl), PR.bind_of ((hR y (by simp)).1 Ty m _ by' (by omega) (xKO hw ⟨rfl, rfl, rfl, rfl, rfl⟩)), PR.bind_of (xLo hw rfl), PR.bind_of ((hR z (by simp)).1 Tz m rest bz (by omega) hr)]
theorem vCk {e : Exp} (h : xFG e = true) (h1 : (srcE e).length ≤ 120) (h2 : (xBy e).length ≤ 60) : xII (srcE e) = (e, -1) := by
 have ho : okE e = true := by
  unfold xFG at h
  simp only [Bool.and_eq_true] at h
  exact h.2
 obtain ⟨T, hT, hl⟩ := xNH ho h1 h2
 have hp := (xPk e ho).1 T (T.length + 1) [] hT (by omega) ⟨rfl, rfl, rfl, rfl, rfl⟩
 rw [List.append_nil] at hp
 unfold xII
 rw [hl]
 show xLx _ T = _
 unfold xLx
 rw [hp]
 show (bif xFG e then (e, (-1 : Int)) else (e0, 0)) = _
 rw [h]; rfl
end Go.Ab
end
section
namespace Go.Ab
theorem xU9 {K : Nat} (hK : K ≤ 9223372036854775807) : ∀ e : Exp, e.Fit K → Big2 fun N d => xDL N d e e = some true := by
 refine Exp.ind fun k n t a ih h => ?_
 obtain ⟨h1, h2, h3, h4⟩ := Exp.fit_iff.1 h
 refine Big2.succ ?_
 refine ((Big2.list fun x hx => ih x hx (h4.2 x hx)).and (xKS a.length).two).imp fun N d ⟨hx, hn⟩ => ?_
 have hl : a.length ≤ K := h4.1
 show xEa N (xDL N d) (.mk k n t a) (.mk k n t a) = some true
 simp only [xEa, bne_self_eq_false, beq_self_eq_true, Bool.not_true, jF]
 exact vAl (x0 := a) (L := fun m i => xD6 N (xDL N d) m (List.length a : Int) i (.mk k n t a) (.mk k n t a)) (fun m => by simp [xD6]) (fun i x m hi hxi hm => by
  have hi' : (i : Int) < ((Exp.mk k n t a).args.length : Int) := by show (i : Int) < (a.length : Int); omega
  have hi2 : (0 : Int) ≤ (i : Int) ∧ (i : Int) < ((Exp.mk k n t a).args.length : Int) := ⟨by omega, hi'⟩
  have hi3 : (i : Int) < (a.length : Int) := hi'
  have hxi2 : (Exp.mk k n t a).args[i]? = some x := hxi
  simp only [xD6, decide_eq_true hi3, if_pos hi2, jT, Int.toNat_natCast, xCh hxi2, hx x hm, jS, xBo hi (by omega : a.length ≤ _), Bool.not_true, jF]) hn
theorem xJP {e : Exp} {K : Nat} (h : e.Fit K) (hK : K ≤ 9223372036854775807) : Big fun N => xHW N e e = some true := (xU9 hK e h).diag
end Go.Ab
end
section
namespace Go.Ab
theorem Exp.fit_mono {K M : Nat} (h : K ≤ M) {e : Exp} (he : e.Fit K) : e.Fit M := fun d hd => (he d hd).mono h
def BDr (s : Nat) (e : Exp) : Prop := e.Fit 5000 ∧ e.size ≤ s
def xM0 : Nat → Nat → Exp → Exp
 | 0, _, e => e
 | m + 1, i, e => xM0 m (i + 1) (.mk 6 1 [] [e, .mk 1 (i : Int) [] []])
theorem xRt : ∀ (m i s : Nat) (e : Exp), i + m = 7 → BDr s e → BDr (s + 20 * m) (xM0 m i e) := by
 intro m
 induction m with
 | zero => intro i s e hi he; exact he
 | succ m ih =>
   intro i s e hi he
   have hnum : BDr 8 (.mk 1 (i : Int) [] []) := ⟨xE5 (xDn (by omega)) (xDn (by omega)) (Nat.zero_le _) (Nat.zero_le _) (fun x hx => by cases hx), by rw [xDv]; simp⟩
   have hnew : BDr (s + 20) (.mk 6 1 [] [e, .mk 1 (i : Int) [] []]) := by
    refine ⟨xE5 (xDn (by omega)) (xDn (by omega)) (Nat.zero_le _) (by simp) (all2 he.1 hnum.1), ?_⟩
    rw [xDv]
    have h1 := he.2
    have h2 := hnum.2
    simp only [List.map_cons, List.map_nil, List.sum_cons, List.sum_nil, jC, jN]
    omega
   have h1 := ih (i + 1) (s + 20) _ (by omega) hnew
   exact ⟨h1.1, by have := h1.2; show (xM0 m (i + 1) _).size ≤ _; omega⟩
theorem vAV {N : Nat} {c : Cur} {b2 : Exp} : ∀ (m i n : Nat) (e : Exp), i + m = 7 → m < n → xDU N n (i : Int) c b2 e = some (xM0 m i e, c) := by
 intro m
 induction m with
 | zero =>
   intro i n e hi hn
   obtain ⟨n, rfl⟩ : ∃ k, n = k + 1 := ⟨n - 1, by omega⟩
   simp only [xDU, decide_eq_false (by omega : ¬ (i : Int) < 7), jF, xM0]
 | succ m ih =>
   intro i n e hi hn
   obtain ⟨n, rfl⟩ : ∃ k, n = k + 1 := ⟨n - 1, by omega⟩
   have w : IntKind.i64.wrap ((i : Int) + 1) = ((i + 1 : Nat) : Int) := by rw [xBh (by omega) (by omega)]; omega
   simp only [xDU, decide_eq_true (by omega : (i : Int) < 7), jT, xB9, xDb, jS, Exp.re_eq, w, xM0]
   exact ih (i + 1) n _ (by omega) (by omega)
theorem vAU {c : Cur} (h : CurOk c) : E2 (fun N _ => xHQ N c) (Dr (BDr 120000)) := by
 refine .bnd (vCg h) fun a ha => ?_
 obtain ⟨⟨e, c1⟩, hc⟩ : ∃ x : Exp × Cur, x = a := ⟨a, rfl⟩
 subst hc
 obtain ⟨⟨he, hsz⟩, hc1⟩ := ha
 have hsz : e.size ≤ 110000 := hsz
 have he : e.Fit 1000 := he
 have hc1 : CurOk c1 := hc1
 obtain ⟨k, n, t, zs⟩ := e
 obtain ⟨g1, g2, g3, g4⟩ := Exp.fit_iff.1 he
 have g1 : I64 k := g1
 have g2 : I64 n := g2
 have g3 : t.length ≤ 1000 := g3
 have g5 : zs.length ≤ 1000 := g4.1
 have g6 : ∀ x ∈ zs, x.Fit 5000 := fun x hx => Exp.fit_mono (by omega) (g4.2 x hx)
 rw [xDv] at hsz
 have ht : t.length ≤ 5000 := by omega
 have ha : zs.length ≤ 5000 := by omega
 have hs0 : t.length + (zs.length + (zs.map Exp.size).sum) ≤ 120000 := by omega
 refine .bnd (xIQ hc1 (by decide)) fun b hb => ?_
 refine .cnd (fun _ => ?_) fun _ => .cnd (fun _ => ?_) fun _ => .cnd (fun _ => ?_) fun _ => .cnd (fun _ => ?_) fun _ => .cnd (fun _ => ?_) fun _ => ?_
 · refine .bnd (xIQ hb.2 (by decide)) fun d hd => .mk' ⟨⟨xE5 (xDn ⟨hd.1.1, by have := hd.1.2; omega⟩) g2 ht ha g6, ?_⟩, hd.2⟩
   rw [xDv]; exact hs0
 · refine .bnd (.ofU (xPP hb.2 (k := 10) (l := [[97]]) ⟨by decide, by decide, fun s hs => by rw [List.mem_singleton.1 hs]; decide⟩)) fun d hd => ?_
   have hd1 : EDr 8 d.1 := hd.1
   refine .chk ?_ (.mk' ⟨⟨?_, ?_⟩, hd.2⟩)
   · show zs.length + 1 ≤ Lim
     unfold Lim; omega
   · refine xE5 g1 g2 ht ?_ fun x hx => ?_
     · show (zs ++ [Exp.re d.1]).length ≤ 5000
       rw [jA]; simp only [jC, jN]; omega
     · have hx : x ∈ zs ++ [Exp.re d.1] := hx
       rcases List.mem_append.1 hx with hx | hx
       · exact g6 x hx
       · rw [List.mem_singleton.1 hx, Exp.re_eq]; exact Exp.fit_mono (by omega) hd1.1
   · rw [xDv]
     show t.length + ((zs ++ [Exp.re d.1]).length + ((zs ++ [Exp.re d.1]).map Exp.size).sum) ≤ 120000
     have h8 := hd1.2
     rw [xK4, jA, Exp.re_eq]
     simp only [List.map_cons, List.map_nil, List.sum_cons, List.sum_nil, jC, jN]
     omega
 · refine .bnd (xOg hb.2 (by decide)) fun d hd => .mk' ⟨⟨?_, ?_⟩, hd.2⟩
   · refine xE5 g1 g2 ?_ ha g6
     have hm : d.1 ∈ [[108, 101, 116], [115, 117, 109], ([] : Str), [120]] := hd.1
     simp only [List.mem_cons, List.not_mem_nil, or_false] at hm
     rcases hm with h | h | h | h <;> rw [h] <;> decide
   · rw [xDv]
     have hm : d.1 ∈ [[108, 101, 116], [115, 117, 109], ([] : Str), [120]] := hd.1
     have : d.1.length ≤ 3 := by
      simp only [List.mem_cons, List.not_mem_nil, or_false] at hm
      rcases hm with h | h | h | h <;> rw [h] <;> decide
     show d.1.length + (zs.length + (zs.map Exp.size).sum) ≤ 120000
     omega
 · refine .bnd (o := fun N _ => xGU N b.2 [-1, 7, 1000000001]) (P := Dr fun v => I64 v) ?_ fun d hd => .mk' ⟨⟨xE5 g1 hd.1 ht ha g6, ?_⟩, hd.2⟩
   · refine .bnd (xIQ hb.2 (by decide)) fun d hd => ?_
     obtain ⟨⟨d1, d2⟩, d3⟩ := hd
     have d2 : d.1 < 3 := d2
     refine .chk ⟨d1, d2⟩ (.mk' ⟨?_, d3⟩)
     have : d.1 = 0 ∨ d.1 = 1 ∨ d.1 = 2 := by omega
     show I64 (List.getD [-1, 7, 1000000001] (Int.toNat d.1) Ty.int.dflt)
     rcases this with h | h | h <;> rw [h] <;> (unfold I64; decide)
   · rw [xDv]; exact hs0
 · have hb0 : BDr 110000 (.mk k n t zs) := ⟨Exp.fit_mono (by omega) he, by rw [xDv]; exact hsz⟩
   have h1 := xRt 7 0 110000 _ rfl hb0
   have h2 : Big fun N => xDU N N 0 b.2 (.mk 0 0 [] []) (.mk k n t zs) = some (xM0 7 0 (.mk k n t zs), b.2) := (xKS 8).imp fun N hN => vAV (N := N) (c := b.2) (b2 := .mk 0 0 [] []) 7 0 N _ rfl (by omega)
   have h3 : (xM0 7 0 (.mk k n t zs)).size ≤ 120000 := by have := h1.2; omega
   exact .ofBig h2 ⟨⟨h1.1, h3⟩, hb.2⟩
 · exact .mk' ⟨⟨Exp.fit_mono (by omega) he, by rw [xDv]; exact hs0⟩, hb.2⟩
theorem xPS : lex [] = ([], -1) := rfl
theorem xQ4 : (xII []).2 = 0 := rfl
theorem vAL {e : Exp} (h : xFG e = true) : srcE e ≠ [] ∧ 0 < (xBy e).length := by
 have ho : okE e = true := by
  unfold xFG at h
  simp only [Bool.and_eq_true] at h
  exact h.2
 obtain ⟨u, r, e1, _⟩ := xLk e ho
 have hl : 0 < (xBy e).length := by rw [e1]; simp
 refine ⟨fun hs => ?_, hl⟩
 by_cases h60 : (xBy e).length ≤ 60
 · obtain ⟨T, hT, hx⟩ := xNH ho (by rw [hs]; simp) h60
   rw [hs, xPS] at hx
   injection hx with hx _
   subst hx
   rw [← hT] at hl
   simp at hl
 · obtain ⟨q, h1, hx⟩ := xOx ho (by rw [hs]; simp) (by omega)
   rw [hs, xPS] at hx
   injection hx with _ hx
   omega
theorem xKe (a0 : List Int) (f0 : ∀ z ∈ [CV.sl .ro .byte a0], DFit z.toD) : ∃ N, xGo N a0 = some true := by
 by_cases hb : (a0.length : Int) > 1048576
 · exact ⟨0, by simp [xGo, xJr, hb]⟩
 · obtain ⟨e, hdraw, he⟩ : ∃ e : Exp, (Big fun N => xEf N a0 = some e) ∧ BDr 120000 e := by
    have : E2 (fun N _ => xEf N a0) (BDr 120000) := .bnd (newE (by omega)) fun c hc => .bnd (vAU hc) fun s hs => .mk' hs.1
    obtain ⟨s, h1, h2⟩ := this.diag
    exact ⟨s, h2, h1⟩
   have hfm := xPJ (K := 5000) (by omega) he.1 (by have := he.2; omega)
   have hvx := xJp (K := 5000) (by omega) he.1 (by have := he.2; omega)
   refine (((hdraw.and hfm).and (hvx.and (xUE (fmtE e)))).and ((xJP he.1 (by omega)).and (xKS 1000))).imp (fun N ⟨⟨⟨h1, h2, h3⟩, ⟨_, h4⟩, h5, _⟩, h6, hN⟩ => ?_) |>.get
   have hB : xJr N a0 = some false := by
    unfold xJr
    rw [decide_eq_false (by omega)]
   have hN : 1000 < N := hN
   simp only [xGo, hB, h1, h2, h3, h4, h5, xKc h5, xIK hN, jS, jF, beq_self_eq_true, Bool.not_true]
   cases hv : xFG e
   · have hf : fmtE e = [] := by unfold fmtE; rw [hv]; rfl
     rw [hf]
     simp only [beq_self_eq_true, Bool.not_true, Bool.not_false, jF, jT, xQ4]
     rfl
   · have hf : fmtE e = srcE e := by unfold fmtE; rw [hv]; rfl
     obtain ⟨s1, s2⟩ := vAL hv
     have ho : okE e = true := by
      unfold xFG at hv
      simp only [Bool.and_eq_true] at hv
      exact hv.2
     have hne : (srcE e == []) = false := beq_eq_false_iff_ne.2 s1
     rw [hf]
     simp only [hne, Bool.not_false, beq_self_eq_true, Bool.not_true, jF]
     by_cases hl : ((srcE e).length : Int) > 120
     · have hx : lex (srcE e) = ([], 120) := by
        unfold lex
        rw [decide_eq_true (by omega), jT]
       have hp : (xII (srcE e)).2 = 120 := by
        unfold xII
        rw [hx]; rfl
       rw [decide_eq_true hl, jT, hp]
       rfl
     · rw [decide_eq_false hl, jF]
       by_cases h60 : (xBy e).length ≤ 60
       · obtain ⟨T, hT, hx⟩ := xNH ho (by omega) h60
         have hr := vCk hv (by omega) h60
         have hTl : ((T.length : Int) == 0) = false := by
          rw [← hT, List.length_map] at s2
          exact beq_eq_false_iff_ne.2 (by omega)
         rw [hx]
         simp only [hTl, jF, hr]
         have q1 : ((-1 : Int) == -1) = true := rfl
         have q2 : decide ((-1 : Int) ≥ 0) = false := rfl
         simp only [q1, q2, jT, h6, jS, Bool.not_false]
       · obtain ⟨q, h7, hx⟩ := xOx ho (by omega) (by omega)
         have hp : (xII (srcE e)).2 = q := by
          unfold xII
          rw [hx]
          show (bif decide (q ≥ 0) then (e0, q) else _).2 = q
          rw [decide_eq_true (by omega : q ≥ 0)]; rfl
         rw [hx]
         simp only [jN, hp]
         rw [decide_eq_true (by omega : q ≥ 0)]
         rfl
end Go.Ab
end
section
namespace Go.Proofs.YthbobcapimmnhaaGreatDoor
open Go.Ab Go.ChangeShapes Go.WideShapes Go.ChangeAt Go.RowKit
theorem own : ownKnob Tryz.prog.godebug = none := by kernel_rfl
theorem xVb : laidOutB Tryz.prog = true := by kernel_rfl
theorem xMg : zGx Tryz.prog [(5, .byte)] = true := by kernel_rfl
theorem fnParsed_tab {W : World} (h : laidMetH Tryz.prog Rows.fnParsedRow.laid W) : Go.Lib.TabIs Tryz.prog W Go.Ab.T.p10 .u64 Go.Lib.pow10Tab := by
 rw [MakeChecks.laidMetH_plain _ _ _ (by kernel_rfl)] at h
 exact Go.Lib.tabIs_of_head (g := 3) (t := 137) (e := 123) (n := 20) (by kernel_rfl) (by kernel_rfl) Tryz.underlying137 Tryz.underlying123 (by kernel_rfl) (by kernel_rfl) h.tail.tail
theorem fnParsed_ev {W : World} (h : laidMetH Tryz.prog Rows.fnParsedRow.laid W) : (∃ t1 p1, W.var? Tryz.prog "strconv.ErrSyntax" = some #[.iface t1 p1]) ∧ ∃ t2 p2, W.var? Tryz.prog "strconv.ErrRange" = some #[.iface t2 p2] := by
 rw [MakeChecks.laidMetH_plain _ _ _ (by kernel_rfl)] at h
 have star : "*" ++ "errors.errorString" = "*errors.errorString" := by decide
 have row : ∀ u, Tryz.prog.typeName? 3 u = some "*errors.errorString" → u = 146 := fun u hu => typeName_ptr_named (nm := "errors.errorString") (by rw [star]; kernel_rfl) (by kernel_rfl) (by decide) u (by rw [star]; exact hu)
 obtain ⟨a_hs, _, hs, _⟩ := laid_sentinel (g := 1) (ti := 99) (tp := 146) (te := 148) (ts := 9) h.tail.tail.tail.tail (by kernel_rfl) (by kernel_rfl) Tryz.underlying99 row Tryz.underlying146 Tryz.underlying148 rfl rfl Tryz.underlying9 (by kernel_rfl) (by kernel_rfl)
 obtain ⟨a_hr, _, hr, _⟩ := laid_sentinel (g := 2) (ti := 99) (tp := 146) (te := 148) (ts := 9) h.tail.tail.tail (by kernel_rfl) (by kernel_rfl) Tryz.underlying99 row Tryz.underlying146 Tryz.underlying148 rfl rfl Tryz.underlying9 (by kernel_rfl) (by kernel_rfl)
 exact ⟨⟨_, _, hs⟩, _, _, hr⟩
set_option maxRecDepth 100000 in
theorem fnParsed_lifted (os : Os) (started : os.Started) (H : Type) (enc : TypeId × Value → H) :
 ReturnsInHanded {} Tryz.checked os 6 .any (fun w args => (Rows.fnParsedSpec.pre enc Tryz.prog Tryz.f6 Rows.fnParsedRow.domain false w args ∧ laidMetH Tryz.prog Rows.fnParsedRow.laid w) ∧ sizedMet enc Tryz.prog Tryz.f6 (OpenSpec.ofChange Rows.fnParsedSpec) false w args)
  (Rows.fnParsedSpec.post enc Tryz.prog Tryz.f6 false true false false) := by
 refine returnsInHanded_of_change_and (C := Tryz.checked) (X := fun w _ => laidMetH Tryz.prog Rows.fnParsedRow.laid w) (fun _ _ _ hh h => h.of_heap hh) own started (by kernel_rfl) Tryz.func6
  (ChangeSpec.witness_shaped (enc := enc) (C := Tryz.checked) (os := os) (X := fun w _ => laidMetH Tryz.prog Rows.fnParsedRow.laid w) false (World.laidAll Tryz.prog os Rows.fnParsedRow.laid) #[.slice none 0 0] 8 (World.laidAll_os _ _ _)
    (World.shaped_of_ZipB (by kernel_rfl) (by kernel_rfl)) (by kernel_rfl) (by kernel_rfl) (by kernel_rfl)
    (by rw [MakeChecks.laidMetH_plain _ _ _ (by kernel_rfl)]; exact laidMet_laidAll _ (by kernel_rfl) (by kernel_rfl))) ?_
 intro W base args ds gs before hval0 hW hcnd _ hL _
 obtain ⟨g0, o0, hgo, hall⟩ := xZH (fnParsed_tab hL)
 obtain ⟨⟨u1, u2, hv1⟩, u3, u4, hv2⟩ := fnParsed_ev hL
 obtain ⟨g3, o3, hgo3, hall3⟩ := xRm hv1
 obtain ⟨g4, o4, hgo4, hall4⟩ := xRm hv2
 letI : Inhabited Lb := ⟨⟨[(g0, o0), (g3, o3), (g4, o4)]⟩⟩
 haveI : Nonempty T.Tab10 := ⟨fun w hw => hall w (hw (g0, o0) List.mem_cons_self)⟩
 haveI : Nonempty T.ErrVars := ⟨fun w hw => ⟨⟨u1, u2, hall3 w (hw (g3, o3) (List.mem_cons_of_mem _ List.mem_cons_self))⟩, u3, u4, hall4 w (hw (g4, o4) (List.mem_cons_of_mem _ (List.mem_cons_of_mem _ List.mem_cons_self)))⟩⟩
 have hlb : ∀ x ∈ zD0, W.heap[x.1]? = some x.2 := fun x hx => by
  have hx : x ∈ [(g0, o0), (g3, o3), (g4, o4)] := hx
  simp only [List.mem_cons, List.not_mem_nil, or_false] at hx
  rcases hx with rfl | rfl | rfl <;> first | exact hgo | exact hgo3 | exact hgo4
 have hval : ∀ (j : Nat) t v, Tryz.f6.params[j]? = some t → args[j]? = some v → Value.okWide Tryz.prog W .any base t v := hval0
 have hW' := hW
 obtain ⟨p, q, hA0, hV, rfl, hfz, hnd⟩ := hW
 have hA : DataW.TrodAll enc Tryz.prog W 0 (fun _ => true) true Tryz.f6.params.toList args.toList ds p := hA0
 rw [Tryz.params6] at hA hval
 obtain ⟨v0, vs0, d0, ds0, p0, q0, hargs, rfl, rfl, h0, r0⟩ := trodAll_cons hA
 obtain ⟨rfl, rfl, rfl⟩ := trodAll_nil r0
 obtain rfl : args = #[v0] := by cases args; simp_all
 obtain ⟨rfl, rfl⟩ := trodVars_none hV
 have lt0 : ∀ x ∈ p0, x.block < W.heap.size := by obtain ⟨m, hm⟩ := h0; exact DataW.trod_lt m _ _ _ hm
 obtain ⟨z0, e0, f0, vr0⟩ := vr_of xMg (g := false) (t := 32) (ns := [.inr .byte]) (by kernel_rfl) (hval 0 32 v0 rfl rfl) h0
 obtain ⟨x0_0, _, rfl, e0_0⟩ := AreOf.sl_inv e0
 obtain rfl := e0_0.nil_inv
 obtain ⟨N, hF⟩ := xKe x0_0 f0
 clear hA0 hval0
 refine (zIt T.fk6 (T.laws_FnParsed_ok hF) (W := W) (args := #[v0]) ⟨vr0 _, trivial⟩ hlb).mono fun e W' ⟨he, bel⟩ => ?_
 subst he
 exact ⟨_, rfl, _, _, _, [], _, [], hW', trodAll_mk1 (shut_bool Tryz.underlying4 _), (trodAll_cons_mk (Below.trod xVb (by kernel_rfl) (of_decide_eq_true (by kernel_rfl)) h0 bel lt0) trodAll_mk0), rfl, bel.frame _, fun h => by cases h⟩
theorem fnParsed_proved : Rows.FnParsedSaid :=
 OpenClaim.holds_of_wide 6 Tryz.f6 rfl rfl rfl rfl rfl rfl rfl ⟨rfl, rfl, rfl, rfl, rfl⟩ rfl rfl rfl rfl rfl (by kernel_rfl) Tryz.func6 (by kernel_rfl)
  (of_decide_eq_true (by kernel_rfl)) (by unfold Func.isWrapper; first | (rw [if_pos (by decide +kernel)]; kernel_rfl) | (rw [if_neg (by decide +kernel)]; exact ⟨rfl, rfl⟩))
  (fun os started H enc _ => fnParsed_lifted os started H enc)
theorem fnParsed_card : Rows.FnParsedCardSaid :=
 Claim7.holds_tied_plain_at .later [] Rows.fnParsedCard.laidKinds true Rows.fnParsedCard.stood.harness Rows.fnParsedCard.stood.looks fnParsed_proved (fun _ h => by cases h) (by kernel_rfl) (fun _ h => by cases h) fnParsed_row_tie rfl ⟨rfl, rfl⟩ (by kernel_rfl) rfl
  (fun f fn hf hfn => by
    obtain rfl : f = 6 := Option.some.inj ((show Tryz.prog.funcNamed Rows.fnParsedRow.func = some 6 by kernel_rfl).symm.trans hf) |>.symm
    obtain rfl : fn = Tryz.f6 := (Option.some.inj (Tryz.func6.symm.trans hfn)).symm
    exact ⟨by kernel_rfl, fun j t ht => by
     rw [Tryz.params6] at ht
     have hm : t ∈ [32] := by simpa using Array.mem_of_getElem? ht
     have hall : ([32].all fun u => !Tryz.prog.wantsStandIn u) = true := by kernel_rfl
     exact (show Tryz.prog.wantsStandIn t = false by simpa using List.all_eq_true.1 hall t hm)⟩)
  (by kernel_rfl)
end Go.Proofs.YthbobcapimmnhaaGreatDoor
end
