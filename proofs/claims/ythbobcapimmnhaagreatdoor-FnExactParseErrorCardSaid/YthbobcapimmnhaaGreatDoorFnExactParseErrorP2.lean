/- The statement FnExactParseError holds: plain functions, certificates, laws. Conditions: none. -/
import Derived.Test.YthbobcapimmnhaaGreatDoorL2
import Derived.Test.YthbobcapimmnhaaGreatDoorFnExactParseErrorP1
set_option linter.all false
section
namespace Go.Ab
set_option linter.unusedVariables false
set_option linter.unusedSimpArgs false
def gp (T ts : List Tok) : Psr := ⟨T, ((T.length - ts.length : Nat) : Int), -1⟩
def BadP (T ts : List Tok) (p : Psr) : Prop := p.list = T ∧ p.bad = ((T.length - ts.length : Nat) : Int) ∧ ts <:+ T
def SimP {α : Type} (T : List Tok) (R : PR α) (x : Option (α × Psr)) : Prop := match R with
  | .ok a ts => ts <:+ T ∧ x = some (a, gp T ts)
  | .err ts => ∃ a p, x = some (a, p) ∧ BadP T ts p
theorem BadP.nn {T ts : List Tok} {p : Psr} (h : BadP T ts p) : 0 ≤ p.bad := by rw [h.2.1]; omega
theorem SimP.bind {α β : Type} {T : List Tok} {R : PR α} {x : Option (α × Psr)} {k : α → List Tok → PR β} {g : α × Psr → Option (β × Psr)} (h : SimP T R x)
    (hk : ∀ a ts, R = .ok a ts → ts <:+ T → SimP T (k a ts) (g (a, gp T ts))) (hb : ∀ a p, 0 ≤ p.bad → ∃ b, g (a, p) = some (b, p)) : SimP T (R.bind k) (Option.bind x g) := by
  cases R with
  | ok a ts =>
    obtain ⟨h1, h2⟩ := h
    rw [h2]
    exact hk a ts rfl h1
  | err ts =>
    obtain ⟨a, p, h1, h2⟩ := h
    obtain ⟨b, h3⟩ := hb a p h2.nn
    rw [h1]
    exact ⟨b, p, h3, h2⟩
def hdT : List Tok → Tok
  | [] => Tok.mk 0 0 0 []
  | t :: _ => t
theorem isS_eq (N : Nat) (t : Tok) (s : Str) : xEg N t s = some (isS t s) := by unfold xEg isS; cases t.kind == 4 <;> rfl
theorem isK_eq (N : Nat) (t : Tok) (s : Str) : xDq N t s = some (isK t s) := by unfold xDq isK; cases t.kind == 1 <;> rfl
theorem isK_hd (s : Str) (ts : List Tok) : isK (hdT ts) s = seeK s ts := by cases ts <;> rfl
theorem isS_hd (s : Str) (ts : List Tok) : isS (hdT ts) s = seeS s ts := by cases ts <;> rfl
theorem xCb {T ts : List Tok} (h : ts <:+ T) : ts.tail <:+ T := (List.tail_suffix ts).trans h
theorem xFf {T ts : List Tok} (N : Nat) (h : ts <:+ T) : xBr N (gp T ts) = some (hdT ts, gp T ts) := by
  obtain ⟨pre, rfl⟩ := h
  have e : (pre ++ ts).length - ts.length = pre.length := by rw [List.length_append]; omega
  unfold xBr
  simp only [gp, e]
  rw [show decide ((-1 : Int) < 0) = true from rfl, cond_true]
  cases ts with
  | nil => rw [decide_eq_false (by simp), cond_false]; rfl
  | cons t r =>
    rw [decide_eq_true (by simp only [List.length_append, List.length_cons]; omega), cond_true, if_pos (by simp only [List.length_append, List.length_cons]; omega)]
    simp [List.getD, hdT]
theorem gp_adv {T ts : List Tok} (hT : T.length ≤ 1000) (h : ts <:+ T) (hne : ts.tail.length + 1 = ts.length) : Psr.mk (gp T ts).list (IntKind.i64.wrap ((gp T ts).pos + 1)) (gp T ts).bad = gp T ts.tail := by
  have hl := h.length_le
  unfold gp
  have : IntKind.i64.wrap (((T.length - ts.length : Nat) : Int) + 1) = ((T.length - ts.tail.length : Nat) : Int) := by rw [xCc (by omega) (by omega)]; omega
  simp only [this]
theorem xE2 {T ts : List Tok} {s : Str} (N : Nat) (hT : T.length ≤ 1000) (h : ts <:+ T) (hs : seeS s ts = true) : xAL N (gp T ts) s = some (true, gp T ts.tail) := by
  unfold xAL
  rw [xFf N h]
  simp only [Option.bind_some, isS_eq, isS_hd, hs, cond_true, gp_adv hT h (xEt hs)]
theorem xEK {T ts : List Tok} {s : Str} (N : Nat) (h : ts <:+ T) (hs : seeS s ts = false) : xAL N (gp T ts) s = some (false, gp T ts) := by
  unfold xAL
  rw [xFf N h]
  simp only [Option.bind_some, isS_eq, isS_hd, hs, cond_false]
theorem fail_eq {T ts : List Tok} (N : Nat) (h : ts <:+ T) : ∃ p, xBN N (gp T ts) = some (.mk 0 0 [] [], p) ∧ BadP T ts p := ⟨_, rfl, rfl, rfl, h⟩
theorem next_bad {p : Psr} (N : Nat) (h : 0 ≤ p.bad) : xBr N p = some (Tok.mk 0 0 0 [], p) := by
  unfold xBr; rw [decide_eq_false (by omega), cond_false]
theorem xEN {p : Psr} (N : Nat) (s : Str) (h : 0 ≤ p.bad) : xAL N p s = some (false, p) := by
  unfold xAL; rw [next_bad N h]; rfl
theorem fail_bad {p : Psr} (N : Nat) (h : 0 ≤ p.bad) : xBN N p = some (.mk 0 0 [] [], p) := by
  unfold xBN; rw [decide_eq_false (by omega), cond_false]
theorem xFo {p : Psr} (N : Nat) (s : Str) (h : 0 ≤ p.bad) : xAH N p s = some p := by
  unfold xAH; simp only [next_bad N h, Option.bind_some, isK_eq, isS_eq, fail_bad N h]; rfl
theorem SimP.need {β : Type} {T ts : List Tok} {s : Str} {N : Nat} {k : Unit → List Tok → PR β} {g : Psr → Option (β × Psr)} (hT : T.length ≤ 1000) (h : ts <:+ T)
    (hk : ∀ r, xEC s ts = .ok () r → r <:+ T → SimP T (k () r) (g (gp T r))) (hb : ∀ p, 0 ≤ p.bad → ∃ b, g p = some (b, p)) : SimP T ((xEC s ts).bind k) (Option.bind (xAH N (gp T ts) s) g) := by
  have bad : isK (hdT ts) s = false → isS (hdT ts) s = false → ∀ R : PR β, R = .err ts → SimP T R (Option.bind (xAH N (gp T ts) s) g) := by
    intro h1 h2 R hR
    subst hR
    obtain ⟨p, hp1, hp2⟩ := fail_eq N h
    obtain ⟨b, hb⟩ := hb p hp2.nn
    refine ⟨b, p, ?_, hp2⟩
    unfold xAH
    simp only [xFf N h, Option.bind_some, isK_eq, isS_eq, h1, h2, cond_false, hp1, hb]
  cases ts with
  | nil => exact bad rfl rfl _ rfl
  | cons t r =>
    cases h1 : isK t s
    · cases h2 : isS t s
      · exact bad h1 h2 _ (by simp only [xEC, h1, h2, Bool.or_false, cond_false, PR.bind])
      · have e : xEC s (t :: r) = .ok () r := by simp only [xEC, h1, h2, Bool.or_true, cond_true]
        rw [e]
        have := hk r e (xCb h)
        unfold xAH
        simp only [xFf N h, Option.bind_some, isK_eq, isS_eq, hdT, h1, h2, cond_false, cond_true, gp_adv hT h rfl]
        exact this
    · have e : xEC s (t :: r) = .ok () r := by simp only [xEC, h1, Bool.true_or, cond_true]
      rw [e]
      have := hk r e (xCb h)
      unfold xAH
      simp only [xFf N h, Option.bind_some, isK_eq, isS_eq, hdT, h1, cond_false, cond_true, gp_adv hT h rfl]
      exact this
structure TokT (K : Nat) (T : List Tok) : Prop where
  len : T.length ≤ 1000
  fit : ∀ t ∈ T, t.Fit K
  tw : tw T ≤ K
theorem tw_suf {T ts : List Tok} (h : ts <:+ T) : tw ts ≤ tw T := by
  obtain ⟨pre, rfl⟩ := h
  simp [tw]
theorem TokT.suf {K : Nat} {T ts : List Tok} (hT : TokT K T) (h : ts <:+ T) : (∀ t ∈ ts, t.Fit K) ∧ Ab.tw ts ≤ K := ⟨fun t ht => hT.fit t (h.subset ht), Nat.le_trans (tw_suf h) hT.tw⟩
theorem eat {K : Nat} {T ts r : List Tok} {f : List Tok → PR Exp} {e : Exp} (hT : TokT K T) (hf : xCd K f) (h : ts <:+ T) (he : f ts = .ok e r) : r.length < ts.length := by
  obtain ⟨h1, h2⟩ := hT.suf h
  exact (hf ts e r h1 h2 he).2.2
theorem name_sim {K : Nat} {T ts : List Tok} {N : Nat} (hT : TokT K T) (hN : K < N) (hK : K ≤ 1048576) (h : ts <:+ T) : SimP T (pName ts) (xBO N (gp T ts)) := by
  have bad : xBO N (gp T ts) = Option.bind (xBN N (gp T ts)) (fun r2 => some ([], r2.2)) → SimP T (.err ts : PR Str) (xBO N (gp T ts)) := fun he => by
    obtain ⟨p, h1, h2⟩ := fail_eq N h
    rw [he, h1]
    exact ⟨[], p, rfl, h2⟩
  cases ts with
  | nil =>
    refine bad ?_
    unfold xBO
    simp only [xFf N h, Option.bind_some, hdT]; rfl
  | cons t r =>
    have hft := hT.fit t (h.subset List.mem_cons_self)
    have hlen : t.text.length ≤ K := hft.2.2.2
    have hv := xEv (N := N) (s := t.text) (by omega) (by omega)
    simp only [pName]
    cases h1 : t.kind == 1
    · refine bad ?_
      unfold xBO
      simp only [xFf N h, Option.bind_some, hdT, bne, h1, Bool.not_false, cond_true]
    · cases h2 : xDj t.text
      · refine bad ?_
        unfold xBO
        simp only [xFf N h, Option.bind_some, hdT, bne, h1, hv, h2, Bool.not_true, Bool.not_false, cond_true, cond_false]
      · refine ⟨xCb h, ?_⟩
        unfold xBO
        simp only [xFf N h, Option.bind_some, hdT, bne, h1, hv, h2, Bool.not_true, cond_true, cond_false, gp_adv hT.len h rfl]
        rfl
abbrev e0 : Exp := .mk 0 0 [] []
def xE6 (q : Psr → Option (Exp × Psr)) : Prop := ∀ p, 0 ≤ p.bad → q p = some (e0, p)
def BadOkL (q : Psr → Str → Option (List Exp × Psr)) : Prop := ∀ p s, 0 ≤ p.bad → q p s = some ([], p)
def FPs (T : List Tok) (n : Nat) (f : List Tok → PR Exp) (q : Psr → Option (Exp × Psr)) : Prop := ∀ ts, ts <:+ T → ts.length < n → SimP T (f ts) (q (gp T ts))
section
variable {K : Nat} {T : List Tok} {N : Nat} {q0 q1 : Psr → Option (Exp × Psr)} {q2 : Psr → Str → Option (List Exp × Psr)} {q3 q4 : Psr → Option (Exp × Psr)}
theorem decm1 : decide ((-1 : Int) < 0) = true := rfl
theorem gp_bad (T ts : List Tok) : (gp T ts).bad = -1 := rfl
theorem listL_sim (hT : TokT K T) {n : Nat} {f : List Tok → PR Exp} (hf : xCd K f) (hq : FPs T n f q1) (hb : xE6 q1) (c : Str) : ∀ (m fuel : Nat) (acc : List Exp) (ts : List Tok), ts <:+ T → ts.length < n → ts.length < m → ts.length + 1 < fuel → acc.length + ts.length ≤ 2000 →
    SimP T (pListL f c m acc ts) (xB6 N q0 q1 q2 q3 q4 fuel c acc (gp T ts)) := by
  intro m
  induction m with
  | zero => intro fuel acc ts _ _ h; omega
  | succ m ih =>
    intro fuel acc ts h hn hm hfu ha
    obtain ⟨fuel, rfl⟩ : ∃ k, fuel = k + 1 := ⟨fuel - 1, by omega⟩
    simp only [pListL, xB6, gp_bad, decm1, cond_true]
    refine SimP.bind (hq ts h hn) (fun e r he hr => ?_) (fun e p hp => ?_)
    · have hl := eat hT hf h he
      simp only [Exp.re_eq]
      rw [if_pos (by simp only [List.length_cons, List.length_nil]; unfold Lim; omega)]
      cases hs : seeS c r
      · rw [xEK N hr hs, Option.bind_some]
        simp only [cond_false]
        refine SimP.need hT.len hr (fun q hq' hqs => ?_) (fun p hp => ?_)
        · have := xD9 hq'
          exact ih fuel (acc ++ [e]) q hqs (by omega) (by omega) (by omega) (by simp only [List.length_append, List.length_cons, List.length_nil]; omega)
        · obtain ⟨fuel, rfl⟩ : ∃ k, fuel = k + 1 := ⟨fuel - 1, by omega⟩
          exact ⟨acc ++ [e], by simp only [xB6]; rw [decide_eq_false (by omega), cond_false]⟩
      · rw [xE2 N hT.len hr hs, Option.bind_some]
        exact ⟨xCb hr, rfl⟩
    · obtain ⟨fuel, rfl⟩ : ∃ k, fuel = k + 1 := ⟨fuel - 1, by omega⟩
      simp only [Exp.re_eq]
      rw [if_pos (by simp only [List.length_cons, List.length_nil]; unfold Lim; omega), xEN N c hp, Option.bind_some]
      simp only [cond_false, xFo N _ hp, Option.bind_some]
      exact ⟨acc ++ [e], by simp only [xB6]; rw [decide_eq_false (by omega), cond_false]⟩
theorem list_bad (hN : 0 < N) (s : Str) {p : Psr} (h : 0 ≤ p.bad) : xB8 N q0 q1 q2 q3 q4 p s = some ([], p) := by
  obtain ⟨M, rfl⟩ : ∃ k, N = k + 1 := ⟨N - 1, by omega⟩
  unfold xB8
  rw [xEN _ s h, Option.bind_some]
  simp only [cond_false, xB6]
  rw [decide_eq_false (by omega), cond_false]
theorem list_sim (hT : TokT K T) (hN : 1002 < N) {n m : Nat} {f : List Tok → PR Exp} (hf : xCd K f) (hq : FPs T n f q1) (hb : xE6 q1) (c : Str) {ts : List Tok} (h : ts <:+ T) (hn : ts.length < n) (hm : ts.length < m) :
    SimP T (pList f m c ts) (xB8 N q0 q1 q2 q3 q4 (gp T ts) c) := by
  have hl := h.length_le
  have := hT.len
  unfold pList xB8
  cases hs : seeS c ts
  · rw [xEK N h hs, Option.bind_some]
    simp only [cond_false]
    exact listL_sim hT hf hq hb c m N [] ts h hn hm (by omega) (by simp; omega)
  · rw [xE2 N hT.len h hs, Option.bind_some]
    exact ⟨xCb h, rfl⟩
def FPl (T : List Tok) (n m : Nat) (f : List Tok → PR Exp) (q : Psr → Str → Option (List Exp × Psr)) : Prop := ∀ c ts, ts <:+ T → ts.length < n → SimP T (pList f m c ts) (q (gp T ts) c)
theorem atom_bad {p : Psr} (h : 0 ≤ p.bad) : xCe N q0 q1 q2 q3 q4 p = some (e0, p) := by
  unfold xCe
  simp only [next_bad N h, Option.bind_some, xEN N _ h, fail_bad N h]
  rfl
theorem atom2_sim (hT : TokT K T) {n m : Nat} {f : List Tok → PR Exp} (hf : xCd K f) (hq : FPs T n f q1) (hb : xE6 q1) (hl : FPl T n m f q2) (hbl : BadOkL q2) {t : Tok} {r : List Tok} (h : t :: r <:+ T) (hn : r.length < n) :
    SimP T (pAtom2 f m t r) (Option.bind (xAL N (gp T (t :: r)) [91]) fun r2 =>
        bif r2.1 then (
          Option.bind (q2 r2.2 [93]) fun r3 =>
          some ((Exp.mk 4 0 [] r3.1), r3.2)
        ) else (
          Option.bind (xAL N r2.2 [40]) fun r3 =>
          bif r3.1 then (
            Option.bind (q1 r3.2) fun r4 =>
            Option.bind (xAH N r4.2 [41]) fun r5 =>
            some (r4.1, r5)
          ) else (
            Option.bind (xBN N r3.2) fun r4 =>
            some (r4.1, r4.2)
          )
        )) := by
  have hr : r <:+ T := xCb h
  unfold pAtom2
  cases h1 : isS t [91]
  · rw [xEK N h h1, Option.bind_some]
    simp only [cond_false]
    cases h2 : isS t [40]
    · rw [xEK N h h2, Option.bind_some]
      simp only [cond_false]
      obtain ⟨p, hp1, hp2⟩ := fail_eq N h
      rw [hp1]
      exact ⟨_, p, rfl, hp2⟩
    · rw [xE2 N hT.len h h2, Option.bind_some]
      simp only [cond_true, List.tail_cons]
      refine SimP.bind (hq r hr hn) (fun e u he hu => ?_) (fun e p hp => ⟨e, by simp only [xFo N _ hp, Option.bind_some]⟩)
      exact SimP.need hT.len hu (fun v _ hv => ⟨hv, rfl⟩) (fun p hp => ⟨e, rfl⟩)
  · rw [xE2 N hT.len h h1, Option.bind_some]
    simp only [cond_true, List.tail_cons]
    exact SimP.bind (hl [93] r hr hn) (fun a u _ hu => ⟨hu, rfl⟩) (fun a p hp => ⟨_, rfl⟩)
theorem atom_sim (hT : TokT K T) (hN : K < N) (hK : K ≤ 1048576) {n m : Nat} {f : List Tok → PR Exp} (hf : xCd K f) (hq : FPs T n f q1) (hb : xE6 q1) (hl : FPl T n m f q2) (hbl : BadOkL q2) :
    FPs T (n + 1) (pAtom f m) (xCe N q0 q1 q2 q3 q4) := by
  intro ts h hn
  unfold xCe
  rw [xFf N h, Option.bind_some]
  cases ts with
  | nil =>
    simp only [hdT, xEK N h (s := [91]) rfl, xEK N h (s := [40]) rfl, Option.bind_some]
    obtain ⟨p, hp1, hp2⟩ := fail_eq N h
    exact ⟨_, p, by rw [hp1]; rfl, hp2⟩
  | cons t r =>
    have hr : r <:+ T := xCb h
    have hn' : r.length < n := by simp only [List.length_cons] at hn; omega
    have hft := hT.fit t (h.subset List.mem_cons_self)
    have hlen : t.text.length ≤ K := hft.2.2.2
    have hv := xEv (N := N) (s := t.text) (by omega) (by omega)
    have hadv := gp_adv hT.len h rfl
    rw [List.tail_cons] at hadv
    simp only [pAtom, hdT, hadv]
    cases h1 : t.kind == 2
    · cases h2 : t.kind == 3
      · cases h3 : t.kind == 1
        · exact atom2_sim hT hf hq hb hl hbl h hn'
        · simp only [cond_true, cond_false, hv, Option.bind_some]
          cases h4 : xDj t.text
          · simp only [cond_false, xEQ, Option.bind_some]
            cases h5 : decide (argc t.text ≥ 0)
            · exact atom2_sim hT hf hq hb hl hbl h hn'
            · simp only [cond_true]
              refine SimP.need hT.len hr (fun u hu hus => ?_) (fun p hp => ⟨_, by rw [hbl p _ hp, Option.bind_some]⟩)
              have := xD9 hu
              exact SimP.bind (hl [41] u hus (by omega)) (fun a v _ hv => ⟨hv, rfl⟩) (fun a p hp => ⟨_, rfl⟩)
          · exact ⟨hr, rfl⟩
      · exact ⟨hr, rfl⟩
    · exact ⟨hr, rfl⟩
theorem prodL_sim (hT : TokT K T) {n : Nat} {g : List Tok → PR Exp} (hg : xCd K g) (hq : FPs T n g q0) (hb : xE6 q0) (b2 : Exp) : ∀ (m fuel : Nat) (a : Exp) (ts : List Tok), ts <:+ T → ts.length ≤ n → ts.length < m → ts.length < fuel →
    SimP T (pProdL g m a ts) (xBK N q0 q1 q2 q3 q4 fuel (gp T ts) b2 a) := by
  intro m
  induction m with
  | zero => intro fuel a ts _ _ h; omega
  | succ m ih =>
    intro fuel a ts h hn hm hfu
    obtain ⟨fuel, rfl⟩ : ∃ k, fuel = k + 1 := ⟨fuel - 1, by omega⟩
    simp only [pProdL, xBK]
    cases hs : seeS [42] ts
    · rw [xEK N h hs, Option.bind_some]
      exact ⟨h, rfl⟩
    · have hl := xEt hs
      rw [xE2 N hT.len h hs, Option.bind_some]
      simp only [cond_true, Exp.re_eq]
      obtain ⟨fuel, rfl⟩ : ∃ k, fuel = k + 1 := ⟨fuel - 1, by omega⟩
      refine SimP.bind (hq ts.tail (xCb h) (by omega)) (fun b r hbr hr => ?_) (fun b p hp => ⟨.mk 6 3 [] [a, b], by simp only [xBK, xEN N _ hp, Option.bind_some, cond_false]⟩)
      have := eat hT hg (xCb h) hbr
      exact ih (fuel + 1) _ r hr (by omega) (by omega) (by omega)
theorem prod_sim (hT : TokT K T) (hN : 1002 < N) {n m : Nat} {g : List Tok → PR Exp} (hg : xCd K g) (hq : FPs T n g q0) (hb : xE6 q0) (hnm : n ≤ m) : FPs T n (pProd g m) (xBR N q0 q1 q2 q3 q4) := by
  intro ts h hn
  have hl := h.length_le
  have := hT.len
  unfold pProd xBR
  obtain ⟨M, rfl⟩ : ∃ k, N = k + 1 := ⟨N - 1, by omega⟩
  refine SimP.bind (hq ts h hn) (fun b r hbr hr => ?_) (fun b p hp => ⟨b, by simp only [xBK, xEN _ _ hp, Option.bind_some, cond_false]⟩)
  have := eat hT hg h hbr
  exact prodL_sim hT hg hq hb e0 m (M + 1) b r hr (by omega) (by omega) (by omega)
theorem prod_bad (hN : 0 < N) (hb : xE6 q0) : xE6 (xBR N q0 q1 q2 q3 q4) := by
  intro p hp
  obtain ⟨M, rfl⟩ : ∃ k, N = k + 1 := ⟨N - 1, by omega⟩
  unfold xBR
  simp only [hb p hp, Option.bind_some, xBK, xEN _ _ hp, cond_false]
theorem sumL_sim (hT : TokT K T) {n : Nat} {g : List Tok → PR Exp} (hg : xCd K g) (hq : FPs T n g q3) (hb : xE6 q3) (b2 : Exp) : ∀ (m fuel : Nat) (a : Exp) (ts : List Tok), ts <:+ T → ts.length ≤ n → ts.length < m → ts.length < fuel →
    SimP T (pSumL g m a ts) (xBU N q0 q1 q2 q3 q4 fuel (gp T ts) b2 a) := by
  intro m
  induction m with
  | zero => intro fuel a ts _ _ h; omega
  | succ m ih =>
    intro fuel a ts h hn hm hfu
    obtain ⟨fuel, rfl⟩ : ∃ k, fuel = k + 1 := ⟨fuel - 1, by omega⟩
    have step : ∀ s k, seeS s ts = true → SimP T ((g ts.tail).bind fun b r => pSumL g m (.mk 6 k [] [a, b]) r) (Option.bind (q3 (gp T ts.tail)) fun r3 => xBU N q0 q1 q2 q3 q4 fuel r3.2 b2 (Exp.mk 6 k [] [(Exp.re a), (Exp.re r3.1)])) := by
      intro s k hs
      have hl := xEt hs
      simp only [Exp.re_eq]
      obtain ⟨fuel, rfl⟩ : ∃ k, fuel = k + 1 := ⟨fuel - 1, by omega⟩
      refine SimP.bind (hq ts.tail (xCb h) (by omega)) (fun b r hbr hr => ?_) (fun b p hp => ⟨.mk 6 k [] [a, b], by simp only [xBU]; rw [decide_eq_false (by omega), cond_false]⟩)
      have := eat hT hg (xCb h) hbr
      exact ih (fuel + 1) _ r hr (by omega) (by omega) (by omega)
    simp only [pSumL, xBU, gp_bad, decm1, cond_true]
    cases hs : seeS [43] ts
    · rw [xEK N h hs, Option.bind_some]
      simp only [Bool.not_false, cond_true, cond_false]
      cases hs2 : seeS [45] ts
      · rw [xEK N h hs2, Option.bind_some]
        exact ⟨h, rfl⟩
      · rw [xE2 N hT.len h hs2, Option.bind_some]
        simp only [Bool.not_true, cond_false, cond_true]
        exact step _ 2 hs2
    · rw [xE2 N hT.len h hs, Option.bind_some]
      simp only [Bool.not_true, cond_false, cond_true]
      exact step _ 1 hs
theorem sum_sim (hT : TokT K T) (hN : 1002 < N) {n m : Nat} {g : List Tok → PR Exp} (hg : xCd K g) (hq : FPs T n g q3) (hb : xE6 q3) (hnm : n ≤ m) : FPs T n (pSum g m) (xCq N q0 q1 q2 q3 q4) := by
  intro ts h hn
  have hl := h.length_le
  have := hT.len
  unfold pSum xCq
  obtain ⟨M, rfl⟩ : ∃ k, N = k + 1 := ⟨N - 1, by omega⟩
  refine SimP.bind (hq ts h hn) (fun b r hbr hr => ?_) (fun b p hp => ⟨b, by simp only [xBU]; rw [decide_eq_false (by omega), cond_false]⟩)
  have := eat hT hg h hbr
  exact sumL_sim hT hg hq hb e0 m (M + 1) b r hr (by omega) (by omega) (by omega)
theorem sum_bad (hN : 0 < N) (hb : xE6 q3) : xE6 (xCq N q0 q1 q2 q3 q4) := by
  intro p hp
  obtain ⟨M, rfl⟩ : ∃ k, N = k + 1 := ⟨N - 1, by omega⟩
  unfold xCq
  simp only [hb p hp, Option.bind_some, xBU]
  rw [decide_eq_false (by omega), cond_false]
theorem opsym4 (N : Nat) : xEE N (List.getD [4, 5] (Int.toNat 0) Ty.int.dflt) = some [60] := rfl
theorem opsym5 (N : Nat) : xEE N (List.getD [4, 5] (Int.toNat 1) Ty.int.dflt) = some [61, 61] := rfl
theorem cmp_bad {p : Psr} (hp : 0 ≤ p.bad) (fuel : Nat) (a b2 : Exp) : xCp N q0 q1 q2 q3 q4 (fuel + 3) [4, 5] (List.length [4, 5] : Int) 0 p b2 a = some (a, p) := by
  have e1 : IntKind.i64.wrap (0 + 1) = 1 := rfl
  have e2 : IntKind.i64.wrap (1 + 1) = 2 := rfl
  simp only [xCp, opsym4, opsym5, Option.bind_some, xEN N _ hp, cond_false, e1, e2]
  rfl
theorem cmp_sim (hT : TokT K T) {n : Nat} {g : List Tok → PR Exp} (hg : xCd K g) (hq : FPs T n g q4) (hb : xE6 q4) (fuel : Nat) (a b2 : Exp) {ts : List Tok} (h : ts <:+ T) (hn : ts.length ≤ n) :
    SimP T (pCmpT g a ts) (xCp N q0 q1 q2 q3 q4 (fuel + 3) [4, 5] (List.length [4, 5] : Int) 0 (gp T ts) b2 a) := by
  have e1 : IntKind.i64.wrap (0 + 1) = 1 := rfl
  have e2 : IntKind.i64.wrap (1 + 1) = 2 := rfl
  have c0 : decide ((0 : Int) < (List.length [4, 5] : Int)) = true := rfl
  have c1 : decide ((1 : Int) < (List.length [4, 5] : Int)) = true := rfl
  have c2 : decide ((2 : Int) < (List.length [4, 5] : Int)) = false := rfl
  have i0 : (0 : Int) ≤ 0 ∧ (0 : Int) < (List.length [4, 5] : Int) := by decide
  have i1 : (0 : Int) ≤ 1 ∧ (1 : Int) < (List.length [4, 5] : Int) := by decide
  have step : ∀ s k, seeS s ts = true → SimP T ((g ts.tail).bind fun b r => PR.ok (.mk 6 k [] [a, b]) r) (Option.bind (q4 (gp T ts.tail)) fun r3 => some ((Exp.mk 6 k [] [(Exp.re a), (Exp.re r3.1)]), r3.2)) := by
    intro s k hs
    have hl := xEt hs
    simp only [Exp.re_eq]
    exact SimP.bind (hq ts.tail (xCb h) (by omega)) (fun b r hbr hr => ⟨hr, rfl⟩) (fun b p hp => ⟨_, rfl⟩)
  unfold pCmpT
  simp only [xCp, c0, c1, c2, if_pos i0, if_pos i1, cond_true, cond_false, opsym4, opsym5, e1, e2, Option.bind_some]
  cases hs : seeS [60] ts
  · rw [xEK N h hs, Option.bind_some]
    simp only [cond_false]
    cases hs2 : seeS [61, 61] ts
    · rw [xEK N h hs2, Option.bind_some]
      exact ⟨h, rfl⟩
    · rw [xE2 N hT.len h hs2, Option.bind_some]
      exact step _ 5 hs2
  · rw [xE2 N hT.len h hs, Option.bind_some]
    exact step _ 4 hs
theorem expr_bad (hN : 3 ≤ N) (hb : xE6 q4) : xE6 (xCf N q0 q1 q2 q3 q4) := by
  intro p hp
  obtain ⟨M, rfl⟩ : ∃ k, N = k + 3 := ⟨N - 3, by omega⟩
  unfold xCf
  simp only [next_bad _ hp, Option.bind_some, isK_eq, hb p hp]
  exact cmp_bad hp M e0 e0
theorem lim1 (x : Exp) : 0 + List.length [x] ≤ Lim := by simp [Lim]
theorem lim2 (x y : Exp) : List.length ([] ++ [x]) + List.length [y] ≤ Lim := by simp [Lim]
theorem lim3 (x y z : Exp) : List.length (([] ++ [x]) ++ [y]) + List.length [z] ≤ Lim := by simp [Lim]
theorem two_sim (hT : TokT K T) (hN : K < N) (hK : K ≤ 1048576) {n : Nat} {f : List Tok → PR Exp} (hf : xCd K f) (hq : FPs T n f q1) (hb : xE6 q1) (k : Int) (s1 s2 : Str) {ts : List Tok} (h : ts <:+ T) (hn : ts.length < n) :
    SimP T (pTwo f k s1 s2 ts) (Option.bind (xBO N (gp T ts)) fun r3 => Option.bind (xAH N r3.2 s1) fun r4 => Option.bind (q1 r4) fun r5 =>
      if 0 + List.length [(Exp.re r5.1)] ≤ Lim then Option.bind (xAH N r5.2 s2) fun r6 => Option.bind (q1 r6) fun r7 =>
        if List.length ([] ++ [(Exp.re r5.1)]) + List.length [(Exp.re r7.1)] ≤ Lim then some ((Exp.mk k 0 r3.1 (([] ++ [(Exp.re r5.1)]) ++ [(Exp.re r7.1)])), r7.2) else none else none) := by
  simp only [if_pos (lim1 _), if_pos (lim2 _ _), Exp.re_eq]
  refine SimP.bind (name_sim hT hN hK h) (fun x r1 hx hr1 => ?_) (fun x p hp => ⟨.mk k 0 x [e0, e0], by simp only [xFo N _ hp, hb p hp, Option.bind_some]; rfl⟩)
  have l1 := pName_len hx
  refine SimP.need hT.len hr1 (fun r2 h2 hr2 => ?_) (fun p hp => ⟨.mk k 0 x [e0, e0], by simp only [xFo N _ hp, hb p hp, Option.bind_some]; rfl⟩)
  have l2 := xD9 h2
  refine SimP.bind (hq r2 hr2 (by omega)) (fun a r3 h3 hr3 => ?_) (fun a p hp => ⟨.mk k 0 x [a, e0], by simp only [xFo N _ hp, hb p hp, Option.bind_some]; rfl⟩)
  have l3 := eat hT hf hr2 h3
  refine SimP.need hT.len hr3 (fun r4 h4 hr4 => ?_) (fun p hp => ⟨.mk k 0 x [a, e0], by simp only [hb p hp, Option.bind_some]; rfl⟩)
  have l4 := xD9 h4
  exact SimP.bind (hq r4 hr4 (by omega)) (fun b r5 h5 hr5 => ⟨hr5, rfl⟩) (fun b p hp => ⟨_, rfl⟩)
theorem if_sim (hT : TokT K T) {n : Nat} {f : List Tok → PR Exp} (hf : xCd K f) (hq : FPs T n f q1) (hb : xE6 q1) {ts : List Tok} (h : ts <:+ T) (hn : ts.length < n) :
    SimP T (pIf f ts) (Option.bind (q1 (gp T ts)) fun r5 =>
      if 0 + List.length [(Exp.re r5.1)] ≤ Lim then
      Option.bind (xAH N r5.2 [116, 104, 101, 110]) fun r6 =>
      Option.bind (q1 r6) fun r7 =>
      if List.length ([] ++ [(Exp.re r5.1)]) + List.length [(Exp.re r7.1)] ≤ Lim then
      Option.bind (xAH N r7.2 [101, 108, 115, 101]) fun r8 =>
      Option.bind (q1 r8) fun r9 =>
      if List.length (([] ++ [(Exp.re r5.1)]) ++ [(Exp.re r7.1)]) + List.length [(Exp.re r9.1)] ≤ Lim then
      some ((Exp.mk 8 0 [] ((([] ++ [(Exp.re r5.1)]) ++ [(Exp.re r7.1)]) ++ [(Exp.re r9.1)])), r9.2)
      else none
      else none
      else none) := by
  simp only [if_pos (lim1 _), if_pos (lim2 _ _), if_pos (lim3 _ _ _), Exp.re_eq]
  refine SimP.bind (hq ts h hn) (fun a r1 h1 hr1 => ?_) (fun a p hp => ⟨.mk 8 0 [] [a, e0, e0], by simp only [xFo N _ hp, hb p hp, Option.bind_some]; rfl⟩)
  have l1 := eat hT hf h h1
  refine SimP.need hT.len hr1 (fun r2 h2 hr2 => ?_) (fun p hp => ⟨.mk 8 0 [] [a, e0, e0], by simp only [xFo N _ hp, hb p hp, Option.bind_some]; rfl⟩)
  have l2 := xD9 h2
  refine SimP.bind (hq r2 hr2 (by omega)) (fun b r3 h3 hr3 => ?_) (fun b p hp => ⟨.mk 8 0 [] [a, b, e0], by simp only [xFo N _ hp, hb p hp, Option.bind_some]; rfl⟩)
  have l3 := eat hT hf hr2 h3
  refine SimP.need hT.len hr3 (fun r4 h4 hr4 => ?_) (fun p hp => ⟨.mk 8 0 [] [a, b, e0], by simp only [hb p hp, Option.bind_some]; rfl⟩)
  have l4 := xD9 h4
  exact SimP.bind (hq r4 hr4 (by omega)) (fun c r5 h5 hr5 => ⟨hr5, rfl⟩) (fun c p hp => ⟨_, rfl⟩)
theorem exprB_sim (hT : TokT K T) (hN : K < N) (hN2 : 1002 < N) (hK : K ≤ 1048576) {n : Nat} {f g : List Tok → PR Exp} (hf : xCd K f) (hg : xCd K g) (hq : FPs T n f q1) (hb : xE6 q1) (hq4 : FPs T (n + 1) g q4) (hb4 : xE6 q4) :
    FPs T (n + 1) (pExprB f g) (xCf N q0 q1 q2 q3 q4) := by
  intro ts h hn
  unfold pExprB xCf
  simp only [xFf N h, Option.bind_some, isK_eq, isK_hd]
  cases c1 : seeK [108, 101, 116] ts
  · simp only [cond_false]
    cases c2 : seeK [105, 102] ts
    · simp only [cond_false]
      cases c3 : seeK [102, 111, 114] ts
      · simp only [cond_false]
        obtain ⟨M, rfl⟩ : ∃ k, N = k + 3 := ⟨N - 3, by omega⟩
        unfold pCmp
        refine SimP.bind (hq4 ts h hn) (fun a r ha hr => ?_) (fun a p hp => ⟨a, cmp_bad hp M a e0⟩)
        have := eat hT hg h ha
        exact cmp_sim hT hg hq4 hb4 M a e0 hr (by omega)
      · simp only [cond_true, gp_adv hT.len h (xEs c3)]
        have := xEs c3
        exact two_sim hT hN hK hf hq hb 9 _ _ (xCb h) (by omega)
    · simp only [cond_true, gp_adv hT.len h (xEs c2)]
      have := xEs c2
      exact if_sim hT hf hq hb (xCb h) (by omega)
  · simp only [cond_true, gp_adv hT.len h (xEs c1)]
    have := xEs c1
    exact two_sim hT hN hK hf hq hb 7 _ _ (xCb h) (by omega)
end
theorem bad_all {N : Nat} (hN : 3 ≤ N) : ∀ d, 4 ≤ d → xE6 (xAb N d).c_impl_parser_expr := by
  intro d hd
  obtain ⟨d, rfl⟩ : ∃ k, d = k + 4 := ⟨d - 4, by omega⟩
  exact expr_bad (q0 := (xAb N (d + 3)).c_impl_parser_atom) (q1 := (xAb N (d + 3)).c_impl_parser_expr) (q2 := (xAb N (d + 3)).c_impl_parser_list2) (q3 := (xAb N (d + 3)).c_impl_parser_product) (q4 := (xAb N (d + 3)).c_impl_parser_sum) hN (sum_bad (q0 := (xAb N (d + 2)).c_impl_parser_atom) (q1 := (xAb N (d + 2)).c_impl_parser_expr) (q2 := (xAb N (d + 2)).c_impl_parser_list2) (q3 := (xAb N (d + 2)).c_impl_parser_product) (q4 := (xAb N (d + 2)).c_impl_parser_sum) (by omega) (prod_bad (q0 := (xAb N (d + 1)).c_impl_parser_atom) (q1 := (xAb N (d + 1)).c_impl_parser_expr) (q2 := (xAb N (d + 1)).c_impl_parser_list2) (q3 := (xAb N (d + 1)).c_impl_parser_product) (q4 := (xAb N (d + 1)).c_impl_parser_sum) (by omega) fun p hp => atom_bad (q0 := (xAb N d).c_impl_parser_atom) (q1 := (xAb N d).c_impl_parser_expr) (q2 := (xAb N d).c_impl_parser_list2) (q3 := (xAb N d).c_impl_parser_product) (q4 := (xAb N d).c_impl_parser_sum) hp))
theorem pE_sim {K : Nat} {T : List Tok} {N : Nat} (hT : TokT K T) (hN : K < N) (hN2 : 1002 < N) (hK : K ≤ 1048576) : ∀ n d, 5 * n + 9 ≤ d → FPs T n (pE n) (xAb N d).c_impl_parser_expr := by
  intro n
  induction n with
  | zero => intro d _ ts _ h; omega
  | succ n ih =>
    intro d hd
    obtain ⟨d, rfl⟩ : ∃ k, d = k + 5 := ⟨d - 5, by omega⟩
    have f1 := ih d (by omega)
    have f2 := ih (d + 1) (by omega)
    have f4 := ih (d + 4) (by omega)
    have b1 := bad_all (N := N) (by omega) d (by omega)
    have b2 := bad_all (N := N) (by omega) (d + 1) (by omega)
    have b4 := bad_all (N := N) (by omega) (d + 4) (by omega)
    have hl : FPl T n (n + 1) (pE n) (xAb N (d + 1)).c_impl_parser_list2 := fun c ts h hn => list_sim (q0 := (xAb N d).c_impl_parser_atom) (q1 := (xAb N d).c_impl_parser_expr) (q2 := (xAb N d).c_impl_parser_list2) (q3 := (xAb N d).c_impl_parser_product) (q4 := (xAb N d).c_impl_parser_sum) hT hN2 (xDX n) f1 b1 c h hn (by omega)
    have hbl : BadOkL (xAb N (d + 1)).c_impl_parser_list2 := fun p s hp => list_bad (q0 := (xAb N d).c_impl_parser_atom) (q1 := (xAb N d).c_impl_parser_expr) (q2 := (xAb N d).c_impl_parser_list2) (q3 := (xAb N d).c_impl_parser_product) (q4 := (xAb N d).c_impl_parser_sum) (by omega) s hp
    have a : FPs T (n + 1) (pAtom (pE n) (n + 1)) (xAb N (d + 2)).c_impl_parser_atom := atom_sim (q0 := (xAb N (d + 1)).c_impl_parser_atom) (q1 := (xAb N (d + 1)).c_impl_parser_expr) (q2 := (xAb N (d + 1)).c_impl_parser_list2) (q3 := (xAb N (d + 1)).c_impl_parser_product) (q4 := (xAb N (d + 1)).c_impl_parser_sum) hT hN hK (xDX n) f2 b2 hl hbl
    have ba : xE6 (xAb N (d + 2)).c_impl_parser_atom := fun p hp => atom_bad (q0 := (xAb N (d + 1)).c_impl_parser_atom) (q1 := (xAb N (d + 1)).c_impl_parser_expr) (q2 := (xAb N (d + 1)).c_impl_parser_list2) (q3 := (xAb N (d + 1)).c_impl_parser_product) (q4 := (xAb N (d + 1)).c_impl_parser_sum) hp
    have p : FPs T (n + 1) (pProd (pAtom (pE n) (n + 1)) (n + 1)) (xAb N (d + 3)).c_impl_parser_product := prod_sim (q0 := (xAb N (d + 2)).c_impl_parser_atom) (q1 := (xAb N (d + 2)).c_impl_parser_expr) (q2 := (xAb N (d + 2)).c_impl_parser_list2) (q3 := (xAb N (d + 2)).c_impl_parser_product) (q4 := (xAb N (d + 2)).c_impl_parser_sum) hT hN2 (xFg (xDX n) _) a ba (Nat.le_refl _)
    have bp : xE6 (xAb N (d + 3)).c_impl_parser_product := prod_bad (q0 := (xAb N (d + 2)).c_impl_parser_atom) (q1 := (xAb N (d + 2)).c_impl_parser_expr) (q2 := (xAb N (d + 2)).c_impl_parser_list2) (q3 := (xAb N (d + 2)).c_impl_parser_product) (q4 := (xAb N (d + 2)).c_impl_parser_sum) (by omega) ba
    have s : FPs T (n + 1) (pSumF (pE n) (n + 1)) (xAb N (d + 4)).c_impl_parser_sum := sum_sim (q0 := (xAb N (d + 3)).c_impl_parser_atom) (q1 := (xAb N (d + 3)).c_impl_parser_expr) (q2 := (xAb N (d + 3)).c_impl_parser_list2) (q3 := (xAb N (d + 3)).c_impl_parser_product) (q4 := (xAb N (d + 3)).c_impl_parser_sum) hT hN2 (xGl (xFg (xDX n) _) _) p bp (Nat.le_refl _)
    have bs : xE6 (xAb N (d + 4)).c_impl_parser_sum := sum_bad (q0 := (xAb N (d + 3)).c_impl_parser_atom) (q1 := (xAb N (d + 3)).c_impl_parser_expr) (q2 := (xAb N (d + 3)).c_impl_parser_list2) (q3 := (xAb N (d + 3)).c_impl_parser_product) (q4 := (xAb N (d + 3)).c_impl_parser_sum) (by omega) bp
    exact exprB_sim (q0 := (xAb N (d + 4)).c_impl_parser_atom) (q1 := (xAb N (d + 4)).c_impl_parser_expr) (q2 := (xAb N (d + 4)).c_impl_parser_list2) (q3 := (xAb N (d + 4)).c_impl_parser_product) (q4 := (xAb N (d + 4)).c_impl_parser_sum) hT hN hN2 hK (xDX n) (xGm (xDX n) _) f4 b4 s bs
end Go.Ab
end
section
namespace Go.Ab
set_option linter.unusedVariables false
set_option linter.unusedSimpArgs false
def gr (T : List Tok) (L : Int) (ts : List Tok) : Rdr := ⟨T, ((T.length - ts.length : Nat) : Int), L, -1⟩
def offT (L : Int) : List Tok → Int
  | [] => L
  | t :: _ => t.pos
def BadR (T : List Tok) (L : Int) (ts : List Tok) (r : Rdr) : Prop := r.toks = T ∧ r.fin = L ∧ r.bad = offT L ts ∧ ts <:+ T
structure TokW (T : List Tok) (L : Int) : Prop where
  pos : ∀ t ∈ T, 0 ≤ t.pos
  fin : 0 ≤ L
  name : ∀ t ∈ T, t.kind = 1 → ∃ (c : UInt8) (l : Str), t.text = c :: l ∧ 97 ≤ c.toNat
  sym : ∀ t ∈ T, t.kind = 4 → ∃ (c : UInt8) (l : Str), t.text = c :: l ∧ c.toNat < 97
theorem BadR.nn {T ts : List Tok} {L : Int} {r : Rdr} (hW : TokW T L) (h : BadR T L ts r) : 0 ≤ r.bad := by
  rw [h.2.2.1]
  cases ts with
  | nil => exact hW.fin
  | cons t q => exact hW.pos t (h.2.2.2.subset List.mem_cons_self)
def SimR {α : Type} (T : List Tok) (L : Int) (R : PR α) (x : Option (α × Rdr)) : Prop := match R with
  | .ok a ts => ts <:+ T ∧ x = some (a, gr T L ts)
  | .err ts => ∃ a p, x = some (a, p) ∧ BadR T L ts p
theorem SimR.bind {α β : Type} {T : List Tok} {L : Int} (hW : TokW T L) {R : PR α} {x : Option (α × Rdr)} {k : α → List Tok → PR β} {g : α × Rdr → Option (β × Rdr)} (h : SimR T L R x)
    (hk : ∀ a ts, R = .ok a ts → ts <:+ T → SimR T L (k a ts) (g (a, gr T L ts))) (hb : ∀ a p, 0 ≤ p.bad → ∃ b, g (a, p) = some (b, p)) : SimR T L (R.bind k) (Option.bind x g) := by
  cases R with
  | ok a ts =>
    obtain ⟨h1, h2⟩ := h
    rw [h2]
    exact hk a ts rfl h1
  | err ts =>
    obtain ⟨a, p, h1, h2⟩ := h
    obtain ⟨b, h3⟩ := hb a p (h2.nn hW)
    rw [h1]
    exact ⟨b, p, h3, h2⟩
theorem sS_eq (N : Nat) (t : Tok) (s : Str) : xCQ N t s = some (isS t s) := by unfold xCQ isS; cases t.kind == 4 <;> rfl
theorem sK_eq (N : Nat) (t : Tok) (s : Str) : xEo N t s = some (isK t s) := by unfold xEo isK; cases t.kind == 1 <;> rfl
theorem gr_at {T ts : List Tok} {L : Int} {t : Tok} {q : List Tok} (h : t :: q <:+ T) : (decide ((gr T L (t :: q)).i < (List.length (gr T L (t :: q)).toks : Int)) = true ∧ decide ((gr T L (t :: q)).i ≥ (List.length (gr T L (t :: q)).toks : Int)) = false) ∧
    ((0 : Int) ≤ (gr T L (t :: q)).i ∧ (gr T L (t :: q)).i < (List.length (gr T L (t :: q)).toks)) ∧ List.getD (gr T L (t :: q)).toks (Int.toNat (gr T L (t :: q)).i) Ty.tok.dflt = t := by
  obtain ⟨pre, rfl⟩ := h
  have e : (pre ++ t :: q).length - (t :: q).length = pre.length := by rw [List.length_append]; omega
  have e2 : (pre ++ t :: q).length = pre.length + (q.length + 1) := by simp
  simp only [gr, e]
  refine ⟨⟨decide_eq_true (by omega), decide_eq_false (by omega)⟩, by omega, ?_⟩
  simp [List.getD]
theorem gr_end (T : List Tok) (L : Int) : decide ((gr T L []).i < (List.length (gr T L []).toks : Int)) = false ∧ decide ((gr T L []).i ≥ (List.length (gr T L []).toks : Int)) = true := by
  simp only [gr, List.length_nil, Nat.sub_zero]
  exact ⟨decide_eq_false (by omega), decide_eq_true (by omega)⟩
theorem gr_bad (T ts : List Tok) (L : Int) : (gr T L ts).bad = -1 := rfl
theorem sees_eq {T ts : List Tok} {L : Int} (N : Nat) (s : Str) (h : ts <:+ T) : xBn N (gr T L ts) s = some (seeS s ts || seeK s ts, gr T L ts) := by
  unfold xBn
  rw [gr_bad, decm1, cond_true]
  cases ts with
  | nil => rw [(gr_end T L).1, cond_false]; rfl
  | cons t q =>
    obtain ⟨⟨a1, _⟩, a2, a3⟩ := gr_at (ts := t :: q) (L := L) h
    rw [a1, cond_true, if_pos a2, a3, sS_eq, Option.bind_some, sK_eq]
    show _ = some (isS t s || isK t s, _)
    cases isS t s <;> rfl
def SymS (s : Str) : Prop := ∃ (c : UInt8) (l : Str), s = c :: l ∧ c.toNat < 97
def KeyS (s : Str) : Prop := ∃ (c : UInt8) (l : Str), s = c :: l ∧ 97 ≤ c.toNat
theorem seeK_no {T ts : List Tok} {L : Int} (hW : TokW T L) (h : ts <:+ T) {s : Str} (hs : SymS s) : seeK s ts = false := by
  cases ts with
  | nil => rfl
  | cons t q =>
    show isK t s = false
    unfold isK
    cases hk : t.kind == 1
    · rfl
    · obtain ⟨c, l, h1, h2⟩ := hW.name t (h.subset List.mem_cons_self) (by simpa using hk)
      obtain ⟨c', l', rfl, h4⟩ := hs
      rw [cond_true, h1, beq_eq_false_iff_ne]
      intro e
      cases e
      omega
theorem seeS_no {T ts : List Tok} {L : Int} (hW : TokW T L) (h : ts <:+ T) {s : Str} (hs : KeyS s) : seeS s ts = false := by
  cases ts with
  | nil => rfl
  | cons t q =>
    show isS t s = false
    unfold isS
    cases hk : t.kind == 4
    · rfl
    · obtain ⟨c, l, h1, h2⟩ := hW.sym t (h.subset List.mem_cons_self) (by simpa using hk)
      obtain ⟨c', l', rfl, h4⟩ := hs
      rw [cond_true, h1, beq_eq_false_iff_ne]
      intro e
      cases e
      omega
theorem seesS {T ts : List Tok} {L : Int} (hW : TokW T L) (N : Nat) {s : Str} (hs : SymS s) (h : ts <:+ T) : xBn N (gr T L ts) s = some (seeS s ts, gr T L ts) := by
  rw [sees_eq N s h, seeK_no hW h hs, Bool.or_false]
theorem seesK {T ts : List Tok} {L : Int} (hW : TokW T L) (N : Nat) {s : Str} (hs : KeyS s) (h : ts <:+ T) : xBn N (gr T L ts) s = some (seeK s ts, gr T L ts) := by
  rw [sees_eq N s h, seeS_no hW h hs, Bool.false_or]
theorem xFz {T ts : List Tok} {L : Int} (hT : T.length ≤ 1000) (h : ts <:+ T) (hne : ts.tail.length + 1 = ts.length) : Rdr.mk (gr T L ts).toks (IntKind.i64.wrap ((gr T L ts).i + 1)) (gr T L ts).fin (gr T L ts).bad = gr T L ts.tail := by
  have hl := h.length_le
  unfold gr
  have : IntKind.i64.wrap (((T.length - ts.length : Nat) : Int) + 1) = ((T.length - ts.tail.length : Nat) : Int) := by rw [xCc (by omega) (by omega)]; omega
  simp only [this]
theorem sfail_eq {T ts : List Tok} {L : Int} (N : Nat) (h : ts <:+ T) : ∃ p, xBF N (gr T L ts) = some (e0, p) ∧ BadR T L ts p := by
  unfold xBF
  rw [gr_bad, decm1, cond_true]
  cases ts with
  | nil =>
    rw [(gr_end T L).1, cond_false]
    exact ⟨_, rfl, rfl, rfl, rfl, h⟩
  | cons t q =>
    obtain ⟨⟨a1, _⟩, a2, a3⟩ := gr_at (ts := t :: q) (L := L) h
    rw [a1, cond_true, if_pos a2, a3]
    exact ⟨_, rfl, rfl, rfl, rfl, h⟩
theorem xEu {p : Rdr} (N : Nat) (s : Str) (h : 0 ≤ p.bad) : xBn N p s = some (false, p) := by
  unfold xBn; rw [decide_eq_false (by omega), cond_false]
theorem sfail_bad {p : Rdr} (N : Nat) (h : 0 ≤ p.bad) : xBF N p = some (e0, p) := by
  unfold xBF; rw [decide_eq_false (by omega), cond_false]
theorem xE3 {p : Rdr} (N : Nat) (s : Str) (h : 0 ≤ p.bad) : xBm N p s = some p := by
  unfold xBm; simp only [xEu N s h, Option.bind_some, sfail_bad N h]; rfl
theorem SimR.need {β : Type} {T ts : List Tok} {L : Int} (hW : TokW T L) {s : Str} {N : Nat} {k : Unit → List Tok → PR β} {g : Rdr → Option (β × Rdr)} (hT : T.length ≤ 1000) (h : ts <:+ T)
    (hk : ∀ r, xEC s ts = .ok () r → r <:+ T → SimR T L (k () r) (g (gr T L r))) (hb : ∀ p, 0 ≤ p.bad → ∃ b, g p = some (b, p)) : SimR T L ((xEC s ts).bind k) (Option.bind (xBm N (gr T L ts) s) g) := by
  unfold xBm
  rw [sees_eq N s h, Option.bind_some]
  have bad : ∀ R : PR β, R = .err ts → SimR T L R (Option.bind (Option.bind (xBF N (gr T L ts)) fun r2 => some r2.2) g) := by
    intro R hR
    subst hR
    obtain ⟨p, hp1, hp2⟩ := sfail_eq (L := L) N h
    obtain ⟨b, hb⟩ := hb p (hp2.nn hW)
    refine ⟨b, p, ?_, hp2⟩
    rw [hp1, Option.bind_some, Option.bind_some, hb]
  cases ts with
  | nil => exact bad _ rfl
  | cons t r =>
    show SimR T L _ (Option.bind (bif (!(isS t s || isK t s)) then _ else _) g)
    cases h1 : isS t s || isK t s
    · exact bad _ (by simp only [xEC, Bool.or_comm (isK t s), h1, cond_false, PR.bind])
    · have e : xEC s (t :: r) = .ok () r := by simp only [xEC, Bool.or_comm (isK t s), h1, cond_true]
      rw [e]
      simp only [Bool.not_true, cond_false, Option.bind_some]
      have ha : Rdr.mk (gr T L (t :: r)).toks (IntKind.i64.wrap ((gr T L (t :: r)).i + 1)) (gr T L (t :: r)).fin (gr T L (t :: r)).bad = gr T L r := xFz hT h rfl
      rw [ha]
      exact hk r e (xCb h)
theorem sname_sim {K : Nat} {T ts : List Tok} {L : Int} {N : Nat} (hT : TokT K T) (hN : K < N) (h24 : 24 < N) (hK : K ≤ 1048576) (h : ts <:+ T) : SimR T L (pName ts) (xC0 N (gr T L ts)) := by
  have bad : xC0 N (gr T L ts) = Option.bind (xBF N (gr T L ts)) (fun r2 => some ([], r2.2)) → SimR T L (.err ts : PR Str) (xC0 N (gr T L ts)) := fun he => by
    obtain ⟨p, h1, h2⟩ := sfail_eq (L := L) N h
    rw [he, h1]
    exact ⟨[], p, rfl, h2⟩
  have c0 : decide ((-1 : Int) ≥ 0) = false := rfl
  cases ts with
  | nil =>
    refine bad ?_
    unfold xC0
    rw [gr_bad, c0, cond_false, (gr_end T L).2, cond_true]
  | cons t r =>
    have hft := hT.fit t (h.subset List.mem_cons_self)
    have hlen : t.text.length ≤ K := hft.2.2.2
    have hv := xEy (N := N) (s := t.text) (by omega) (by omega) h24
    obtain ⟨⟨_, a1⟩, a2, a3⟩ := gr_at (ts := t :: r) (L := L) h
    simp only [pName]
    cases h1 : t.kind == 1
    · refine bad ?_
      unfold xC0
      rw [gr_bad, c0, cond_false, a1, cond_false, if_pos a2, a3]
      simp only [bne, h1, Bool.not_false, cond_true]
    · cases h2 : xDj t.text
      · refine bad ?_
        unfold xC0
        rw [gr_bad, c0, cond_false, a1, cond_false, if_pos a2, a3]
        simp only [bne, h1, hv, h2, Option.bind_some, Bool.not_true, Bool.not_false, cond_true, cond_false]
      · refine ⟨xCb h, ?_⟩
        have hl := h.length_le
        have hT1 := hT.len
        have e1 : IntKind.i64.wrap ((IntKind.i64.wrap ((gr T L (t :: r)).i + 1)) - 1) = (gr T L (t :: r)).i := by
          show IntKind.i64.wrap ((IntKind.i64.wrap (((T.length - (t :: r).length : Nat) : Int) + 1)) - 1) = ((T.length - (t :: r).length : Nat) : Int)
          rw [xCc (x := ((T.length - (t :: r).length : Nat) : Int) + 1) (by omega) (by omega), xCc (by omega) (by omega)]; omega
        have ha : Rdr.mk (gr T L (t :: r)).toks (IntKind.i64.wrap ((gr T L (t :: r)).i + 1)) (gr T L (t :: r)).fin (gr T L (t :: r)).bad = gr T L r := xFz hT.len h rfl
        unfold xC0
        rw [e1, ha, gr_bad, c0, cond_false, a1, cond_false, if_pos a2, a3]
        simp only [bne, h1, hv, h2, Option.bind_some, Bool.not_true, cond_true, cond_false, if_pos a2]
def xEm (q : Rdr → Option (Exp × Rdr)) : Prop := ∀ p, 0 ≤ p.bad → q p = some (e0, p)
def BadOkRL (q : Rdr → Str → Option (List Exp × Rdr)) : Prop := ∀ p s, 0 ≤ p.bad → q p s = some ([], p)
def FRs (T : List Tok) (L : Int) (n : Nat) (f : List Tok → PR Exp) (q : Rdr → Option (Exp × Rdr)) : Prop := ∀ ts, ts <:+ T → ts.length < n → SimR T L (f ts) (q (gr T L ts))
theorem sOp (N : Nat) (k : Int) (a b : Exp) : xDx N k a b = some (.mk 6 k [] [a, b]) := by unfold xDx; simp only [Exp.re_eq]
theorem seeS_ne {s s' : Str} {ts : List Tok} (h : seeS s ts = true) (hne : s ≠ s') : seeS s' ts = false := by
  cases ts with
  | nil => cases h
  | cons t q =>
    have h : isS t s = true := h
    show isS t s' = false
    unfold isS at h ⊢
    cases hk : t.kind == 4
    · rfl
    · rw [hk, cond_true] at h
      rw [cond_true, beq_eq_false_iff_ne]
      intro e
      exact hne ((beq_iff_eq.1 h).symm.trans e)
section
variable {K : Nat} {T : List Tok} {L : Int} {N : Nat} {q0 : Rdr → Str → Option (List Exp × Rdr)} {q1 q2 q3 q4 q5 : Rdr → Option (Exp × Rdr)}
theorem argsL_sim (hW : TokW T L) (hT : TokT K T) {n : Nat} {f : List Tok → PR Exp} (hf : xCd K f) (hq : FRs T L n f q3) (c : Str) (hc : SymS c) (hc2 : c ≠ [44]) : ∀ (m fuel : Nat) (acc : List Exp) (ts : List Tok), ts <:+ T → ts.length < n → ts.length < m → ts.length < fuel → acc.length + ts.length ≤ 2000 →
    SimR T L (pListL f c m acc ts) (xDS N q0 q1 q2 q3 q4 q5 fuel c acc (gr T L ts)) := by
  have hco : SymS [44] := ⟨44, [], rfl, by decide⟩
  intro m
  induction m with
  | zero => intro fuel acc ts _ _ h; omega
  | succ m ih =>
    intro fuel acc ts h hn hm hfu ha
    obtain ⟨fuel, rfl⟩ : ∃ k, fuel = k + 1 := ⟨fuel - 1, by omega⟩
    simp only [pListL, xDS, gr_bad, decm1, cond_true]
    refine SimR.bind hW (hq ts h hn) (fun e r he hr => ?_) (fun e p hp => ?_)
    · have hl := eat hT hf h he
      simp only [Exp.re_eq]
      rw [if_pos (by simp only [List.length_cons, List.length_nil]; unfold Lim; omega)]
      rw [seesS hW N hco hr, Option.bind_some]
      cases hs : seeS [44] r
      · simp only [Bool.not_false, cond_true]
        have hk := seeK_no hW hr hco
        have e1 : xEC [44] r = .err r := by
          cases r with
          | nil => rfl
          | cons t q =>
            have hk : isK t [44] = false := hk
            have hs : isS t [44] = false := hs
            simp only [xEC, hk, hs, Bool.or_false, cond_false]
        have hkc := seeK_no hW hr hc
        have e2 : (bif seeS c r then PR.ok (acc ++ [e]) r.tail else (xEC [44] r).bind fun _ q => pListL f c m (acc ++ [e]) q) = (xEC c r).bind fun _ q => .ok (acc ++ [e]) q := by
          rw [e1]
          cases r with
          | nil => rfl
          | cons t q =>
            have hkc : isK t c = false := hkc
            show (bif isS t c then _ else _) = _
            simp only [xEC, hkc, Bool.false_or]
            cases isS t c <;> rfl
        rw [e2]
        exact SimR.need hW hT.len hr (fun q _ hq => ⟨hq, rfl⟩) (fun p hp => ⟨_, rfl⟩)
      · have hs' := seeS_ne hs (Ne.symm hc2)
        obtain ⟨t, q, rfl⟩ : ∃ t q, r = t :: q := by
          obtain ⟨t, h1, _⟩ := seeS_cons hs
          exact ⟨t, _, h1⟩
        have hs2 : isS t [44] = true := hs
        have e1 : xEC [44] (t :: q) = .ok () q := by simp only [xEC, hs2, Bool.or_true, cond_true]
        have ha : Rdr.mk (gr T L (t :: q)).toks (IntKind.i64.wrap ((gr T L (t :: q)).i + 1)) (gr T L (t :: q)).fin (gr T L (t :: q)).bad = gr T L q := xFz hT.len hr rfl
        rw [hs', e1]
        simp only [Bool.not_true, cond_false, ha, PR.bind]
        exact ih fuel (acc ++ [e]) q (xCb hr) (by simp only [List.length_cons] at hl; omega) (by simp only [List.length_cons] at hl; omega) (by simp only [List.length_cons] at hl; omega) (by simp only [List.length_append, List.length_cons, List.length_nil] at hl ⊢; omega)
    · simp only [Exp.re_eq]
      rw [if_pos (by simp only [List.length_cons, List.length_nil]; unfold Lim; omega), xEu N _ hp, Option.bind_some]
      simp only [Bool.not_false, cond_true, xE3 N _ hp, Option.bind_some]
      exact ⟨_, rfl⟩
theorem args_bad (hN : 0 < N) (s : Str) {p : Rdr} (h : 0 ≤ p.bad) : xC6 N q0 q1 q2 q3 q4 q5 p s = some ([], p) := by
  obtain ⟨M, rfl⟩ : ∃ k, N = k + 1 := ⟨N - 1, by omega⟩
  unfold xC6
  rw [xEu _ s h, Option.bind_some]
  simp only [cond_false, xDS]
  rw [decide_eq_false (by omega), cond_false, xE3 _ s h]; rfl
theorem args_sim (hW : TokW T L) (hT : TokT K T) (hN : 1002 < N) {n m : Nat} {f : List Tok → PR Exp} (hf : xCd K f) (hq : FRs T L n f q3) (c : Str) (hc : SymS c) (hc2 : c ≠ [44]) {ts : List Tok} (h : ts <:+ T) (hn : ts.length < n) (hm : ts.length < m) :
    SimR T L (pList f m c ts) (xC6 N q0 q1 q2 q3 q4 q5 (gr T L ts) c) := by
  have hl := h.length_le
  have := hT.len
  unfold pList xC6
  rw [seesS hW N hc h, Option.bind_some]
  cases hs : seeS c ts
  · simp only [cond_false]
    exact argsL_sim hW hT hf hq c hc hc2 m N [] ts h hn hm (by omega) (by simp; omega)
  · simp only [cond_true, xFz hT.len h (xEt hs)]
    exact ⟨xCb h, rfl⟩
def FRl (T : List Tok) (L : Int) (n m : Nat) (f : List Tok → PR Exp) (q : Rdr → Str → Option (List Exp × Rdr)) : Prop := ∀ c ts, SymS c → c ≠ [44] → ts <:+ T → ts.length < n → SimR T L (pList f m c ts) (q (gr T L ts) c)
theorem satom_bad {p : Rdr} (h : 0 ≤ p.bad) : xC7 N q0 q1 q2 q3 q4 q5 p = some (e0, p) := by
  unfold xC7
  rw [decide_eq_true (by omega : p.bad ≥ 0), cond_true, sfail_bad N h]; rfl
theorem satom2_sim (hW : TokW T L) (hT : TokT K T) {n m : Nat} {f : List Tok → PR Exp} (hf : xCd K f) (hq : FRs T L n f q3) (hb : xEm q3) (hl : FRl T L n m f q0) (hbl : BadOkRL q0) {t : Tok} {r : List Tok} (h : t :: r <:+ T) (hn : r.length < n) :
    SimR T L (pAtom2 f m t r) (Option.bind (xCQ N t [91]) fun r1 =>
            bif r1 then (
              Option.bind (q0 (gr T L r) [93]) fun r2 =>
              some ((Exp.mk 4 0 [] r2.1), r2.2)
            ) else (
              Option.bind (xCQ N t [40]) fun r2 =>
              bif r2 then (
                Option.bind (q3 (gr T L r)) fun r3 =>
                Option.bind (xBm N r3.2 [41]) fun r4 =>
                some (r3.1, r4)
              ) else (
                Option.bind (xBF N (gr T L (t :: r))) fun r3 =>
                some (r3.1, r3.2)
              )
            )) := by
  have hr : r <:+ T := xCb h
  unfold pAtom2
  rw [sS_eq, Option.bind_some]
  cases h1 : isS t [91]
  · simp only [cond_false, sS_eq, Option.bind_some]
    cases h2 : isS t [40]
    · simp only [cond_false]
      obtain ⟨p, hp1, hp2⟩ := sfail_eq (L := L) N h
      rw [hp1]
      exact ⟨_, p, rfl, hp2⟩
    · simp only [cond_true]
      refine SimR.bind hW (hq r hr hn) (fun e u he hu => ?_) (fun e p hp => ⟨e, by simp only [xE3 N _ hp, Option.bind_some]⟩)
      exact SimR.need hW hT.len hu (fun v _ hv => ⟨hv, rfl⟩) (fun p hp => ⟨e, rfl⟩)
  · simp only [cond_true]
    exact SimR.bind hW (hl [93] r ⟨93, [], rfl, by decide⟩ (by decide) hr hn) (fun a u _ hu => ⟨hu, rfl⟩) (fun a p hp => ⟨_, rfl⟩)
theorem satom_sim (hW : TokW T L) (hT : TokT K T) (hN : K < N) (h24 : 24 < N) (hK : K ≤ 1048576) {n m : Nat} {f : List Tok → PR Exp} (hf : xCd K f) (hq : FRs T L n f q3) (hb : xEm q3) (hl : FRl T L n m f q0) (hbl : BadOkRL q0) :
    FRs T L (n + 1) (pAtom f m) (xC7 N q0 q1 q2 q3 q4 q5) := by
  intro ts h hn
  have c0 : decide ((-1 : Int) ≥ 0) = false := rfl
  unfold xC7
  rw [gr_bad, c0, cond_false]
  cases ts with
  | nil =>
    rw [(gr_end T L).2, cond_true]
    obtain ⟨p, hp1, hp2⟩ := sfail_eq (L := L) N h
    exact ⟨_, p, by rw [hp1]; rfl, hp2⟩
  | cons t r =>
    have hr : r <:+ T := xCb h
    have hn' : r.length < n := by simp only [List.length_cons] at hn; omega
    have hft := hT.fit t (h.subset List.mem_cons_self)
    have hlen : t.text.length ≤ K := hft.2.2.2
    have hv := xEy (N := N) (s := t.text) (by omega) (by omega) h24
    obtain ⟨⟨_, a1⟩, a2, a3⟩ := gr_at (ts := t :: r) (L := L) h
    have ha : Rdr.mk (gr T L (t :: r)).toks (IntKind.i64.wrap ((gr T L (t :: r)).i + 1)) (gr T L (t :: r)).fin (gr T L (t :: r)).bad = gr T L r := xFz hT.len h rfl
    have ha' : Rdr.mk (gr T L (t :: r)).toks (IntKind.i64.wrap ((gr T L (t :: r)).i + 1)) (gr T L (t :: r)).fin (-1) = gr T L r := ha
    rw [a1, cond_false, if_pos a2, a3]
    simp only [pAtom, ha']
    cases h1 : t.kind == 2
    · cases h2 : t.kind == 3
      · cases h3 : t.kind == 1
        · exact satom2_sim hW hT hf hq hb hl hbl h hn'
        · simp only [cond_true, cond_false, hv, Option.bind_some]
          cases h4 : xDj t.text
          · simp only [cond_false, xEa, Option.bind_some]
            cases h5 : decide (argc t.text ≥ 0)
            · exact satom2_sim hW hT hf hq hb hl hbl h hn'
            · simp only [cond_true]
              refine SimR.need hW hT.len hr (fun u hu hus => ?_) (fun p hp => ⟨_, by rw [hbl p _ hp, Option.bind_some]⟩)
              have := xD9 hu
              exact SimR.bind hW (hl [41] u ⟨41, [], rfl, by decide⟩ (by decide) hus (by omega)) (fun a v _ hv => ⟨hv, rfl⟩) (fun a p hp => ⟨_, rfl⟩)
          · exact ⟨hr, rfl⟩
      · exact ⟨hr, rfl⟩
    · exact ⟨hr, rfl⟩
theorem sprodL_sim (hW : TokW T L) (hT : TokT K T) {n : Nat} {g : List Tok → PR Exp} (hg : xCd K g) (hq : FRs T L n g q1) (hb : xEm q1) (b2 : Exp) : ∀ (m fuel : Nat) (a : Exp) (ts : List Tok), ts <:+ T → ts.length ≤ n → ts.length < m → ts.length < fuel →
    SimR T L (pProdL g m a ts) (xCw N q0 q1 q2 q3 q4 q5 fuel (gr T L ts) b2 a) := by
  have hs0 : SymS [42] := ⟨42, [], rfl, by decide⟩
  intro m
  induction m with
  | zero => intro fuel a ts _ _ h; omega
  | succ m ih =>
    intro fuel a ts h hn hm hfu
    obtain ⟨fuel, rfl⟩ : ∃ k, fuel = k + 1 := ⟨fuel - 1, by omega⟩
    simp only [pProdL, xCw]
    rw [seesS hW N hs0 h, Option.bind_some]
    cases hs : seeS [42] ts
    · exact ⟨h, rfl⟩
    · have hl := xEt hs
      simp only [cond_true, sOp, Option.bind_some, xFz hT.len h hl]
      obtain ⟨fuel, rfl⟩ : ∃ k, fuel = k + 1 := ⟨fuel - 1, by omega⟩
      refine SimR.bind hW (hq ts.tail (xCb h) (by omega)) (fun b r hbr hr => ?_) (fun b p hp => ⟨.mk 6 3 [] [a, b], by simp only [xCw, xEu N _ hp, Option.bind_some, cond_false]⟩)
      have := eat hT hg (xCb h) hbr
      exact ih (fuel + 1) _ r hr (by omega) (by omega) (by omega)
theorem sprod_sim (hW : TokW T L) (hT : TokT K T) (hN : 1002 < N) {n m : Nat} {g : List Tok → PR Exp} (hg : xCd K g) (hq : FRs T L n g q1) (hb : xEm q1) (hnm : n ≤ m) : FRs T L n (pProd g m) (xCt N q0 q1 q2 q3 q4 q5) := by
  intro ts h hn
  have hl := h.length_le
  have := hT.len
  unfold pProd xCt
  obtain ⟨M, rfl⟩ : ∃ k, N = k + 1 := ⟨N - 1, by omega⟩
  refine SimR.bind hW (hq ts h hn) (fun b r hbr hr => ?_) (fun b p hp => ⟨b, by simp only [xCw, xEu _ _ hp, Option.bind_some, cond_false]⟩)
  have := eat hT hg h hbr
  exact sprodL_sim hW hT hg hq hb e0 m (M + 1) b r hr (by omega) (by omega) (by omega)
theorem sprod_bad (hN : 0 < N) (hb : xEm q1) : xEm (xCt N q0 q1 q2 q3 q4 q5) := by
  intro p hp
  obtain ⟨M, rfl⟩ : ∃ k, N = k + 1 := ⟨N - 1, by omega⟩
  unfold xCt
  simp only [hb p hp, Option.bind_some, xCw, xEu _ _ hp, cond_false]
theorem ssumL_sim (hW : TokW T L) (hT : TokT K T) {n : Nat} {g : List Tok → PR Exp} (hg : xCd K g) (hq : FRs T L n g q4) (hb : xEm q4) (b2 : Exp) : ∀ (m fuel : Nat) (a : Exp) (ts : List Tok), ts <:+ T → ts.length ≤ n → ts.length < m → ts.length < fuel →
    SimR T L (pSumL g m a ts) (xCm N q0 q1 q2 q3 q4 q5 fuel (gr T L ts) b2 a) := by
  have hp0 : SymS [43] := ⟨43, [], rfl, by decide⟩
  have hm0 : SymS [45] := ⟨45, [], rfl, by decide⟩
  intro m
  induction m with
  | zero => intro fuel a ts _ _ h; omega
  | succ m ih =>
    intro fuel a ts h hn hm hfu
    obtain ⟨fuel, rfl⟩ : ∃ k, fuel = k + 1 := ⟨fuel - 1, by omega⟩
    have step : ∀ s k, seeS s ts = true → SimR T L ((g ts.tail).bind fun b r => pSumL g m (.mk 6 k [] [a, b]) r) (Option.bind (q4 (gr T L ts.tail)) fun r3 => Option.bind (xDx N k a r3.1) fun r4 => xCm N q0 q1 q2 q3 q4 q5 fuel r3.2 b2 r4) := by
      intro s k hs
      have hl := xEt hs
      simp only [sOp, Option.bind_some]
      obtain ⟨fuel, rfl⟩ : ∃ k, fuel = k + 1 := ⟨fuel - 1, by omega⟩
      refine SimR.bind hW (hq ts.tail (xCb h) (by omega)) (fun b r hbr hr => ?_) (fun b p hp => ⟨.mk 6 k [] [a, b], by simp only [xCm, xEu N _ hp, Option.bind_some, cond_false]⟩)
      have := eat hT hg (xCb h) hbr
      exact ih (fuel + 1) _ r hr (by omega) (by omega) (by omega)
    simp only [pSumL, xCm]
    rw [seesS hW N hp0 h, Option.bind_some]
    cases hs : seeS [43] ts
    · simp only [cond_false, seesS hW N hm0 h, Option.bind_some]
      cases hs2 : seeS [45] ts
      · exact ⟨h, rfl⟩
      · simp only [cond_true, xFz hT.len h (xEt hs2)]
        exact step _ 2 hs2
    · simp only [cond_true, seesS hW N hm0 h, Option.bind_some, seeS_ne hs (by decide : ([43] : Str) ≠ [45]), cond_false, xFz hT.len h (xEt hs)]
      exact step _ 1 hs
theorem ssum_sim (hW : TokW T L) (hT : TokT K T) (hN : 1002 < N) {n m : Nat} {g : List Tok → PR Exp} (hg : xCd K g) (hq : FRs T L n g q4) (hb : xEm q4) (hnm : n ≤ m) : FRs T L n (pSum g m) (xDp N q0 q1 q2 q3 q4 q5) := by
  intro ts h hn
  have hl := h.length_le
  have := hT.len
  unfold pSum xDp
  obtain ⟨M, rfl⟩ : ∃ k, N = k + 1 := ⟨N - 1, by omega⟩
  refine SimR.bind hW (hq ts h hn) (fun b r hbr hr => ?_) (fun b p hp => ⟨b, by simp only [xCm, xEu _ _ hp, Option.bind_some, cond_false]⟩)
  have := eat hT hg h hbr
  exact ssumL_sim hW hT hg hq hb e0 m (M + 1) b r hr (by omega) (by omega) (by omega)
theorem ssum_bad (hN : 0 < N) (hb : xEm q4) : xEm (xDp N q0 q1 q2 q3 q4 q5) := by
  intro p hp
  obtain ⟨M, rfl⟩ : ∃ k, N = k + 1 := ⟨N - 1, by omega⟩
  unfold xDp
  simp only [hb p hp, Option.bind_some, xCm, xEu _ _ hp, cond_false]
theorem scmp_bad (hb : xEm q5) : xEm (xCs N q0 q1 q2 q3 q4 q5) := by
  intro p hp
  unfold xCs
  simp only [hb p hp, Option.bind_some, xEu _ _ hp, cond_false]
theorem scmp_sim (hW : TokW T L) (hT : TokT K T) {n : Nat} {g : List Tok → PR Exp} (hg : xCd K g) (hq : FRs T L n g q5) (hb : xEm q5) : FRs T L n (pCmp g) (xCs N q0 q1 q2 q3 q4 q5) := by
  intro ts h hn
  have s1 : SymS [60] := ⟨60, [], rfl, by decide⟩
  have s2 : SymS [61, 61] := ⟨61, [61], rfl, by decide⟩
  unfold pCmp xCs
  refine SimR.bind hW (hq ts h hn) (fun a r ha hr => ?_) (fun a p hp => ⟨a, by simp only [Option.bind_some, xEu _ _ hp, cond_false]⟩)
  have hl := eat hT hg h ha
  have step : ∀ s k, seeS s r = true → SimR T L ((g r.tail).bind fun b q => PR.ok (.mk 6 k [] [a, b]) q) (Option.bind (q5 (gr T L r.tail)) fun r3 => Option.bind (xDx N k a r3.1) fun r4 => some (r4, r3.2)) := by
    intro s k hs
    have hl := xEt hs
    simp only [sOp, Option.bind_some]
    exact SimR.bind hW (hq r.tail (xCb hr) (by omega)) (fun b r hbr hr => ⟨hr, rfl⟩) (fun b p hp => ⟨_, rfl⟩)
  unfold pCmpT
  simp only [seesS hW N s1 hr, seesS hW N s2 hr, Option.bind_some]
  cases hs : seeS [60] r
  · simp only [cond_false]
    cases hs2 : seeS [61, 61] r
    · exact ⟨hr, rfl⟩
    · simp only [cond_true, xFz hT.len hr (xEt hs2)]
      exact step _ 5 hs2
  · simp only [cond_true, xFz hT.len hr (xEt hs)]
    exact step _ 4 hs
theorem sexpr_bad (hb : xEm q2) : xEm (xC8 N q0 q1 q2 q3 q4 q5) := by
  intro p hp
  unfold xC8
  simp only [hb p hp, Option.bind_some, xEu _ _ hp, cond_false]
theorem stwo_sim (hW : TokW T L) (hT : TokT K T) (hN : K < N) (h24 : 24 < N) (hK : K ≤ 1048576) {n : Nat} {f : List Tok → PR Exp} (hf : xCd K f) (hq : FRs T L n f q3) (hb : xEm q3) (k : Int) (s1 s2 : Str) {ts : List Tok} (h : ts <:+ T) (hn : ts.length < n) :
    SimR T L (pTwo f k s1 s2 ts) (Option.bind (xC0 N (gr T L ts)) fun r2 =>
    Option.bind (xBm N r2.2 s1) fun r3 =>
    Option.bind (q3 r3) fun r4 =>
    Option.bind (xBm N r4.2 s2) fun r5 =>
    Option.bind (q3 r5) fun r6 =>
    some ((Exp.mk k 0 r2.1 [(Exp.re r4.1), (Exp.re r6.1)]), r6.2)) := by
  simp only [Exp.re_eq]
  refine SimR.bind hW (sname_sim hT hN h24 hK h) (fun x r1 hx hr1 => ?_) (fun x p hp => ⟨.mk k 0 x [e0, e0], by simp only [xE3 N _ hp, hb p hp, Option.bind_some]⟩)
  have l1 := pName_len hx
  refine SimR.need hW hT.len hr1 (fun r2 h2 hr2 => ?_) (fun p hp => ⟨.mk k 0 x [e0, e0], by simp only [xE3 N _ hp, hb p hp, Option.bind_some]⟩)
  have l2 := xD9 h2
  refine SimR.bind hW (hq r2 hr2 (by omega)) (fun a r3 h3 hr3 => ?_) (fun a p hp => ⟨.mk k 0 x [a, e0], by simp only [xE3 N _ hp, hb p hp, Option.bind_some]⟩)
  have l3 := eat hT hf hr2 h3
  refine SimR.need hW hT.len hr3 (fun r4 h4 hr4 => ?_) (fun p hp => ⟨.mk k 0 x [a, e0], by simp only [hb p hp, Option.bind_some]⟩)
  have l4 := xD9 h4
  exact SimR.bind hW (hq r4 hr4 (by omega)) (fun b r5 h5 hr5 => ⟨hr5, rfl⟩) (fun b p hp => ⟨_, rfl⟩)
theorem sif_sim (hW : TokW T L) (hT : TokT K T) {n : Nat} {f : List Tok → PR Exp} (hf : xCd K f) (hq : FRs T L n f q3) (hb : xEm q3) {ts : List Tok} (h : ts <:+ T) (hn : ts.length < n) :
    SimR T L (pIf f ts) (Option.bind (q3 (gr T L ts)) fun r3 =>
      Option.bind (xBm N r3.2 [116, 104, 101, 110]) fun r4 =>
      Option.bind (q3 r4) fun r5 =>
      Option.bind (xBm N r5.2 [101, 108, 115, 101]) fun r6 =>
      Option.bind (q3 r6) fun r7 =>
      some ((Exp.mk 8 0 [] [(Exp.re r3.1), (Exp.re r5.1), (Exp.re r7.1)]), r7.2)) := by
  simp only [Exp.re_eq]
  refine SimR.bind hW (hq ts h hn) (fun a r1 h1 hr1 => ?_) (fun a p hp => ⟨.mk 8 0 [] [a, e0, e0], by simp only [xE3 N _ hp, hb p hp, Option.bind_some]⟩)
  have l1 := eat hT hf h h1
  refine SimR.need hW hT.len hr1 (fun r2 h2 hr2 => ?_) (fun p hp => ⟨.mk 8 0 [] [a, e0, e0], by simp only [xE3 N _ hp, hb p hp, Option.bind_some]⟩)
  have l2 := xD9 h2
  refine SimR.bind hW (hq r2 hr2 (by omega)) (fun b r3 h3 hr3 => ?_) (fun b p hp => ⟨.mk 8 0 [] [a, b, e0], by simp only [xE3 N _ hp, hb p hp, Option.bind_some]⟩)
  have l3 := eat hT hf hr2 h3
  refine SimR.need hW hT.len hr3 (fun r4 h4 hr4 => ?_) (fun p hp => ⟨.mk 8 0 [] [a, b, e0], by simp only [hb p hp, Option.bind_some]⟩)
  have l4 := xD9 h4
  exact SimR.bind hW (hq r4 hr4 (by omega)) (fun c r5 h5 hr5 => ⟨hr5, rfl⟩) (fun c p hp => ⟨_, rfl⟩)
theorem sexprB_sim (hW : TokW T L) (hT : TokT K T) (hN : K < N) (h24 : 24 < N) (hK : K ≤ 1048576) {n : Nat} {f g : List Tok → PR Exp} (hf : xCd K f) (hq : FRs T L n f q3) (hb : xEm q3) (hq2 : FRs T L (n + 1) (pCmp g) q2) :
    FRs T L (n + 1) (pExprB f g) (xC8 N q0 q1 q2 q3 q4 q5) := by
  intro ts h hn
  have k1 : KeyS [108, 101, 116] := ⟨108, [101, 116], rfl, by decide⟩
  have k2 : KeyS [105, 102] := ⟨105, [102], rfl, by decide⟩
  have k3 : KeyS [102, 111, 114] := ⟨102, [111, 114], rfl, by decide⟩
  unfold pExprB xC8
  simp only [seesK hW N k1 h, seesK hW N k2 h, seesK hW N k3 h, Option.bind_some]
  cases c1 : seeK [108, 101, 116] ts
  · simp only [cond_false]
    cases c2 : seeK [105, 102] ts
    · simp only [cond_false]
      cases c3 : seeK [102, 111, 114] ts
      · simp only [cond_false]
        have := hq2 ts h hn
        have e : (Option.bind (q2 (gr T L ts)) fun r4 => some (r4.1, r4.2)) = q2 (gr T L ts) := by cases q2 (gr T L ts) <;> rfl
        rw [e]
        exact this
      · simp only [cond_true, xFz hT.len h (xEs c3)]
        have := xEs c3
        exact stwo_sim hW hT hN h24 hK hf hq hb 9 _ _ (xCb h) (by omega)
    · simp only [cond_true, xFz hT.len h (xEs c2)]
      have := xEs c2
      exact sif_sim hW hT hf hq hb (xCb h) (by omega)
  · simp only [cond_true, xFz hT.len h (xEs c1)]
    have := xEs c1
    exact stwo_sim hW hT hN h24 hK hf hq hb 7 _ _ (xCb h) (by omega)
end
theorem sbad_all {N : Nat} (hN : 0 < N) : ∀ d, 5 ≤ d → xEm (xAa N d).c_spec_l11Expr := by
  intro d hd
  obtain ⟨d, rfl⟩ : ∃ k, d = k + 5 := ⟨d - 5, by omega⟩
  exact sexpr_bad (q0 := (xAa N (d + 4)).c_spec_l11Args) (q1 := (xAa N (d + 4)).c_spec_l11Atom) (q2 := (xAa N (d + 4)).c_spec_l11Compare) (q3 := (xAa N (d + 4)).c_spec_l11Expr) (q4 := (xAa N (d + 4)).c_spec_l11Product) (q5 := (xAa N (d + 4)).c_spec_l11Sum) (scmp_bad (q0 := (xAa N (d + 3)).c_spec_l11Args) (q1 := (xAa N (d + 3)).c_spec_l11Atom) (q2 := (xAa N (d + 3)).c_spec_l11Compare) (q3 := (xAa N (d + 3)).c_spec_l11Expr) (q4 := (xAa N (d + 3)).c_spec_l11Product) (q5 := (xAa N (d + 3)).c_spec_l11Sum) (ssum_bad (q0 := (xAa N (d + 2)).c_spec_l11Args) (q1 := (xAa N (d + 2)).c_spec_l11Atom) (q2 := (xAa N (d + 2)).c_spec_l11Compare) (q3 := (xAa N (d + 2)).c_spec_l11Expr) (q4 := (xAa N (d + 2)).c_spec_l11Product) (q5 := (xAa N (d + 2)).c_spec_l11Sum) hN (sprod_bad (q0 := (xAa N (d + 1)).c_spec_l11Args) (q1 := (xAa N (d + 1)).c_spec_l11Atom) (q2 := (xAa N (d + 1)).c_spec_l11Compare) (q3 := (xAa N (d + 1)).c_spec_l11Expr) (q4 := (xAa N (d + 1)).c_spec_l11Product) (q5 := (xAa N (d + 1)).c_spec_l11Sum) hN fun p hp => satom_bad (q0 := (xAa N d).c_spec_l11Args) (q1 := (xAa N d).c_spec_l11Atom) (q2 := (xAa N d).c_spec_l11Compare) (q3 := (xAa N d).c_spec_l11Expr) (q4 := (xAa N d).c_spec_l11Product) (q5 := (xAa N d).c_spec_l11Sum) hp)))
theorem pE_simR {K : Nat} {T : List Tok} {L : Int} {N : Nat} (hW : TokW T L) (hT : TokT K T) (hN : K < N) (hN2 : 1002 < N) (hK : K ≤ 1048576) : ∀ n d, 6 * n + 11 ≤ d → FRs T L n (pE n) (xAa N d).c_spec_l11Expr := by
  intro n
  induction n with
  | zero => intro d _ ts _ h; omega
  | succ n ih =>
    intro d hd
    obtain ⟨d, rfl⟩ : ∃ k, d = k + 6 := ⟨d - 6, by omega⟩
    have f1 := ih d (by omega)
    have f2 := ih (d + 1) (by omega)
    have f5 := ih (d + 5) (by omega)
    have b2 := sbad_all (N := N) (by omega) (d + 1) (by omega)
    have b5 := sbad_all (N := N) (by omega) (d + 5) (by omega)
    have hl : FRl T L n (n + 1) (pE n) (xAa N (d + 1)).c_spec_l11Args := fun c ts hc hc2 h hn => args_sim (q0 := (xAa N d).c_spec_l11Args) (q1 := (xAa N d).c_spec_l11Atom) (q2 := (xAa N d).c_spec_l11Compare) (q3 := (xAa N d).c_spec_l11Expr) (q4 := (xAa N d).c_spec_l11Product) (q5 := (xAa N d).c_spec_l11Sum) hW hT hN2 (xDX n) f1 c hc hc2 h hn (by omega)
    have hbl : BadOkRL (xAa N (d + 1)).c_spec_l11Args := fun p s hp => args_bad (q0 := (xAa N d).c_spec_l11Args) (q1 := (xAa N d).c_spec_l11Atom) (q2 := (xAa N d).c_spec_l11Compare) (q3 := (xAa N d).c_spec_l11Expr) (q4 := (xAa N d).c_spec_l11Product) (q5 := (xAa N d).c_spec_l11Sum) (by omega) s hp
    have a : FRs T L (n + 1) (pAtom (pE n) (n + 1)) (xAa N (d + 2)).c_spec_l11Atom := satom_sim (q0 := (xAa N (d + 1)).c_spec_l11Args) (q1 := (xAa N (d + 1)).c_spec_l11Atom) (q2 := (xAa N (d + 1)).c_spec_l11Compare) (q3 := (xAa N (d + 1)).c_spec_l11Expr) (q4 := (xAa N (d + 1)).c_spec_l11Product) (q5 := (xAa N (d + 1)).c_spec_l11Sum) hW hT hN (by omega) hK (xDX n) f2 b2 hl hbl
    have ba : xEm (xAa N (d + 2)).c_spec_l11Atom := fun p hp => satom_bad (q0 := (xAa N (d + 1)).c_spec_l11Args) (q1 := (xAa N (d + 1)).c_spec_l11Atom) (q2 := (xAa N (d + 1)).c_spec_l11Compare) (q3 := (xAa N (d + 1)).c_spec_l11Expr) (q4 := (xAa N (d + 1)).c_spec_l11Product) (q5 := (xAa N (d + 1)).c_spec_l11Sum) hp
    have p : FRs T L (n + 1) (pProd (pAtom (pE n) (n + 1)) (n + 1)) (xAa N (d + 3)).c_spec_l11Product := sprod_sim (q0 := (xAa N (d + 2)).c_spec_l11Args) (q1 := (xAa N (d + 2)).c_spec_l11Atom) (q2 := (xAa N (d + 2)).c_spec_l11Compare) (q3 := (xAa N (d + 2)).c_spec_l11Expr) (q4 := (xAa N (d + 2)).c_spec_l11Product) (q5 := (xAa N (d + 2)).c_spec_l11Sum) hW hT hN2 (xFg (xDX n) _) a ba (Nat.le_refl _)
    have bp : xEm (xAa N (d + 3)).c_spec_l11Product := sprod_bad (q0 := (xAa N (d + 2)).c_spec_l11Args) (q1 := (xAa N (d + 2)).c_spec_l11Atom) (q2 := (xAa N (d + 2)).c_spec_l11Compare) (q3 := (xAa N (d + 2)).c_spec_l11Expr) (q4 := (xAa N (d + 2)).c_spec_l11Product) (q5 := (xAa N (d + 2)).c_spec_l11Sum) (by omega) ba
    have s : FRs T L (n + 1) (pSumF (pE n) (n + 1)) (xAa N (d + 4)).c_spec_l11Sum := ssum_sim (q0 := (xAa N (d + 3)).c_spec_l11Args) (q1 := (xAa N (d + 3)).c_spec_l11Atom) (q2 := (xAa N (d + 3)).c_spec_l11Compare) (q3 := (xAa N (d + 3)).c_spec_l11Expr) (q4 := (xAa N (d + 3)).c_spec_l11Product) (q5 := (xAa N (d + 3)).c_spec_l11Sum) hW hT hN2 (xGl (xFg (xDX n) _) _) p bp (Nat.le_refl _)
    have bs : xEm (xAa N (d + 4)).c_spec_l11Sum := ssum_bad (q0 := (xAa N (d + 3)).c_spec_l11Args) (q1 := (xAa N (d + 3)).c_spec_l11Atom) (q2 := (xAa N (d + 3)).c_spec_l11Compare) (q3 := (xAa N (d + 3)).c_spec_l11Expr) (q4 := (xAa N (d + 3)).c_spec_l11Product) (q5 := (xAa N (d + 3)).c_spec_l11Sum) (by omega) bp
    have c : FRs T L (n + 1) (pCmp (pSumF (pE n) (n + 1))) (xAa N (d + 5)).c_spec_l11Compare := scmp_sim (q0 := (xAa N (d + 4)).c_spec_l11Args) (q1 := (xAa N (d + 4)).c_spec_l11Atom) (q2 := (xAa N (d + 4)).c_spec_l11Compare) (q3 := (xAa N (d + 4)).c_spec_l11Expr) (q4 := (xAa N (d + 4)).c_spec_l11Product) (q5 := (xAa N (d + 4)).c_spec_l11Sum) hW hT (xGm (xDX n) _) s bs
    exact sexprB_sim (q0 := (xAa N (d + 5)).c_spec_l11Args) (q1 := (xAa N (d + 5)).c_spec_l11Atom) (q2 := (xAa N (d + 5)).c_spec_l11Compare) (q3 := (xAa N (d + 5)).c_spec_l11Expr) (q4 := (xAa N (d + 5)).c_spec_l11Product) (q5 := (xAa N (d + 5)).c_spec_l11Sum) hW hT hN (by omega) hK (xDX n) f5 b5 c
end Go.Ab
end
section
namespace Go.Ab
set_option linter.unusedVariables false
set_option linter.unusedSimpArgs false
def xFD (c : UInt8) : Bool := decide (97 ≤ c.toNat) && decide (c.toNat ≤ 122)
def xCr (c : UInt8) : Bool := decide (48 ≤ c.toNat) && decide (c.toNat ≤ 57)
def isWd (c : UInt8) : Bool := xFD c || xCr c
def notQ (c : UInt8) : Bool := !(c.toNat == 34)
def symOk (c : UInt8) : Bool := decide (Lib.indexByte [40, 41, 91, 93, 44, 43, 45, 42, 60, 61] c ≥ 0)
def xF3 (p : Int) : Str → Option (Tok × Str)
  | [] => none
  | c :: l =>
    bif xFD c then (bif decide ((c :: l).length - ((c :: l).dropWhile isWd).length ≤ 8) then some (⟨1, 0, p, (c :: l).take ((c :: l).length - ((c :: l).dropWhile isWd).length)⟩, (c :: l).dropWhile isWd) else none)
    else bif xCr c then (bif (numOf ((c :: l).take ((c :: l).length - ((c :: l).dropWhile xCr).length)) 0 1000000000).2 then some (⟨2, (numOf ((c :: l).take ((c :: l).length - ((c :: l).dropWhile xCr).length)) 0 1000000000).1, p, []⟩, (c :: l).dropWhile xCr) else none)
    else bif c.toNat == 34 then (match l.dropWhile notQ with
      | [] => none
      | q :: r => bif xGi (l.take (l.length - (q :: r).length)) then some (⟨3, 0, p, l.take (l.length - (q :: r).length)⟩, r) else none)
    else bif Lib.hasPrefix (c :: l) [61, 61] then some (⟨4, 0, p, [61, 61]⟩, l.tail)
    else bif symOk c then some (⟨4, 0, p, [c]⟩, l) else none
theorem xDE (p : Int) (c : UInt8) (l : Str) : xF3 p (c :: l) =
    bif xFD c then (bif decide ((c :: l).length - ((c :: l).dropWhile isWd).length ≤ 8) then some (⟨1, 0, p, (c :: l).take ((c :: l).length - ((c :: l).dropWhile isWd).length)⟩, (c :: l).dropWhile isWd) else none)
    else bif xCr c then (bif (numOf ((c :: l).take ((c :: l).length - ((c :: l).dropWhile xCr).length)) 0 1000000000).2 then some (⟨2, (numOf ((c :: l).take ((c :: l).length - ((c :: l).dropWhile xCr).length)) 0 1000000000).1, p, []⟩, (c :: l).dropWhile xCr) else none)
    else bif c.toNat == 34 then (match l.dropWhile notQ with
      | [] => none
      | q :: r => bif xGi (l.take (l.length - (q :: r).length)) then some (⟨3, 0, p, l.take (l.length - (q :: r).length)⟩, r) else none)
    else bif Lib.hasPrefix (c :: l) [61, 61] then some (⟨4, 0, p, [61, 61]⟩, l.tail)
    else bif symOk c then some (⟨4, 0, p, [c]⟩, l) else none := rfl
def lexL : Nat → Int → List Tok → Str → List Tok × Int
  | 0, p, _, _ => ([], p)
  | _ + 1, _, acc, [] => (acc, -1)
  | n + 1, p, acc, c :: l => bif c.toNat == 32 then lexL n (p + 1) acc l else match xF3 p (c :: l) with
    | none => ([], p)
    | some (t, r) => bif acc.length == 60 then ([], p) else lexL n (p + ((c :: l).length - r.length : Nat)) (acc ++ [t]) r
def lex (s : Str) : List Tok × Int := bif decide (s.length > 120) then ([], 120) else lexL (s.length + 1) 0 [] s
theorem dge97 (x : UInt8) : decide (((x.toNat : Int) : Int) ≥ 97) = decide (97 ≤ x.toNat) := decide_eq_decide.2 (by omega)
theorem dle122 (x : UInt8) : decide (((x.toNat : Int) : Int) ≤ 122) = decide (x.toNat ≤ 122) := decide_eq_decide.2 (by omega)
theorem dge48 (x : UInt8) : decide (((x.toNat : Int) : Int) ≥ 48) = decide (48 ≤ x.toNat) := decide_eq_decide.2 (by omega)
theorem dle57 (x : UInt8) : decide (((x.toNat : Int) : Int) ≤ 57) = decide (x.toNat ≤ 57) := decide_eq_decide.2 (by omega)
theorem beqI (x k : Nat) : ((x : Int) == (k : Int)) = (x == k) := by
  by_cases h : x = k
  · rw [h]; simp
  · rw [beq_eq_false_iff_ne.2 h, beq_eq_false_iff_ne.2 (by omega)]
theorem beq34 (x : UInt8) : (((x.toNat : Int) : Int) == 34) = (x.toNat == 34) := beqI x.toNat 34
theorem beq32 (x : UInt8) : (((x.toNat : Int) : Int) == 32) = (x.toNat == 32) := beqI x.toNat 32
theorem xDP {p : UInt8 → Bool} (l : Str) : (l.dropWhile p).length ≤ l.length := (List.dropWhile_suffix p).length_le
theorem xD3 {S : Str} {i : Nat} {x : UInt8} {l : Str} (h : S.drop i = x :: l) : S.length - (x :: l).length = i ∧ i + (x :: l).length = S.length := by
  have := congrArg List.length h
  obtain ⟨h1, _⟩ := xDf h
  rw [List.length_drop] at this
  omega
theorem xF7 {S s : Str} {i : Nat} (h : S.drop i = s) (hi : i ≤ S.length) {k : Nat} (hk : k ≤ s.length) : List.drop i (List.take (S.length - k) S) = s.take (s.length - k) := by
  subst h
  rw [List.drop_take, List.length_drop, show S.length - k - i = S.length - i - k from by omega]
section
variable {N : Nat} {S : Str}
theorem word_scan (hS : S.length ≤ 1000) {i : Nat} (b4 : Tok) : ∀ n j, i ≤ j → j ≤ S.length → S.length < n + j → xCg N n S i (j : Nat) b4 =
    some (Tok.mk 1 0 i (List.drop i (List.take (S.length - ((S.drop j).dropWhile isWd).length) S)), ((S.length - ((S.drop j).dropWhile isWd).length : Nat) : Int), decide (S.length - ((S.drop j).dropWhile isWd).length - i ≤ 8)) := by
  intro n j hij hj hn
  refine xEX (σ := Unit) (L := fun n j _ => xCg N n S i j b4) S (fun l _ => (Tok.mk 1 0 i (List.drop i (List.take (S.length - (l.dropWhile isWd).length) S)), ((S.length - (l.dropWhile isWd).length : Nat) : Int), decide (S.length - (l.dropWhile isWd).length - i ≤ 8)))
    (fun j _ => i ≤ j) (fun n _ hi => ?_) (fun j x l _ hd hj hx hi => ?_) n j () hij hj hn
  · have hi : i ≤ S.length := hi
    simp only [xCg, Int.lt_irrefl, decide_false, cond_false]
    rw [if_pos (by omega)]
    have e1 : IntKind.i64.wrap ((S.length : Int) - (i : Int)) = (S.length : Int) - i := xCc (by omega) (by omega)
    simp only [e1, List.dropWhile_nil, List.length_nil, Nat.sub_zero, Int.toNat_natCast]
    rw [decide_eq_decide.2 (by omega : (S.length : Int) - i ≤ 8 ↔ S.length - i ≤ 8)]
    rfl
  · have hi : i ≤ j := hi
    have hj' : (j : Int) < (S.length : Int) := by omega
    have hj2 : (0 : Int) ≤ (j : Int) ∧ (j : Int) < (S.length : Int) := ⟨by omega, hj'⟩
    have hj3 : (0 : Int) ≤ (i : Int) ∧ (i : Int) ≤ (j : Int) ∧ (j : Int) ≤ (S.length : Int) := by omega
    have e1 : IntKind.i64.wrap ((j : Int) - (i : Int)) = (j : Int) - i := xCc (by omega) (by omega)
    cases hw : isWd x
    · refine .inr fun n => ?_
      have e2 : (x :: l).dropWhile isWd = x :: l := by rw [List.dropWhile_cons]; simp [hw]
      have e3 := (xD3 hd).1
      have e4 : decide ((j : Int) - i ≤ 8) = decide (j - i ≤ 8) := decide_eq_decide.2 (by omega)
      simp only [xCg, decide_eq_true hj', cond_true, if_pos hj2, if_pos hj3, Int.toNat_natCast, xCx hx, dge97, dle122, dge48, dle57, e1, e2, e3, e4]
      unfold isWd xFD xCr at hw
      revert hw
      cases decide (97 ≤ x.toNat) <;> cases decide (x.toNat ≤ 122) <;> cases decide (48 ≤ x.toNat) <;> cases decide (x.toNat ≤ 57) <;> intro hw <;> first | rfl | (simp at hw; done)
    · refine .inl ⟨(), by omega, ?_, fun n => ?_⟩
      · have e2 : (x :: l).dropWhile isWd = l.dropWhile isWd := by rw [List.dropWhile_cons]; simp [hw]
        rw [e2]
      · simp only [xCg, decide_eq_true hj', cond_true, if_pos hj2, if_pos hj3, Int.toNat_natCast, xCx hx, dge97, dle122, dge48, dle57, xB1 hj (by omega : S.length ≤ _)]
        unfold isWd xFD xCr at hw
        revert hw
        cases decide (97 ≤ x.toNat) <;> cases decide (x.toNat ≤ 122) <;> cases decide (48 ≤ x.toNat) <;> cases decide (x.toNat ≤ 57) <;> intro hw <;> first | rfl | (simp at hw; done)
theorem parse_num {w : Str} (h : w.length ≤ 1000) : xE5 N w 0 1000000000 = some (numOf w 0 1000000000) := by
  unfold xE5 parseNumP
  rw [if_pos (by omega)]
def numG (S : Str) (i : Nat) (l : Str) : Int × Bool := numOf (List.drop i (List.take (S.length - (l.dropWhile xCr).length) S)) 0 1000000000
theorem num_scan (hS : S.length ≤ 1000) {i : Nat} (b4 : Tok) : ∀ n j, i ≤ j → j ≤ S.length → S.length < n + j → xCy N n S i (j : Nat) b4 =
    some (Tok.mk 2 (numG S i (S.drop j)).1 i [], ((S.length - ((S.drop j).dropWhile xCr).length : Nat) : Int), (numG S i (S.drop j)).2) := by
  intro n j hij hj hn
  refine xEX (σ := Unit) (L := fun n j _ => xCy N n S i j b4) S (fun l _ => (Tok.mk 2 (numG S i l).1 i [], ((S.length - (l.dropWhile xCr).length : Nat) : Int), (numG S i l).2))
    (fun j _ => i ≤ j) (fun n _ hi => ?_) (fun j x l _ hd hj hx hi => ?_) n j () hij hj hn
  · have hi : i ≤ S.length := hi
    simp only [xCy, Int.lt_irrefl, decide_false, cond_false]
    rw [if_pos (by omega)]
    simp only [Int.toNat_natCast]
    rw [parse_num (by rw [List.length_drop, List.length_take]; omega)]
    simp only [Option.bind_some, numG, List.dropWhile_nil, List.length_nil, Nat.sub_zero]
  · have hi : i ≤ j := hi
    have hj' : (j : Int) < (S.length : Int) := by omega
    have hj2 : (0 : Int) ≤ (j : Int) ∧ (j : Int) < (S.length : Int) := ⟨by omega, hj'⟩
    have hj3 : (0 : Int) ≤ (i : Int) ∧ (i : Int) ≤ (j : Int) ∧ (j : Int) ≤ (S.length : Int) := by omega
    cases hw : xCr x
    · refine .inr fun n => ?_
      have e2 : (x :: l).dropWhile xCr = x :: l := by rw [List.dropWhile_cons]; simp [hw]
      have e3 := (xD3 hd).1
      simp only [xCy, decide_eq_true hj', cond_true, if_pos hj2, if_pos hj3, Int.toNat_natCast, xCx hx, dge48, dle57, numG, e2, e3]
      rw [parse_num (by rw [List.length_drop, List.length_take]; omega)]
      simp only [Option.bind_some]
      unfold xCr at hw
      revert hw
      cases decide (48 ≤ x.toNat) <;> cases decide (x.toNat ≤ 57) <;> intro hw <;> first | rfl | (simp at hw; done)
    · refine .inl ⟨(), by omega, ?_, fun n => ?_⟩
      · have e2 : (x :: l).dropWhile xCr = l.dropWhile xCr := by rw [List.dropWhile_cons]; simp [hw]
        simp only [numG, e2]
      · simp only [xCy, decide_eq_true hj', cond_true, if_pos hj2, if_pos hj3, Int.toNat_natCast, xCx hx, dge48, dle57, xB1 hj (by omega : S.length ≤ _)]
        unfold xCr at hw
        revert hw
        cases decide (48 ≤ x.toNat) <;> cases decide (x.toNat ≤ 57) <;> intro hw <;> first | rfl | (simp at hw; done)
theorem toNat_eq (c : UInt8) (k : UInt8) : (c == k) = (c.toNat == k.toNat) := by
  by_cases h : c = k
  · subst h; simp
  · rw [beq_eq_false_iff_ne.2 h, beq_eq_false_iff_ne.2 (fun e => h (UInt8.toNat_inj.1 e))]
theorem index_q : ∀ l : Str, Lib.indexByte l 34 = match l.dropWhile notQ with
    | [] => -1
    | q :: r => ((l.length - (q :: r).length : Nat) : Int)
  | [] => rfl
  | x :: l => by
    have ih := index_q l
    unfold Lib.indexByte
    rw [toNat_eq x 34, List.dropWhile_cons]
    unfold notQ at ih ⊢
    show (if (x.toNat == 34) = true then _ else _) = _
    cases h : x.toNat == 34
    · simp only [Bool.not_false, if_true]
      have hd := xDP (p := fun c => !(c.toNat == 34)) l
      cases he : List.dropWhile (fun c => !(c.toNat == 34)) l with
      | nil => rw [he] at ih; simp only at ih; rw [ih]; rfl
      | cons q r =>
        rw [he] at ih hd
        simp only at ih
        simp only [List.length_cons] at hd ih ⊢
        rw [ih]
        have e : (((l.length - (r.length + 1) : Nat) : Int) == -1) = false := beq_eq_false_iff_ne.2 (by omega)
        rw [e]
        simp only [Bool.false_eq_true, if_false]
        omega
    · simp
def LxP (S : Str) (o : Option (Tok × Str)) (x : Tok × Int × Bool) : Prop := match o with
  | some (t, r) => x = (t, ((S.length - r.length : Nat) : Int), true)
  | none => x.2.2 = false
theorem quote_at (hS : S.length ≤ 1000) (hN : 1000 < N) {i : Nat} {c : UInt8} {l : Str} (hd : S.drop i = c :: l) (h34 : (c.toNat == 34) = true) (hL : xFD c = false) (hD : xCr c = false) : ∃ x, (
            if (0 : Int) ≤ (IntKind.i64.wrap ((i : Int) + 1)) ∧ (IntKind.i64.wrap ((i : Int) + 1)) ≤ (List.length S) then
            Option.bind (strings_IndexByte N (List.drop (Int.toNat (IntKind.i64.wrap ((i : Int) + 1))) S) 34) fun r1 =>
            bif (decide ((r1 : Int) < 0)) then (
              some ((Tok.mk 0 0 0 []), 0, false)
            ) else (
              if (0 : Int) ≤ (IntKind.i64.wrap ((i : Int) + 1)) ∧ (IntKind.i64.wrap ((i : Int) + 1)) ≤ (IntKind.i64.wrap ((IntKind.i64.wrap ((i : Int) + 1)) + r1)) ∧ (IntKind.i64.wrap ((IntKind.i64.wrap ((i : Int) + 1)) + r1)) ≤ (List.length S) then
              Option.bind (xCF N (List.drop (Int.toNat (IntKind.i64.wrap ((i : Int) + 1))) (List.take (Int.toNat (IntKind.i64.wrap ((IntKind.i64.wrap ((i : Int) + 1)) + r1))) S))) fun r2 =>
              some ((Tok.mk 3 0 i (List.drop (Int.toNat (IntKind.i64.wrap ((i : Int) + 1))) (List.take (Int.toNat (IntKind.i64.wrap ((IntKind.i64.wrap ((i : Int) + 1)) + r1))) S))), (IntKind.i64.wrap ((IntKind.i64.wrap ((i : Int) + r1)) + 2)), r2)
              else none
            )
            else none) = some x ∧ LxP S (xF3 i (c :: l)) x := by
  obtain ⟨e1, e2⟩ := xD3 hd
  obtain ⟨hi, _, hd1⟩ := xDf hd
  simp only [List.length_cons] at e2
  have w1 : IntKind.i64.wrap ((i : Int) + 1) = ((i + 1 : Nat) : Int) := xB1 hi (by omega)
  simp only [w1, Int.toNat_natCast, hd1]
  rw [if_pos (by omega)]
  unfold strings_IndexByte indexByteP
  rw [show ((34 : Int).toNat.toUInt8) = 34 from rfl, index_q, Option.bind_some]
  rw [xDE, hL, hD, h34]
  simp only [cond_false, cond_true]
  have hq := xDP (p := notQ) l
  cases he : l.dropWhile notQ with
  | nil => exact ⟨_, rfl, rfl⟩
  | cons q r =>
    rw [he] at hq
    simp only [List.length_cons] at hq ⊢
    have w2 : IntKind.i64.wrap (((i + 1 : Nat) : Int) + ((l.length - (r.length + 1) : Nat) : Int)) = ((i + 1 + (l.length - (r.length + 1)) : Nat) : Int) := by rw [xCc (by omega) (by omega)]; omega
    have w3 : IntKind.i64.wrap ((i : Int) + ((l.length - (r.length + 1) : Nat) : Int)) = ((i + (l.length - (r.length + 1)) : Nat) : Int) := by rw [xCc (by omega) (by omega)]; omega
    have w4 : IntKind.i64.wrap (((i + (l.length - (r.length + 1)) : Nat) : Int) + 2) = ((S.length - r.length : Nat) : Int) := by rw [xCc (by omega) (by omega)]; omega
    have w5 : List.drop (i + 1) (List.take (i + 1 + (l.length - (r.length + 1))) S) = l.take (l.length - (r.length + 1)) := by
      rw [List.drop_take, hd1, show i + 1 + (l.length - (r.length + 1)) - (i + 1) = l.length - (r.length + 1) from by omega]
    rw [decide_eq_false (by omega), cond_false]
    simp only [w2, w3, w4, Int.toNat_natCast, w5]
    rw [if_pos (by omega)]
    have ht : (l.take (l.length - (r.length + 1))).length ≤ 1000 := by rw [List.length_take]; omega
    rw [xE8 (N := N) (s := l.take (l.length - (r.length + 1))) (by omega) (by omega), Option.bind_some]
    refine ⟨_, rfl, ?_⟩
    cases xGi (l.take (l.length - (r.length + 1)))
    · rfl
    · rfl
theorem sym_at (hS : S.length ≤ 1000) (hN : 1000 < N) {i : Nat} {c : UInt8} {l : Str} (hd : S.drop i = c :: l) (h34 : (c.toNat == 34) = false) (hL : xFD c = false) (hD : xCr c = false) : ∃ x, (
            if (0 : Int) ≤ (i : Int) ∧ (i : Int) ≤ (List.length S) then
            Option.bind (strings_HasPrefix N (List.drop (Int.toNat (i : Int)) S) [61, 61]) fun r1 =>
            bif r1 then (
              some ((Tok.mk 4 0 i [61, 61]), (IntKind.i64.wrap ((i : Int) + 2)), true)
            ) else (
              if (0 : Int) ≤ (i : Int) ∧ (i : Int) ≤ (IntKind.i64.wrap ((i : Int) + 1)) ∧ (IntKind.i64.wrap ((i : Int) + 1)) ≤ (List.length S) then
              Option.bind (strings_IndexByte N [40, 41, 91, 93, 44, 43, 45, 42, 60, 61] ((List.getD S (Int.toNat (i : Int)) 0).toNat : Int)) fun r2 =>
              some ((Tok.mk 4 0 i (List.drop (Int.toNat (i : Int)) (List.take (Int.toNat (IntKind.i64.wrap ((i : Int) + 1))) S))), (IntKind.i64.wrap ((i : Int) + 1)), (decide ((r2 : Int) ≥ 0)))
              else none
            )
            else none) = some x ∧ LxP S (xF3 i (c :: l)) x := by
  obtain ⟨e1, e2⟩ := xD3 hd
  obtain ⟨hi, hx, hd1⟩ := xDf hd
  simp only [List.length_cons] at e2
  have w1 : IntKind.i64.wrap ((i : Int) + 1) = ((i + 1 : Nat) : Int) := xB1 hi (by omega)
  simp only [w1, Int.toNat_natCast, hd, xCx hx]
  rw [if_pos (by omega)]
  unfold strings_HasPrefix hasPrefixP
  rw [Option.bind_some, xDE, hL, hD, h34]
  simp only [cond_false]
  cases hp : Lib.hasPrefix (c :: l) [61, 61]
  · simp only [cond_false]
    rw [if_pos (by omega)]
    unfold strings_IndexByte indexByteP
    rw [Option.bind_some]
    have ec : ((c.toNat : Int)).toNat.toUInt8 = c := by simp
    have w5 : List.drop i (List.take (i + 1) S) = [c] := by
      rw [List.drop_take, hd, show i + 1 - i = 1 from by omega]; rfl
    rw [ec, w5]
    refine ⟨_, rfl, ?_⟩
    unfold symOk
    cases decide (Lib.indexByte [40, 41, 91, 93, 44, 43, 45, 42, 60, 61] c ≥ 0)
    · rfl
    · show (_, _, _) = (_, _, _)
      rw [show i + 1 = S.length - l.length from by omega]
  · simp only [cond_true]
    refine ⟨_, rfl, ?_⟩
    have h2 : l.tail.length + 1 = l.length := by
      cases l with
      | nil => simp [Lib.hasPrefix, List.isPrefixOf] at hp
      | cons a b => rfl
    have w2 : IntKind.i64.wrap ((i : Int) + 2) = ((S.length - l.tail.length : Nat) : Int) := by rw [xCc (by omega) (by omega)]; omega
    show (_, _, _) = (_, _, _)
    rw [w2]
theorem tokenAt_eq (hS : S.length ≤ 1000) (hN : 1000 < N) {i : Nat} {c : UInt8} {l : Str} (hd : S.drop i = c :: l) : ∃ x, xET N S i = some x ∧ LxP S (xF3 i (c :: l)) x := by
  obtain ⟨e1, e2⟩ := xD3 hd
  obtain ⟨hi, hx, hd1⟩ := xDf hd
  have hQ := fun a b e => quote_at (N := N) hS hN hd a b e
  have hY := fun a b e => sym_at (N := N) hS hN hd a b e
  have word : xFD c = true → ∃ x, xCg N N S i i (Tok.mk 0 0 0 []) = some x ∧ LxP S (xF3 i (c :: l)) x := fun hl => by
    refine ⟨_, word_scan hS _ N i (Nat.le_refl _) (by omega) (by omega), ?_⟩
    rw [hd]
    rw [xDE, hl, cond_true]
    have hq := xDP (p := isWd) (c :: l)
    rw [xF7 hd (by omega) hq, show S.length - ((c :: l).dropWhile isWd).length - i = (c :: l).length - ((c :: l).dropWhile isWd).length from by omega]
    cases decide ((c :: l).length - ((c :: l).dropWhile isWd).length ≤ 8) <;> rfl
  have numb : xFD c = false → xCr c = true → ∃ x, xCy N N S i i (Tok.mk 0 0 0 []) = some x ∧ LxP S (xF3 i (c :: l)) x := fun hl hg => by
    refine ⟨_, num_scan hS _ N i (Nat.le_refl _) (by omega) (by omega), ?_⟩
    have hq := xDP (p := xCr) (c :: l)
    rw [hd]
    unfold numG
    rw [xDE, hl, hg, cond_true, cond_false, xF7 hd (by omega) hq]
    cases hb : (numOf ((c :: l).take ((c :: l).length - ((c :: l).dropWhile xCr).length)) 0 1000000000).2 <;> rfl
  unfold xET
  rw [if_pos (by omega)]
  simp only [Int.toNat_natCast, xCx hx, dge97, dle122, dge48, dle57, beq34] at hQ hY ⊢
  simp only [xFD, xCr] at hQ hY word numb
  generalize decide (97 ≤ c.toNat) = A at *
  generalize decide (c.toNat ≤ 122) = B at *
  generalize decide (48 ≤ c.toNat) = C at *
  generalize decide (c.toNat ≤ 57) = D at *
  generalize (c.toNat == 34) = E at *
  cases A <;> cases B <;> cases C <;> cases D <;>
    first
    | exact word rfl
    | exact numb rfl rfl
    | (cases E
       · exact hY rfl rfl rfl
       · exact hQ rfl rfl rfl)
theorem xEO {α : Type} {b : Bool} {x y : α} (h : (bif b then some x else none) = some y) : b = true ∧ x = y := by cases b <;> cases h; exact ⟨rfl, rfl⟩
theorem lexAt_len {p : Int} {s r : Str} {t : Tok} (h : xF3 p s = some (t, r)) : r.length < s.length := by
  cases s with
  | nil => cases h
  | cons c l =>
    have d1 := xDP (p := isWd) l
    have d2 := xDP (p := xCr) l
    have d3 := xDP (p := notQ) l
    rw [xDE] at h
    cases h1 : xFD c <;> rw [h1] at h
    · cases h2 : xCr c <;> rw [h2] at h
      · cases h3 : c.toNat == 34 <;> rw [h3] at h
        · cases h4 : Lib.hasPrefix (c :: l) [61, 61] <;> rw [h4] at h
          · cases h5 : symOk c <;> rw [h5] at h
            · cases h
            · cases h; simp
          · cases h; simp; omega
        · simp only [cond_true, cond_false] at h
          split at h
          · cases h
          · rename_i q r' he
            rw [he] at d3
            simp only [List.length_cons] at d3 ⊢
            obtain ⟨hb, hx⟩ := xEO h
            cases hx; omega
      · simp only [cond_true, cond_false] at h
        obtain ⟨hb, hx⟩ := xEO h
        cases hx
        rw [List.dropWhile_cons]; simp only [h2, if_true, List.length_cons]; omega
    · simp only [cond_true] at h
      obtain ⟨hb, hx⟩ := xEO h
      · cases hx
        have : isWd c = true := by unfold isWd; rw [h1]; rfl
        rw [List.dropWhile_cons]; simp only [this, if_true, List.length_cons]; omega
theorem lexAt_suf {p : Int} {s r : Str} {t : Tok} (h : xF3 p s = some (t, r)) : r <:+ s := by
  cases s with
  | nil => cases h
  | cons c l =>
    rw [xDE] at h
    cases h1 : xFD c <;> rw [h1] at h
    · cases h2 : xCr c <;> rw [h2] at h
      · cases h3 : c.toNat == 34 <;> rw [h3] at h
        · cases h4 : Lib.hasPrefix (c :: l) [61, 61] <;> rw [h4] at h
          · cases h5 : symOk c <;> rw [h5] at h
            · cases h
            · cases h; exact List.suffix_cons _ _
          · cases h; exact (List.tail_suffix _).trans (List.suffix_cons _ _)
        · simp only [cond_true, cond_false] at h
          split at h
          · cases h
          · rename_i q r' he
            have hs : q :: r' <:+ l := by rw [← he]; exact List.dropWhile_suffix _
            obtain ⟨hb, hx⟩ := xEO h
            cases hx; exact ((List.suffix_cons _ _).trans hs).trans (List.suffix_cons _ _)
      · simp only [cond_true, cond_false] at h
        obtain ⟨hb, hx⟩ := xEO h
        cases hx
        exact List.dropWhile_suffix _
    · simp only [cond_true] at h
      obtain ⟨hb, hx⟩ := xEO h
      cases hx
      exact List.dropWhile_suffix _
theorem drop_suf {r : Str} (h : r <:+ S) : S.drop (S.length - r.length) = r := by
  obtain ⟨a, rfl⟩ := h
  rw [List.length_append, show a.length + r.length - r.length = a.length from by omega, List.drop_left]
theorem tokL_eq (hS : S.length ≤ 120) (hN : 1000 < N) : ∀ (m n i : Nat) (acc : List Tok), i ≤ S.length → S.length - i < m → S.length - i < n → acc.length ≤ 60 → xDm N n S acc (i : Nat) = some (lexL m (i : Nat) acc (S.drop i)) := by
  intro m
  induction m with
  | zero => intro n i acc _ h; omega
  | succ m ih =>
    intro n i acc hi hm hn ha
    obtain ⟨n, rfl⟩ : ∃ k, n = k + 1 := ⟨n - 1, by omega⟩
    cases hd : S.drop i with
    | nil =>
      have := xFJ hd
      obtain rfl : i = S.length := by omega
      simp only [xDm, Int.lt_irrefl, decide_false, cond_false, lexL]
    | cons c l =>
      obtain ⟨h1, hx, hd1⟩ := xDf hd
      have hi' : (i : Int) < (S.length : Int) := by omega
      simp only [xDm, decide_eq_true hi', cond_true, Int.toNat_natCast, xCx hx, beq32, lexL, xB1 h1 (by omega : S.length ≤ _)]
      rw [if_pos (by omega)]
      cases h32 : c.toNat == 32
      · simp only [cond_false]
        obtain ⟨x, hx1, hx2⟩ := tokenAt_eq (N := N) (S := S) (by omega) hN hd
        rw [hx1, Option.bind_some]
        cases ho : xF3 i (c :: l) with
        | none =>
          rw [ho] at hx2
          have hx2 : x.2.2 = false := hx2
          simp only [hx2, Bool.not_false, cond_true]
        | some z =>
          obtain ⟨t, r⟩ := z
          rw [ho] at hx2
          have hx2 : x = (t, ((S.length - r.length : Nat) : Int), true) := hx2
          subst hx2
          have hl := lexAt_len ho
          have hs : r <:+ S := by
            have : c :: l <:+ S := by rw [← hd]; exact List.drop_suffix _ _
            exact (lexAt_suf ho).trans this
          have hrl := hs.length_le
          obtain ⟨g1, g2⟩ := xD3 hd
          simp only [Bool.not_true, cond_false]
          have e60 : (((acc.length : Int) : Int) == 60) = (acc.length == 60) := beqI acc.length 60
          rw [e60]
          cases h60 : acc.length == 60
          · have h60 : acc.length ≠ 60 := beq_eq_false_iff_ne.1 h60
            simp only [cond_false]
            rw [if_pos (by simp only [List.length_cons, List.length_nil]; unfold Lim; omega)]
            rw [ih n (S.length - r.length) (acc ++ [t]) (by omega) (by omega) (by omega) (by simp only [List.length_append, List.length_cons, List.length_nil]; omega), drop_suf hs]
            rw [show ((S.length - r.length : Nat) : Int) = (i : Int) + ((c :: l).length - r.length : Nat) from by omega]
          · rfl
      · simp only [cond_true]
        rw [ih n (i + 1) acc (by omega) (by omega) (by omega) ha, hd1]
        rfl
theorem impl_Tokenize_eq (hN : 1000 < N) (s : Str) : xEh N s = some (lex s) := by
  unfold xEh lex
  have e : decide (((s.length : Int) : Int) > 120) = decide (s.length > 120) := decide_eq_decide.2 (by omega)
  rw [e]
  cases h : decide (s.length > 120)
  · have h := of_decide_eq_false h
    simp only [cond_false]
    exact tokL_eq (S := s) (by omega) hN (s.length + 1) N 0 [] (by omega) (by omega) (by omega) (by simp)
  · rfl
end
end Go.Ab
end
section
namespace Go.Ab
set_option linter.unusedVariables false
set_option linter.unusedSimpArgs false
def valD (acc : Nat) : Str → Nat
  | [] => acc
  | c :: r => valD (acc * 10 + (c.toNat - 48)) r
theorem valD_le : ∀ (l : Str) (acc : Nat), acc ≤ valD acc l
  | [], acc => Nat.le_refl _
  | c :: r, acc => Nat.le_trans (by omega) (valD_le r _)
theorem valD_append : ∀ (a b : Str) (acc : Nat), valD acc (a ++ b) = valD (valD acc a) b
  | [], b, acc => rfl
  | c :: r, b, acc => valD_append r b _
theorem xFd {c : UInt8} : xCr c = true ↔ 48 ≤ c.toNat ∧ c.toNat ≤ 57 := by unfold xCr; rw [Bool.and_eq_true, decide_eq_true_eq, decide_eq_true_eq]
theorem parse_ok : ∀ (l : Str) (acc : Nat), l.all xCr = true → valD acc l < 1844674407370955162 → Lib.parseUint10 acc l = .ok (valD acc l)
  | [], acc, _, _ => rfl
  | c :: r, acc, hl, hv => by
    rw [List.all_cons, Bool.and_eq_true] at hl
    have hc := xFd.1 hl.1
    have h1 := valD_le r (acc * 10 + (c.toNat - 48))
    have hv' : valD (acc * 10 + (c.toNat - 48)) r < 1844674407370955162 := hv
    show (if 48 ≤ c.toNat ∧ c.toNat ≤ 57 then _ else _) = _
    rw [if_pos hc, if_neg (by omega), if_neg (by omega)]
    exact parse_ok r _ hl.2 hv'
theorem digit_u8 (k : Nat) (h : k < 10) : (UInt8.ofNat (48 + k)).toNat = 48 + k := by
  rw [UInt8.toNat_ofNat']; omega
theorem dd_props : ∀ n : Nat, (dd n).all xCr = true ∧ valD 0 (dd n) = n := by
  intro n
  induction n using Nat.strongRecOn with
  | _ n ih =>
    by_cases h : n = 0
    · subst h; exact ⟨rfl, rfl⟩
    · obtain ⟨h1, h2⟩ := ih (n / 10) (by omega)
      have hd := digit_u8 (n % 10) (by omega)
      rw [dd_step h, List.all_append, h1, valD_append, h2]
      refine ⟨?_, ?_⟩
      · simp only [List.all_cons, List.all_nil, Bool.and_true, Bool.true_and]
        exact xFd.2 (by omega)
      · show n / 10 * 10 + ((UInt8.ofNat (48 + n % 10)).toNat - 48) = n
        rw [hd]; omega
theorem itoa_props {v : Nat} (h : v ≤ 1000000000) : (Lib.itoa v).all xCr = true ∧ valD 0 (Lib.itoa v) = v ∧ (Lib.itoa v).length ≤ 10 ∧ Lib.itoa v ≠ [] := by
  by_cases h0 : v = 0
  · subst h0
    have e : Lib.itoa ((0 : Nat) : Int) = [48] := by
      show Lib.decDigits 0 = [48]
      rw [Lib.decDigits, dif_pos (by omega)]; rfl
    rw [e]; exact ⟨rfl, rfl, by decide, by decide⟩
  · have e : Lib.itoa (v : Int) = dd v := by
      rw [itoa_dd (by omega), decide_eq_false (by omega)]; rfl
    obtain ⟨h1, h2⟩ := dd_props v
    rw [e]
    refine ⟨h1, h2, dd_len 10 v (by omega), fun he => ?_⟩
    rw [he] at h2
    exact h0 h2.symm
theorem atoi_dig {w : Str} (h1 : w.all xCr = true) (h2 : w ≠ []) (h3 : valD 0 w < 1844674407370955162) : Lib.atoiAll w = .ok (valD 0 w) := by
  cases w with
  | nil => exact absurd rfl h2
  | cons c r =>
    have hc := h1
    rw [List.all_cons, Bool.and_eq_true] at hc
    have hc := xFd.1 hc.1
    unfold Lib.atoiAll
    have e1 : ¬ (c.toNat = 43 ∨ c.toNat = 45) := by omega
    have e2 : ¬ c.toNat = 45 := by omega
    simp only [if_neg e1]
    unfold Lib.parseMag
    rw [if_neg h2, parse_ok _ 0 h1 h3]
    simp only [e2, not_false_eq_true, true_and, false_and, if_false]
    rw [if_neg (by omega)]
theorem numOf_itoa {v : Nat} (h : v ≤ 1000000000) : numOf (Lib.itoa v) 0 1000000000 = ((v : Int), true) := by
  obtain ⟨h1, h2, h3, h4⟩ := itoa_props h
  unfold numOf
  rw [atoi_dig h1 h4 (by rw [h2]; omega), h2]
  simp only
  rw [if_neg (by omega), if_neg (by omega)]
  first
  | exact if_pos rfl
  | exact if_pos trivial
theorem numOf_inv {w : Str} (h : (numOf w 0 1000000000).2 = true) : ∃ v : Nat, v ≤ 1000000000 ∧ w = Lib.itoa v := by
  unfold numOf at h
  split at h
  · rename_i v hv
    split at h
    · cases h
    · split at h
      · cases h
      · split at h
        · rename_i h1 h2 h3
          exact ⟨v.toNat, by omega, by rw [show ((v.toNat : Nat) : Int) = v from by omega, h3]⟩
        · cases h
  · cases h
section
variable {N : Nat}
theorem u8d {c : UInt8} (h : xCr c = true) : IntKind.i64.wrap (IntKind.u8.wrap ((c.toNat : Int) - 48)) = ((c.toNat - 48 : Nat) : Int) := by
  have := xFd.1 h
  rw [wrap_u8 (by omega) (by omega), xCc (by omega) (by omega)]; omega
theorem read_scan (w : Str) (hw : w.all xCr = true) (hl : w.length ≤ 12) (hN : 100 < N) : ∀ n, w.length < n → xCO N n w false w 0 0 =
    (bif !(Lib.itoa ((valD 0 w : Nat) : Int) == w) then some (0, false) else some (((valD 0 w : Nat) : Int), true)) := by
  intro n hn
  have big : ∀ (l : Str) (acc k : Nat), l.all xCr = true → acc < 10 ^ k → valD acc l < 10 ^ (k + l.length) := by
    intro l
    induction l with
    | nil => intro acc k _ h; exact h
    | cons c r ih =>
      intro acc k hl h
      rw [List.all_cons, Bool.and_eq_true] at hl
      have hc := xFd.1 hl.1
      have := ih (acc * 10 + (c.toNat - 48)) (k + 1) hl.2 (by rw [Nat.pow_succ]; omega)
      show valD (acc * 10 + (c.toNat - 48)) r < _
      rw [List.length_cons, show k + (r.length + 1) = k + 1 + r.length from by omega]
      exact this
  have hb := big w 0 0 hw (by decide)
  have hb2 : valD 0 w < 10 ^ 12 := Nat.lt_of_lt_of_le hb (Nat.pow_le_pow_right (by omega) (by omega))
  have e12 : (10 : Nat) ^ 12 = 1000000000000 := by decide
  have key : ∀ n j (acc : Nat), j ≤ w.length → w.length < n + j → valD acc (w.drop j) = valD 0 w → xCO N n w false w (acc : Int) (j : Nat) =
      (bif !(Lib.itoa ((valD 0 w : Nat) : Int) == w) then some (0, false) else some (((valD 0 w : Nat) : Int), true)) := by
    intro n
    induction n with
    | zero => intro j acc h1 h2; omega
    | succ n ih =>
      intro j acc h1 h2 h3
      cases hd : w.drop j with
      | nil =>
        have := xFJ hd
        obtain rfl : j = w.length := by omega
        rw [hd] at h3
        have h3 : acc = valD 0 w := h3
        simp only [xCO, Int.lt_irrefl, decide_false, cond_false]
        rw [spec_FormatInt_eq hN (by omega), Option.bind_some, h3]
      | cons c r =>
        obtain ⟨g1, g2, g3⟩ := xDf hd
        have hc : xCr c = true := List.all_eq_true.1 hw c (List.mem_of_getElem? g2)
        have hc' := xFd.1 hc
        rw [hd] at h3
        have h3 : valD (acc * 10 + (c.toNat - 48)) r = valD 0 w := h3
        have h4 := valD_le r (acc * 10 + (c.toNat - 48))
        have hj' : (j : Int) < (w.length : Int) := by omega
        have e1 : IntKind.i64.wrap (10 * (acc : Int)) = 10 * (acc : Int) := xCc (by omega) (by omega)
        have e2 : IntKind.i64.wrap (10 * (acc : Int) + ((c.toNat - 48 : Nat) : Int)) = ((acc * 10 + (c.toNat - 48) : Nat) : Int) := by rw [xCc (by omega) (by omega)]; omega
        simp only [xCO, decide_eq_true hj', cond_true, Int.toNat_natCast, xCx g2, u8d hc, e1, e2, xB1 g1 (by omega : w.length ≤ _)]
        rw [if_pos (by omega), decide_eq_false (by omega), cond_false, decide_eq_false (by omega), cond_false]
        exact ih (j + 1) _ (by omega) (by omega) (by rw [g3]; exact h3)
  exact key n 0 0 (by omega) (by omega) rfl
theorem spec_ParseInt_eq {w : Str} (hw : w.all xCr = true) (hne : w ≠ []) (hl : w.length ≤ 1000) (hN : 1000 < N) : ∃ n ok, xDY N w = some (n, ok) ∧
    (ok && !decide (n > 1000000000)) = (numOf w 0 1000000000).2 ∧ ((numOf w 0 1000000000).2 = true → n = (numOf w 0 1000000000).1) := by
  obtain ⟨c, r, rfl⟩ : ∃ c r, w = c :: r := by
    cases w with
    | nil => exact absurd rfl hne
    | cons c r => exact ⟨c, r, rfl⟩
  have hc := hw
  rw [List.all_cons, Bool.and_eq_true] at hc
  have hc' := xFd.1 hc.1
  have hlen : (c :: r).length = r.length + 1 := rfl
  have e45 : (((c.toNat : Int) : Int) == 45) = false := beq_eq_false_iff_ne.2 (by omega)
  have hr : xFj N (c :: r) 12 = (bif decide ((((c :: r).length : Int) : Int) > 12) then some (0, false) else xCO N N (c :: r) false (c :: r) 0 0) := by
    unfold xFj
    rw [decide_eq_true (by omega : (((c :: r).length : Int) : Int) > 0), cond_true, if_pos (by omega)]
    simp only [Int.toNat_zero, List.getD_cons_zero, e45, cond_false]
    rw [decide_eq_false (by omega : ¬ (((c :: r).length : Int) : Int) < 1), cond_false]
  unfold xDY
  rw [hr]
  by_cases hcan : (numOf (c :: r) 0 1000000000).2 = true
  · obtain ⟨v, hv, he⟩ := numOf_inv hcan
    obtain ⟨p1, p2, p3, p4⟩ := itoa_props hv
    rw [← he] at p2 p3
    rw [decide_eq_false (by omega), cond_false, read_scan _ hw (by omega) (by omega) N (by omega), p2, ← he]
    simp only [beq_self_eq_true, Bool.not_true, cond_false, Option.bind_some]
    have hn : numOf (c :: r) 0 1000000000 = ((v : Int), true) := by rw [he]; exact numOf_itoa hv
    refine ⟨(v : Int), true, rfl, ?_, fun _ => by rw [hn]⟩
    rw [hn, decide_eq_false (by omega)]; rfl
  · have hcan : (numOf (c :: r) 0 1000000000).2 = false := by simpa using hcan
    rw [hcan]
    cases h12 : decide ((((c :: r).length : Int) : Int) > 12)
    · have h12 := of_decide_eq_false h12
      rw [cond_false, read_scan _ hw (by omega) (by omega) N (by omega)]
      cases hi : Lib.itoa ((valD 0 (c :: r) : Nat) : Int) == c :: r
      · exact ⟨0, false, rfl, rfl, fun h => by cases h⟩
      · have hi := beq_iff_eq.1 hi
        have hbig : ¬ valD 0 (c :: r) ≤ 1000000000 := fun h => by
          have := numOf_itoa h
          rw [hi] at this
          rw [this] at hcan
          cases hcan
        exact ⟨_, true, rfl, by rw [decide_eq_true (by omega)]; rfl, fun h => by cases h⟩
    · exact ⟨0, false, rfl, rfl, fun h => by cases h⟩
theorem letter_eq (c : UInt8) : xEl N (c.toNat : Int) = some (xFD c) := by
  unfold xEl xFD
  rw [dge97, dle122]
  cases decide (97 ≤ c.toNat) <;> rfl
theorem digit_eq (c : UInt8) : xEf N (c.toNat : Int) = some (xCr c) := by
  unfold xEf xCr
  rw [dge48, dle57]
  cases decide (48 ≤ c.toNat) <;> rfl
variable {S : Str}
def wordS (S : Str) (i : Nat) (n6 p6 : Int) (l : Str) (p : UInt8 → Bool) : Tok × Int :=
  bif decide (S.length - (l.dropWhile p).length - i > 8) then (Tok.mk 1 n6 p6 (List.drop i (List.take (S.length - (l.dropWhile p).length) S)), 0) else (Tok.mk 1 n6 p6 (List.drop i (List.take (S.length - (l.dropWhile p).length) S)), ((S.length - (l.dropWhile p).length - i : Nat) : Int))
theorem sword_scan (hS : S.length ≤ 1000) {i : Nat} (b4 b6 : Tok) : ∀ n j, i ≤ j → j ≤ S.length → S.length < n + j → xDe N n S i (j : Nat) b4 b6 = some (wordS S i b6.n b6.pos (S.drop j) isWd) := by
  intro n j hij hj hn
  have fin : ∀ j : Nat, i ≤ j → j ≤ S.length → (bif (decide (((IntKind.i64.wrap ((j : Int) - (i : Int))) : Int) > 8)) then (
        some ((Tok.mk 1 (Tok.n b6) (Tok.pos b6) (List.drop i (List.take j S))), (0 : Int))
      ) else (
        some ((Tok.mk 1 (Tok.n b6) (Tok.pos b6) (List.drop i (List.take j S))), (IntKind.i64.wrap ((j : Int) - (i : Int))))
      )) = some (bif decide (j - i > 8) then (Tok.mk 1 b6.n b6.pos (List.drop i (List.take j S)), 0) else (Tok.mk 1 b6.n b6.pos (List.drop i (List.take j S)), ((j - i : Nat) : Int))) := by
    intro j h1 h2
    have e1 : IntKind.i64.wrap ((j : Int) - (i : Int)) = ((j - i : Nat) : Int) := by rw [xCc (by omega) (by omega)]; omega
    rw [e1, decide_eq_decide.2 (by omega : ((j - i : Nat) : Int) > 8 ↔ j - i > 8)]
    cases decide (j - i > 8) <;> rfl
  refine xEX (σ := Unit) (L := fun n j _ => xDe N n S i j b4 b6) S (fun l _ => wordS S i b6.n b6.pos l isWd)
    (fun j _ => i ≤ j) (fun n _ hi => ?_) (fun j x l _ hd hj hx hi => ?_) n j () hij hj hn
  · have hi : i ≤ S.length := hi
    simp only [xDe, Int.lt_irrefl, decide_false, cond_false]
    rw [if_pos (by omega)]
    simp only [Int.toNat_natCast, fin _ hi (Nat.le_refl _), wordS, List.dropWhile_nil, List.length_nil, Nat.sub_zero]
    rfl
  · have hi : i ≤ j := hi
    have hj' : (j : Int) < (S.length : Int) := by omega
    have hj2 : (0 : Int) ≤ (j : Int) ∧ (j : Int) < (S.length : Int) := ⟨by omega, hj'⟩
    have hj3 : (0 : Int) ≤ (i : Int) ∧ (i : Int) ≤ (j : Int) ∧ (j : Int) ≤ (S.length : Int) := by omega
    cases hw : isWd x
    · refine .inr fun n => ?_
      have e2 : (x :: l).dropWhile isWd = x :: l := by rw [List.dropWhile_cons]; simp [hw]
      have e3 := (xD3 hd).1
      unfold isWd at hw
      rw [Bool.or_eq_false_iff] at hw
      simp only [xDe, decide_eq_true hj', cond_true, cond_false, if_pos hj2, if_pos hj3, Int.toNat_natCast, xCx hx, letter_eq, digit_eq, hw.1, hw.2, Option.bind_some, fin _ hi (by omega : j ≤ S.length), wordS, e2, e3]
    · refine .inl ⟨(), by omega, ?_, fun n => ?_⟩
      · have e2 : (x :: l).dropWhile isWd = l.dropWhile isWd := by rw [List.dropWhile_cons]; simp [hw]
        simp only [wordS, e2]
      · unfold isWd at hw
        simp only [xDe, decide_eq_true hj', cond_true, if_pos hj2, Int.toNat_natCast, xCx hx, letter_eq, digit_eq, Option.bind_some, xB1 hj (by omega : S.length ≤ _)]
        cases h1 : xFD x
        · rw [h1, Bool.false_or] at hw
          rw [hw]; rfl
        · rfl
def LxS (s : Str) (o : Option (Tok × Str)) (x : Tok × Int) : Prop := match o with
  | some (t, r) => x = (t, ((s.length - r.length : Nat) : Int))
  | none => x.2 = 0
theorem xE4 {p : UInt8 → Bool} {c : UInt8} (l : Str) (h : p c = true) : (c :: l).dropWhile p = l.dropWhile p := by rw [List.dropWhile_cons]; simp [h]
theorem snum_scan (hS : S.length ≤ 1000) (hN : 1000 < N) {i : Nat} {c : UInt8} {l0 : Str} (hd0 : S.drop i = c :: l0) (hc : xCr c = true) (hL : xFD c = false) (b4 : Tok) (p6 : Int) (hp : p6 = i) : ∀ n j, i < j → j ≤ S.length → S.length < n + j → (c :: l0).dropWhile xCr = (S.drop j).dropWhile xCr →
    ∃ x, xCW N n S i (j : Nat) b4 (Tok.mk 0 0 p6 []) = some x ∧ LxS (c :: l0) (xF3 i (c :: l0)) x := by
  obtain ⟨g1, g2⟩ := xD3 hd0
  obtain ⟨gi, gx, gd⟩ := xDf hd0
  have hq := xDP (p := xCr) l0
  have hsame := xE4 (p := xCr) l0 hc
  have fin : ∀ j : Nat, i < j → j ≤ S.length → S.length - j = ((c :: l0).dropWhile xCr).length → ∃ x, (Option.bind (xDY N (List.drop i (List.take j S))) fun r2 =>
        bif (!r2.2) then (
          some ((Tok.mk 2 r2.1 p6 []), 0)
        ) else (
          bif (decide ((r2.1 : Int) > 1000000000)) then (
            some ((Tok.mk 2 r2.1 p6 []), 0)
          ) else (
            some ((Tok.mk 2 r2.1 p6 []), (IntKind.i64.wrap ((j : Int) - (i : Int))))
          )
        )) = some x ∧ LxS (c :: l0) (xF3 i (c :: l0)) x := by
    intro j h1 h2 h3
    have ew : List.drop i (List.take j S) = (c :: l0).take ((c :: l0).length - ((c :: l0).dropWhile xCr).length) := by
      have := xF7 (S := S) (s := c :: l0) hd0 (by omega) (k := ((c :: l0).dropWhile xCr).length) (xDP _)
      rw [← this, show S.length - ((c :: l0).dropWhile xCr).length = j from by omega]
    have hall : ((c :: l0).take ((c :: l0).length - ((c :: l0).dropWhile xCr).length)).all xCr = true := by
      have : (c :: l0).take ((c :: l0).length - ((c :: l0).dropWhile xCr).length) = (c :: l0).takeWhile xCr := by
        have e := List.takeWhile_append_dropWhile (p := xCr) (l := c :: l0)
        have hl := congrArg List.length e
        rw [List.length_append] at hl
        conv => lhs; arg 2; rw [← e]
        rw [show (c :: l0).length - ((c :: l0).dropWhile xCr).length = ((c :: l0).takeWhile xCr).length from by omega, List.take_left']
        rfl
      rw [this]
      exact List.all_takeWhile
    have hne : (c :: l0).take ((c :: l0).length - ((c :: l0).dropWhile xCr).length) ≠ [] := by
      intro he
      have := congrArg List.length he
      rw [List.length_take, hsame, List.length_nil] at this
      simp only [List.length_cons] at this
      omega
    obtain ⟨n, ok, e1, e2, e3⟩ := spec_ParseInt_eq (N := N) hall hne (by rw [List.length_take]; simp only [List.length_cons] at g2 ⊢; omega) hN
    rw [ew, e1, Option.bind_some, xDE, hL, hc]
    simp only [cond_true, cond_false]
    rw [← e2] at e3 ⊢
    have e4 : IntKind.i64.wrap ((j : Int) - (i : Int)) = (((c :: l0).length - ((c :: l0).dropWhile xCr).length : Nat) : Int) := by rw [xCc (by omega) (by omega)]; omega
    cases ok
    · exact ⟨_, rfl, rfl⟩
    · cases hb : decide (n > 1000000000)
      · rw [hb] at e3
        have e3 := e3 rfl
        refine ⟨_, rfl, ?_⟩
        show (_, _) = (_, _)
        rw [e4, ← e3, hp]
      · exact ⟨_, rfl, rfl⟩
  intro n
  induction n with
  | zero => intro j h1 h2 h3; omega
  | succ n ih =>
    intro j h1 h2 h3 h4
    cases hd : S.drop j with
    | nil =>
      have := xFJ hd
      obtain rfl : j = S.length := by omega
      rw [hd] at h4
      simp only [xCW, Int.lt_irrefl, decide_false, cond_false]
      rw [if_pos (by omega)]
      simp only [Int.toNat_natCast]
      exact fin _ h1 h2 (by rw [h4]; simp)
    | cons x l =>
      obtain ⟨k1, k2, k3⟩ := xDf hd
      have hj' : (j : Int) < (S.length : Int) := by omega
      have hj2 : (0 : Int) ≤ (j : Int) ∧ (j : Int) < (S.length : Int) := ⟨by omega, hj'⟩
      have hj3 : (0 : Int) ≤ (i : Int) ∧ (i : Int) ≤ (j : Int) ∧ (j : Int) ≤ (S.length : Int) := by omega
      simp only [xCW, decide_eq_true hj', cond_true, if_pos hj2, if_pos hj3, Int.toNat_natCast, xCx k2, digit_eq, Option.bind_some, xB1 k1 (by omega : S.length ≤ _)]
      cases hw : xCr x
      · have e2 : (x :: l).dropWhile xCr = x :: l := by rw [List.dropWhile_cons]; simp [hw]
        rw [hd, e2] at h4
        exact fin j h1 h2 (by rw [h4]; have := (xD3 hd).2; omega)
      · have e2 : (x :: l).dropWhile xCr = l.dropWhile xCr := xE4 l hw
        exact ih (j + 1) (by omega) (by omega) (by omega) (by rw [h4, hd, e2, k3])
theorem sq_scan (hS : S.length ≤ 1000) (hN : 1000 < N) {i : Nat} {c : UInt8} {l0 : Str} (hd0 : S.drop i = c :: l0) (h34 : (c.toNat == 34) = true) (hD : xCr c = false) (hL : xFD c = false) (b4 : Tok) (p6 : Int) (hp : p6 = i) : ∀ n j, i < j → j ≤ S.length → S.length < n + j → l0.dropWhile notQ = (S.drop j).dropWhile notQ →
    ∃ x, xDU N n S i (j : Nat) b4 (Tok.mk 0 0 p6 []) = some x ∧ LxS (c :: l0) (xF3 i (c :: l0)) x := by
  obtain ⟨g1, g2⟩ := xD3 hd0
  obtain ⟨gi, gx, gd⟩ := xDf hd0
  have hq := xDP (p := notQ) l0
  simp only [List.length_cons] at g1 g2
  have w1 : IntKind.i64.wrap ((i : Int) + 1) = ((i + 1 : Nat) : Int) := xB1 gi (by omega)
  intro n
  induction n with
  | zero => intro j h1 h2 h3; omega
  | succ n ih =>
    intro j h1 h2 h3 h4
    cases hd : S.drop j with
    | nil =>
      have := xFJ hd
      obtain rfl : j = S.length := by omega
      rw [hd] at h4
      simp only [xDU, Int.lt_irrefl, decide_false, cond_false, w1]
      rw [if_pos (by omega)]
      simp only [beq_self_eq_true, cond_true]
      refine ⟨_, rfl, ?_⟩
      rw [xDE, hL, hD, h34, h4]
      rfl
    | cons x l =>
      obtain ⟨k1, k2, k3⟩ := xDf hd
      have hj' : (j : Int) < (S.length : Int) := by omega
      have hj2 : (0 : Int) ≤ (j : Int) ∧ (j : Int) < (S.length : Int) := ⟨by omega, hj'⟩
      have hj3 : (0 : Int) ≤ ((i + 1 : Nat) : Int) ∧ ((i + 1 : Nat) : Int) ≤ (j : Int) ∧ (j : Int) ≤ (S.length : Int) := by omega
      simp only [xDU, decide_eq_true hj', cond_true, if_pos hj2, w1, if_pos hj3, Int.toNat_natCast, xCx k2, bne, beq34, xB1 k1 (by omega : S.length ≤ _)]
      cases hw : x.toNat == 34
      · have e2 : (x :: l).dropWhile notQ = l.dropWhile notQ := xE4 l (by unfold notQ; rw [hw]; rfl)
        exact ih (j + 1) (by omega) (by omega) (by omega) (by rw [h4, hd, e2, k3])
      · have e2 : (x :: l).dropWhile notQ = x :: l := by rw [List.dropWhile_cons]; simp [notQ, hw]
        rw [hd, e2] at h4
        rw [h4] at hq
        simp only [List.length_cons] at hq
        have hjl := (xD3 hd).2
        simp only [List.length_cons] at hjl
        have ew : List.drop (i + 1) (List.take j S) = l0.take (l0.length - (x :: l).length) := by
          have := xF7 (S := S) (s := l0) gd (by omega) (k := (x :: l).length) (by simp only [List.length_cons]; omega)
          rw [← this, show S.length - (x :: l).length = j from by simp only [List.length_cons]; omega]
        have ht : (l0.take (l0.length - (x :: l).length)).length ≤ 1000 := by rw [List.length_take]; omega
        have ne : ((j : Int) == (S.length : Int)) = false := beq_eq_false_iff_ne.2 (by omega)
        have e4 : IntKind.i64.wrap (((j + 1 : Nat) : Int) - (i : Int)) = (((c :: l0).length - l.length : Nat) : Int) := by rw [xCc (by omega) (by omega)]; simp only [List.length_cons]; omega
        simp only [Bool.not_true, cond_false, ne, ew]
        rw [xEz (N := N) (by omega) (by omega), Option.bind_some, xDE, hL, hD, h34, h4]
        simp only [cond_true, cond_false]
        cases xGi (l0.take (l0.length - (x :: l).length))
        · exact ⟨_, rfl, rfl⟩
        · refine ⟨_, rfl, ?_⟩
          show (_, _) = (_, _)
          rw [e4, hp]
theorem idx_any (c : UInt8) : ∀ l : Str, decide (Lib.indexByte l c ≥ 0) = l.any fun b => b.toNat == c.toNat
  | [] => rfl
  | b :: l => by
    have ih := idx_any c l
    have h1 := Lib.indexByte_ge l c
    have e : Lib.indexByte (b :: l) c = if b == c then 0 else if Lib.indexByte l c == -1 then -1 else Lib.indexByte l c + 1 := rfl
    rw [List.any_cons, ← ih, e, toNat_eq b c]
    cases b.toNat == c.toNat
    · simp only [Bool.false_eq_true, if_false, Bool.false_or]
      by_cases h : Lib.indexByte l c = -1
      · rw [h]; rfl
      · rw [show (Lib.indexByte l c == -1) = false from beq_eq_false_iff_ne.2 h]
        simp only [Bool.false_eq_true, if_false]
        rw [decide_eq_true (by omega), decide_eq_true (by omega)]
    · rfl
theorem beqc (c : UInt8) (k : Nat) : (((c.toNat : Int) : Int) == (k : Int)) = (c.toNat == k) := beqI c.toNat k
def head61 : Str → Bool
  | [] => false
  | d :: _ => 61 == d.toNat
def symN (c : UInt8) (l : Str) : Nat := bif Lib.hasPrefix (c :: l) [61, 61] then 2 else bif symOk c then 1 else 0
theorem symbol_eq (hS : S.length ≤ 1000) {i : Nat} {c : UInt8} {l : Str} (hd : S.drop i = c :: l) : xEJ N S i = some ((symN c l : Nat) : Int) := by
  obtain ⟨g1, g2⟩ := xD3 hd
  obtain ⟨gi, gx, gd⟩ := xDf hd
  have w1 : IntKind.i64.wrap ((i : Int) + 1) = ((i + 1 : Nat) : Int) := xB1 gi (by omega)
  have hok : symOk c = (40 == c.toNat || (41 == c.toNat || (91 == c.toNat || (93 == c.toNat || (44 == c.toNat || (43 == c.toNat || (45 == c.toNat || (42 == c.toNat || (60 == c.toNat || (61 == c.toNat || false)))))))))) := by
    unfold symOk; rw [idx_any]; rfl
  have hpre : Lib.hasPrefix (c :: l) [61, 61] = (61 == c.toNat && head61 l) := by
    unfold Lib.hasPrefix
    cases l with
    | nil => simp [List.isPrefixOf, head61]
    | cons d r =>
      simp only [List.isPrefixOf, toNat_eq, Bool.and_true, head61]; rfl
  have b (k : Nat) : (c.toNat == k) = (k == c.toNat) := by
    by_cases h : c.toNat = k
    · rw [h]
    · rw [beq_eq_false_iff_ne.2 h, beq_eq_false_iff_ne.2 (fun e => h e.symm)]
  unfold xEJ
  rw [if_pos (by omega)]
  have k40 := (beqc c 40).trans (b 40); have k41 := (beqc c 41).trans (b 41); have k91 := (beqc c 91).trans (b 91); have k93 := (beqc c 93).trans (b 93); have k44 := (beqc c 44).trans (b 44)
  have k43 := (beqc c 43).trans (b 43); have k45 := (beqc c 45).trans (b 45); have k42 := (beqc c 42).trans (b 42); have k60 := (beqc c 60).trans (b 60); have k61 := (beqc c 61).trans (b 61)
  simp only [Int.toNat_natCast, xCx gx, w1]
  unfold symN
  rw [hok, hpre]
  have no61 : ∀ k : Nat, k ≠ 61 → (k == c.toNat) = true → (61 == c.toNat) = false := fun k hk h => beq_eq_false_iff_ne.2 fun e => hk ((beq_iff_eq.1 h).trans e.symm)
  have fin : (bif (decide (((i + 1 : Nat) : Int) < (List.length S : Int))) then (
                        if (0 : Int) ≤ ((i + 1 : Nat) : Int) ∧ ((i + 1 : Nat) : Int) < (List.length S) then
                        bif ((((List.getD S (i + 1) 0).toNat : Int) : Int) == 61) then (
                          some (2 : Int)
                        ) else (
                          some 1
                        )
                        else none
                      ) else (
                        some 1
                      )) = some (((bif head61 l then 2 else 1 : Nat)) : Int) := by
    cases l with
    | nil =>
      simp only [List.length_cons, List.length_nil] at g2
      rw [decide_eq_false (by omega)]; rfl
    | cons d r =>
      simp only [List.length_cons] at g2
      obtain ⟨ji, jx, jd⟩ := xDf gd
      rw [decide_eq_true (by omega), cond_true, if_pos (by omega), xCx jx]
      have bd : (((d.toNat : Int) : Int) == 61) = (61 == d.toNat) := (beqI d.toNat 61).trans (by
        by_cases h : d.toNat = 61
        · rw [h]
        · rw [beq_eq_false_iff_ne.2 h, beq_eq_false_iff_ne.2 (fun e => h e.symm)])
      rw [bd, show head61 (d :: r) = (61 == d.toNat) from rfl]
      cases (61 == d.toNat) <;> rfl
  rw [fin]
  have k40 : (((c.toNat : Int) : Int) == 40) = (40 == c.toNat) := k40
  have k41 : (((c.toNat : Int) : Int) == 41) = (41 == c.toNat) := k41
  have k91 : (((c.toNat : Int) : Int) == 91) = (91 == c.toNat) := k91
  have k93 : (((c.toNat : Int) : Int) == 93) = (93 == c.toNat) := k93
  have k44 : (((c.toNat : Int) : Int) == 44) = (44 == c.toNat) := k44
  have k43 : (((c.toNat : Int) : Int) == 43) = (43 == c.toNat) := k43
  have k45 : (((c.toNat : Int) : Int) == 45) = (45 == c.toNat) := k45
  have k42 : (((c.toNat : Int) : Int) == 42) = (42 == c.toNat) := k42
  have k60 : (((c.toNat : Int) : Int) == 60) = (60 == c.toNat) := k60
  have k61 : (((c.toNat : Int) : Int) == 61) = (61 == c.toNat) := k61
  rw [k40, k41, k91, k93, k44, k43, k45, k42, k60, k61]
  cases h1 : (40 == c.toNat)
  · cases h2 : (41 == c.toNat)
    · cases h3 : (91 == c.toNat)
      · cases h4 : (93 == c.toNat)
        · cases h5 : (44 == c.toNat)
          · cases h6 : (43 == c.toNat)
            · cases h7 : (45 == c.toNat)
              · cases h8 : (42 == c.toNat)
                · cases h9 : (60 == c.toNat)
                  · cases h10 : (61 == c.toNat)
                    · rfl
                    · simp only [cond_false, cond_true, Bool.true_and, Bool.or_true, Bool.false_or, Bool.true_or]
                  · rw [no61 60 (by decide) h9]; rfl
                · rw [no61 42 (by decide) h8]; rfl
              · rw [no61 45 (by decide) h7]; rfl
            · rw [no61 43 (by decide) h6]; rfl
          · rw [no61 44 (by decide) h5]; rfl
        · rw [no61 93 (by decide) h4]; rfl
      · rw [no61 91 (by decide) h3]; rfl
    · rw [no61 41 (by decide) h2]; rfl
  · rw [no61 40 (by decide) h1]; rfl
theorem next_l9 (hS : S.length ≤ 1000) (hN : 1000 < N) {i : Nat} {c : UInt8} {l : Str} (hd : S.drop i = c :: l) : ∃ x, xFl N S i = some x ∧ LxS (c :: l) (xF3 i (c :: l)) x := by
  obtain ⟨e1, e2⟩ := xD3 hd
  obtain ⟨hi, hx, hd1⟩ := xDf hd
  simp only [List.length_cons] at e1 e2
  have w1 : IntKind.i64.wrap ((i : Int) + 1) = ((i + 1 : Nat) : Int) := xB1 hi (by omega)
  unfold xFl
  rw [if_pos (by omega)]
  simp only [Int.toNat_natCast, xCx hx, letter_eq, digit_eq, Option.bind_some, beq34, w1]
  cases hL : xFD c
  · cases hD : xCr c
    · cases h34 : c.toNat == 34
      · simp only [cond_false]
        rw [symbol_eq hS hd, Option.bind_some]
        have hle : symN c l ≤ (c :: l).length := by
          unfold symN
          cases hp : Lib.hasPrefix (c :: l) [61, 61]
          · cases symOk c <;> simp
          · have : 2 ≤ (c :: l).length := by
              cases l with
              | nil => simp [Lib.hasPrefix, List.isPrefixOf] at hp
              | cons a b => simp
            simpa using this
        simp only [List.length_cons] at hle
        have s2 : symN c l ≤ 2 := by
          unfold symN
          cases Lib.hasPrefix (c :: l) [61, 61] <;> cases symOk c <;> simp
        have v1 : IntKind.i64.wrap ((i : Int) + ((symN c l : Nat) : Int)) = ((i + symN c l : Nat) : Int) := by rw [xCc (by omega) (by omega)]; omega
        have v2 : IntKind.i64.wrap (((i + symN c l : Nat) : Int) - (i : Int)) = ((symN c l : Nat) : Int) := by rw [xCc (by omega) (by omega)]; omega
        have v3 : List.drop i (List.take (i + symN c l) S) = (c :: l).take (symN c l) := by rw [List.drop_take, hd, show i + symN c l - i = symN c l from by omega]
        simp only [v1, v2, Int.toNat_natCast, v3]
        rw [if_pos (by omega), xDE, hL, hD, h34]
        refine ⟨_, rfl, ?_⟩
        simp only [cond_false]
        unfold symN at s2 ⊢
        cases hp : Lib.hasPrefix (c :: l) [61, 61]
        · cases symOk c
          · rfl
          · show (_, _) = (_, _)
            simp
        · have h2 : l.tail.length + 1 = l.length := by
            cases l with
            | nil => simp [Lib.hasPrefix, List.isPrefixOf] at hp
            | cons a b => rfl
          have h3 : (c :: l).take 2 = [61, 61] := by
            cases l with
            | nil => simp [Lib.hasPrefix, List.isPrefixOf] at hp
            | cons a b =>
              simp only [Lib.hasPrefix, List.isPrefixOf, Bool.and_eq_true, beq_iff_eq] at hp
              obtain ⟨rfl, rfl, _⟩ := hp
              rfl
          show (_, _) = (_, _)
          simp only [cond_true, h3, List.length_cons]
          rw [show l.length + 1 - l.tail.length = 2 from by omega]
      · exact sq_scan hS hN hd h34 hD hL _ _ rfl N (i + 1) (by omega) (by omega) (by omega) (by rw [hd1])
    · simp only [cond_true, cond_false]
      obtain ⟨n, rfl⟩ : ∃ n, N = n + 1 := ⟨N - 1, by omega⟩
      have hj' : (i : Int) < (S.length : Int) := by omega
      have hj2 : (0 : Int) ≤ (i : Int) ∧ (i : Int) < (S.length : Int) := ⟨by omega, hj'⟩
      have step : xCW (n + 1) (n + 1) S i i (Tok.mk 0 0 0 []) (Tok.mk 0 0 i []) = xCW (n + 1) n S i ((i + 1 : Nat) : Int) (Tok.mk 0 0 0 []) (Tok.mk 0 0 i []) := by
        simp only [xCW, decide_eq_true hj', cond_true, if_pos hj2, Int.toNat_natCast, xCx hx, digit_eq, Option.bind_some, hD, w1]
      rw [step]
      exact snum_scan hS hN hd hD hL _ _ rfl n (i + 1) (by omega) (by omega) (by omega) (by rw [hd1, xE4 l hD])
  · simp only [cond_true]
    have hw : isWd c = true := by unfold isWd; rw [hL]; rfl
    have hq := xDP (p := isWd) (c :: l)
    have hq2 := xDP (p := isWd) l
    refine ⟨_, sword_scan hS _ _ N i (Nat.le_refl _) (by omega) (by omega), ?_⟩
    rw [hd, xDE, hL, cond_true]
    unfold wordS
    have h0 := xE4 l hw
    simp only [List.length_cons] at hq
    rw [xF7 hd (by omega) (by simp only [List.length_cons]; omega), show S.length - ((c :: l).dropWhile isWd).length - i = (c :: l).length - ((c :: l).dropWhile isWd).length from by simp only [List.length_cons]; omega]
    by_cases h8 : (c :: l).length - ((c :: l).dropWhile isWd).length ≤ 8
    · rw [decide_eq_true h8, decide_eq_false (by omega)]; rfl
    · rw [decide_eq_false h8, decide_eq_true (by omega)]; rfl
theorem stokL_eq (hS : S.length ≤ 120) (hN : 1000 < N) : ∀ (m n i : Nat) (acc : List Tok), i ≤ S.length → S.length - i < m → S.length - i < n → acc.length ≤ 60 → xDo N n S acc (i : Nat) = some (lexL m (i : Nat) acc (S.drop i)) := by
  intro m
  induction m with
  | zero => intro n i acc _ h; omega
  | succ m ih =>
    intro n i acc hi hm hn ha
    obtain ⟨n, rfl⟩ : ∃ k, n = k + 1 := ⟨n - 1, by omega⟩
    cases hd : S.drop i with
    | nil =>
      have := xFJ hd
      obtain rfl : i = S.length := by omega
      simp only [xDo, Int.lt_irrefl, decide_false, cond_false, lexL]
    | cons c l =>
      obtain ⟨h1, hx, hd1⟩ := xDf hd
      have hi' : (i : Int) < (S.length : Int) := by omega
      simp only [xDo, decide_eq_true hi', cond_true, Int.toNat_natCast, xCx hx, beq32, lexL, xB1 h1 (by omega : S.length ≤ _)]
      rw [if_pos (by omega)]
      cases h32 : c.toNat == 32
      · simp only [cond_false]
        obtain ⟨x, hx1, hx2⟩ := next_l9 (N := N) (S := S) (by omega) hN hd
        rw [hx1, Option.bind_some]
        cases ho : xF3 i (c :: l) with
        | none =>
          rw [ho] at hx2
          have hx2 : x.2 = 0 := hx2
          simp only [hx2, beq_self_eq_true, cond_true]
        | some z =>
          obtain ⟨t, r⟩ := z
          rw [ho] at hx2
          have hx2 : x = (t, (((c :: l).length - r.length : Nat) : Int)) := hx2
          subst hx2
          have hl := lexAt_len ho
          have hs : r <:+ S := by
            have : c :: l <:+ S := by rw [← hd]; exact List.drop_suffix _ _
            exact (lexAt_suf ho).trans this
          have hrl := hs.length_le
          obtain ⟨g1, g2⟩ := xD3 hd
          have ne0 : ((((c :: l).length - r.length : Nat) : Int) == 0) = false := beq_eq_false_iff_ne.2 (by omega)
          have v1 : IntKind.i64.wrap ((i : Int) + (((c :: l).length - r.length : Nat) : Int)) = ((S.length - r.length : Nat) : Int) := by rw [xCc (by omega) (by omega)]; omega
          have e60 : (((acc.length : Int) : Int) == 60) = (acc.length == 60) := beqI acc.length 60
          simp only [ne0, cond_false, e60, v1]
          cases h60 : acc.length == 60
          · have h60 : acc.length ≠ 60 := beq_eq_false_iff_ne.1 h60
            simp only [cond_false]
            rw [if_pos (by simp only [List.length_cons, List.length_nil]; unfold Lim; omega)]
            rw [ih n (S.length - r.length) (acc ++ [t]) (by omega) (by omega) (by omega) (by simp only [List.length_append, List.length_cons, List.length_nil]; omega), drop_suf hs]
            rw [show ((S.length - r.length : Nat) : Int) = (i : Int) + ((c :: l).length - r.length : Nat) from by omega]
          · rfl
      · simp only [cond_true]
        rw [ih n (i + 1) acc (by omega) (by omega) (by omega) ha, hd1]
        rfl
theorem spec_Tokenize_eq (hN : 1000 < N) (s : Str) : xEj N s = some (lex s) := by
  unfold xEj lex
  have e : decide (((s.length : Int) : Int) > 120) = decide (s.length > 120) := decide_eq_decide.2 (by omega)
  rw [e]
  cases h : decide (s.length > 120)
  · have h := of_decide_eq_false h
    simp only [cond_false]
    exact stokL_eq (S := s) (by omega) hN (s.length + 1) N 0 [] (by omega) (by omega) (by omega) (by simp)
  · rfl
end
end Go.Ab
end
section
namespace Go.Ab
set_option linter.unusedVariables false
set_option linter.unusedSimpArgs false
structure TokG (t : Tok) : Prop where
  kind : I64 t.kind
  n : I64 t.n
  pos : 0 ≤ t.pos ∧ t.pos ≤ 120
  len : t.text.length ≤ 120
  name : t.kind = 1 → ∃ (c : UInt8) (l : Str), t.text = c :: l ∧ 97 ≤ c.toNat
  sym : t.kind = 4 → ∃ (c : UInt8) (l : Str), t.text = c :: l ∧ c.toNat < 97
theorem symOk_lt {c : UInt8} (h : symOk c = true) : c.toNat < 97 := by
  unfold symOk at h
  rw [idx_any] at h
  simp only [List.any_cons, List.any_nil, Bool.or_eq_true, beq_iff_eq, Bool.or_false] at h
  have e : ∀ k : UInt8, k.toNat < 97 → k.toNat = c.toNat → c.toNat < 97 := fun k h1 h2 => by omega
  rcases h with h | h | h | h | h | h | h | h | h | h <;> exact e _ (by decide) h
theorem take_head {c : UInt8} {l : Str} {k : Nat} (h : 0 < k) : ∃ r, (c :: l).take k = c :: r := by
  obtain ⟨k, rfl⟩ : ∃ m, k = m + 1 := ⟨k - 1, by omega⟩
  exact ⟨l.take k, rfl⟩
theorem lexAt_good {p : Int} {s r : Str} {t : Tok} (hp : 0 ≤ p ∧ p ≤ 120) (hs : s.length ≤ 120) (h : xF3 p s = some (t, r)) : TokG t := by
  cases s with
  | nil => cases h
  | cons c l =>
    have d1 := xDP (p := isWd) l
    rw [xDE] at h
    cases h1 : xFD c <;> rw [h1] at h
    · cases h2 : xCr c <;> rw [h2] at h
      · cases h3 : c.toNat == 34 <;> rw [h3] at h
        · cases h4 : Lib.hasPrefix (c :: l) [61, 61] <;> rw [h4] at h
          · obtain ⟨hb, hx⟩ := xEO h
            cases hx
            exact ⟨xBt (x := 4) (by decide), xBt (x := 0) (by decide), hp, by simp, (fun h => by have h : (4 : Int) = 1 := h; omega), fun _ => ⟨c, [], rfl, symOk_lt hb⟩⟩
          · cases h
            exact ⟨xBt (x := 4) (by decide), xBt (x := 0) (by decide), hp, by simp, (fun h => by have h : (4 : Int) = 1 := h; omega), fun _ => ⟨61, [61], rfl, by decide⟩⟩
        · simp only [cond_true, cond_false] at h
          split at h
          · cases h
          · rename_i q r' he
            obtain ⟨hb, hx⟩ := xEO h
            cases hx
            simp only [List.length_cons] at hs
            refine ⟨xBt (by show (0 : Int) ≤ 3 ∧ (3 : Int) ≤ 1000; decide), xBt (by show (0 : Int) ≤ 0 ∧ (0 : Int) ≤ 1000; decide), hp, ?_, fun h => ?_, fun h => ?_⟩
            · show (l.take _).length ≤ 120
              rw [List.length_take]; omega
            · have h : (3 : Int) = 1 := h
              omega
            · have h : (3 : Int) = 4 := h
              omega
      · simp only [cond_true, cond_false] at h
        obtain ⟨hb, hx⟩ := xEO h
        cases hx
        obtain ⟨v, hv, he⟩ := numOf_inv hb
        have hn := numOf_itoa hv
        rw [← he] at hn
        refine ⟨xBt (by show (0 : Int) ≤ 2 ∧ (2 : Int) ≤ 1000; decide), ?_, hp, by simp, fun h => ?_, fun h => ?_⟩
        · show I64 (numOf _ 0 1000000000).1
          rw [hn]; unfold I64; omega
        · have h : (2 : Int) = 1 := h
          omega
        · have h : (2 : Int) = 4 := h
          omega
    · simp only [cond_true] at h
      obtain ⟨hb, hx⟩ := xEO h
      cases hx
      have hw : isWd c = true := by unfold isWd; rw [h1]; rfl
      rw [xE4 l hw]
      simp only [List.length_cons] at hs
      obtain ⟨r, hr⟩ := take_head (c := c) (l := l) (k := (c :: l).length - (l.dropWhile isWd).length) (by simp only [List.length_cons]; omega)
      refine ⟨xBt (by show (0 : Int) ≤ 1 ∧ (1 : Int) ≤ 1000; decide), xBt (by show (0 : Int) ≤ 0 ∧ (0 : Int) ≤ 1000; decide), hp, ?_, fun _ => ⟨c, r, hr, ?_⟩, fun h => ?_⟩
      · show ((c :: l).take _).length ≤ 120
        rw [List.length_take]; simp only [List.length_cons]; omega
      · unfold xFD at h1
        simp only [Bool.and_eq_true, decide_eq_true_eq] at h1
        exact h1.1
      · have h : (1 : Int) = 4 := h
        omega
theorem lexL_good : ∀ (n : Nat) (p : Int) (acc : List Tok) (s : Str), 0 ≤ p → p + s.length ≤ 120 → acc.length ≤ 60 → (∀ t ∈ acc, TokG t) → (∀ t ∈ (lexL n p acc s).1, TokG t) ∧ (lexL n p acc s).1.length ≤ 60 ∧ ((lexL n p acc s).2 = -1 ∨ (0 ≤ (lexL n p acc s).2 ∧ (lexL n p acc s).2 ≤ p + s.length)) := by
  intro n
  induction n with
  | zero => intro p acc s h1 h2 _ _; exact ⟨(fun t ht => by cases ht), by simp [lexL], .inr (by simp only [lexL]; omega)⟩
  | succ n ih =>
    intro p acc s h1 h2 h3 h4
    cases s with
    | nil => exact ⟨h4, h3, .inl rfl⟩
    | cons c l =>
      simp only [lexL]
      cases c.toNat == 32
      · simp only [cond_false]
        have hl : (c :: l).length ≤ 120 := by simp only [List.length_cons] at h2 ⊢; omega
        cases ho : xF3 p (c :: l) with
        | none => exact ⟨(fun t ht => by cases ht), by simp, .inr (by simp only; omega)⟩
        | some z =>
          obtain ⟨t, r⟩ := z
          have hg := lexAt_good (by omega) hl ho
          have hr := lexAt_len ho
          simp only
          cases h60 : acc.length == 60
          · have h60 : acc.length ≠ 60 := beq_eq_false_iff_ne.1 h60
            simp only [cond_false]
            have := ih (p + ((c :: l).length - r.length : Nat)) (acc ++ [t]) r (by omega) (by omega) (by simp only [List.length_append, List.length_cons, List.length_nil]; omega) (fun x hx => by
              rcases List.mem_append.1 hx with hx | hx
              · exact h4 x hx
              · rw [List.mem_singleton.1 hx]; exact hg)
            refine ⟨this.1, this.2.1, ?_⟩
            rcases this.2.2 with h | ⟨ha, hb⟩
            · exact .inl h
            · exact .inr ⟨ha, by omega⟩
          · exact ⟨(fun t ht => by cases ht), by simp, .inr (by simp only [cond_true]; omega)⟩
      · simp only [cond_true]
        simp only [List.length_cons] at h2
        have := ih (p + 1) acc l (by omega) (by omega) h3 h4
        refine ⟨this.1, this.2.1, ?_⟩
        rcases this.2.2 with h | ⟨ha, hb⟩
        · exact .inl h
        · exact .inr ⟨ha, by simp only [List.length_cons]; omega⟩
theorem lex_good (s : Str) : (∀ t ∈ (lex s).1, TokG t) ∧ (lex s).1.length ≤ 60 ∧ ((lex s).2 = -1 ∨ (0 ≤ (lex s).2 ∧ (lex s).2 ≤ s.length)) := by
  unfold lex
  cases h : decide (s.length > 120)
  · have h := of_decide_eq_false h
    have := lexL_good (s.length + 1) 0 [] s (by omega) (by omega) (by simp) (fun t ht => by cases ht)
    refine ⟨this.1, this.2.1, ?_⟩
    rcases this.2.2 with h | ⟨ha, hb⟩
    · exact .inl h
    · exact .inr ⟨ha, by simp only [cond_false]; omega⟩
  · have h := of_decide_eq_true h
    exact ⟨(fun t ht => by cases ht), by simp, .inr (by simp only [cond_true]; omega)⟩
theorem tw_le : ∀ ts : List Tok, (∀ t ∈ ts, TokG t) → tw ts ≤ 123 * ts.length
  | [], _ => Nat.le_refl _
  | t :: r, h => by
    have h1 := (h t List.mem_cons_self).len
    have h2 := tw_le r fun x hx => h x (List.mem_cons_of_mem _ hx)
    rw [tw_cons, List.length_cons]; omega
theorem tokG_T {T : List Tok} (h : ∀ t ∈ T, TokG t) (hl : T.length ≤ 60) : TokT 10000 T where
  len := by omega
  fit := fun t ht => ⟨(h t ht).kind, (h t ht).n, by have := (h t ht).pos; unfold I64; omega, Nat.le_trans (h t ht).len (by omega)⟩
  tw := by have := tw_le T h; omega
theorem tokG_W {T : List Tok} (h : ∀ t ∈ T, TokG t) {L : Int} (hL : 0 ≤ L) : TokW T L where
  pos := fun t ht => (h t ht).pos.1
  fin := hL
  name := fun t ht => (h t ht).name
  sym := fun t ht => (h t ht).sym
def parseT (L : Int) (T : List Tok) : Exp × Int := match pE (T.length + 1) T with
  | .err ts => (e0, offT L ts)
  | .ok e [] => bif xFI e then (e, -1) else (e0, 0)
  | .ok e (t :: _) => (e0, t.pos)
def parseP (s : Str) : Exp × Int := bif decide ((lex s).2 ≥ 0) then (e0, (lex s).2) else parseT s.length (lex s).1
theorem parse_light {T : List Tok} (hT : TokT 10000 T) {e : Exp} {r : List Tok} (h : pE (T.length + 1) T = .ok e r) : e.Fit 10000 ∧ e.size ≤ 10000 := by
  obtain ⟨⟨h1, h2⟩, _⟩ := xDX (K := 10000) (T.length + 1) T e r hT.fit hT.tw h
  have := hT.tw
  exact ⟨h2, by omega⟩
theorem gp_at {T : List Tok} {t : Tok} {q : List Tok} (h : t :: q <:+ T) : T.length - (t :: q).length < T.length ∧ List.getD T (T.length - (t :: q).length) Ty.tok.dflt = t := by
  obtain ⟨pre, rfl⟩ := h
  have e : (pre ++ t :: q).length - (t :: q).length = pre.length := by rw [List.length_append]; omega
  rw [e]
  exact ⟨by simp, by simp [List.getD]⟩
theorem impl_parseT {N : Nat} {T : List Tok} {s : Str} (hT : TokT 10000 T) (hl : T.length ≤ 60) (hN : 20000 < N) (hv : ∀ e r, pE (T.length + 1) T = .ok e r → xCD N e = some (xFI e)) (ht : xEh N s = some (T, -1)) :
    xDr N s = some (parseT s.length T) := by
  have hs := pE_sim (N := N) hT (by omega) (by omega) (by omega) (T.length + 1) N (by omega) T (List.suffix_refl T) (by omega)
  have hx : xEr N (Psr.mk T 0 (-1)) = (xAb N N).c_impl_parser_expr (gp T T) := by
    unfold xEr gp
    rw [Nat.sub_self]; rfl
  unfold xDr parseT
  rw [ht, Option.bind_some]
  simp only [show decide ((-1 : Int) ≥ 0) = false from rfl, cond_false, hx]
  cases hp : pE (T.length + 1) T with
  | err ts =>
    rw [hp] at hs
    obtain ⟨a, p, h1, h2, h3, h4⟩ := hs
    rw [h1, Option.bind_some]
    have hnn : 0 ≤ p.bad := by rw [h3]; omega
    rw [decide_eq_false (by omega : ¬ p.bad < 0), cond_false]
    have hle := h4.length_le
    cases ts with
    | nil => rw [decide_eq_true (by rw [h3]; simp : p.bad ≥ (T.length : Int)), cond_true]; rfl
    | cons t q =>
      obtain ⟨g1, g2⟩ := gp_at h4
      rw [decide_eq_false (by rw [h3]; omega), cond_false, decide_eq_true (by omega : p.bad ≥ 0), cond_true, if_pos (by rw [h3]; omega), h3, Int.toNat_natCast, g2]; rfl
  | ok e ts =>
    rw [hp] at hs
    obtain ⟨h1, h2⟩ := hs
    rw [h2, Option.bind_some]
    rw [gp_bad, decm1, cond_true]
    cases ts with
    | nil =>
      have e1 : decide ((gp T []).pos < (T.length : Int)) = false := decide_eq_false (by simp [gp])
      rw [e1, cond_false, decide_eq_false (by omega : ¬ (-1 : Int) ≥ (T.length : Int)), cond_false]
      rw [show decide ((-1 : Int) ≥ 0) = false from rfl, cond_false, hv e [] hp, Option.bind_some]
      show _ = some (bif xFI e then (e, -1) else (e0, 0))
      cases xFI e <;> rfl
    | cons t q =>
      obtain ⟨g1, g2⟩ := gp_at h1
      have e1 : (gp T (t :: q)).pos = ((T.length - (t :: q).length : Nat) : Int) := rfl
      rw [e1, decide_eq_true (by omega), cond_true, decide_eq_false (by omega), cond_false, decide_eq_true (by omega), cond_true, if_pos (by omega), Int.toNat_natCast, g2]
theorem spec_parseT {N : Nat} {T : List Tok} {s : Str} (hT : TokT 10000 T) (hW : TokW T s.length) (hl : T.length ≤ 60) (hN : 20000 < N) (hv : ∀ e r, pE (T.length + 1) T = .ok e r → xCG N e = some (xFI e)) (ht : xEj N s = some (T, -1)) :
    xDs N s = some (parseT s.length T) := by
  have hs := pE_simR (N := N) hW hT (by omega) (by omega) (by omega) (T.length + 1) N (by omega) T (List.suffix_refl T) (by omega)
  have hx : xFs N (Rdr.mk T 0 (s.length : Int) (-1)) = (xAa N N).c_spec_l11Expr (gr T s.length T) := by
    unfold xFs gr
    rw [Nat.sub_self]; rfl
  unfold xDs parseT
  rw [ht, Option.bind_some]
  simp only [show decide ((-1 : Int) ≥ 0) = false from rfl, cond_false, hx]
  cases hp : pE (T.length + 1) T with
  | err ts =>
    rw [hp] at hs
    obtain ⟨a, p, h1, h2⟩ := hs
    rw [h1, Option.bind_some]
    have hnn := h2.nn hW
    rw [decide_eq_false (by omega : ¬ p.bad < 0), cond_false, decide_eq_true (by omega : p.bad ≥ 0), cond_true, h2.2.2.1]
  | ok e ts =>
    rw [hp] at hs
    obtain ⟨h1, h2⟩ := hs
    rw [h2, Option.bind_some]
    rw [gr_bad, decm1, cond_true]
    cases ts with
    | nil =>
      have e1 : decide ((gr T s.length []).i < (T.length : Int)) = false := decide_eq_false (by simp [gr])
      rw [e1, cond_false]
      rw [show decide ((-1 : Int) ≥ 0) = false from rfl, cond_false, hv e [] hp, Option.bind_some]
      show _ = some (bif xFI e then (e, -1) else (e0, 0))
      cases xFI e <;> rfl
    | cons t q =>
      obtain ⟨g1, g2⟩ := gp_at h1
      have e1 : (gr T s.length (t :: q)).i = ((T.length - (t :: q).length : Nat) : Int) := rfl
      obtain ⟨p, f1, f2⟩ := sfail_eq (L := s.length) N h1
      have hnn := f2.nn hW
      rw [e1, decide_eq_true (by omega), cond_true, f1, Option.bind_some, decide_eq_true (by omega : p.bad ≥ 0), cond_true, f2.2.2.1]; rfl
theorem parse_eq (s : Str) : Big fun N => xDr N s = some (parseP s) ∧ xDs N s = some (parseP s) := by
  obtain ⟨g1, g2, g3⟩ := lex_good s
  have hT := tokG_T g1 g2
  have hW := tokG_W g1 (L := s.length) (by omega)
  have hv : Big fun N => ∀ e r, pE ((lex s).1.length + 1) (lex s).1 = .ok e r → xCD N e = some (xFI e) ∧ xCG N e = some (xFI e) := by
    cases hp : pE ((lex s).1.length + 1) (lex s).1 with
    | err ts => exact Big.of fun N e r h => by cases h
    | ok e ts =>
      obtain ⟨h1, h2⟩ := parse_light hT hp
      refine (validX_eq (K := 10000) (by omega) h1 (by omega)).imp fun N h e' r' he => ?_
      cases he
      exact h
  refine (hv.and (big_lt 20000)).imp fun N ⟨h, hN⟩ => ?_
  have t1 := impl_Tokenize_eq (N := N) (by omega) s
  have t2 := spec_Tokenize_eq (N := N) (by omega) s
  unfold parseP
  rcases g3 with g3 | ⟨g3, g4⟩
  · have e : lex s = ((lex s).1, -1) := by rw [← g3]
    rw [e] at t1 t2
    rw [g3]
    simp only [show decide ((-1 : Int) ≥ 0) = false from rfl, cond_false]
    exact ⟨impl_parseT hT g2 hN (fun e r he => (h e r he).1) t1, spec_parseT hT hW g2 hN (fun e r he => (h e r he).2) t2⟩
  · unfold xDr xDs
    rw [t1, t2]
    simp only [Option.bind_some, decide_eq_true g3, cond_true]
    exact ⟨trivial, trivial⟩
theorem impl_ParseError_eq {N : Nat} {s : Str} (h : xDr N s = some (parseP s)) : xD7 N s = some (decide ((parseP s).2 ≥ 0)) := by
  unfold xD7; rw [h]; rfl
theorem spec_ParseError_eq {N : Nat} {s : Str} (h : xDs N s = some (parseP s)) : xEc N s = some (decide ((parseP s).2 ≥ 0)) := by
  unfold xEc; rw [h]; rfl
theorem xFe (a0 : Str) (f0 : ∀ z ∈ [CV.str a0], DFit z.toD) : ∃ N, xDB N a0 = some true := by
  refine (parse_eq a0).imp (fun N ⟨h1, h2⟩ => ?_) |>.get
  simp only [xDB, impl_ParseError_eq h1, spec_ParseError_eq h2, Option.bind_some, beq_self_eq_true, Bool.not_true, cond_false]
  cases decide (((a0.length : Int) : Int) > 1048576) <;> rfl
end Go.Ab
end
section
namespace Go.Proofs.YthbobcapimmnhaaGreatDoor
open Go.Ab Go.ChangeShapes Go.WideShapes Go.ChangeAt Go.RowKit
set_option linter.unusedVariables false
theorem own : ownKnob Tryz.prog.godebug = none := by kernel_rfl
theorem laidOut : laidOutB Tryz.prog = true := by kernel_rfl
theorem xFZ : ktChk Tryz.prog [] = true := by kernel_rfl
theorem fnExactParseError_tab {W : World} (h : laidMetH Tryz.prog Rows.fnExactParseErrorRow.laid W) : Go.Lib.TabIs Tryz.prog W Go.Ab.T.p10 .u64 Go.Lib.pow10Tab := by
  rw [MakeChecks.laidMetH_plain _ _ _ (by kernel_rfl)] at h
  exact Go.Lib.tabIs_of_head (g := 3) (t := 137) (e := 123) (n := 20) (by kernel_rfl) (by kernel_rfl) Tryz.underlying137 Tryz.underlying123 (by kernel_rfl) (by kernel_rfl) h.tail.tail
theorem fnExactParseError_ev {W : World} (h : laidMetH Tryz.prog Rows.fnExactParseErrorRow.laid W) : (∃ t1 p1, W.var? Tryz.prog "strconv.ErrSyntax" = some #[.iface t1 p1]) ∧ ∃ t2 p2, W.var? Tryz.prog "strconv.ErrRange" = some #[.iface t2 p2] := by
  rw [MakeChecks.laidMetH_plain _ _ _ (by kernel_rfl)] at h
  have star : "*" ++ "errors.errorString" = "*errors.errorString" := by decide
  have row : ∀ u, Tryz.prog.typeName? 3 u = some "*errors.errorString" → u = 146 := fun u hu => typeName_ptr_named (nm := "errors.errorString") (by rw [star]; kernel_rfl) (by kernel_rfl) (by decide) u (by rw [star]; exact hu)
  obtain ⟨a_hs, _, hs, _⟩ := laid_sentinel (g := 1) (ti := 99) (tp := 146) (te := 148) (ts := 9) h.tail.tail.tail.tail (by kernel_rfl) (by kernel_rfl) Tryz.underlying99 row Tryz.underlying146 Tryz.underlying148 rfl rfl Tryz.underlying9 (by kernel_rfl) (by kernel_rfl)
  obtain ⟨a_hr, _, hr, _⟩ := laid_sentinel (g := 2) (ti := 99) (tp := 146) (te := 148) (ts := 9) h.tail.tail.tail (by kernel_rfl) (by kernel_rfl) Tryz.underlying99 row Tryz.underlying146 Tryz.underlying148 rfl rfl Tryz.underlying9 (by kernel_rfl) (by kernel_rfl)
  exact ⟨⟨_, _, hs⟩, _, _, hr⟩
set_option maxRecDepth 100000 in
theorem fnExactParseError_lifted (os : Os) (started : os.Started) (H : Type) (enc : TypeId × Value → H) :
    ReturnsInHanded {} Tryz.checked os 3 .any (fun w args => (Rows.fnExactParseErrorSpec.pre enc Tryz.prog Tryz.f3 Rows.fnExactParseErrorRow.domain false w args ∧ laidMetH Tryz.prog Rows.fnExactParseErrorRow.laid w) ∧ sizedMet enc Tryz.prog Tryz.f3 (OpenSpec.ofChange Rows.fnExactParseErrorSpec) false w args)
      (Rows.fnExactParseErrorSpec.post enc Tryz.prog Tryz.f3 false true false false) := by
  refine returnsInHanded_of_change_and (C := Tryz.checked) (X := fun w _ => laidMetH Tryz.prog Rows.fnExactParseErrorRow.laid w) (fun _ _ _ hh h => h.of_heap hh) own started (by kernel_rfl) Tryz.func3
    (ChangeSpec.witness_shaped (enc := enc) (C := Tryz.checked) (os := os) (X := fun w _ => laidMetH Tryz.prog Rows.fnExactParseErrorRow.laid w) false (World.laidAll Tryz.prog os Rows.fnExactParseErrorRow.laid) #[.string ByteArray.empty] 8 (World.laidAll_os _ _ _)
      (World.shaped_of_ZipB (by kernel_rfl) (by kernel_rfl)) (by kernel_rfl) (by kernel_rfl) (by kernel_rfl)
      (by rw [MakeChecks.laidMetH_plain _ _ _ (by kernel_rfl)]; exact laidMet_laidAll _ (by kernel_rfl) (by kernel_rfl))) ?_
  intro W base args ds gs before hval0 hW hcnd _ hL _
  obtain ⟨g0, o0, hgo, hall⟩ := tab_obj (fnExactParseError_tab hL)
  obtain ⟨⟨u1, u2, hv1⟩, u3, u4, hv2⟩ := fnExactParseError_ev hL
  obtain ⟨g3, o3, hgo3, hall3⟩ := var_obj hv1
  obtain ⟨g4, o4, hgo4, hall4⟩ := var_obj hv2
  letI : Inhabited Lb := ⟨⟨[(g0, o0), (g3, o3), (g4, o4)]⟩⟩
  haveI : Nonempty T.Tab10 := ⟨fun w hw => hall w (hw (g0, o0) List.mem_cons_self)⟩
  haveI : Nonempty T.ErrVars := ⟨fun w hw => ⟨⟨u1, u2, hall3 w (hw (g3, o3) (List.mem_cons_of_mem _ List.mem_cons_self))⟩, u3, u4, hall4 w (hw (g4, o4) (List.mem_cons_of_mem _ (List.mem_cons_of_mem _ List.mem_cons_self)))⟩⟩
  have hlb : ∀ x ∈ laidB, W.heap[x.1]? = some x.2 := fun x hx => by
    have hx : x ∈ [(g0, o0), (g3, o3), (g4, o4)] := hx
    simp only [List.mem_cons, List.not_mem_nil, or_false] at hx
    rcases hx with rfl | rfl | rfl <;> first | exact hgo | exact hgo3 | exact hgo4
  have hval : ∀ (j : Nat) t v, Tryz.f3.params[j]? = some t → args[j]? = some v → Value.okWide Tryz.prog W .any base t v := hval0
  have hW' := hW
  obtain ⟨p, q, hA0, hV, rfl, hfz, hnd⟩ := hW
  have hA : DataW.TrodAll enc Tryz.prog W 0 (fun _ => true) true Tryz.f3.params.toList args.toList ds p := hA0
  rw [Tryz.params3] at hA hval
  obtain ⟨v0, vs0, d0, ds0, p0, q0, hargs, rfl, rfl, h0, r0⟩ := trodAll_cons hA
  obtain ⟨rfl, rfl, rfl⟩ := trodAll_nil r0
  obtain rfl : args = #[v0] := by cases args; simp_all
  obtain ⟨rfl, rfl⟩ := trodVars_none hV
  have lt0 : ∀ x ∈ p0, x.block < W.heap.size := by obtain ⟨m, hm⟩ := h0; exact DataW.trod_lt m _ _ _ hm
  obtain ⟨z0, e0, f0, vr0⟩ := vr_of xFZ (g := false) (t := 9) (ns := [.inl .str]) (by kernel_rfl) (hval 0 9 v0 rfl rfl) h0
  obtain ⟨x0_0, _, rfl, e0_0⟩ := AreOf.str_inv e0
  obtain rfl := e0_0.nil_inv
  obtain ⟨N, hF⟩ := xFe x0_0 f0
  clear hA0 hval0
  refine (calls_of T.fk3 (T.laws_FnExactParseError_ok hF) (W := W) (args := #[v0]) ⟨vr0 _, trivial⟩ hlb).mono fun e W' ⟨he, bel⟩ => ?_
  subst he
  exact ⟨_, rfl, _, _, _, [], _, [], hW', trodAll_mk1 (shut_bool Tryz.underlying4 _), (trodAll_cons_mk (Below.trod laidOut (by kernel_rfl) (of_decide_eq_true (by kernel_rfl)) h0 bel lt0) trodAll_mk0), rfl, bel.frame _, fun h => by cases h⟩
theorem fnExactParseError_proved : Rows.FnExactParseErrorSaid :=
  OpenClaim.holds_of_wide 3 Tryz.f3 rfl rfl rfl rfl rfl rfl rfl ⟨rfl, rfl, rfl, rfl, rfl⟩ rfl rfl rfl rfl rfl (by kernel_rfl) Tryz.func3 (by kernel_rfl)
    (of_decide_eq_true (by kernel_rfl)) (by unfold Func.isWrapper; first | (rw [if_pos (by decide +kernel)]; kernel_rfl) | (rw [if_neg (by decide +kernel)]; exact ⟨rfl, rfl⟩))
    (fun os started H enc _ => fnExactParseError_lifted os started H enc)
theorem fnExactParseError_card : Rows.FnExactParseErrorCardSaid :=
  Claim7.holds_tied_plain_at .later [] Rows.fnExactParseErrorCard.laidKinds true Rows.fnExactParseErrorCard.stood.harness Rows.fnExactParseErrorCard.stood.looks fnExactParseError_proved (fun _ h => by cases h) (by kernel_rfl) (fun _ h => by cases h) fnExactParseError_row_tie rfl ⟨rfl, rfl⟩ (by kernel_rfl) rfl
    (fun f fn hf hfn => by
      obtain rfl : f = 3 := Option.some.inj ((show Tryz.prog.funcNamed Rows.fnExactParseErrorRow.func = some 3 by kernel_rfl).symm.trans hf) |>.symm
      obtain rfl : fn = Tryz.f3 := (Option.some.inj (Tryz.func3.symm.trans hfn)).symm
      exact ⟨by kernel_rfl, fun j t ht => by
        rw [Tryz.params3] at ht
        have hm : t ∈ [9] := by simpa using Array.mem_of_getElem? ht
        have hall : ([9].all fun u => !Tryz.prog.wantsStandIn u) = true := by kernel_rfl
        exact (show Tryz.prog.wantsStandIn t = false by simpa using List.all_eq_true.1 hall t hm)⟩)
    (by kernel_rfl)
end Go.Proofs.YthbobcapimmnhaaGreatDoor
end
