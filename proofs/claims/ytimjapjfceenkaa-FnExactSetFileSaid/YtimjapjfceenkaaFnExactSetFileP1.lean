/- The statement FnExactSetFile holds: plain functions, certificates, laws. Conditions: none. -/
import Derived.Test.YtimjapjfceenkaaL2
import Derived.Test.YtimjapjfceenkaaFnExactSetFileP0
set_option linter.all false
section
namespace Go.Ab
set_option linter.unusedVariables false
set_option linter.unusedSimpArgs false
def numOk (n : Int) : Bool := decide ((-1000000000 : Int) ≤ n) && decide (n ≤ 1000000000)
theorem spec_l3Number_eq (N : Nat) (n : Int) : spec_l3Number N n = some (numOk n) := by simp [spec_l3Number, spec_l1In_eq, numOk]
theorem impl_isNumber_eq (N : Nat) (n : Int) : impl_isNumber N n = some (numOk n) := by simp [impl_isNumber, impl_within_eq, numOk]
def lessPrev : Option Str → Str → Bool
  | none, _ => true
  | some p, s => Op.bytesLess p s
def filesG : List Fil → Option Str → Bool
  | [], _ => true
  | x :: r, p => validName x.name && (numOk x.n && (lessPrev p x.name && filesG r (some x.name)))
def prevOf (xs : List Fil) (i : Nat) : Option Str := if i = 0 then none else (xs[i - 1]?).map Fil.name
theorem prev_succ {xs : List Fil} {i : Nat} {x : Fil} (h : xs[i]? = some x) : prevOf xs (i + 1) = some x.name := by simp [prevOf, h]
theorem prev_pos {xs : List Fil} {i : Nat} (h0 : i ≠ 0) (h : i < xs.length) (d : Fil) : prevOf xs i = some (xs.getD (i - 1) d).name := by
  have : i - 1 < xs.length := by omega
  simp [prevOf, h0, List.getD, this]
theorem wrap_pred {i len : Nat} (h0 : i ≠ 0) (h : i < len) (hl : len ≤ 9223372036854775807) : IntKind.i64.wrap ((i : Int) - 1) = ((i - 1 : Nat) : Int) := by
  rw [wrap_i64 (by omega) (by omega)]; omega
theorem spec_l14Files_eq {N K : Nat} {xs : List Fil} (hx : LFit K (Fil.Fit K) xs) (hK : 24 ≤ K ∧ K ≤ 4611686018427387904) (hN : K < N) : spec_l14Files N xs = some (filesG xs none && decide ((xs.length : Int) ≤ 4)) :=
  forList (L := fun n i _ => spec_l14Files_b2 N n xs i) xs (fun l p => filesG l p && decide ((xs.length : Int) ≤ 4)) (fun i p => p = prevOf xs i) (fun n p _ => by simp [spec_l14Files_b2, filesG])
    (fun i x l p hd hi hxi hp => by
      have hl : xs.length ≤ K := hx.1
      have hi' : (i : Int) < (xs.length : Int) := by omega
      have hp : p = prevOf xs i := hp
      have hname : x.name.length ≤ K := (hx.2 x (List.mem_of_getElem? hxi)).1
      have e1 := spec_IsValidName_eq (s := x.name) (by omega) (by omega : _ < N) (by omega)
      have base : ∀ n, spec_l14Files_b2 N (n + 1) xs i = (bif (!validName x.name) then some false else bif (!numOk x.n) then some false else
          bif decide ((i : Int) > 0) then (if (0 : Int) ≤ IntKind.i64.wrap ((i : Int) - 1) ∧ IntKind.i64.wrap ((i : Int) - 1) < xs.length then bif (!(Op.bytesLess (Fil.name (List.getD xs (Int.toNat (IntKind.i64.wrap ((i : Int) - 1))) Ty.fil.dflt)) x.name)) then some false else spec_l14Files_b2 N n xs ((i + 1 : Nat) : Int) else none) else spec_l14Files_b2 N n xs ((i + 1 : Nat) : Int)) := by
        intro n
        simp only [spec_l14Files_b2, decide_eq_true hi', cond_true, Int.toNat_natCast, getD_of hxi, e1, Option.bind_some, spec_l3Number_eq, wrap_succ hi (by omega : xs.length ≤ _)]
        rw [if_pos (by omega)]
      cases h1 : validName x.name
      · exact .inr fun n => by rw [base, h1]; simp [filesG, h1]
      cases h2 : numOk x.n
      · exact .inr fun n => by rw [base, h1, h2]; simp [filesG, h1, h2]
      by_cases h0 : i = 0
      · subst h0
        exact .inl ⟨some x.name, (prev_succ hxi).symm, by simp [filesG, h1, h2, hp, prevOf, lessPrev], fun n => by rw [base, h1, h2]; simp⟩
      · have hpp := prev_pos h0 hi Ty.fil.dflt
        cases h3 : Op.bytesLess (xs.getD (i - 1) Ty.fil.dflt).name x.name
        · refine .inr fun n => ?_
          rw [base, h1, h2, decide_eq_true (by omega), wrap_pred h0 hi (by omega), Int.toNat_natCast, h3]
          simp only [Bool.not_true, Bool.not_false, cond_true, cond_false]
          rw [if_pos (by omega)]
          simp only [filesG, h1, h2, hp, hpp, lessPrev, h3, Bool.true_and, Bool.false_and]
        · refine .inl ⟨some x.name, (prev_succ hxi).symm, by simp only [filesG, h1, h2, hp, hpp, lessPrev, h3, Bool.true_and, Bool.false_and], fun n => ?_⟩
          rw [base, h1, h2, decide_eq_true (by omega), wrap_pred h0 hi (by omega), Int.toNat_natCast, h3]
          simp only [Bool.not_true, Bool.not_false, cond_true, cond_false]
          rw [if_pos (by omega)]) N 0 none rfl (by omega) (by have : xs.length ≤ K := hx.1; omega)
def wldOk (w : Wld) : Bool := filesG w.files none && ((decide ((0 : Int) ≤ w.clock) && decide (w.clock ≤ 1000)) && ((decide ((0 : Int) ≤ w.seed) && decide (w.seed ≤ 1000000)) && decide ((w.files.length : Int) ≤ 4)))
theorem spec_IsValidWorld_eq {N K : Nat} {w : Wld} (h : w.Fit K) (hK : 24 ≤ K ∧ K ≤ 4611686018427387904) (hN : K < N) : spec_IsValidWorld N w = some (wldOk w) := by
  unfold spec_IsValidWorld wldOk
  rw [spec_l1In_eq, spec_l1In_eq, spec_l14Files_eq h.2.2 hK hN]
  simp only [Option.bind_some]
  cases (decide ((0 : Int) ≤ w.clock) && decide (w.clock ≤ 1000)) <;> cases (decide ((0 : Int) ≤ w.seed) && decide (w.seed ≤ 1000000)) <;> cases filesG w.files none <;> cases decide ((w.files.length : Int) ≤ 4) <;> rfl
theorem impl_IsValidWorld_eq {N K : Nat} {w : Wld} (h : w.Fit K) (hK : 24 ≤ K ∧ K ≤ 4611686018427387904) (hN : K < N) : impl_IsValidWorld N w = some (wldOk w) :=
  forList (L := fun n i _ => impl_IsValidWorld_b2 N n w.files w.files.length i w) w.files
    (fun l p => filesG l p && ((decide ((0 : Int) ≤ w.clock) && decide (w.clock ≤ 1000)) && ((decide ((0 : Int) ≤ w.seed) && decide (w.seed ≤ 1000000)) && decide ((w.files.length : Int) ≤ 4)))) (fun i p => p = prevOf w.files i)
    (fun n p _ => by
      simp only [impl_IsValidWorld_b2, Int.lt_irrefl, decide_false, cond_false, impl_within_eq, Option.bind_some, filesG, Bool.true_and]
      cases (decide ((0 : Int) ≤ w.clock) && decide (w.clock ≤ 1000)) <;> cases (decide ((0 : Int) ≤ w.seed) && decide (w.seed ≤ 1000000)) <;> rfl)
    (fun i x l p hd hi hxi hp => by
      have hx := h.2.2
      have hl : w.files.length ≤ K := hx.1
      have hi' : (i : Int) < (w.files.length : Int) := by omega
      have hp : p = prevOf w.files i := hp
      have hname : x.name.length ≤ K := (hx.2 x (List.mem_of_getElem? hxi)).1
      have e1 := impl_IsValidName_eq (s := x.name) (by omega) (by omega : _ < N)
      have base : ∀ n, impl_IsValidWorld_b2 N (n + 1) w.files w.files.length i w = (bif (!validName x.name) then some false else bif (!numOk x.n) then some false else
          bif decide ((i : Int) > 0) then (if (0 : Int) ≤ IntKind.i64.wrap ((i : Int) - 1) ∧ IntKind.i64.wrap ((i : Int) - 1) < w.files.length then bif (!(Op.bytesLess (Fil.name (List.getD w.files (Int.toNat (IntKind.i64.wrap ((i : Int) - 1))) Ty.fil.dflt)) x.name)) then some false else impl_IsValidWorld_b2 N n w.files w.files.length ((i + 1 : Nat) : Int) w else none) else impl_IsValidWorld_b2 N n w.files w.files.length ((i + 1 : Nat) : Int) w) := by
        intro n
        simp only [impl_IsValidWorld_b2, decide_eq_true hi', cond_true, Int.toNat_natCast, getD_of hxi, e1, Option.bind_some, impl_isNumber_eq, wrap_succ hi (by omega : w.files.length ≤ _)]
        rw [if_pos (by omega)]
      cases h1 : validName x.name
      · exact .inr fun n => by rw [base, h1]; simp [filesG, h1]
      cases h2 : numOk x.n
      · exact .inr fun n => by rw [base, h1, h2]; simp [filesG, h1, h2]
      by_cases h0 : i = 0
      · subst h0
        exact .inl ⟨some x.name, (prev_succ hxi).symm, by simp [filesG, h1, h2, hp, prevOf, lessPrev], fun n => by rw [base, h1, h2]; simp⟩
      · have hpp := prev_pos h0 hi Ty.fil.dflt
        cases h3 : Op.bytesLess (w.files.getD (i - 1) Ty.fil.dflt).name x.name
        · refine .inr fun n => ?_
          rw [base, h1, h2, decide_eq_true (by omega), wrap_pred h0 hi (by omega), Int.toNat_natCast, h3]
          simp only [Bool.not_true, Bool.not_false, cond_true, cond_false]
          rw [if_pos (by omega)]
          simp only [filesG, h1, h2, hp, hpp, lessPrev, h3, Bool.true_and, Bool.false_and]
        · refine .inl ⟨some x.name, (prev_succ hxi).symm, by simp only [filesG, h1, h2, hp, hpp, lessPrev, h3, Bool.true_and, Bool.false_and], fun n => ?_⟩
          rw [base, h1, h2, decide_eq_true (by omega), wrap_pred h0 hi (by omega), Int.toNat_natCast, h3]
          simp only [Bool.not_true, Bool.not_false, cond_true, cond_false]
          rw [if_pos (by omega)]) N 0 none rfl (by omega) (by have : w.files.length ≤ K := h.2.2.1; omega)
theorem markText_some {N : Nat} (hN : 274877906944 < N) {k : Int} (h0 : 0 ≤ k) (h1 : k ≤ 137438953472) : ∃ t, laws_markText N k = some t := by
  unfold laws_markText
  cases decide (k ≤ 0)
  · rw [cond_false]
    obtain ⟨r, _, hr⟩ := whileLoop (L := fun n (s : Int × Str) => laws_markText_b4 N n s.1 s.2) (fun s => s.1.toNat) (fun s => 0 ≤ s.1 ∧ (s.2.length : Int) + s.1 ≤ 137438953472) (fun _ => True) (fun s hs => by
      obtain ⟨x, t⟩ := s
      obtain ⟨g0, g1⟩ := hs
      have g0 : 0 ≤ x := g0
      have g1 : (t.length : Int) + x ≤ 137438953472 := g1
      by_cases hx : x > 0
      · have hq : Int.tdiv x 10 = x / 10 := Int.tdiv_eq_ediv_of_nonneg g0
        refine .inl ⟨(IntKind.i64.wrap (Int.tdiv x 10), (List.map (fun n => UInt8.ofNat (Int.toNat n)) [(IntKind.u8.wrap ((IntKind.i64.wrap (48 + (Int.tmod x 10)))))]) ++ t), ?_, ?_, fun n => ?_⟩
        · show 0 ≤ IntKind.i64.wrap (Int.tdiv x 10) ∧ _
          rw [hq, wrap_i64 (by omega) (by omega)]
          simp only [List.map_cons, List.map_nil, List.cons_append, List.nil_append, List.length_cons]
          omega
        · show (IntKind.i64.wrap (Int.tdiv x 10)).toNat < x.toNat
          rw [hq, wrap_i64 (by omega) (by omega)]
          omega
        · simp only [laws_markText_b4, decide_eq_true hx, cond_true]
          rw [if_pos (by simp only [List.map_cons, List.map_nil, List.length_cons, List.length_nil]; unfold Lim; omega)]
      · refine .inr ⟨[109] ++ t, trivial, fun n => ?_⟩
        simp only [laws_markText_b4, decide_eq_false hx, cond_false]
        rw [if_pos (by simp only [List.length_cons, List.length_nil]; unfold Lim; omega)]) N (k, []) ⟨h0, by simpa using h1⟩ (by show k.toNat < N; omega)
    exact ⟨r, hr⟩
  · exact ⟨_, rfl⟩
def cFil (_ : Fil) : Nat := 2
theorem cFil_sum (xs : List Fil) : (xs.map cFil).sum = 2 * xs.length := by
  induction xs with
  | nil => rfl
  | cons x l ih => simp only [List.map_cons, List.sum_cons, ih, List.length_cons, cFil]; omega
theorem markFileS_held {N : Nat} (hN : 274877906944 < N) {xs : List Fil} {k : Int} (h0 : 0 ≤ k) (h1 : k + ((xs.map cFil).sum : Nat) ≤ 137438953472) :
    ∃ ys, ys.length = xs.length ∧ laws_markFileS N xs k = some (k + ((xs.map cFil).sum : Nat), ys) ∧ laws_heldFileS N ys k = some (k + ((xs.map cFil).sum : Nat)) := by
  have hlen : xs.length ≤ 137438953472 := by
    have := cFil_sum xs
    omega
  refine markHeld (Lm := fun n xs k i => laws_markFileS_b2 N n xs k i) (Lh := fun n ys k i => laws_heldFileS_b2 N n ys k i) (c := cFil) (fun n xs k hl => by simp [laws_markFileS_b2]) (fun n ys k hl => by simp [laws_heldFileS_b2])
    (fun x hx k hk hB => ?_) h1 (by omega)
  have hc : cFil x = 2 := rfl
  rw [hc] at hB ⊢
  obtain ⟨t, ht⟩ := markText_some hN (k := k) (by omega) (by omega)
  refine ⟨⟨t, k + 1⟩, fun n xs' i hl hxi => ?_, fun n ys i hl hyi => ?_⟩
  · have hi := (List.getElem?_eq_some_iff.1 hxi).1
    have hi' : (i : Int) < (xs'.length : Int) := by omega
    simp only [laws_markFileS_b2, decide_eq_true hi', cond_true, Int.toNat_natCast, getD_of hxi, ht, Option.bind_some, List.length_set, getD_set_self hi, List.set_set, wrap_succ hi (by omega : xs'.length ≤ _)]
    rw [if_pos (by omega), if_pos (by omega), wrap_i64 (x := k + 1) (by omega) (by omega), wrap_i64 (x := k + 1 + 1) (by omega) (by omega)]
    congr 1
    omega
  · have hi := (List.getElem?_eq_some_iff.1 hyi).1
    have hi' : (i : Int) < (ys.length : Int) := by omega
    simp only [laws_heldFileS_b2, decide_eq_true hi', cond_true, Int.toNat_natCast, getD_of hyi, ht, Option.bind_some, wrap_succ hi (by omega : ys.length ≤ _), wrap_i64 (x := k + 1) (by omega) (by omega), wrap_i64 (x := k + 1 + 1) (by omega) (by omega)]
    rw [if_pos (by omega)]
    simp only [beq_self_eq_true, Bool.not_true, cond_false, bne_self_eq_false]
    congr 1
    omega
theorem markWorld_held {N : Nat} (hN : 274877906944 < N) {w : Wld} (h1 : w.files.length ≤ 10000000) :
    ∃ k ys, 0 ≤ k ∧ ys.length = w.files.length ∧ laws_markWorld N w 1 = some (k, ys) ∧ laws_heldWorld N (Wld.mk w.clock w.seed ys) 1 = some k := by
  have hs := cFil_sum w.files
  obtain ⟨ys, a1, a2, a3⟩ := markFileS_held hN (xs := w.files) (k := 1) (by omega) (by omega)
  refine ⟨1 + (((w.files.map cFil).sum : Nat) : Nat), ys, by omega, a1, ?_, ?_⟩
  · simp only [laws_markWorld, a2, Option.bind_some]
    rw [if_pos a1]
  · simp only [laws_heldWorld, a3, Option.bind_some]
    rw [decide_eq_false (by omega)]; rfl
end Go.Ab
end
section
namespace Go.Ab
set_option linter.unusedVariables false
set_option linter.unusedSimpArgs false
theorem bl_irrefl : ∀ x : Str, Op.bytesLess x x = false
  | [] => rfl
  | a :: x => by simp [Op.bytesLess, bl_irrefl x]
theorem bl_trans : ∀ {x y z : Str}, Op.bytesLess x y = true → Op.bytesLess y z = true → Op.bytesLess x z = true
  | _, [], _, h, _ => by simp [Op.bytesLess] at h
  | _, _ :: _, [], _, h => by simp [Op.bytesLess] at h
  | [], _ :: _, _ :: _, _, _ => rfl
  | a :: x, b :: y, c :: z, h, h' => by
    simp only [Op.bytesLess, Bool.or_eq_true, Bool.and_eq_true, decide_eq_true_eq, beq_iff_eq] at h h' ⊢
    rcases h with h | ⟨rfl, h⟩
    · rcases h' with h' | ⟨rfl, h'⟩
      · exact .inl (UInt8.lt_trans h h')
      · exact .inl h
    · rcases h' with h' | ⟨rfl, h'⟩
      · exact .inl h'
      · exact .inr ⟨rfl, bl_trans h h'⟩
theorem bl_total : ∀ {x y : Str}, Op.bytesLess x y = false → x ≠ y → Op.bytesLess y x = true
  | [], [], _, h => absurd rfl h
  | [], _ :: _, h, _ => by simp [Op.bytesLess] at h
  | _ :: _, [], _, _ => rfl
  | a :: x, b :: y, h, h' => by
    simp only [Op.bytesLess, Bool.or_eq_false_iff, decide_eq_false_iff_not, Bool.and_eq_false_imp, beq_iff_eq, Bool.or_eq_true, Bool.and_eq_true, decide_eq_true_eq] at h ⊢
    by_cases e : a = b
    · subst e
      exact .inr ⟨rfl, bl_total (h.2 rfl) fun e => h' (by rw [e])⟩
    · left
      rcases UInt8.lt_or_lt_of_ne e with h1 | h1
      · exact absurd h1 h.1
      · exact h1
theorem bl_asymm {x y : Str} (h : Op.bytesLess x y = true) : Op.bytesLess y x = false := by
  cases h' : Op.bytesLess y x
  · rfl
  · have := bl_trans h h'; rw [bl_irrefl] at this; cases this
theorem bl_ne {x y : Str} (h : Op.bytesLess x y = true) : x ≠ y := by rintro rfl; rw [bl_irrefl] at h; cases h
def insG (s : Str) (n : Int) : List Fil → Bool → List Fil
  | [], done => bif done then [] else [⟨s, n⟩]
  | f :: r, done => (bif !done && (Op.bytesLess s f.name || s == f.name) then [⟨s, n⟩] else []) ++ ((bif !(f.name == s) then [f] else []) ++ insG s n r (done || (Op.bytesLess s f.name || s == f.name)))
def setG (s : Str) (n : Int) : List Fil → List Fil
  | [] => [⟨s, n⟩]
  | f :: r => bif Op.bytesLess f.name s then f :: setG s n r else bif f.name == s then ⟨f.name, n⟩ :: r else ⟨s, n⟩ :: f :: r
theorem insG_done {s : Str} {n : Int} : ∀ {l : List Fil}, (∀ f ∈ l, Op.bytesLess s f.name = true) → insG s n l true = l
  | [], _ => rfl
  | f :: r, h => by
    have h1 := h f List.mem_cons_self
    have h2 : (f.name == s) = false := by have := bl_ne h1; simp; exact fun e => this e.symm
    simp only [insG, Bool.not_true, Bool.false_and, cond_false, List.nil_append, h2, Bool.not_false, cond_true, Bool.true_or, insG_done fun g hg => h g (List.mem_cons_of_mem _ hg), List.cons_append]
theorem filesG_less {s : Str} : ∀ {l : List Fil}, filesG l (some s) = true → ∀ f ∈ l, Op.bytesLess s f.name = true
  | [], _, f, hf => by cases hf
  | g :: r, h, f, hf => by
    simp only [filesG, Bool.and_eq_true, lessPrev] at h
    obtain ⟨_, _, h1, h2⟩ := h
    rcases List.mem_cons.1 hf with rfl | hf
    · exact h1
    · exact bl_trans h1 (filesG_less h2 f hf)
theorem insG_setG {s : Str} {n : Int} : ∀ {l : List Fil} {p : Option Str}, filesG l p = true → insG s n l false = setG s n l
  | [], _, _ => rfl
  | f :: r, p, h => by
    simp only [filesG, Bool.and_eq_true] at h
    obtain ⟨_, _, _, h2⟩ := h
    have hr := filesG_less h2
    cases h3 : Op.bytesLess f.name s
    · by_cases e : f.name = s
      · subst e
        simp only [insG, setG, h3, beq_self_eq_true, Bool.or_true, Bool.not_false, Bool.and_self, cond_true, Bool.not_true, cond_false, List.nil_append, Bool.false_or, insG_done hr, List.cons_append, bl_irrefl]
      · have h4 := bl_total h3 e
        have h5 : (f.name == s) = false := by simpa using e
        simp only [insG, setG, h3, h4, h5, Bool.true_or, Bool.not_false, Bool.and_self, cond_true, cond_false, List.cons_append, List.nil_append, Bool.or_true]
        rw [insG_done fun g hg => bl_trans h4 (hr g hg)]
    · have h4 := bl_asymm h3
      have h5 : (f.name == s) = false := by simpa using bl_ne h3
      have h6 : (s == f.name) = false := by have := bl_ne h3; simp; exact fun e => this e.symm
      simp only [insG, setG, h3, h4, h5, h6, Bool.or_self, Bool.not_false, Bool.and_false, cond_true, cond_false, List.cons_append, List.nil_append, insG_setG h2]
theorem insG_length {s : Str} {n : Int} : ∀ {l : List Fil} {d : Bool}, (insG s n l d).length ≤ l.length + (bif d then 0 else 1)
  | [], d => by cases d <;> simp [insG]
  | f :: r, d => by
    have h1 := insG_length (s := s) (n := n) (l := r) (d := (d || (Op.bytesLess s f.name || s == f.name)))
    simp only [insG, List.length_append, List.length_cons]
    revert h1
    cases d <;> cases (Op.bytesLess s f.name || s == f.name) <;> cases (f.name == s) <;> simp <;> omega
theorem insG_mem {s : Str} {n : Int} : ∀ {l : List Fil} {d : Bool} {x : Fil}, x ∈ insG s n l d → x = ⟨s, n⟩ ∨ x ∈ l
  | [], d, x, h => by cases d <;> simp [insG] at h; exact .inl h
  | f :: r, d, x, h => by
    simp only [insG, List.mem_append] at h
    rcases h with h | h | h
    · revert h; cases (!d && (Op.bytesLess s f.name || s == f.name)) <;> simp; exact fun e => .inl e
    · revert h; cases (!(f.name == s)) <;> simp; exact fun e => .inr (.inl e)
    · rcases insG_mem h with h | h
      · exact .inl h
      · exact .inr (List.mem_cons_of_mem _ h)
def finG (w : Wld) (l : List Fil) : Wld × Bool := bif !wldOk w then (w, false) else bif !wldOk ⟨w.clock, w.seed, l⟩ then (w, false) else (⟨w.clock, w.seed, l⟩, true)
theorem spec_copy_eq {N : Nat} {w : Wld} (h : w.files.length ≤ 1048576) : spec_l14Copy N w = some w := by
  unfold spec_l14Copy
  rw [if_pos (by unfold Lim; omega)]
  rfl
theorem impl_copy_eq {N : Nat} {w : Wld} (h : w.files.length ≤ 1048576) : impl_copyWorld N w = some w := spec_copy_eq (N := N) h
theorem fit_out {w : Wld} {s : Str} {n : Int} (h : w.Fit 1048576) (hs : s.length ≤ 1048576) (hn : I64 n) {l : List Fil} (hl : l.length ≤ w.files.length + 1) (hm : ∀ x ∈ l, x = ⟨s, n⟩ ∨ x ∈ w.files) : (Wld.mk w.clock w.seed l).Fit 2097152 := by
  obtain ⟨h1, h2, h3, h4⟩ := h
  have h3 : w.files.length ≤ 1048576 := h3
  refine ⟨h1, h2, by show l.length ≤ _; omega, fun x hx => ?_⟩
  rcases hm x hx with rfl | hx
  · exact ⟨show s.length ≤ _ by omega, hn⟩
  · have := h4 x hx
    exact ⟨by have : x.name.length ≤ 1048576 := this.1; show x.name.length ≤ _; omega, this.2⟩
theorem fit_more {w : Wld} (h : w.Fit 1048576) : w.Fit 2097152 := by
  obtain ⟨h1, h2, h3, h4⟩ := h
  have h3 : w.files.length ≤ 1048576 := h3
  refine ⟨h1, h2, by show w.files.length ≤ _; omega, fun x hx => ?_⟩
  have := h4 x hx
  exact ⟨by have : x.name.length ≤ 1048576 := this.1; show x.name.length ≤ _; omega, this.2⟩
theorem spec_SetFile_eq {N : Nat} {w : Wld} {s : Str} {n : Int} (h : w.Fit 1048576) (hs : s.length ≤ 1048576) (hn : I64 n) (hN : 2097152 < N) : spec_SetFile N w s n = some (finG w (insG s n w.files false)) := by
  have hl : w.files.length ≤ 1048576 := h.2.2.1
  have hv := spec_IsValidWorld_eq (fit_more h) (by omega) hN
  have hend : ∀ l : List Fil, (Wld.mk w.clock w.seed l).Fit 2097152 → (Option.bind (spec_IsValidWorld N w) fun r1 => bif !r1 then (Option.bind (spec_l14Copy N w) fun r2 => some (r2, false)) else
      (Option.bind (spec_IsValidWorld N (Wld.mk w.clock w.seed l)) fun r2 => bif !r2 then (Option.bind (spec_l14Copy N w) fun r3 => some (r3, false)) else some (Wld.mk w.clock w.seed l, true))) = some (finG w l) := by
    intro l hf
    rw [hv, spec_IsValidWorld_eq hf (by omega) hN, spec_copy_eq hl]
    simp only [Option.bind_some, finG]
    cases wldOk w <;> cases wldOk ⟨w.clock, w.seed, l⟩ <;> rfl
  have key := forList (L := fun m i (st : Bool × List Fil) => spec_SetFile_b4 N m s n st.1 i w (Wld.mk 0 0 []) (Wld.mk w.clock w.seed st.2)) w.files (fun l st => finG w (st.2 ++ insG s n l st.1))
    (fun i st => ∃ l, w.files.drop i = l ∧ insG s n w.files false = st.2 ++ insG s n l st.1 ∧ st.2.length ≤ i + (bif st.1 then 1 else 0))
    (fun m st hst => by
      obtain ⟨d, out⟩ := st
      obtain ⟨l, e1, e2, e3⟩ := hst
      rw [List.drop_length] at e1; subst e1
      have hf : (Wld.mk w.clock w.seed (out ++ insG s n [] d)).Fit 2097152 := by rw [← e2]; exact fit_out h hs hn insG_length fun x => insG_mem
      have e3 : out.length ≤ w.files.length + 1 := by cases d <;> simp at e3 <;> omega
      have := hend _ hf
      cases d
      · simp only [spec_SetFile_b4, Int.lt_irrefl, decide_false, cond_false, Bool.not_false, cond_true]
        rw [if_pos (by simp only [List.length_cons, List.length_nil]; unfold Lim; omega)]
        exact this
      · simp only [spec_SetFile_b4, Int.lt_irrefl, decide_false, cond_false, Bool.not_true]
        have e0 : out ++ insG s n [] true = out := by simp [insG]
        rw [e0] at this ⊢
        exact this)
    (fun i x l st hd hi hx hst => by
      obtain ⟨d, out⟩ := st
      obtain ⟨l', e1, e2, e3⟩ := hst
      rw [hd] at e1; subst e1
      have e3 : out.length ≤ i + (bif d then 1 else 0) := e3
      have e3' : out.length ≤ i + 1 := by cases d <;> simp at e3 <;> omega
      have hi' : (i : Int) < (w.files.length : Int) := by omega
      have hdr : w.files.drop (i + 1) = l := (drop_cons hd).2.2
      have base : ∀ m, spec_SetFile_b4 N (m + 1) s n d i w (Wld.mk 0 0 []) (Wld.mk w.clock w.seed out) = spec_SetFile_b4 N m s n (d || (Op.bytesLess s x.name || s == x.name)) ((i + 1 : Nat) : Int) w (Wld.mk 0 0 [])
          (Wld.mk w.clock w.seed (out ++ ((bif !d && (Op.bytesLess s x.name || s == x.name) then [⟨s, n⟩] else []) ++ (bif !(x.name == s) then [x] else [])))) := by
        intro m
        simp only [spec_SetFile_b4, decide_eq_true hi', cond_true, Int.toNat_natCast, getD_of hx, wrap_succ hi (by omega : w.files.length ≤ _)]
        rw [if_pos (by omega)]
        cases d
        · cases (Op.bytesLess s x.name || s == x.name) <;> cases (x.name == s)
          · simp only [Bool.not_false, cond_true, cond_false, Bool.false_or, Bool.and_false, List.nil_append]
            rw [if_pos (by simp only [List.length_cons, List.length_nil]; unfold Lim; omega)]
          · simp only [Bool.not_false, Bool.not_true, cond_true, cond_false, Bool.false_or, Bool.and_false, List.nil_append, List.append_nil]
          · simp only [Bool.not_false, cond_true, Bool.false_or, Bool.and_true]
            rw [if_pos (by simp only [List.length_cons, List.length_nil]; unfold Lim; omega), if_pos (by simp only [List.length_append, List.length_cons, List.length_nil]; unfold Lim; omega), List.append_assoc]
          · simp only [Bool.not_false, Bool.not_true, cond_true, cond_false, Bool.false_or, Bool.and_true, List.append_nil]
            rw [if_pos (by simp only [List.length_cons, List.length_nil]; unfold Lim; omega)]
        · cases (x.name == s)
          · simp only [Bool.not_true, Bool.not_false, cond_true, cond_false, Bool.true_or, Bool.false_and, List.nil_append]
            rw [if_pos (by simp only [List.length_cons, List.length_nil]; unfold Lim; omega)]
          · simp only [Bool.not_true, cond_false, Bool.true_or, Bool.false_and, List.nil_append, List.append_nil]
      refine .inl ⟨(d || (Op.bytesLess s x.name || s == x.name), out ++ ((bif !d && (Op.bytesLess s x.name || s == x.name) then [⟨s, n⟩] else []) ++ (bif !(x.name == s) then [x] else []))), ⟨l, hdr, ?_, ?_⟩, ?_, base⟩
      · rw [e2]; simp only [insG, List.append_assoc]
      · show List.length (out ++ _) ≤ i + 1 + _
        clear e2 base
        cases d <;> cases (Op.bytesLess s x.name || s == x.name) <;> cases (x.name == s) <;> simp at e3 ⊢ <;> omega
      · show finG w (out ++ insG s n (x :: l) d) = _
        simp only [insG, List.append_assoc])
    N 0 (false, []) ⟨w.files, rfl, rfl, by simp⟩ (by omega) (by omega)
  exact key
theorem setG_length {s : Str} {n : Int} : ∀ {l : List Fil}, (setG s n l).length ≤ l.length + 1
  | [] => by simp [setG]
  | f :: r => by
    have := setG_length (s := s) (n := n) (l := r)
    simp only [setG]
    cases Op.bytesLess f.name s <;> cases (f.name == s) <;> simp <;> omega
theorem setG_mem {s : Str} {n : Int} : ∀ {l : List Fil} {x : Fil}, x ∈ setG s n l → x = ⟨s, n⟩ ∨ x ∈ l
  | [], x, h => by simp [setG] at h; exact .inl h
  | f :: r, x, h => by
    simp only [setG] at h
    cases h1 : Op.bytesLess f.name s
    · cases h2 : f.name == s
      · rw [h1, h2] at h; simp at h; rcases h with h | h | h <;> simp [h]
      · rw [h1, h2] at h
        have := eq_of_beq h2
        simp at h; rcases h with h | h
        · left; rw [h, this]
        · simp [h]
    · rw [h1] at h
      simp at h; rcases h with h | h
      · simp [h]
      · rcases setG_mem h with h | h <;> simp [h]
theorem impl_SetFile_eq {N : Nat} {w : Wld} {s : Str} {n : Int} (h : w.Fit 1048576) (hs : s.length ≤ 1048576) (hn : I64 n) (hN : 2097152 < N) : impl_SetFile N w s n = some (finG w (setG s n w.files)) := by
  have hl : w.files.length ≤ 1048576 := h.2.2.1
  have hv := impl_IsValidWorld_eq (fit_more h) (by omega) hN
  unfold impl_SetFile
  rw [hv, impl_copy_eq hl]
  simp only [Option.bind_some]
  cases hw : wldOk w
  · simp [finG, hw]
  · simp only [Bool.not_true, cond_false]
    have hend : ∀ l : List Fil, (Wld.mk w.clock w.seed l).Fit 2097152 → (Option.bind (impl_IsValidWorld N (Wld.mk w.clock w.seed l)) fun r1 => bif !r1 then (Option.bind (impl_copyWorld N w) fun r2 => some (r2, false)) else some (Wld.mk w.clock w.seed l, true)) = some (finG w l) := by
      intro l hf
      rw [impl_IsValidWorld_eq hf (by omega) hN, impl_copy_eq hl]
      simp only [Option.bind_some, finG, hw, Bool.not_true, cond_false]
      cases wldOk ⟨w.clock, w.seed, l⟩ <;> rfl
    have hfit : (Wld.mk w.clock w.seed (setG s n w.files)).Fit 2097152 := fit_out h hs hn setG_length fun x => setG_mem
    have key := forList (σ := Unit) (L := fun m i _ => impl_SetFile_b5 N m s n i w (Wld.mk 0 0 []) w) w.files (fun l _ => finG w (setG s n w.files))
      (fun i _ => ∃ l, w.files.drop i = l ∧ setG s n w.files = w.files.take i ++ setG s n l)
      (fun m _ hst => by
        obtain ⟨l, e1, e2⟩ := hst
        rw [List.drop_length] at e1; subst e1
        have e3 := hend _ hfit
        have e4 : setG s n w.files = w.files ++ [⟨s, n⟩] := by rw [e2]; simp [setG]
        rw [e4] at e3 ⊢
        simp only [impl_SetFile_b5, Int.lt_irrefl, decide_false, cond_false, Int.toNat_natCast, List.take_length, List.drop_length, List.nil_append, List.append_nil]
        rw [if_pos (by omega), if_pos (by unfold Lim; omega), if_pos (by simp only [List.length_cons, List.length_nil]; unfold Lim; omega), if_pos (by simp only [List.length_append, List.length_cons, List.length_nil]; unfold Lim; omega)]
        exact e3)
      (fun i x l _ hd hi hx hst => by
        obtain ⟨l', e1, e2⟩ := hst
        rw [hd] at e1; subst e1
        have hi' : (i : Int) < (w.files.length : Int) := by omega
        have hdr : w.files.drop (i + 1) = l := (drop_cons hd).2.2
        have e3 := hend _ hfit
        cases h1 : Op.bytesLess x.name s
        · refine .inr fun m => ?_
          cases h2 : x.name == s
          · have e4 : setG s n w.files = w.files.take i ++ [⟨s, n⟩] ++ w.files.drop i := by rw [e2, hd]; simp [setG, h1, h2]
            rw [e4] at e3 ⊢
            simp only [impl_SetFile_b5, decide_eq_true hi', cond_true, Int.toNat_natCast, getD_of hx, h1, h2, cond_false, List.nil_append]
            rw [if_pos (by omega), if_pos (by omega), if_pos (by simp only [List.length_take]; unfold Lim; omega), if_pos (by simp only [List.length_take, List.length_cons, List.length_nil]; unfold Lim; omega), if_pos (by simp only [List.length_append, List.length_take, List.length_drop, List.length_cons, List.length_nil]; unfold Lim; omega)]
            exact e3
          · have e4 : setG s n w.files = w.files.set i ⟨x.name, n⟩ := by
              rw [e2]
              have e5 : w.files = w.files.take i ++ (x :: l) := by rw [← hd, List.take_append_drop]
              conv => rhs; rw [e5]
              rw [List.set_append, if_neg (by simp; omega)]
              have : (w.files.take i).length = i := by simp; omega
              rw [this, Nat.sub_self, List.set_cons_zero]
              simp [setG, h1, h2]
            rw [e4] at e3 ⊢
            simp only [impl_SetFile_b5, decide_eq_true hi', cond_true, Int.toNat_natCast, getD_of hx, h1, h2, cond_false]
            rw [if_pos (by omega), if_pos (by omega)]
            exact e3
        · refine .inl ⟨(), ⟨l, hdr, ?_⟩, rfl, fun m => ?_⟩
          · rw [e2, List.take_add_one, hx]; simp [setG, h1]
          · simp only [impl_SetFile_b5, decide_eq_true hi', cond_true, Int.toNat_natCast, getD_of hx, h1, wrap_succ hi (by omega : w.files.length ≤ _)]
            rw [if_pos (by omega)])
      N 0 () ⟨w.files, rfl, rfl⟩ (by omega) (by omega)
    exact key
theorem setfile_same {w : Wld} {s : Str} {n : Int} : finG w (insG s n w.files false) = finG w (setG s n w.files) := by
  cases h : wldOk w
  · simp [finG, h]
  · have h' := h
    unfold wldOk at h
    rw [Bool.and_eq_true] at h
    rw [insG_setG h.1]
theorem finG_files {w : Wld} {l : List Fil} (hl : l.length ≤ w.files.length + 1) : (finG w l).1.files.length ≤ w.files.length + 1 := by
  unfold finG
  cases wldOk w <;> cases wldOk ⟨w.clock, w.seed, l⟩ <;> simp <;> exact hl
theorem laws_FnExactSetFile_true (a0 : Wld) (a1 : Str) (a2 : Int) (f0 : ∀ z ∈ [CV.int .i64 (Wld.clock a0), .int .i64 (Wld.seed a0), .sl .ro .fil (Wld.files a0)], DFit z.toD) (f1 : ∀ z ∈ [CV.str a1], DFit z.toD) (f2 : ∀ z ∈ [CV.int .i64 a2], DFit z.toD) : ∃ N, laws_FnExactSetFile N a0 a1 a2 = some true := by
  have hF := wld_of_cells f0
  have h2 : I64 a2 := cell_int (f2 _ List.mem_cons_self).dk
  obtain ⟨N, hn, hN⟩ : ∃ N, a0.files.length < N ∧ 274877906944 < N := ⟨a0.files.length + 274877906945, by omega, by omega⟩
  refine ⟨N, ?_⟩
  by_cases h1 : (a1.length : Int) > 1048576
  · simp [laws_FnExactSetFile, h1]
  · by_cases h : left a0.size 1048576 < 0
    · simp [laws_FnExactSetFile, h1, szWorld_eq hF hn (l := 1048576) (by omega) (by omega), h]
    · have hs := Wld.fit_size hF (guard h)
      have hl : a0.files.length ≤ 1048576 := hs.2.2.1
      have e1 := spec_SetFile_eq (N := N) hs (by omega : a1.length ≤ 1048576) h2 (by omega)
      have e2 := impl_SetFile_eq (N := N) hs (by omega : a1.length ≤ 1048576) h2 (by omega)
      rw [setfile_same] at e1
      have hg := finG_files (w := a0) (setG_length (s := a1) (n := a2) (l := a0.files))
      generalize finG a0 (setG a1 a2 a0.files) = r at e1 e2 hg
      have e5 : laws_eqWorld N r.1 r.1 = some true := eqWorld_self (by omega) (by omega)
      obtain ⟨k, ys, k0, k1, k2, k3⟩ := markWorld_held hN (w := a0) (by omega)
      obtain ⟨k', ys', g0, g1, g2, g3⟩ := markWorld_held hN (w := r.1) (by omega)
      simp [laws_FnExactSetFile, h1, szWorld_eq hF hn (l := 1048576) (by omega) (by omega), h, toWorld_eq hl hn, eqWorld_self (w := a0) (by omega) hn, e1, e2, e5,
        k2, k1, decide_eq_false (by omega : ¬ k < 0), g2, g1, g3, decide_eq_false (by omega : ¬ k' < 0)]
end Go.Ab
end
section
namespace Go.Proofs.Ytimjapjfceenkaa
open Go.Ab Go.ChangeShapes Go.WideShapes Go.ChangeAt Go.RowKit
set_option linter.unusedVariables false
theorem own : ownKnob Try.prog.godebug = none := by kernel_rfl
theorem laidOut : laidOutB Try.prog = true := by kernel_rfl
theorem ktok_fnExactSetFile : ktChk Try.prog [(111, .fil)] = true := by kernel_rfl
set_option maxRecDepth 100000 in
theorem fnExactSetFile_lifted (os : Os) (started : os.Started) (H : Type) (enc : TypeId × Value → H) :
    ReturnsInHanded {} Try.checked os 14 .any (Rows.fnExactSetFileSpec.pre6 enc Try.prog Try.f14 Rows.fnExactSetFileRow.domain false) (Rows.fnExactSetFileSpec.post enc Try.prog Try.f14 false true false false) := by
  refine returnsInHanded_of_change (C := Try.checked) own started (by kernel_rfl) Try.func14
    (ChangeSpec.witness6 (enc := enc) (C := Try.checked) false ⟨#[], #[.agg #[.int .i64 0, .int .i64 0, .slice none 0 0], .string ByteArray.empty, .int .i64 0], []⟩ 8 (by kernel_rfl) (by kernel_rfl) (by kernel_rfl) (by kernel_rfl)) ?_
  intro W base args ds gs before hval0 hW hcnd _
  have hval : ∀ (j : Nat) t v, Try.f14.params[j]? = some t → args[j]? = some v → Value.okWide Try.prog W .any base t v := hval0
  have hW' := hW
  obtain ⟨p, q, hA0, hV, rfl, hfz, hnd⟩ := hW
  have hA : DataW.TrodAll enc Try.prog W 0 (fun _ => true) true Try.f14.params.toList args.toList ds p := hA0
  rw [Try.params14] at hA hval
  obtain ⟨v0, vs0, d0, ds0, p0, q0, hargs, rfl, rfl, h0, r0⟩ := trodAll_cons hA
  obtain ⟨v1, vs1, d1, ds1, p1, q1, rfl, rfl, rfl, h1, r1⟩ := trodAll_cons r0
  obtain ⟨v2, vs2, d2, ds2, p2, q2, rfl, rfl, rfl, h2, r2⟩ := trodAll_cons r1
  obtain ⟨rfl, rfl, rfl⟩ := trodAll_nil r2
  obtain rfl : args = #[v0, v1, v2] := by cases args; simp_all
  obtain ⟨rfl, rfl⟩ := trodVars_none hV
  have lt0 : ∀ x ∈ p0, x.block < W.heap.size := by obtain ⟨m, hm⟩ := h0; exact DataW.trod_lt m _ _ _ hm
  have lt1 : ∀ x ∈ p1, x.block < W.heap.size := by obtain ⟨m, hm⟩ := h1; exact DataW.trod_lt m _ _ _ hm
  have lt2 : ∀ x ∈ p2, x.block < W.heap.size := by obtain ⟨m, hm⟩ := h2; exact DataW.trod_lt m _ _ _ hm
  obtain ⟨z0, e0, f0, vr0⟩ := vr_of ktok_fnExactSetFile (g := true) (t := 27) (ns := [.inl (.int .i64), .inl (.int .i64), .inr .fil]) (by kernel_rfl) (hval 0 27 v0 rfl rfl) h0
  obtain ⟨x0_0, _, rfl, e0_0⟩ := AreOf.int_inv e0
  obtain ⟨x0_1, _, rfl, e0_1⟩ := AreOf.int_inv e0_0
  obtain ⟨x0_2, _, rfl, e0_2⟩ := AreOf.sl_inv e0_1
  obtain rfl := e0_2.nil_inv
  obtain ⟨z1, e1, f1, vr1⟩ := vr_of ktok_fnExactSetFile (g := false) (t := 9) (ns := [.inl .str]) (by kernel_rfl) (hval 1 9 v1 rfl rfl) h1
  obtain ⟨x1_0, _, rfl, e1_0⟩ := AreOf.str_inv e1
  obtain rfl := e1_0.nil_inv
  obtain ⟨z2, e2, f2, vr2⟩ := vr_of ktok_fnExactSetFile (g := false) (t := 3) (ns := [.inl (.int .i64)]) (by kernel_rfl) (hval 2 3 v2 rfl rfl) h2
  obtain ⟨x2_0, _, rfl, e2_0⟩ := AreOf.int_inv e2
  obtain rfl := e2_0.nil_inv
  obtain ⟨N, hF⟩ := laws_FnExactSetFile_true (Wld.mk x0_0 x0_1 x0_2) x1_0 x2_0 f0 f1 f2
  clear hA0 hval0
  refine (calls_of T.fk14 (T.laws_FnExactSetFile_ok hF) (W := W) (args := #[v0, v1, v2]) ⟨vr0 _, vr1 _, vr2 _, trivial⟩).mono fun e W' ⟨he, bel⟩ => ?_
  subst he
  exact ⟨_, rfl, _, _, _, [], _, [], hW', trodAll_mk1 (shut_bool Try.underlying4 _), (trodAll_cons_mk (Below.trod laidOut (by kernel_rfl) (of_decide_eq_true (by kernel_rfl)) h0 bel lt0) (trodAll_cons_mk (Below.trod laidOut (by kernel_rfl) (of_decide_eq_true (by kernel_rfl)) h1 bel lt1) (trodAll_cons_mk (Below.trod laidOut (by kernel_rfl) (of_decide_eq_true (by kernel_rfl)) h2 bel lt2) trodAll_mk0))), rfl, bel.frame _, fun h => by cases h⟩
theorem fnExactSetFile_proved : Rows.FnExactSetFileSaid :=
  OpenClaim.holds_of_wide 14 Try.f14 rfl rfl rfl rfl rfl rfl rfl ⟨rfl, rfl, rfl, rfl, rfl⟩ rfl rfl rfl rfl rfl (by kernel_rfl) Try.func14 (by kernel_rfl)
    (of_decide_eq_true (by kernel_rfl)) (by unfold Func.isWrapper; first | (rw [if_pos (by decide +kernel)]; kernel_rfl) | (rw [if_neg (by decide +kernel)]; exact ⟨rfl, rfl⟩))
    (fun os started H enc _ => fnExactSetFile_lifted os started H enc)
end Go.Proofs.Ytimjapjfceenkaa
end
