/- The statement FnExactMergeReads holds: plain functions, certificates, laws. Conditions: none. -/
import Derived.Test.YtkbojckenecnbaaL2
import Derived.Test.YtkbojckenecnbaaFnExactMergeReadsP1
set_option linter.all false
section
namespace Go.Ab
set_option linter.unusedVariables false
set_option linter.unusedSimpArgs false
theorem szIntS_eq {N : Nat} {x0 : List Int} (h : x0.length ≤ 9223372036854775807) {l : Int} (h0 : 0 ≤ l) (h1 : l ≤ 1048576) : xD5 N x0 l = some (left x0.length l) := szLast h h0 h1
theorem szOriginS_eq {N : Nat} {x0 : List Org} (h : x0.length ≤ 9223372036854775807) {l : Int} (h0 : 0 ≤ l) (h1 : l ≤ 1048576) : xDh N x0 l = some (left x0.length l) := szLast h h0 h1
theorem szRow_eq {N : Nat} {r : Rowd} (h : r.Fit maxLen) {l : Int} (h0 : 0 ≤ l) (h1 : l ≤ 1048576) : xDY N r l = some (left r.size l) :=
  szBind h0 h1 (szIntS_eq h.1.1 h0 h1) fun m m0 m1 => left_two (szOriginS_eq h.2.1 m0 m1)
theorem szRowS_eq {N : Nat} {x0 : List Rowd} (h : LFit maxLen (Rowd.Fit maxLen) x0) (hn : x0.length < N) {l : Int} (h0 : 0 ≤ l) (h1 : l ≤ 1048576) : xD6 N x0 l = some (left (x0.length + (x0.map Rowd.size).sum) l) :=
  szThen h.1 h0 h1 rfl fun m hm0 hm1 => szLoop (L := fun n x0 x1 x5 => xDi N n x0 x1 x5) (d := Ty.row.dflt) (sz := xDY N) (fun _ _ _ => rfl) h.1 (fun x hx l h0 h1 => szRow_eq (h.2 x hx) h0 h1) hn hm0 hm1
theorem szStringS_eq {N : Nat} {x0 : List Str} (h : LFit maxLen (Str.Fit maxLen) x0) (hn : x0.length < N) {l : Int} (h0 : 0 ≤ l) (h1 : l ≤ 1048576) : xDj N x0 l = some (left (x0.length + (x0.map List.length).sum) l) :=
  szThen h.1 h0 h1 rfl fun m hm0 hm1 => szLoopG (L := fun n x0 x1 x5 => xCF N n x0 x1 x5) (d := Ty.str.dflt) (sz := fun s l => some (IntKind.i64.wrap (l - (List.length s : Int)))) (size := List.length) (fun _ _ _ => rfl) h.1
    (fun x hx l h0 h1 => by
      have hx : x.length ≤ 9223372036854775807 := h.2 x hx
      exact ⟨_, rfl, fun h => by rw [xBf (by omega) (by omega)], fun h => by rw [xBf (by omega) (by omega)]; omega⟩) hn hm0 hm1
theorem szValue_big : ∀ v : Val, v.Fit maxLen → Big2 fun N d => ∀ l, 0 ≤ l → l ≤ 1048576 → (xA3 N d).c_laws_szValue v l = some (left v.size l) := by
  refine Val.ind fun k n s t a c r ih h => ?_
  obtain ⟨h1, h2, h3, h4, h5, h6, h7⟩ := Val.fit_iff.1 h
  refine Big2.succ (Big2.succ ?_)
  refine ((Big2.list fun x hx => ih x hx (h5.2 x hx)).and ((xD8 a.length).and ((xD8 c.length).and (xD8 r.length))).two).imp fun N d ⟨hx, hn, hc, hr⟩ l h0 l1 => ?_
  have e : (Val.mk k n s t a c r).size = t.length + ((a.length + (a.map Val.size).sum) + ((c.length + (c.map List.length).sum) + (r.length + (r.map Rowd.size).sum))) := by rw [Val.size_eq]; simp only [Val.text, Val.list, Val.columns, Val.rows]; omega
  rw [e]
  exact szThen h4 h0 l1 rfl fun m m0 m1 => szBind m0 m1 (szThen h5.1 m0 m1 rfl fun m m0 m1 =>
    szLoop (L := fun n x0 x1 x5 => xCQ N (xA3 N d).c_laws_szValue (xA3 N d).c_laws_szValueS n x0 x1 x5) (d := Ty.val.dflt) (sz := (xA3 N d).c_laws_szValue)
      (fun _ _ _ => rfl) h5.1 (fun x hxm l h0 h1 => hx x hxm l h0 h1) hn m0 m1) fun m m0 m1 => szBind m0 m1 (szStringS_eq h6 hc m0 m1) fun m m0 m1 => left_two (szRowS_eq h7 hr m0 m1)
theorem szValue_eq {v : Val} (h : v.Fit maxLen) : Big fun N => ∀ l, 0 ≤ l → l ≤ 1048576 → xEx N v l = some (left v.size l) := (szValue_big v h).diag
theorem toIntS_eq {N : Nat} {x0 : List Int} (hl : x0.length ≤ 1048576) (hn : x0.length < N) : xDL N x0 = some x0 := by
  unfold xDL
  rw [if_pos ⟨by omega, rfl, by unfold Lim; omega⟩]
  exact toLoop (L := fun n x0 x3 x4 => xDk N n x0 x3 x4) (to := some) (re := fun r => r) (fun _ _ _ => rfl) (by omega) (fun x hx => ⟨x, rfl, rfl⟩) hn
theorem toStringS_eq {N : Nat} {x0 : List Str} (hl : x0.length ≤ 1048576) (hn : x0.length < N) : xC2 N x0 = some x0 := by
  unfold xC2
  rw [if_pos ⟨by omega, rfl, by unfold Lim; omega⟩]
  exact toLoop (L := fun n x0 x3 x4 => xCH N n x0 x3 x4) (to := some) (re := fun r => r) (fun _ _ _ => rfl) (by omega) (fun x hx => ⟨x, rfl, rfl⟩) hn
theorem toOriginS_eq {N : Nat} {x0 : List Org} (hl : x0.length ≤ 1048576) (hn : x0.length < N) : xC0 N x0 = some x0 := by
  unfold xC0
  rw [if_pos ⟨by omega, rfl, by unfold Lim; omega⟩]
  exact toLoop (L := fun n x0 x3 x4 => xCG N n x0 x3 x4) (to := xDz N) (re := fun r => r) (fun _ _ _ => rfl) (by omega) (fun x hx => ⟨x, rfl, rfl⟩) hn
theorem toRow_eq {N : Nat} {r : Rowd} (h : r.Fit 1048576) (hN : 1048576 < N) : xDM N r = some r := by
  have h1 : r.cells.length ≤ 1048576 := h.1.1
  have h2 : r.frm.length ≤ 1048576 := h.2.1
  unfold xDM
  rw [toIntS_eq h1 (by omega), toOriginS_eq h2 (by omega)]; rfl
theorem toRowS_eq {N : Nat} {x0 : List Rowd} (h : LFit 1048576 (Rowd.Fit 1048576) x0) (hN : 1048576 < N) : xDN N x0 = some x0 := by
  have hl : x0.length ≤ 1048576 := h.1
  unfold xDN
  rw [if_pos ⟨by omega, rfl, by unfold Lim; omega⟩]
  exact toLoop (L := fun n x0 x3 x4 => xDm N n x0 x3 x4) (to := xDM N) (re := fun r => r) (fun _ _ _ => rfl) (by omega) (fun x hx => ⟨x, toRow_eq (h.2 x hx) hN, rfl⟩) (by omega)
theorem toValueS_step {N d : Nat} {a : List Val} (hl : a.length ≤ 1048576) (hn : a.length < N) (hx : ∀ x ∈ a, (xAG N d).c_laws_toValue x = some x) : (xAG N (d + 1)).c_laws_toValueS a = some a := by
  show xBV N (xAG N d).c_laws_toValue (xAG N d).c_laws_toValueS a = _
  unfold xBV
  rw [if_pos ⟨by omega, rfl, by unfold Lim; omega⟩]
  exact toLoop (L := fun n x0 x3 x4 => xCS N (xAG N d).c_laws_toValue (xAG N d).c_laws_toValueS n x0 x3 x4) (to := (xAG N d).c_laws_toValue) (re := Val.re) (fun _ _ _ => rfl) (by omega) (fun x hxm => ⟨x, hx x hxm, Val.re_eq x⟩) hn
theorem toValue_big : ∀ v : Val, v.Fit 1048576 → Big2 fun N d => (xAG N d).c_laws_toValue v = some v := by
  refine Val.ind fun k n s t a c r ih h => ?_
  obtain ⟨h1, h2, h3, h4, h5, h6, h7⟩ := Val.fit_iff.1 h
  refine Big2.succ (Big2.succ ?_)
  refine ((Big2.list fun x hx => ih x hx (h5.2 x hx)).and (xD8 1048576).two).imp fun N d ⟨hx, hN⟩ => ?_
  have hl : a.length ≤ 1048576 := h5.1
  have hc : c.length ≤ 1048576 := h6.1
  show xCe N (xAG N (d + 1)).c_laws_toValue (xAG N (d + 1)).c_laws_toValueS _ = _
  unfold xCe
  simp only [Val.list, Val.columns, Val.rows, toValueS_step (N := N) hl (by omega) hx, toStringS_eq (N := N) hc (by omega), toRowS_eq (x0 := r) h7 hN, Option.bind_some]
  rfl
theorem toValue_eq {v : Val} (h : v.Fit 1048576) : Big fun N => xEA N v = some v := (toValue_big v h).diag
theorem eqIntS_self {N : Nat} {x0 : List Int} (hl : x0.length ≤ 9223372036854775807) (hn : x0.length < N) : xDF N x0 x0 = some true := by
  unfold xDF
  rw [bne_self_eq_false, cond_false]
  exact eqLoop (L := fun n i => xCv N n x0 x0 i) (fun n => by simp [xCv]) (fun i x n hi hx hm => by
    have hi' : (i : Int) < (x0.length : Int) := by omega
    simp only [xCv, decide_eq_true hi', cond_true, Int.toNat_natCast, xBg hx, xAR hi hl, bne_self_eq_false, cond_false]
    rw [if_pos (by omega), if_pos (by omega)]) hn
theorem eqStringS_self {N : Nat} {x0 : List Str} (hl : x0.length ≤ 9223372036854775807) (hn : x0.length < N) : xCW N x0 x0 = some true := by
  unfold xCW
  rw [bne_self_eq_false, cond_false]
  exact eqLoop (L := fun n i => xBM N n x0 x0 i) (fun n => by simp [xBM]) (fun i x n hi hx hm => by
    have hi' : (i : Int) < (x0.length : Int) := by omega
    simp only [xBM, decide_eq_true hi', cond_true, Int.toNat_natCast, xBg hx, xAR hi hl, beq_self_eq_true, Bool.not_true, cond_false]
    rw [if_pos (by omega), if_pos (by omega)]) hn
theorem eqOrigin_self (N : Nat) (f : Org) : xDb N f f = some true := by simp [xDb]
theorem eqOriginS_self {N : Nat} {x0 : List Org} (hl : x0.length ≤ 9223372036854775807) (hn : x0.length < N) : xCU N x0 x0 = some true := by
  unfold xCU
  rw [bne_self_eq_false, cond_false]
  exact eqLoop (L := fun n i => xBK N n x0 x0 i) (fun n => by simp [xBK]) (fun i x n hi hx hm => by
    have hi' : (i : Int) < (x0.length : Int) := by omega
    simp only [xBK, decide_eq_true hi', cond_true, Int.toNat_natCast, xBg hx, eqOrigin_self, Option.bind_some, xAR hi hl, Bool.not_true, cond_false]
    rw [if_pos (by omega), if_pos (by omega)]) hn
theorem eqRow_self {N K : Nat} {r : Rowd} (h : r.Fit K) (hK : K ≤ 9223372036854775807) (hN : K < N) : xDX N r r = some true := by
  have h1 : r.cells.length ≤ K := h.1.1
  have h2 : r.frm.length ≤ K := h.2.1
  simp [xDX, eqIntS_self (by omega : r.cells.length ≤ _) (by omega : _ < N), eqOriginS_self (by omega : r.frm.length ≤ _) (by omega : _ < N)]
theorem eqRowS_self {N K : Nat} {x0 : List Rowd} (h : LFit K (Rowd.Fit K) x0) (hK : K ≤ 9223372036854775807) (hN : K < N) : xDH N x0 x0 = some true := by
  have hl : x0.length ≤ K := h.1
  unfold xDH
  rw [bne_self_eq_false, cond_false]
  exact eqLoop (x0 := x0) (L := fun n i => xCw N n x0 x0 i) (fun n => by simp [xCw]) (fun i x n hi hx hm => by
    have hi' : (i : Int) < (x0.length : Int) := by omega
    simp only [xCw, decide_eq_true hi', cond_true, Int.toNat_natCast, xBg hx, eqRow_self (h.2 x hm) hK hN, Option.bind_some, xAR hi (by omega : x0.length ≤ _), Bool.not_true, cond_false]
    rw [if_pos (by omega), if_pos (by omega)]) (by omega)
theorem eqValueS_step {N d : Nat} {a : List Val} (hl : a.length ≤ 9223372036854775807) (hn : a.length < N) (hx : ∀ x ∈ a, (xAJ N d).c_laws_eqValue x x = some true) : (xAJ N (d + 1)).c_laws_eqValueS a a = some true := by
  show xBU N (xAJ N d).c_laws_eqValue (xAJ N d).c_laws_eqValueS a a = _
  unfold xBU
  rw [bne_self_eq_false, cond_false]
  exact eqLoop (L := fun n i => xBX N (xAJ N d).c_laws_eqValue (xAJ N d).c_laws_eqValueS n a a i) (fun n => by simp [xBX]) (fun i x n hi hxi hm => by
    have hi' : (i : Int) < (a.length : Int) := by omega
    simp only [xBX, decide_eq_true hi', cond_true, Int.toNat_natCast, xBg hxi, hx x hm, Option.bind_some, xAR hi (by omega : a.length ≤ _), Bool.not_true, cond_false]
    rw [if_pos (by omega), if_pos (by omega)]) hn
theorem eqValue_big {K : Nat} (hK : K ≤ 9223372036854775807) : ∀ v : Val, v.Fit K → Big2 fun N d => (xAJ N d).c_laws_eqValue v v = some true := by
  refine Val.ind fun k n s t a c r ih h => ?_
  obtain ⟨h1, h2, h3, h4, h5, h6, h7⟩ := Val.fit_iff.1 h
  refine Big2.succ (Big2.succ ?_)
  refine ((Big2.list fun x hx => ih x hx (h5.2 x hx)).and (xD8 K).two).imp fun N d ⟨hx, hN⟩ => ?_
  have hl : a.length ≤ K := h5.1
  have hc : c.length ≤ K := h6.1
  show xCa N (xAJ N (d + 1)).c_laws_eqValue (xAJ N (d + 1)).c_laws_eqValueS _ _ = _
  unfold xCa
  simp only [Val.list, Val.columns, Val.rows, eqValueS_step (by omega : a.length ≤ _) (by omega : _ < N) hx, eqStringS_self (by omega : c.length ≤ _) (by omega : _ < N), eqRowS_self (x0 := r) h7 hK hN, Option.bind_some, bne_self_eq_false, beq_self_eq_true, Bool.not_true, cond_false]
theorem eqValue_self {v : Val} {K : Nat} (h : v.Fit K) (hK : K ≤ 9223372036854775807) : Big fun N => xEu N v v = some true := (eqValue_big hK v h).diag
def cOne {α : Type} (_ : α) : Nat := 1
def cOrg (_ : Org) : Nat := 2
def cRow (r : Rowd) : Nat := (r.cells.map cOne).sum + (r.frm.map cOrg).sum
theorem cOne_sum {α : Type} (xs : List α) : (xs.map cOne).sum = xs.length := by
  induction xs with
  | nil => rfl
  | cons x l ih => simp only [List.map_cons, List.sum_cons, ih, List.length_cons, cOne]; omega
theorem cOrg_sum (xs : List Org) : (xs.map cOrg).sum = 2 * xs.length := by
  induction xs with
  | nil => rfl
  | cons x l ih => simp only [List.map_cons, List.sum_cons, ih, List.length_cons, cOrg]; omega
theorem markIntS_held {N : Nat} (hN : 274877906944 < N) {xs : List Int} {k : Int} (h0 : 0 ≤ k) (h1 : k + ((xs.map cOne).sum : Nat) ≤ 137438953472) :
    ∃ ys, ys.length = xs.length ∧ xDy N xs k = some (k + ((xs.map cOne).sum : Nat), ys) ∧ xDx N ys k = some (k + ((xs.map cOne).sum : Nat)) := by
  have hs := cOne_sum xs
  refine xEF (Lm := fun n xs k i => xB1 N n xs k i) (Lh := fun n ys k i => xBY N n ys k i) (c := cOne) (fun n xs k hl => by simp [xB1]) (fun n ys k hl => by simp [xBY])
    (fun x hx k hk hB => ?_) h1 (by omega)
  have hc : cOne x = 1 := rfl
  rw [hc] at hB ⊢
  refine ⟨k, fun n xs' i hl hxi => ?_, fun n ys i hl hyi => ?_⟩
  · have hi := (List.getElem?_eq_some_iff.1 hxi).1
    have hi' : (i : Int) < (xs'.length : Int) := by omega
    simp only [xB1, decide_eq_true hi', cond_true, Int.toNat_natCast, xAR hi (by omega : xs'.length ≤ _), xBf (x := k + 1) (by omega) (by omega)]
    rw [if_pos (by omega)]; rfl
  · have hi := (List.getElem?_eq_some_iff.1 hyi).1
    have hi' : (i : Int) < (ys.length : Int) := by omega
    simp only [xBY, decide_eq_true hi', cond_true, Int.toNat_natCast, xBg hyi, xAR hi (by omega : ys.length ≤ _), xBf (x := k + 1) (by omega) (by omega), bne_self_eq_false, cond_false]
    rw [if_pos (by omega)]; rfl
theorem xEo {N : Nat} (hN : 274877906944 < N) {xs : List Str} {k : Int} (h0 : 0 ≤ k) (h1 : k + ((xs.map cOne).sum : Nat) ≤ 137438953472) :
    ∃ ys, ys.length = xs.length ∧ xCq N xs k = some (k + ((xs.map cOne).sum : Nat), ys) ∧ xCo N ys k = some (k + ((xs.map cOne).sum : Nat)) := by
  have hs := cOne_sum xs
  refine xEF (Lm := fun n xs k i => xBq N n xs k i) (Lh := fun n ys k i => xBo N n ys k i) (c := cOne) (fun n xs k hl => by simp [xBq]) (fun n ys k hl => by simp [xBo])
    (fun x hx k hk hB => ?_) h1 (by omega)
  have hc : cOne x = 1 := rfl
  rw [hc] at hB ⊢
  obtain ⟨t, ht⟩ := xDV hN (k := k) (by omega) (by omega)
  refine ⟨t, fun n xs' i hl hxi => ?_, fun n ys i hl hyi => ?_⟩
  · have hi := (List.getElem?_eq_some_iff.1 hxi).1
    have hi' : (i : Int) < (xs'.length : Int) := by omega
    simp only [xBq, decide_eq_true hi', cond_true, Int.toNat_natCast, ht, Option.bind_some, xAR hi (by omega : xs'.length ≤ _), xBf (x := k + 1) (by omega) (by omega)]
    rw [if_pos (by omega)]; rfl
  · have hi := (List.getElem?_eq_some_iff.1 hyi).1
    have hi' : (i : Int) < (ys.length : Int) := by omega
    simp only [xBo, decide_eq_true hi', cond_true, Int.toNat_natCast, xBg hyi, ht, Option.bind_some, xAR hi (by omega : ys.length ≤ _), xBf (x := k + 1) (by omega) (by omega), beq_self_eq_true, Bool.not_true, cond_false]
    rw [if_pos (by omega)]; rfl
theorem markOriginS_held {N : Nat} (hN : 274877906944 < N) {xs : List Org} {k : Int} (h0 : 0 ≤ k) (h1 : k + ((xs.map cOrg).sum : Nat) ≤ 137438953472) :
    ∃ ys, ys.length = xs.length ∧ xCO N xs k = some (k + ((xs.map cOrg).sum : Nat), ys) ∧ xCN N ys k = some (k + ((xs.map cOrg).sum : Nat)) := by
  have hs := cOrg_sum xs
  refine xEF (Lm := fun n xs k i => xBp N n xs k i) (Lh := fun n ys k i => xBn N n ys k i) (c := cOrg) (fun n xs k hl => by simp [xBp]) (fun n ys k hl => by simp [xBn])
    (fun x hx k hk hB => ?_) h1 (by omega)
  have hc : cOrg x = 2 := rfl
  rw [hc] at hB ⊢
  refine ⟨⟨k, k + 1⟩, fun n xs' i hl hxi => ?_, fun n ys i hl hyi => ?_⟩
  · have hi := (List.getElem?_eq_some_iff.1 hxi).1
    have hi' : (i : Int) < (xs'.length : Int) := by omega
    simp only [xBp, decide_eq_true hi', cond_true, Int.toNat_natCast, xBg hxi, List.length_set, xDT hi, List.set_set, xAR hi (by omega : xs'.length ≤ _)]
    rw [if_pos (by omega), if_pos (by omega), xBf (x := k + 1) (by omega) (by omega), xBf (x := k + 1 + 1) (by omega) (by omega)]
    congr 1
    omega
  · have hi := (List.getElem?_eq_some_iff.1 hyi).1
    have hi' : (i : Int) < (ys.length : Int) := by omega
    simp only [xBn, decide_eq_true hi', cond_true, Int.toNat_natCast, xBg hyi, xAR hi (by omega : ys.length ≤ _), xBf (x := k + 1) (by omega) (by omega), xBf (x := k + 1 + 1) (by omega) (by omega), bne_self_eq_false, cond_false]
    rw [if_pos (by omega)]
    congr 1
    omega
theorem markRowS_held {N : Nat} (hN : 274877906944 < N) {xs : List Rowd} {k : Int} (hlen : xs.length ≤ 137438953472) (h0 : 0 ≤ k) (h1 : k + ((xs.map cRow).sum : Nat) ≤ 137438953472) :
    ∃ ys, ys.length = xs.length ∧ xDd N xs k = some (k + ((xs.map cRow).sum : Nat), ys) ∧ xDc N ys k = some (k + ((xs.map cRow).sum : Nat)) := by
  refine xEF (Lm := fun n xs k i => xB2 N n xs k i) (Lh := fun n ys k i => xB0 N n ys k i) (c := cRow) (fun n xs k hl => by simp [xB2]) (fun n ys k hl => by simp [xB0])
    (fun x hx k hk hB => ?_) h1 (by omega)
  have hc : cRow x = (x.cells.map cOne).sum + (x.frm.map cOrg).sum := rfl
  rw [hc] at hB ⊢
  obtain ⟨ya, a1, a2, a3⟩ := markIntS_held hN (xs := x.cells) (k := k) (by omega) (by omega)
  obtain ⟨yb, b1, b2, b3⟩ := markOriginS_held hN (xs := x.frm) (k := k + ((x.cells.map cOne).sum : Nat)) (by omega) (by omega)
  refine ⟨⟨ya, yb⟩, fun n xs' i hl hxi => ?_, fun n ys i hl hyi => ?_⟩
  · have hi := (List.getElem?_eq_some_iff.1 hxi).1
    have hi' : (i : Int) < (xs'.length : Int) := by omega
    have hcd : (0 : Int) ≤ (i : Int) ∧ (i : Int) < (xs'.length : Int) := by omega
    simp only [xB2, decide_eq_true hi', cond_true, Int.toNat_natCast, xBg hxi, List.length_set, xDT hi, List.set_set, xAR hi (by omega : xs'.length ≤ _), if_pos hcd, a2, b2, if_pos a1, if_pos b1, Option.bind_some]
    congr 1
    omega
  · have hi := (List.getElem?_eq_some_iff.1 hyi).1
    have hi' : (i : Int) < (ys.length : Int) := by omega
    have hcd : (0 : Int) ≤ (i : Int) ∧ (i : Int) < (ys.length : Int) := by omega
    simp only [xB0, decide_eq_true hi', cond_true, Int.toNat_natCast, xBg hyi, xAR hi (by omega : ys.length ≤ _), if_pos hcd, a3, b3, Option.bind_some]
    rw [decide_eq_false (by omega), cond_false, decide_eq_false (by omega), cond_false]
    congr 1
    omega
mutual
def Val.cnt : Val → Nat
  | .mk _ _ _ _ l c r => 4 + Val.cnts l + (c.map cOne).sum + (r.map cRow).sum
def Val.cnts : List Val → Nat
  | [] => 0
  | x :: r => Val.cnt x + Val.cnts r
end
theorem Val.cnts_eq (l : List Val) : Val.cnts l = (l.map Val.cnt).sum := by
  induction l with
  | nil => rfl
  | cons x l ih => simp [Val.cnts, ih]
theorem cRow_le (l : List Rowd) : (l.map cRow).sum ≤ 2 * (l.length + (l.map Rowd.size).sum) :=
  sum_le_mul fun x _ => by simp only [cRow, cOne_sum, cOrg_sum, Rowd.size]; omega
theorem Val.cnt_le : ∀ v : Val, v.cnt ≤ 4 + 4 * v.size := by
  refine Val.ind fun k n s t l c r ih => ?_
  have h1 := sum_le_mul (f := Val.cnt) (g := Val.size) (l := l) (a := 4) fun x hx => ih x hx
  have h2 := cRow_le r
  have h3 := cOne_sum c
  rw [Val.size_eq]
  simp only [Val.cnt, Val.cnts_eq, Val.text, Val.list, Val.columns, Val.rows, h3] at h1 h2 ⊢
  omega
theorem cnts_len (l : List Val) : l.length ≤ (l.map Val.cnt).sum := by
  induction l with
  | nil => simp
  | cons x l ih =>
    have : 4 ≤ x.cnt := by cases x; simp only [Val.cnt]; omega
    simp only [List.length_cons, List.map_cons, List.sum_cons]; omega
def MarkV (N d : Nat) (l : List Val) : Prop := ∀ k : Int, 0 ≤ k → k + ((l.map Val.cnt).sum : Nat) ≤ 137438953472 →
    ∃ ys, ys.length = l.length ∧ xCk N d l k = some (k + ((l.map Val.cnt).sum : Nat), ys) ∧ xCi N d ys k = some (k + ((l.map Val.cnt).sum : Nat))
theorem markV_step {N d : Nat} (hN : 274877906944 < N) {l : List Val} (hr : ∀ x ∈ l, x.rows.length ≤ 137438953472) (hx : ∀ x ∈ l, MarkV N d x.list) : MarkV N (d + 1) l := by
  intro k h0 h1
  have hlen := cnts_len l
  refine xEF (Lm := fun n xs k i => xBC N (xCk N d) n xs k i) (Lh := fun n ys k i => xBB N (xCi N d) n ys k i) (c := Val.cnt) (fun n xs k hl => by simp [xBC]) (fun n ys k hl => by simp [xBB])
    (fun x hxm k hk hB => ?_) h1 (by omega)
  have hc : x.cnt = 4 + (x.list.map Val.cnt).sum + (x.columns.map cOne).sum + (x.rows.map cRow).sum := by cases x; simp only [Val.cnt, Val.cnts_eq, Val.list, Val.columns, Val.rows]
  rw [hc] at hB ⊢
  obtain ⟨t, ht⟩ := xDV hN (k := k + 1 + 1 + 1) (by omega) (by omega)
  obtain ⟨ya, a1, a2, a3⟩ := hx x hxm (k + 1 + 1 + 1 + 1) (by omega) (by omega)
  obtain ⟨yb, b1, b2, b3⟩ := xEo hN (xs := x.columns) (k := k + 1 + 1 + 1 + 1 + ((x.list.map Val.cnt).sum : Nat)) (by omega) (by omega)
  obtain ⟨yc, c1, c2, c3⟩ := markRowS_held hN (xs := x.rows) (k := k + 1 + 1 + 1 + 1 + ((x.list.map Val.cnt).sum : Nat) + ((x.columns.map cOne).sum : Nat)) (hr x hxm) (by omega) (by omega)
  have w1 : IntKind.i64.wrap (k + 1) = k + 1 := xBf (by omega) (by omega)
  have w2 : IntKind.i64.wrap (k + 1 + 1) = k + 1 + 1 := xBf (by omega) (by omega)
  have w3 : IntKind.i64.wrap (k + 1 + 1 + 1) = k + 1 + 1 + 1 := xBf (by omega) (by omega)
  have w4 : IntKind.i64.wrap (k + 1 + 1 + 1 + 1) = k + 1 + 1 + 1 + 1 := xBf (by omega) (by omega)
  refine ⟨.mk k (k + 1) (k + 1 + 1) t ya yb yc, fun n xs' i hl hxi => ?_, fun n ys i hl hyi => ?_⟩
  · have hi := (List.getElem?_eq_some_iff.1 hxi).1
    have hi' : (i : Int) < (xs'.length : Int) := by omega
    have hcd : (0 : Int) ≤ (i : Int) ∧ (i : Int) < (xs'.length : Int) := by omega
    simp only [xBC, decide_eq_true hi', cond_true, Int.toNat_natCast, xBg hxi, List.length_set, xDT hi, List.set_set, xAR hi (by omega : xs'.length ≤ _), if_pos hcd, w1, w2, w3, w4, ht, Option.bind_some,
      vk, vn, vs, vt, vl, vc, vr, a2, b2, c2, if_pos a1, if_pos b1, if_pos c1]
    congr 1
    omega
  · have hi := (List.getElem?_eq_some_iff.1 hyi).1
    have hi' : (i : Int) < (ys.length : Int) := by omega
    have hcd : (0 : Int) ≤ (i : Int) ∧ (i : Int) < (ys.length : Int) := by omega
    simp only [xBB, decide_eq_true hi', cond_true, Int.toNat_natCast, xBg hyi, xAR hi (by omega : ys.length ≤ _), if_pos hcd, w1, w2, w3, w4, ht, Option.bind_some, vk, vn, vs, vt, vl, vc, vr, a3, b3, c3, bne_self_eq_false, beq_self_eq_true, Bool.not_true, cond_false]
    rw [decide_eq_false (by omega), cond_false, decide_eq_false (by omega), cond_false, decide_eq_false (by omega), cond_false]
    congr 1
    omega
theorem markV_big {K : Nat} (hK : K ≤ 137438953472) : ∀ v : Val, v.Fit K → Big2 fun N d => MarkV N d v.list := by
  refine Val.ind fun k n s t a c r ih h => ?_
  obtain ⟨h1, h2, h3, h4, h5, h6, h7⟩ := Val.fit_iff.1 h
  refine Big2.succ ?_
  refine ((Big2.list fun x hx => ih x hx (h5.2 x hx)).and (xD8 274877906944).two).imp fun N d ⟨hx, hN⟩ => ?_
  exact markV_step hN (fun x hxm => by have := (Val.fit_iff.1 (h5.2 x hxm)).2.2.2.2.2.2.1; omega) hx
end Go.Ab
end
section
namespace Go.Ab
set_option linter.unusedVariables false
set_option linter.unusedSimpArgs false
theorem spec_l3Row_eq {N K : Nat} {r : Rowd} (h : r.Fit K) (hK : K ≤ 137438953472) : xDZ N r = some r := by
  have h1 : r.cells.length ≤ K := h.1.1
  have h2 : r.frm.length ≤ K := h.2.1
  unfold xDZ
  rw [if_pos (by unfold Lim; omega), if_pos (by unfold Lim; omega)]; rfl
theorem impl_copyRow_eq {N K : Nat} {r : Rowd} (h : r.Fit K) (hK : K ≤ 137438953472) : xDR N r = some r := spec_l3Row_eq (N := N) h hK
theorem spec_copy_b7_eq {N K : Nat} {rc : Val → Option Val} {v z : Val} {k n s : Int} {t : Str} {l : List Val} {c : List Str} (h : LFit K (Rowd.Fit K) v.rows) (hK : K ≤ 137438953472) (hN : K < N) :
    xB8 N rc N 0 v z (Val.mk k n s t l c []) = some (Val.mk k n s t l c v.rows) := by
  have hl : v.rows.length ≤ K := h.1
  exact xDu (L := fun m i q => xB8 N rc m i v z (Val.mk k n s t l c q)) v.rows (fun r q => Val.mk k n s t l c (q ++ r)) (fun i q => q.length = i) (fun m q hq => by simp [xB8])
    (fun i x r q hd hi hx hq => by
      have hq : q.length = i := hq
      have hi' : (i : Int) < (v.rows.length : Int) := by omega
      refine .inl ⟨q ++ [x], by simp [hq], by simp, fun m => ?_⟩
      simp only [xB8, decide_eq_true hi', cond_true, Int.toNat_natCast, xBg hx, spec_l3Row_eq (h.2 x (List.mem_of_getElem? hx)) hK, Option.bind_some, xAR hi (by omega : v.rows.length ≤ _), vk, vn, vs, vt, vl, vc, vr]
      rw [if_pos (by omega), if_pos (by simp only [List.length_cons, List.length_nil]; unfold Lim; omega)]) N 0 [] rfl (by omega) (by omega)
theorem spec_copy_step {N d K : Nat} {v : Val} (h : v.Fit K) (hK : K ≤ 137438953472) (hN : K < N) (hx : ∀ x ∈ v.list, xCm N d x = some x) : xCs N (xCm N d) v = some v := by
  obtain ⟨h1, h2, h3, h4, h5, h6, h7⟩ := Val.fit_iff.1 h
  have hl : v.list.length ≤ K := h5.1
  have hc : v.columns.length ≤ K := h6.1
  unfold xCs
  rw [if_pos (by unfold Lim; omega)]
  have key := xDu (L := fun m i q => xCB N (xCm N d) m i v (Val.mk 0 0 0 [] [] [] []) (Val.mk v.kind v.n v.step v.text q ([] ++ v.columns) [])) v.list (fun l q => Val.mk v.kind v.n v.step v.text (q ++ l) v.columns v.rows) (fun i q => q.length = i)
    (fun m q hq => by
      simp only [xCB, Int.lt_irrefl, decide_false, cond_false, List.append_nil, List.nil_append]
      exact spec_copy_b7_eq h7 hK hN)
    (fun i x l q hd hi hxi hq => by
      have hq : q.length = i := hq
      have hi' : (i : Int) < (v.list.length : Int) := by omega
      refine .inl ⟨q ++ [x], by simp [hq], by simp, fun m => ?_⟩
      simp only [xCB, decide_eq_true hi', cond_true, Int.toNat_natCast, xBg hxi, hx x (List.mem_of_getElem? hxi), Option.bind_some, Val.re_eq, xAR hi (by omega : v.list.length ≤ _), vk, vn, vs, vt, vl, vc, vr]
      rw [if_pos (by omega), if_pos (by simp only [List.length_cons, List.length_nil]; unfold Lim; omega)]) N 0 [] rfl (by omega) (by omega)
  rw [List.drop_zero, List.nil_append, List.nil_append, Val.eta] at key
  exact key
theorem spec_copy_big {K : Nat} (hK : K ≤ 137438953472) : ∀ v : Val, v.Fit K → Big2 fun N d => xCm N d v = some v := by
  refine Val.ind fun k n s t a c r ih h => ?_
  have h5 := (Val.fit_iff.1 h).2.2.2.2.1
  refine Big2.succ ?_
  exact ((Big2.list fun x hx => ih x hx (h5.2 x hx)).and (xD8 K).two).imp fun N d ⟨hx, hN⟩ => spec_copy_step h hK hN hx
theorem spec_copy_eq' {K : Nat} {v : Val} (h : v.Fit K) (hK : K ≤ 137438953472) : Big fun N => xCA N v = some v := (spec_copy_big hK v h).diag
theorem impl_copy_b6_eq {N K : Nat} {rc : Val → Option Val} {rd : List Val → Option (List Val)} {z : Val} {k n s : Int} {t : Str} {l : List Val} {c : List Str} {rs : List Rowd} (h : LFit K (Rowd.Fit K) rs) (hK : K ≤ 137438953472) (hN : K < N) :
    xBs N rc rd N rs rs.length 0 z (Val.mk k n s t l c []) = some (Val.mk k n s t l c rs) := by
  have hl : rs.length ≤ K := h.1
  exact xDu (L := fun m i q => xBs N rc rd m rs rs.length i z (Val.mk k n s t l c q)) rs (fun r q => Val.mk k n s t l c (q ++ r)) (fun i q => q.length = i) (fun m q hq => by simp [xBs])
    (fun i x r q hd hi hx hq => by
      have hq : q.length = i := hq
      have hi' : (i : Int) < (rs.length : Int) := by omega
      refine .inl ⟨q ++ [x], by simp [hq], by simp, fun m => ?_⟩
      simp only [xBs, decide_eq_true hi', cond_true, Int.toNat_natCast, xBg hx, impl_copyRow_eq (h.2 x (List.mem_of_getElem? hx)) hK, Option.bind_some, xAR hi (by omega : rs.length ≤ _), vk, vn, vs, vt, vl, vc, vr]
      rw [if_pos (by omega), if_pos (by simp only [List.length_cons, List.length_nil]; unfold Lim; omega)]) N 0 [] rfl (by omega) (by omega)
theorem impl_copies_step {N d : Nat} {a : List Val} (hl : a.length ≤ 137438953472) (hn : a.length < N) (hx : ∀ x ∈ a, (xAy N d).c_impl_copyValue x = some x) : (xAy N (d + 1)).c_impl_copyValues a = some a := by
  show xBD N (xAy N d).c_impl_copyValue (xAy N d).c_impl_copyValues a = _
  unfold xBD
  exact xDu (L := fun m i q => xBA N (xAy N d).c_impl_copyValue (xAy N d).c_impl_copyValues m q a a.length i) a (fun l q => q ++ l) (fun i q => q.length = i) (fun m q hq => by simp [xBA])
    (fun i x l q hd hi hxi hq => by
      have hq : q.length = i := hq
      have hi' : (i : Int) < (a.length : Int) := by omega
      refine .inl ⟨q ++ [x], by simp [hq], by simp, fun m => ?_⟩
      simp only [xBA, decide_eq_true hi', cond_true, Int.toNat_natCast, xBg hxi, hx x (List.mem_of_getElem? hxi), Option.bind_some, Val.re_eq, xAR hi (by omega : a.length ≤ _)]
      rw [if_pos (by omega), if_pos (by simp only [List.length_cons, List.length_nil]; unfold Lim; omega)]) N 0 [] rfl (by omega) (by omega)
theorem impl_copy_step {N d K : Nat} {v : Val} (h : v.Fit K) (hK : K ≤ 137438953472) (hN : K < N) (hx : (xAy N d).c_impl_copyValues v.list = some v.list) : (xAy N (d + 1)).c_impl_copyValue v = some v := by
  obtain ⟨h1, h2, h3, h4, h5, h6, h7⟩ := Val.fit_iff.1 h
  have hc : v.columns.length ≤ K := h6.1
  show xBJ N (xAy N d).c_impl_copyValue (xAy N d).c_impl_copyValues v = _
  unfold xBJ
  rw [hx, Option.bind_some, if_pos (by unfold Lim; omega), impl_copy_b6_eq h7 hK hN, List.nil_append, Val.eta]
theorem impl_copy_big {K : Nat} (hK : K ≤ 137438953472) : ∀ v : Val, v.Fit K → Big2 fun N d => (xAy N d).c_impl_copyValue v = some v := by
  refine Val.ind fun k n s t a c r ih h => ?_
  have h5 := (Val.fit_iff.1 h).2.2.2.2.1
  have hl : a.length ≤ K := h5.1
  refine Big2.succ (Big2.succ ?_)
  exact ((Big2.list fun x hx => ih x hx (h5.2 x hx)).and (xD8 K).two).imp fun N d ⟨hx, hN⟩ => impl_copy_step h hK hN (impl_copies_step (a := a) (by omega) (by omega) hx)
theorem impl_copy_eq' {K : Nat} {v : Val} (h : v.Fit K) (hK : K ≤ 137438953472) : Big fun N => xBv N v = some v := (impl_copy_big hK v h).diag
theorem valCnt (v : Val) : v.cnt = 4 + ((v.list.map Val.cnt).sum + (v.columns.map cOne).sum + (v.rows.map cRow).sum) := by
  cases v; simp only [Val.cnt, Val.cnts_eq, vl, vc, vr]; omega
end Go.Ab
end
section
namespace Go.Ab
set_option linter.unusedVariables false
set_option linter.unusedSimpArgs false
def kb : List Val → List Int → Bool
  | [], _ => false
  | _ :: _, [] => false
  | x :: r, k :: ks => (x.kind != k) || kb r ks
end Go.Ab
end
section
namespace Go.Ab
set_option linter.unusedVariables false
set_option linter.unusedSimpArgs false
def pick (k : Int) (n : Int) (rs : List Rowd) : List Rowd := rs.filter fun r => r.cells.getD k.toNat Ty.int.dflt == n
end Go.Ab
end
section
namespace Go.Ab
set_option linter.unusedVariables false
set_option linter.unusedSimpArgs false
def Rea.size (b : Rea) : Nat := b.text.length + b.result.size
theorem szRead_big {b : Rea} (h : b.Fit maxLen) : Big fun N => ∀ l, 0 ≤ l → l ≤ 1048576 → xDJ N b l = some (left b.size l) :=
  (szValue_eq h.2.2.2.2).imp fun N hv l h0 h1 => szThen h.2.2.2.1 h0 h1 rfl fun m m0 m1 => left_two (hv m m0 m1)
theorem xD7 {x0 : List Rea} (h : LFit maxLen (Rea.Fit maxLen) x0) : Big fun N => ∀ l, 0 ≤ l → l ≤ 1048576 → xDs N x0 l = some (left (x0.length + (x0.map Rea.size).sum) l) :=
  ((Big.list fun x hx => szRead_big (h.2 x hx)).and (xD8 x0.length)).imp fun N ⟨hx, hn⟩ l h0 h1 =>
    szThen h.1 h0 h1 rfl fun m hm0 hm1 => szLoop (L := fun n x0 x1 x5 => xC6 N n x0 x1 x5) (d := Ty.rea.dflt) (sz := xDJ N) (fun _ _ _ => rfl) h.1 (fun x hxm l h0 h1 => hx x hxm l h0 h1) hn hm0 hm1
theorem Rea.fit_size {K M : Nat} {r : Rea} (h : r.Fit M) (hs : r.size ≤ K) : r.Fit K := by
  unfold Rea.size at hs
  exact ⟨h.1, h.2.1, h.2.2.1, show List.length _ ≤ K by omega, Val.fit_size _ h.2.2.2.2 (by omega)⟩
theorem toRead_big {b : Rea} (h : b.Fit 1048576) : Big fun N => xDr N b = some b := (toValue_eq h.2.2.2.2).imp fun N hv => by simp [xDr, hv]
theorem toReadS_big {x0 : List Rea} (h : LFit 1048576 (Rea.Fit 1048576) x0) : Big fun N => xBu N x0 = some x0 :=
  ((Big.list fun x hx => toRead_big (h.2 x hx)).and (xD8 x0.length)).imp fun N ⟨hx, hn⟩ => by
    have hl : x0.length ≤ 1048576 := h.1
    unfold xBu
    rw [if_pos ⟨by omega, rfl, by unfold Lim; omega⟩]
    exact toLoop (L := fun n x0 x3 x4 => xC7 N n x0 x3 x4) (to := xDr N) (re := fun r => Rea.mk (Rea.kind r) (Rea.n r) (Rea.time r) (Rea.text r) (Val.re (Rea.result r))) (fun _ _ _ => rfl) (by omega) (fun x hxm => ⟨x, hx x hxm, by simp [Val.re_eq]⟩) hn
theorem eqRead_big {b : Rea} {K : Nat} (h : b.Fit K) (hK : K ≤ 9223372036854775807) : Big fun N => xDG N b b = some true := (eqValue_self h.2.2.2.2 hK).imp fun N hv => by simp [xDG, hv]
theorem xEQ {x0 : List Rea} {K : Nat} (h : LFit K (Rea.Fit K) x0) (hK : K ≤ 9223372036854775807) : Big fun N => xB7 N x0 x0 = some true :=
  ((Big.list fun x hx => eqRead_big (h.2 x hx) hK).and (xD8 x0.length)).imp fun N ⟨hx, hn⟩ => by
    have hl : x0.length ≤ K := h.1
    unfold xB7
    rw [bne_self_eq_false, cond_false]
    exact eqLoop (x0 := x0) (L := fun n i => xCg N n x0 x0 i) (fun n => by simp [xCg]) (fun i x n hi hxi hm => by
      have hi' : (i : Int) < (x0.length : Int) := by omega
      simp only [xCg, decide_eq_true hi', cond_true, Int.toNat_natCast, xBg hxi, hx x hm, Option.bind_some, xAR hi (by omega : x0.length ≤ _), Bool.not_true, cond_false]
      rw [if_pos (by omega), if_pos (by omega)]) hn
end Go.Ab
end
section
namespace Go.Ab
set_option linter.unusedVariables false
set_option linter.unusedSimpArgs false
def cRea (b : Rea) : Nat := 8 + ((b.result.list.map Val.cnt).sum + (b.result.columns.map cOne).sum + (b.result.rows.map cRow).sum)
theorem cRea_le (xs : List Rea) : (xs.map cRea).sum ≤ 8 * (xs.length + (xs.map Rea.size).sum) := sum_le_mul fun x _ => by
  have h1 := Val.cnt_le x.result
  have h2 := valCnt x.result
  unfold cRea Rea.size
  omega
theorem xEj {K : Nat} (hK : K ≤ 137438953472) {xs : List Rea} (h : LFit K (Rea.Fit K) xs) :
    Big fun N => ∀ k0 : Int, 1 ≤ k0 → k0 + ((xs.map cRea).sum : Nat) ≤ 137438953472 → ∃ ys, ys.length = xs.length ∧ xCx N xs k0 = some (k0 + ((xs.map cRea).sum : Nat), ys) ∧ xCX N ys k0 = some (k0 + ((xs.map cRea).sum : Nat)) := by
  have hm : Big fun N => ∀ x ∈ xs, MarkV N N x.result.list := Big.list fun x hx => (markV_big hK x.result (h.2 x hx).2.2.2.2).diag
  refine (hm.and ((xD8 274877906944).and (xD8 xs.length))).imp fun N ⟨hm, hN, hn⟩ k0 hk0 hk1 => ?_
  have hlen : xs.length ≤ K := h.1
  exact xEF (Lm := fun n xs k i => xBQ N n xs k i) (Lh := fun n ys k i => xBN N n ys k i) (c := cRea) (x0 := xs) (k0 := k0) (B := 137438953472) (n := N) (fun n xs k hl => by simp [xBQ]) (fun n ys k hl => by simp [xBN])
    (fun x hx k hk hB => by
      have hcx : cRea x = 8 + ((x.result.list.map Val.cnt).sum + (x.result.columns.map cOne).sum + (x.result.rows.map cRow).sum) := rfl
      rw [hcx] at hB ⊢
      have hrows : x.result.rows.length ≤ K := (Val.fit_iff.1 (h.2 x hx).2.2.2.2).2.2.2.2.2.2.1
      obtain ⟨t, ht⟩ := xDV hN (k := k + 1 + 1 + 1) (by omega) (by omega)
      obtain ⟨t2, ht2⟩ := xDV hN (k := k + 1 + 1 + 1 + 1 + 1 + 1 + 1) (by omega) (by omega)
      obtain ⟨ya, a1, a2, a3⟩ := hm x hx (k + 1 + 1 + 1 + 1 + 1 + 1 + 1 + 1) (by omega) (by omega)
      obtain ⟨yb, b1, b2, b3⟩ := xEo hN (xs := x.result.columns) (k := k + 1 + 1 + 1 + 1 + 1 + 1 + 1 + 1 + ((x.result.list.map Val.cnt).sum : Nat)) (by omega) (by omega)
      obtain ⟨yc, c1, c2, c3⟩ := markRowS_held hN (xs := x.result.rows) (k := k + 1 + 1 + 1 + 1 + 1 + 1 + 1 + 1 + ((x.result.list.map Val.cnt).sum : Nat) + ((x.result.columns.map cOne).sum : Nat)) (by omega) (by omega) (by omega)
      have a2' : xD4 N x.result.list (k + 1 + 1 + 1 + 1 + 1 + 1 + 1 + 1) = _ := a2
      have a3' : xD2 N ya (k + 1 + 1 + 1 + 1 + 1 + 1 + 1 + 1) = _ := a3
      have w1 : IntKind.i64.wrap (k + 1) = k + 1 := xBf (by omega) (by omega)
      have w2 : IntKind.i64.wrap (k + 1 + 1) = k + 1 + 1 := xBf (by omega) (by omega)
      have w3 : IntKind.i64.wrap (k + 1 + 1 + 1) = k + 1 + 1 + 1 := xBf (by omega) (by omega)
      have w4 : IntKind.i64.wrap (k + 1 + 1 + 1 + 1) = k + 1 + 1 + 1 + 1 := xBf (by omega) (by omega)
      have w5 : IntKind.i64.wrap (k + 1 + 1 + 1 + 1 + 1) = k + 1 + 1 + 1 + 1 + 1 := xBf (by omega) (by omega)
      have w6 : IntKind.i64.wrap (k + 1 + 1 + 1 + 1 + 1 + 1) = k + 1 + 1 + 1 + 1 + 1 + 1 := xBf (by omega) (by omega)
      have w7 : IntKind.i64.wrap (k + 1 + 1 + 1 + 1 + 1 + 1 + 1) = k + 1 + 1 + 1 + 1 + 1 + 1 + 1 := xBf (by omega) (by omega)
      have w8 : IntKind.i64.wrap (k + 1 + 1 + 1 + 1 + 1 + 1 + 1 + 1) = k + 1 + 1 + 1 + 1 + 1 + 1 + 1 + 1 := xBf (by omega) (by omega)
      refine ⟨⟨k, k + 1, k + 1 + 1, t, .mk (k + 1 + 1 + 1 + 1) (k + 1 + 1 + 1 + 1 + 1) (k + 1 + 1 + 1 + 1 + 1 + 1) t2 ya yb yc⟩, fun n xs' i hl hxi => ?_, fun n ys i hl hyi => ?_⟩
      · have hi := (List.getElem?_eq_some_iff.1 hxi).1
        have hi' : (i : Int) < (xs'.length : Int) := by omega
        have hcd : (0 : Int) ≤ (i : Int) ∧ (i : Int) < (xs'.length : Int) := by omega
        simp only [xBQ, decide_eq_true hi', cond_true, Int.toNat_natCast, xBg hxi, List.length_set, xDT hi, List.set_set, xAR hi (by omega : xs'.length ≤ _), if_pos hcd, w1, w2, w3, w4, w5, w6, w7, w8, ht, ht2, Option.bind_some, Val.re_eq, vk, vn, vs, vt, vl, vc, vr,
          a2', b2, c2, if_pos a1, if_pos b1, if_pos c1]
        congr 1
        omega
      · have hi := (List.getElem?_eq_some_iff.1 hyi).1
        have hi' : (i : Int) < (ys.length : Int) := by omega
        have hcd : (0 : Int) ≤ (i : Int) ∧ (i : Int) < (ys.length : Int) := by omega
        simp only [xBN, decide_eq_true hi', cond_true, Int.toNat_natCast, xBg hyi, xAR hi (by omega : ys.length ≤ _), if_pos hcd, w1, w2, w3, w4, w5, w6, w7, w8, ht, ht2, Option.bind_some, vk, vn, vs, vt, vl, vc, vr, a3', b3, c3, beq_self_eq_true, bne_self_eq_false, Bool.not_true, cond_false]
        rw [decide_eq_false (by omega), cond_false, decide_eq_false (by omega), cond_false, decide_eq_false (by omega), cond_false]
        congr 1
        omega) (by omega) hn
def xEV (a b : Rea) : Bool := a.kind == b.kind && (a.n == b.n && (a.text == b.text && a.time == b.time))
def addR (acc : List Rea) (b : Rea) : List Rea := bif acc.any fun x => xEV x b then acc else acc ++ [b]
def xEf (a b : List Rea) : List Rea := b.foldl addR a
theorem Rea.eta (r : Rea) : Rea.mk r.kind r.n r.time r.text r.result = r := rfl
theorem spec_same_eq (N : Nat) (a b : Rea) : xDt N a b = some (xEV a b) := by
  unfold xDt xEV
  cases (a.kind == b.kind) <;> cases (a.n == b.n) <;> cases (a.text == b.text) <;> rfl
theorem impl_same_eq (N : Nat) (a b : Rea) : xDa N a b = some (xEV a b) := by
  unfold xDa xEV
  cases (a.kind == b.kind) <;> cases (a.n == b.n) <;> cases (a.text == b.text) <;> rfl
def findR (b : Rea) : List Rea → Val × Bool
  | [] => (Val.mk 0 0 0 [] [] [] [], false)
  | x :: r => bif xEV x b then (x.result, true) else findR b r
theorem findR_any (b : Rea) (l : List Rea) : (findR b l).2 = l.any fun x => xEV x b := by
  induction l with
  | nil => rfl
  | cons x r ih =>
    unfold findR
    rw [List.any_cons]
    cases xEV x b
    · rw [cond_false, ih, Bool.false_or]
    · rfl
theorem spec_Find_eq {N : Nat} {xs : List Rea} {b : Rea} (hc : ∀ x ∈ xs, xCA N x.result = some x.result) (hl : xs.length ≤ 137438953472) (hn : xs.length < N) : xDB N xs b = some (findR b xs) := by
  have key := xDu (σ := Unit) (L := fun n i _ => xBH N n xs i b (Val.mk 0 0 0 [] [] [] [])) xs (fun l _ => findR b l) (fun _ _ => True) (fun n s _ => by simp [xBH, findR])
    (fun i x l s hd hi hxi _ => by
      have hi' : (i : Int) < (xs.length : Int) := by omega
      have hcd : (0 : Int) ≤ (i : Int) ∧ (i : Int) < (xs.length : Int) := by omega
      cases h : xEV x b
      · refine .inl ⟨(), trivial, by simp only [findR, h, cond_false], fun n => ?_⟩
        simp only [xBH, decide_eq_true hi', cond_true, Int.toNat_natCast, xBg hxi, if_pos hcd, spec_same_eq, h, Option.bind_some, cond_false, xAR hi (by omega : xs.length ≤ _)]
      · refine .inr fun n => ?_
        simp only [xBH, decide_eq_true hi', cond_true, Int.toNat_natCast, xBg hxi, if_pos hcd, spec_same_eq, h, Option.bind_some, hc x (List.mem_of_getElem? hxi), findR]) N 0 () trivial (by omega) (by omega)
  exact key
theorem impl_Find_eq {N : Nat} {xs : List Rea} {b : Rea} (hc : ∀ x ∈ xs, xBv N x.result = some x.result) (hl : xs.length ≤ 137438953472) (hn : xs.length < N) : xDv N xs b = some (findR b xs) := by
  have key := xDu (σ := Unit) (L := fun n i _ => xBE N n xs xs.length i b (Val.mk 0 0 0 [] [] [] [])) xs (fun l _ => findR b l) (fun _ _ => True) (fun n s _ => by simp [xBE, findR])
    (fun i x l s hd hi hxi _ => by
      have hi' : (i : Int) < (xs.length : Int) := by omega
      have hcd : (0 : Int) ≤ (i : Int) ∧ (i : Int) < (xs.length : Int) := by omega
      cases h : xEV x b
      · refine .inl ⟨(), trivial, by simp only [findR, h, cond_false], fun n => ?_⟩
        simp only [xBE, decide_eq_true hi', cond_true, Int.toNat_natCast, xBg hxi, if_pos hcd, impl_same_eq, h, Option.bind_some, cond_false, xAR hi (by omega : xs.length ≤ _)]
      · refine .inr fun n => ?_
        simp only [xBE, decide_eq_true hi', cond_true, Int.toNat_natCast, xBg hxi, if_pos hcd, impl_same_eq, h, Option.bind_some, hc x (List.mem_of_getElem? hxi), findR]) N 0 () trivial (by omega) (by omega)
  exact key
theorem spec_Reads_eq {N : Nat} {xs : List Rea} (hc : ∀ x ∈ xs, xCA N x.result = some x.result) (hl : xs.length ≤ 137438953472) (hn : xs.length < N) : xDC N xs = some xs := by
  have key := xDu (L := fun m i q => xB4 N m xs q i) xs (fun l q => q ++ l) (fun i q => q.length = i) (fun m q hq => by simp [xB4])
    (fun i x l q hd hi hxi hq => by
      have hq : q.length = i := hq
      have hi' : (i : Int) < (xs.length : Int) := by omega
      refine .inl ⟨q ++ [x], by simp [hq], by simp, fun m => ?_⟩
      simp only [xB4, xC8, decide_eq_true hi', cond_true, Int.toNat_natCast, xBg hxi, hc x (List.mem_of_getElem? hxi), Option.bind_some, Val.re_eq, Rea.eta, xAR hi (by omega : xs.length ≤ _)]
      rw [if_pos (by omega), if_pos (by simp only [List.length_cons, List.length_nil]; unfold Lim; omega)]) N 0 [] rfl (by omega) (by omega)
  exact key
theorem impl_Reads_eq {N : Nat} {xs : List Rea} (hc : ∀ x ∈ xs, xBv N x.result = some x.result) (hl : xs.length ≤ 137438953472) (hn : xs.length < N) : xCt N xs = some xs := by
  have key := xDu (L := fun m i q => xBI N m q xs xs.length i) xs (fun l q => q ++ l) (fun i q => q.length = i) (fun m q hq => by simp [xBI])
    (fun i x l q hd hi hxi hq => by
      have hq : q.length = i := hq
      have hi' : (i : Int) < (xs.length : Int) := by omega
      refine .inl ⟨q ++ [x], by simp [hq], by simp, fun m => ?_⟩
      simp only [xBI, decide_eq_true hi', cond_true, Int.toNat_natCast, xBg hxi, hc x (List.mem_of_getElem? hxi), Option.bind_some, Val.re_eq, Rea.eta, xAR hi (by omega : xs.length ≤ _)]
      rw [if_pos (by omega), if_pos (by simp only [List.length_cons, List.length_nil]; unfold Lim; omega)]) N 0 [] rfl (by omega) (by omega)
  exact key
theorem addR_len (s : List Rea) (b : Rea) : (addR s b).length ≤ s.length + 1 := by
  unfold addR
  cases s.any fun x => xEV x b
  · rw [cond_false, List.length_append]; exact Nat.le_refl _
  · exact Nat.le_succ _
theorem addR_mem {s : List Rea} {b x : Rea} (h : x ∈ addR s b) : x ∈ s ∨ x = b := by
  unfold addR at h
  cases hs : s.any fun x => xEV x b
  · rw [hs, cond_false, List.mem_append, List.mem_singleton] at h; exact h
  · rw [hs, cond_true] at h; exact .inl h
theorem addR_sum (f : Rea → Nat) (s : List Rea) (b : Rea) : ((addR s b).map f).sum ≤ (s.map f).sum + f b := by
  unfold addR
  cases s.any fun x => xEV x b
  · rw [cond_false, List.map_append, List.sum_append]; simp
  · exact Nat.le_add_right _ _
theorem mergeR_facts (f : Rea → Nat) : ∀ (b a : List Rea), (xEf a b).length ≤ a.length + b.length ∧ (∀ x ∈ xEf a b, x ∈ a ∨ x ∈ b) ∧ ((xEf a b).map f).sum ≤ (a.map f).sum + (b.map f).sum := by
  intro b
  induction b with
  | nil => intro a; exact ⟨Nat.le_refl _, fun x h => .inl h, by show (a.map f).sum ≤ _; omega⟩
  | cons y b ih =>
    intro a
    obtain ⟨h1, h2, h3⟩ := ih (addR a y)
    have e : xEf a (y :: b) = xEf (addR a y) b := rfl
    rw [e]
    have g1 := addR_len a y
    have g3 := addR_sum f a y
    refine ⟨by simp only [List.length_cons]; omega, fun x hx => ?_, by simp only [List.map_cons, List.sum_cons]; omega⟩
    rcases h2 x hx with h | h
    · rcases addR_mem h with h | h
      · exact .inl h
      · exact .inr (by rw [h]; exact List.mem_cons_self)
    · exact .inr (List.mem_cons_of_mem _ h)
theorem spec_Merge_eq {N : Nat} {a b : List Rea} (ha : ∀ x ∈ a, xCA N x.result = some x.result) (hb : ∀ x ∈ b, xCA N x.result = some x.result) (hl : a.length + b.length ≤ 137438953472) (hn : a.length + b.length < N) :
    xCI N a b = some (xEf a b) := by
  have key := xDu (L := fun m i q => xBi N m b q i) b (fun l q => xEf q l) (fun i q => q.length ≤ a.length + i ∧ ∀ x ∈ q, xCA N x.result = some x.result) (fun m q hq => by simp [xBi, xEf])
    (fun i x l q hd hi hxi hq => by
      have hq1 : q.length ≤ a.length + i := hq.1
      have hi' : (i : Int) < (b.length : Int) := by omega
      have hcd : (0 : Int) ≤ (i : Int) ∧ (i : Int) < (b.length : Int) := by omega
      have hx := hb x (List.mem_of_getElem? hxi)
      refine .inl ⟨addR q x, ⟨?_, fun y hy => ?_⟩, rfl, fun m => ?_⟩
      · have := addR_len q x
        omega
      · rcases addR_mem hy with h | h
        · exact hq.2 y h
        · rw [h]; exact hx
      · simp only [xBi, xC8, decide_eq_true hi', cond_true, Int.toNat_natCast, xBg hxi, if_pos hcd, spec_Find_eq (b := x) hq.2 (by omega) (by omega), findR_any, Option.bind_some, hx, Val.re_eq, Rea.eta, xAR hi (by omega : b.length ≤ _), addR]
        cases q.any fun y => xEV y x
        · simp only [Bool.not_false, cond_true, cond_false]
          rw [if_pos (by simp only [List.length_cons, List.length_nil]; unfold Lim; omega)]
        · rfl) N 0 a ⟨Nat.le_refl _, ha⟩ (by omega) (by omega)
  unfold xCI
  rw [spec_Reads_eq ha (by omega) (by omega), Option.bind_some]
  exact key
theorem impl_Merge_eq {N : Nat} {a b : List Rea} (ha : ∀ x ∈ a, xBv N x.result = some x.result) (hb : ∀ x ∈ b, xBv N x.result = some x.result) (hl : a.length + b.length ≤ 137438953472) (hn : a.length + b.length + 1 < N) :
    xCf N a b = some (xEf a b) := by
  have key := xDu (L := fun m i q => xBh N m q b b.length i) b (fun l q => xEf q l) (fun i q => q.length ≤ a.length + i ∧ ∀ x ∈ q, xBv N x.result = some x.result) (fun m q hq => by simp [xBh, xEf])
    (fun i x l q hd hi hxi hq => by
      have hq1 : q.length ≤ a.length + i := hq.1
      have hi' : (i : Int) < (b.length : Int) := by omega
      have hcd : (0 : Int) ≤ (i : Int) ∧ (i : Int) < (b.length : Int) := by omega
      have hx := hb x (List.mem_of_getElem? hxi)
      refine .inl ⟨addR q x, ⟨?_, fun y hy => ?_⟩, rfl, fun m => ?_⟩
      · have := addR_len q x
        omega
      · rcases addR_mem hy with h | h
        · exact hq.2 y h
        · rw [h]; exact hx
      · have h1 : xCt N [x] = some [x] := impl_Reads_eq (fun y hy => by rw [List.mem_singleton] at hy; rw [hy]; exact hx) (by simp) (by simp; omega)
        simp only [xBh, decide_eq_true hi', cond_true, Int.toNat_natCast, xBg hxi, if_pos hcd, impl_Find_eq (b := x) hq.2 (by omega) (by omega), findR_any, Option.bind_some, Val.re_eq, Rea.eta, h1, xAR hi (by omega : b.length ≤ _), addR]
        cases q.any fun y => xEV y x
        · simp only [Bool.not_false, cond_true, cond_false]
          rw [if_pos (by simp only [List.length_cons, List.length_nil]; unfold Lim; omega)]
        · rfl) N 0 a ⟨Nat.le_refl _, ha⟩ (by omega) (by omega)
  unfold xCf
  rw [impl_Reads_eq ha (by omega) (by omega), Option.bind_some]
  exact key
theorem xEO {a0 : List Rea} (f0 : ∀ z ∈ [CV.sl .ro .rea a0], DFit z.toD) : LFit maxLen (Rea.Fit maxLen) a0 := (cell_sl (f0 _ List.mem_cons_self).dk).imp fun x => rea_fit.1
theorem xD0 (a0 : List Rea) (a1 : List Rea) (f0 : ∀ z ∈ [CV.sl .ro .rea a0], DFit z.toD) (f1 : ∀ z ∈ [CV.sl .ro .rea a1], DFit z.toD) : ∃ N, xA6 N a0 a1 = some true := by
  have hF := xEO f0
  have hG := xEO f1
  by_cases h : left (a0.length + (a0.map Rea.size).sum) 1048576 < 0
  · exact ((xD7 hF).imp fun N hs => by simp [xA6, hs 1048576 (by omega) (by omega), h]).get
  · have hge := left_ge h
    rw [left_of hge] at h
    by_cases h' : left (a1.length + (a1.map Rea.size).sum) (1048576 - ((a0.length + (a0.map Rea.size).sum : Nat) : Int)) < 0
    · refine (((xD7 hF).and (xD7 hG)).imp fun N ⟨hs, hv⟩ => ?_).get
      have e1 := hs 1048576 (by omega) (by omega)
      rw [left_of hge] at e1
      unfold xA6
      rw [e1, Option.bind_some, decide_eq_false h, cond_false, hv _ (by omega) (by omega), Option.bind_some, decide_eq_true h', cond_true]
    · have hge' := left_ge h'
      have hs : LFit 1048576 (Rea.Fit 1048576) a0 := xEC (f := Rea.size) hF (by omega) fun x _ => Rea.fit_size
      have ht : LFit 1048576 (Rea.Fit 1048576) a1 := xEC (f := Rea.size) hG (by omega) fun x _ => Rea.fit_size
      obtain ⟨g1, g2, g3⟩ := mergeR_facts cRea a1 a0
      have hr : LFit 1048576 (Rea.Fit 1048576) (xEf a0 a1) := ⟨by omega, fun x hx => (g2 x hx).elim (hs.2 x) (ht.2 x)⟩
      have b0 := cRea_le a0
      have b1 := cRea_le a1
      have hk : (1048576 : Nat) ≤ 137438953472 := by omega
      have cp : ∀ l : List Rea, LFit 1048576 (Rea.Fit 1048576) l → Big fun N => (∀ x ∈ l, xCA N x.result = some x.result) ∧ ∀ x ∈ l, xBv N x.result = some x.result :=
        fun l hl => (Big.list fun x hx => spec_copy_eq' (hl.2 x hx).2.2.2.2 hk).and (Big.list fun x hx => impl_copy_eq' (hl.2 x hx).2.2.2.2 hk)
      refine ((((xD7 hF).and (xD7 hG)).and ((toReadS_big hs).and (toReadS_big ht))).and ((((xEQ hs (by omega)).and (xEQ ht (by omega))).and (xEQ hr (by omega))).and
        (((cp a0 hs).and (cp a1 ht)).and (((xEj hk hs).and (xEj hk ht)).and ((xEj hk hr).and (xD8 (a0.length + a1.length + 1))))))).imp
        (fun N ⟨⟨⟨z0, z1⟩, t0, t1⟩, ⟨⟨q0, q1⟩, q2⟩, ⟨⟨c0, c1⟩, c2, c3⟩, ⟨m0, m1⟩, m2, hN⟩ => ?_) |>.get
      have e1 := z0 1048576 (by omega) (by omega)
      rw [left_of hge] at e1
      have e2 := z1 _ (by omega : 0 ≤ 1048576 - ((a0.length + (a0.map Rea.size).sum : Nat) : Int)) (by omega)
      have e3 := spec_Merge_eq (N := N) (a := a0) (b := a1) c0 c2 (by omega) (by omega)
      have e4 := impl_Merge_eq (N := N) (a := a0) (b := a1) c1 c3 (by omega) (by omega)
      obtain ⟨ya, u1, u2, _⟩ := m0 1 (by omega) (by omega)
      obtain ⟨yb, v1, v2, _⟩ := m1 (1 + ((a0.map cRea).sum : Nat)) (by omega) (by omega)
      obtain ⟨yc, o1, o2, o3⟩ := m2 1 (by omega) (by omega)
      unfold xA6
      rw [e1, Option.bind_some, decide_eq_false h, cond_false, e2, Option.bind_some, decide_eq_false h', cond_false]
      simp only [t0, t1, e3, e4, q0, q1, q2, u2, v2, o2, o3, if_pos u1, if_pos v1, if_pos o1, Option.bind_some, Bool.not_true, cond_false, decide_eq_false (by omega : ¬ 1 + ((a0.map cRea).sum : Int) + ((a1.map cRea).sum : Int) < 0), decide_eq_false (by omega : ¬ 1 + (((xEf a0 a1).map cRea).sum : Int) < 0), bne_self_eq_false]
end Go.Ab
end
section
namespace Go.Proofs.Ytkbojckenecnbaa
open Go.Ab Go.ChangeShapes Go.WideShapes Go.ChangeAt Go.RowKit
set_option linter.unusedVariables false
theorem own : ownKnob Try.prog.godebug = none := by kernel_rfl
theorem laidOut : laidOutB Try.prog = true := by kernel_rfl
theorem xDE : ktChk Try.prog [(3, .int), (9, .str), (40, .val), (47, .rea), (137, .org), (148, .row)] = true := by kernel_rfl
set_option maxRecDepth 100000 in
theorem fnExactMergeReads_lifted (os : Os) (started : os.Started) (H : Type) (enc : TypeId × Value → H) :
    ReturnsInHanded {} Try.checked os 6 .any (Rows.fnExactMergeReadsSpec.pre6 enc Try.prog Try.f6 Rows.fnExactMergeReadsRow.domain false) (Rows.fnExactMergeReadsSpec.post enc Try.prog Try.f6 false true false false) := by
  refine returnsInHanded_of_change (C := Try.checked) own started (by kernel_rfl) Try.func6
    (ChangeSpec.witness6 (enc := enc) (C := Try.checked) false ⟨#[], #[.slice none 0 0, .slice none 0 0], []⟩ 8 (by kernel_rfl) (by kernel_rfl) (by kernel_rfl) (by kernel_rfl)) ?_
  intro W base args ds gs before hval0 hW hcnd _
  have hval : ∀ (j : Nat) t v, Try.f6.params[j]? = some t → args[j]? = some v → Value.okWide Try.prog W .any base t v := hval0
  have hW' := hW
  obtain ⟨p, q, hA0, hV, rfl, hfz, hnd⟩ := hW
  have hA : DataW.TrodAll enc Try.prog W 0 (fun _ => true) true Try.f6.params.toList args.toList ds p := hA0
  rw [Try.params6] at hA hval
  obtain ⟨v0, vs0, d0, ds0, p0, q0, hargs, rfl, rfl, h0, r0⟩ := trodAll_cons hA
  obtain ⟨v1, vs1, d1, ds1, p1, q1, rfl, rfl, rfl, h1, r1⟩ := trodAll_cons r0
  obtain ⟨rfl, rfl, rfl⟩ := trodAll_nil r1
  obtain rfl : args = #[v0, v1] := by cases args; simp_all
  obtain ⟨rfl, rfl⟩ := trodVars_none hV
  have lt0 : ∀ x ∈ p0, x.block < W.heap.size := by obtain ⟨m, hm⟩ := h0; exact DataW.trod_lt m _ _ _ hm
  have lt1 : ∀ x ∈ p1, x.block < W.heap.size := by obtain ⟨m, hm⟩ := h1; exact DataW.trod_lt m _ _ _ hm
  obtain ⟨z0, e0, f0, vr0⟩ := vr_of xDE (g := false) (t := 45) (ns := [.inr .rea]) (by kernel_rfl) (hval 0 45 v0 rfl rfl) h0
  obtain ⟨x0_0, _, rfl, e0_0⟩ := AreOf.sl_inv e0
  obtain rfl := e0_0.nil_inv
  obtain ⟨z1, e1, f1, vr1⟩ := vr_of xDE (g := false) (t := 45) (ns := [.inr .rea]) (by kernel_rfl) (hval 1 45 v1 rfl rfl) h1
  obtain ⟨x1_0, _, rfl, e1_0⟩ := AreOf.sl_inv e1
  obtain rfl := e1_0.nil_inv
  obtain ⟨N, hF⟩ := xD0 x0_0 x1_0 f0 f1
  clear hA0 hval0
  refine (calls_of T.fk6 (T.laws_FnExactMergeReads_ok hF) (W := W) (args := #[v0, v1]) ⟨vr0 _, vr1 _, trivial⟩).mono fun e W' ⟨he, bel⟩ => ?_
  subst he
  exact ⟨_, rfl, _, _, _, [], _, [], hW', trodAll_mk1 (shut_bool Try.underlying4 _), (trodAll_cons_mk (Below.trod laidOut (by kernel_rfl) (of_decide_eq_true (by kernel_rfl)) h0 bel lt0) (trodAll_cons_mk (Below.trod laidOut (by kernel_rfl) (of_decide_eq_true (by kernel_rfl)) h1 bel lt1) trodAll_mk0)), rfl, bel.frame _, fun h => by cases h⟩
theorem fnExactMergeReads_proved : Rows.FnExactMergeReadsSaid :=
  OpenClaim.holds_of_wide 6 Try.f6 rfl rfl rfl rfl rfl rfl rfl ⟨rfl, rfl, rfl, rfl, rfl⟩ rfl rfl rfl rfl rfl (by kernel_rfl) Try.func6 (by kernel_rfl)
    (of_decide_eq_true (by kernel_rfl)) (by unfold Func.isWrapper; first | (rw [if_pos (by decide +kernel)]; kernel_rfl) | (rw [if_neg (by decide +kernel)]; exact ⟨rfl, rfl⟩))
    (fun os started H enc _ => fnExactMergeReads_lifted os started H enc)
end Go.Proofs.Ytkbojckenecnbaa
end
