/- The statement FnExactTakeOf holds: plain functions, certificates, laws. Conditions: none. -/
import Derived.Test.YtnfikhfcblcmpaaL2
import Derived.Test.YtnfikhfcblcmpaaFnExactTakeOfP2
set_option linter.all false
section
namespace Go.Ab
set_option linter.unusedVariables false
set_option linter.unusedSimpArgs false
mutual
def Val.dep : Val → Int
  | .mk _ _ _ _ l _ _ => Val.deps l 0 + 1
def Val.deps : List Val → Int → Int
  | [], m => m
  | x :: r, m => Val.deps r (if x.dep > m then x.dep else m)
end
def depG : List Val → Int → Int
  | [], m => m
  | x :: r, m => depG r (if x.dep > m then x.dep else m)
theorem deps_eq : ∀ (l : List Val) (m : Int), Val.deps l m = depG l m
  | [], m => rfl
  | x :: r, m => by rw [Val.deps, deps_eq r]; rfl
theorem dep_eq (v : Val) : v.dep = depG v.list 0 + 1 := by cases v; simp only [Val.dep, deps_eq, vl]
theorem depG_le : ∀ {l : List Val} {m : Int}, m ≤ depG l m ∧ ∀ x ∈ l, x.dep ≤ depG l m
  | [], m => ⟨Int.le_refl m, fun x hx => by cases hx⟩
  | x :: r, m => by
    obtain ⟨h1, h2⟩ := depG_le (l := r) (m := if x.dep > m then x.dep else m)
    show m ≤ depG r (if x.dep > m then x.dep else m) ∧ ∀ y ∈ x :: r, y.dep ≤ depG r (if x.dep > m then x.dep else m)
    have h3 : m ≤ (if x.dep > m then x.dep else m) ∧ x.dep ≤ (if x.dep > m then x.dep else m) := by split <;> omega
    refine ⟨Int.le_trans h3.1 h1, fun y hy => ?_⟩
    rcases List.mem_cons.1 hy with rfl | hy
    · exact Int.le_trans h3.2 h1
    · exact h2 y hy
theorem depG_max {B : Int} : ∀ {l : List Val} {m : Int}, m ≤ B → (∀ x ∈ l, x.dep ≤ B) → depG l m ≤ B
  | [], m, h, _ => h
  | x :: r, m, h, hx => by
    show depG r (if x.dep > m then x.dep else m) ≤ B
    refine depG_max ?_ fun y hy => hx y (List.mem_cons_of_mem _ hy)
    have := hx x List.mem_cons_self
    split <;> omega
theorem impl_Depth_step {N d : Nat} {v : Val} (hn : v.list.length < N) (hl : v.list.length ≤ 9223372036854775807) (hB : v.dep ≤ 1000000000) (hx : ∀ x ∈ v.list, xDD N d x = some x.dep) : xDD N (d + 1) v = some v.dep := by
  have hd := dep_eq v
  have h0 := (depG_le (l := v.list) (m := 0)).1
  rw [hd]
  exact xFK (L := fun m i q => xD5 N (xDD N d) m q v.list v.list.length i) v.list (fun l q => depG l q + 1) (fun i q => depG (v.list.drop i) q = depG v.list 0)
    (fun m q hq => by
      have hq : depG (v.list.drop v.list.length) q = depG v.list 0 := hq
      rw [List.drop_length] at hq
      have hq : q = depG v.list 0 := hq
      simp only [xD5, Int.lt_irrefl, decide_false, cond_false]
      rw [xCr (by omega) (by omega)]; rfl)
    (fun i x l q hd' hi hxi hq => by
      have hi' : (i : Int) < (v.list.length : Int) := by omega
      have hq : depG (v.list.drop i) q = depG v.list 0 := hq
      refine .inl ⟨if x.dep > q then x.dep else q, ?_, rfl, fun m => ?_⟩
      · show depG (v.list.drop (i + 1)) _ = _
        rw [hd'] at hq
        rw [(drop_cons hd').2.2, ← hq]; rfl
      · simp only [xD5, decide_eq_true hi', cond_true, Int.toNat_natCast, xBl hxi, hx x (List.mem_of_getElem? hxi), Option.bind_some, xAS hi hl]
        rw [if_pos (by omega)]) N 0 0 rfl (by omega) (by omega)
theorem spec_Depth_step {N d : Nat} {v : Val} (hn : v.list.length < N) (hl : v.list.length ≤ 9223372036854775807) (hB : v.dep ≤ 1000000000) (hx : ∀ x ∈ v.list, xDP N d x = some x.dep) : xDP N (d + 1) v = some v.dep := by
  have hd := dep_eq v
  have h0 := (depG_le (l := v.list) (m := 0)).1
  rw [hd]
  exact xFK (L := fun m i q => xEc N (xDP N d) m q i v) v.list (fun l q => depG l q + 1) (fun i q => depG (v.list.drop i) q = depG v.list 0)
    (fun m q hq => by
      have hq : depG (v.list.drop v.list.length) q = depG v.list 0 := hq
      rw [List.drop_length] at hq
      have hq : q = depG v.list 0 := hq
      simp only [xEc, Int.lt_irrefl, decide_false, cond_false]
      rw [xCr (by omega) (by omega)]; rfl)
    (fun i x l q hd' hi hxi hq => by
      have hi' : (i : Int) < (v.list.length : Int) := by omega
      have hq : depG (v.list.drop i) q = depG v.list 0 := hq
      have hm : xGQ N q x.dep = some (if x.dep > q then x.dep else q) := by
        unfold xGQ
        by_cases h : q > x.dep
        · rw [decide_eq_true h, if_neg (by omega)]; rfl
        · rw [decide_eq_false h]
          by_cases h' : x.dep > q
          · rw [if_pos h']; rfl
          · rw [if_neg h', show x.dep = q by omega]; rfl
      refine .inl ⟨if x.dep > q then x.dep else q, ?_, rfl, fun m => ?_⟩
      · show depG (v.list.drop (i + 1)) _ = _
        rw [hd'] at hq
        rw [(drop_cons hd').2.2, ← hq]; rfl
      · simp only [xEc, decide_eq_true hi', cond_true, Int.toNat_natCast, xBl hxi, hx x (List.mem_of_getElem? hxi), Option.bind_some, hm, xAS hi hl]
        rw [if_pos (by omega)]) N 0 0 rfl (by omega) (by omega)
theorem depth_big {K : Nat} (hK : K ≤ 4611686018427387904) : ∀ v : Val, v.Fit K → v.dep ≤ 1000000000 → Big2 fun N d => xDD N d v = some v.dep ∧ xDP N d v = some v.dep := by
  refine Val.ind fun k n s t a c r ih h hB => ?_
  have h5 := (Val.fit_iff.1 h).2.2.2.2.1
  have hl : a.length ≤ K := h5.1
  refine Big2.succ ?_
  have hx : ∀ x ∈ a, x.dep ≤ 1000000000 := fun x hx => by
    have := (depG_le (l := a) (m := 0)).2 x hx
    have h2 := dep_eq (.mk k n s t a c r)
    rw [vl] at h2
    omega
  refine ((Big2.list fun x hxm => ih x hxm (h5.2 x hxm) (hx x hxm)).and (xGS K).two).imp fun N d ⟨hx, hN⟩ => ⟨?_, ?_⟩
  · exact impl_Depth_step (v := .mk k n s t a c r) (by show a.length < N; omega) (by show a.length ≤ _; omega) hB fun x hxm => (hx x hxm).1
  · exact spec_Depth_step (v := .mk k n s t a c r) (by show a.length < N; omega) (by show a.length ≤ _; omega) hB fun x hxm => (hx x hxm).2
def elemK (v : Val) : Bool := (v.kind == 1) || ((v.kind == 2) || (v.kind == 3))
def emp {α : Type} (l : List α) : Bool := decide (l.length = 0)
mutual
def xEC : Val → Bool
  | .mk k n s t l c r =>
    bif k == 1 then emp l && (emp c && (emp r && ((s == 0) && ((t == []) && xGo n))))
    else bif k == 2 then emp l && (emp c && (emp r && ((n == 0) && ((s == 0) && textOk t))))
    else bif k == 4 then emp l && (emp c && (emp r && ((t == []) && (xGo n && xGo s))))
    else bif k == 6 then emp l && (emp c && (emp r && ((s == 0) && ((t == []) && (decide (1 ≤ n) && decide (n ≤ 8))))))
    else bif k == 5 then emp l && ((n == 0) && ((s == 0) && ((t == []) && tableOk c r)))
    else bif k == 3 then valsOk l && ((n == 0) && ((s == 0) && ((t == []) && (emp c && (emp r && (decide (l.length ≤ 8) && decide (Val.deps l 0 + 1 ≤ 3)))))))
    else false
def valsOk : List Val → Bool
  | [] => true
  | x :: r => (elemK x && xEC x) && valsOk r
end
theorem valsOk_eq : ∀ l : List Val, valsOk l = l.all fun x => elemK x && xEC x
  | [] => rfl
  | x :: r => by simp only [valsOk, List.all_cons, valsOk_eq r]
theorem allI_all {α : Type} {f : α → Bool} : ∀ (l : List α) (i : Nat), allI (fun _ => f) l i = l.all f
  | [], _ => rfl
  | x :: r, i => by simp only [allI, List.all_cons, allI_all r (i + 1)]
theorem valOk_dep : ∀ v : Val, xEC v = true → v.dep ≤ 3 := by
  intro v
  cases v with
  | mk k n s t l c r =>
    intro h
    rw [dep_eq, vl]
    have hnil : emp l = true → depG l 0 + 1 ≤ 3 := fun h => by
      have h : l.length = 0 := of_decide_eq_true h
      rw [List.length_eq_zero_iff.1 h]
      show (0 : Int) + 1 ≤ 3
      omega
    simp only [xEC] at h
    cases h1 : (k == 1)
    · cases h2 : (k == 2)
      · cases h3 : (k == 4)
        · cases h4 : (k == 6)
          · cases h5 : (k == 5)
            · cases h6 : (k == 3)
              · rw [h1, h2, h3, h4, h5, h6] at h; cases h
              · rw [h1, h2, h3, h4, h5, h6] at h
                simp only [cond_true, cond_false, Bool.and_eq_true, decide_eq_true_eq, deps_eq] at h
                exact h.2.2.2.2.2.2.2
            · rw [h1, h2, h3, h4, h5] at h; simp only [cond_true, cond_false, Bool.and_eq_true] at h; exact hnil h.1
          · rw [h1, h2, h3, h4] at h; simp only [cond_true, cond_false, Bool.and_eq_true] at h; exact hnil h.1
        · rw [h1, h2, h3] at h; simp only [cond_true, cond_false, Bool.and_eq_true] at h; exact hnil h.1
      · rw [h1, h2] at h; simp only [cond_true, cond_false, Bool.and_eq_true] at h; exact hnil h.1
    · rw [h1] at h; simp only [cond_true, cond_false, Bool.and_eq_true] at h; exact hnil h.1
theorem lenZ {α : Type} (l : List α) : (((l.length : Nat) : Int) == 0) = emp l := by
  unfold emp
  by_cases h : l.length = 0
  · rw [h]; rfl
  · rw [decide_eq_false h]; exact beq_eq_false_iff_ne.2 (by omega)
theorem lenP {α : Type} (l : List α) : decide (((l.length : Nat) : Int) > 0) = !emp l := by
  unfold emp
  by_cases h : l.length = 0
  · rw [h]; rfl
  · rw [decide_eq_false h, decide_eq_true (by omega)]; rfl
theorem lenP2 {α β : Type} {l : List α} {r : List β} (h1 : l.length ≤ 4611686018427387903) (h2 : r.length ≤ 4611686018427387903) : decide (IntKind.i64.wrap (((l.length : Nat) : Int) + ((r.length : Nat) : Int)) > 0) = !(emp l && emp r) := by
  unfold emp
  rw [xCr (by omega) (by omega)]
  by_cases h : l.length = 0 <;> by_cases h' : r.length = 0
  · rw [decide_eq_false (by omega), decide_eq_true h, decide_eq_true h']; rfl
  · rw [decide_eq_true (by omega), decide_eq_true h, decide_eq_false h']; rfl
  · rw [decide_eq_true (by omega), decide_eq_false h]; rfl
  · rw [decide_eq_true (by omega), decide_eq_false h]; rfl
theorem impl_vals_b15 {N d : Nat} {v : Val} (hl : v.list.length ≤ 9223372036854775807) (hn : v.list.length < N) (hd : (∀ x ∈ v.list, xEC x = true) → xGA N v = some v.dep) (hx : ∀ x ∈ v.list, xBb N d x = some (xEC x)) :
    xA5 N (xBb N d) N v.list v.list.length 0 v = some (valsOk v.list && ((v.n == 0) && ((v.step == 0) && ((v.text == []) && (emp v.columns && (emp v.rows && (decide (v.list.length ≤ 8) && decide (v.dep ≤ 3)))))))) := by
  have h := xGf (L := fun n i => xA5 N (xBb N d) n v.list v.list.length i v) (x0 := v.list) (p := fun _ x => elemK x && xEC x) (fun n => by simp only [xA5, Int.lt_irrefl, decide_false, cond_false]; rfl) (fun i x n hi hxi hm => by
    have hi' : (i : Int) < (v.list.length : Int) := by omega
    simp only [xA5, decide_eq_true hi', cond_true, Int.toNat_natCast, xBl hxi, xAS hi hl, hx x hm, Option.bind_some, elemK, bne]
    rw [if_pos (by omega)]
    cases (x.kind == 1) <;> cases (x.kind == 2) <;> cases (x.kind == 3) <;> cases xEC x <;> rfl) hn
  have h : xA5 N (xBb N d) N v.list v.list.length 0 v = _ := h
  rw [h, allI_all, valsOk_eq]
  cases hv : v.list.all fun x => elemK x && xEC x
  · rfl
  · rw [cond_true, lenZ, lenZ, show decide (((v.list.length : Nat) : Int) ≤ 8) = decide (v.list.length ≤ 8) from by
      by_cases h : v.list.length ≤ 8
      · rw [decide_eq_true h, decide_eq_true (by omega)]
      · rw [decide_eq_false h, decide_eq_false (by omega)]]
    rw [hd fun x hx => by have := List.all_eq_true.1 hv x hx; rw [Bool.and_eq_true] at this; exact this.2]
    simp only [Option.bind_some, Bool.true_and]
    cases (v.n == 0) <;> cases (v.step == 0) <;> cases (v.text == []) <;> cases emp v.columns <;> cases emp v.rows <;> cases decide (v.list.length ≤ 8) <;> rfl
theorem spec_vals_b2 {N d : Nat} {v : Val} (hl : v.list.length ≤ 9223372036854775807) (hn : v.list.length < N) (hd : (∀ x ∈ v.list, xEC x = true) → xG9 N v = some v.dep) (hx : ∀ x ∈ v.list, (xAG N d).c_spec_IsValidValue x = some (xEC x)) :
    (xAG N (d + 1)).c_spec_l3List v = some (valsOk v.list && (decide (v.list.length ≤ 8) && decide (v.dep ≤ 3))) := by
  show xDq N (xAG N d).c_spec_IsValidValue (xAG N d).c_spec_l3List N 0 v = _
  have h := xGf (L := fun n i => xDq N (xAG N d).c_spec_IsValidValue (xAG N d).c_spec_l3List n i v) (x0 := v.list) (p := fun _ x => elemK x && xEC x) (fun n => by simp only [xDq, Int.lt_irrefl, decide_false, cond_false]; rfl) (fun i x n hi hxi hm => by
    have hi' : (i : Int) < (v.list.length : Int) := by omega
    simp only [xDq, xFV, decide_eq_true hi', cond_true, Int.toNat_natCast, xBl hxi, xAS hi hl, hx x hm, Option.bind_some, elemK]
    rw [if_pos (by omega)]
    cases (x.kind == 1) <;> cases (x.kind == 2) <;> cases (x.kind == 3) <;> cases xEC x <;> rfl) hn
  have h : xDq N (xAG N d).c_spec_IsValidValue (xAG N d).c_spec_l3List N 0 v = _ := h
  rw [h, allI_all, valsOk_eq]
  cases hv : v.list.all fun x => elemK x && xEC x
  · rfl
  · rw [cond_true, show decide (((v.list.length : Nat) : Int) ≤ 8) = decide (v.list.length ≤ 8) from by
      by_cases h : v.list.length ≤ 8
      · rw [decide_eq_true h, decide_eq_true (by omega)]
      · rw [decide_eq_false h, decide_eq_false (by omega)]]
    rw [hd fun x hx => by have := List.all_eq_true.1 hv x hx; rw [Bool.and_eq_true] at this; exact this.2]
    simp only [Option.bind_some, Bool.true_and]
    cases decide (v.list.length ≤ 8) <;> rfl
theorem valOk_eq (v : Val) : xEC v =
    bif v.kind == 1 then emp v.list && (emp v.columns && (emp v.rows && ((v.step == 0) && ((v.text == []) && xGo v.n))))
    else bif v.kind == 2 then emp v.list && (emp v.columns && (emp v.rows && ((v.n == 0) && ((v.step == 0) && textOk v.text))))
    else bif v.kind == 4 then emp v.list && (emp v.columns && (emp v.rows && ((v.text == []) && (xGo v.n && xGo v.step))))
    else bif v.kind == 6 then emp v.list && (emp v.columns && (emp v.rows && ((v.step == 0) && ((v.text == []) && (decide (1 ≤ v.n) && decide (v.n ≤ 8))))))
    else bif v.kind == 5 then emp v.list && ((v.n == 0) && ((v.step == 0) && ((v.text == []) && tableOk v.columns v.rows)))
    else bif v.kind == 3 then valsOk v.list && ((v.n == 0) && ((v.step == 0) && ((v.text == []) && (emp v.columns && (emp v.rows && (decide (v.list.length ≤ 8) && decide (v.dep ≤ 3)))))))
    else false := by
  cases v
  simp only [xEC, vk, vn, vs, vt, vl, vc, vr, Val.dep]
  rfl
theorem vals_depth {v : Val} (h : ∀ x ∈ v.list, xEC x = true) : v.dep ≤ 1000000000 := by
  rw [dep_eq]
  have := depG_max (B := 3) (l := v.list) (m := 0) (by omega) fun x hx => valOk_dep x (h x hx)
  omega
theorem kind_cases (k : Int) : (k == 1) = true ∧ (k == 2) = false ∧ (k == 3) = false ∧ (k == 4) = false ∧ (k == 5) = false ∧ (k == 6) = false ∨
    (k == 1) = false ∧ (k == 2) = true ∧ (k == 3) = false ∧ (k == 4) = false ∧ (k == 5) = false ∧ (k == 6) = false ∨
    (k == 1) = false ∧ (k == 2) = false ∧ (k == 3) = true ∧ (k == 4) = false ∧ (k == 5) = false ∧ (k == 6) = false ∨
    (k == 1) = false ∧ (k == 2) = false ∧ (k == 3) = false ∧ (k == 4) = true ∧ (k == 5) = false ∧ (k == 6) = false ∨
    (k == 1) = false ∧ (k == 2) = false ∧ (k == 3) = false ∧ (k == 4) = false ∧ (k == 5) = true ∧ (k == 6) = false ∨
    (k == 1) = false ∧ (k == 2) = false ∧ (k == 3) = false ∧ (k == 4) = false ∧ (k == 5) = false ∧ (k == 6) = true ∨
    (k == 1) = false ∧ (k == 2) = false ∧ (k == 3) = false ∧ (k == 4) = false ∧ (k == 5) = false ∧ (k == 6) = false := by
  simp only [beq_iff_eq, beq_eq_false_iff_ne, ne_eq]
  omega
theorem impl_Valid_step {N d K : Nat} {v : Val} (h : v.Fit K) (hK : 24 ≤ K ∧ K ≤ 4611686018427387903) (hN : K < N) (hd : (∀ x ∈ v.list, xEC x = true) → xGA N v = some v.dep) (hx : ∀ x ∈ v.list, xBb N d x = some (xEC x)) :
    xBb N (d + 1) v = some (xEC v) := by
  obtain ⟨h1, h2, h3, h4, h5, h6, h7⟩ := Val.fit_iff.1 h
  have hl : v.list.length ≤ K := h5.1
  have ht : v.text.length ≤ K := h4
  have hb := impl_vals_b15 (d := d) (by omega : v.list.length ≤ 9223372036854775807) (by omega) hd hx
  show xCs N (xBb N d) v = _
  rw [valOk_eq]
  simp only [xCs, lenZ, xGG, xEv, xIe (N := N) (s := v.text) (by omega) (by omega), impl_isTable_eq h (by omega) hN, hb, Option.bind_some]
  rcases kind_cases v.kind with ⟨a1, a2, a3, a4, a5, a6⟩ | ⟨a1, a2, a3, a4, a5, a6⟩ | ⟨a1, a2, a3, a4, a5, a6⟩ | ⟨a1, a2, a3, a4, a5, a6⟩ | ⟨a1, a2, a3, a4, a5, a6⟩ | ⟨a1, a2, a3, a4, a5, a6⟩ | ⟨a1, a2, a3, a4, a5, a6⟩ <;>
    simp only [a1, a2, a3, a4, a5, a6, cond_true, cond_false]
  · cases emp v.list <;> cases emp v.columns <;> cases emp v.rows <;> cases (v.step == 0) <;> cases (v.text == []) <;> rfl
  · cases emp v.list <;> cases emp v.columns <;> cases emp v.rows <;> cases (v.n == 0) <;> cases (v.step == 0) <;> rfl
  · cases emp v.list <;> cases emp v.columns <;> rfl
  · cases emp v.list <;> cases emp v.columns <;> cases emp v.rows <;> cases (v.text == []) <;> cases xGo v.n <;> rfl
  · cases emp v.list <;> cases emp v.columns <;> cases (v.n == 0) <;> cases (v.step == 0) <;> cases (v.text == []) <;> rfl
  · cases emp v.list <;> cases emp v.columns <;> cases emp v.rows <;> cases (v.step == 0) <;> cases (v.text == []) <;> rfl
  · cases emp v.list <;> cases emp v.columns <;> rfl
theorem spec_Valid_step {N d K : Nat} {v : Val} (h : v.Fit K) (hK : 24 ≤ K ∧ K ≤ 4611686018427387903) (hN : K < N) (hb : (xAG N d).c_spec_l3List v = some (valsOk v.list && (decide (v.list.length ≤ 8) && decide (v.dep ≤ 3)))) :
    (xAG N (d + 1)).c_spec_IsValidValue v = some (xEC v) := by
  obtain ⟨h1, h2, h3, h4, h5, h6, h7⟩ := Val.fit_iff.1 h
  have hc : v.columns.length ≤ K := h6.1
  have hr : v.rows.length ≤ K := h7.1
  have ht : v.text.length ≤ K := h4
  show xCt N (xAG N d).c_spec_IsValidValue (xAG N d).c_spec_l3List v = _
  rw [valOk_eq]
  simp only [xCt, lenP, lenP2 (l := v.columns) (r := v.rows) (by omega) (by omega), xGI, xF2, xG3 (N := N) (s := v.text) (by omega) (by omega), spec_l3Table_eq h (by omega) hN, hb, Option.bind_some, bne]
  rcases kind_cases v.kind with ⟨a1, a2, a3, a4, a5, a6⟩ | ⟨a1, a2, a3, a4, a5, a6⟩ | ⟨a1, a2, a3, a4, a5, a6⟩ | ⟨a1, a2, a3, a4, a5, a6⟩ | ⟨a1, a2, a3, a4, a5, a6⟩ | ⟨a1, a2, a3, a4, a5, a6⟩ | ⟨a1, a2, a3, a4, a5, a6⟩ <;>
    simp only [a1, a2, a3, a4, a5, a6, cond_true, cond_false, Bool.not_true, Bool.not_false]
  · cases emp v.list <;> cases emp v.columns <;> cases emp v.rows <;> cases (v.step == 0) <;> cases (v.text == []) <;> rfl
  · cases emp v.list <;> cases emp v.columns <;> cases emp v.rows <;> cases (v.n == 0) <;> cases (v.step == 0) <;> rfl
  · cases emp v.columns <;> cases emp v.rows <;> cases (v.n == 0) <;> cases (v.step == 0) <;> cases (v.text == []) <;> cases valsOk v.list <;> rfl
  · cases emp v.list <;> cases emp v.columns <;> cases emp v.rows <;> cases (v.text == []) <;> cases xGo v.n <;> rfl
  · cases emp v.list <;> cases (v.n == 0) <;> cases (v.step == 0) <;> cases (v.text == []) <;> rfl
  · cases emp v.list <;> cases emp v.columns <;> cases emp v.rows <;> cases (v.step == 0) <;> cases (v.text == []) <;> rfl
  · cases emp v.list <;> cases emp v.columns <;> cases emp v.rows <;> cases (v.step == 0) <;> cases (v.text == []) <;> rfl
theorem depth_of {K : Nat} (hK : K ≤ 4611686018427387904) {v : Val} (h : v.Fit K) : Big fun N => (∀ x ∈ v.list, xEC x = true) → xGA N v = some v.dep ∧ xG9 N v = some v.dep := by
  by_cases hv : ∀ x ∈ v.list, xEC x = true
  · exact (depth_big hK v h (vals_depth hv)).diag.imp fun N h _ => h
  · exact .of fun N h => absurd h hv
theorem Big2.up {p : Nat → Nat → Prop} (h : Big2 p) : Big2 fun N d => p N (d + 1) := h.elim fun k hk => ⟨k, fun N d h1 h2 => hk N (d + 1) h1 (by omega)⟩
theorem valid_big {K : Nat} (hK : 24 ≤ K ∧ K ≤ 4611686018427387903) : ∀ v : Val, v.Fit K → Big2 fun N d => xBb N d v = some (xEC v) ∧ (xAG N d).c_spec_IsValidValue v = some (xEC v) := by
  refine Val.ind fun k n s t a c r ih h => ?_
  have h5 := (Val.fit_iff.1 h).2.2.2.2.1
  have hl : a.length ≤ K := h5.1
  have hb : Big2 fun N d => ∀ x ∈ a, xBb N d x = some (xEC x) ∧ (xAG N d).c_spec_IsValidValue x = some (xEC x) := Big2.list fun x hx => ih x hx (h5.2 x hx)
  refine Big2.succ (Big2.succ ?_)
  refine (hb.and (hb.up.and ((depth_of (by omega) h).and (xGS K)).two)).imp fun N d ⟨hx, hy, hd, hN⟩ => ⟨?_, ?_⟩
  · exact impl_Valid_step h hK hN (fun hv => (hd hv).1) fun x hxm => (hy x hxm).1
  · exact spec_Valid_step h hK hN (spec_vals_b2 (v := .mk k n s t a c r) (by show a.length ≤ _; omega) (by show a.length < _; omega) (fun hv => (hd hv).2) fun x hxm => (hx x hxm).2)
theorem valid_eq {K : Nat} (hK : 24 ≤ K ∧ K ≤ 4611686018427387903) {v : Val} (h : v.Fit K) : Big fun N => xGg N v = some (xEC v) ∧ xGp N v = some (xEC v) := (valid_big hK v h).diag
end Go.Ab
end
section
namespace Go.Ab
set_option linter.unusedVariables false
set_option linter.unusedSimpArgs false
def errV (c : Int) : Val := .mk 6 c 0 [] [] [] []
def numV (c : Int) : Val := .mk 1 c 0 [] [] [] []
def nilV : Val := .mk 0 0 0 [] [] [] []
def opG : List Val → Val × Bool × Bool
  | [] => (nilV, false, false)
  | v :: r => bif !xEC v then (errV 4, true, false) else bif v.kind == 6 then (v, true, true) else opG r
theorem emp_nil {α : Type} {l : List α} (h : emp l = true) : l = [] := List.length_eq_zero_iff.1 (of_decide_eq_true h)
theorem err_eta {v : Val} (h : xEC v = true) (hk : (v.kind == 6) = true) : v = errV v.n := by
  rw [valOk_eq] at h
  have hk' := eq_of_beq hk
  rw [hk'] at h
  simp only [show ((6 : Int) == 1) = false from rfl, show ((6 : Int) == 2) = false from rfl, show ((6 : Int) == 4) = false from rfl, show ((6 : Int) == 6) = true from rfl, cond_true, cond_false, Bool.and_eq_true] at h
  obtain ⟨h1, h2, h3, h4, h5, _⟩ := h
  have e := Val.eta v
  rw [emp_nil h1, emp_nil h2, emp_nil h3, eq_of_beq h4, eq_of_beq h5, hk'] at e
  exact e.symm
theorem opG_flat : ∀ {l : List Val}, (opG l).1.list = [] ∧ (opG l).1.columns = [] ∧ (opG l).1.rows = [] ∧ (opG l).1.text = [] ∧ (opG l).1.step = 0
  | [] => ⟨rfl, rfl, rfl, rfl, rfl⟩
  | v :: r => by
    simp only [opG]
    cases hv : xEC v
    · exact ⟨rfl, rfl, rfl, rfl, rfl⟩
    · cases hk : (v.kind == 6)
      · exact opG_flat (l := r)
      · simp only [Bool.not_true, cond_false, cond_true]
        rw [err_eta hv hk]
        exact ⟨rfl, rfl, rfl, rfl, rfl⟩
theorem opG_i64 {K : Nat} : ∀ {l : List Val}, (∀ x ∈ l, x.Fit K) → I64 (opG l).1.kind ∧ I64 (opG l).1.n
  | [], _ => ⟨xGy (by show (-1000000 : Int) ≤ 0; omega) (by show (0 : Int) ≤ 1000000; omega), xGy (by show (-1000000 : Int) ≤ 0; omega) (by show (0 : Int) ≤ 1000000; omega)⟩
  | v :: r, h => by
    simp only [opG]
    cases hv : xEC v
    · exact ⟨xGy (by show (-1000000 : Int) ≤ 6; omega) (by show (6 : Int) ≤ 1000000; omega), xGy (by show (-1000000 : Int) ≤ 4; omega) (by show (4 : Int) ≤ 1000000; omega)⟩
    · cases hk : (v.kind == 6)
      · exact opG_i64 fun x hx => h x (List.mem_cons_of_mem _ hx)
      · have := Val.fit_iff.1 (h v List.mem_cons_self)
        exact ⟨this.1, this.2.1⟩
theorem flat_eta {v : Val} (h1 : v.list = []) (h2 : v.columns = []) (h3 : v.rows = []) : Val.mk v.kind v.n v.step v.text [] [] [] = v := by
  have e := Val.eta v
  rw [h1, h2, h3] at e
  exact e
theorem operandError_eq {K : Nat} (hK : 24 ≤ K ∧ K ≤ 4611686018427387903) {l : List Val} (h : ∀ x ∈ l, x.Fit K) (hl : l.length ≤ K) : Big fun N => xEI N l = some (opG l) ∧ xGF N l = some ((opG l).1, (opG l).2.1) := by
  refine ((Big.list fun x hx => valid_eq hK (h x hx)).and (xGS K)).imp fun N ⟨hv, hN⟩ => ⟨?_, ?_⟩
  · exact xFK (σ := Unit) (L := fun m i _ => xBO N m l l.length i (Val.mk 0 0 0 [] [] [] [])) l (fun r _ => opG r) (fun _ _ => True) (fun m _ _ => by simp only [xBO, Int.lt_irrefl, decide_false, cond_false]; rfl)
      (fun i x r _ hd hi hx _ => by
        have hi' : (i : Int) < (l.length : Int) := by omega
        have hm := List.mem_of_getElem? hx
        cases h1 : xEC x
        · refine .inr fun m => ?_
          simp only [xBO, decide_eq_true hi', cond_true, Int.toNat_natCast, xBl hx, (hv x hm).1, h1, Option.bind_some, Bool.not_false, xAZ, opG]
          rw [if_pos (by omega)]; rfl
        · cases h2 : (x.kind == 6)
          · refine .inl ⟨(), trivial, by simp only [opG, h1, h2, Bool.not_true, cond_false], fun m => ?_⟩
            simp only [xBO, decide_eq_true hi', cond_true, Int.toNat_natCast, xBl hx, (hv x hm).1, h1, h2, Option.bind_some, Bool.not_true, cond_false, xAS hi (by omega : l.length ≤ _)]
            rw [if_pos (by omega)]
          · refine .inr fun m => ?_
            simp only [xBO, decide_eq_true hi', cond_true, Int.toNat_natCast, xBl hx, (hv x hm).1, h1, h2, Option.bind_some, Bool.not_true, cond_false, opG]
            rw [if_pos (by omega)]) N 0 () trivial (by omega) (by omega)
  · exact xFK (σ := Unit) (L := fun m i _ => xC3 N m l i (Val.mk 0 0 0 [] [] [] [])) l (fun r _ => ((opG r).1, (opG r).2.1)) (fun _ _ => True) (fun m _ _ => by simp only [xC3, Int.lt_irrefl, decide_false, cond_false]; rfl)
      (fun i x r _ hd hi hx _ => by
        have hi' : (i : Int) < (l.length : Int) := by omega
        have hm := List.mem_of_getElem? hx
        cases h1 : xEC x
        · refine .inr fun m => ?_
          simp only [xC3, decide_eq_true hi', cond_true, Int.toNat_natCast, xBl hx, (hv x hm).2, h1, Option.bind_some, Bool.not_false, xA6, opG]
          rw [if_pos (by omega)]; rfl
        · cases h2 : (x.kind == 6)
          · refine .inl ⟨(), trivial, by simp only [opG, h1, h2, Bool.not_true, cond_false], fun m => ?_⟩
            simp only [xC3, decide_eq_true hi', cond_true, Int.toNat_natCast, xBl hx, (hv x hm).2, h1, h2, Option.bind_some, Bool.not_true, cond_false, xAS hi (by omega : l.length ≤ _)]
            rw [if_pos (by omega)]
          · refine .inr fun m => ?_
            simp only [xC3, decide_eq_true hi', cond_true, Int.toNat_natCast, xBl hx, (hv x hm).2, h1, h2, Option.bind_some, Bool.not_true, cond_false, opG, xA6]
            rw [if_pos (by omega), err_eta h1 h2]; rfl) N 0 () trivial (by omega) (by omega)
def Flat (v : Val) : Prop := v.list = [] ∧ v.columns = [] ∧ v.rows = [] ∧ v.text = [] ∧ I64 v.kind ∧ I64 v.n ∧ I64 v.step
theorem Flat.fit {v : Val} (h : Flat v) (K : Nat) : v.Fit K := by
  obtain ⟨h1, h2, h3, h4, h5, h6, h7⟩ := h
  refine Val.fit_iff.2 ⟨h5, h6, h7, ?_, ?_, ?_, ?_⟩
  · rw [h4]; exact Nat.zero_le _
  · rw [h1]; exact lfit_nil
  · rw [h2]; exact lfit_nil
  · rw [h3]; exact lfit_nil
theorem Flat.cnt {v : Val} (h : Flat v) : v.cnt = 4 := by
  rw [valCnt, h.1, h.2.1, h.2.2.1]; rfl
theorem flat_opG {K : Nat} {l : List Val} (h : ∀ x ∈ l, x.Fit K) : Flat (opG l).1 := by
  obtain ⟨h1, h2, h3, h4, h5⟩ := opG_flat (l := l)
  obtain ⟨i1, i2⟩ := opG_i64 h
  exact ⟨h1, h2, h3, h4, i1, i2, by rw [h5]; exact xGy (by omega) (by omega)⟩
theorem flat_mk {k n s : Int} (h1 : I64 k) (h2 : I64 n) (h3 : I64 s) : Flat (.mk k n s [] [] [] []) := ⟨rfl, rfl, rfl, rfl, h1, h2, h3⟩
theorem flat_err {c : Int} (h : I64 c) : Flat (errV c) := flat_mk (xGy (by omega) (by omega)) h (xGy (by omega) (by omega))
theorem flat_num {c : Int} (h : I64 c) : Flat (numV c) := flat_mk (xGy (by omega) (by omega)) h (xGy (by omega) (by omega))
theorem markE_eq {N : Nat} (hN : 274877906944 < N) {v : Val} (k : Int) : xDO N v k = some k := by
  obtain ⟨n, rfl⟩ : ∃ n, N = n + 1 := ⟨N - 1, by omega⟩
  simp [xDO, xEK, xEp, xFx, xEE, xEr, xFo]
theorem heldFlat_eq {N : Nat} (hN : 274877906944 < N) {a b c : Int} {t : Str} {k : Int} (hk : 0 ≤ k) : xA9 N (.mk a b c t [] [] []) k = some k := by
  obtain ⟨n, rfl⟩ : ∃ n, N = n + 1 := ⟨N - 1, by omega⟩
  have h : ¬ k < 0 := by omega
  simp [xA9, vl, vc, vr, xF8, xDj, xDR, xCp, xDK, xCg, xEV, xC7, decide_eq_false h]
theorem opG_tag : ∀ {l : List Val}, (opG l).2.1 = false → (opG l).2.2 = false
  | [], _ => rfl
  | v :: r, h => by
    simp only [opG] at h ⊢
    cases hv : xEC v
    · rfl
    · cases hk : (v.kind == 6)
      · rw [hv, hk] at h
        exact opG_tag (l := r) h
      · rw [hv, hk] at h; cases h
end Go.Ab
end
section
namespace Go.Ab
set_option linter.unusedVariables false
set_option linter.unusedSimpArgs false
def kb : List Val → List Int → Bool
  | [], _ => false
  | _ :: _, [] => false
  | x :: r, k :: ks => (x.kind != k) || kb r ks
end Go.Ab
end
section
namespace Go.Ab
set_option linter.unusedVariables false
set_option linter.unusedSimpArgs false
theorem opG_ok : ∀ {l : List Val}, (opG l).2.1 = false → ∀ x ∈ l, xEC x = true
  | [], _, x, hx => by cases hx
  | v :: r, h, x, hx => by
    simp only [opG] at h
    cases hv : xEC v
    · rw [hv] at h; cases h
    · cases hk : (v.kind == 6)
      · rw [hv, hk] at h
        rcases List.mem_cons.1 hx with rfl | hx
        · exact hv
        · exact opG_ok (l := r) h x hx
      · rw [hv, hk] at h; cases h
def pick (k : Int) (n : Int) (rs : List Rowd) : List Rowd := rs.filter fun r => r.cells.getD k.toNat Ty.int.dflt == n
def Good1 (K : Nat) (r : Val × Bool) : Prop := r.1.Fit K ∧ r.1.cnt ≤ 100000000000 ∧ (r.2 = true → Flat r.1)
theorem Flat.good {r : Val × Bool} (h : Flat r.1) : Good1 1048576 r := ⟨h.fit _, by rw [h.cnt]; omega, fun _ => h⟩
end Go.Ab
end
section
namespace Go.Ab
set_option linter.unusedVariables false
set_option linter.unusedSimpArgs false
theorem two_fit {K : Nat} {a b : Val} (ha : a.Fit K) (hb : b.Fit K) : ∀ x ∈ [a, b], x.Fit K := fun x hx => by
  simp only [List.mem_cons, List.not_mem_nil, or_false] at hx
  rcases hx with rfl | rfl
  · exact ha
  · exact hb
theorem cnt_sum4 : ∀ {l : List Val}, (∀ x ∈ l, x.cnt = 4) → (l.map Val.cnt).sum = 4 * l.length
  | [], _ => rfl
  | x :: l, h => by
    have := cnt_sum4 fun y hy => h y (List.mem_cons_of_mem x hy)
    simp only [List.map_cons, List.sum_cons, List.length_cons, h x List.mem_cons_self, this]
    omega
theorem listV_fit {K : Nat} {l : List Val} (h : LFit K (Val.Fit K) l) : (Val.mk 3 0 0 [] l [] []).Fit K :=
  Val.fit_iff.2 ⟨xGy (by show (-1000000 : Int) ≤ 3; omega) (by show (3 : Int) ≤ 1000000; omega), xGy (by show (-1000000 : Int) ≤ 0; omega) (by show (0 : Int) ≤ 1000000; omega), xGy (by show (-1000000 : Int) ≤ 0; omega) (by show (0 : Int) ≤ 1000000; omega), Nat.zero_le _, h, lfit_nil, lfit_nil⟩
theorem listV_cnt (l : List Val) : (Val.mk 3 0 0 [] l [] []).cnt = 4 + (l.map Val.cnt).sum := by
  rw [valCnt, vl, vc, vr]; simp only [List.map_nil, List.sum_nil]; omega
end Go.Ab
end
section
namespace Go.Ab
set_option linter.unusedVariables false
set_option linter.unusedSimpArgs false
def law2 (I : Val → Val → Option (Val × Bool)) (S : Val → Val → Option Val) (N : Nat) (a0 a1 : Val) : Option Bool :=
  Option.bind (xF1 N a0 1048576) fun r1 =>
  bif (decide ((r1 : Int) < 0)) then (
    some true
  ) else (
    Option.bind (xF1 N a1 r1) fun r2 =>
    bif (decide ((r2 : Int) < 0)) then (
      some true
    ) else (
      Option.bind (xA8 N a0) fun r3 =>
      Option.bind (xA8 N a1) fun r4 =>
      Option.bind (S r3 r4) fun r5 =>
      Option.bind (xA8 N a0) fun r6 =>
      Option.bind (xA8 N a1) fun r7 =>
      Option.bind (I r6 r7) fun r8 =>
      bif r8.2 then (
        if List.isEmpty (Val.list r8.1) = true then
        if List.isEmpty (Val.columns r8.1) = true then
        if List.isEmpty (Val.rows r8.1) = true then
        Option.bind (xA7 N (Val.mk (Val.kind r8.1) (Val.n r8.1) (Val.step r8.1) (Val.text r8.1) [] [] []) r5) fun r9 =>
        bif (!r9) then (
          some false
        ) else (
          Option.bind (xA8 N a0) fun r10 =>
          Option.bind (xA7 N r6 r10) fun r11 =>
          bif (!r11) then (
            some false
          ) else (
            Option.bind (xA8 N a1) fun r12 =>
            Option.bind (xA7 N r7 r12) fun r13 =>
            bif (!r13) then (
              some false
            ) else (
              Option.bind (xBz N r6 1) fun r14 =>
              if List.length r14.2.1 = List.length (Val.list r6) then
              if List.length r14.2.2.1 = List.length (Val.columns r6) then
              if List.length r14.2.2.2 = List.length (Val.rows r6) then
              Option.bind (xBz N r7 r14.1) fun r15 =>
              if List.length r15.2.1 = List.length (Val.list r7) then
              if List.length r15.2.2.1 = List.length (Val.columns r7) then
              if List.length r15.2.2.2 = List.length (Val.rows r7) then
              bif (decide ((r15.1 : Int) < 0)) then (
                some false
              ) else (
                Option.bind (xA7 N (Val.mk (Val.kind r8.1) (Val.n r8.1) (Val.step r8.1) (Val.text r8.1) [] [] []) r5) fun r16 =>
                bif (!r16) then (
                  some false
                ) else (
                  Option.bind (xDO N (Val.mk (Val.kind r8.1) (Val.n r8.1) (Val.step r8.1) (Val.text r8.1) [] [] []) 1) fun r17 =>
                  Option.bind (xA9 N (Val.mk (Val.kind r8.1) (Val.n r8.1) (Val.step r8.1) (Val.text r8.1) [] [] []) 1) fun r18 =>
                  bif (decide ((r18 : Int) < 0)) then (
                    some false
                  ) else (
                    bif ((r18 : Int) != r17) then (
                      some false
                    ) else (
                      Option.bind (xA8 N a0) fun r19 =>
                      Option.bind (xA8 N a1) fun r20 =>
                      Option.bind (I r19 r20) fun r21 =>
                      bif r21.2 then (
                        if List.isEmpty (Val.list r21.1) = true then
                        if List.isEmpty (Val.columns r21.1) = true then
                        if List.isEmpty (Val.rows r21.1) = true then
                        Option.bind (xA7 N (Val.mk (Val.kind r21.1) (Val.n r21.1) (Val.step r21.1) (Val.text r21.1) [] [] []) r5) fun r22 =>
                        bif (!r22) then (
                          some false
                        ) else (
                          Option.bind (xA9 N (Val.mk (Val.kind r8.1) (Val.n r8.1) (Val.step r8.1) (Val.text r8.1) [] [] []) 1) fun r23 =>
                          bif (decide ((r23 : Int) < 0)) then (
                            some false
                          ) else (
                            bif ((r23 : Int) != r17) then (
                              some false
                            ) else (
                              some true
                            )
                          )
                        )
                        else none
                        else none
                        else none
                      ) else (
                        Option.bind (xA7 N r21.1 r5) fun r22 =>
                        bif (!r22) then (
                          some false
                        ) else (
                          Option.bind (xA9 N (Val.mk (Val.kind r8.1) (Val.n r8.1) (Val.step r8.1) (Val.text r8.1) [] [] []) 1) fun r23 =>
                          bif (decide ((r23 : Int) < 0)) then (
                            some false
                          ) else (
                            bif ((r23 : Int) != r17) then (
                              some false
                            ) else (
                              some true
                            )
                          )
                        )
                      )
                    )
                  )
                )
              )
              else none
              else none
              else none
              else none
              else none
              else none
            )
          )
        )
        else none
        else none
        else none
      ) else (
        Option.bind (xA7 N r8.1 r5) fun r9 =>
        bif (!r9) then (
          some false
        ) else (
          Option.bind (xA8 N a0) fun r10 =>
          Option.bind (xA7 N r6 r10) fun r11 =>
          bif (!r11) then (
            some false
          ) else (
            Option.bind (xA8 N a1) fun r12 =>
            Option.bind (xA7 N r7 r12) fun r13 =>
            bif (!r13) then (
              some false
            ) else (
              Option.bind (xBz N r6 1) fun r14 =>
              if List.length r14.2.1 = List.length (Val.list r6) then
              if List.length r14.2.2.1 = List.length (Val.columns r6) then
              if List.length r14.2.2.2 = List.length (Val.rows r6) then
              Option.bind (xBz N r7 r14.1) fun r15 =>
              if List.length r15.2.1 = List.length (Val.list r7) then
              if List.length r15.2.2.1 = List.length (Val.columns r7) then
              if List.length r15.2.2.2 = List.length (Val.rows r7) then
              bif (decide ((r15.1 : Int) < 0)) then (
                some false
              ) else (
                Option.bind (xA7 N r8.1 r5) fun r16 =>
                bif (!r16) then (
                  some false
                ) else (
                  Option.bind (xBz N r8.1 1) fun r17 =>
                  if List.length r17.2.1 = List.length (Val.list r8.1) then
                  if List.length r17.2.2.1 = List.length (Val.columns r8.1) then
                  if List.length r17.2.2.2 = List.length (Val.rows r8.1) then
                  Option.bind (xA9 N (Val.mk (Val.kind r8.1) (Val.n r8.1) (Val.step r8.1) (Val.text r8.1) r17.2.1 r17.2.2.1 r17.2.2.2) 1) fun r18 =>
                  bif (decide ((r18 : Int) < 0)) then (
                    some false
                  ) else (
                    bif ((r18 : Int) != r17.1) then (
                      some false
                    ) else (
                      Option.bind (xA8 N a0) fun r19 =>
                      Option.bind (xA8 N a1) fun r20 =>
                      Option.bind (I r19 r20) fun r21 =>
                      bif r21.2 then (
                        if List.isEmpty (Val.list r21.1) = true then
                        if List.isEmpty (Val.columns r21.1) = true then
                        if List.isEmpty (Val.rows r21.1) = true then
                        Option.bind (xA7 N (Val.mk (Val.kind r21.1) (Val.n r21.1) (Val.step r21.1) (Val.text r21.1) [] [] []) r5) fun r22 =>
                        bif (!r22) then (
                          some false
                        ) else (
                          Option.bind (xA9 N (Val.mk (Val.kind r8.1) (Val.n r8.1) (Val.step r8.1) (Val.text r8.1) r17.2.1 r17.2.2.1 r17.2.2.2) 1) fun r23 =>
                          bif (decide ((r23 : Int) < 0)) then (
                            some false
                          ) else (
                            bif ((r23 : Int) != r17.1) then (
                              some false
                            ) else (
                              some true
                            )
                          )
                        )
                        else none
                        else none
                        else none
                      ) else (
                        Option.bind (xA7 N r21.1 r5) fun r22 =>
                        bif (!r22) then (
                          some false
                        ) else (
                          Option.bind (xA9 N (Val.mk (Val.kind r8.1) (Val.n r8.1) (Val.step r8.1) (Val.text r8.1) r17.2.1 r17.2.2.1 r17.2.2.2) 1) fun r23 =>
                          bif (decide ((r23 : Int) < 0)) then (
                            some false
                          ) else (
                            bif ((r23 : Int) != r17.1) then (
                              some false
                            ) else (
                              some true
                            )
                          )
                        )
                      )
                    )
                  )
                  else none
                  else none
                  else none
                )
              )
              else none
              else none
              else none
              else none
              else none
              else none
            )
          )
        )
      )
    )
  )
theorem law2_true {I : Nat → Val → Val → Option (Val × Bool)} {S : Nat → Val → Val → Option Val} {a0 a1 : Val} {r : Val × Bool} (f0 : ∀ z ∈ [CV.int .i64 (Val.kind a0), .int .i64 (Val.n a0), .int .i64 (Val.step a0), .str (Val.text a0), .sl .ro .val (Val.list a0), .sl .ro .str (Val.columns a0), .sl .ro .row (Val.rows a0)], DFit z.toD) (f1 : ∀ z ∈ [CV.int .i64 (Val.kind a1), .int .i64 (Val.n a1), .int .i64 (Val.step a1), .str (Val.text a1), .sl .ro .val (Val.list a1), .sl .ro .str (Val.columns a1), .sl .ro .row (Val.rows a1)], DFit z.toD)
    (H : a0.Fit 1048576 → a1.Fit 1048576 → a0.size + a1.size ≤ 1048576 → Good1 1048576 r ∧ Big fun N => I N a0 a1 = some r ∧ S N a0 a1 = some r.1) : ∃ N, law2 (I N) (S N) N a0 a1 = some true := by
  have hF := val_of_cells f0
  have hG := val_of_cells f1
  by_cases h : left a0.size 1048576 < 0
  · exact ((xHp hF).imp fun N hs => by simp [law2, hs 1048576 (by omega) (by omega), h]).get
  · have g0 := left_ge h
    rw [left_of g0] at h
    by_cases h' : left a1.size (1048576 - (a0.size : Int)) < 0
    · refine (((xHp hF).and (xHp hG)).imp fun N ⟨hs, ht⟩ => ?_).get
      have e1 := hs 1048576 (by omega) (by omega)
      rw [left_of g0] at e1
      simp only [law2, e1, Option.bind_some, decide_eq_false h, cond_false, ht _ (by omega : 0 ≤ 1048576 - (a0.size : Int)) (by omega), decide_eq_true h', cond_true]
    · have g1 := left_ge h'
      have s0 := Val.fit_size (K := 1048576) a0 hF (by omega)
      have s1 := Val.fit_size (K := 1048576) a1 hG (by omega)
      have c0 := Val.cnt_le a0
      have c1 := Val.cnt_le a1
      obtain ⟨⟨hff, hfc, hfl⟩, hB⟩ := H s0 s1 (by omega)
      refine ((((xHp hF).and (xHp hG)).and (((toValue_eq s0).and (toValue_eq s1)).and ((xHK s0 (by omega)).and (xHK s1 (by omega))))).and
        ((hB.and (xHK hff (by omega))).and (((xHT (by omega) s0).and (xHT (by omega) s1)).and ((markValue_held (by omega) hff (by omega)).and (xGS 274877906944)))))
        |>.imp (fun N ⟨⟨⟨z0, z1⟩, ⟨t0, t1⟩, q0, q1⟩, ⟨⟨k4, k5⟩, k6⟩, ⟨m0, m1⟩, m3, hN⟩ => ?_) |>.get
      obtain ⟨k0, xa0, xb0, xc0, u0, u1, p01, p02, p03, p04, _⟩ := m0 1 (by omega) (by omega)
      obtain ⟨k1, xa1, xb1, xc1, v0, v1, p11, p12, p13, p14, _⟩ := m1 k0 (by omega) (by omega)
      obtain ⟨k', ya, yb, yc, r0, r1, r2, r3, r4, r5⟩ := m3
      have e1 := z0 1048576 (by omega) (by omega)
      rw [left_of g0] at e1
      have e2 := z1 _ (by omega : 0 ≤ 1048576 - (a0.size : Int)) (by omega)
      simp only [law2, e1, e2, t0, t1, q0, q1, k4, k5, k6, Option.bind_some, decide_eq_false h, decide_eq_false h', cond_false]
      cases hr2 : r.2
      · simp only [cond_false, k6, Bool.not_true, p04, p14, Option.bind_some, if_pos p01, if_pos p02, if_pos p03, if_pos p11, if_pos p12, if_pos p13, decide_eq_false (by omega : ¬ k1 < 0), r4, if_pos r1, if_pos r2, if_pos r3, r5, decide_eq_false (by omega : ¬ k' < 0), bne_self_eq_false]
      · have hflat := hfl hr2
        obtain ⟨f1, f2, f3, _⟩ := hflat
        have hh : xA9 N r.1 1 = some 1 := by rw [← flat_eta f1 f2 f3]; exact heldFlat_eq hN (by omega)
        simp only [cond_true, f1, f2, f3, List.isEmpty_nil, if_true, flat_eta f1 f2 f3, k6, Option.bind_some, Bool.not_true, cond_false, p04, p14, if_pos p01, if_pos p02, if_pos p03, if_pos p11, if_pos p12, if_pos p13, decide_eq_false (by omega : ¬ k1 < 0), markE_eq hN, hh, decide_eq_false (by omega : ¬ (1 : Int) < 0), bne_self_eq_false]
end Go.Ab
end
section
namespace Go.Ab
set_option linter.unusedVariables false
set_option linter.unusedSimpArgs false
def chkG (n : Int) : Val := bif xGo n then numV n else errV 5
theorem numOk_i64' {n : Int} (h : xGo n = true) : I64 n := by
  unfold xGo at h
  simp only [Bool.and_eq_true, decide_eq_true_eq] at h
  exact ⟨by omega, by omega⟩
theorem flat_chk (n : Int) : Flat (chkG n) := by
  unfold chkG
  cases h : xGo n
  · exact flat_err (xGy (by omega) (by omega))
  · exact flat_num (numOk_i64' h)
theorem impl_chk_eq (N : Nat) (n : Int) : xCV N n = some (chkG n) := by
  simp only [xCV, xGG, Option.bind_some, xAZ, xDE, chkG]
  cases xGo n <;> rfl
theorem spec_chk_eq (N : Nat) (n : Int) : xDC N n = some (chkG n) := by
  simp only [xDC, xGI, Option.bind_some, xA6, xCA, chkG]
  cases xGo n <;> rfl
def seqT (n v : Val) : Bool := (n.kind != 1) || ((v.kind != 3) && (v.kind != 4))
def seqG (n v : Val) : Val × Bool × Bool := bif (opG [n, v]).2.1 then opG [n, v] else (errV 4, seqT n v, false)
def seqS (n v : Val) : Val × Bool := bif (seqG n v).2.1 then ((seqG n v).1, true) else (nilV, false)
theorem flat_seqG {K : Nat} {n v : Val} (hn : n.Fit K) (hv : v.Fit K) : Flat (seqG n v).1 := by
  unfold seqG
  cases (opG [n, v]).2.1
  · exact flat_err (xGy (by omega) (by omega))
  · exact flat_opG (two_fit hn hv)
theorem seq_ok {n v : Val} (h : (seqG n v).2.1 = false) : (seqG n v).2.2 = false ∧ xEC v = true ∧ n.kind = 1 ∧ (v.kind = 3 ∨ v.kind = 4) ∧ xEC n = true := by
  unfold seqG at h ⊢
  cases h1 : (opG [n, v]).2.1
  · rw [h1] at h
    simp only [cond_false] at h ⊢
    have ho := opG_ok h1
    refine ⟨by simp, ho v (by simp), ?_⟩
    simp only [seqT, Bool.or_eq_false_iff, bne_eq_false_iff_eq, Bool.and_eq_false_iff] at h
    exact ⟨h.1, h.2, ho n (by simp)⟩
  · rw [h1] at h; simp only [cond_true] at h; rw [h1] at h; cases h
theorem list_ok {v : Val} (hv : xEC v = true) (hk : v.kind = 3) : v.list.length ≤ 8 ∧ ∀ x ∈ v.list, (x.kind == 6) = false := by
  rw [valOk_eq, hk] at hv
  simp only [show ((3 : Int) == 1) = false from rfl, show ((3 : Int) == 2) = false from rfl, show ((3 : Int) == 4) = false from rfl, show ((3 : Int) == 6) = false from rfl, show ((3 : Int) == 5) = false from rfl, show ((3 : Int) == 3) = true from rfl, cond_true, cond_false, Bool.and_eq_true, decide_eq_true_eq, valsOk_eq, List.all_eq_true] at hv
  obtain ⟨h1, _, _, _, _, _, h2, _⟩ := hv
  refine ⟨h2, fun x hx => ?_⟩
  have he := (h1 x hx).1
  unfold elemK at he
  cases h6 : (x.kind == 6)
  · rfl
  · rw [eq_of_beq h6] at he; cases he
theorem seq_eq {K : Nat} (hK : 24 ≤ K ∧ K ≤ 4611686018427387903) {n v : Val} (hn : n.Fit K) (hv : v.Fit K) : Big fun N => xCZ N n v = some (seqG n v) ∧ xF0 N n v = some (seqS n v) := by
  refine (operandError_eq hK (l := [n, v]) (two_fit hn hv) (by simp; omega)).imp fun N ⟨h1, h2⟩ => ?_
  obtain ⟨e1, e2, e3, e4, e5⟩ := opG_flat (l := [n, v])
  constructor
  · simp only [xCZ, Val.re_eq, h1, Option.bind_some, e1, e2, e3, List.isEmpty_nil, if_true, flat_eta e1 e2 e3, xAZ, seqG, seqT]
    cases g : (opG [n, v]).2.1
    · rw [opG_tag g]; cases (n.kind != 1) <;> cases (v.kind != 3) <;> cases (v.kind != 4) <;> rfl
    · cases h : (opG [n, v]).2.2 <;> simp only [cond_true, cond_false] <;> (congr 1; exact Prod.ext rfl (Prod.ext g.symm h.symm))
  · simp only [xF0, Val.re_eq, h2, Option.bind_some, xA6, seqS, seqG, seqT]
    cases g : (opG [n, v]).2.1
    · cases (n.kind != 1) <;> cases (v.kind != 3) <;> cases (v.kind != 4) <;> rfl
    · simp only [cond_true, g]
def nthB (n v : Val) : Val := bif decide (n.n < 0) || ((v.kind == 3) && decide (n.n ≥ (v.list.length : Int))) then errV 5 else bif v.kind == 3 then v.list.getD n.n.toNat Ty.val.dflt else chkG (IntKind.i64.wrap (v.n + IntKind.i64.wrap (n.n * v.step)))
def nthG (n v : Val) : Val × Bool := bif (seqG n v).2.1 then ((seqG n v).1, (seqG n v).2.2) else (nthB n v, false)
theorem nth_eq {K : Nat} (hK : 24 ≤ K ∧ K ≤ 137438953472) {n v : Val} (hn : n.Fit K) (hv : v.Fit K) : Big fun N => xDX N n v = some (nthG n v) ∧ xDm N n v = some (nthG n v).1 := by
  obtain ⟨_, _, _, _, h5, _, _⟩ := Val.fit_iff.1 hv
  have hk : K ≤ 137438953472 := hK.2
  refine ((seq_eq (by omega) hn hv).and (((Big.list fun x hx => spec_copy_eq' (h5.2 x hx) hk)).and (Big.list fun x hx => impl_copy_eq' (h5.2 x hx) hk))).imp fun N ⟨⟨h1, h2⟩, c1, c2⟩ => ?_
  obtain ⟨e1, e2, e3, _⟩ := flat_seqG (K := K) hn hv
  cases g : (seqG n v).2.1
  · obtain ⟨gt, _, _, gk, _⟩ := seq_ok g
    have hget : ∀ h : 0 ≤ n.n ∧ n.n < (v.list.length : Int), v.list.getD n.n.toNat Ty.val.dflt ∈ v.list := fun h => by
      have hl : n.n.toNat < v.list.length := by omega
      have : v.list.getD n.n.toNat Ty.val.dflt = v.list[n.n.toNat] := by simp [List.getD, hl]
      rw [this]; exact List.getElem_mem hl
    have hs : seqS n v = (nilV, false) := by unfold seqS; rw [g]; rfl
    rw [hs] at h2
    by_cases a : n.n < 0
    · simp only [xDX, xDm, h1, h2, Option.bind_some, g, gt, cond_false, decide_eq_true a, cond_true, xAZ, xA6, nthG, nthB, Bool.true_or]
      first | exact ⟨rfl, rfl⟩ | exact ⟨trivial, trivial⟩
    · cases b : (v.kind == 3)
      · simp only [xDX, xDm, h1, h2, Option.bind_some, g, gt, cond_false, decide_eq_false a, cond_true, xAZ, xA6, nthG, nthB, Bool.false_or, b, Bool.false_and, impl_chk_eq, spec_chk_eq]
        first | exact ⟨rfl, rfl⟩ | exact ⟨trivial, trivial⟩
      · by_cases c : n.n ≥ (v.list.length : Int)
        · simp only [xDX, xDm, h1, h2, Option.bind_some, g, gt, cond_false, decide_eq_false a, decide_eq_true c, cond_true, xAZ, xA6, nthG, nthB, Bool.false_or, b, Bool.true_and]
          first | exact ⟨rfl, rfl⟩ | exact ⟨trivial, trivial⟩
        · have hm := hget ⟨by omega, by omega⟩
          simp only [xDX, xDm, h1, h2, Option.bind_some, g, gt, cond_false, decide_eq_false a, decide_eq_false c, cond_true, xAZ, xA6, nthG, nthB, Bool.false_or, b, Bool.true_and, if_pos (show (0 : Int) ≤ n.n ∧ n.n < (v.list.length : Int) by omega), c1 _ hm, c2 _ hm]
          first | exact ⟨rfl, rfl⟩ | first | exact ⟨rfl, rfl⟩ | exact ⟨trivial, trivial⟩
  · have hs : seqS n v = ((seqG n v).1, true) := by unfold seqS; rw [g]; rfl
    rw [hs] at h2
    refine ⟨?_, ?_⟩
    · simp only [xDX, h1, Option.bind_some, e1, e2, e3, List.isEmpty_nil, if_true, flat_eta e1 e2 e3, g, cond_true, nthG]
      cases (seqG n v).2.2 <;> rfl
    · simp only [xDm, h2, Option.bind_some, g, cond_true, nthG]
def minI (n : Int) (l : Nat) : Int := if (l : Int) < n then (l : Int) else n
end Go.Ab
end
section
namespace Go.Ab
set_option linter.unusedVariables false
set_option linter.unusedSimpArgs false
theorem numV_ok {i : Int} (h0 : 0 ≤ i) (h1 : i ≤ 8) : xEC (numV i) = true := by
  have : xGo i = true := by unfold xGo; rw [decide_eq_true (by omega), decide_eq_true (by omega)]; rfl
  rw [valOk_eq]
  simp only [numV, vk, vn, vs, vt, vl, vc, vr, this, show ((1 : Int) == 1) = true from rfl, cond_true, emp]
  rfl
theorem seq_num {n v : Val} (g : (seqG n v).2.1 = false) {i : Int} (h0 : 0 ≤ i) (h1 : i ≤ 8) : (seqG (numV i) v).2.1 = false := by
  obtain ⟨_, hv, _, hk, _⟩ := seq_ok g
  have h6 : (v.kind == 6) = false := by rcases hk with h | h <;> rw [h] <;> rfl
  have ho : opG [numV i, v] = (nilV, false, false) := by
    simp only [opG, numV_ok h0 h1, hv, h6, Bool.not_true, cond_false, show ((numV i).kind == 6) = false from rfl]
  unfold seqG
  rw [ho]
  show seqT (numV i) v = false
  unfold seqT
  have e : ((numV i).kind != 1) = false := rfl
  rw [e]
  rcases hk with h | h <;> rw [h] <;> rfl
def takeL (v : Val) : Nat → Int → List Val → Val
  | 0, _, acc => .mk 3 0 0 [] acc [] []
  | m + 1, i, acc => bif (nthB (numV i) v).kind == 6 then nthB (numV i) v else takeL v m (i + 1) (acc ++ [nthB (numV i) v])
def takeB (n v : Val) : Val := bif !(decide (0 ≤ n.n) && decide (n.n ≤ 8)) then errV 5 else bif v.kind == 3 then .mk 3 0 0 [] (v.list.take n.n.toNat) [] [] else takeL v n.n.toNat 0 []
def takeG (n v : Val) : Val × Bool := bif (seqG n v).2.1 then ((seqG n v).1, (seqG n v).2.2) else (takeB n v, false)
theorem impl_take_loop {N : Nat} {n v z : Val} (hn : n.n ≤ 8) (hnth : ∀ i : Int, 0 ≤ i → i ≤ 8 → xDX N (numV i) v = some (nthB (numV i) v, false)) :
    ∀ (m : Nat) (i : Int) (acc : List Val) (f : Nat), 0 ≤ i → i + m = n.n → acc.length ≤ 1000 - m → m ≤ 8 → m < f → xD6 N f i n v z (.mk 3 0 0 [] acc [] []) = some (takeL v m i acc, false) := by
  intro m
  induction m with
  | zero =>
    intro i acc f h0 h1 h2 h3 h4
    obtain ⟨f, rfl⟩ : ∃ g, f = g + 1 := ⟨f - 1, by omega⟩
    simp only [xD6, decide_eq_false (by omega : ¬ i < n.n), cond_false, takeL]
  | succ m ih =>
    intro i acc f h0 h1 h2 h3 h4
    obtain ⟨f, rfl⟩ : ∃ g, f = g + 1 := ⟨f - 1, by omega⟩
    have hnum : xDE N i = some (numV i) := rfl
    simp only [xD6, decide_eq_true (by omega : i < n.n), cond_true, hnum, hnth i h0 (by omega), Option.bind_some, cond_false, Val.re_eq, vk, vn, vs, vt, vl, vc, vr, takeL]
    cases ((nthB (numV i) v).kind == 6)
    · simp only [cond_false]
      rw [if_pos (by simp only [List.length_cons, List.length_nil]; unfold Lim; omega), xCr (x := i + 1) (by omega) (by omega)]
      exact ih (i + 1) (acc ++ [nthB (numV i) v]) f (by omega) (by omega) (by simp only [List.length_append, List.length_cons, List.length_nil]; omega) (by omega) (by omega)
    · rfl
theorem spec_take_loop {N : Nat} {n v z : Val} (hn : n.n ≤ 8) (hk : (v.kind == 3) = false) (hnth : ∀ i : Int, 0 ≤ i → i ≤ 8 → xDm N (numV i) v = some (nthB (numV i) v)) :
    ∀ (m : Nat) (i : Int) (acc : List Val) (f : Nat), 0 ≤ i → i + m = n.n → acc.length ≤ 1000 - m → m ≤ 8 → m < f → xCn N f i n v z (.mk 3 0 0 [] acc [] []) = some (takeL v m i acc) := by
  intro m
  induction m with
  | zero =>
    intro i acc f h0 h1 h2 h3 h4
    obtain ⟨f, rfl⟩ : ∃ g, f = g + 1 := ⟨f - 1, by omega⟩
    simp only [xCn, decide_eq_false (by omega : ¬ i < n.n), cond_false, takeL]
  | succ m ih =>
    intro i acc f h0 h1 h2 h3 h4
    obtain ⟨f, rfl⟩ : ∃ g, f = g + 1 := ⟨f - 1, by omega⟩
    have hnum : xCA N i = some (numV i) := rfl
    simp only [xCn, decide_eq_true (by omega : i < n.n), hk, cond_true, hnum, hnth i h0 (by omega), Option.bind_some, cond_false, Val.re_eq, vk, vn, vs, vt, vl, vc, vr, takeL]
    cases ((nthB (numV i) v).kind == 6)
    · simp only [cond_false]
      rw [if_pos (by simp only [List.length_cons, List.length_nil]; unfold Lim; omega), xCr (x := i + 1) (by omega) (by omega)]
      exact ih (i + 1) (acc ++ [nthB (numV i) v]) f (by omega) (by omega) (by simp only [List.length_append, List.length_cons, List.length_nil]; omega) (by omega) (by omega)
    · rfl
theorem spec_take_list {N : Nat} {n v z : Val} (hn : n.n ≤ 8) (hk : (v.kind == 3) = true) (hl : v.list.length ≤ 8) (h6 : ∀ x ∈ v.list, (x.kind == 6) = false) (hnth : ∀ i : Int, 0 ≤ i → i ≤ 8 → xDm N (numV i) v = some (nthB (numV i) v)) :
    ∀ (m i : Nat) (acc : List Val) (f : Nat), (i : Int) + m = n.n → i ≤ v.list.length → acc.length ≤ 1000 - m → m ≤ 8 → m < f → xCn N f i n v z (.mk 3 0 0 [] acc [] []) = some (.mk 3 0 0 [] (acc ++ (v.list.drop i).take m) [] []) := by
  intro m
  induction m with
  | zero =>
    intro i acc f h1 hi h2 h3 h4
    obtain ⟨f, rfl⟩ : ∃ g, f = g + 1 := ⟨f - 1, by omega⟩
    simp only [xCn, decide_eq_false (by omega : ¬ (i : Int) < n.n), cond_false, List.take_zero, List.append_nil]
  | succ m ih =>
    intro i acc f h1 hi h2 h3 h4
    obtain ⟨f, rfl⟩ : ∃ g, f = g + 1 := ⟨f - 1, by omega⟩
    have hnum : xCA N i = some (numV i) := rfl
    by_cases he : i = v.list.length
    · have hb : ((i : Int) == (v.list.length : Int)) = true := by rw [he]; exact beq_self_eq_true _
      simp only [xCn, decide_eq_true (by omega : (i : Int) < n.n), hk, cond_true, vl, hb]
      rw [he, List.drop_length, List.take_nil, List.append_nil]
    · have hlt : i < v.list.length := by omega
      have hb : ((i : Int) == (v.list.length : Int)) = false := by rw [beq_eq_false_iff_ne]; omega
      have hnb : nthB (numV (i : Int)) v = v.list[i] := by
        unfold nthB
        have en : (numV (i : Int)).n = i := rfl
        rw [en, decide_eq_false (by omega : ¬ (i : Int) < 0), hk, decide_eq_false (by omega : ¬ (i : Int) ≥ (v.list.length : Int))]
        simp only [Bool.and_false, Bool.or_self, cond_false, cond_true, Int.toNat_natCast]
        simp [List.getD, hlt]
      have hx := h6 v.list[i] (List.getElem_mem hlt)
      simp only [xCn, decide_eq_true (by omega : (i : Int) < n.n), hk, cond_true, hb, cond_false, hnum, hnth i (by omega) (by omega), Option.bind_some, hnb, hx, Val.re_eq, vk, vn, vs, vt, vl, vc, vr]
      rw [if_pos (by simp only [List.length_cons, List.length_nil]; unfold Lim; omega), xCr (x := (i : Int) + 1) (by omega) (by omega)]
      have e1 : ((i : Int) + 1) = ((i + 1 : Nat) : Int) := by omega
      rw [e1, ih (i + 1) (acc ++ [v.list[i]]) f (by omega) (by omega) (by simp only [List.length_append, List.length_cons, List.length_nil]; omega) (by omega) (by omega)]
      rw [List.drop_eq_getElem_cons hlt, List.take_succ_cons, List.append_assoc]
      rfl
theorem lfit_take {α : Type} {K : Nat} {p : α → Prop} {l : List α} (h : LFit K p l) (k : Nat) : LFit K p (l.take k) :=
  ⟨by have := h.1; rw [List.length_take]; omega, fun x hx => h.2 x (List.mem_of_mem_take hx)⟩
theorem take_eq {K : Nat} (hK : 24 ≤ K ∧ K ≤ 137438953472) {n v : Val} (hn : n.Fit K) (hv : v.Fit K) : Big fun N => xDF N n v = some (takeG n v) ∧ xEA N n v = some (takeG n v).1 := by
  obtain ⟨_, _, _, _, h5, _, _⟩ := Val.fit_iff.1 hv
  have hk : K ≤ 137438953472 := hK.2
  have hd := lfit_take h5 (minI n.n v.list.length).toNat
  have hnum : ∀ i : Nat, i ∈ List.range 9 → Big fun N => xDX N (numV (i : Int)) v = some (nthG (numV i) v) ∧ xDm N (numV (i : Int)) v = some (nthG (numV i) v).1 := fun i hi => by
    rw [List.mem_range] at hi
    exact nth_eq hK ((flat_num (xGy (by omega) (by omega))).fit K) hv
  refine (((seq_eq (by omega) hn hv).and (Big.list hnum)).and ((impl_copies_eq hd hk).and (xGS 24))).imp fun N ⟨⟨⟨h1, h2⟩, hnth⟩, c1, hN⟩ => ?_
  obtain ⟨e1, e2, e3, _⟩ := flat_seqG (K := K) hn hv
  cases g : (seqG n v).2.1
  · obtain ⟨gt, gv, _, gk, _⟩ := seq_ok g
    have hs : seqS n v = (nilV, false) := by unfold seqS; rw [g]; rfl
    rw [hs] at h2
    have hg : ∀ i : Int, 0 ≤ i → i ≤ 8 → nthG (numV i) v = (nthB (numV i) v, false) := fun i h0 h1 => by unfold nthG; rw [seq_num g h0 h1]; rfl
    have ni : ∀ i : Int, 0 ≤ i → i ≤ 8 → xDX N (numV i) v = some (nthB (numV i) v, false) := fun i h0 h1 => by
      have := (hnth i.toNat (List.mem_range.2 (by omega))).1
      rw [Int.toNat_of_nonneg h0, hg i h0 h1] at this; exact this
    have ns : ∀ i : Int, 0 ≤ i → i ≤ 8 → xDm N (numV i) v = some (nthB (numV i) v) := fun i h0 h1 => by
      have := (hnth i.toNat (List.mem_range.2 (by omega))).2
      rw [Int.toNat_of_nonneg h0, hg i h0 h1] at this; exact this
    by_cases a : 0 ≤ n.n ∧ n.n ≤ 8
    · have ha : (decide (0 ≤ n.n) && decide (n.n ≤ 8)) = true := by rw [decide_eq_true a.1, decide_eq_true a.2]; rfl
      cases b : (v.kind == 3)
      · have l1 := impl_take_loop (N := N) (n := n) (v := v) (z := Val.mk 0 0 0 [] [] [] []) a.2 ni n.n.toNat 0 [] N (by omega) (by omega) (by simp) (by omega) (by omega)
        have l2 := spec_take_loop (N := N) (n := n) (v := v) (z := Val.mk 0 0 0 [] [] [] []) a.2 b ns n.n.toNat 0 [] N (by omega) (by omega) (by simp) (by omega) (by omega)
        simp only [xDF, xEA, h1, h2, Option.bind_some, g, gt, cond_false, xEv, xF2, ha, Bool.not_true, b, l1, l2, takeG, takeB]
        first | exact ⟨rfl, rfl⟩ | exact ⟨trivial, trivial⟩
      · obtain ⟨q1, q2⟩ := list_ok gv (eq_of_beq b)
        have l2 := spec_take_list (N := N) (n := n) (v := v) (z := Val.mk 0 0 0 [] [] [] []) a.2 b q1 q2 ns n.n.toNat 0 [] N (by omega) (by omega) (by simp) (by omega) (by omega)
        have hm : 0 ≤ minI n.n v.list.length ∧ minI n.n v.list.length ≤ (v.list.length : Int) := by unfold minI; split <;> omega
        have him : (if (v.list.length : Int) < n.n then (v.list.length : Int) else n.n) = minI n.n v.list.length := rfl
        have ht : v.list.take (minI n.n v.list.length).toNat = v.list.take n.n.toNat := by
          unfold minI
          split
          · rw [Int.toNat_natCast, List.take_length, List.take_of_length_le (by omega)]
          · rfl
        rw [ht] at c1
        simp only [Int.ofNat_zero, List.drop_zero, List.nil_append] at l2
        simp only [xDF, xEA, h1, h2, Option.bind_some, g, gt, cond_false, cond_true, xEv, xF2, ha, Bool.not_true, b, him, if_pos hm, ht, xFb, c1, takeG, takeB]
        first | exact ⟨rfl, l2⟩ | exact ⟨trivial, l2⟩
    · have ha : (decide (0 ≤ n.n) && decide (n.n ≤ 8)) = false := by
        by_cases a0 : 0 ≤ n.n
        · rw [decide_eq_false (by omega : ¬ n.n ≤ 8), Bool.and_false]
        · rw [decide_eq_false a0, Bool.false_and]
      simp only [xDF, xEA, h1, h2, Option.bind_some, g, gt, cond_false, cond_true, xEv, xF2, ha, Bool.not_false, xAZ, xA6, takeG, takeB]
      first | exact ⟨rfl, rfl⟩ | exact ⟨trivial, trivial⟩
  · have hs : seqS n v = ((seqG n v).1, true) := by unfold seqS; rw [g]; rfl
    rw [hs] at h2
    refine ⟨?_, ?_⟩
    · simp only [xDF, h1, Option.bind_some, g, cond_true, takeG]
      cases (seqG n v).2.2 <;> rfl
    · simp only [xEA, h2, Option.bind_some, g, cond_true, takeG]
theorem sum_take (f : Val → Nat) (l : List Val) (k : Nat) : ((l.take k).map f).sum ≤ (l.map f).sum := by
  have h := List.take_append_drop k l
  have e : (l.map f).sum = ((l.take k).map f).sum + ((l.drop k).map f).sum := by rw [← List.sum_append, ← List.map_append, h]
  omega
theorem nthB_stream {i : Int} {v : Val} (hk : (v.kind == 3) = false) : Flat (nthB (numV i) v) := by
  unfold nthB
  rw [hk]
  cases decide ((numV i).n < 0)
  · exact flat_chk _
  · exact flat_err (xGy (by omega) (by omega))
theorem takeL_good {v : Val} (hk : (v.kind == 3) = false) : ∀ (m : Nat) (i : Int) (acc : List Val), (∀ x ∈ acc, Flat x) → acc.length ≤ 100 - m → m ≤ 8 → (takeL v m i acc).Fit 1048576 ∧ (takeL v m i acc).cnt ≤ 100000000000 := by
  intro m
  induction m with
  | zero =>
    intro i acc h hl hm
    refine ⟨listV_fit ⟨by omega, fun x hx => (h x hx).fit _⟩, ?_⟩
    show (Val.mk 3 0 0 [] acc [] []).cnt ≤ _
    rw [listV_cnt, cnt_sum4 fun x hx => (h x hx).cnt]
    omega
  | succ m ih =>
    intro i acc h hl hm
    have hf := nthB_stream (i := i) hk
    unfold takeL
    cases ((nthB (numV i) v).kind == 6)
    · exact ih (i + 1) (acc ++ [nthB (numV i) v]) (fun x hx => by
        rcases List.mem_append.1 hx with hx | hx
        · exact h x hx
        · rw [List.mem_singleton] at hx; rw [hx]; exact hf) (by simp only [List.length_append, List.length_cons, List.length_nil]; omega) (by omega)
    · exact ⟨hf.fit _, by show (nthB (numV i) v).cnt ≤ _; rw [hf.cnt]; omega⟩
theorem take_good {n v : Val} (hn : n.Fit 1048576) (hv : v.Fit 1048576) (hs : v.size ≤ 1048576) : Good1 1048576 (takeG n v) := by
  obtain ⟨_, _, hst, _, h5, _, _⟩ := Val.fit_iff.1 hv
  have hc := Val.cnt_le v
  have hc2 := valCnt v
  unfold takeG
  cases g : (seqG n v).2.1
  · unfold takeB
    cases a : (decide (0 ≤ n.n) && decide (n.n ≤ 8))
    · exact Flat.good (flat_err (xGy (by omega) (by omega)))
    · simp only [Bool.and_eq_true, decide_eq_true_eq] at a
      cases b : (v.kind == 3)
      · obtain ⟨h1, h2⟩ := takeL_good b n.n.toNat 0 [] (fun x hx => by cases hx) (by simp) (by omega)
        exact ⟨h1, h2, fun h => by cases h⟩
      · have h1 := sum_take Val.cnt v.list n.n.toNat
        refine ⟨listV_fit (lfit_take h5 _), ?_, fun h => by cases h⟩
        show (Val.mk 3 0 0 [] (v.list.take n.n.toNat) [] []).cnt ≤ _
        rw [listV_cnt]
        omega
  · exact Flat.good (flat_seqG hn hv)
theorem xHv (a0 a1 : Val) (f0 : ∀ z ∈ [CV.int .i64 (Val.kind a0), .int .i64 (Val.n a0), .int .i64 (Val.step a0), .str (Val.text a0), .sl .ro .val (Val.list a0), .sl .ro .str (Val.columns a0), .sl .ro .row (Val.rows a0)], DFit z.toD)
    (f1 : ∀ z ∈ [CV.int .i64 (Val.kind a1), .int .i64 (Val.n a1), .int .i64 (Val.step a1), .str (Val.text a1), .sl .ro .val (Val.list a1), .sl .ro .str (Val.columns a1), .sl .ro .row (Val.rows a1)], DFit z.toD) : ∃ N, xFl N a0 a1 = some true := by
  obtain ⟨N, h⟩ := law2_true (I := xDF) (S := xEA) (r := takeG a0 a1) f0 f1 fun h0 h1 hs => ⟨take_good h0 h1 (by omega), take_eq (by omega) h0 h1⟩
  exact ⟨N, h⟩
end Go.Ab
end
section
namespace Go.Proofs.Ytnfikhfcblcmpaa
open Go.Ab Go.ChangeShapes Go.WideShapes Go.ChangeAt Go.RowKit
set_option linter.unusedVariables false
theorem own : ownKnob Try.prog.godebug = none := by kernel_rfl
theorem laidOut : laidOutB Try.prog = true := by kernel_rfl
theorem xG7 : ktChk Try.prog [(3, .int), (9, .str), (26, .val), (77, .row), (100, .org)] = true := by kernel_rfl
set_option maxRecDepth 100000 in
theorem fnExactTakeOf_lifted (os : Os) (started : os.Started) (H : Type) (enc : TypeId × Value → H) :
    ReturnsInHanded {} Try.checked os 5 .any (Rows.fnExactTakeOfSpec.pre6 enc Try.prog Try.f5 Rows.fnExactTakeOfRow.domain false) (Rows.fnExactTakeOfSpec.post enc Try.prog Try.f5 false true false false) := by
  refine returnsInHanded_of_change (C := Try.checked) own started (by kernel_rfl) Try.func5
    (ChangeSpec.witness6 (enc := enc) (C := Try.checked) false ⟨#[], #[.agg #[.int .i64 0, .int .i64 0, .int .i64 0, .string ByteArray.empty, .slice none 0 0, .slice none 0 0, .slice none 0 0], .agg #[.int .i64 0, .int .i64 0, .int .i64 0, .string ByteArray.empty, .slice none 0 0, .slice none 0 0, .slice none 0 0]], []⟩ 8 (by kernel_rfl) (by kernel_rfl) (by kernel_rfl) (by kernel_rfl)) ?_
  intro W base args ds gs before hval0 hW hcnd _
  have hval : ∀ (j : Nat) t v, Try.f5.params[j]? = some t → args[j]? = some v → Value.okWide Try.prog W .any base t v := hval0
  have hW' := hW
  obtain ⟨p, q, hA0, hV, rfl, hfz, hnd⟩ := hW
  have hA : DataW.TrodAll enc Try.prog W 0 (fun _ => true) true Try.f5.params.toList args.toList ds p := hA0
  rw [Try.params5] at hA hval
  obtain ⟨v0, vs0, d0, ds0, p0, q0, hargs, rfl, rfl, h0, r0⟩ := trodAll_cons hA
  obtain ⟨v1, vs1, d1, ds1, p1, q1, rfl, rfl, rfl, h1, r1⟩ := trodAll_cons r0
  obtain ⟨rfl, rfl, rfl⟩ := trodAll_nil r1
  obtain rfl : args = #[v0, v1] := by cases args; simp_all
  obtain ⟨rfl, rfl⟩ := trodVars_none hV
  have lt0 : ∀ x ∈ p0, x.block < W.heap.size := by obtain ⟨m, hm⟩ := h0; exact DataW.trod_lt m _ _ _ hm
  have lt1 : ∀ x ∈ p1, x.block < W.heap.size := by obtain ⟨m, hm⟩ := h1; exact DataW.trod_lt m _ _ _ hm
  obtain ⟨z0, e0, f0, vr0⟩ := vr_of xG7 (g := true) (t := 26) (ns := [.inl (.int .i64), .inl (.int .i64), .inl (.int .i64), .inl .str, .inr .val, .inr .str, .inr .row]) (by kernel_rfl) (hval 0 26 v0 rfl rfl) h0
  obtain ⟨x0_0, _, rfl, e0_0⟩ := AreOf.int_inv e0
  obtain ⟨x0_1, _, rfl, e0_1⟩ := AreOf.int_inv e0_0
  obtain ⟨x0_2, _, rfl, e0_2⟩ := AreOf.int_inv e0_1
  obtain ⟨x0_3, _, rfl, e0_3⟩ := AreOf.str_inv e0_2
  obtain ⟨x0_4, _, rfl, e0_4⟩ := AreOf.sl_inv e0_3
  obtain ⟨x0_5, _, rfl, e0_5⟩ := AreOf.sl_inv e0_4
  obtain ⟨x0_6, _, rfl, e0_6⟩ := AreOf.sl_inv e0_5
  obtain rfl := e0_6.nil_inv
  obtain ⟨z1, e1, f1, vr1⟩ := vr_of xG7 (g := true) (t := 26) (ns := [.inl (.int .i64), .inl (.int .i64), .inl (.int .i64), .inl .str, .inr .val, .inr .str, .inr .row]) (by kernel_rfl) (hval 1 26 v1 rfl rfl) h1
  obtain ⟨x1_0, _, rfl, e1_0⟩ := AreOf.int_inv e1
  obtain ⟨x1_1, _, rfl, e1_1⟩ := AreOf.int_inv e1_0
  obtain ⟨x1_2, _, rfl, e1_2⟩ := AreOf.int_inv e1_1
  obtain ⟨x1_3, _, rfl, e1_3⟩ := AreOf.str_inv e1_2
  obtain ⟨x1_4, _, rfl, e1_4⟩ := AreOf.sl_inv e1_3
  obtain ⟨x1_5, _, rfl, e1_5⟩ := AreOf.sl_inv e1_4
  obtain ⟨x1_6, _, rfl, e1_6⟩ := AreOf.sl_inv e1_5
  obtain rfl := e1_6.nil_inv
  obtain ⟨N, hF⟩ := xHv (Val.mk x0_0 x0_1 x0_2 x0_3 x0_4 x0_5 x0_6) (Val.mk x1_0 x1_1 x1_2 x1_3 x1_4 x1_5 x1_6) f0 f1
  clear hA0 hval0
  refine (calls_of T.fk5 (T.laws_FnExactTakeOf_ok hF) (W := W) (args := #[v0, v1]) ⟨vr0 _, vr1 _, trivial⟩).mono fun e W' ⟨he, bel⟩ => ?_
  subst he
  exact ⟨_, rfl, _, _, _, [], _, [], hW', trodAll_mk1 (shut_bool Try.underlying4 _), (trodAll_cons_mk (Below.trod laidOut (by kernel_rfl) (of_decide_eq_true (by kernel_rfl)) h0 bel lt0) (trodAll_cons_mk (Below.trod laidOut (by kernel_rfl) (of_decide_eq_true (by kernel_rfl)) h1 bel lt1) trodAll_mk0)), rfl, bel.frame _, fun h => by cases h⟩
theorem fnExactTakeOf_proved : Rows.FnExactTakeOfSaid :=
  OpenClaim.holds_of_wide 5 Try.f5 rfl rfl rfl rfl rfl rfl rfl ⟨rfl, rfl, rfl, rfl, rfl⟩ rfl rfl rfl rfl rfl (by kernel_rfl) Try.func5 (by kernel_rfl)
    (of_decide_eq_true (by kernel_rfl)) (by unfold Func.isWrapper; first | (rw [if_pos (by decide +kernel)]; kernel_rfl) | (rw [if_neg (by decide +kernel)]; exact ⟨rfl, rfl⟩))
    (fun os started H enc _ => fnExactTakeOf_lifted os started H enc)
end Go.Proofs.Ytnfikhfcblcmpaa
end
