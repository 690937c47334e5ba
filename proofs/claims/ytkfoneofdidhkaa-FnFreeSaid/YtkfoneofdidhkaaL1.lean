/- A layer over the machine of the kit: an evaluator over plain data that is sound. Conditions: none. -/
import Derived.Test.YtkfoneofdidhkaaL0
set_option linter.all false
section
namespace Go.Ab
variable [Inhabited Lb]
def zEq (n : Nat) (c : Nat) : List (Nat × Nat) → Option (List (Nat × Nat))
 | (i, j) :: p => if c = 0 then some ((n + i, j) :: p) else none
 | [] => none
theorem zEr (n : Nat) : SrcOk n (zEq n) where
 inj := fun c p c' p' q h1 h2 => by
  match p, p', h1, h2 with
  | [], _, h1, _ => cases h1
  | _ :: _, [], _, h2 => cases h2
  | (i, j) :: r, (i', j') :: r', h1, h2 =>
    simp only [zEq] at h1 h2
    split at h1
    · split at h2
      · rw [← h2] at h1
        simp only [Option.some.injEq, List.cons.injEq, Prod.mk.injEq] at h1
        obtain ⟨⟨e1, e2⟩, e3⟩ := h1
        have : i = i' := by omega
        subst this e2 e3
        exact ⟨by omega, rfl⟩
      · cases h2
    · cases h1
 new := fun c p q h => by
  match p, h with
  | [], h => cases h
  | (i, j) :: r, h =>
    simp only [zEq] at h
    split at h
    · cases h; exact ⟨_, _, rfl, Nat.le_add_right _ _⟩
    · cases h
theorem zGQ {E E' : Env} {bxs : Nat → Prop} {T : Ty} {xs ys : List T.den} {f g rf : Fl} {nest kp : Bool} {n : Nat} (hn : xs.length = n)
 (hmode : (T.flat = true ∧ rf = .own) ∨ (nest = true ∧ f = .own ∧ g = .own ∧ rf = .own) ∨ (nest = false ∧ (f = .own ∨ f = .tip) ∧ (g = .own ∨ g = .tip ∨ g = .ro) ∧ rf = .tip))
 (hE : ∀ b, E.ow b ≠ some (.arr (.h 0) 0 []) → (0 < E.hw b ∨ E.ow b ≠ none) → E'.ow b = (E.ow b).bind (zBh kp nest n (zEq n)) ∧ E'.hw b = E.hw b ∧ E'.w.heap[b]? = E.w.heap[b]?)
 {bb cap : Nat} {cs : Array Value} {ty : TypeId} {fr : Nat × Nat} (h1 : E'.ow bb = some (.arr (.h 0) 0 [])) (h2 : E'.hw bb = (n + ys.length) * T.sz) (h3 : E'.w.heap[bb]? = some (.cells cs ty fr))
 (h4 : n + ys.length ≤ cap) (h5 : cap * T.sz = cs.size) (h6 : ∀ o, fr.1 ≤ o → o < fr.2 → cap * T.sz ≤ o)
 (hold : ∀ i j (hi : i < xs.length) (hj : j < (T.toD xs[i]).length), ∃ u, cs[i * T.sz + j]? = some u ∧ RdP E.w (fun p => okF E (.h 0) 0 f ((i, j) :: p)) (fun p => qF E (.h 0) 0 f ((i, j) :: p)) u (T.toD xs[i])[j])
 (hnew : ∀ i j (hi : i < ys.length) (hj : j < (T.toD ys[i]).length), ∃ u, cs[(n + i) * T.sz + j]? = some u ∧ RdP E.w (fun p => okF E (.h 1) 0 g ((i, j) :: p)) (fun p => qF E (.h 1) 0 g ((i, j) :: p)) u (T.toD ys[i])[j]) :
 VRc E' bxs (.h 0) 0 (.sl rf T (xs ++ ys)) (.slice (some ⟨bb, 0, none⟩) (n + ys.length) cap) := by
 have hTip : Tip E' (.arr (.h 0) 0 []) (.slice (some ⟨bb, 0, none⟩) (n + ys.length) cap) T.sz := ⟨h1, h2, h4, cs, ty, fr.1, fr.2, h3, h5, h6⟩
 have hlen : ∀ r ∈ (xs ++ ys).map T.toD, r.length = T.sz := by
  intro r hr
  obtain ⟨x, _, rfl⟩ := List.mem_map.1 hr
  exact Ty.toD_length T x
 have hrf : rf = .own ∨ rf = .tip := by
  rcases hmode with ⟨_, h⟩ | ⟨_, _, _, h⟩ | ⟨_, _, _, h⟩ <;> simp [h]
 have kold : ∀ i j u d, i < n → RdP E.w (fun p => okF E (.h 0) 0 f ((i, j) :: p)) (fun p => qF E (.h 0) 0 f ((i, j) :: p)) u d → (T.flat = true → d.flat = true) →
  RdP E'.w (fun p => okF E' (.h 0) 0 rf ((i, j) :: p)) (fun p => qF E' (.h 0) 0 rf ((i, j) :: p)) u d := by
  intro i j u d hi h hfl
  rcases hmode with ⟨hf, _⟩ | ⟨rfl, rfl, rfl, rfl⟩ | ⟨rfl, hf, hg, rfl⟩
  · exact h.flat (hfl hf)
  · refine zDB (p0 := [(i, j)]) (fun p b hb => ?_) h
    obtain ⟨a1, a2, a3⟩ := hE b (by rw [hb]; simp) (.inr (by rw [hb]; simp))
    refine ⟨?_, a2, a3⟩
    rw [a1, hb]
    simp [zBh, hi]
  · refine zHo (p0 := [(i, j)]) (by rcases hf with rfl | rfl <;> simp) (fun b o ho hb => ?_) h
    obtain ⟨a1, a2, a3⟩ := hE b (by rcases hb with hb | ⟨p, hb⟩ <;> rw [hb] <;> simp) (.inl (by omega))
    refine ⟨zAf a3 o, by rw [a2]; exact ho, ?_⟩
    rw [a1]
    rcases hb with hb | ⟨p, hb⟩ <;> rw [hb] <;> simp [zBh]
 have knew : ∀ i j u d, RdP E.w (fun p => okF E (.h 1) 0 g ((i, j) :: p)) (fun p => qF E (.h 1) 0 g ((i, j) :: p)) u d → (T.flat = true → d.flat = true) →
  RdP E'.w (fun p => okF E' (.h 0) 0 rf ((n + i, j) :: p)) (fun p => qF E' (.h 0) 0 rf ((n + i, j) :: p)) u d := by
  intro i j u d h hfl
  rcases hmode with ⟨hf, _⟩ | ⟨rfl, rfl, rfl, rfl⟩ | ⟨rfl, hf, hg, rfl⟩
  · exact h.flat (hfl hf)
  · refine zDB (p0 := [(i, j)]) (g := fun p => (n + i, j) :: p) (fun p b hb => ?_) h
    obtain ⟨a1, a2, a3⟩ := hE b (by rw [hb]; simp) (.inr (by rw [hb]; simp))
    refine ⟨?_, a2, a3⟩
    rw [a1, hb]
    simp [zBh, zEq]
  · refine zHo (p0 := [(i, j)]) hg (fun b o ho hb => ?_) h
    obtain ⟨a1, a2, a3⟩ := hE b (by rcases hb with hb | ⟨p, hb⟩ <;> rw [hb] <;> simp) (.inl (by omega))
    refine ⟨zAf a3 o, by rw [a2]; exact ho, ?_⟩
    rw [a1]
    rcases hb with hb | ⟨p, hb⟩ <;> rw [hb] <;> simp [zBh]
 show RdP E'.w _ _ _ (.sl T.sz ((xs ++ ys).map T.toD))
 refine zCm h3 (by simp [hn]) h4 hlen ?_ (fun o ho => ?_) (fun i j hi hj => ?_)
 · rcases hrf with rfl | rfl
   · exact hTip
   · exact fun _ => hTip
 · have hh : o < E'.hw bb := by rw [h2]; exact ho
   rcases hrf with rfl | rfl
   · exact ⟨hh, h1⟩
   · exact ⟨hh, fun _ => h1, fun h => absurd rfl h⟩
 · have hi' : i < (xs ++ ys).length := by simpa using hi
   have fl : ∀ (x : T.den) (j : Nat) (hj : j < (T.toD x).length), T.flat = true → ((T.toD x)[j]).flat = true := fun x j hj hf => Ty.flat_toD hf x _ (List.getElem_mem hj)
   by_cases hx : i < xs.length
   · have e : ((xs ++ ys).map T.toD)[i] = T.toD xs[i] := by simp [hx]
     have hj' : j < (T.toD xs[i]).length := by rw [← e]; exact hj
     obtain ⟨u, u1, u2⟩ := hold i j hx hj'
     refine ⟨u, u1, ?_⟩
     have := kold i j u _ (by omega) u2 (fl _ _ hj')
     simp only [e]; exact this
   · have hy : i - n < ys.length := by simp at hi'; omega
     have e : ((xs ++ ys).map T.toD)[i] = T.toD ys[i - n] := by
      subst hn
      rw [List.getElem_map]; congr 1; exact List.getElem_append_right (Nat.le_of_not_lt hx)
     have hj' : j < (T.toD ys[i - n]).length := by rw [← e]; exact hj
     obtain ⟨u, u1, u2⟩ := hnew (i - n) j hy hj'
     have e2 : n + (i - n) = i := by omega
     rw [e2] at u1
     refine ⟨u, u1, ?_⟩
     have := knew (i - n) j u _ u2 (fl _ _ hj')
     rw [e2] at this
     simp only [e]; exact this
structure SrcRun (P : Program) (w : World) (sz m : Nat) (news : List Value) (x : Value) : Prop where
 len : ∀ w1 : World, (Builtin.lenOf x).run P w1 = .ok m w1
 first : ∀ w1 : World, w1.heap = w.heap → (Builtin.firstCells sz m x).run P w1 = .ok news.toArray w1
 one : ∀ v ∈ news, v.oneCell' = true
 length : news.length = m * sz
theorem RdP.top {w : World} {ok : List (Nat × Nat) → Nat → Nat → Prop} {q : List (Nat × Nat) → Value → Nat → Prop} {v : Value} {sz : Nat} {rows : List (List D)} (h : RdP w ok q v (.sl sz rows)) : q [] v sz := by
 cases h with
 | nil a cap sz h => exact h
 | sl b off n cap sz rows u hn hcap hr h => exact h
theorem RdP.one {w : World} {ok : List (Nat × Nat) → Nat → Nat → Prop} {q : List (Nat × Nat) → Value → Nat → Prop} {v : Value} {d : D} (h : RdP w ok q v d) : v.oneCell' = true := by
 cases h <;> rfl
theorem zBZ {P : Program} {w : World} {ok : List (Nat × Nat) → Nat → Nat → Prop} {q : List (Nat × Nat) → Value → Nat → Prop} {v : Value} {sz : Nat} {rows : List (List D)} (h : RdP w ok q v (.sl sz rows)) (hz : 0 < sz) :
 ∃ news, SrcRun P w sz rows.length news v ∧ (∀ b off n c, v = .slice (some ⟨b, off, none⟩) n c → ∀ j u, news[j]? = some u → w.cell? ⟨b, off + j, none⟩ = some u) ∧ ∀ i j (hi : i < rows.length) (hj : j < rows[i].length), ∃ u, news[i * sz + j]? = some u ∧ RdP w (fun p => ok ((i, j) :: p)) (fun p => q ((i, j) :: p)) u (rows[i][j]) := by
 obtain ⟨ad, cap, vals, rfl, h1, h2, h3, h4, h5⟩ := zC0 h hz
 refine ⟨vals, ⟨fun w1 => rfl, fun w1 hw => ?_, fun v hv => ?_, h2⟩, fun b off n c hv j u hu => ?_, h5⟩
 · rcases h3 with h3 | ⟨b, off, rfl, h3⟩
   · subst h3
     have : vals = [] := by simpa using h2
     subst this
     cases ad with
     | none => rfl
     | some ad =>
       have := run_loadCells_list (P := P) w1 ad [] (fun j v hv => by simp at hv)
       simpa [Builtin.firstCells] using this
   · have := run_loadCells_list (P := P) w1 ⟨b, off, none⟩ vals (fun j v hv => by rw [zA1, ← h3 j v hv]; unfold World.cell?; rw [hw])
     rw [h2] at this
     simpa [Builtin.firstCells] using this
 · obtain ⟨k, hk, rfl⟩ := List.mem_iff_getElem.1 hv
   have hlt : k < rows.length * sz := by rw [← h2]; exact hk
   have h6 : k / sz < rows.length := Nat.div_lt_of_lt_mul (by rw [Nat.mul_comm]; exact hlt)
   have h7 : k % sz < rows[k / sz].length := by rw [h4 _ (List.getElem_mem h6)]; exact Nat.mod_lt _ hz
   obtain ⟨u, u1, u2⟩ := h5 _ _ h6 h7
   rw [Nat.mul_comm, Nat.div_add_mod, List.getElem?_eq_getElem hk] at u1
   cases u1
   exact u2.one
 · cases hv
   rcases h3 with h3 | ⟨b', off', e, h3⟩
   · subst h3
     have : vals = [] := by simpa using h2
     subst this
     simp at hu
   · cases e; exact h3 j u hu
theorem zIN {P : Program} {w : World} (t : ByteArray) : SrcRun P w 1 t.size (t.data.toList.map fun b => Value.int .u8 b.toNat) (.string t) where
 len := fun _ => rfl
 first := fun w1 _ => by
  have : (t.extract 0 t.size).data = t.data := by simp
  simp only [Builtin.firstCells, this, Sem.run_pure]
  congr 1
  apply Array.ext'
  simp
 one := fun v hv => by obtain ⟨b, _, rfl⟩ := List.mem_map.1 hv; rfl
 length := by rw [List.length_map, zAP, Nat.mul_one]
section
variable {P : Program} {w : World} {t0 t1 ty e : TypeId} {te : TypeInfo} {z : Value} {x : Value} {n m cap : Nat} {news : List Value}
theorem zC6 (ht : P.underlying t0 = some (.slice e)) (hd : (∃ e', P.underlying t1 = some (.slice e')) ∨ P.underlying t1 = some .string) (hte : P.info? e = some te)
 (hs : SrcRun P w te.size 0 news x) : (Builtin.append_ #[t0, t1] ty #[.slice none 0 0, x]).run P w = .ok (.slice none 0 0) w := by
 have h1 := hs.len w
 have h2 := hs.first w rfl
 rcases hd with ⟨e', ht1⟩ | ht1 <;> simp [Builtin.append_, run_underlying ht, run_underlying ht1, sizeOf, typeInfo, hte, h1, h2]
theorem zC7 (ht : P.underlying t0 = some (.slice e)) (hd : (∃ e', P.underlying t1 = some (.slice e')) ∨ P.underlying t1 = some .string) (hte : P.info? e = some te)
 (hs : SrcRun P w te.size m news x) {b : Nat} (hroom : n + m ≤ cap) (hcell : ∀ j, j < news.length → (w.cell? ⟨b, n * te.size + j, none⟩).isSome = true)
 (hfro : ∀ j, j < news.length → w.frozen? ⟨b, n * te.size + j, none⟩ = false) :
 (Builtin.append_ #[t0, t1] ty #[.slice (some ⟨b, 0, none⟩) n cap, x]).run P w = .ok (.slice (some ⟨b, 0, none⟩) (n + m) cap) (w.setCells b (n * te.size) news) := by
 have h1 := hs.len w
 have h2 := hs.first w rfl
 have hst := run_storeCells_cells (P := P) b (n * te.size) news 0 w (by simpa using hcell) (by simpa using hfro) hs.one
 rw [Nat.add_zero] at hst
 have ha : (⟨b, 0, none⟩ : Addr).add (n * te.size) = ⟨b, n * te.size, none⟩ := by rw [zA1, Nat.zero_add]
 rcases hd with ⟨e', ht1⟩ | ht1 <;> simp [Builtin.append_, run_underlying ht, run_underlying ht1, sizeOf, typeInfo, hte, h1, h2, hroom, ha, hst]
theorem zC5 (ht : P.underlying t0 = some (.slice e)) (hd : (∃ e', P.underlying t1 = some (.slice e')) ∨ P.underlying t1 = some .string) (hte : P.info? e = some te) (hz : te.zero = some z)
 (hs : SrcRun P w te.size m news x) {s : Option Addr} {olds : List Value} (ho : SrcRun P w te.size n olds (.slice s n cap)) (hg : cap < n + m) (hL : n + m ≤ Lim) (hby : te.bytes ≤ 256) :
 (Builtin.append_ #[t0, t1] ty #[.slice s n cap, x]).run P w = .ok (.slice (some ⟨w.heap.size, 0, none⟩) (n + m) (grownCap w (n + m) cap e))
   (w.drew.alloc (.cells (olds ++ news ++ (Builtin.zeroCells z.cells (grownCap w (n + m) cap e - (n + m))).toList).toArray e)) := by
 have h1 := hs.len w
 have h2 := hs.first w.drew rfl
 have h3 := ho.first w.drew rfl
 have hL' : n + m ≤ 274877906944 := hL
 have hb : (n + m) * te.bytes ≤ 140737488355328 := by
  have : (n + m) * te.bytes ≤ 274877906944 * 256 := Nat.mul_le_mul hL' hby
  omega
 have hfit := growslice_fits hg hb
 have hn : ¬ (n + m ≤ cap) := by omega
 have h63' : ¬ (9223372036854775807 < ((n : Int) + (m : Int))) := by omega
 have h48' : ¬ (281474976710656 < Builtin.nextslicecap (n + m) cap * te.bytes) := by omega
 rcases hd with ⟨e', ht1⟩ | ht1
 all_goals
  simp [Builtin.append_, run_underlying ht, run_underlying ht1, sizeOf, typeInfo, zeroValue, hte, hz, h1, hn, h63', h48', Question.forced, h2, h3, newRow, grownCap]
  congr 2
  apply Array.ext'
  simp [List.append_assoc]
end
section
variable {C : Ctx} {σ : St} {a : Act} {E : Env} {u u' u'' : Ups} {tt : TT} {o : Oper} {md : Md} {v : AV} {ob : List Prop} {ty : TypeId}
theorem zE1 {w : World} (hi : Inv C (St.get (u ++ σ)) a.tmps E) (hw : E.w = w) {t0 t1 e : TypeId} {te : TypeInfo} {z : Value} {T : Ty} (ht : C.P.underlying t0 = some (.slice e))
 (hd : (∃ e', C.P.underlying t1 = some (.slice e')) ∨ C.P.underlying t1 = some .string) (hte : C.P.info? e = some te) (hsz : te.size = T.sz) (hby : te.bytes ≤ 256) (hz : te.zero = some z)
 (hzc : z.cells.size = T.sz) {xs ys : List T.den} {f g rf : Fl} {nest : Bool} (hf : f = .own ∨ f = .tip)
 (hmode : (T.flat = true ∧ rf = .own) ∨ (nest = true ∧ f = .own ∧ g = .own ∧ rf = .own) ∨ (nest = false ∧ (f = .own ∨ f = .tip) ∧ (g = .own ∨ g = .tip ∨ g = .ro) ∧ rf = .tip))
 {v0 x : Value} (hv0 : VRc E (zAd (St.get (u ++ σ))) (.h 0) 0 (.sl f T xs) v0) {news : List Value} (hs : SrcRun C.P w T.sz ys.length news x)
 (hnew : ∀ i j (hi : i < ys.length) (hj : j < (T.toD ys[i]).length), ∃ u, news[i * T.sz + j]? = some u ∧ RdP E.w (fun p => okF E (.h 1) 0 g ((i, j) :: p)) (fun p => qF E (.h 1) 0 g ((i, j) :: p)) u (T.toD ys[i])[j])
 (hL : xs.length + ys.length ≤ Lim) (ty : TypeId) :
 ∃ val w', (Builtin.append_ #[t0, t1] ty #[v0, x]).run C.P w = .ok val w' ∧ Hand C (u ++ σ) a.tmps w' 0 (.v false [.sl rf T (xs ++ ys)]) val := by
 subst hw
 have hp := Ty.sz_pos T
 have hv0 : RdP E.w (okF E (.h 0) 0 f) (qF E (.h 0) 0 f) v0 (.sl T.sz (xs.map T.toD)) := hv0
 obtain ⟨olds, ho, hoc, hok⟩ := zBZ (P := C.P) hv0 hp
 obtain ⟨ad, cap, rfl, hcap⟩ := hv0.shape
 rw [List.length_map] at ho hcap
 have hq : Tip E (.arr (.h 0) 0 []) (.slice ad (xs.map T.toD).length cap) T.sz := by
  have : qF E (.h 0) 0 f [] (.slice ad (xs.map T.toD).length cap) T.sz := hv0.top
  rcases hf with rfl | rfl
  · exact this
  · exact this rfl
 rw [List.length_map] at hq ⊢
 have hold : ∀ i j (hi : i < xs.length) (hj : j < (T.toD xs[i]).length), ∃ u, olds[i * T.sz + j]? = some u ∧ RdP E.w (fun p => okF E (.h 0) 0 f ((i, j) :: p)) (fun p => qF E (.h 0) 0 f ((i, j) :: p)) u (T.toD xs[i])[j] := by
  intro i j hi hj
  have := hok i j (by simpa using hi) (by simpa using hj)
  simpa using this
 have hsrc := zEr xs.length
 have hnl := hs.length
 have hol := ho.length
 have hlt : ∀ (n i j : Nat), i < n → j < T.sz → i * T.sz + j < n * T.sz := by
  intro n i j hi hj
  calc i * T.sz + j < i * T.sz + T.sz := by omega
   _ = (i + 1) * T.sz := by rw [Nat.add_mul, Nat.one_mul]
   _ ≤ n * T.sz := Nat.mul_le_mul_right _ hi
 by_cases hroom : xs.length + ys.length ≤ cap
 · match ad, hq with
   | none, hq =>
     obtain ⟨h0, rfl⟩ : xs.length = 0 ∧ cap = 0 := hq
     have hx : xs = [] := List.length_eq_zero_iff.1 h0
     have hy : ys = [] := List.length_eq_zero_iff.1 (by omega)
     subst hx hy
     refine ⟨_, _, zC6 ht hd hte (by rw [hsz]; exact hs), E, rfl, hi, ?_, trivial⟩
     have hrf : rf = .own ∨ rf = .tip := by rcases hmode with ⟨_, h⟩ | ⟨_, _, _, h⟩ | ⟨_, _, _, h⟩ <;> simp [h]
     refine RdP.nil none 0 T.sz ?_
     rcases hrf with rfl | rfl
     · exact ⟨rfl, rfl⟩
     · exact fun _ => ⟨rfl, rfl⟩
   | some ⟨b, off, sp⟩, hq =>
     match off, sp, hq with
     | _ + 1, _, hq => exact hq.elim
     | 0, some _, hq => exact hq.elim
     | 0, none, hq =>
       obtain ⟨q1, q2, q3, cs, cty, lo, hi', q4, q5, q6⟩ := hq
       have hin : ∀ j, j < news.length → xs.length * T.sz + j < cap * T.sz := by
        intro j hj
        have : (xs.length + ys.length) * T.sz ≤ cap * T.sz := Nat.mul_le_mul_right _ hroom
        rw [Nat.add_mul] at this
        omega
       have run := zC7 (ty := ty) ht hd hte (by rw [hsz]; exact hs) (b := b) hroom (fun j hj => by
        have := hin j hj
        rw [hsz]; simp [World.cell?, q4]; omega) (fun j hj => by
        have h1 := hin j hj
        rw [hsz]
        simp only [World.frozen?, q4]
        by_cases hlo : lo ≤ xs.length * T.sz + j
        · by_cases hhi : xs.length * T.sz + j < hi'
          · have := q6 _ hlo hhi; omega
          · simp [hhi]
        · simp [hlo])
       rw [hsz] at run
       obtain ⟨st, hi2⟩ := zFc (vs := news) (o := xs.length * T.sz) (m := (xs.length + ys.length) * T.sz) hi (zCo (kp := true) (nest := nest) hsrc) zHT q1 (.inl rfl) q4 (by omega) (by rw [q2]; exact Nat.mul_le_mul_right _ (Nat.le_add_right _ _))
       obtain ⟨cs', c1, c2, c3⟩ := zAC b news (xs.length * T.sz) E.w q4
       refine ⟨_, _, run, _, rfl, hi2, ?_, trivial⟩
       refine zGQ (E := E) (kp := true) (nest := nest) rfl hmode (fun b' hb _ => ?_) (by simp [Env.growArr, q1, zBh]) (by simp [Env.growArr]) c1 hroom (by rw [c2]; exact q5) (fr := (lo, hi')) q6 (fun i j hi hj => ?_) (fun i j hi hj => ?_)
       · have hne : b' ≠ b := by rintro rfl; exact hb q1
         exact ⟨rfl, by simp [Env.growArr, hne], zAq b b' hne _ _ _⟩
       · obtain ⟨u1, g1, g2⟩ := hold i j hi hj
         refine ⟨u1, ?_, g2⟩
         have hjs : j < T.sz := by rw [Ty.toD_length] at hj; exact hj
         have hk := hlt xs.length i j hi hjs
         rw [c3, if_neg (by omega)]
         have := hoc b 0 xs.length cap (by rw [List.length_map]) _ _ g1
         rw [Nat.zero_add] at this
         simpa [World.cell?, q4] using this
       · obtain ⟨u1, g1, g2⟩ := hnew i j hi hj
         refine ⟨u1, ?_, g2⟩
         have hk : i * T.sz + j < news.length := (List.getElem?_eq_some_iff.1 g1).1
         have := hin _ hk
         rw [Nat.add_mul, Nat.add_assoc, c3, if_pos ⟨Nat.le_add_right _ _, by omega, by omega⟩, Nat.add_sub_cancel_left]
         exact g1
 · have hcapge := grownCap_ge E.w (xs.length + ys.length) cap e
   have run := zC5 (ty := ty) ht hd hte hz (by rw [hsz]; exact hs) (s := ad) (n := xs.length) (cap := cap) (olds := olds) (by rw [hsz]; simpa using ho) (by omega) hL hby
   generalize hgc : grownCap E.w (xs.length + ys.length) cap e = gc at *
   have hg := Grown.drew E.w (olds ++ news ++ (Builtin.zeroCells z.cells (gc - (xs.length + ys.length))).toList).toArray e
   obtain ⟨st, hi2⟩ := zCL hi hg (zCo (kp := false) (nest := nest) hsrc) zHT (zCz hsrc) ((xs.length + ys.length) * T.sz)
   have hn := hi.new E.w.heap.size (Nat.le_refl _)
   refine ⟨_, _, run, _, rfl, hi2, ?_, trivial⟩
   have hcsz : (olds ++ news ++ (Builtin.zeroCells z.cells (gc - (xs.length + ys.length))).toList).toArray.size = gc * T.sz := by
    have e1 : ∀ k, (Builtin.zeroCells z.cells k).toList.length = k * T.sz := by
     intro k
     have := size_zeroCells z.cells k
     rw [hzc] at this
     simpa using this
    rw [List.size_toArray, jA, jA, e1, hol, hnl, ← Nat.add_mul, ← Nat.add_mul]
    congr 1; omega
   refine zGQ (E := E) (kp := false) (nest := nest) rfl hmode (fun b' hb hb2 => ?_) (by simp [Env.newArr]) (by simp [Env.newArr]) hg.new hcapge (hcsz.symm) (fr := (0, 0)) (fun o _ h => absurd h (Nat.not_lt_zero o)) (fun i j hi hj => ?_) (fun i j hi hj => ?_)
   · have hne : b' ≠ E.w.heap.size := by
      rintro rfl
      rcases hb2 with h | h
      · omega
      · exact h hn.1
     exact ⟨by simp [Env.newArr, hne], by simp [Env.newArr, hne], hg.old b' hne⟩
   · obtain ⟨u1, g1, g2⟩ := hold i j hi hj
     refine ⟨u1, ?_, g2⟩
     have hk : i * T.sz + j < olds.length := (List.getElem?_eq_some_iff.1 g1).1
     rw [List.getElem?_toArray, List.append_assoc, List.getElem?_append_left hk]
     exact g1
   · obtain ⟨u1, g1, g2⟩ := hnew i j hi hj
     refine ⟨u1, ?_, g2⟩
     have hk : i * T.sz + j < news.length := (List.getElem?_eq_some_iff.1 g1).1
     rw [List.getElem?_toArray, List.append_assoc, Nat.add_mul, Nat.add_assoc, List.getElem?_append_right (by omega), hol, Nat.add_sub_cancel_left, List.getElem?_append_left hk]
     exact g1
end
end Go.Ab
namespace Go.Ab
variable [Inhabited Lb]
section
variable {C : Ctx} {σ : St} {a : Act} {E : Env} {u u' u'' : Ups} {tt : TT} {o : Oper} {md : Md} {v : AV} {ob : List Prop} {ty : TypeId}
theorem zCU {i : TI} (h : i.isSlice = true) : ∃ e T, i.elem = some (e, T) := by
 unfold TI.isSlice at h
 split at h
 · rename_i x e; exact ⟨_, _, e⟩
 · cases h
theorem zGR {w : World} (htt : TTok C.P tt) (hi : Inv C (St.get (u ++ σ)) a.tmps E) (hw : E.w = w) {c : Call} (ho : o.op = .call c) (hc : c.callee = .builtin .append) {x y : Operand} {t0 t1 : TypeId}
 (ha : c.args.toList = [x, y]) (hat : c.argTypes.toList = [t0, t1]) {i j : TI} (hti : tt.get t0 = some i) (htj : tt.get t1 = some j) {md' : Md} (hmd : md' = .take ∨ md' = .cp) {p q : CV} {u1 u2 : Ups} {p0 q0 : AV}
 (h1 : Mr (opd tt .take t0 x) σ u = some (p0, u1)) (hp : p0 = .v false [p]) (h2 : Mr (opd tt md' t1 y) σ u1 = some (q0, u2)) (hq : q0 = .v false [q]) (hfit : zEp i j p q = true) {r : CV} {ob : List Prop}
 (hr : appC p q = some (r, ob)) (hob : ∀ P ∈ ob, P) : Good C (u2 ++ σ) a w o (.v false [r]) := by
 subst hp hq
 obtain ⟨E1, e1, e2, e3, e4, e5, e6⟩ := zBk hi 0 h1
 obtain ⟨E2, f1, f4, f5, f0⟩ : ∃ E2, E2.w = E1.w ∧ Inv C (St.get (u2 ++ σ)) a.tmps E2 ∧ VRc E2 (zAd (St.get (u2 ++ σ))) (.h 1) 0 q (a.eval y) ∧
  ((p.owning = true) → (∀ k c, ¬ p.speaks k c) → p.isBor = false → VRc E2 (zAd (St.get (u2 ++ σ))) (.h 0) 0 p (a.eval x)) := by
  rcases hmd with rfl | rfl
  · obtain ⟨E2, g1, g2, g3, g4, g5, g6⟩ := zBk e4 1 h2
    refine ⟨E2, g1, g4, g5.1, fun h0 hs hb => ?_⟩
    exact VRc.step g3 (fun s hs => ⟨g6 s hs, by rw [g2]⟩) (fun _ hd => by
     rcases hd with ⟨t', _, hd⟩ | hd
     · cases hd
     · cases hd) (fun k c h => absurd h (hs k c)) (fun h => by rw [hb] at h; cases h) e5.1
  · obtain ⟨rfl, g⟩ := zCY e4 h2
    exact ⟨E1, rfl, e4, (g (.h 1)).1, fun _ _ _ => e5.1⟩
 have hargs : c.args.map a.eval = #[a.eval x, a.eval y] := by
  apply Array.ext'
  rw [Array.toList_map, ha]; rfl
 have hats : c.argTypes = #[t0, t1] := Array.ext' hat
 simp only [zEp, Bool.and_eq_true] at hfit
 obtain ⟨hf1, hf2⟩ := hfit
 have fin : ∀ {T : Ty} {xs ys : List T.den} {f g rf : Fl} {nest : Bool} {news : List Value}, i.isOf T = true → (f = .own ∨ f = .tip) →
  ((T.flat = true ∧ rf = .own) ∨ (nest = true ∧ f = .own ∧ g = .own ∧ rf = .own) ∨ (nest = false ∧ (f = .own ∨ f = .tip) ∧ (g = .own ∨ g = .tip ∨ g = .ro) ∧ rf = .tip)) →
  VRc E2 (zAd (St.get (u2 ++ σ))) (.h 0) 0 (.sl f T xs) (a.eval x) → SrcRun C.P E2.w T.sz ys.length news (a.eval y) →
  (∀ i j (hi : i < ys.length) (hj : j < (T.toD ys[i]).length), ∃ u, news[i * T.sz + j]? = some u ∧ RdP E2.w (fun p => okF E2 (.h 1) 0 g ((i, j) :: p)) (fun p => qF E2 (.h 1) 0 g ((i, j) :: p)) u (T.toD ys[i])[j]) →
  ((∃ e', C.P.underlying t1 = some (.slice e')) ∨ C.P.underlying t1 = some .string) → xs.length + ys.length ≤ Lim →
  Good C (u2 ++ σ) a w o (.v false [.sl rf T (xs ++ ys)]) := by
  intro T xs ys f g rf nest news hof hf hmode hx hs hn hd hL
  obtain ⟨e, he⟩ := zBU hof
  obtain ⟨hu, te, zv, k1, k2, k3, k4, k5, k6⟩ := (htt t0 i hti).elem e T he
  have hzc : zv.cells.size = T.sz := by
   have := zBp k6
   rw [Ty.enc_length] at this
   simpa using this
  obtain ⟨val, w', hrun, hand⟩ := zE1 f4 rfl hu hd k1 k2 k4 k5 hzc hf hmode hx hs hn hL o.type
  refine ⟨val, w', ?_, hand⟩
  rw [zDk ho hc, hargs, hats, ← (show E2.w = w by rw [f1, e1, hw]), hrun]
  rfl
 unfold appC at hr
 split at hr
 · rename_i f T xs g U ys
   split at hr
   · rename_i hUT
     subst hUT
     split at hr
     · rename_i hf
       have hown : (CV.sl f U xs).owning = true := by rcases hf with rfl | rfl <;> rfl
       have hx := f0 hown (by rcases hf with rfl | rfl <;> exact fun _ _ h => h) (by rcases hf with rfl | rfl <;> rfl)
       obtain ⟨e', T', he'⟩ := zCU (i := j) hf2
       obtain ⟨hu', _⟩ := (htt t1 j htj).elem e' T' he'
       obtain ⟨news, s1, s2, s3⟩ := zBZ (P := C.P) (v := a.eval y) f5 (Ty.sz_pos U)
       rw [List.length_map] at s1
       have s4 : ∀ i j (hi : i < ys.length) (hj : j < (U.toD ys[i]).length), ∃ u, news[i * U.sz + j]? = some u ∧ RdP E2.w (fun p => okF E2 (.h 1) 0 g ((i, j) :: p)) (fun p => qF E2 (.h 1) 0 g ((i, j) :: p)) u (U.toD ys[i])[j] := by
        intro i j hi hj
        have := s3 i j (by simpa using hi) (by simpa using hj)
        simpa using this
       split at hr
       · rename_i hflat
         cases hr
         exact fin (nest := false) hf1 hf (.inl ⟨hflat, rfl⟩) hx s1 s4 (.inl ⟨e', hu'⟩) (hob _ (by simp))
       · split at hr
         · rename_i hg
           cases hr
           by_cases hfg : f = .own ∧ g = .own
           · rw [if_pos hfg]
             exact fin (nest := true) hf1 hf (.inr (.inl ⟨rfl, hfg.1, hfg.2, rfl⟩)) hx s1 s4 (.inl ⟨e', hu'⟩) (hob _ (by simp))
           · rw [if_neg hfg]
             exact fin (nest := false) hf1 hf (.inr (.inr ⟨rfl, hf, by rcases hg with h | h | h <;> simp [h], rfl⟩)) hx s1 s4 (.inl ⟨e', hu'⟩) (hob _ (by simp))
         · cases hr
     · cases hr
   · cases hr
 · rename_i f xs ys
   split at hr
   · rename_i hf
     cases hr
     have hown : (CV.sl f .byte xs).owning = true := by rcases hf with rfl | rfl <;> rfl
     have hx := f0 hown (by rcases hf with rfl | rfl <;> exact fun _ _ h => h) (by rcases hf with rfl | rfl <;> rfl)
     obtain ⟨t, hy, rfl⟩ := f5
     rw [hy] at fin
     have hl : (t.data.toList.map fun c => (c.toNat : Int)).length = t.size := by rw [List.length_map, zAP]
     refine fin (T := .byte) (g := .ro) (nest := false) hf1 hf (.inl ⟨rfl, rfl⟩) hx (by rw [hl]; exact zIN t) (fun i j hi hj => ?_) (.inr ((htt t1 j htj).str hf2)) (by rw [hl, ← zAP]; exact hob _ (by simp))
     have hj0 : j = 0 := by simp [Ty.toD] at hj; exact hj
     subst hj0
     refine ⟨_, by simp only [Ty.sz, Nat.mul_one, Nat.add_zero]; rw [List.getElem?_map, List.getElem?_eq_getElem (by rw [zAP, ← hl]; exact hi)]; rfl, ?_⟩
     simp only [Ty.toD, List.getElem_map, List.getElem_cons_zero]
     exact .int .u8 _
   · cases hr
 · cases hr
end
end Go.Ab
end
section
namespace Go.Ab
variable [Inhabited Lb]
def zD4 : List (Nat × Nat) → List (Nat × Nat) → Option (List (Nat × Nat))
 | [], q => some q
 | x :: p, y :: q => if x = y then zD4 p q else none
 | _ :: _, [] => none
theorem zBB : ∀ {p q r : List (Nat × Nat)}, zD4 p q = some r ↔ q = p ++ r
 | [], q, r => by simp [zD4]
 | x :: p, [], r => by simp [zD4]
 | x :: p, y :: q, r => by
   simp only [zD4, List.cons_append, List.cons.injEq]
   split
   · rename_i h; subst h; rw [zBB]; simp
   · rename_i h; simp [Ne.symm h]
def hitP (p : List (Nat × Nat)) (i off m : Nat) (q : List (Nat × Nat)) : Bool :=
 match zD4 p q with
 | some (x :: _) => decide (x.1 = i ∧ off ≤ x.2 ∧ x.2 < off + m)
 | _ => false
def zBW (k c : Nat) (p : List (Nat × Nat)) (i off m : Nat) : Own → Option Own
 | .arr (.k k') c' q => if k' = k ∧ c' = c ∧ hitP p i off m q = true then none else some (.arr (.k k') c' q)
 | .arr (.h j) c' q => if j = 0 then (if c' < m then some (.arr (.k k) c (p ++ (i, off + c') :: q)) else none) else some (.arr (.h j) c' q)
 | .box s => some (.box s)
def dkM (k c : Nat) : Pl → Nat → Prop := fun pl c' => (pl = .k k ∧ c' = c) ∨ pl = .h 0
theorem zEb {p : List (Nat × Nat)} {i off m c' : Nat} {q : List (Nat × Nat)} (h : c' < m) : hitP p i off m (p ++ (i, off + c') :: q) = true := by
 unfold hitP
 rw [zBB.2 rfl]
 simp [h]
theorem zBX {k c : Nat} {p : List (Nat × Nat)} {i off m : Nat} {l1 l : Own} (h : zBW k c p i off m l1 = some l) :
 (∃ k' c' q, l1 = .arr (.k k') c' q ∧ ¬ (k' = k ∧ c' = c ∧ hitP p i off m q = true) ∧ l = l1) ∨ (∃ c' q, l1 = .arr (.h 0) c' q ∧ c' < m ∧ l = .arr (.k k) c (p ++ (i, off + c') :: q)) ∨
   (∃ j c' q, l1 = .arr (.h j) c' q ∧ l = l1) ∨ (∃ s, l1 = .box s ∧ l = l1) := by
 unfold zBW at h
 split at h
 · split at h
   · cases h
   · rename_i hn; cases h; exact .inl ⟨_, _, _, rfl, hn, rfl⟩
 · split at h
   · rename_i e
     split at h
     · rename_i hlt; cases h; exact .inr (.inl ⟨_, _, by rw [e], hlt, rfl⟩)
     · cases h
   · cases h; exact .inr (.inr (.inl ⟨_, _, _, rfl, rfl⟩))
 · cases h; exact .inr (.inr (.inr ⟨_, rfl, rfl⟩))
theorem zHb (k c : Nat) (p : List (Nat × Nat)) (i off m : Nat) : RhoOk (zBW k c p i off m) (dkM k c) where
 box := fun _ => rfl
 id := fun pl c' q h => by
  unfold dkM at h
  cases pl with
  | k n =>
    have : ¬ (n = k ∧ c' = c ∧ hitP p i off m q = true) := fun e => h (.inl ⟨by rw [e.1], e.2.1⟩)
    simp only [zBW, if_neg this]
  | h n => have : n ≠ 0 := fun e => h (.inr (by rw [e])); simp [zBW, this]
 inj := fun l1 l2 l h1 h2 => by
  rcases zBX h1 with ⟨k1, c1, q1, rfl, n1, rfl⟩ | ⟨c1, q1, rfl, n1, rfl⟩ | ⟨j1, c1, q1, rfl, rfl⟩ | ⟨s1, rfl, rfl⟩ <;>
   rcases zBX h2 with ⟨k2, c2, q2, rfl, n2, e⟩ | ⟨c2, q2, rfl, n2, e⟩ | ⟨j2, c2, q2, rfl, e⟩ | ⟨s2, rfl, e⟩
  · exact e
  · injection e with a1 a2 a3
    injection a1 with a1
    exact absurd ⟨a1, a2, by rw [a3]; exact zEb n2⟩ n1
  · cases e
  · cases e
  · injection e with a1 a2 a3
    injection a1 with a1
    exact absurd ⟨a1.symm, a2.symm, by rw [← a3]; exact zEb n1⟩ n2
  · simp only [Own.arr.injEq, List.append_cancel_left_eq, List.cons.injEq, Prod.mk.injEq, true_and] at e
    obtain ⟨h3, h4⟩ := e
    have : c1 = c2 := by omega
    subst this h4
    rfl
  · cases e
  · cases e
  · cases e
  · cases e
  · exact e
  · cases e
  · cases e
  · cases e
  · cases e
  · exact e
 arr := fun k c p s h => by
  rcases zBX h with ⟨k1, c1, q1, e1, n1, e⟩ | ⟨c1, q1, e1, n1, e⟩ | ⟨j1, c1, q1, e1, e⟩ | ⟨s1, e1, e⟩
  · rw [e1] at e; cases e
  · cases e
  · rw [e1] at e; cases e
  · cases e1
structure MutSet (E E' : Env) (k c : Nat) (P : List (Nat × Nat)) (b i off : Nat) (T : Ty) (vs : List CV) (vals : List Value) : Prop where
 hb : E.ow b = some (.arr (.k k) c P)
 inj : ∀ b b' l, E.ow b = some l → E.ow b' = some l → b = b'
 owb : E'.ow b = some (.arr (.k k) c P)
 hwb : E'.hw b = E.hw b
 moves : ∀ {l : List (Nat × Nat)}, l ≠ P → hitP P i off vs.length l = false → zF6 E E' (.arr (.k k) c l) (.arr (.k k) c l)
 cells : ∃ (cs cs' : Array Value) (ty : TypeId) (fr : Nat × Nat), E.w.heap[b]? = some (.cells cs ty fr) ∧ E'.w.heap[b]? = some (.cells cs' ty fr) ∧ cs'.size = cs.size ∧
  ∀ o, cs'[o]? = if i * T.sz + off ≤ o ∧ o < i * T.sz + off + vals.length ∧ o < cs.size then vals[o - (i * T.sz + off)]? else cs[o]?
 len : vs.length = vals.length
 fresh : ∀ (j : Nat) (y : CV) (v : Value), vs[j]? = some y → vals[j]? = some v → y.fits true = true →
  RdP E'.w (fun q => okF E' (.k k) c .own (P ++ (i, off + j) :: q)) (fun q => qF E' (.k k) c .own (P ++ (i, off + j) :: q)) v y.toD
 hi : (i + 1) * T.sz ≤ E.hw b
section
variable {E E' : Env} {bxs : Nat → Prop} {k c : Nat} {P : List (Nat × Nat)} {b i off : Nat} {T : Ty} {vs : List CV} {vals : List Value}
theorem zG6 {P : List (Nat × Nat)} {i off m : Nat} : hitP P i off m P = false := by
 unfold hitP
 rw [(zBB (p := P) (q := P) (r := [])).2 (by simp)]
theorem zIb {p0 p : List (Nat × Nat)} {x y : Nat × Nat} (hxy : x ≠ y) (r : List (Nat × Nat)) (i off m : Nat) : p0 ++ x :: r ≠ p0 ++ y :: p ∧ hitP (p0 ++ y :: p) i off m (p0 ++ x :: r) = false := by
 refine ⟨fun h => ?_, ?_⟩
 · rw [List.append_cancel_left_eq] at h
   injection h with h _
   exact hxy h
 · unfold hitP
   split
   · rename_i z t hz
     rw [zBB, List.append_assoc, List.append_cancel_left_eq] at hz
     injection hz with h _
     exact absurd h hxy
   · rfl
theorem zIF {P : List (Nat × Nat)} {x : Nat × Nat} {r : List (Nat × Nat)} {i off m : Nat} (h : ¬ (x.1 = i ∧ off ≤ x.2 ∧ x.2 < off + m)) : P ++ x :: r ≠ P ∧ hitP P i off m (P ++ x :: r) = false := by
 refine ⟨fun e => ?_, ?_⟩
 · have := congrArg List.length e
   simp at this
 · unfold hitP
   rw [zBB.2 rfl]
   simp only [decide_eq_false_iff_not]
   exact h
theorem MutSet.of (hb : E.ow b = some (.arr (.k k) c P)) (inj : ∀ b b' l, E.ow b = some l → E.ow b' = some l → b = b') (ow : ∀ b', E'.ow b' = (E.ow b').bind (zBW k c P i off vs.length)) (hw : ∀ b', E'.hw b' = E.hw b')
 (same : ∀ b', b' ≠ b → E'.w.heap[b']? = E.w.heap[b']?)
 (cells : ∃ (cs cs' : Array Value) (ty : TypeId) (fr : Nat × Nat), E.w.heap[b]? = some (.cells cs ty fr) ∧ E'.w.heap[b]? = some (.cells cs' ty fr) ∧ cs'.size = cs.size ∧
   ∀ o, cs'[o]? = if i * T.sz + off ≤ o ∧ o < i * T.sz + off + vals.length ∧ o < cs.size then vals[o - (i * T.sz + off)]? else cs[o]?)
 (hv : VRs E bxs (.h 0) 0 vs vals) (hi : (i + 1) * T.sz ≤ E.hw b) : MutSet E E' k c P b i off T vs vals where
 hb := hb
 inj := inj
 owb := by rw [ow, hb]; simp [zBW, zG6]
 hwb := hw b
 cells := cells
 len := zAh hv
 hi := hi
 moves := fun {l} hl hh b' hb' => by
  have hne : b' ≠ b := by
   rintro rfl
   rw [hb] at hb'
   simp only [Option.some.injEq, Own.arr.injEq, true_and] at hb'
   exact hl hb'.symm
  refine ⟨?_, hw b', same b' hne⟩
  rw [ow, hb']
  simp [zBW, hh]
 fresh := fun j y v hy hv' hf => by
  have hv := zAz hv hy hv'
  rw [Nat.zero_add] at hv
  have hj : j < vs.length := (List.getElem?_eq_some_iff.1 hy).1
  cases y with
  | int k n => obtain rfl : v = _ := hv; exact .int k n
  | bool b => obtain rfl : v = _ := hv; exact .bool b
  | str t => obtain ⟨s, rfl, rfl⟩ := hv; exact .str s
  | sl g U xs =>
    cases g <;> first | (simp [CV.fits] at hf; done) | skip
    refine zDB (p0 := []) (g := fun q => P ++ (i, off + j) :: q) (fun q b' hb' => ?_) hv
    have hne : b' ≠ b := by
     rintro rfl
     rw [hb] at hb'
     simp at hb'
    refine ⟨?_, hw b', same b' hne⟩
    rw [ow, hb']
    simp [zBW, hj]
  | _ => simp [CV.fits] at hf
theorem zI5 (M : MutSet E E' k c P b i off T vs vals) : ∀ (p p0 : List (Nat × Nat)) (x x' : CV) (v : Value), P = p0 ++ p → zBv x p (zBn T i off vs) = some x' →
 RdP E.w (fun q => okF E (.k k) c .own (p0 ++ q)) (fun q => qF E (.k k) c .own (p0 ++ q)) v x.toD →
 (∃ fl U xs xs', x = .sl fl U xs ∧ x' = .sl fl U xs' ∧ xs'.length = xs.length) ∧
   RdP E'.w (fun q => okF E' (.k k) c .own (p0 ++ q)) (fun q => qF E' (.k k) c .own (p0 ++ q)) v x'.toD := by
 intro p
 induction p with
 | nil =>
   intro p0 x x' v hP hn hrd
   rw [List.append_nil] at hP
   subst hP
   rw [zBv] at hn
   unfold zBn at hn
   split at hn
   · rename_i fl U xs
     split at hn
     · rename_i hU
       subst hU
       split at hn
       · rename_i row hfl hset
         split at hn
         · rename_i r hdec
           cases hn
           refine ⟨⟨fl, U, xs, xs.set i r, rfl, rfl, by simp⟩, ?_⟩
           have hsz := Ty.sz_pos U
           obtain ⟨cs, cs', cty, fr, c1, c2, c3, c4⟩ := M.cells
           have hvl := M.len
           have htop : ∀ v, Tip E (.arr (.k k) c P) v U.sz → Tip E' (.arr (.k k) c P) v U.sz := by
            intro v ht
            unfold Tip at ht ⊢
            split at ht
            · obtain ⟨h1, h2, h3, cs0, ty0, lo, hi, h4, h5⟩ := ht
              have hbb := M.inj _ _ _ h1 M.hb
              subst hbb
              rw [c1] at h4
              cases h4
              exact ⟨M.owb, M.hwb.trans h2, h3, cs', cty, lo, hi, c2, by rw [c3]; exact h5⟩
            · exact ht
            · exact ht.elim
           by_cases hxs : xs = []
           · subst hxs
             have hq := hrd.top
             simp only [List.append_nil] at hq
             obtain ⟨ad, cap, rfl, hcap⟩ := RdP.shape hrd
             have ht := htop _ hq
             refine RdP.nil ad cap U.sz ?_
             simp only [List.append_nil]
             exact ht
           · have hne : xs.map U.toD ≠ [] := by simpa using hxs
             obtain ⟨b', o', cap, rfl, hcap, hlen, hq, u, hc, hk⟩ := RdP.cells hrd hne
             simp only [List.append_nil] at hq hc
             have hq : Tip E (.arr (.k k) c P) (.slice (some ⟨b', o', none⟩) (xs.map U.toD).length cap) U.sz := hq
             have ho' : o' = 0 := by
              match o', hq with
              | 0, _ => rfl
              | _ + 1, hq => exact hq.elim
             subst ho'
             have hq2 := hq
             obtain ⟨q1, q2, q3, _⟩ := hq2
             have hbb := M.inj _ _ _ q1 M.hb
             subst hbb
             have hix : i < xs.length := by
              have h1 := M.hi
              rw [q2, List.length_map] at h1
              have := Nat.le_of_mul_le_mul_right h1 hsz
              omega
             have hsl := zAV hset
             rw [Ty.enc_length] at hsl
             have htd := Ty.dec_toD U row r hdec
             show RdP E'.w _ _ _ (.sl U.sz ((xs.set i r).map U.toD))
             have hlen' : ∀ z ∈ (xs.set i r).map U.toD, z.length = U.sz := by
              intro z hz
              obtain ⟨y, _, rfl⟩ := List.mem_map.1 hz
              exact Ty.toD_length U y
             have hqt := htop _ hq
             rw [List.length_map] at hqt hcap
             rw [List.length_map]
             refine zCm c2 (by simp) hcap hlen' (by simp only [List.append_nil]; exact hqt) (fun o ho => ?_) (fun i' j hi' hj => ?_)
             · simp only [List.append_nil]
               refine ⟨?_, hqt.1⟩
               rw [hqt.2.1]; exact ho
             · have hi2 : i' < xs.length := by simpa using hi'
               have e1 : ((xs.set i r).map U.toD)[i'] = U.toD ((xs.set i r)[i']'(by simpa using hi2)) := by rw [List.getElem_map]
               have hjs : j < U.sz := by rw [← hlen' _ (List.getElem_mem hi')]; exact hj
               have hidx : (i * U.sz + off ≤ i' * U.sz + j ∧ i' * U.sz + j < i * U.sz + off + vals.length) ↔ (i' = i ∧ off ≤ j ∧ j < off + vs.length) := by
                constructor
                · rintro ⟨h1, h2⟩
                  rcases Nat.lt_trichotomy i' i with h | h | h
                  · have : (i' + 1) * U.sz ≤ i * U.sz := Nat.mul_le_mul_right _ h
                    rw [Nat.add_mul] at this
                    omega
                  · subst h; exact ⟨rfl, by omega, by omega⟩
                  · have : (i + 1) * U.sz ≤ i' * U.sz := Nat.mul_le_mul_right _ h
                    rw [Nat.add_mul] at this
                    omega
                · rintro ⟨rfl, h1, h2⟩
                  exact ⟨by omega, by omega⟩
               obtain ⟨hcell, _⟩ := hc i' j (by simpa using hi2) hjs
               rw [Nat.zero_add] at hcell
               have hcs : cs[i' * U.sz + j]? = some (u i' j) := by simpa [World.cell?, c1] using hcell
               have hcl : i' * U.sz + j < cs.size := (Array.getElem?_eq_some_iff.1 hcs).1
               by_cases hit : i' = i ∧ off ≤ j ∧ j < off + vs.length
               · obtain ⟨h1, h2⟩ := hidx.2 hit
                 have hjv : i' * U.sz + j - (i * U.sz + off) = j - off := by rw [hit.1]; omega
                 have hjl : j - off < vals.length := by omega
                 refine ⟨vals[j - off], by rw [c4, if_pos ⟨h1, h2, hcl⟩, hjv, List.getElem?_eq_getElem hjl], ?_⟩
                 have hrow : row[j]? = some (vs[j - off]'(by omega)) := by
                  rw [zBA hset, if_pos hit.2, List.getElem?_eq_getElem]
                 have hfit : (vs[j - off]'(by omega)).fits true = true := (zDw hfl).2 _ (List.getElem_mem _)
                 have ed : ((xs.set i r).map U.toD)[i'][j] = (vs[j - off]'(by omega)).toD := by
                  have e2 : ((xs.set i r).map U.toD)[i'] = row.map CV.toD := by
                   rw [e1, ← htd]; congr 1
                   obtain ⟨rfl, _⟩ := hit
                   simp
                  have e3 : ((xs.set i r).map U.toD)[i'][j]? = some ((vs[j - off]'(by omega)).toD) := by rw [e2, List.getElem?_map, hrow]; rfl
                  exact (List.getElem?_eq_some_iff.1 e3).2
                 rw [ed]
                 obtain ⟨rfl, hj1, hj2⟩ := hit
                 have := M.fresh (j - off) _ _ (List.getElem?_eq_getElem (by omega : j - off < vs.length)) (List.getElem?_eq_getElem hjl) hfit
                 rw [show off + (j - off) = j by omega] at this
                 exact this
               · refine ⟨u i' j, by rw [c4, if_neg (fun h => hit (hidx.1 ⟨h.1, h.2.1⟩))]; exact hcs, ?_⟩
                 have ed : ((xs.set i r).map U.toD)[i'][j]? = ((xs.map U.toD)[i']'(by simpa using hi2))[j]? := by
                  rw [e1, List.getElem_map]
                  by_cases hii : i' = i
                  · subst hii
                    have hnr : ¬ (off ≤ j ∧ j < off + vs.length) := fun h => hit ⟨rfl, h⟩
                    rw [List.getElem_set_self, htd, List.getElem?_map, zBA hset, if_neg hnr, ← List.getElem?_map, Ty.enc_toD]
                    rw [List.getD_eq_getElem?_getD, List.getElem?_eq_getElem hi2]
                    rfl
                  · rw [List.getElem_set_ne (Ne.symm hii)]
                 have hj2 : j < ((xs.map U.toD)[i']'(by simpa using hi2)).length := by rw [List.getElem_map, Ty.toD_length]; exact hjs
                 have ed2 : ((xs.set i r).map U.toD)[i'][j] = ((xs.map U.toD)[i']'(by simpa using hi2))[j] := by
                  rw [List.getElem?_eq_getElem hj2] at ed
                  exact (List.getElem?_eq_some_iff.1 ed).2
                 rw [ed2]
                 have hkk := hk i' j (by simpa using hi2) hj2
                 refine zDB (E := E) (k := .k k) (k' := .k k) (c := c) (c' := c) (p0 := P ++ [(i', j)]) (g := fun q => P ++ (i', j) :: q) (fun q => ?_) ?_
                 · have := zIF (P := P) (x := (i', j)) (r := q) (i := i) (off := off) (m := vs.length) hit
                   rw [List.append_assoc, List.singleton_append]
                   exact M.moves this.1 this.2
                 · simp only [List.append_assoc, List.singleton_append]
                   exact hkk
         · cases hn
       · cases hn
     · cases hn
   · cases hn
 | cons q p ih =>
   obtain ⟨a, d⟩ := q
   intro p0 x x' v hP hn hrd
   cases x with
   | sl fl U xs =>
     simp only [zBv] at hn
     split at hn
     · rename_i y hy
       split at hn
       · rename_i y' hy'
         split at hn
         · rename_i x1 hdec
           cases hn
           refine ⟨⟨fl, U, xs, xs.set a x1, rfl, rfl, by simp⟩, ?_⟩
           have hsz := Ty.sz_pos U
           have hp0 : p0 ≠ P := by
            rw [hP]; intro e
            have := congrArg List.length e
            simp at this
           have hp0h : hitP P i off vs.length p0 = false := by
            unfold hitP
            split
            · rename_i z t hz
              rw [zBB, hP] at hz
              have := congrArg List.length hz
              simp at this
            · rfl
           have hm0 := M.moves hp0 hp0h
           by_cases hxs : xs = []
           · subst hxs
             have hq := hrd.top
             simp only [List.append_nil] at hq
             obtain ⟨ad, cap, rfl, hcap⟩ := RdP.shape hrd
             have ht := Tip.moves hm0 hq
             refine RdP.nil ad cap U.sz ?_
             simp only [List.append_nil]
             exact ht
           have hne : xs.map U.toD ≠ [] := by simpa using hxs
           obtain ⟨b', o', cap, rfl, hcap, hlen, hq, u, hc, hk⟩ := RdP.cells hrd hne
           simp only [List.append_nil] at hq hc
           have hq : Tip E (.arr (.k k) c p0) (.slice (some ⟨b', o', none⟩) (xs.map U.toD).length cap) U.sz := hq
           have ho' : o' = 0 := by
            match o', hq with
            | 0, _ => rfl
            | _ + 1, hq => exact hq.elim
           subst ho'
           have hqt := Tip.moves hm0 hq
           obtain ⟨q1, q2, q3, cs, cty, lo, hi, q4, q5, q6⟩ := hq
           obtain ⟨m1, m2, m3⟩ := hm0 b' q1
           have htd := Ty.dec_toD U _ x1 hdec
           have hdlt : d < (U.enc .own (xs.getD a U.dflt)).length := (List.getElem?_eq_some_iff.1 hy).1
           rw [Ty.enc_length] at hdlt
           have hxa : ∀ (ha : a < xs.length), xs.getD a U.dflt = xs[a] := fun ha => by rw [List.getD_eq_getElem?_getD, List.getElem?_eq_getElem ha]; rfl
           show RdP E'.w _ _ _ (.sl U.sz ((xs.set a x1).map U.toD))
           have hlen' : ∀ z ∈ (xs.set a x1).map U.toD, z.length = U.sz := by
            intro z hz
            obtain ⟨y, _, rfl⟩ := List.mem_map.1 hz
            exact Ty.toD_length U y
           rw [List.length_map] at hqt hcap
           rw [List.length_map]
           refine zCm (m3.trans q4) (by simp) hcap hlen' (by simp only [List.append_nil]; exact hqt) (fun o ho => ?_) (fun i' j hi' hj => ?_)
           · simp only [List.append_nil]
             refine ⟨?_, hqt.1⟩
             rw [hqt.2.1]; exact ho
           · have hi2 : i' < xs.length := by simpa using hi'
             have hi3 : i' < (xs.map U.toD).length := by simpa using hi2
             have e1 : ((xs.set a x1).map U.toD)[i'] = U.toD ((xs.set a x1)[i']'(by simpa using hi2)) := by rw [List.getElem_map]
             have hjs : j < U.sz := by rw [← hlen' _ (List.getElem_mem hi')]; exact hj
             obtain ⟨hcell, _⟩ := hc i' j hi3 hjs
             rw [Nat.zero_add] at hcell
             have hcs : cs[i' * U.sz + j]? = some (u i' j) := by simpa [World.cell?, q4] using hcell
             refine ⟨u i' j, hcs, ?_⟩
             have hj2 : j < ((xs.map U.toD)[i']'hi3).length := by rw [List.getElem_map, Ty.toD_length]; exact hjs
             have hkk := hk i' j hi3 hj2
             by_cases hit : (i', j) = (a, d)
             · injection hit with hit1 hit2
               subst hit1 hit2
               have hyd : ((xs.map U.toD)[i']'hi3)[j] = y.toD := by
                have : ((xs.map U.toD)[i']'hi3)[j]? = some y.toD := by
                 rw [List.getElem_map, ← Ty.enc_toD .own U xs[i'], List.getElem?_map, ← hxa hi2, hy]; rfl
                exact (List.getElem?_eq_some_iff.1 this).2
               have hyd' : ((xs.set i' x1).map U.toD)[i'][j] = y'.toD := by
                have : ((xs.set i' x1).map U.toD)[i'][j]? = some y'.toD := by
                 rw [e1, List.getElem_set_self, htd, List.getElem?_map, List.getElem?_set_self (by rw [Ty.enc_length]; exact hdlt)]; rfl
                exact (List.getElem?_eq_some_iff.1 this).2
               rw [hyd]  at hkk
               rw [hyd']
               have := (ih (p0 ++ [(i', j)]) y y' (u i' j) (by rw [hP, List.append_assoc, List.singleton_append]) hy' (by simp only [List.append_assoc, List.singleton_append]; exact hkk)).2
               simp only [List.append_assoc, List.singleton_append] at this
               exact this
             · have ed : ((xs.set a x1).map U.toD)[i'][j]? = ((xs.map U.toD)[i']'hi3)[j]? := by
                rw [e1, List.getElem_map]
                by_cases hii : i' = a
                · subst hii
                  have hjd : j ≠ d := fun e => hit (by rw [e])
                  rw [List.getElem_set_self, htd, List.getElem?_map, List.getElem?_set_ne (Ne.symm hjd), ← List.getElem?_map, Ty.enc_toD, hxa hi2]
                · rw [List.getElem_set_ne (Ne.symm hii)]
               have ed2 : ((xs.set a x1).map U.toD)[i'][j] = ((xs.map U.toD)[i']'hi3)[j] := by
                rw [List.getElem?_eq_getElem hj2] at ed
                exact (List.getElem?_eq_some_iff.1 ed).2
               rw [ed2]
               refine zDB (E := E) (k := .k k) (k' := .k k) (c := c) (c' := c) (p0 := p0 ++ [(i', j)]) (g := fun q => p0 ++ (i', j) :: q) (fun q => ?_) ?_
               · have := zIb (p0 := p0) (p := p) hit q i off vs.length
                 rw [← hP] at this
                 rw [List.append_assoc, List.singleton_append]
                 exact M.moves this.1 this.2
               · simp only [List.append_assoc, List.singleton_append]
                 exact hkk
         · cases hn
       · cases hn
     · cases hn
   | _ => simp only [zBv] at hn; cases hn
end
end Go.Ab
end
section
namespace Go.Ab
variable [Inhabited Lb]
theorem RdP.topq {w : World} {ok : List (Nat × Nat) → Nat → Nat → Prop} {q : List (Nat × Nat) → Value → Nat → Prop} {v : Value} {d : D} (h : RdP w ok q v d) :
 RdP w ok (fun p v' sz => q p v' sz ∧ (p = [] → v' = v)) v d := by
 cases h with
 | int k n => exact .int k n
 | bool b => exact .bool b
 | str s => exact .str s
 | nil a cap sz h => exact .nil a cap sz ⟨h, fun _ => rfl⟩
 | sl b off n cap sz rows u hn hcap hr h0 h1 h2 =>
   exact .sl b off n cap sz rows u hn hcap hr ⟨h0, fun _ => rfl⟩ h1 fun i j hi hj => (h2 i j hi hj).mono (fun _ _ _ ho => ⟨rfl, ho⟩) (fun p v sz hq => ⟨hq, fun e => absurd e (List.cons_ne_nil _ _)⟩)
section
variable {C : Ctx} {σ : St} {a : Act} {E : Env} {u u' u'' : Ups} {tt : TT} {o : Oper} {md : Md} {v : AV} {ob : List Prop} {ty : TypeId}
theorem zHc {E' : Env} (hi : Inv C (St.get (u ++ σ)) a.tmps E) {k c i off b : Nat} {p : List (Nat × Nat)} {T : Ty} {g : Bool} {cs vs : List CV} {ws : List Value} {x x' : CV}
 (hg : St.get (u ++ σ) k = .v g cs) (hc : cs[c]? = some x) (hmx : x.mutable = true) (hn : zBv x p (zBn T i off vs) = some x')
 (M : MutSet E E' k c p b i off T vs ws) (st : Step E E' (dkM k c) (fun _ => False) True)
 (hos : E'.w.os = E.w.os) (htp : E'.w.tape = E.w.tape) (hou : E'.w.output = E.w.output) (hsz : E.w.heap.size ≤ E'.w.heap.size)
 (hold : ∀ b, b < C.B → C.ow0 b = none → E'.w.heap[b]? = E.w.heap[b]? ∧ E'.hw b = E.hw b ∧ E'.ow b = none)
 (hnew : ∀ b, E'.w.heap.size ≤ b → E'.ow b = none ∧ E'.hw b = 0) (hinj : ∀ b b' l, E'.ow b = some l → E'.ow b' = some l → b = b')
 (hbhw : ∀ b s, E'.ow b = some (.box s) → E'.hw b = 0) (hbxE : ∀ s, E'.bx s = E.bx s) :
 Inv C (St.get (((zAe, .none) :: (k, .v g ((cs.map (CV.stale [k] false)).set c x')) :: u) ++ σ)) a.tmps E' := by
 have hdr : E'.hdr = E.hdr := st.hdr
 have key : ∀ (bxs' : Nat → Prop) (vals : List Value), (∀ s, zAd (St.get (u ++ σ)) s → bxs' s ∧ E'.bx s = E.bx s) → VRs E (zAd (St.get (u ++ σ))) (.k k) 0 cs vals →
  VRs E' bxs' (.k k) 0 (((cs.map (CV.stale [k] false)).set c x').map (CV.stale [zAe] true)) vals := by
  intro bxs' vals hbx h
  have hvl := zAh h
  refine zBf (by simp [hvl]) fun j z y hz hy => ?_
  rw [List.getElem?_map, Option.map_eq_some_iff] at hz
  obtain ⟨z0, hz, rfl⟩ := hz
  by_cases hj : j = c
  · subst hj
    have hjl : j < cs.length := (List.getElem?_eq_some_iff.1 hc).1
    rw [List.getElem?_set_self (by simpa using hjl)] at hz
    cases hz
    have hvx := zAz h hc hy
    rw [Nat.zero_add] at hvx ⊢
    cases x with
    | sl fl U xs =>
      have hfl : fl = .own ∨ ∃ n, fl = .lnt n := by cases fl <;> simp [CV.mutable] at hmx ⊢
      have hrd : RdP E.w (fun q => okF E (.k k) j .own ([] ++ q)) (fun q => qF E (.k k) j .own ([] ++ q)) y (CV.sl fl U xs).toD := by
       rcases hfl with rfl | ⟨n, rfl⟩
       · exact hvx
       · exact RdP.mono hvx (fun q b o ho => ⟨rfl, ho⟩) (fun q v sz ht => ht.1)
      obtain ⟨⟨fl', U', xs1, xs', e1, rfl, e3⟩, hrd'⟩ := zI5 M p [] _ x' y (by simp) hn hrd
      cases e1
      rcases hfl with rfl | ⟨n, rfl⟩
      · exact hrd'
      · have hq : y = E.hdr n := (RdP.top hvx).2 rfl
        refine RdP.mono hrd'.topq (fun q b o ho => ⟨rfl, ho⟩) (fun q v sz ht => ⟨ht.1, fun hq0 => ?_⟩)
        rw [ht.2 hq0, hq, hdr]
    | _ => simp [CV.mutable] at hmx
  · rw [List.getElem?_set_ne (Ne.symm hj), List.getElem?_map, Option.map_eq_some_iff] at hz
    obtain ⟨z1, hz, rfl⟩ := hz
    have hvz := zAz h hz hy
    rw [CV.stale_stale (s := [zAe, k]) (m := true) z1 (fun q => by simp [Bool.or_comm]) rfl]
    refine CW.vr st hbx (CW.stale (fun _ hd => ?_) (fun k' c' hd => ?_) (fun _ => rfl)) hvz
    · rcases hd with ⟨_, hd⟩ | hd
      · omega
      · cases hd
    · rcases hd with ⟨hd, _⟩ | hd
      · injection hd with hd; simp [hd]
      · cases hd
 have hG : ∀ q, St.get (((zAe, .none) :: (k, .v g ((cs.map (CV.stale [k] false)).set c x')) :: u) ++ σ) q =
  if zAe = q then .none else if k = q then .v g (((cs.map (CV.stale [k] false)).set c x').map (CV.stale [zAe] true)) else ((St.get (u ++ σ) q).mapC (CV.stale [zAe, k] true)) := by
  intro q
  show St.get ((zAe, _) :: ((k, _) :: (u ++ σ))) q = _
  rw [St.get_cons]
  split
  · rfl
  · rw [St.get_cons]
    split
    · rfl
    · rw [AV.mapC_comp]
      congr 1
      funext z
      exact CV.stale_stale z (fun q => by simp [Bool.or_comm]) (by simp)
 have hbx : ∀ s, zAd (St.get (u ++ σ)) s → zAd (St.get (((zAe, .none) :: (k, .v g ((cs.map (CV.stale [k] false)).set c x')) :: u) ++ σ)) s ∧ E'.bx s = E.bx s := by
  intro s hs
  refine ⟨?_, hbxE s⟩
  obtain ⟨ys, hys⟩ := hs
  unfold zAd
  rw [hG]
  rw [if_neg (by unfold zAe; omega)]
  split
  · rename_i e
    rw [e, hys] at hg
    cases hg
    exact ⟨_, rfl⟩
  · rw [hys]; exact ⟨_, rfl⟩
 have cw : ∀ (pl : Pl) (j : Nat) (z : CV), (∀ k' , pl = .k k' → k' ≠ k) → (∀ h, pl ≠ .h h) → CW (dkM k c) True pl j (z.stale [zAe, k] true) z := by
  intro pl j z h1 h2
  refine CW.stale (fun _ hd => ?_) (fun k' c' hd => ?_) (fun _ => rfl)
  · rcases hd with ⟨hd, _⟩ | hd
    · exact h1 _ hd rfl
    · exact h2 _ hd
  · rcases hd with ⟨hd, _⟩ | hd
    · injection hd with hd; simp [hd]
    · cases hd
 refine hi.step st hos htp hou hsz hold hnew hinj hbhw rfl hbx (fun t => ?_) (fun s cs2 hs => ?_)
 · rw [hG]
   by_cases hm : zAe = 2 * t
   · rw [if_pos hm]; exact .inl trivial
   · rw [if_neg hm]
     by_cases hk : k = 2 * t
     · rw [if_pos hk]
       refine .inl ?_
       have ht := hi.tmp t
       rw [← hk, hg] at ht
       rw [← hk]
       cases g with
       | true =>
         obtain ⟨vv, e, hvv⟩ := ht
         exact ⟨vv, e, key _ _ hbx hvv⟩
       | false => exact key _ _ hbx ht
     · rw [if_neg hk]
       exact .inr ⟨AWk.map (fun j z => cw _ _ _ (fun k' e => by injection e with e; omega) (fun h e => by cases e)) _, rfl⟩
 · rw [hG, if_neg (by unfold zAe; omega)] at hs
   by_cases hk : k = 2 * s + 1
   · rw [if_pos hk] at hs
     injection hs with hs1 hs2
     subst hs1
     have hbr := hi.box s cs (by rw [← hk]; exact hg)
     obtain ⟨r1, vals, ety, r2, r3⟩ := hbr
     obtain ⟨q1, q2, q3⟩ := st.box s r1 id
     refine .inl ⟨by rw [q1]; exact q2, vals, ety, by rw [q1]; exact q3.trans r2, ?_⟩
     rw [← hs2, ← hk]
     rw [← hk] at r3
     exact key _ _ hbx r3
   · rw [if_neg hk] at hs
     cases hq : St.get (u ++ σ) (2 * s + 1) with
     | v g' cs0 =>
       rw [hq] at hs
       injection hs with hs1 hs2
       subst hs1 hs2
       exact .inr ⟨id, cs0, rfl, CWs.map (fun j z => cw _ _ _ (fun k' e => by injection e with e; omega) (fun h e => by cases e)) _ _⟩
     | tup xs => rw [hq] at hs; cases hs
     | none => rw [hq] at hs; cases hs
theorem zH9 {w : World} (hi : Inv C (St.get (u ++ σ)) a.tmps E) (hw : E.w = w) {k c i off b : Nat} {p : List (Nat × Nat)} {T : Ty} {g gv : Bool} {cs vs : List CV} {x x' : CV} {val : Value}
 (hg : St.get (u ++ σ) k = .v g cs) (hc : cs[c]? = some x) (hmx : x.mutable = true) (hn : zBv x p (zBn T i off vs) = some x')
 (hv : VR1 E (zAd (St.get (u ++ σ))) (.h 0) 0 gv vs val) (hob : E.ow b = some (.arr (.k k) c p)) (hhi : (i + 1) * T.sz ≤ E.hw b) (hfz : ∀ o, o < E.hw b → E.w.frozen? ⟨b, o, none⟩ = false)
 (hcell : ∀ j, j < T.sz → (E.w.cell? ⟨b, i * T.sz + j, none⟩).isSome = true) (hlen : off + vs.length ≤ T.sz) :
 ∃ w', (storeCells ⟨b, i * T.sz + off, none⟩ val.cells.toList 0).run C.P w = .ok () w' ∧ val.cells.size = vs.length ∧
   Hand C (((zAe, .none) :: (k, .v g ((cs.map (CV.stale [k] false)).set c x')) :: u) ++ σ) a.tmps w' 0 .none undef := by
 subst hw
 have hvs := zCq hv
 generalize hws : val.cells.toList = ws at hvs
 have hlenv := zAh hvs
 have hone : ∀ z ∈ ws, z.oneCell' = true := by
  intro z hz
  obtain ⟨j, hj, rfl⟩ := List.mem_iff_getElem.1 hz
  exact (zAz hvs (List.getElem?_eq_getElem (by omega : j < vs.length)) (List.getElem?_eq_getElem hj)).one
 have hb2 : i * T.sz + T.sz ≤ E.hw b := by rw [Nat.add_mul, Nat.one_mul] at hhi; exact hhi
 have run := run_storeCells_cells (P := C.P) b (i * T.sz + off) ws 0 E.w (fun j hj => by
  have := hcell (off + j) (by omega)
  rw [Nat.add_zero, Nat.add_assoc]; exact this) (fun j hj => hfz _ (by omega)) hone
 rw [Nat.add_zero] at run
 refine ⟨_, run, by rw [← Array.length_toList, hws]; exact hlenv.symm, ?_⟩
 obtain ⟨hcs, hty, hfr, hh⟩ : ∃ cs ty fr, E.w.heap[b]? = some (.cells cs ty fr) := by
  have := hcell 0 (Ty.sz_pos T)
  unfold World.cell? at this
  split at this
  · exact ⟨_, _, _, by assumption⟩
  · simp at this
 obtain ⟨cs', d1, d2, d3⟩ := zAC b ws (i * T.sz + off) E.w hh
 have hr := zHb k c p i off vs.length
 generalize hE : ({ w := E.w.setCells b (i * T.sz + off) ws, hw := E.hw, ow := fun b' => (E.ow b').bind (zBW k c p i off vs.length), bx := E.bx, hdr := E.hdr } : Env) = E'
 have E'w : E'.w = E.w.setCells b (i * T.sz + off) ws := by rw [← hE]
 have E'ow : ∀ b', E'.ow b' = (E.ow b').bind (zBW k c p i off vs.length) := by rw [← hE]; exact fun _ => rfl
 have E'hw : ∀ b', E'.hw b' = E.hw b' := by rw [← hE]; exact fun _ => rfl
 have same : ∀ b', b' ≠ b → E'.w.heap[b']? = E.w.heap[b']? := fun b' h => by rw [E'w]; exact zAq b b' h _ _ _
 have st : Step E E' (dkM k c) (fun _ => False) True := {
  ro := fun b' hb' => by
   have hne : b' ≠ b := by rintro rfl; rw [hob] at hb'; cases hb'
   exact ⟨fun _ => by rw [E'ow, hb']; rfl, fun o ho => ⟨zAf (same b' hne) o, by rw [E'hw]; exact ho⟩⟩
  own := fun b' k' c' q hb' hd => by
   have hne : b' ≠ b := by rintro rfl; rw [hob] at hb'; cases hb'; exact hd (.inl ⟨rfl, rfl⟩)
   exact ⟨by rw [E'ow, hb']; exact hr.id _ _ _ hd, E'hw b', same b' hne⟩
  bor := fun h => absurd trivial h
  box := fun s hs _ => by
   have hne : E.bx s ≠ b := by intro e; rw [e, hob] at hs; cases hs
   exact ⟨by rw [← hE], by rw [E'ow, hs]; rfl, same _ hne⟩
  hdr := by rw [← hE] }
 have M : MutSet E E' k c p b i off T vs ws :=
  .of hob hi.inj E'ow E'hw same ⟨hcs, cs', hty, hfr, hh, by rw [E'w]; exact d1, d2, d3⟩ hvs hhi
 obtain ⟨o1, o2, o3⟩ := zAO b ws (i * T.sz + off) E.w
 refine ⟨E', E'w, zHc hi hg hc hmx hn M st (by rw [E'w]; exact o1) (by rw [E'w]; exact o2) (by rw [E'w]; exact o3) (by rw [E'w, zAu]; exact Nat.le_refl _) (fun b' hlt h0 => ?_) (fun b' hlt => ?_) (fun b1 b2 l g1 g2 => ?_) (fun b' s h => ?_) (fun s => by rw [← hE]), trivial⟩
 · have h2 := (hi.old b' hlt h0).2.2
   have hne : b' ≠ b := by rintro rfl; rw [hob] at h2; cases h2
   exact ⟨same b' hne, E'hw b', by rw [E'ow, h2]; rfl⟩
 · rw [E'w, zAu] at hlt
   have := hi.new b' hlt
   exact ⟨by rw [E'ow, this.1]; rfl, by rw [E'hw]; exact this.2⟩
 · rw [E'ow, Option.bind_eq_some_iff] at g1 g2
   obtain ⟨l1, a1, c1⟩ := g1
   obtain ⟨l2, a2, c2⟩ := g2
   have := hr.inj _ _ _ c1 c2
   subst this
   exact hi.inj _ _ _ a1 a2
 · rw [E'ow, Option.bind_eq_some_iff] at h
   obtain ⟨l, a1, c1⟩ := h
   rw [E'hw]
   cases l with
   | box s2 => rw [hr.box] at c1; cases c1; exact hi.boxhw b' _ a1
   | arr k c p => exact absurd c1 (hr.arr k c p s)
end
end Go.Ab
end
section
namespace Go.Ab
variable [Inhabited Lb]
theorem zEE {T : Ty} (hf : T.flat = true) (x : T.den) : ∀ d ∈ T.toD x, ∀ sz rows, d ≠ .sl sz rows := by
 cases T <;> first | (cases hf; done) | (intro d hd sz rows e; subst e; simp [Ty.toD] at hd)
theorem RdP.scalar {w : World} {ok : List (Nat × Nat) → Nat → Nat → Prop} {q : List (Nat × Nat) → Value → Nat → Prop} {v : Value} {d : D} (h : RdP w ok q v d) (hd : ∀ sz rows, d ≠ .sl sz rows)
 (w' : World) (ok' : List (Nat × Nat) → Nat → Nat → Prop) (q' : List (Nat × Nat) → Value → Nat → Prop) : RdP w' ok' q' v d := by
 cases h with
 | int k n => exact .int k n
 | bool b => exact .bool b
 | str s => exact .str s
 | nil a cap sz hq => exact absurd rfl (hd _ _)
 | sl b off n cap sz rows => exact absurd rfl (hd _ _)
structure Scr (E E' : Env) : Prop where
 ow : E'.ow = E.ow
 hw : E'.hw = E.hw
 bx : E'.bx = E.bx
 hdr : E'.hdr = E.hdr
 cell : ∀ b o, o < E.hw b → E'.w.cell? ⟨b, o, none⟩ = E.w.cell? ⟨b, o, none⟩
 frz : ∀ b o, E'.w.frozen? ⟨b, o, none⟩ = E.w.frozen? ⟨b, o, none⟩
 obj : ∀ (b : Nat) (cs : Array Value) (ty : TypeId) (fr : Nat × Nat), E.w.heap[b]? = some (.cells cs ty fr) → ∃ cs', E'.w.heap[b]? = some (.cells cs' ty fr) ∧ cs'.size = cs.size
 same : ∀ b, (∀ k c p, E.ow b ≠ some (.arr k c p)) → E'.w.heap[b]? = E.w.heap[b]?
 os : E'.w.os = E.w.os
 tape : E'.w.tape = E.w.tape
 output : E'.w.output = E.w.output
 size : E'.w.heap.size = E.w.heap.size
theorem Scr.refl (E : Env) : Scr E E := ⟨rfl, rfl, rfl, rfl, fun _ _ _ => rfl, fun _ _ => rfl, fun _ cs _ _ h => ⟨cs, h, rfl⟩, fun _ _ => rfl, rfl, rfl, rfl, rfl⟩
section
variable {C : Ctx} {σ : St} {a : Act} {E E' : Env} {u u' u'' : Ups} {tt : TT} {bxs : Nat → Prop}
theorem Tip.scr (h : Scr E E') {l : Own} {v : Value} {sz : Nat} (ht : Tip E l v sz) : Tip E' l v sz := by
 unfold Tip at ht ⊢
 split at ht
 · obtain ⟨h1, h2, h3, cs, ty, lo, hi, h4, h5, h6⟩ := ht
   obtain ⟨cs', g1, g2⟩ := h.obj _ _ _ _ h4
   exact ⟨by rw [h.ow]; exact h1, by rw [h.hw]; exact h2, h3, cs', ty, lo, hi, g1, by rw [g2]; exact h5, h6⟩
 · exact ht
 · exact ht.elim
theorem okF.scr (h : Scr E E') {k : Pl} {c : Nat} {f : Fl} {p : List (Nat × Nat)} {b o : Nat} (ho : okF E k c f p b o) : o < E.hw b ∧ okF E' k c f p b o := by
 cases f <;> simp only [okF, h.hw, h.ow] at ho ⊢ <;> first | exact ⟨ho.1, ho⟩ | exact ⟨ho, ho⟩
theorem qF.scr (h : Scr E E') {k : Pl} {c : Nat} {f : Fl} {p : List (Nat × Nat)} {v : Value} {sz : Nat} (hq : qF E k c f p v sz) : qF E' k c f p v sz := by
 cases f with
 | own => exact Tip.scr h hq
 | lnt n => exact ⟨Tip.scr h hq.1, by rw [h.hdr]; exact hq.2⟩
 | tip => exact fun hp => Tip.scr h (hq hp)
 | al k' c' p' => exact Tip.scr h hq
 | ro => trivial
 | bor => trivial
theorem RdP.scr (h : Scr E E') {k : Pl} {c : Nat} {f : Fl} {g : List (Nat × Nat) → List (Nat × Nat)} {v : Value} {d : D} (hr : RdP E.w (fun p => okF E k c f (g p)) (fun p => qF E k c f (g p)) v d) :
 RdP E'.w (fun p => okF E' k c f (g p)) (fun p => qF E' k c f (g p)) v d :=
 hr.mono (fun p b o ho => ⟨h.cell b o (okF.scr h ho).1, (okF.scr h ho).2⟩) (fun p v sz hq => qF.scr h hq)
theorem VRc.scr (h : Scr E E') {k : Pl} {c : Nat} {x : CV} {v : Value} (hx : ∀ k' c' p T xs, x ≠ .apd k' c' p T xs) (hv : VRc E bxs k c x v) : VRc E' bxs k c x v := by
 cases x with
 | int kd n => exact hv
 | bool b => exact hv
 | str s => exact hv
 | val u => exact hv
 | undef => exact hv
 | ptr s off => exact ⟨by rw [h.bx]; exact hv.1, hv.2⟩
 | clo k ss => exact ⟨by rw [h.bx]; exact hv.1, hv.2⟩
 | swp sf n h0 s => exact ⟨hv.1, fun ad l cap he => by rw [h.hdr] at he ⊢; exact hv.2 ad l cap he⟩
 | sl f T xs => exact RdP.scr (g := id) h hv
 | apd k' c' p T xs => exact absurd rfl (hx _ _ _ _ _)
 | eptr f T x off =>
   obtain ⟨hf, b, o, e, u, hu⟩ := hv
   refine ⟨hf, b, o, e, u, fun j hj => ?_⟩
   obtain ⟨g1, g2, g3⟩ := hu j hj
   have g4 := okF.scr h g2
   exact ⟨(h.cell _ _ g4.1).trans g1, g4.2, RdP.scr (g := fun p => (0, j) :: p) h g3⟩
 | eref k' c' p i T x off =>
   obtain ⟨b, e, e1, e2, u, hu⟩ := hv
   refine ⟨b, e, by rw [h.ow]; exact e1, by rw [h.hw]; exact ⟨e2.1, fun o ho => by rw [h.frz]; exact e2.2 o ho⟩, u, fun j hj => ?_⟩
   obtain ⟨g1, g2⟩ := hu j hj
   refine ⟨(h.cell _ _ ?_).trans g1, RdP.scr (g := fun q => (i, j) :: q) h g2⟩
   rw [Ty.toD_length] at hj
   have := e2.1
   rw [Nat.add_mul, Nat.one_mul] at this
   omega
theorem zFl (q : Nat) : St.get ((zAe, AV.none) :: (u ++ σ)) q = if zAe = q then .none else (St.get (u ++ σ) q).mapC (CV.stale [zAe] true) := by
 rw [St.get_cons]
 rfl
theorem zHv (h : Scr E E') {k : Pl} {c : Nat} {x : CV} {v : Value} (hv : VRc E bxs k c x v) : VRc E' bxs k c (x.stale [zAe] true) v := by
 rcases CV.stale_eq (s := [zAe]) (m := true) x with e | ⟨e, _, e2⟩
 · rw [e]; exact hv.one
 · rw [e]
   refine VRc.scr h ?_ hv
   rintro k' c' p T xs rfl
   simp [CV.isBor] at e2
theorem Inv.scr (hi : Inv C (St.get (u ++ σ)) a.tmps E) (h : Scr E E') : Inv C (St.get (((zAe, .none) :: u) ++ σ)) a.tmps E' := by
 have hbx : ∀ s, zAd (St.get (u ++ σ)) s → zAd (St.get (((zAe, .none) :: u) ++ σ)) s := by
  rintro s ⟨ys, hys⟩
  unfold zAd
  rw [List.cons_append, zFl, if_neg (by unfold zAe; omega), hys]
  exact ⟨_, rfl⟩
 have hb : ∀ {pl : Pl} {j : Nat} {x : CV} {v : Value}, VRc E' (zAd (St.get (u ++ σ))) pl j x v → VRc E' (zAd (St.get (((zAe, .none) :: u) ++ σ))) pl j x v := fun hv => by
  rename_i pl j x v
  cases x with
  | ptr s off => exact ⟨hv.1, hbx s hv.2⟩
  | clo k ss => exact ⟨hv.1, fun s hs => hbx s (hv.2 s hs)⟩
  | _ => exact hv
 refine { os := h.os.trans hi.os, base := hi.base, ext := fun s b he => ⟨hbx s (hi.ext s b he).1, by rw [h.bx]; exact (hi.ext s b he).2⟩, tape := h.tape.trans hi.tape, output := h.output.trans hi.output, size := by rw [h.size]; exact hi.size, hdr := h.hdr.trans hi.hdr, old := fun b hlt h0 => ?_, new := fun b hlt => ?_, inj := by rw [h.ow]; exact hi.inj, boxhw := by rw [h.ow, h.hw]; exact hi.boxhw, nt := hi.nt, tmp := fun t => ?_, box := fun s cs' hs => ?_ }
 · obtain ⟨a1, a2, a3⟩ := hi.old b hlt h0
   exact ⟨(h.same b (by rw [a3]; simp)).trans a1, by rw [h.hw]; exact a2, by rw [h.ow]; exact a3⟩
 · rw [h.size] at hlt
   rw [h.ow, h.hw]
   exact hi.new b hlt
 · rw [List.cons_append, zFl]
   split
   · trivial
   · exact VR.imp (fun j x v _ hv => hb (zHv h hv)) (hi.tmp t)
 · rw [List.cons_append, zFl, if_neg (by unfold zAe; omega)] at hs
   cases hq : St.get (u ++ σ) (2 * s + 1) with
   | v g cs0 =>
     rw [hq] at hs
     injection hs with hs1 hs2
     subst hs1 hs2
     obtain ⟨h1, vals, ty, h2, h3⟩ := hi.box s cs0 hq
     refine ⟨by rw [h.ow, h.bx]; exact h1, vals, ty, ?_, VRs.imp (fun j x v _ hv => hb (zHv h hv)) h3⟩
     rw [h.bx, h.same _ (by rw [h1]; simp)]
     exact h2
   | tup xs => rw [hq] at hs; cases hs
   | none => rw [hq] at hs; cases hs
theorem zHu {b : Nat} {l : Own} (hb : E.ow b = some l) (hl : ∃ k c p, l = .arr k c p) {cs : Array Value} {ty : TypeId} {fr : Nat × Nat} (hh : E.w.heap[b]? = some (.cells cs ty fr)) {vs : List Value} {o : Nat} (ho : E.hw b ≤ o) :
 Scr E { E with w := E.w.setCells b o vs } := by
 obtain ⟨cs', c1, c2, c3⟩ := zAC b vs o E.w hh
 obtain ⟨o1, o2, o3⟩ := zAO b vs o E.w
 refine ⟨rfl, rfl, rfl, rfl, fun b' o' h => ?_, fun b' o' => ?_, fun b' cs0 ty0 fr0 h => ?_, fun b' h => ?_, o1, o2, o3, zAu b vs o E.w⟩
 · by_cases e : b' = b
   · subst e
     have : cs'[o']? = cs[o']? := by rw [c3, if_neg (by omega)]
     simp [World.cell?, c1, hh, this]
   · exact zAf (zAq b b' e _ _ _) _
 · by_cases e : b' = b
   · subst e; simp [World.frozen?, c1, hh]
   · exact zBR (zAq b b' e _ _ _) _
 · by_cases e : b' = b
   · subst e
     rw [hh] at h
     cases h
     exact ⟨cs', c1, c2⟩
   · exact ⟨cs0, (zAq b b' e _ _ _).trans h, rfl⟩
 · by_cases e : b' = b
   · subst e
     obtain ⟨k, c, p, rfl⟩ := hl
     exact absurd hb (h _ _ _)
   · exact zAq b b' e _ _ _
theorem zHJ {w : World} (hi : Inv C (St.get (u ++ σ)) a.tmps E) (hw : E.w = w) {t0 t1 e : TypeId} {te : TypeInfo} {z : Value} {T : Ty} (ht : C.P.underlying t0 = some (.slice e))
 (hd : (∃ e', C.P.underlying t1 = some (.slice e')) ∨ C.P.underlying t1 = some .string) (hte : C.P.info? e = some te) (hsz : te.size = T.sz) (hby : te.bytes ≤ 256) (hz : te.zero = some z)
 (hzc : z.cells.size = T.sz) (hfl : T.flat = true) {xs ys : List T.den} {k c : Nat} {p : List (Nat × Nat)}
 {v0 x : Value} (hv0 : VRc E (zAd (St.get (u ++ σ))) (.h 0) 0 (.sl (.al k c p) T xs) v0) {news : List Value} (hs : SrcRun C.P w T.sz ys.length news x)
 (hnew : ∀ i j (hi : i < ys.length) (hj : j < (T.toD ys[i]).length), ∃ u, news[i * T.sz + j]? = some u ∧ ∀ w' ok q, RdP w' ok q u (T.toD ys[i])[j])
 (hL : xs.length + ys.length ≤ Lim) (ty : TypeId) :
 ∃ val w', (Builtin.append_ #[t0, t1] ty #[v0, x]).run C.P w = .ok val w' ∧ Hand C (((zAe, .none) :: u) ++ σ) a.tmps w' 0 (.v false [.apd k c p T (xs ++ ys)]) val := by
 subst hw
 have hp := Ty.sz_pos T
 have hv0 : RdP E.w (okF E (.h 0) 0 (.al k c p)) (qF E (.h 0) 0 (.al k c p)) v0 (.sl T.sz (xs.map T.toD)) := hv0
 obtain ⟨olds, ho, hoc, hok⟩ := zBZ (P := C.P) hv0 hp
 obtain ⟨ad, cap, rfl, hcap⟩ := hv0.shape
 rw [List.length_map] at ho hcap
 have hq : Tip E (.arr (.k k) c (p ++ [])) (.slice ad (xs.map T.toD).length cap) T.sz := hv0.top
 rw [List.length_map, List.append_nil] at hq
 rw [List.length_map]
 have hold : ∀ i j (hi : i < xs.length) (hj : j < (T.toD xs[i]).length), ∃ u, olds[i * T.sz + j]? = some u ∧ ∀ w' ok q, RdP w' ok q u (T.toD xs[i])[j] := by
  intro i j hi hj
  obtain ⟨u, h1, h2⟩ := hok i j (by simpa using hi) (by simpa using hj)
  refine ⟨u, h1, fun w' ok q => ?_⟩
  have h3 := h2.scalar (fun sz rows => zEE hfl xs[i] _ (by simp) sz rows) w' ok q
  simpa using h3
 have hnl := hs.length
 have hol := ho.length
 have hlt : ∀ (n i j : Nat), i < n → j < T.sz → i * T.sz + j < n * T.sz := by
  intro n i j hi hj
  calc i * T.sz + j < i * T.sz + T.sz := by omega
   _ = (i + 1) * T.sz := by rw [Nat.add_mul, Nat.one_mul]
   _ ≤ n * T.sz := Nat.mul_le_mul_right _ hi
 by_cases hroom : xs.length + ys.length ≤ cap
 · match ad, hq with
   | none, hq =>
     obtain ⟨h0, rfl⟩ : xs.length = 0 ∧ cap = 0 := hq
     have hx : xs = [] := List.length_eq_zero_iff.1 h0
     have hy : ys = [] := List.length_eq_zero_iff.1 (by omega)
     subst hx hy
     exact ⟨_, _, zC6 ht hd hte (by rw [hsz]; exact hs), E, rfl, Inv.scr hi (Scr.refl E), ⟨hfl, .inr (RdP.nil none 0 T.sz ⟨rfl, rfl⟩)⟩, trivial⟩
   | some ⟨b, off, sp⟩, hq =>
     match off, sp, hq with
     | _ + 1, _, hq => exact hq.elim
     | 0, some _, hq => exact hq.elim
     | 0, none, hq =>
       obtain ⟨q1, q2, q3, cs, cty, lo, hi', q4, q5, q6⟩ := hq
       have hin : ∀ j, j < news.length → xs.length * T.sz + j < cap * T.sz := by
        intro j hj
        have : (xs.length + ys.length) * T.sz ≤ cap * T.sz := Nat.mul_le_mul_right _ hroom
        rw [Nat.add_mul] at this
        omega
       have run := zC7 (ty := ty) ht hd hte (by rw [hsz]; exact hs) (b := b) hroom (fun j hj => by
        have := hin j hj
        rw [hsz]; simp [World.cell?, q4]; omega) (fun j hj => by
        have h1 := hin j hj
        rw [hsz]
        simp only [World.frozen?, q4]
        by_cases hlo : lo ≤ xs.length * T.sz + j
        · by_cases hhi : xs.length * T.sz + j < hi'
          · have := q6 _ hlo hhi; omega
          · simp [hhi]
        · simp [hlo])
       rw [hsz] at run
       have scr := zHu (vs := news) (o := xs.length * T.sz) q1 ⟨_, _, _, rfl⟩ q4 (by omega)
       obtain ⟨cs', c1, c2, c3⟩ := zAC b news (xs.length * T.sz) E.w q4
       refine ⟨_, _, run, _, rfl, Inv.scr hi scr, ⟨hfl, .inl ⟨b, cap, by rw [jA], q1, by rw [jA]; exact hroom, ?_, cs', cty, lo, hi', c1, by rw [c2]; exact q5, q6, fun i j hi hj => ?_⟩⟩, trivial⟩
       · show E.hw b ≤ _
         rw [q2, jA]
         exact Nat.mul_le_mul_right _ (Nat.le_add_right _ _)
       · have hjs : j < T.sz := by rw [Ty.toD_length] at hj; exact hj
         by_cases hix : i < xs.length
         · have e : (xs ++ ys)[i] = xs[i] := List.getElem_append_left hix
           obtain ⟨u1, g1, g2⟩ := hold i j hix (by rw [Ty.toD_length]; exact hjs)
           refine ⟨u1, ?_, fun w' ok q => by simp only [e]; exact g2 w' ok q⟩
           have hk := hlt xs.length i j hix hjs
           rw [c3, if_neg (by omega)]
           have := hoc b 0 xs.length cap (by rw [List.length_map]) _ _ g1
           rw [Nat.zero_add] at this
           simpa [World.cell?, q4] using this
         · have hiy : i - xs.length < ys.length := by rw [jA] at hi; omega
           have e : (xs ++ ys)[i] = ys[i - xs.length] := List.getElem_append_right (by omega)
           obtain ⟨u1, g1, g2⟩ := hnew (i - xs.length) j hiy (by rw [Ty.toD_length]; exact hjs)
           refine ⟨u1, ?_, fun w' ok q => by simp only [e]; exact g2 w' ok q⟩
           have hk : (i - xs.length) * T.sz + j < news.length := (List.getElem?_eq_some_iff.1 g1).1
           have := hin _ hk
           have hm : i * T.sz = xs.length * T.sz + (i - xs.length) * T.sz := by rw [← Nat.add_mul]; congr 1; omega
           rw [hm, Nat.add_assoc, c3, if_pos ⟨Nat.le_add_right _ _, by omega, by omega⟩, Nat.add_sub_cancel_left]
           exact g1
 · have hcapge := grownCap_ge E.w (xs.length + ys.length) cap e
   have run := zC5 (ty := ty) ht hd hte hz (by rw [hsz]; exact hs) (s := ad) (n := xs.length) (cap := cap) (olds := olds) (by rw [hsz]; simpa using ho) (by omega) hL hby
   generalize hgc : grownCap E.w (xs.length + ys.length) cap e = gc at *
   have hg := Grown.drew E.w (olds ++ news ++ (Builtin.zeroCells z.cells (gc - (xs.length + ys.length))).toList).toArray e
   have hsrc := zEr xs.length
   obtain ⟨st, hi2⟩ := zCL hi hg (zCo (kp := false) (nest := false) hsrc) zHT (zCz hsrc) ((xs.length + ys.length) * T.sz)
   have hn := hi.new E.w.heap.size (Nat.le_refl _)
   refine ⟨_, _, run, _, rfl, Inv.scr hi2 (Scr.refl _), ⟨hfl, .inr ?_⟩, trivial⟩
   have hcsz : (olds ++ news ++ (Builtin.zeroCells z.cells (gc - (xs.length + ys.length))).toList).toArray.size = gc * T.sz := by
    have e1 : ∀ k, (Builtin.zeroCells z.cells k).toList.length = k * T.sz := by
     intro k
     have := size_zeroCells z.cells k
     rw [hzc] at this
     simpa using this
    rw [List.size_toArray, jA, jA, e1, hol, hnl, ← Nat.add_mul, ← Nat.add_mul]
    congr 1; omega
   refine zGQ (E := E) (f := .own) (g := .own) (rf := .own) (bxs := fun _ => False) (kp := false) (nest := false) rfl (.inl ⟨hfl, rfl⟩) (fun b' hb hb2 => ?_) (by simp [Env.newArr]) (by simp [Env.newArr]) hg.new hcapge (hcsz.symm) (fr := (0, 0)) (fun o _ h => absurd h (Nat.not_lt_zero o)) (fun i j hi hj => ?_) (fun i j hi hj => ?_)
   · have hne : b' ≠ E.w.heap.size := by
      rintro rfl
      rcases hb2 with h | h
      · omega
      · exact h hn.1
     exact ⟨by simp [Env.newArr, hne], by simp [Env.newArr, hne], hg.old b' hne⟩
   · obtain ⟨u1, g1, g2⟩ := hold i j hi hj
     refine ⟨u1, ?_, g2 _ _ _⟩
     have hk : i * T.sz + j < olds.length := (List.getElem?_eq_some_iff.1 g1).1
     rw [List.getElem?_toArray, List.append_assoc, List.getElem?_append_left hk]
     exact g1
   · obtain ⟨u1, g1, g2⟩ := hnew i j hi hj
     refine ⟨u1, ?_, g2 _ _ _⟩
     have hk : i * T.sz + j < news.length := (List.getElem?_eq_some_iff.1 g1).1
     rw [List.getElem?_toArray, List.append_assoc, Nat.add_mul, Nat.add_assoc, List.getElem?_append_right (by omega), hol, Nat.add_sub_cancel_left, List.getElem?_append_left hk]
     exact g1
theorem zIY {w : World} (htt : TTok C.P tt) (hi : Inv C (St.get (u ++ σ)) a.tmps E) (hw : E.w = w) {o : Oper} {c : Call} (ho : o.op = .call c) (hc : c.callee = .builtin .append) {x y : Operand} {t0 t1 : TypeId}
 (ha : c.args.toList = [x, y]) (hat : c.argTypes.toList = [t0, t1]) {i j : TI} (hti : tt.get t0 = some i) (htj : tt.get t1 = some j) {p q : CV} {u1 u2 : Ups} {p0 q0 : AV}
 (h1 : Mr (opd tt .take t0 x) σ u = some (p0, u1)) (hp : p0 = .v false [p]) (h2 : Mr (opd tt .cp t1 y) σ u1 = some (q0, u2)) (hq : q0 = .v false [q]) (hfit : zEp i j p q = true) {r : CV} {ob : List Prop}
 (hr : apdC p q = some (r, ob)) (hob : ∀ P ∈ ob, P) : Good C (((zAe, .none) :: u2) ++ σ) a w o (.v false [r]) := by
 subst hp hq
 obtain ⟨E1, e1, e2, e3, e4, e5, e6⟩ := zBk hi 0 h1
 obtain ⟨rfl, g⟩ := zCY e4 h2
 have f5 := (g (.h 1)).1
 have hx := e5.1
 have hargs : c.args.map a.eval = #[a.eval x, a.eval y] := by
  apply Array.ext'
  rw [Array.toList_map, ha]; rfl
 have hats : c.argTypes = #[t0, t1] := Array.ext' hat
 simp only [zEp, Bool.and_eq_true] at hfit
 obtain ⟨hf1, hf2⟩ := hfit
 unfold apdC at hr
 split at hr
 · rename_i k c' pth T xs g' U ys
   split at hr
   · rename_i hUT
     subst hUT
     cases hfl : U.flat with
     | false => rw [hfl] at hr; cases hr
     | true =>
       rw [hfl] at hr
       cases hr
       obtain ⟨e', T', he'⟩ := zCU (i := j) hf2
       obtain ⟨hu', _⟩ := (htt t1 j htj).elem e' T' he'
       obtain ⟨news, s1, s2, s3⟩ := zBZ (P := C.P) (v := a.eval y) f5 (Ty.sz_pos U)
       rw [List.length_map] at s1
       have s4 : ∀ i j (hi : i < ys.length) (hj : j < (U.toD ys[i]).length), ∃ u, news[i * U.sz + j]? = some u ∧ ∀ w' ok q, RdP w' ok q u (U.toD ys[i])[j] := by
        intro i j hi hj
        obtain ⟨u, g1, g2⟩ := s3 i j (by simpa using hi) (by simpa using hj)
        refine ⟨u, g1, fun w' ok q => ?_⟩
        have h3 := g2.scalar (fun sz rows => zEE hfl ys[i] _ (by simp) sz rows) w' ok q
        simpa using h3
       obtain ⟨e, he⟩ := zBU hf1
       obtain ⟨hu, te, zv, k1, k2, k3, k4, k5, k6⟩ := (htt t0 i hti).elem e U he
       have hzc : zv.cells.size = U.sz := by
        have := zBp k6
        rw [Ty.enc_length] at this
        simpa using this
       obtain ⟨val, w', hrun, hand⟩ := zHJ e4 rfl hu (.inl ⟨e', hu'⟩) k1 k2 k4 k5 hzc hfl hx s1 s4 (hob _ (by simp)) o.type
       refine ⟨val, w', ?_, hand⟩
       rw [zDk ho hc, hargs, hats, ← (show E1.w = w by rw [e1, hw]), hrun]
       rfl
   · cases hr
 · cases hr
theorem zII {w : World} (hi : Inv C (St.get (u ++ σ)) a.tmps E) (hw : E.w = w) {k c i off b b' cap : Nat} {p : List (Nat × Nat)} {T U : Ty} {g : Bool} {cs : List CV} {xs : List U.den} {x x' : CV} {val : Value}
 (hg : St.get (u ++ σ) k = .v g cs) (hc : cs[c]? = some x) (hmx : x.mutable = true) (hn : zBv x p (zBn T i off [.sl .own U xs]) = some x') (hfl : U.flat = true)
 (hval : val.cells.toList = [.slice (some ⟨b', 0, none⟩) xs.length cap]) (hat : zIr E (.arr (.k k) c (p ++ [(i, off)])) b' U xs cap)
 (hob : E.ow b = some (.arr (.k k) c p)) (hhi : (i + 1) * T.sz ≤ E.hw b) (hfz : ∀ o, o < E.hw b → E.w.frozen? ⟨b, o, none⟩ = false)
 (hcell : ∀ j, j < T.sz → (E.w.cell? ⟨b, i * T.sz + j, none⟩).isSome = true) (hlen : off + 1 ≤ T.sz) :
 ∃ w', (storeCells ⟨b, i * T.sz + off, none⟩ val.cells.toList 0).run C.P w = .ok () w' ∧ val.cells.size = 1 ∧
   Hand C (((zAe, .none) :: (k, .v g ((cs.map (CV.stale [k] false)).set c x')) :: u) ++ σ) a.tmps w' 0 .none undef := by
 subst hw
 rw [hval]
 generalize hws : [Value.slice (some ⟨b', 0, none⟩) xs.length cap] = ws
 have hwl : ws.length = 1 := by rw [← hws]; rfl
 obtain ⟨t1, t2, t3, dcs, dty, dlo, dhi, t4, t5, t6, t7⟩ := hat
 have hbb : b' ≠ b := by
  rintro rfl
  rw [t1] at hob
  simp at hob
 have hb2 : i * T.sz + T.sz ≤ E.hw b := by rw [Nat.add_mul, Nat.one_mul] at hhi; exact hhi
 have run := run_storeCells_cells (P := C.P) b (i * T.sz + off) ws 0 E.w (fun j hj => by
  have := hcell (off + j) (by omega)
  rw [Nat.add_zero, Nat.add_assoc]; exact this) (fun j hj => hfz _ (by omega)) (fun z hz => by
  rw [← hws, List.mem_singleton] at hz; subst hz; rfl)
 rw [Nat.add_zero] at run
 refine ⟨_, run, by rw [← Array.length_toList, hval]; rfl, ?_⟩
 obtain ⟨hcs, hty, hfr, hh⟩ : ∃ cs ty fr, E.w.heap[b]? = some (.cells cs ty fr) := by
  have := hcell 0 (Ty.sz_pos T)
  unfold World.cell? at this
  split at this
  · exact ⟨_, _, _, by assumption⟩
  · simp at this
 obtain ⟨cs', d1, d2, d3⟩ := zAC b ws (i * T.sz + off) E.w hh
 obtain ⟨o1, o2, o3⟩ := zAO b ws (i * T.sz + off) E.w
 have same : ∀ b0, b0 ≠ b → (E.w.setCells b (i * T.sz + off) ws).heap[b0]? = E.w.heap[b0]? := fun b0 h => zAq b b0 h _ _ _
 generalize hE : ({ E with w := E.w.setCells b (i * T.sz + off) ws, hw := fun b0 => if b0 = b' then xs.length * U.sz else E.hw b0 } : Env) = E'
 have E'w : E'.w = E.w.setCells b (i * T.sz + off) ws := by rw [← hE]
 have E'ow : E'.ow = E.ow := by rw [← hE]
 have E'hw : ∀ b0, b0 ≠ b' → E'.hw b0 = E.hw b0 := fun b0 h => by rw [← hE]; exact if_neg h
 have E'hw1 : E'.hw b' = xs.length * U.sz := by rw [← hE]; exact if_pos rfl
 have hE'b : E'.w.heap[b']? = some (.cells dcs dty (dlo, dhi)) := by rw [E'w, same _ hbb]; exact t4
 have hit : hitP p i off 1 (p ++ [(i, off)]) = true := by
  have := zEb (p := p) (i := i) (off := off) (m := 1) (c' := 0) (q := []) Nat.zero_lt_one
  simpa using this
 have st : Step E E' (dkM k c) (fun _ => False) True := {
  ro := fun b0 hb0 => by
   have hne : b0 ≠ b := by rintro rfl; rw [hob] at hb0; cases hb0
   have hne' : b0 ≠ b' := by rintro rfl; rw [t1] at hb0; cases hb0
   exact ⟨fun _ => by rw [E'ow]; exact hb0, fun o ho => ⟨by rw [E'w]; exact zAf (same b0 hne) o, by rw [E'hw _ hne']; exact ho⟩⟩
  own := fun b0 k' c' q hb0 hd => by
   have hne : b0 ≠ b := by rintro rfl; rw [hob] at hb0; cases hb0; exact hd (.inl ⟨rfl, rfl⟩)
   have hne' : b0 ≠ b' := by rintro rfl; rw [t1] at hb0; cases hb0; exact hd (.inl ⟨rfl, rfl⟩)
   exact ⟨by rw [E'ow]; exact hb0, E'hw b0 hne', by rw [E'w]; exact same b0 hne⟩
  bor := fun h => absurd trivial h
  box := fun s hs _ => by
   have hne : E.bx s ≠ b := by intro e; rw [e, hob] at hs; cases hs
   exact ⟨by rw [← hE], by rw [E'ow]; exact hs, by rw [E'w]; exact same _ hne⟩
  hdr := by rw [← hE] }
 have M : MutSet E E' k c p b i off T [.sl .own U xs] ws := {
  hb := hob
  inj := hi.inj
  owb := by rw [E'ow]; exact hob
  hwb := E'hw b (Ne.symm hbb)
  moves := fun {l} hl hh b0 hb0 => by
   have hne : b0 ≠ b := by
    rintro rfl
    rw [hob] at hb0
    simp only [Option.some.injEq, Own.arr.injEq, true_and] at hb0
    exact hl hb0.symm
   have hne' : b0 ≠ b' := by
    rintro rfl
    rw [t1] at hb0
    simp only [Option.some.injEq, Own.arr.injEq, true_and] at hb0
    subst hb0
    have hh : hitP p i off 1 (p ++ [(i, off)]) = false := hh
    rw [hit] at hh; cases hh
   exact ⟨by rw [E'ow]; exact hb0, E'hw b0 hne', by rw [E'w]; exact same b0 hne⟩
  cells := ⟨hcs, cs', hty, hfr, hh, by rw [E'w]; exact d1, d2, d3⟩
  len := hwl.symm
  hi := hhi
  fresh := fun j y v hy hv hf => by
   have hj : j = 0 := by have := (List.getElem?_eq_some_iff.1 hy).1; simp at this; exact this
   subst hj
   simp only [List.getElem?_cons_zero, Option.some.injEq] at hy
   subst hy
   rw [← hws] at hv
   simp only [List.getElem?_cons_zero, Option.some.injEq] at hv
   subst hv
   have hl : E'.ow b' = some (.arr (.k k) c (p ++ [(i, off)])) := by rw [E'ow]; exact t1
   refine zCm (ok := fun q => okF E' (.k k) c .own (p ++ (i, off + 0) :: q)) (q := fun q => qF E' (.k k) c .own (p ++ (i, off + 0) :: q)) (fr := (dlo, dhi)) hE'b (by rw [List.length_map]) t2 (fun r hr => ?_) ?_ (fun o ho => ⟨by rw [E'hw1]; exact ho, hl⟩) (fun i0 j0 hi0 hj0 => ?_)
   · obtain ⟨y, _, rfl⟩ := List.mem_map.1 hr
     exact Ty.toD_length U y
   · exact ⟨hl, E'hw1, t2, dcs, dty, dlo, dhi, hE'b, t5, t6⟩
   · have hi1 : i0 < xs.length := by simpa using hi0
     obtain ⟨u1, g1, g2⟩ := t7 i0 j0 hi1 (by rw [List.getElem_map] at hj0; exact hj0)
     refine ⟨u1, g1, ?_⟩
     have := g2 E'.w (fun q => okF E' (.k k) c .own (p ++ (i, off + 0) :: (i0, j0) :: q)) (fun q => qF E' (.k k) c .own (p ++ (i, off + 0) :: (i0, j0) :: q))
     simpa using this }
 refine ⟨E', E'w, zHc hi hg hc hmx hn M st (by rw [E'w]; exact o1) (by rw [E'w]; exact o2) (by rw [E'w]; exact o3) (by rw [E'w, zAu]; exact Nat.le_refl _) (fun b0 hlt h0 => ?_) (fun b0 hlt => ?_) (by rw [E'ow]; exact hi.inj) (fun b0 s h => ?_) (fun s => by rw [← hE]), trivial⟩
 · have h2 := (hi.old b0 hlt h0).2.2
   have hne : b0 ≠ b := by rintro rfl; rw [hob] at h2; cases h2
   have hne' : b0 ≠ b' := by rintro rfl; rw [t1] at h2; cases h2
   exact ⟨by rw [E'w]; exact same b0 hne, E'hw b0 hne', by rw [E'ow]; exact h2⟩
 · rw [E'w, zAu] at hlt
   have := hi.new b0 hlt
   have hne' : b0 ≠ b' := by rintro rfl; rw [t1] at this; cases this.1
   exact ⟨by rw [E'ow]; exact this.1, by rw [E'hw _ hne']; exact this.2⟩
 · rw [E'ow] at h
   have hne' : b0 ≠ b' := by rintro rfl; rw [t1] at h; cases h
   rw [E'hw _ hne']
   exact hi.boxhw b0 s h
end
end Go.Ab
end
section
namespace Go.Ab
variable [Inhabited Lb]
def Fine (C : Ctx) (σ : St) (a : Act) (w : World) (o : Oper) (v : AV) : Prop :=
 Good C σ a w o v ∨ ∃ w', (execOp a.eval o).run C.P w = .ok .skip w' ∧ Hand C σ a.tmps w' 0 v undef
theorem zGI {z : List CV} : ∀ {vs : List Value}, zBd z vs = true → ∀ y ∈ z, ∀ k c, ¬ y.speaks k c := by
 induction z with
 | nil => intro vs _ y hy; cases hy
 | cons x xs ih =>
   intro vs h y hy k c hs
   cases vs with
   | nil => simp [zBd] at h
   | cons v vs =>
     simp [zBd] at h
     cases hy with
     | tail _ hy => exact ih h.2 y hy k c hs
     | head =>
       have h1 := h.1
       unfold zGH at h1
       split at h1 <;> first | exact hs | cases h1
theorem zCK {f : CV → Option CV} : ∀ (p : List (Nat × Nat)) (x x' : CV), zBv x p f = some x' → ∃ z z', f z = some z'
 | [], x, x', h => ⟨x, x', by rwa [zBv] at h⟩
 | (i, j) :: p, x, x', h => by
   cases x with
   | sl fl T xs =>
     simp only [zBv] at h
     split at h
     · split at h
       · rename_i y' hy
         exact zCK p _ _ hy
       · cases h
     · cases h
   | _ => simp only [zBv] at h; cases h
theorem zCw {T : Ty} {i off : Nat} {vs : List CV} {z z' : CV} (h : zBn T i off vs z = some z') : off + vs.length ≤ T.sz := by
 unfold zBn at h
 split at h
 · split at h
   · rename_i hU
     subst hU
     split at h
     · rename_i hset
       have := (zAV hset).2
       rwa [Ty.enc_length] at this
     · cases h
   · cases h
 · cases h
section
variable {C : Ctx} {σ : St} {a : Act} {E : Env} {u u' u'' : Ups} {tt : TT} {o : Oper} {md : Md} {v : AV} {ob : List Prop} {ty : TypeId}
theorem zHI {w : World} (htt : TTok C.P tt) (hi : Inv C (St.get (u ++ σ)) a.tmps E) (hw : E.w = w) {t : TypeId} (ho : o.op = .alloc t) {i : TI} (hti : tt.get t = some i) {z : List CV} (hz : i.zero = some z) {d : Nat}
 (hg : St.get (u ++ σ) (2 * d + 1) = .none) : Good C (((2 * d + 1, .v true z) :: u) ++ σ) a w o (.v false [.ptr d 0]) := by
 obtain ⟨ti, ds, h1, h2, h3, h4, h5, h6⟩ := (htt t i hti).info
 obtain ⟨zv, hz1, hz2⟩ := h6 z hz
 refine ⟨_, _, ?_, zDR hi hw hg (zDc _ _ _ _ hz2) (zGI hz2) (t := t)⟩
 rw [zGh ho]
 simp [Instr.alloc, zeroValue, typeInfo, h1, hz1, newVar, newRow, zBe]
theorem zI2 {w : World} (hi : Inv C (St.get (u ++ σ)) a.tmps E) (hw : E.w = w) {t : TypeId} {x : Operand} (ho : o.op = .box t x) {cs : List CV} (hx : Mr (zFV tt t x) σ u = some (cs, u')) {d : Nat}
 (hg : St.get (u' ++ σ) (2 * d + 1) = .none) : Good C (((2 * d + 1, .v true cs) :: u') ++ σ) a w o (.v false [.ptr d 0]) := by
 obtain ⟨E', g, e1, e2, e3, e4, e5, e6, e7⟩ := zCX hi 0 hx
 refine ⟨_, _, ?_, zDR e4 (e1.trans hw) hg (zCq e5) e7 (t := t)⟩
 rw [zHV ho]
 simp [Instr.box, newVar, newRow, zBe]
theorem zCn {P : Program} {w w' : World} {t : TypeId} {i : TI} (h : TIok P t i) {ad : Addr} {val : Value} (hs : val.cells.size = i.sz) (hr : (storeCells ad val.cells.toList 0).run P w = .ok () w') :
 (Instr.storeAt t (.pointer (some ad)) val).run P w = .ok () w' := by
 obtain ⟨ti, d, h1, h2, _⟩ := h.info
 have hs' : val.cells.size = ti.size := by rw [hs, h2]
 simp [Instr.storeAt, Instr.sureAddr, storeVar, sizeOf, typeInfo, h1, hs', hr]
theorem zDW {w : World} {E1 : Env} (e4 : Inv C (St.get (u ++ σ)) a.tmps E1) (e1 : E1.w = w) {k c0 j off : Nat} {pth : List (Nat × Nat)} {T : Ty} {y : T.den} {vs : List CV} {gv : Bool} {val ptr : Value}
 (e5 : VR1 E1 (zAd (St.get (u ++ σ))) (.h 0) 0 gv vs val) (hp : VRc E1 (zAd (St.get (u ++ σ))) (.h 0) 0 (.eref k c0 pth j T y off) ptr) {r : Eff} {u3 : Ups}
 (h3 : Mr (zDb k c0 pth j T off vs) σ u = some (r, u3)) :
 ∃ ad w', ptr = .pointer (some ad) ∧ (storeCells ad val.cells.toList 0).run C.P w = .ok () w' ∧ val.cells.size = vs.length ∧ Hand C (u3 ++ σ) a.tmps w' 0 r.1 undef ∧ r.2 = [] := by
 obtain ⟨_, u4, k1, k2⟩ := zAa h3
 obtain ⟨_, u5, k3, k4⟩ := zAa k2
 obtain rfl := zAj k3
 obtain ⟨q1, q2, rfl⟩ := zAx (v := r.1) (ob := r.2) k4
 unfold zIS at k1
 obtain ⟨av, u6, m1, m2⟩ := zAa k1
 obtain ⟨rfl, rfl⟩ := zAl m1
 split at m2
 · rename_i gg cs hg
   obtain ⟨xc, u7, m3, m4⟩ := zAa m2
   obtain ⟨hxc, rfl⟩ := zAw m3
   obtain ⟨hmx, m5⟩ := zAi m4
   obtain ⟨xc', u8, m6, m7⟩ := zAa m5
   obtain ⟨hnav, rfl⟩ := zAw m6
   obtain rfl := zAj m7
   obtain ⟨b, hpv, hob, ⟨hhi, hfz⟩, uu, huu⟩ := hp
   have hle : off + vs.length ≤ T.sz := by
    obtain ⟨z, z', hz⟩ := zCK pth xc xc' hnav
    exact zCw hz
   obtain ⟨w', hrun, hsz, hand⟩ := zH9 e4 e1 hg hxc hmx hnav e5 hob hhi hfz (fun j' hj' => by
    have := (huu j' (by rw [Ty.toD_length]; exact hj')).1
    rw [this]; rfl) hle
   exact ⟨_, w', hpv, hrun, hsz, by rw [q1]; exact hand, q2⟩
 · exact (zAb m2).elim
theorem zHU {w : World} {E1 : Env} (e4 : Inv C (St.get (u ++ σ)) a.tmps E1) (e1 : E1.w = w) {k c0 j off b' cap : Nat} {pth : List (Nat × Nat)} {T U : Ty} {y : T.den} {xs : List U.den} {val ptr : Value} (hfl : U.flat = true)
 (hval : val.cells.toList = [.slice (some ⟨b', 0, none⟩) xs.length cap]) (hat : zIr E1 (.arr (.k k) c0 (pth ++ [(j, off)])) b' U xs cap)
 (hp : VRc E1 (zAd (St.get (u ++ σ))) (.h 0) 0 (.eref k c0 pth j T y off) ptr) {r : Eff} {u3 : Ups}
 (h3 : Mr (zDb k c0 pth j T off [.sl .own U xs]) σ u = some (r, u3)) :
 ∃ ad w', ptr = .pointer (some ad) ∧ (storeCells ad val.cells.toList 0).run C.P w = .ok () w' ∧ val.cells.size = 1 ∧ Hand C (u3 ++ σ) a.tmps w' 0 r.1 undef ∧ r.2 = [] := by
 obtain ⟨_, u4, k1, k2⟩ := zAa h3
 obtain ⟨_, u5, k3, k4⟩ := zAa k2
 obtain rfl := zAj k3
 obtain ⟨q1, q2, rfl⟩ := zAx (v := r.1) (ob := r.2) k4
 unfold zIS at k1
 obtain ⟨av, u6, m1, m2⟩ := zAa k1
 obtain ⟨rfl, rfl⟩ := zAl m1
 split at m2
 · rename_i gg cs hg
   obtain ⟨xc, u7, m3, m4⟩ := zAa m2
   obtain ⟨hxc, rfl⟩ := zAw m3
   obtain ⟨hmx, m5⟩ := zAi m4
   obtain ⟨xc', u8, m6, m7⟩ := zAa m5
   obtain ⟨hnav, rfl⟩ := zAw m6
   obtain rfl := zAj m7
   obtain ⟨b, hpv, hob, ⟨hhi, hfz⟩, uu, huu⟩ := hp
   have hle : off + 1 ≤ T.sz := by
    obtain ⟨z, z', hz⟩ := zCK pth xc xc' hnav
    exact zCw hz
   obtain ⟨w', hrun, hsz, hand⟩ := zII e4 e1 hg hxc hmx hnav hfl hval hat hob hhi hfz (fun j' hj' => by
    have := (huu j' (by rw [Ty.toD_length]; exact hj')).1
    rw [this]; rfl) hle
   exact ⟨_, w', hpv, hrun, hsz, by rw [q1]; exact hand, q2⟩
 · exact (zAb m2).elim
theorem zIj {w : World} (htt : TTok C.P tt) (hi : Inv C (St.get (u ++ σ)) a.tmps E) (hw : E.w = w) {t : TypeId} {p x : Operand} (ho : o.op = .store t p x) {i : TI} (hti : tt.get t = some i) {vs : List CV}
 (h1 : Mr (zFv tt t x) σ u = some (vs, u')) {c : CV} (h2 : Mr (opc tt 0 p) σ u' = some (c, u'')) (hlen : vs.length = i.sz)
 {r : Eff} {u3 : Ups} (h3 : Mr (match c with | .ptr s off => zF2 s off (vs.map CV.noAl) | .eref k c p j T _ off => zDj k c p j T off vs | _ => bad) σ u'' = some (r, u3)) (hob : ∀ q ∈ r.2, q) :
 ∃ w', (execOp a.eval o).run C.P w = .ok .skip w' ∧ Hand C (u3 ++ σ) a.tmps w' 0 r.1 undef := by
 obtain ⟨E1, g, e1, e2, e4, e5, e6⟩ := zEf hi 0 h1
 obtain ⟨rfl, hp⟩ := zAn e4 h2
 have hk := htt t i hti
 split at h3
 · rename_i s off
   obtain ⟨cs, u4, k1, k2⟩ := zAa h3
   obtain ⟨hg, rfl⟩ := zBu k1
   obtain ⟨cs', u5, k3, k4⟩ := zAa k2
   obtain ⟨hset, rfl⟩ := zAw k3
   obtain ⟨_, u6, k5, k6⟩ := zAa k4
   obtain rfl := zAj k5
   obtain ⟨q1, q2, rfl⟩ := zAx (v := r.1) (ob := r.2) k6
   obtain ⟨w', hrun, hsz, hand⟩ := zGD e4 (e1.trans hw) hg (zHf e5) (fun y hy k c => zFr hy k c) hset
   refine ⟨w', ?_, by rw [q1]; exact hand⟩
   have hpp := (hp (.h 0) 0).1
   rw [List.length_map] at hsz
   rw [zCF ho, hpp, zCn hk (by rw [hsz, hlen]) hrun]
   rfl
 · rename_i k c0 pth j T y off
   unfold zDj at h3
   split at h3
   · rename_i k' c' p' U xs
     obtain ⟨r0, u4, k1, k2⟩ := zAa h3
     obtain ⟨e, rfl⟩ := zAc k2
     subst e
     obtain ⟨rfl, rfl, rfl⟩ := hob _ (List.mem_singleton.2 rfl)
     have hcell : ∃ v0, (a.eval x).cells.toList = [v0] ∧ VRc E1 (zAd (St.get (u'' ++ σ))) (.h 0) 0 (.apd k' c' (pth ++ [(j, off)]) U xs) v0 := by
      have := zCq e5
      cases hl : (a.eval x).cells.toList with
      | nil => rw [hl] at this; exact this.elim
      | cons v0 rest =>
        rw [hl] at this
        cases rest with
        | nil => exact ⟨v0, rfl, this.1⟩
        | cons _ _ => exact this.2.elim
     obtain ⟨v0, hv0, hfl, hap⟩ := hcell
     have fin : ∀ {n : Nat}, (∃ ad w', a.eval p = .pointer (some ad) ∧ (storeCells ad (a.eval x).cells.toList 0).run C.P w = .ok () w' ∧ (a.eval x).cells.size = n ∧ Hand C (u3 ++ σ) a.tmps w' 0 r0.1 undef ∧ r0.2 = []) → n = i.sz →
      ∃ w', (execOp a.eval o).run C.P w = .ok .skip w' ∧ Hand C (u3 ++ σ) a.tmps w' 0 r0.1 undef := by
      rintro n ⟨ad, w', f1, f2, f3, f4, _⟩ hn
      refine ⟨w', ?_, f4⟩
      rw [zCF ho, f1, zCn hk (by rw [f3, hn]) f2]
      rfl
     have h1sz : (1 : Nat) = i.sz := hlen
     rcases hap with ⟨b', cap, rfl, hat⟩ | hown
     · exact fin (zHU e4 (e1.trans hw) hfl hv0 hat (hp (.h 0) 0) k1) h1sz
     · have e5' : VR1 E1 (zAd (St.get (u'' ++ σ))) (.h 0) 0 true [.sl .own U xs] (.agg (a.eval x).cells) := ⟨_, rfl, by rw [hv0]; exact ⟨hown, trivial⟩⟩
       have := zDW e4 (e1.trans hw) e5' (hp (.h 0) 0) k1
       exact fin this h1sz
   · have := zDW e4 (e1.trans hw) (zHf e5) (hp (.h 0) 0) h3
     obtain ⟨ad, w', f1, f2, f3, f4, _⟩ := this
     refine ⟨w', ?_, f4⟩
     rw [List.length_map] at f3
     rw [zCF ho, f1, zCn hk (by rw [f3, hlen]) f2]
     rfl
 · exact (zAb h3).elim
end
end Go.Ab
end
section
namespace Go.Ab
variable [Inhabited Lb]
section
variable {C : Ctx} {σ : St} {a : Act} {E : Env} {u u' : Ups} {tt : TT} {o : Oper} {md : Md} {v : AV} {ob : List Prop} {ty : TypeId}
def Env.less (E : Env) (hw' : Nat → Nat) : Env := { E with hw := hw' }
theorem zFU {hw' : Nat → Nat} (hi : Inv C (St.get (u ++ σ)) a.tmps E) (h : ∀ b, E.ow b ≠ some (.arr (.h 0) 0 []) → hw' b = E.hw b) :
 Inv C (St.get (((zAe, .none) :: u) ++ σ)) a.tmps (E.less hw') ∧ (∀ s, zAd (St.get (u ++ σ)) s → zAd (St.get (((zAe, .none) :: u) ++ σ)) s) := by
 have hb : ∀ s, zAd (St.get (u ++ σ)) s → zAd (St.get (((zAe, .none) :: u) ++ σ)) s := fun s => zAF (by unfold zAe; omega)
 have st : Step E (E.less hw') (fun pl c => pl = .h 0 ∧ c = 0) (fun _ => False) True :=
  ⟨fun b hb => ⟨fun _ => hb, fun o ho => ⟨rfl, by show o < hw' b; rw [h b (by rw [hb]; simp)]; exact ho⟩⟩,
    fun b k c p hb hd => ⟨hb, h b (by rw [hb]; intro e; cases e; exact hd ⟨rfl, rfl⟩), rfl⟩,
    fun hn => absurd trivial hn, fun s hs _ => ⟨rfl, hs, rfl⟩, rfl⟩
 have hG : ∀ q, zAe ≠ q → St.get (((zAe, .none) :: u) ++ σ) q = (St.get (u ++ σ) q).mapC (CV.stale [zAe] true) := by
  intro q hq
  show St.get ((zAe, _) :: (u ++ σ)) q = _
  rw [St.get_cons, if_neg hq]; rfl
 refine ⟨hi.step st rfl rfl rfl (Nat.le_refl _) (fun b hlt h0 => ?_) (fun b hlt => ?_) hi.inj (fun b s hs => ?_) rfl (fun s hs => ⟨hb s hs, rfl⟩) (fun t => .inr ⟨?_, rfl⟩) (fun s cs' hs => .inr ⟨id, ?_⟩), hb⟩
 · have := (hi.old b hlt h0).2.2
   exact ⟨rfl, h b (by rw [this]; simp), this⟩
 · have := hi.new b hlt
   exact ⟨this.1, by show hw' b = 0; rw [h b (by rw [this.1]; simp)]; exact this.2⟩
 · have := hi.boxhw b s hs
   show hw' b = 0
   have hs : E.ow b = some (.box s) := hs
   rw [h b (by rw [hs]; simp)]; exact this
 · by_cases e : zAe = 2 * t
   · have : St.get (((zAe, .none) :: u) ++ σ) (2 * t) = .none := by
      show St.get ((zAe, _) :: (u ++ σ)) _ = _
      rw [St.get_cons, if_pos e]
     rw [this]; trivial
   · rw [hG _ e]
     exact AWk.map (fun c x => CW.stale (fun _ hd => by cases hd.1) (fun k c hd => by cases hd.1) (fun _ => rfl)) _
 · have e : zAe ≠ 2 * s + 1 := by unfold zAe; omega
   rw [hG _ e] at hs
   cases hq : St.get (u ++ σ) (2 * s + 1) with
   | v g' cs0 =>
     rw [hq] at hs
     injection hs with hs1 hs2
     subst hs1 hs2
     exact ⟨cs0, rfl, CWs.map (fun c x => CW.stale (fun _ hd => by cases hd.1) (fun k c hd => by cases hd.1) (fun _ => rfl)) _ _⟩
   | tup xs => rw [hq] at hs; cases hs
   | none => rw [hq] at hs; cases hs
theorem zGG (hi : Inv C (St.get (u ++ σ)) a.tmps E) {T : Ty} (hflat : T.flat = true) {xs : List T.den} {n : Nat} (hn : n ≤ xs.length) {v0 : Value} (hv0 : VRc E (zAd (St.get (u ++ σ))) (.h 0) 0 (.sl .own T xs) v0) :
 ∃ ad cap, v0 = .slice ad xs.length cap ∧ xs.length ≤ cap ∧ (if cap = 0 then ad else ad.map (·.add (0 * T.sz))) = ad ∧ Hand C (((zAe, .none) :: u) ++ σ) a.tmps E.w 0 (.v false [.sl .own T (xs.take n)]) (.slice ad n cap) := by
 have hv0 : RdP E.w (okF E (.h 0) 0 .own) (qF E (.h 0) 0 .own) v0 (.sl T.sz (xs.map T.toD)) := hv0
 obtain ⟨news, s1, s2, s3⟩ := zBZ (P := C.P) hv0 (Ty.sz_pos T)
 obtain ⟨ad, cap, rfl, hcap⟩ := hv0.shape
 have hq : Tip E (.arr (.h 0) 0 []) (.slice ad (xs.map T.toD).length cap) T.sz := hv0.top
 rw [List.length_map] at hcap hq s2 ⊢
 match ad, hq with
 | none, hq =>
   obtain ⟨h0, rfl⟩ : xs.length = 0 ∧ cap = 0 := hq
   have hx : xs = [] := List.length_eq_zero_iff.1 h0
   subst hx
   have hn0 : n = 0 := by simpa using hn
   subst hn0
   obtain ⟨hi2, _⟩ := zFU (hw' := E.hw) hi (fun b _ => rfl)
   exact ⟨none, 0, rfl, hcap, by simp, E.less E.hw, rfl, hi2, RdP.nil none 0 T.sz ⟨rfl, rfl⟩, trivial⟩
 | some ⟨b, off, sp⟩, hq =>
   match off, sp, hq with
   | _ + 1, _, hq => exact hq.elim
   | 0, some _, hq => exact hq.elim
   | 0, none, hq =>
     obtain ⟨q1, q2, q3, cs, cty, lo, hi', q4, q5, q6⟩ := hq
     obtain ⟨hi2, _⟩ := zFU (hw' := fun b' => if b' = b then n * T.sz else E.hw b') hi (fun b' hb' => by
      have : b' ≠ b := by rintro rfl; exact hb' q1
      simp [this])
     refine ⟨_, cap, rfl, hcap, by simp [zA1], E.less (fun b' => if b' = b then n * T.sz else E.hw b'), rfl, hi2, ?_, trivial⟩
     have hTip : Tip (E.less fun b' => if b' = b then n * T.sz else E.hw b') (.arr (.h 0) 0 []) (.slice (some ⟨b, 0, none⟩) n cap) T.sz :=
      ⟨q1, by simp [Env.less], by omega, cs, cty, lo, hi', q4, q5, q6⟩
     refine zCm (cs := cs) (ty := cty) (fr := (lo, hi')) q4 (by simp; omega) (by omega) (fun r hr => ?_) hTip (fun o ho => ⟨by show o < (if b = b then n * T.sz else E.hw b); rw [if_pos rfl]; exact ho, q1⟩) (fun i j hi hj => ?_)
     · obtain ⟨x, _, rfl⟩ := List.mem_map.1 hr
       exact Ty.toD_length T x
     · have hlt : i < xs.length := by simp at hi; omega
       have e : ((xs.take n).map T.toD)[i] = (xs.map T.toD)[i]'(by simpa using hlt) := by simp
       have hj' : j < ((xs.map T.toD)[i]'(by simpa using hlt)).length := by rw [← e]; exact hj
       obtain ⟨u1, g1, g2⟩ := s3 i j (by simpa using hlt) hj'
       refine ⟨u1, ?_, ?_⟩
       · have := s2 b 0 xs.length cap rfl _ _ g1
         rw [Nat.zero_add] at this
         simpa [World.cell?, q4] using this
       · have e2 : (((xs.take n).map T.toD)[i])[j] = ((xs.map T.toD)[i]'(by simpa using hlt))[j] := by simp only [e]
         rw [e2]
         refine g2.flat ?_
         have : ((xs.map T.toD)[i]'(by simpa using hlt)) = T.toD xs[i] := by simp
         exact Ty.flat_toD hflat xs[i] _ (by rw [← this]; exact List.getElem_mem hj')
theorem zEX {w : World} (htt : TTok C.P tt) (hi : Inv C (St.get (u ++ σ)) a.tmps E) (hw : E.w = w) {t : TypeId} {x y : Operand} (ho : o.op = .slice t x none (some y) none)
 {i : TI} (hti : tt.get t = some i) {T : Ty} {xs : List T.den} {k : IntKind} {n : Int} {u1 u2 : Ups} {p : AV} (h1 : Mr (opd tt .take t x) σ u = some (p, u1)) (hp : p = .v false [.sl .own T xs])
 (h2 : Mr (opc tt 0 y) σ u1 = some (.int k n, u2)) (hfit : zCa i (.sl .own T xs) = true) (hflat : T.flat = true) (hob : 0 ≤ n ∧ n ≤ xs.length) :
 Good C (((zAe, .none) :: u2) ++ σ) a w o (.v false [.sl .own T (xs.take n.toNat)]) := by
 subst hp
 obtain ⟨E1, e1, e2, e3, e4, e5, e6⟩ := zBk hi 0 h1
 obtain ⟨rfl, hy⟩ := zAn e4 h2
 have hy0 : a.eval y = .int k n := hy (.h 0) 0
 obtain ⟨ad, cap, hv, hcap, had, hand⟩ := zGG (a := a) e4 hflat (n := n.toNat) (by omega) e5.1
 obtain ⟨e, hel⟩ := zBU hfit
 obtain ⟨g1, te, vz, g2, g3, _⟩ := (htt t i hti).elem e T hel
 refine ⟨_, E1.w, ?_, hand⟩
 rw [zCE ho, hv, ← hw, ← e1]
 have hb : (Instr.sliceBounds true xs.length cap none (some (.int k n)) none).run C.P E1.w = .ok (0, n.toNat, cap) E1.w := by
  have := zAt (P := C.P) (w := E1.w) (k := k) (i := (n.toNat : Int)) (y := cap) (code := .sliceAcap) ⟨by omega, by omega⟩
  rw [Int.toNat_of_nonneg hob.1] at this
  simp [Instr.sliceBounds, this]
 have hrw : (Option.map a.eval (some y)) = some (.int k n) := by rw [Option.map_some, hy0]
 rw [hrw]
 simp [Instr.sliceAt, run_underlying g1, Instr.slice, hb, sizeOf, typeInfo, g2, g3, zBo]
 simpa using had
end
end Go.Ab
end
section
namespace Go.Ab
variable [Inhabited Lb]
def Dec (σ : St) (dc : List (Nat × Bool)) : Prop := ∀ t lit b, zCD dc t = some lit → σ.get (2 * t) = .v false [.bool b] → b = lit
section
variable {C : Ctx} {σ : St} {a : Act} {E : Env} {tt : TT} {con : FuncId → List Arg → CallO → Prop} {o : Oper} {md : Md} {dc : List (Nat × Bool)} {orc : Option CallO} {v : AV} {ob : List Prop} {u : Ups}
theorem zIc {w : World} (htt : TTok C.P tt) (hi : Inv C (St.get ([] ++ σ)) a.tmps E) (hw : E.w = w) (hdec : Dec σ dc) (hnc : zBK o = false) (h : Mr (zER tt con md o dc orc) σ [] = some ((v, ob), u)) (hob : ∀ p ∈ ob, p) :
 Fine C (u ++ σ) a w o v := by
 unfold zER at h
 split at h
 · rename_i x ho
   obtain ⟨r, u1, h1, h2⟩ := zAa h
   obtain ⟨rfl, rfl, rfl⟩ := zAx h2
   exact .inl (zHa hi hw (.inl ho) h1)
 · rename_i x ho
   obtain ⟨r, u1, h1, h2⟩ := zAa h
   obtain ⟨rfl, rfl, rfl⟩ := zAx h2
   exact .inl (zHa hi hw (.inr ho) h1)
 · rename_i c x y ho
   split at h
   · rename_i t
     obtain ⟨r, u1, h1, h2⟩ := zAa h
     obtain ⟨rfl, rfl⟩ := zAl h1
     split at h2
     · rename_i b hb
       have hv := hi.tmp t
       rw [hb] at hv
       have he : a.eval (.tmp t) = .bool b := hv.1
       split at h2
       · rename_i hd
         obtain ⟨r, u2, h3, h4⟩ := zAa h2
         obtain ⟨rfl, rfl, rfl⟩ := zAx h4
         have := hdec _ _ _ hd hb
         subst this
         exact .inl (zHl hi hw he ho h3)
       · rename_i hd
         obtain ⟨r, u2, h3, h4⟩ := zAa h2
         obtain ⟨rfl, rfl, rfl⟩ := zAx h4
         have := hdec _ _ _ hd hb
         subst this
         exact .inl (zHl hi hw he ho h3)
       · exact (zAb h2).elim
     · exact (zAb h2).elim
   · exact (zAb h).elim
 · rename_i t ho
   split at h
   · rename_i i d hti hdst
     split at h
     · rename_i z hz
       obtain ⟨r, u1, h1, h2⟩ := zAa h
       obtain ⟨rfl, rfl⟩ := zAl h1
       split at h2
       · rename_i hg
         obtain ⟨_, u2, h3, h4⟩ := zAa h2
         obtain rfl := zAj h3
         obtain ⟨rfl, rfl, rfl⟩ := zAg h4
         exact .inl (zHI htt hi hw ho hti hz hg)
       · exact (zAb h2).elim
     · exact (zAb h).elim
   · exact (zAb h).elim
 · rename_i t x ho
   split at h
   · rename_i i d hti hdst
     obtain ⟨cs, u1, h1, h2⟩ := zAa h
     obtain ⟨r, u2, h3, h4⟩ := zAa h2
     obtain ⟨rfl, rfl⟩ := zAl h3
     split at h4
     · rename_i hg
       obtain ⟨_, u3, h5, h6⟩ := zAa h4
       obtain rfl := zAj h5
       obtain ⟨rfl, rfl, rfl⟩ := zAg h6
       exact .inl (zI2 hi hw ho h1 hg)
     · exact (zAb h4).elim
   · exact (zAb h).elim
 · rename_i t ps ho
   split at h
   · rename_i i hti
     split at h
     · rename_i z hz
       obtain ⟨hagg, h⟩ := zAi h
       obtain ⟨cs, u1, h1, h2⟩ := zAa h
       obtain ⟨rfl, rfl, rfl⟩ := zAx h2
       exact .inl (zHN htt hi hw ho hti hz hagg h1)
     · exact (zAb h).elim
   · exact (zAb h).elim
 · rename_i t n ps ho
   split at h
   · rename_i i hti
     split at h
     · rename_i e T he
       split at h
       · obtain ⟨hn, h⟩ := zAi h
         obtain ⟨cs, u1, h1, h2⟩ := zAa h
         obtain ⟨r, u2, h3, h4⟩ := zAa h2
         obtain ⟨hr, rfl⟩ := zAw h3
         obtain ⟨rfl, rfl, rfl⟩ := zAg h4
         exact .inl (zD6 htt hi hw ho hti he (Nat.le_of_ble_eq_true hn) h1 hr)
       · exact (zAb h).elim
     · exact (zAb h).elim
   · exact (zAb h).elim
 · rename_i t x ho
   split at h
   · rename_i i hti
     obtain ⟨c, u1, h1, h2⟩ := zAa h
     obtain ⟨rfl, hv⟩ := zAn hi h1
     split at h2
     · exact .inl (zGt htt hi hw ho hti hv h2)
     · obtain ⟨hl, h2⟩ := zAi h2
       obtain ⟨rfl, rfl, rfl⟩ := zAx h2
       exact .inl (zFg htt hi hw ho hti (hv _ _) (Nat.le_of_ble_eq_true hl))
     · obtain ⟨hl, h2⟩ := zAi h2
       have := zFh htt hi hw ho hti (hv _ _) (Nat.le_of_ble_eq_true hl)
       split at h2
       · obtain ⟨rfl, rfl, rfl⟩ := zAx h2
         exact .inl this.1
       · obtain ⟨rfl, rfl, rfl⟩ := zAx h2
         exact .inl this.2
       · exact (zAb h2).elim
     · exact (zAb h2).elim
   · exact (zAb h).elim
 · rename_i t p x ho
   split at h
   · rename_i i hti
     obtain ⟨vs, u1, h1, h2⟩ := zAa h
     obtain ⟨c, u2, h3, h4⟩ := zAa h2
     obtain ⟨hl, h4⟩ := zAi h4
     obtain ⟨w', r1, r2⟩ := zIj htt hi hw ho hti h1 h3 (Nat.eq_of_beq_eq_true hl) (r := (v, ob)) h4 hob
     exact .inr ⟨w', r1, r2⟩
   · exact (zAb h).elim
 · rename_i x ho
   obtain ⟨c, u1, h1, h2⟩ := zAa h
   split at h2
   · obtain ⟨rfl, rfl, rfl⟩ := zAg h2
     exact .inl (zFp hi hw ho h1)
   · exact (zAb h2).elim
 · rename_i fn first caps ho
   split at h
   · obtain ⟨hf, h⟩ := zAi h
     obtain ⟨ss, u1, h1, h2⟩ := zAa h
     obtain ⟨rfl, rfl, rfl⟩ := zAg h2
     exact .inl (zFi hi hw ho hf h1)
   · exact (zAb h).elim
 · rename_i op t x y s ho
   obtain ⟨p, u1, h1, h2⟩ := zAa h
   obtain ⟨rfl, hp⟩ := zCY hi h1
   obtain ⟨q, u2, h3, h4⟩ := zAa h2
   obtain ⟨rfl, hq⟩ := zCY hi h3
   exact .inl (zI1 htt hi hw ho hp hq h4 hob)
 · rename_i op t x ho
   obtain ⟨c, u1, h1, h2⟩ := zAa h
   exact .inl (zIR hi hw ho h1 h2)
 · rename_i s d x ho
   split at h
   · rename_i i j hti htj
     obtain ⟨c, u1, h1, h2⟩ := zAa h
     obtain ⟨rfl, hv⟩ := zAn hi h1
     unfold zI3 at h2
     split at h2
     · rename_i k n
       split at h2
       · rename_i k' hk'
         obtain ⟨rfl, rfl, rfl⟩ := zAg h2
         exact .inl (zHR htt hi hw ho hti htj hk' (hv (.h 0) 0))
       · exact (zAb h2).elim
     · rename_i f xs
       split at h2
       · rename_i e he
         obtain ⟨hj, h2⟩ := zAi h2
         obtain ⟨rfl, rfl, rfl⟩ := zAg h2
         exact .inl (zGg htt hi hw ho hti htj he ((htt s i hti).u8 e he) hj (hv (.h 0) 0))
       · exact (zAb h2).elim
     · rename_i st
       split at h2
       · rename_i e he
         obtain ⟨hs, h2⟩ := zAi h2
         obtain ⟨rfl, rfl, rfl⟩ := zAg h2
         obtain ⟨t, ht, rfl⟩ := hv (.h 0) 0
         exact .inl (zHS htt hi hw ho hti htj he ((htt d j htj).u8 e he) hs ht)
       · exact (zAb h2).elim
     · exact (zAb h2).elim
   · exact (zAb h).elim
 · rename_i t l c ho
   split at h
   · rename_i i hti
     split at h
     · rename_i e T he
       obtain ⟨p, u1, h1, h2⟩ := zAa h
       obtain ⟨rfl, hp⟩ := zAn hi h1
       obtain ⟨q, u2, h3, h4⟩ := zAa h2
       obtain ⟨rfl, hq⟩ := zAn hi h3
       split at h4
       · obtain ⟨rfl, rfl, rfl⟩ := zAg h4
         exact .inl (zEM htt hi hw ho hti he (hp (.h 0) 0) (hq (.h 0) 0) (hob _ (List.mem_singleton.2 rfl)))
       · exact (zAb h4).elim
     · exact (zAb h).elim
   · exact (zAb h).elim
 · rename_i t x lo hi' mx ho
   split at h
   · rename_i i hti
     split at h
     · split at h
       · rename_i y
         obtain ⟨p, u1, h1, h2⟩ := zAa h
         obtain ⟨c, u2, h3, h4⟩ := zAa h2
         obtain ⟨hp, rfl⟩ := zB0 h3
         obtain ⟨m, u3, h5, h6⟩ := zAa h4
         obtain ⟨hfit, h6⟩ := zAi h6
         split at h6
         · obtain ⟨hflat, h6⟩ := zAi h6
           obtain ⟨_, u4, h7, h8⟩ := zAa h6
           obtain rfl := zAj h7
           obtain ⟨rfl, rfl, rfl⟩ := zAg h8
           exact .inl (zEX htt hi hw ho hti h1 hp h5 hfit hflat (hob _ (List.mem_singleton.2 rfl)))
         · exact (zAb h6).elim
       · exact (zAb h).elim
     · obtain ⟨c, u1, h1, h2⟩ := zAa h
       obtain ⟨rfl, hv⟩ := zAn hi h1
       obtain ⟨l, u2, h3, h4⟩ := zAa h2
       obtain ⟨rfl, hl⟩ := zES hi h3
       obtain ⟨m, u3, h5, h6⟩ := zAa h4
       obtain ⟨rfl, hm⟩ := zES hi h5
       obtain ⟨hfit, h6⟩ := zAi h6
       obtain ⟨r, u4, h7, h8⟩ := zAa h6
       obtain ⟨hr, rfl⟩ := zAw h7
       obtain ⟨rfl, rfl, rfl⟩ := zAg h8
       exact .inl (zIi htt hi hw ho hti hv hfit (l := l) (h := m) (by cases l <;> exact hl) (by cases m <;> exact hm) hr hob)
   · exact (zAb h).elim
 · rename_i t x f ho
   split at h
   · rename_i i hti
     split at h
     · rename_i p hp
       obtain ⟨c, u1, h1, h2⟩ := zAa h
       exact .inl (zED htt hi hw ho hti hp h1 h2)
     · exact (zAb h).elim
   · exact (zAb h).elim
 · rename_i t x ix ho
   split at h
   · rename_i i hti
     obtain ⟨c, u1, h1, h2⟩ := zAa h
     obtain ⟨rfl, hc⟩ := zAn hi h1
     obtain ⟨d, u2, h3, h4⟩ := zAa h2
     obtain ⟨rfl, hd⟩ := zAn hi h3
     obtain ⟨hs, h4⟩ := zAi h4
     exact .inl (zEG htt hi hw ho hti hc hd hs h4 hob)
   · exact (zAb h).elim
 · rename_i t x ix ho
   split at h
   · rename_i j hj
     obtain ⟨hs, h⟩ := zAi h
     obtain ⟨c, u1, h1, h2⟩ := zAa h
     obtain ⟨rfl, hc⟩ := zAn hi h1
     obtain ⟨d, u2, h3, h4⟩ := zAa h2
     obtain ⟨rfl, hd⟩ := zAn hi h3
     split at h4
     · obtain ⟨rfl, rfl, rfl⟩ := zAg h4
       exact .inl (zH3 htt hi hw ho hj hs hc hd (hob _ (List.mem_singleton.2 rfl)))
     · exact (zAb h4).elim
   · exact (zAb h).elim
 · rename_i x i ho
   split at h
   · rename_i t
     obtain ⟨r, u1, h1, h2⟩ := zAa h
     obtain ⟨rfl, rfl⟩ := zAl h1
     split at h2
     · rename_i ys hg
       split at h2
       · split at h2
         · rename_i y hy
           obtain ⟨rfl, rfl, rfl⟩ := zAx h2
           exact .inl (zEC hi hw ho hg hy)
         · exact (zAb h2).elim
       · dsimp only at h2
         split at h2
         · rename_i y hy
           obtain ⟨_, u2, h3, h4⟩ := zAa h2
           obtain rfl := zAj h3
           obtain ⟨rfl, rfl, rfl⟩ := zAx h4
           exact .inl (zGk hi hw ho hg hy)
         · exact (zAb h2).elim
     · exact (zAb h2).elim
   · exact (zAb h).elim
 · rename_i c ho
   split at h
   · rename_i hc
     split at h
     · rename_i x t hx ht
       have hs : c.argTypes.size = 1 := by rw [← Array.length_toList, ht]; rfl
       have hd : c.argTypes.getD 0 0 = t := by
        rw [show c.argTypes = #[t] from Array.ext' ht]; rfl
       exact .inl (zI4 htt hi hw ho hc hx hd hs h)
     · exact (zAb h).elim
   · rename_i hc
     split at h
     · rename_i x y t0 t1 hx ht
       split at h
       · rename_i i j hti htj
         obtain ⟨p, u1, h1, h2⟩ := zAa h
         obtain ⟨ca, u2, h3, h4⟩ := zAa h2
         obtain ⟨hp, rfl⟩ := zB0 h3
         obtain ⟨q, u3, h5, h6⟩ := zAa h4
         obtain ⟨cb, u4, h7, h8⟩ := zAa h6
         obtain ⟨hq, rfl⟩ := zB0 h7
         obtain ⟨hfit, h8⟩ := zAi h8
         split at h8
         · rename_i r hr
           have key : ∀ {u5 : Ups}, Mr (opd tt .cp t1 y) σ u2 = some (q, u4) → Mr ((setK zAe .none).bind fun _ => zAE r.1 r.2) σ u4 = some ((v, ob), u5) → Good C (u5 ++ σ) a w o v := by
            intro u5 h5 h8
            obtain ⟨_, u6, h9, h10⟩ := zAa h8
            obtain rfl := zAj h9
            obtain ⟨rfl, rfl, rfl⟩ := zAg h10
            exact zIY htt hi hw ho hc hx ht hti htj h1 hp h5 hq hfit hr hob
           cases md with
           | take => exact (zAb h8).elim
           | cp => exact .inl (key h5 h8)
           | ref => exact .inl (key h5 h8)
         obtain ⟨r, u5, h9, h10⟩ := zAa h8
         obtain ⟨hr, rfl⟩ := zAw h9
         obtain ⟨rfl, rfl, rfl⟩ := zAg h10
         exact .inl (zGR htt hi hw ho hc hx ht hti htj (by cases md <;> simp) h1 hp h5 hq hfit hr hob)
       · exact (zAb h).elim
     · exact (zAb h).elim
   · rename_i hc
     split at h
     · rename_i x y hx
       obtain ⟨p, u1, h1, h2⟩ := zAa h
       obtain ⟨rfl, hp⟩ := zAn hi h1
       obtain ⟨q, u2, h3, h4⟩ := zAa h2
       obtain ⟨rfl, hq⟩ := zAn hi h3
       split at h4
       · obtain ⟨rfl, rfl, rfl⟩ := zAg h4
         exact .inl ((zEN hi hw ho hx hp hq).1 hc)
       · exact (zAb h4).elim
     · exact (zAb h).elim
   · rename_i hc
     split at h
     · rename_i x y hx
       obtain ⟨p, u1, h1, h2⟩ := zAa h
       obtain ⟨rfl, hp⟩ := zAn hi h1
       obtain ⟨q, u2, h3, h4⟩ := zAa h2
       obtain ⟨rfl, hq⟩ := zAn hi h3
       split at h4
       · obtain ⟨rfl, rfl, rfl⟩ := zAg h4
         exact .inl ((zEN hi hw ho hx hp hq).2 hc)
       · exact (zAb h4).elim
     · exact (zAb h).elim
   · rename_i f hc
     simp [zBK, ho, hc] at hnc
   · rename_i f hc
     simp [zBK, ho, hc] at hnc
   · exact (zAb h).elim
 · exact (zAb h).elim
end
end Go.Ab
end
section
namespace Go.Ab
variable [Inhabited Lb]
def zAG : Nat → Prop := fun _ => True
structure EnvOk (E : Env) : Prop where
 new : ∀ b, E.w.heap.size ≤ b → E.ow b = none ∧ E.hw b = 0
 inj : ∀ b b' l, E.ow b = some l → E.ow b' = some l → b = b'
 boxhw : ∀ b s, E.ow b = some (.box s) → E.hw b = 0
theorem Inv.env {C : Ctx} {G : Nat → AV} {tmps : Array Value} {E : Env} (h : Inv C G tmps E) : EnvOk E := ⟨h.new, h.inj, h.boxhw⟩
theorem Inv.bas {C : Ctx} {G : Nat → AV} {tmps : Array Value} {E : Env} (h : Inv C G tmps E) : Base E := fun x hx => by
 obtain ⟨h1, h2, h3, h4⟩ := h.base x hx
 obtain ⟨a1, a2, a3⟩ := h.old x.1 h1 h2
 exact ⟨Nat.lt_of_lt_of_le h1 h.size, a3, a1.trans h3, a2.trans h4⟩
def zBq (E : Env) (i : Nat) (b : Nat) (cs : List CV) : Prop :=
 E.ow b = some (.box i) ∧ ∃ vals ty, E.w.heap[b]? = some (.cells vals ty (0, 0)) ∧ VRs E zAG (.k (2 * i + 1)) 0 cs vals.toList
def zHD (E : Env) (i : Nat) : Arg → Value → Prop
 | .val a, v => VR E zAG (.k (2 * i)) a v
 | .box cs, v => v = .pointer (some ⟨E.bx i, 0, none⟩) ∧ zBq E i (E.bx i) cs
 | .gbox _, _ => False
def ArgsAt (E : Env) : Nat → List Arg → List Value → Prop
 | _, [], [] => True
 | i, .gbox cs :: as, [] => zBq E (gi i) (E.bx (gi i)) cs ∧ ArgsAt E (i + 1) as []
 | i, a :: as, v :: vs => zHD E i a v ∧ ArgsAt E (i + 1) as vs
 | _, _, _ => False
def zAo : Nat → List Arg → List Nat
 | _, [] => []
 | i, .val _ :: as => zAo (i + 1) as
 | i, .box _ :: as => i :: zAo (i + 1) as
 | i, .gbox _ :: as => gi i :: zAo (i + 1) as
def zBN (E E' : Env) : Nat → List Arg → List (List CV) → Prop
 | _, [], [] => True
 | i, .val _ :: as, o => zBN E E' (i + 1) as o
 | i, .box _ :: as, o :: os => zBq E' i (E.bx i) o ∧ zBN E E' (i + 1) as os
 | i, .gbox _ :: as, o :: os => zBq E' (gi i) (E.bx (gi i)) o ∧ zBN E E' (i + 1) as os
 | _, _, _ => False
def zAk (k : Nat) : Nat → List CV → List (Nat × Nat)
 | _, [] => []
 | c, .sl (.lnt _) _ _ :: r => (k, c) :: zAk k (c + 1) r
 | c, _ :: r => zAk k (c + 1) r
def zAD : Nat → List Arg → List (Nat × Nat)
 | _, [] => []
 | i, .val (.v _ cs) :: r => zAk (2 * i) 0 cs ++ zAD (i + 1) r
 | i, _ :: r => zAD (i + 1) r
def zCy (E' : Env) : Nat → List (Nat × Nat) → List CV → Prop
 | _, [], [] => True
 | n, p :: ps, y :: ys => (∃ T xs, y = .sl (.lnt n) T xs) ∧ VRc E' zAG (.k p.1) p.2 y (E'.hdr n) ∧ zCy E' (n + 1) ps ys
 | _, _, _ => False
def ResAt (E : Env) (m : Nat) (a : AV) (v : Value) : Prop :=
 match a.nbox with
 | some cs => ∃ b, v = .pointer (some ⟨b, 0, none⟩) ∧ zBq E m b cs
 | none => VR E zAG (.h 0) a v
theorem zA9 {a : AV} (h : a.plain = true) : a.nbox = none := by
 unfold AV.nbox
 split
 · simp [AV.plain, CV.plain] at h
 · rfl
theorem ResAt.vr {E : Env} {m : Nat} {a : AV} {v : Value} (h : ResAt E m a v) (hn : a.nbox = none) : VR E zAG (.h 0) a v := by
 unfold ResAt at h
 rw [hn] at h
 exact h
theorem ResAt.of {E : Env} {m : Nat} {a : AV} {v : Value} (h : VR E zAG (.h 0) a v) (hn : a.nbox = none) : ResAt E m a v := by
 unfold ResAt
 rw [hn]
 exact h
structure ExitR (E E' : Env) (as : List Arg) (r : CallO) (v : Value) : Prop where
 os : E'.w.os = E.w.os
 tape : E'.w.tape = E.w.tape
 output : E'.w.output = E.w.output
 size : E.w.heap.size ≤ E'.w.heap.size
 hdr : E'.hdr = E.hdr
 old : ∀ b, b < E.w.heap.size → E.ow b = none → E'.w.heap[b]? = E.w.heap[b]? ∧ E'.hw b = E.hw b ∧ E'.ow b = none
 env : EnvOk E'
 res : ResAt E' as.length r.res v
 outs : zBN E E' 0 as r.outs
 lents : zCy E' 0 (zAD 0 as) r.lents
 bx : ∀ s, s ∈ zAo 0 as → E'.bx s = E.bx s
def Does (P : Program) (f : FuncId) (args : Array Value) (w : World) (R : Value → World → Prop) : Prop :=
 (∃ v w', (callFunc f args).run P w = .ok (.value v) w' ∧ R v w') ∨
   ((callFunc f args).run P w = .ok (.enter f args) w ∧ Calls P f args w fun e w' => match e with | .returned v => R v w' | _ => False)
theorem Does.mono {P : Program} {f : FuncId} {args : Array Value} {w : World} {R R' : Value → World → Prop} (h : Does P f args w R) (hr : ∀ v w', R v w' → R' v w') : Does P f args w R' := by
 rcases h with ⟨v, w', h1, h2⟩ | ⟨h1, h2⟩
 · exact .inl ⟨v, w', h1, hr _ _ h2⟩
 · exact .inr ⟨h1, Calls.mono h2 fun e w' he => by cases e <;> first | exact hr _ _ he | exact he⟩
def AbsCalls (P : Program) (f : FuncId) (as : List Arg) (r : CallO) : Prop :=
 ∀ (E : Env) (args : Array Value), EnvOk E → Base E → ArgsAt E 0 as args.toList → Does P f args E.w fun v w' => ∃ E', E'.w = w' ∧ ExitR E E' as r v
structure Pass (π ρ d : Own → Option Own) : Prop where
 pinj : ∀ l1 l2 l, π l1 = some l → π l2 = some l → l1 = l2
 rinj : ∀ l1 l2 l, ρ l1 = some l → ρ l2 = some l → l1 = l2
 back : ∀ l l', π l = some l' → ρ l' = some l
 drop : ∀ l, ((∃ l', ρ l' = some l) ∧ d l = none) ∨ ((∀ l', ρ l' ≠ some l) ∧ d l = some l)
 boxp : ∀ l i, π l = some (.box i) → ∃ s, l = .box s
 boxr : ∀ l s, ρ l = some (.box s) → ∃ i, l = .box i
theorem zBy {α β : Type} (S : α → β → Prop) (h : ∀ a b b', S a b → S a b' → b = b') : ∃ f : α → Option β, ∀ a b, f a = some b ↔ S a b := by
 refine ⟨fun a => Classical.choose (p := fun o : Option β => ∀ b, o = some b ↔ S a b) ?_, fun a => Classical.choose_spec (p := fun o : Option β => ∀ b, o = some b ↔ S a b) _⟩
 by_cases he : ∃ b, S a b
 · obtain ⟨b, hb⟩ := he
   exact ⟨some b, fun b' => ⟨fun e => by cases e; exact hb, fun hb' => by rw [h a b b' hb hb']⟩⟩
 · exact ⟨none, fun b => ⟨fun e => (by cases e), fun hb => absurd ⟨b, hb⟩ he⟩⟩
theorem Pass.of_rel (S S2 : Own → Own → Prop) (f1 : ∀ l a b, S l a → S l b → a = b) (f2 : ∀ a b l, S a l → S b l → a = b)
 (g1 : ∀ l a b, S2 l a → S2 l b → a = b) (g2 : ∀ a b l, S2 a l → S2 b l → a = b) (sub : ∀ a b, S a b → S2 a b)
 (bx : ∀ l i, S2 l (.box i) → ∃ s, l = .box s) (br : ∀ s l, S2 (.box s) l → ∃ i, l = .box i) :
 ∃ π ρ d, Pass π ρ d ∧ (∀ l l', π l = some l' ↔ S l l') ∧ (∀ l' l, ρ l' = some l ↔ S2 l l') := by
 obtain ⟨π, hπ⟩ := zBy S f1
 obtain ⟨ρ, hρ⟩ := zBy (fun a b => S2 b a) (fun a b b' h1 h2 => g2 _ _ _ h1 h2)
 obtain ⟨d, hd⟩ := zBy (fun a b : Own => a = b ∧ ∀ l', ρ l' ≠ some a) (fun a b b' h1 h2 => h1.1.symm.trans h2.1)
 refine ⟨π, ρ, d, ⟨fun l1 l2 l h1 h2 => f2 _ _ _ ((hπ _ _).1 h1) ((hπ _ _).1 h2), fun l1 l2 l h1 h2 => g1 _ _ _ ((hρ _ _).1 h1) ((hρ _ _).1 h2),
  fun l l' h => (hρ _ _).2 (sub _ _ ((hπ _ _).1 h)), fun l => ?_, fun l i h => bx _ _ (sub _ _ ((hπ _ _).1 h)), fun l s h => br _ _ ((hρ _ _).1 h)⟩, hπ, hρ⟩
 by_cases he : ∃ l', ρ l' = some l
 · refine .inl ⟨he, ?_⟩
   cases hdl : d l with
   | none => rfl
   | some x =>
     have := (hd l x).1 hdl
     obtain ⟨l', hl'⟩ := he
     exact absurd hl' (this.2 l')
 · have hn : ∀ l', ρ l' ≠ some l := fun l' h => he ⟨l', h⟩
   exact .inr ⟨hn, (hd l l).2 ⟨rfl, hn⟩⟩
def Env.into (E : Env) (π : Own → Option Own) (hide : Bool) (bx : Nat → Nat) (hdr : Nat → Value) : Env :=
 { w := E.w, ow := fun b => (E.ow b).bind π, hw := fun b => if hide = true ∧ (E.ow b).isSome = true ∧ (E.ow b).bind π = none then 0 else E.hw b, bx := bx, hdr := hdr }
def Env.frame (E : Env) (π : Own → Option Own) (b : Nat) : Prop := b < E.w.heap.size ∧ (E.ow b).bind π = none
instance (E : Env) (π : Own → Option Own) (b : Nat) : Decidable (E.frame π b) := by unfold Env.frame; exact inferInstance
def Env.back (E E' : Env) (π ρ d : Own → Option Own) : Env :=
 { w := E'.w, ow := fun b => if E.frame π b then (E.ow b).bind d else (E'.ow b).bind ρ, hw := fun b => if E.frame π b then E.hw b else E'.hw b, bx := E.bx, hdr := E.hdr }
def dkC (ρ : Own → Option Own) : Pl → Nat → Prop := fun pl c => ∃ p l', ρ l' = some (.arr pl c p)
def dbC (ρ : Own → Option Own) : Nat → Prop := fun s => ∃ l', ρ l' = some (.box s)
section
variable {E E' : Env} {π ρ d : Own → Option Own} {hide : Bool} {bx : Nat → Nat} {hdr : Nat → Value}
theorem zCj (hp : Pass π ρ d) (h : EnvOk E) : EnvOk (E.into π hide bx hdr) where
 new := fun b hb => by
  have := h.new b hb
  exact ⟨by simp [Env.into, this.1], by simp [Env.into, this.2]⟩
 inj := fun b b' l h1 h2 => by
  simp only [Env.into, Option.bind_eq_some_iff] at h1 h2
  obtain ⟨l1, a1, c1⟩ := h1
  obtain ⟨l2, a2, c2⟩ := h2
  have := hp.pinj _ _ _ c1 c2
  subst this
  exact h.inj _ _ _ a1 a2
 boxhw := fun b s hb => by
  simp only [Env.into] at hb ⊢
  have : E.hw b = 0 := by
   rw [Option.bind_eq_some_iff] at hb
   obtain ⟨l, a1, c1⟩ := hb
   obtain ⟨s', rfl⟩ := hp.boxp _ _ c1
   exact h.boxhw b s' a1
  split
  · rfl
  · exact this
theorem zBb (h : Base E) : Base (E.into π hide bx hdr) := fun x hx => by
 obtain ⟨h1, h2, h3, h4⟩ := h x hx
 exact ⟨h1, by simp [Env.into, h2], h3, by simp [Env.into, h2, h4]⟩
theorem zEa (hp : Pass π ρ d) {l1 l : Own} (h : d l1 = some l) : l = l1 ∧ ∀ l', ρ l' ≠ some l := by
 rcases hp.drop l1 with ⟨_, h1⟩ | ⟨h1, h2⟩
 · rw [h1] at h; cases h
 · rw [h2] at h; cases h; exact ⟨rfl, h1⟩
theorem zCA (hp : Pass π ρ d) (h : EnvOk E) (h' : EnvOk E') (hs : E.w.heap.size ≤ E'.w.heap.size) : EnvOk (E.back E' π ρ d) where
 new := fun b hb => by
  have hb' : E'.w.heap.size ≤ b := hb
  have hf : ¬ E.frame π b := fun hf => by have := hf.1; omega
  have := h'.new b hb'
  exact ⟨by simp [Env.back, hf, this.1], by simp [Env.back, hf, this.2]⟩
 inj := fun b b' l h1 h2 => by
  simp only [Env.back] at h1 h2
  have mixed : ∀ {b b' : Nat}, (E.ow b).bind d = some l → (E'.ow b').bind ρ = some l → False := by
   intro b b' g1 g2
   simp only [Option.bind_eq_some_iff] at g1 g2
   obtain ⟨l1, a1, c1⟩ := g1
   obtain ⟨l2, a2, c2⟩ := g2
   exact (zEa hp c1).2 _ c2
  split at h1 <;> split at h2
  · simp only [Option.bind_eq_some_iff] at h1 h2
    obtain ⟨l1, a1, c1⟩ := h1
    obtain ⟨l2, a2, c2⟩ := h2
    have e1 := (zEa hp c1).1
    have e2 := (zEa hp c2).1
    exact h.inj _ _ _ a1 (by rw [a2, ← e2, ← e1])
  · exact (mixed h1 h2).elim
  · exact (mixed h2 h1).elim
  · simp only [Option.bind_eq_some_iff] at h1 h2
    obtain ⟨l1, a1, c1⟩ := h1
    obtain ⟨l2, a2, c2⟩ := h2
    have := hp.rinj _ _ _ c1 c2
    subst this
    exact h'.inj _ _ _ a1 a2
 boxhw := fun b s hb => by
  simp only [Env.back] at hb ⊢
  split at hb
  · rename_i hf
    rw [if_pos hf]
    rw [Option.bind_eq_some_iff] at hb
    obtain ⟨l, a1, c1⟩ := hb
    obtain ⟨rfl, _⟩ := zEa hp c1
    exact h.boxhw b s a1
  · rename_i hf
    rw [if_neg hf]
    rw [Option.bind_eq_some_iff] at hb
    obtain ⟨l, a1, c1⟩ := hb
    obtain ⟨i, rfl⟩ := hp.boxr _ _ c1
    exact h'.boxhw b i a1
theorem zBt (hp : Pass π ρ d) (h : EnvOk E)
 (hold : ∀ b, b < E.w.heap.size → (E.into π hide bx hdr).ow b = none → E'.w.heap[b]? = E.w.heap[b]? ∧ E'.hw b = (E.into π hide bx hdr).hw b ∧ E'.ow b = none)
 {mu : Prop} (hmu : ¬ mu → ∀ b l l', E.ow b = some l → π l = some l' → E.hw b = 0) : Step E (E.back E' π ρ d) (dkC ρ) (dbC ρ) mu where
 ro := fun b hb => by
  by_cases hlt : b < E.w.heap.size
  · have hf : E.frame π b := ⟨hlt, by rw [hb]; rfl⟩
    obtain ⟨a1, a2, a3⟩ := hold b hlt (by simp [Env.into, hb])
    exact ⟨fun _ => by simp [Env.back, hf, hb], fun o ho => ⟨zAf a1 o, by simp [Env.back, hf, ho]⟩⟩
  · have := h.new b (by omega)
    exact ⟨fun h0 => by omega, fun o ho => by omega⟩
 own := fun b k c p hb hd => by
  have hlt : b < E.w.heap.size := by
   rcases Nat.lt_or_ge b E.w.heap.size with h1 | h1
   · exact h1
   · rw [(h.new b h1).1] at hb; cases hb
  have hpi : π (.arr k c p) = none := by
   cases hq : π (.arr k c p) with
   | none => rfl
   | some l => exact absurd ⟨p, l, hp.back _ _ hq⟩ hd
  have hf : E.frame π b := ⟨hlt, by rw [hb]; exact hpi⟩
  obtain ⟨a1, a2, a3⟩ := hold b hlt (by simp [Env.into, hb, hpi])
  refine ⟨?_, by simp [Env.back, hf], a1⟩
  simp only [Env.back, if_pos hf, hb, jS]
  rcases hp.drop (.arr k c p) with ⟨⟨l', hl'⟩, _⟩ | ⟨_, h2⟩
  · exact absurd ⟨p, l', hl'⟩ hd
  · exact h2
 bor := fun hm b o ho => by
  have hlt : b < E.w.heap.size := by
   rcases Nat.lt_or_ge b E.w.heap.size with h1 | h1
   · exact h1
   · rw [(h.new b h1).2] at ho; omega
  have hpi : (E.ow b).bind π = none := by
   cases hq : E.ow b with
   | none => rfl
   | some l =>
     cases hr : π l with
     | none => exact hr
     | some l' => have := hmu hm b l l' hq hr; omega
  have hf : E.frame π b := ⟨hlt, hpi⟩
  obtain ⟨a1, a2, a3⟩ := hold b hlt hpi
  exact ⟨zAf a1 o, by simp [Env.back, hf, ho]⟩
 box := fun s hs hd => by
  have hlt : E.bx s < E.w.heap.size := by
   rcases Nat.lt_or_ge (E.bx s) E.w.heap.size with h1 | h1
   · exact h1
   · rw [(h.new _ h1).1] at hs; cases hs
  have hpi : π (.box s) = none := by
   cases hq : π (.box s) with
   | none => rfl
   | some l => exact absurd ⟨l, hp.back _ _ hq⟩ hd
  have hf : E.frame π (E.bx s) := ⟨hlt, by rw [hs]; exact hpi⟩
  obtain ⟨a1, a2, a3⟩ := hold _ hlt (by simp [Env.into, hs, hpi])
  refine ⟨rfl, ?_, a1⟩
  simp only [Env.back, if_pos hf, hs, jS]
  rcases hp.drop (.box s) with ⟨⟨l', hl'⟩, _⟩ | ⟨_, h2⟩
  · exact absurd ⟨l', hl'⟩ hd
  · exact h2
 hdr := rfl
inductive Goes (E : Env) (π : Own → Option Own) (hide : Bool) (hdr : Nat → Value) (pl pl' : Pl) (c c' : Nat) (v : Value) : CV → CV → Prop where
 | same (x : CV) (h : match x with | .int _ _ => True | .bool _ => True | .str _ => True | .val _ => True | .undef => True | _ => False) : Goes E π hide hdr pl pl' c c' v x x
 | undef (x : CV) : Goes E π hide hdr pl pl' c c' v x .undef
 | ro (T : Ty) (xs : List T.den) : Goes E π hide hdr pl pl' c c' v (.sl .ro T xs) (.sl .ro T xs)
 | own (T : Ty) (xs : List T.den) (h : ∀ p, π (.arr pl c p) = some (.arr pl' c' p)) : Goes E π hide hdr pl pl' c c' v (.sl .own T xs) (.sl .own T xs)
 | tip (T : Ty) (xs : List T.den) (h : ∀ p, π (.arr pl c p) = some (.arr pl' c' p)) : Goes E π hide hdr pl pl' c c' v (.sl .tip T xs) (.sl .tip T xs)
 | bor (T : Ty) (xs : List T.den) (h : hide = false ∧ ∀ k c p, π (.arr k c p) = none) : Goes E π hide hdr pl pl' c c' v (.sl .bor T xs) (.sl .ro T xs)
 | al (k1 c1 : Nat) (p1 : List (Nat × Nat)) (T : Ty) (xs : List T.den) (h : hide = false ∧ ∀ k c p, π (.arr k c p) = none) : Goes E π hide hdr pl pl' c c' v (.sl (.al k1 c1 p1) T xs) (.sl .ro T xs)
 | lnt (k1 c1 n : Nat) (p1 : List (Nat × Nat)) (T : Ty) (xs : List T.den) (h : (∀ n c, v ≠ .slice none n c) → ∀ q, π (.arr (.k k1) c1 (p1 ++ q)) = some (.arr pl' c' q)) (hv : v = hdr n) :
    Goes E π hide hdr pl pl' c c' v (.sl (.al k1 c1 p1) T xs) (.sl (.lnt n) T xs)
theorem Tip.into {l l' : Own} (hm : π l = some l') {v : Value} {sz : Nat} (h : Tip E l v sz) : Tip (E.into π hide bx hdr) l' v sz := by
 unfold Tip at h ⊢
 split at h
 · obtain ⟨h1, h2, h3⟩ := h
   exact ⟨by simp [Env.into, h1, hm], by simp [Env.into, h1, hm, h2], h3⟩
 · exact h
 · exact h.elim
theorem zAp (he : EnvOk E) {bxs : Nat → Prop} {pl pl' : Pl} {c c' : Nat} {v : Value} {x x' : CV} (hg : Goes E π hide hdr pl pl' c c' v x x') (hv : VRc E bxs pl c x v) :
 VRc (E.into π hide bx hdr) zAG pl' c' x' v := by
 have hown : ∀ b l l', E.ow b = some l → π l = some l' → (E.into π hide bx hdr).ow b = some l' ∧ (E.into π hide bx hdr).hw b = E.hw b := by
  intro b l l' h1 h2
  exact ⟨by simp [Env.into, h1, h2], by simp [Env.into, h1, h2]⟩
 have hro : ∀ b, E.ow b = none → (E.into π hide bx hdr).ow b = none ∧ (E.into π hide bx hdr).hw b = E.hw b := by
  intro b h1
  exact ⟨by simp [Env.into, h1], by simp [Env.into, h1]⟩
 have hbor : (hide = false ∧ ∀ k c p, π (.arr k c p) = none) → ∀ b o, o < E.hw b → (E.into π hide bx hdr).ow b = none ∧ o < (E.into π hide bx hdr).hw b := by
  intro h b o ho
  have h1 : (E.into π hide bx hdr).hw b = E.hw b := by simp [Env.into, h.1]
  refine ⟨?_, by rw [h1]; exact ho⟩
  show (E.ow b).bind π = none
  cases hl : E.ow b with
  | none => rfl
  | some l =>
    cases l with
    | box s => have := he.boxhw b s hl; omega
    | arr k c p => exact h.2 k c p
 cases hg with
 | same _ hx => cases x <;> first | exact hv | exact hx.elim
 | undef => exact hv.one
 | ro T xs =>
   exact RdP.mono hv (fun p b o ho => ⟨rfl, by rw [(hro b ho.2).2]; exact ho.1, (hro b ho.2).1⟩) (fun _ _ _ _ => trivial)
 | own T xs h =>
   exact RdP.mono hv (fun p b o ho => ⟨rfl, by rw [(hown b _ _ ho.2 (h p)).2]; exact ho.1, (hown b _ _ ho.2 (h p)).1⟩) (fun p v sz ht => Tip.into (h p) ht)
 | tip T xs h =>
   refine RdP.mono hv (fun p b o ho => ⟨rfl, ?_⟩) (fun p v sz ht hp => Tip.into (h p) (ht hp))
   by_cases hp : p = []
   · have := hown b _ _ (ho.2.1 hp) (h p)
     exact ⟨by rw [this.2]; exact ho.1, fun _ => this.1, fun hn => absurd hp hn⟩
   · have := hro b (ho.2.2 hp)
     exact ⟨by rw [this.2]; exact ho.1, fun hn => absurd hn hp, fun _ => this.1⟩
 | bor T xs h =>
   exact RdP.mono hv (fun p b o ho => ⟨rfl, (hbor h b o ho).2, (hbor h b o ho).1⟩) (fun _ _ _ _ => trivial)
 | al k1 c1 p1 T xs h =>
   exact RdP.mono hv (fun p b o ho => ⟨rfl, (hbor h b o ho.1).2, (hbor h b o ho.1).1⟩) (fun _ _ _ _ => trivial)
 | lnt k1 c1 n p1 T xs h hh =>
   by_cases hn : ∀ n c, v ≠ .slice none n c
   case neg =>
    have hn' : ∃ n c, v = .slice none n c := by
     refine Classical.byContradiction fun h => hn fun n c e => h ⟨n, c, e⟩
    obtain ⟨n', c2, rfl⟩ := hn'
    have hq : Tip E (.arr (.k k1) c1 (p1 ++ [])) (.slice none n' c2) T.sz := by
     have hv : RdP E.w _ _ _ _ := hv
     exact hv.top
    obtain ⟨rfl, rfl⟩ := hq
    have hxs : xs = [] := by
     obtain ⟨ad, cap, e, _⟩ := RdP.shape hv
     have e2 := (Value.slice.inj e).2.1
     simpa using e2.symm
    subst hxs
    exact RdP.nil none 0 T.sz ⟨⟨rfl, rfl⟩, fun _ => hh⟩
   have h := h hn
   refine RdP.mono (RdP.topq hv) (fun p b o ho => ⟨rfl, by rw [(hown b _ _ ho.2 (h p)).2]; exact ho.1, (hown b _ _ ho.2 (h p)).1⟩) (fun p v' sz ht => ⟨Tip.into (h p) ht.1, fun hp => ?_⟩)
   exact (ht.2 hp).trans hh
inductive Comes' (ρ : Own → Option Own) (hide : Bool) (pl' pl : Pl) (c' c : Nat) : CV → CV → Prop where
 | same (x : CV) (h : match x with | .int _ _ => True | .bool _ => True | .str _ => True | .val _ => True | .undef => True | _ => False) : Comes' ρ hide pl' pl c' c x x
 | undef (x : CV) : Comes' ρ hide pl' pl c' c x .undef
 | ro (T : Ty) (xs : List T.den) (h : hide = true) : Comes' ρ hide pl' pl c' c (.sl .ro T xs) (.sl .ro T xs)
 | bor (T : Ty) (xs : List T.den) : Comes' ρ hide pl' pl c' c (.sl .ro T xs) (.sl .bor T xs)
 | tipbor (T : Ty) (xs : List T.den) : Comes' ρ hide pl' pl c' c (.sl .tip T xs) (.sl .bor T xs)
 | own (T : Ty) (xs : List T.den) (h : ∀ p, ρ (.arr pl' c' p) = some (.arr pl c p)) : Comes' ρ hide pl' pl c' c (.sl .own T xs) (.sl .own T xs)
 | tip (T : Ty) (xs : List T.den) (h : ∀ p, ρ (.arr pl' c' p) = some (.arr pl c p)) (hh : hide = true) : Comes' ρ hide pl' pl c' c (.sl .tip T xs) (.sl .tip T xs)
section
variable (hold : ∀ b, b < E.w.heap.size → (E.into π hide bx hdr).ow b = none → E'.w.heap[b]? = E.w.heap[b]? ∧ E'.hw b = (E.into π hide bx hdr).hw b ∧ E'.ow b = none)
include hold
theorem zAR {b : Nat} {l' l : Own} (h1 : E'.ow b = some l') (h2 : ρ l' = some l) : (E.back E' π ρ d).ow b = some l ∧ (E.back E' π ρ d).hw b = E'.hw b := by
 have hf : ¬ E.frame π b := fun hf => by
  have := (hold b hf.1 hf.2).2.2
  rw [h1] at this; cases this
 exact ⟨by simp [Env.back, hf, h1, h2], by simp [Env.back, hf]⟩
theorem zD5 {b o : Nat} (h : o < E'.hw b) : o < (E.back E' π ρ d).hw b := by
 by_cases hf : E.frame π b
 · have := (hold b hf.1 hf.2).2.1
   rw [this] at h
   simp only [Env.back, if_pos hf]
   simp only [Env.into] at h
   split at h <;> omega
 · simpa [Env.back, hf] using h
theorem zGS {b o : Nat} (hh : hide = true) (h1 : E'.ow b = none) (h : o < E'.hw b) : (E.back E' π ρ d).ow b = none := by
 by_cases hf : E.frame π b
 · have := (hold b hf.1 hf.2).2.1
   rw [this] at h
   simp only [Env.back, if_pos hf]
   cases hl : E.ow b with
   | none => rfl
   | some l =>
     have h2 := hf.2
     rw [hl] at h2
     simp [Env.into, hl, hh, h2] at h
     exact absurd h (by simp [show π l = none from h2])
 · simp [Env.back, hf, h1]
theorem Tip.back {l' l : Own} (hm : ρ l' = some l) {v : Value} {sz : Nat} (h : Tip E' l' v sz) : Tip (E.back E' π ρ d) l v sz := by
 unfold Tip at h ⊢
 split at h
 · obtain ⟨h1, h2, h3⟩ := h
   have := zAR (d := d) hold h1 hm
   exact ⟨this.1, this.2.trans h2, h3⟩
 · exact h
 · exact h.elim
theorem zAL {bxs : Nat → Prop} {pl pl' : Pl} {c c' : Nat} {v : Value} {x x' : CV} (hg : Comes' ρ hide pl' pl c' c x x') (hv : VRc E' zAG pl' c' x v) :
 VRc (E.back E' π ρ d) bxs pl c x' v := by
 cases hg with
 | same _ hx => cases x <;> first | exact hv | exact hx.elim
 | undef => exact hv.one
 | ro T xs h =>
   exact RdP.mono hv (fun p b o ho => ⟨rfl, zD5 hold ho.1, zGS hold h ho.2 ho.1⟩) (fun _ _ _ _ => trivial)
 | bor T xs => exact RdP.mono hv (fun p b o ho => ⟨rfl, zD5 hold ho.1⟩) (fun _ _ _ _ => trivial)
 | tipbor T xs => exact RdP.mono hv (fun p b o ho => ⟨rfl, zD5 hold ho.1⟩) (fun _ _ _ _ => trivial)
 | own T xs h =>
   exact RdP.mono hv (fun p b o ho => ⟨rfl, by rw [(zAR (d := d) hold ho.2 (h p)).2]; exact ho.1, (zAR hold ho.2 (h p)).1⟩) (fun p v sz ht => Tip.back hold (h p) ht)
 | tip T xs h hh =>
   refine RdP.mono hv (fun p b o ho => ⟨rfl, zD5 hold ho.1, fun hp => ?_, fun hp => ?_⟩) (fun p v sz ht hp => Tip.back hold (h p) (ht hp))
   · exact (zAR hold (ho.2.1 hp) (h p)).1
   · exact zGS hold hh (ho.2.2 hp) ho.1
end
end
end Go.Ab
end
section
namespace Go.Ab
variable [Inhabited Lb]
theorem RdP.nilRo {w : World} {ok : List (Nat × Nat) → Nat → Nat → Prop} {q : List (Nat × Nat) → Value → Nat → Prop} {v : Value} {sz : Nat} (h : RdP w ok q v (.sl sz []))
 {w' : World} {ok' : List (Nat × Nat) → Nat → Nat → Prop} : RdP w' ok' (fun _ _ _ => True) v (.sl sz []) := by
 obtain ⟨ad, cap, rfl, _⟩ := RdP.shape h
 exact .nil ad cap sz trivial
structure ArgsOk (E : Env) (G : Nat → AV) (as : List Arg) (ks : List Nat) (vs : List Value) : Prop where
 len : as.length = vs.length
 val : ∀ (j : Nat) (x : AV) (v : Value), as[j]? = some (.val x) → vs[j]? = some v → (∃ g cs, x = .v g cs) ∧ ∀ pl, VR E (zAd G) pl x v
 box : ∀ (j : Nat) (cs : List CV) (v : Value), as[j]? = some (.box cs) → vs[j]? = some v → ∃ s, ks = [s] ∧ v = .pointer (some ⟨E.bx s, 0, none⟩) ∧ G (2 * s + 1) = .v true cs
 one : ∀ (j j' : Nat) (cs cs' : List CV), as[j]? = some (.box cs) → as[j']? = some (.box cs') → j = j'
 has : ∀ s, s ∈ ks → ks = [s] ∧ ∃ (j : Nat) (cs : List CV), as[j]? = some (.box cs)
 ng : ∀ (j : Nat) (cs : List CV), as[j]? ≠ some (.gbox cs)
section
variable {C : Ctx} {σ : St} {a : Act} {E : Env} {u u' : Ups} {tt : TT}
theorem zA7 (hi : Inv C (St.get (u ++ σ)) a.tmps E) : ∀ (xs : List Operand) (tys : List TypeId) (r : List Arg × List Nat) (u' : Ups),
 Mr (zCp tt xs tys) σ u = some (r, u') → u' = u ∧ ArgsOk E (St.get (u ++ σ)) r.1 r.2 (xs.map a.eval) := by
 intro xs
 induction xs with
 | nil =>
   intro tys r u' h
   obtain ⟨rfl, rfl⟩ := zAc h
   exact ⟨rfl, ⟨rfl, by simp, by simp, by simp, by simp, by simp⟩⟩
 | cons x xs ih =>
   intro tys r u' h
   obtain ⟨p, u1, h1, h2⟩ := zAa h
   obtain ⟨rfl, hp⟩ := ih _ _ _ h1
   obtain ⟨b, u2, h3, h4⟩ := zAa h2
   obtain ⟨rfl, hb⟩ := zCY hi h3
   have vals : ∀ (g : Bool) (cs : List CV), b = .v g cs → r = (.val (.v g cs) :: p.1, p.2) → ArgsOk E (St.get (u2 ++ σ)) r.1 r.2 ((x :: xs).map a.eval) := by
    intro g cs e1 e2
    subst e1 e2
    refine ⟨by simp [hp.len], fun j y v hj hv => ?_, fun j y v hj hv => ?_, fun j j' y y' hj hj' => ?_, fun s hs => ?_, fun j y hj => ?_⟩
    · cases j with
      | zero => simp at hj hv; subst hj hv; exact ⟨⟨g, cs, rfl⟩, hb⟩
      | succ j => exact hp.val j y v (by simpa using hj) (by simpa using hv)
    · cases j with
      | zero => simp at hj
      | succ j => exact hp.box j y v (by simpa using hj) (by simpa using hv)
    · cases j with
      | zero => simp at hj
      | succ j => cases j' with
        | zero => simp at hj'
        | succ j' => rw [hp.one j j' y y' (by simpa using hj) (by simpa using hj')]
    · obtain ⟨e, j, y, hj⟩ := hp.has s hs
      exact ⟨e, j + 1, y, by simpa using hj⟩
    · cases j with
      | zero => simp at hj
      | succ j => exact hp.ng j y (by simpa using hj)
   split at h4
   · rename_i s
     obtain ⟨cs, u3, h5, h6⟩ := zAa h4
     unfold boxK at h5
     obtain ⟨b2, u4, h7, h8⟩ := zAa h5
     obtain ⟨rfl, rfl⟩ := zAl h7
     have h8' : St.get (u4 ++ σ) (2 * s + 1) = .v true cs ∧ u3 = u4 := by
      split at h8
      · rename_i hg; obtain ⟨rfl, rfl⟩ := zAc h8; exact ⟨hg, rfl⟩
      · exact (zAb h8).elim
     obtain ⟨hg, rfl⟩ := h8'
     split at h6
     · rename_i hks
       obtain ⟨rfl, rfl⟩ := zAc h6
       have nob : ∀ (j : Nat) (y : List CV), p.1[j]? ≠ some (.box y) := by
        intro j y hj
        have hl : j < (xs.map a.eval).length := by rw [← hp.len]; exact (List.getElem?_eq_some_iff.1 hj).1
        obtain ⟨s, e, _⟩ := hp.box j y _ hj (List.getElem?_eq_getElem hl)
        rw [hks] at e; cases e
       refine ⟨rfl, ⟨by simp [hp.len], fun j y v hj hv => ?_, fun j y v hj hv => ?_, fun j j' y y' hj hj' => ?_, fun s' hs => ?_, fun j y hj => ?_⟩⟩
       · cases j with
         | zero => simp at hj
         | succ j => exact hp.val j y v (by simpa using hj) (by simpa using hv)
       · cases j with
         | zero =>
           simp at hj hv; subst hj hv
           exact ⟨s, rfl, (hb (.h 0)).1.1, hg⟩
         | succ j => exact absurd (by simpa using hj) (nob j y)
       · cases j with
         | succ j => exact absurd (by simpa using hj) (nob j y)
         | zero => cases j' with
           | zero => rfl
           | succ j' => exact absurd (by simpa using hj') (nob j' y')
       · simp at hs; subst hs; exact ⟨rfl, 0, cs, rfl⟩
       · cases j with
         | zero => simp at hj
         | succ j => exact hp.ng j y (by simpa using hj)
     · exact (zAb h6).elim
   · obtain ⟨rfl, rfl⟩ := zAc h4
     exact ⟨rfl, vals _ _ rfl rfl⟩
   · exact (zAb h4).elim
theorem zEk {E : Env} : ∀ {as : List Arg} {vs : List Value} {i : Nat}, as.length = vs.length → (∀ (j : Nat) (x : Arg) (v : Value), as[j]? = some x → vs[j]? = some v → zHD E (i + j) x v) → ArgsAt E i as vs := by
 intro as
 induction as with
 | nil => intro vs i hl h; cases vs <;> simp_all [ArgsAt]
 | cons x as ih =>
   intro vs i hl h
   cases vs with
   | nil => simp at hl
   | cons v vs =>
     have h0 := h 0 x v rfl rfl
     have ht : ArgsAt E (i + 1) as vs := ih (by simpa using hl) fun j y w h1 h2 => by rw [show i + 1 + j = i + (j + 1) from by omega]; exact h (j + 1) y w (by simpa using h1) (by simpa using h2)
     cases x with
     | val a => exact ⟨h0, ht⟩
     | box cs => exact ⟨h0, ht⟩
     | gbox cs => exact h0.elim
theorem zE0 {E E' : Env} : ∀ {as : List Arg} {k : Nat} {outs : List (List CV)}, zBN E E' k as outs → (∀ (j : Nat) (cs : List CV), as[j]? ≠ some (.box cs) ∧ as[j]? ≠ some (.gbox cs)) → outs = [] := by
 intro as
 induction as with
 | nil => intro k outs h _; cases outs <;> simp_all [zBN]
 | cons x as ih =>
   intro k outs h hn
   cases x with
   | box cs => exact absurd rfl (hn 0 cs).1
   | gbox cs => exact absurd rfl (hn 0 cs).2
   | val y => exact ih (k := k + 1) h fun j cs => by simpa using hn (j + 1) cs
theorem zDQ {E E' : Env} : ∀ {as : List Arg} {k j : Nat} {cs : List CV} {outs : List (List CV)}, zBN E E' k as outs → as[j]? = some (.box cs) → (∀ (j' : Nat) (cs' : List CV), (as[j']? = some (.box cs') → j' = j) ∧ as[j']? ≠ some (.gbox cs')) →
 ∃ o, outs = [o] ∧ zBq E' (k + j) (E.bx (k + j)) o := by
 intro as
 induction as with
 | nil => intro k j cs outs h hj; simp at hj
 | cons x as ih =>
   intro k j cs outs h hj hn
   cases x with
   | box cs0 =>
     obtain rfl := (hn 0 cs0).1 rfl
     cases outs with
     | nil => exact h.elim
     | cons o os =>
       have := zE0 h.2 fun j' cs' => ⟨fun he => by have := (hn (j' + 1) cs').1 (by simpa using he); omega, fun he => (hn (j' + 1) cs').2 (by simpa using he)⟩
       subst this
       exact ⟨o, rfl, h.1⟩
   | gbox cs0 => exact absurd rfl (hn 0 cs0).2
   | val y =>
     cases j with
     | zero => simp at hj
     | succ j =>
       have := ih (k := k + 1) (j := j) h (by simpa using hj) fun j' cs' => ⟨fun he => by have := (hn (j' + 1) cs').1 (by simpa using he); omega, fun he => (hn (j' + 1) cs').2 (by simpa using he)⟩
       rwa [show k + 1 + j = k + (j + 1) from by omega] at this
theorem zId (s i : Nat) (own : Bool) : ∃ π ρ d, Pass π ρ d ∧
 (∀ l l', π l = some l' ↔ (l = .box s ∧ l' = .box i) ∨ (own = true ∧ ∃ c p, l = .arr (.k (2 * s + 1)) c p ∧ l' = .arr (.k (2 * i + 1)) c p)) ∧
 (∀ l' l, ρ l' = some l ↔ (l = .box s ∧ l' = .box i) ∨ (∃ c p, l = .arr (.k (2 * s + 1)) c p ∧ l' = .arr (.k (2 * i + 1)) c p) ∨ (∃ c p, l = .arr (.h 0) c p ∧ l' = .arr (.h 0) c p)) := by
 refine Pass.of_rel _ _ ?_ ?_ ?_ ?_ ?_ ?_ ?_
 · rintro l a b (⟨rfl, rfl⟩ | ⟨_, c, p, rfl, rfl⟩) (⟨h, rfl⟩ | ⟨_, c', p', h, rfl⟩) <;> first | rfl | (cases h; rfl) | cases h
 · rintro a b l (⟨rfl, rfl⟩ | ⟨_, c, p, rfl, rfl⟩) (⟨rfl, h⟩ | ⟨_, c', p', rfl, h⟩) <;> first | rfl | (cases h; rfl) | cases h
 · rintro l a b (⟨rfl, rfl⟩ | ⟨c, p, rfl, rfl⟩ | ⟨c, p, rfl, rfl⟩) (⟨h, rfl⟩ | ⟨c', p', h, rfl⟩ | ⟨c', p', h, rfl⟩) <;> first | rfl | (cases h; rfl) | cases h
 · rintro a b l (⟨rfl, rfl⟩ | ⟨c, p, rfl, rfl⟩ | ⟨c, p, rfl, rfl⟩) (⟨rfl, h⟩ | ⟨c', p', rfl, h⟩ | ⟨c', p', rfl, h⟩) <;> first | rfl | (cases h; rfl) | cases h
 · rintro a b (h | ⟨_, h⟩)
   · exact .inl h
   · exact .inr (.inl h)
 · rintro l j (⟨rfl, h⟩ | ⟨c, p, rfl, h⟩ | ⟨c, p, rfl, h⟩)
   · exact ⟨s, rfl⟩
   · cases h
   · cases h
 · rintro j l (⟨h, rfl⟩ | ⟨c, p, h, rfl⟩ | ⟨c, p, h, rfl⟩)
   · exact ⟨i, rfl⟩
   · cases h
   · cases h
theorem zHk : ∃ π ρ d, Pass π ρ d ∧ (∀ l, π l = none) ∧ (∀ l' l, ρ l' = some l ↔ (∃ c p, l = .arr (.h 0) c p ∧ l' = .arr (.h 0) c p)) := by
 obtain ⟨π, ρ, d, h1, h2, h3⟩ := Pass.of_rel (fun _ _ => False) (fun l l' => ∃ c p, l = .arr (.h 0) c p ∧ l' = .arr (.h 0) c p) (by simp) (by simp)
  (by rintro l a b ⟨c, p, rfl, rfl⟩ ⟨c', p', h, rfl⟩; cases h; rfl) (by rintro a b l ⟨c, p, rfl, rfl⟩ ⟨c', p', rfl, h⟩; cases h; rfl) (by simp)
  (by rintro l j ⟨c, p, rfl, h⟩; cases h) (by rintro j l ⟨c, p, h, rfl⟩; cases h)
 exact ⟨π, ρ, d, h1, fun l => by cases h : π l with | none => rfl | some x => exact ((h2 l x).1 h).elim, h3⟩
theorem zHB {π : Own → Option Own} {hide : Bool} {bx : Nat → Nat} {hdr : Nat → Value} (he : EnvOk E) {bxs : Nat → Prop} {pl : Pl} {g : Bool} {cs : List CV} {v : Value}
 (hb : cs.any CV.isBorAl = true → hide = false ∧ ∀ k c p, π (.arr k c p) = none) (hv : ∀ pl, VR E bxs pl (.v g cs) v) :
 VR (E.into π hide bx hdr) zAG pl ((AV.v g cs).mapC CV.toRo) v := by
 refine VR.imp (fun j x v hx hv => ?_) (hv pl)
 have hx : x ∈ cs := hx
 have hb' : x.isBorAl = true → hide = false ∧ ∀ k c p, π (.arr k c p) = none := fun h => hb (List.any_eq_true.2 ⟨x, hx, h⟩)
 cases x with
 | sl f T xs =>
   cases f with
   | ro => exact zAp he (.ro T xs) hv
   | bor => exact zAp he (.bor T xs (hb' rfl)) hv
   | own =>
     cases xs with
     | nil => exact RdP.nilRo hv
     | cons y ys => exact hv.one
   | tip => exact hv.one
   | lnt n => exact hv.one
   | al k c p => exact zAp he (.al k c p T xs (hb' rfl)) hv
 | ptr s off => exact hv.one
 | clo k ss => exact hv.one
 | swp sf n h0 s => exact hv.one
 | eptr f T x off => exact hv.one
 | eref k c p i T x off => exact hv.one
 | apd k c p T xs => exact hv.one
 | _ => exact zAp he (.same _ trivial) hv
theorem zHz {π : Own → Option Own} {hide : Bool} {bx : Nat → Nat} {hdr : Nat → Value} (he : EnvOk E) {bxs : Nat → Prop} {pl pl' : Pl} {cs : List CV} {vs : List Value}
 (hb : cs.any CV.isBorAl = true → hide = false ∧ ∀ k c p, π (.arr k c p) = none) (ho : cs.any CV.isOwn = true → ∀ c p, π (.arr pl c p) = some (.arr pl' c p)) (hv : VRs E bxs pl 0 cs vs) :
 VRs (E.into π hide bx hdr) zAG pl' 0 (cs.map CV.toBx) vs := by
 refine VRs.imp (fun j x v hx hv => ?_) hv
 have hb' : x.isBorAl = true → hide = false ∧ ∀ k c p, π (.arr k c p) = none := fun h => hb (List.any_eq_true.2 ⟨x, hx, h⟩)
 have ho' : x.isOwn = true → ∀ c p, π (.arr pl c p) = some (.arr pl' c p) := fun h => ho (List.any_eq_true.2 ⟨x, hx, h⟩)
 cases x with
 | sl f T xs =>
   cases f with
   | ro => exact zAp he (.ro T xs) hv
   | bor => exact zAp he (.bor T xs (hb' rfl)) hv
   | own => exact zAp he (.own T xs (ho' rfl _)) hv
   | tip => exact zAp he (.tip T xs (ho' rfl _)) hv
   | lnt n => exact hv.one
   | al k c p => exact hv.one
 | ptr s off => exact hv.one
 | clo k ss => exact hv.one
 | swp sf n h0 s => exact hv.one
 | eptr f T x off => exact hv.one
 | eref k c p i T x off => exact hv.one
 | apd k c p T xs => exact hv.one
 | _ => exact zAp he (.same _ trivial) hv
theorem zB1 : ∀ {as : List Arg} {j : Nat} {g : Bool} {cs : List CV}, as[j]? = some (.val (.v g cs)) ∨ as[j]? = some (.box cs) → cs.any CV.isBorAl = true → zAs as = true := by
 intro as
 induction as with
 | nil => intro j g cs h; simp at h
 | cons x as ih =>
   intro j g cs h hc
   cases j with
   | zero =>
     simp at h
     rcases h with rfl | rfl
     · simp [zAs, hc]
     · simp [zAs, hc]
   | succ j =>
     have := ih (j := j) (g := g) (by simpa using h) hc
     cases x with
     | box _ => simp [zAs, this]
     | gbox _ => simp [zAs, this]
     | val y => cases y <;> simp [zAs, this]
theorem zGa : ∀ {as : List Arg} {j : Nat} {cs : List CV}, as[j]? = some (.box cs) → cs.any CV.isOwn = true → zBg as = true := by
 intro as
 induction as with
 | nil => intro j cs h; simp at h
 | cons x as ih =>
   intro j cs h hc
   cases j with
   | zero => simp at h; subst h; simp [zBg, hc]
   | succ j =>
     have := ih (j := j) (by simpa using h) hc
     cases x <;> simp [zBg, this]
theorem zDf {π : Own → Option Own} {hide : Bool} {hdr : Nat → Value} (hi : Inv C (St.get (u ++ σ)) a.tmps E) {as : List Arg} {ks : List Nat} {vs : List Value} (h : ArgsOk E (St.get (u ++ σ)) as ks vs)
 (hb : zAs as = true → hide = false ∧ ∀ k c p, π (.arr k c p) = none)
 (hbox : ∀ s, ks = [s] → ∀ (i : Nat) (cs : List CV), as[i]? = some (.box cs) → π (.box s) = some (.box i) ∧ (zBg as = true → ∀ c p, π (.arr (.k (2 * s + 1)) c p) = some (.arr (.k (2 * i + 1)) c p))) {bx : Nat → Nat} (hbx : ∀ s, ks = [s] → ∀ i, bx i = E.bx s) :
 ArgsAt (E.into π hide bx hdr) 0 (as.map Arg.toRo) vs := by
 refine zEk (by simp [h.len]) fun j x v hj hv => ?_
 rw [List.getElem?_map, Option.map_eq_some_iff] at hj
 obtain ⟨y, hy, rfl⟩ := hj
 rw [Nat.zero_add]
 cases y with
 | val x =>
   obtain ⟨⟨g, cs, rfl⟩, hvr⟩ := h.val j x v hy hv
   exact zHB hi.env (fun hc => hb (zB1 (.inl hy) hc)) hvr
 | box cs =>
   obtain ⟨s, hks, rfl, hg⟩ := h.box j cs v hy hv
   obtain ⟨h1, vals, ty, h2, h3⟩ := hi.box s cs hg
   obtain ⟨p1, p2⟩ := hbox s hks j cs hy
   have hbb := hbx s hks j
   show _ ∧ zBq _ _ _ _
   refine ⟨by rw [show (E.into π hide bx hdr).bx j = E.bx s from hbb], by rw [show (E.into π hide bx hdr).bx j = E.bx s from hbb]; simp [Env.into, h1, p1], vals, ty, by rw [show (E.into π hide bx hdr).bx j = E.bx s from hbb]; exact h2, ?_⟩
   exact zHz hi.env (fun hc => hb (zB1 (g := true) (.inr hy) hc)) (fun hc => p2 (zGa hy hc)) h3
 | gbox cs => exact (h.ng j cs hy).elim
end
end Go.Ab
end
section
namespace Go.Ab
variable [Inhabited Lb]
section
variable {C : Ctx} {σ : St} {a : Act} {E E' : Env} {u u' : Ups} {tt : TT} {π ρ d : Own → Option Own} {hide : Bool} {bx : Nat → Nat} {hdr : Nat → Value}
theorem zBs (hold : ∀ b, b < E.w.heap.size → (E.into π hide bx hdr).ow b = none → E'.w.heap[b]? = E.w.heap[b]? ∧ E'.hw b = (E.into π hide bx hdr).hw b ∧ E'.ow b = none)
 {bxs : Nat → Prop} {pl pl' : Pl} {c c' : Nat} {v : Value} {x : CV} (hx : x.plain = true) (hr : ∀ p, ρ (.arr pl' c' p) = some (.arr pl c p)) (hv : VRc E' zAG pl' c' x v) :
 VRc (E.back E' π ρ d) bxs pl c (cond hide x x.rob) v := by
 cases hide with
 | true =>
   simp only [jT]
   cases x with
   | sl f T xs =>
     cases f with
     | ro => exact zAL hold (.ro T xs rfl) hv
     | own => exact zAL hold (.own T xs hr) hv
     | tip => exact zAL hold (.tip T xs hr rfl) hv
     | _ => cases hx
   | int k n => exact zAL hold (.same _ trivial) hv
   | bool b => exact zAL hold (.same _ trivial) hv
   | str s => exact zAL hold (.same _ trivial) hv
   | val s => exact zAL hold (.same _ trivial) hv
   | _ => cases hx
 | false =>
   simp only [jF]
   cases x with
   | sl f T xs =>
     cases f with
     | ro => exact zAL hold (.bor T xs) hv
     | own => exact zAL hold (.own T xs hr) hv
     | tip => exact zAL hold (.tipbor T xs) hv
     | _ => cases hx
   | int k n => exact zAL hold (.same _ trivial) hv
   | bool b => exact zAL hold (.same _ trivial) hv
   | str s => exact zAL hold (.same _ trivial) hv
   | val s => exact zAL hold (.same _ trivial) hv
   | _ => cases hx
theorem AV.plain_mem {a : AV} {x : CV} (h : a.plain = true) (hx : a.mem x) : x.plain = true := by
 cases a with
 | none => exact hx.elim
 | v g cs => exact List.all_eq_true.1 h x hx
 | tup xs => obtain ⟨y, hy, hx⟩ := hx; exact List.all_eq_true.1 (List.all_eq_true.1 h y hy) x hx
theorem zGY (b : Bool) (f : CV → CV) (a : AV) : (a.mapC fun x => cond b x (f x)) = cond b a (a.mapC f) := by
 cases b
 · rfl
 · exact AV.mapC_id (fun _ => rfl) a
theorem zCv (hold : ∀ b, b < E.w.heap.size → (E.into π hide bx hdr).ow b = none → E'.w.heap[b]? = E.w.heap[b]? ∧ E'.hw b = (E.into π hide bx hdr).hw b ∧ E'.ow b = none)
 {bxs : Nat → Prop} {r : AV} {v : Value} (hx : r.plain = true) (hr : ∀ c p, ρ (.arr (.h 0) c p) = some (.arr (.h 0) c p)) (hv : VR E' zAG (.h 0) r v) :
 VR (E.back E' π ρ d) bxs (.h 0) (cond hide r (r.mapC CV.rob)) v := by
 rw [← zGY]
 exact VR.imp (fun j x v hm hv => zBs hold (AV.plain_mem hx hm) (fun p => hr j p) hv) hv
theorem zGU (hi : Inv C (St.get (u ++ σ)) a.tmps E) (hp : Pass π ρ d) (hπ : ∀ l, π l = none) (hρ : ∀ l' l, ρ l' = some l ↔ (∃ c p, l = .arr (.h 0) c p ∧ l' = .arr (.h 0) c p))
 {as : List Arg} {r : CallO} {v : Value} (hx : ExitR (E.into π hide bx hdr) E' as r v) (hpl : r.res.plain = true) :
 Hand C (u ++ σ) a.tmps E'.w 0 (cond hide r.res (r.res.mapC CV.rob)) v := by
 have hold := hx.old
 have hst := zBt (mu := False) hp hi.env hold (fun _ b l l' _ h2 => by rw [hπ] at h2; cases h2)
 have hbk := zCA hp hi.env hx.env hx.size
 have hdk : ∀ pl c, dkC ρ pl c → pl = .h 0 := by
  rintro pl c ⟨p, l', h⟩
  obtain ⟨c', p', h, _⟩ := (hρ _ _).1 h
  cases h; rfl
 have hdb : ∀ s, ¬ dbC ρ s := by
  rintro s ⟨l', h⟩
  obtain ⟨c', p', h, _⟩ := (hρ _ _).1 h
  cases h
 have cw : ∀ (pl : Pl) (j : Nat) (z : CV), pl ≠ .h 0 → CW (dkC ρ) False pl j z z := by
  intro pl j z h1
  exact .inr ⟨rfl, fun _ hd => h1 (hdk _ _ hd), fun k' c' _ hd => (by have := hdk _ _ hd; cases this), fun _ h => h⟩
 have aw : ∀ (pl : Pl) (x : AV), pl ≠ .h 0 → AWk (dkC ρ) False pl x x := by
  intro pl x h
  have := AWk.map (dk := dkC ρ) (mu := False) (pl := pl) (f := id) (fun c z => cw pl c z h) x
  rwa [AV.mapC_id (f := id) (fun _ => rfl)] at this
 refine ⟨E.back E' π ρ d, rfl, hi.step hst hx.os hx.tape hx.output hx.size (fun b hlt h0 => ?_) hbk.new hbk.inj hbk.boxhw rfl (fun s hs => ⟨hs, rfl⟩)
  (fun t => .inr ⟨aw _ _ (by simp), rfl⟩) (fun s cs' hs => .inr ⟨hdb s, cs', hs, ?_⟩), zCv hold hpl (fun c p => (hρ _ _).2 ⟨c, p, rfl, rfl⟩) (hx.res.vr (zA9 hpl))⟩
 · have h2 := (hi.old b hlt h0).2.2
   have hlt2 : b < E.w.heap.size := Nat.lt_of_lt_of_le hlt hi.size
   obtain ⟨a1, a2, a3⟩ := hold b hlt2 (by simp [Env.into, h2])
   have hf : E.frame π b := ⟨hlt2, by rw [h2]; rfl⟩
   exact ⟨a1, by simp [Env.back, hf], by simp [Env.back, hf, h2]⟩
 · have := CWs.map (dk := dkC ρ) (mu := False) (pl := .k (2 * s + 1)) (f := id) (fun c z => cw _ c z (by simp)) cs' 0
   simpa using this
theorem zHQ (hi : Inv C (St.get (u ++ σ)) a.tmps E) {s i : Nat} {own : Bool} (hp : Pass π ρ d)
 (hπ : ∀ l l', π l = some l' ↔ (l = .box s ∧ l' = .box i) ∨ (own = true ∧ ∃ c p, l = .arr (.k (2 * s + 1)) c p ∧ l' = .arr (.k (2 * i + 1)) c p))
 (hρ : ∀ l' l, ρ l' = some l ↔ (l = .box s ∧ l' = .box i) ∨ (∃ c p, l = .arr (.k (2 * s + 1)) c p ∧ l' = .arr (.k (2 * i + 1)) c p) ∨ (∃ c p, l = .arr (.h 0) c p ∧ l' = .arr (.h 0) c p))
 {as : List Arg} {r : CallO} {v : Value} {cs out : List CV} (hbx : bx i = E.bx s) (hg : St.get (u ++ σ) (2 * s + 1) = .v true cs)
 (hx : ExitR (E.into π hide bx hdr) E' as r v) (hpl : r.res.plain = true) (hout : out.all CV.plain = true) (hat : zBq E' i (E.bx s) out) (hho : own = true → hide = true) :
 Hand C ((cond own [(zAe, .none)] [] ++ (2 * s + 1, .v true (cond hide out (out.map CV.rob))) :: u) ++ σ) a.tmps E'.w 0 (cond hide r.res (r.res.mapC CV.rob)) v := by
 have hold := hx.old
 have hst := zBt (mu := own = true) hp hi.env hold (fun hm b l l' h1 h2 => by
  rcases (hπ _ _).1 h2 with ⟨rfl, _⟩ | ⟨h, _⟩
  · exact hi.boxhw b s h1
  · exact absurd h hm)
 have hbk := zCA hp hi.env hx.env hx.size
 have hdk : ∀ pl c, dkC ρ pl c → pl = .h 0 ∨ pl = .k (2 * s + 1) := by
  rintro pl c ⟨p, l', h⟩
  rcases (hρ _ _).1 h with ⟨h, _⟩ | ⟨c', p', h, _⟩ | ⟨c', p', h, _⟩
  · cases h
  · cases h; exact .inr rfl
  · cases h; exact .inl rfl
 have hdb : ∀ s', dbC ρ s' → s' = s := by
  rintro s' ⟨l', h⟩
  rcases (hρ _ _).1 h with ⟨h, _⟩ | ⟨c', p', h, _⟩ | ⟨c', p', h, _⟩
  · cases h; rfl
  · cases h
  · cases h
 generalize hUdef : (cond own [(zAe, AV.none)] [] ++ (2 * s + 1, AV.v true (cond hide out (out.map CV.rob))) :: u) = U
 have hplo : ∀ z ∈ (cond hide out (out.map CV.rob)), z.stale [zAe] own = z := by
  intro z hz
  cases own with
  | true =>
    rw [hho rfl] at hz
    have := List.all_eq_true.1 hout z hz
    cases z with
    | sl f T xs => cases f <;> first | rfl | cases this
    | _ => first | rfl | cases this
  | false =>
    have hz2 : z.onKey [zAe] = false := by
     have key : ∀ y : CV, y.plain = true → y.onKey [zAe] = false ∧ y.rob.onKey [zAe] = false := by
      intro y hy
      cases y with
      | sl f T xs => cases f <;> first | exact ⟨rfl, rfl⟩ | cases hy
      | _ => first | exact ⟨rfl, rfl⟩ | cases hy
     cases hide with
     | true => exact (key z (List.all_eq_true.1 hout z hz)).1
     | false => obtain ⟨y, hy, rfl⟩ := List.mem_map.1 hz; exact (key y (List.all_eq_true.1 hout y hy)).2
    simp [CV.stale, hz2]
 have hG : ∀ q, St.get (U ++ σ) q = if own = true ∧ zAe = q then .none else if 2 * s + 1 = q then .v true (cond hide out (out.map CV.rob)) else
  (St.get (u ++ σ) q).mapC (CV.stale (cond own [zAe, 2 * s + 1] [2 * s + 1]) own) := by
  intro q
  have ne : (2 * s + 1).beq zAe = false := by
   cases h : (2 * s + 1).beq zAe with
   | false => rfl
   | true => have := Nat.eq_of_beq_eq_true h; unfold zAe at this; omega
  subst hUdef
  cases own with
  | false =>
    show St.get ((2 * s + 1, _) :: (u ++ σ)) q = _
    rw [St.get_cons]
    simp [ne]
  | true =>
    show St.get ((zAe, _) :: (2 * s + 1, _) :: (u ++ σ)) q = _
    rw [St.get_cons]
    by_cases h1 : zAe = q
    · simp [h1]
    · simp only [h1, if_false, and_false]
      rw [St.get_cons]
      by_cases h2 : 2 * s + 1 = q
      · simp only [h2, if_true]
        show AV.v true _ = _
        congr 1
        have : ∀ l : List CV, (∀ z ∈ l, z.stale [zAe] true = z) → l.map (CV.stale [zAe] true) = l := fun l hl => by
         conv => rhs; rw [← List.map_id l]
         exact List.map_congr_left hl
        exact this _ hplo
      · simp only [h2, if_false, ne]
        rw [AV.mapC_comp]
        congr 1
        funext z
        exact CV.stale_stale z (fun q => by simp [Bool.or_comm]) rfl
 have hbxs : ∀ s', zAd (St.get (u ++ σ)) s' → zAd (St.get (U ++ σ)) s' ∧ (E.back E' π ρ d).bx s' = E.bx s' := by
  intro s' hs
  refine ⟨?_, rfl⟩
  obtain ⟨ys, hys⟩ := hs
  unfold zAd
  rw [hG, if_neg (by unfold zAe; omega)]
  split
  · exact ⟨_, rfl⟩
  · rw [hys]; exact ⟨_, rfl⟩
 have cw : ∀ (pl : Pl) (j : Nat) (z : CV), pl ≠ .h 0 → pl ≠ .k (2 * s + 1) → CW (dkC ρ) (own = true) pl j (z.stale (cond own [zAe, 2 * s + 1] [2 * s + 1]) own) z := by
  intro pl j z h1 h2
  refine CW.stale (fun _ hd => ?_) (fun k' c' hd => ?_) (fun h => h)
  · rcases hdk _ _ hd with h | h
    · exact h1 h
    · exact h2 h
  · rcases hdk _ _ hd with h | h
    · cases h
    · cases h; cases own <;> simp
 refine ⟨E.back E' π ρ d, rfl, hi.step hst hx.os hx.tape hx.output hx.size (fun b hlt h0 => ?_) hbk.new hbk.inj hbk.boxhw rfl hbxs
  (fun t => .inr ⟨?_, rfl⟩) (fun s' cs' hs => ?_), zCv hold hpl (fun c p => (hρ _ _).2 (.inr (.inr ⟨c, p, rfl, rfl⟩))) (hx.res.vr (zA9 hpl))⟩
 · have h2 := (hi.old b hlt h0).2.2
   have hlt2 : b < E.w.heap.size := Nat.lt_of_lt_of_le hlt hi.size
   obtain ⟨a1, a2, a3⟩ := hold b hlt2 (by simp [Env.into, h2])
   have hf : E.frame π b := ⟨hlt2, by rw [h2]; rfl⟩
   exact ⟨a1, by simp [Env.back, hf], by simp [Env.back, hf, h2]⟩
 · rw [hG]
   split
   · trivial
   · rw [if_neg (by omega)]
     exact AWk.map (fun c z => cw _ c z (by simp) (by simp; omega)) _
 · rw [hG, if_neg (by unfold zAe; omega)] at hs
   by_cases hss : s' = s
   · subst hss
     rw [if_pos rfl] at hs
     injection hs with _ hs
     subst hs
     obtain ⟨h1, vals, ty, h2, h3⟩ := hat
     refine .inl ⟨(zAR hold h1 ((hρ _ _).2 (.inl ⟨rfl, rfl⟩))).1, vals, ty, h2, ?_⟩
     have key : VRs (E.back E' π ρ d) (zAd (St.get (U ++ σ))) (.k (2 * s' + 1)) 0 (out.map fun x => cond hide x x.rob) vals.toList :=
      VRs.imp (fun j x v hx hv => zBs hold (List.all_eq_true.1 hout x hx) (fun p => (hρ _ _).2 (.inr (.inl ⟨_, p, rfl, rfl⟩))) hv) h3
     have e : (out.map fun x => cond hide x x.rob) = cond hide out (out.map CV.rob) := by cases hide <;> simp
     rwa [e] at key
   · rw [if_neg (by omega)] at hs
     cases hq : St.get (u ++ σ) (2 * s' + 1) with
     | v g' cs0 =>
       rw [hq] at hs
       injection hs with hs1 hs2
       subst hs1 hs2
       exact .inr ⟨fun h => hss (hdb _ h), cs0, rfl, CWs.map (fun c z => cw _ c z (by simp) (by simp; omega)) _ _⟩
     | tup xs => rw [hq] at hs; cases hs
     | none => rw [hq] at hs; cases hs
end
end Go.Ab
end
section
namespace Go.Ab
variable [Inhabited Lb]
theorem zEy {P : Program} {ρ : Operand → Value} {o : Oper} {w : World} {c : Call} {f : FuncId} (h : o.op = .call c) (hc : c.callee = .value (.func f)) (hρ : ρ (.func f) = .func (.func f) #[] #[]) :
 (execOp ρ o).run P w = (callFunc f (c.args.map ρ)).run P w := by
 unfold execOp; rw [h]
 show ((resolve ρ c o.type >>= fun d => invoke d.target d.args) : Sem Next).run P w = _
 simp only [resolve, hc, hρ, Deferred.ofValue, Sem.run_bind, Sem.run_pure, Result.andThen_ok, invoke, Array.append_empty, Array.empty_append]
section
variable {C : Ctx} {σ : St} {a : Act} {E E' : Env} {u u' : Ups} {tt : TT} {o : Oper} {md : Md} {v : AV} {ob : List Prop}
def zEl (C : Ctx) (σ : St) (a : Act) (w : World) (c : Call) (f : FuncId) (v : AV) : Prop :=
 Does C.P f (c.args.map a.eval) w fun val w' => Hand C σ a.tmps w' 0 v val
theorem zA2 (a : Act) (c : Call) : (c.args.map a.eval).toList = c.args.toList.map a.eval := by simp
theorem zB3 {w : World} (hi : Inv C (St.get (u ++ σ)) a.tmps E) (hw : E.w = w) {c : Call} {f : FuncId} {r : CallO} (hpl : r.plain = true)
 {p : List Arg × List Nat} (hA : ArgsOk E (St.get (u ++ σ)) p.1 p.2 (c.args.toList.map a.eval)) (h : Mr (match r.lents with
   | [] => cond (zAs p.1)
     (cond (zBg p.1) bad ((zBl false p.2 (r.outs.map (·.map CV.rob))).bind fun _ => M.pure (r.res.mapC CV.rob, [AbsCalls C.P f (p.1.map Arg.toRo) r])))
     ((zBl (zBg p.1) p.2 r.outs).bind fun _ => M.pure (r.res, [AbsCalls C.P f (p.1.map Arg.toRo) r]))
   | _ => bad) σ u = some ((v, ob), u')) (hob : ∀ q ∈ ob, q) : zEl C (u' ++ σ) a w c f v := by
 subst hw
 obtain ⟨hpr, hpo⟩ : r.res.plain = true ∧ r.outs.all (·.all CV.plain) = true := by simpa [CallO.plain] using hpl
 obtain ⟨as, ks⟩ := p
 dsimp only at hA h
 split at h
 case h_2 => exact (zAb h).elim
 obtain ⟨hide, own, outs', hform, hcon, hho, hbo, hown⟩ : ∃ (hide own : Bool) (outs' : List (List CV)), Mr (zBl own ks outs') σ u = some ((), u') ∧ (AbsCalls C.P f (as.map Arg.toRo) r ∧ v = cond hide r.res (r.res.mapC CV.rob) ∧
  outs' = r.outs.map fun x => cond hide x (x.map CV.rob)) ∧ (own = true → hide = true) ∧ (zAs as = true → hide = false ∧ own = false) ∧ (zBg as = true → own = true) := by
  cases hb : zAs as with
  | true =>
    rw [hb] at h
    simp only [jT] at h
    cases hO : zBg as with
    | true => rw [hO] at h; exact (zAb h).elim
    | false =>
      rw [hO] at h
      simp only [jF] at h
      obtain ⟨_, u1, h1, h2⟩ := zAa h
      obtain ⟨e, rfl⟩ := zAc h2
      cases e
      exact ⟨false, false, _, h1, ⟨hob _ (List.mem_singleton.2 rfl), rfl, by simp⟩, by simp, by simp, by simp⟩
  | false =>
    rw [hb] at h
    simp only [jF] at h
    obtain ⟨_, u1, h1, h2⟩ := zAa h
    obtain ⟨e, rfl⟩ := zAc h2
    cases e
    exact ⟨true, zBg as, _, h1, ⟨hob _ (List.mem_singleton.2 rfl), rfl, by simp⟩, by simp, by simp, by simp⟩
 obtain ⟨hcon, rfl, rfl⟩ := hcon
 unfold zBl at hform
 split at hform
 ·
  rename_i houts
  obtain ⟨_, rfl⟩ := zAc hform
  obtain ⟨π, ρ, d, hp, hπ, hρ⟩ := zHk
  have hargs : ArgsAt (E.into π hide E.bx E.hdr) 0 (as.map Arg.toRo) (c.args.map a.eval).toList := by
   rw [zA2]
   exact zDf hi hA (fun hb => ⟨(hbo hb).1, fun k c p => hπ _⟩) (fun s hs i cs hg => by cases hs) (fun s hs => by cases hs)
  refine (hcon (E.into π hide E.bx E.hdr) _ (zCj hp hi.env) (zBb hi.bas) hargs).mono fun val w' hr => ?_
  obtain ⟨E', rfl, hx⟩ := hr
  exact zGU hi hp hπ hρ hx hpr
 ·
  rename_i s out houts
  obtain ⟨old, u1, h1, h2⟩ := zAa hform
  unfold boxK at h1
  obtain ⟨b2, u4, h7, h8⟩ := zAa h1
  obtain ⟨rfl, rfl⟩ := zAl h7
  have h8' : St.get (u4 ++ σ) (2 * s + 1) = .v true old ∧ u1 = u4 := by
   split at h8
   · rename_i hg; obtain ⟨rfl, rfl⟩ := zAc h8; exact ⟨hg, rfl⟩
   · exact (zAb h8).elim
  obtain ⟨hg, rfl⟩ := h8'
  obtain ⟨hlen, h2⟩ := zAi h2
  obtain ⟨_, u5, h9, h10⟩ := zAa h2
  obtain rfl := zAj h9
  have hu : u' = cond own [(zAe, AV.none)] [] ++ (2 * s + 1, .v true out) :: u1 := by
   cases own with
   | true => simp only [jT] at h10; obtain rfl := zAj h10; rfl
   | false => simp only [jF] at h10; obtain ⟨_, rfl⟩ := zAc h10; rfl
  obtain ⟨_, i, cs, hasi⟩ := hA.has s (List.mem_singleton.2 rfl)
  obtain ⟨π, ρ, d, hp, hπ, hρ⟩ := zId s i own
  have hpos : ∀ (i' : Nat) (cs' : List CV), as[i']? = some (.box cs') → i' = i := fun i' cs' h => hA.one i' i cs' cs h hasi
  have hargs : ArgsAt (E.into π hide (fun _ => E.bx s) E.hdr) 0 (as.map Arg.toRo) (c.args.map a.eval).toList := by
   rw [zA2]
   refine zDf hi hA (fun hb => ⟨(hbo hb).1, fun k c p => ?_⟩) (fun s' hs i' cs' hg' => ?_) (fun s' hs i' => ?_)
   · cases hq : π (.arr k c p) with
     | none => rfl
     | some l =>
       rcases (hπ _ _).1 hq with ⟨h, _⟩ | ⟨h, _⟩
       · cases h
       · rw [(hbo hb).2] at h; cases h
   · cases hs
     obtain rfl := hpos _ _ hg'
     exact ⟨(hπ _ _).2 (.inl ⟨rfl, rfl⟩), fun ho c p => (hπ _ _).2 (.inr ⟨hown ho, c, p, rfl, rfl⟩)⟩
   · cases hs; rfl
  refine (hcon (E.into π hide (fun _ => E.bx s) E.hdr) _ (zCj hp hi.env) (zBb hi.bas) hargs).mono fun val w' hr => ?_
  obtain ⟨E', rfl, hx⟩ := hr
  obtain ⟨o, ho1, ho2⟩ := zDQ (cs := cs.map CV.toBx) hx.outs (j := i) (by rw [List.getElem?_map, hasi]; rfl) (fun i' cs' => ⟨fun h => by
   rw [List.getElem?_map, Option.map_eq_some_iff] at h
   obtain ⟨y, hy, e⟩ := h
   cases y with
   | val x => cases e
   | gbox x => cases e
   | box y => exact hpos i' y hy, fun h => by
   rw [List.getElem?_map, Option.map_eq_some_iff] at h
   obtain ⟨y, hy, e⟩ := h
   cases y with
   | val x => cases e
   | box x => cases e
   | gbox x => exact hA.ng i' x hy⟩)
  rw [ho1] at houts hpo
  simp only [List.map_cons, List.map_nil, List.cons.injEq, and_true] at houts
  rw [hu, ← houts]
  rw [Nat.zero_add] at ho2
  exact zHQ hi (own := own) hp hπ hρ rfl hg hx hpr (by simpa using hpo) ho2 hho
 · exact (zAb hform).elim
end
end Go.Ab
end
section
namespace Go.Ab
variable [Inhabited Lb]
theorem zIf (s i : Nat) : ∃ π ρ d, Pass π ρ d ∧ (∀ l, π l = none) ∧
 (∀ l' l, ρ l' = some l ↔ (l = .box s ∧ l' = .box i) ∨ ∃ c p, l = .arr (.k (2 * s + 1)) c p ∧ l' = .arr (.k (2 * i + 1)) c p) := by
 obtain ⟨π, ρ, d, h1, h2, h3⟩ := Pass.of_rel (fun _ _ => False) (fun l l' => (l = .box s ∧ l' = .box i) ∨ ∃ c p, l = .arr (.k (2 * s + 1)) c p ∧ l' = .arr (.k (2 * i + 1)) c p) (by simp) (by simp)
  (by rintro l a b (⟨rfl, rfl⟩ | ⟨c, p, rfl, rfl⟩) (⟨h, rfl⟩ | ⟨c', p', h, rfl⟩) <;> first | rfl | (cases h; rfl) | cases h)
  (by rintro a b l (⟨rfl, rfl⟩ | ⟨c, p, rfl, rfl⟩) (⟨rfl, h⟩ | ⟨c', p', rfl, h⟩) <;> first | rfl | (cases h; rfl) | cases h) (by simp)
  (by rintro l j (⟨rfl, h⟩ | ⟨c, p, rfl, h⟩)
      · exact ⟨s, rfl⟩
      · cases h) (by rintro j l (⟨h, rfl⟩ | ⟨c, p, h, rfl⟩)
                     · exact ⟨i, rfl⟩
                     · cases h)
 exact ⟨π, ρ, d, h1, fun l => by cases h : π l with | none => rfl | some x => exact ((h2 l x).1 h).elim, h3⟩
section
variable {C : Ctx} {σ : St} {a : Act} {E E' : Env} {u u' : Ups} {tt : TT} {π ρ d : Own → Option Own} {hide : Bool} {bx : Nat → Nat} {hdr : Nat → Value}
def Env.rebx (E : Env) (s b : Nat) : Env := { E with bx := fun s' => if s' = s then b else E.bx s' }
theorem zHp (E : Env) (s b : Nat) : Step E (E.rebx s b) (fun _ _ => False) (fun s' => s' = s) False where
 ro := fun b hb => ⟨fun _ => hb, fun o ho => ⟨rfl, ho⟩⟩
 own := fun b k c p hb _ => ⟨hb, rfl, rfl⟩
 bor := fun _ b o ho => ⟨rfl, ho⟩
 box := fun s' hs hd => ⟨by simp [Env.rebx, hd], hs, rfl⟩
 hdr := rfl
theorem zHP (hi : Inv C (St.get (u ++ σ)) a.tmps E) {s m : Nat} (hp : Pass π ρ d) (hπ : ∀ l, π l = none)
 (hρ : ∀ l' l, ρ l' = some l ↔ (l = .box s ∧ l' = .box m) ∨ ∃ c p, l = .arr (.k (2 * s + 1)) c p ∧ l' = .arr (.k (2 * m + 1)) c p)
 {as : List Arg} {r : CallO} {v : Value} {cs : List CV} (hg : St.get (u ++ σ) (2 * s + 1) = .none) (hx : ExitR (E.into π hide bx hdr) E' as r v) (hpl : cs.all CV.plain = true)
 {b : Nat} (hat : zBq E' m b cs) :
 Hand C (((2 * s + 1, .v true (cond hide cs (cs.map CV.rob))) :: u) ++ σ) a.tmps E'.w 0 (.v false [.ptr s 0]) (.pointer (some ⟨b, 0, none⟩)) := by
 have hold := hx.old
 have hst := zBt (mu := False) hp hi.env hold (fun _ b l l' _ h2 => by rw [hπ] at h2; cases h2)
 have hbk := zCA hp hi.env hx.env hx.size
 have hdk : ∀ pl c, dkC ρ pl c → pl = .k (2 * s + 1) := by
  rintro pl c ⟨p, l', h⟩
  rcases (hρ _ _).1 h with ⟨h, _⟩ | ⟨c', p', h, _⟩
  · cases h
  · cases h; rfl
 have hdb : ∀ s', dbC ρ s' → s' = s := by
  rintro s' ⟨l', h⟩
  rcases (hρ _ _).1 h with ⟨h, _⟩ | ⟨c', p', h, _⟩
  · cases h; rfl
  · cases h
 have st2 := zHp (E.back E' π ρ d) s b
 have st := (hst.trans st2).imp (dk' := fun pl _ => pl = .k (2 * s + 1)) (db' := fun s' => s' = s) (mu' := False) (fun k c h => h.elim (hdk _ _) fun h => h.elim) (fun s' h => h.elim (hdb _) id) (fun h => h.elim id id)
 have hnb : ¬ zAd (St.get (u ++ σ)) s := by rintro ⟨cs, h⟩; rw [hg] at h; cases h
 have hd : zAd (St.get (((2 * s + 1, .v true (cond hide cs (cs.map CV.rob))) :: u) ++ σ)) s := ⟨_, by show St.get ((2 * s + 1, _) :: (u ++ σ)) _ = _; rw [St.get_cons, if_pos rfl]⟩
 have hbx : ∀ s', zAd (St.get (u ++ σ)) s' → zAd (St.get (((2 * s + 1, .v true (cond hide cs (cs.map CV.rob))) :: u) ++ σ)) s' ∧ ((E.back E' π ρ d).rebx s b).bx s' = E.bx s' := by
  intro s' hs'
  have : s' ≠ s := by rintro rfl; exact hnb hs'
  exact ⟨zAF (by intro e; exact this (by omega)) hs', by simp [Env.rebx, this, Env.back]⟩
 refine ⟨(E.back E' π ρ d).rebx s b, rfl, hi.step st hx.os hx.tape hx.output hx.size (fun b' hlt h0 => ?_) hbk.new hbk.inj hbk.boxhw rfl hbx
  (fun t => .inr ⟨?_, rfl⟩) (fun s' cs2 hs => ?_), ⟨by simp [Env.rebx], hd⟩, trivial⟩
 · have h2 := (hi.old b' hlt h0).2.2
   have hlt2 : b' < E.w.heap.size := Nat.lt_of_lt_of_le hlt hi.size
   obtain ⟨a1, a2, a3⟩ := hold b' hlt2 (by simp [Env.into, h2])
   have hf : E.frame π b' := ⟨hlt2, by rw [h2]; rfl⟩
   exact ⟨a1, by simp [Env.rebx, Env.back, hf], by simp [Env.rebx, Env.back, hf, h2]⟩
 · show AWk _ _ _ (St.get ((2 * s + 1, _) :: (u ++ σ)) _) _
   rw [St.get_cons, if_neg (by omega)]
   refine AWk.map (fun c x => CW.stale (fun _ hd => ?_) (fun k c hd => ?_) (fun h => h.elim)) _
   · injection hd with hd; omega
   · injection hd with hd; simp [hd]
 · by_cases e : s' = s
   · subst e
     have e1 : St.get ((2 * s' + 1, .v true (cond hide cs (cs.map CV.rob))) :: (u ++ σ)) (2 * s' + 1) = .v true cs2 := hs
     rw [St.get_cons, if_pos rfl] at e1
     injection e1 with _ e1
     subst e1
     obtain ⟨h1, vals, ty, h2, h3⟩ := hat
     refine .inl ⟨?_, vals, ty, ?_, ?_⟩
     · have := (zAR (E := E) (π := π) (hide := hide) (bx := bx) (hdr := hdr) (d := d) hold h1 ((hρ _ _).2 (.inl ⟨rfl, rfl⟩))).1
       have e : ((E.back E' π ρ d).rebx s' b).bx s' = b := by simp [Env.rebx]
       rw [e]
       exact this
     · have e : ((E.back E' π ρ d).rebx s' b).bx s' = b := by simp [Env.rebx]
       rw [e]
       exact h2
     · have key : VRs ((E.back E' π ρ d).rebx s' b) (zAd (St.get (((2 * s' + 1, .v true (cond hide cs (cs.map CV.rob))) :: u) ++ σ))) (.k (2 * s' + 1)) 0 (cs.map fun x => cond hide x x.rob) vals.toList :=
        VRs.imp (fun j x v hx hv => VRc.step st2 (fun s hs => hs.elim) (by simp) (by simp) (by simp) (zBs (bxs := fun _ => False) hold (List.all_eq_true.1 hpl x hx) (fun p => (hρ _ _).2 (.inr ⟨_, p, rfl, rfl⟩)) hv)) h3
       have e : (cs.map fun x => cond hide x x.rob) = cond hide cs (cs.map CV.rob) := by cases hide <;> simp
       rwa [e] at key
   · obtain ⟨cs0, hc, rfl⟩ := zBC (by omega) hs
     refine .inr ⟨e, cs0, hc, CWs.map (fun c x => CW.stale (fun _ hd => ?_) (fun k c hd => ?_) (fun h => h.elim)) _ _⟩
     · injection hd with hd; omega
     · injection hd with hd; simp [hd]
theorem zGx {w : World} {o : Oper} {v : AV} {ob : List Prop} (hi : Inv C (St.get ([] ++ σ)) a.tmps E) (hw : E.w = w) {c : Call} {f : FuncId} {r : CallO} {cs : List CV} (hn : r.res.nbox = some cs)
 (h : Mr (zFo tt (AbsCalls C.P) o.dst c f r cs) σ [] = some ((v, ob), u)) (hob : ∀ q ∈ ob, q) : zEl C (u ++ σ) a w c f v := by
 subst hw
 unfold zFo at h
 split at h
 case h_2 => exact (zAb h).elim
 rename_i dd hdst houts hlents
 obtain ⟨hpl, h⟩ := zAi h
 obtain ⟨p, u1, h1, h2⟩ := zAa h
 obtain ⟨rfl, hA⟩ := zA7 hi _ _ _ _ h1
 split at h2
 case h_2 => exact (zAb h2).elim
 rename_i hks
 obtain ⟨y, u2, h3, h4⟩ := zAa h2
 obtain ⟨rfl, rfl⟩ := zAl h3
 split at h4
 case h_2 => exact (zAb h4).elim
 rename_i hg
 obtain ⟨_, u3, h5, h6⟩ := zAa h4
 obtain rfl := zAj h5
 obtain ⟨e, rfl⟩ := zAc h6
 cases e
 have hcon : AbsCalls C.P f (p.1.map Arg.toRo) r := hob _ (List.mem_singleton.2 rfl)
 obtain ⟨π, ρ, d, hp, hπ, hρ⟩ := zIf dd (p.1.map Arg.toRo).length
 have hargs : ArgsAt (E.into π (!zAs p.1) E.bx E.hdr) 0 (p.1.map Arg.toRo) (c.args.map a.eval).toList := by
  rw [zA2]
  exact zDf hi hA (fun hb => ⟨by rw [hb]; rfl, fun k c p => hπ _⟩) (fun s hs i cs hg => by rw [hks] at hs; cases hs) (fun s hs => by rw [hks] at hs; cases hs)
 refine (hcon (E.into π (!zAs p.1) E.bx E.hdr) _ (zCj hp hi.env) (zBb hi.bas) hargs).mono fun val w' hr => ?_
 obtain ⟨E', rfl, hx⟩ := hr
 have hres := hx.res
 unfold ResAt at hres
 rw [hn] at hres
 obtain ⟨b, rfl, hat⟩ := hres
 have := zHP hi hp hπ hρ hg hx hpl hat
 have e : (cond (!zAs p.1) cs (cs.map CV.rob)) = cond (zAs p.1) (cs.map CV.rob) cs := by cases zAs p.1 <;> rfl
 rw [e] at this
 exact this
end
end Go.Ab
end
section
namespace Go.Ab
variable [Inhabited Lb]
theorem zD0 {E E' : Env} {bxs bxs' : Nat → Prop} {dk : Pl → Nat → Prop} {db : Nat → Prop} {pl : Pl} {b : AV} {v : Value} (h : Step E E' dk db False) (hbx : ∀ s, bxs s → bxs' s ∧ E'.bx s = E.bx s) (hb : b.mvOk = true)
 (hd : ∀ c, ¬ dk pl c) (hv : VR E bxs pl b v) : VR E' bxs' pl b v := by
 refine AWk.vr h hbx ?_ hv
 have cw : ∀ (c : Nat) (x : CV), x.mvOk = true → CW dk False pl c x x := fun c x hx => .inr ⟨rfl, fun _ => hd c, fun k' c' hs => by
  cases x with
  | sl f T xs => cases f <;> first | exact hs.elim | cases hx
  | eref k c p i T y off => cases hx
  | apd k c p T y => cases hx
  | _ => exact hs.elim, fun _ h => h⟩
 cases b with
 | v g cs =>
   refine ⟨cs, rfl, ?_⟩
   have hall : ∀ x ∈ cs, x.mvOk = true := List.all_eq_true.1 hb
   generalize 0 = c
   clear hv hb
   induction cs generalizing c with
   | nil => exact .nil
   | cons x cs ih => exact .cons (cw c x (hall x List.mem_cons_self)) (ih (fun y hy => hall y (List.mem_cons_of_mem _ hy)) _)
 | tup xs => cases hb
 | none => cases hb
section
variable {C : Ctx} {σ : St} {a : Act} {E : Env} {u u' : Ups} {tt : TT}
def zDN (n : Nat) : Own → Option Own
 | .arr (.h j) c (x :: p) => if j = n then none else some (.arr (.h j) c (x :: p))
 | l => some l
theorem zIa (n : Nat) : RhoOk (zDN n) (fun pl _ => pl = .h n) where
 box := fun _ => rfl
 id := fun k c p h => by
  unfold zDN
  split
  · rename_i j c' x p' e
    injection e with e1 e2 e3
    rw [if_neg (fun e => h (by rw [e1, e]))]
    rw [e1, e2, e3]
  · rfl
 inj := fun l1 l2 l h1 h2 => by
  unfold zDN at h1 h2
  split at h1 <;> split at h2 <;> (repeat' split at h1) <;> (repeat' split at h2) <;> simp_all
 arr := fun k c p s => by
  unfold zDN
  split
  · split <;> simp
  · rename_i h; intro e; cases e
theorem zIQ {G : Nat → AV} {tmps : Array Value} {n : Nat} {b : AV} {v : Value} (hi : Inv C G tmps E) (hok : b.mvOk = true) (hv : VR E (zAd G) (.h n) b v) :
 ∃ E', E'.w = E.w ∧ E'.bx = E.bx ∧ Step E E' (fun pl _ => pl = .h n) (fun _ => False) False ∧ Inv C G tmps E' ∧ VR E' (zAd G) (.h n) (b.mapC CV.toTip) v := by
 have hr := zIa n
 have hst := zB9 (E := E) hr
 have cw : ∀ (q c : Nat) (x : CV), CW (fun pl _ => pl = .h n) False (.k q) c x x := fun q c x => .inr ⟨rfl, fun _ (h : Pl.k q = .h n) => (by cases h), fun k' c' _ (h : Pl.k k' = .h n) => (by cases h), fun _ h => h⟩
 refine ⟨E.rel (zDN n), rfl, rfl, hst, hi.rel hr rfl (fun s hs => hs) (fun t => .inr ⟨?_, rfl⟩) (fun s cs' hs => .inr ⟨cs', hs, ?_⟩), ?_⟩
 · have := AWk.map (dk := fun pl _ => pl = .h n) (mu := False) (pl := .k (2 * t)) (f := id) (fun c x => cw _ c x) (G (2 * t))
   rwa [AV.mapC_id (f := id) (fun _ => rfl)] at this
 · have := CWs.map (dk := fun pl _ => pl = .h n) (mu := False) (pl := .k (2 * s + 1)) (f := id) (fun c x => cw _ c x) cs' 0
   simpa using this
 · refine VR.imp (fun j x v hx hv => ?_) hv
   have hxo : x.mvOk = true := by
    cases b with
    | v g cs => exact List.all_eq_true.1 hok x hx
    | tup xs => cases hok
    | none => cases hok
   have tip : ∀ {v : Value} {sz : Nat}, Tip E (.arr (.h n) j []) v sz → Tip (E.rel (zDN n)) (.arr (.h n) j []) v sz := fun h => h.rel (f := zDN n) rfl
   have top : ∀ {b : Nat}, E.ow b = some (.arr (.h n) j []) → (E.rel (zDN n)).ow b = some (.arr (.h n) j []) := fun {b} h => by simp [Env.rel, h, zDN]
   cases x with
   | sl f T xs =>
     cases f with
     | ro => exact RdP.mono hv (fun p b o ho => ⟨rfl, ho.1, by simp [Env.rel, ho.2]⟩) (fun _ _ _ _ => trivial)
     | own =>
       refine RdP.mono hv (fun p b o ho => ⟨rfl, ho.1, fun hp => ?_, fun hp => ?_⟩) (fun p v sz ht hp => ?_)
       · subst hp; exact top ho.2
       · cases p with
         | nil => exact absurd rfl hp
         | cons y p => simp [Env.rel, ho.2, zDN]
       · subst hp; exact tip ht
     | tip =>
       refine RdP.mono hv (fun p b o ho => ⟨rfl, ho.1, fun hp => by subst hp; exact top (ho.2.1 rfl), fun hp => by simp [Env.rel, ho.2.2 hp]⟩) (fun p v sz ht hp => ?_)
       have := ht hp
       subst hp; exact tip this
     | _ => cases hxo
   | ptr s off => cases hxo
   | clo k ss => cases hxo
   | swp sf n h0 s => cases hxo
   | eptr f T x off => cases hxo
   | eref k c p i T x off => cases hxo
   | apd k c p T xs => cases hxo
   | int k m => exact hv
   | bool b => exact hv
   | str s => exact hv
   | val s => exact hv
   | undef => exact hv
theorem zIl {b : AV} (h : b.mvOk = true) : (b.mapC CV.toTip).mvOk = true := by
 cases b with
 | v g cs =>
   refine List.all_eq_true.2 fun x hx => ?_
   obtain ⟨y, hy, rfl⟩ := List.mem_map.1 hx
   have := List.all_eq_true.1 h y hy
   cases y with
   | sl f T xs => cases f <;> first | rfl | exact this
   | _ => exact this
 | tup xs => cases h
 | none => cases h
theorem zEO (hi : Inv C (St.get (u ++ σ)) a.tmps E) : ∀ (xs : List Operand) (tys : List TypeId) (i : Nat) (ms : List (Option AV)) (u' : Ups), Mr (zFj tt xs tys) σ u = some (ms, u') →
 ms.length = xs.length ∧ (ms.all Option.isNone = true → u' = u) ∧ ∃ E1, E1.w = E.w ∧ E1.bx = E.bx ∧ Inv C (St.get (u' ++ σ)) a.tmps E1 ∧
  ∀ j b, ms[j]? = some (some b) → b.mvOk = true ∧ ∃ x, xs[j]? = some x ∧ VR E1 (zAd (St.get (u' ++ σ))) (.h (i + j + 1)) b (a.eval x) := by
 intro xs
 induction xs with
 | nil =>
   intro tys i ms u' h
   obtain ⟨rfl, rfl⟩ := zAc h
   exact ⟨rfl, fun _ => rfl, E, rfl, rfl, hi, fun j b h => by simp at h⟩
 | cons x xs ih =>
   intro tys i ms u' h
   obtain ⟨r, u1, h1, h2⟩ := zAa h
   obtain ⟨g1, g2, E1, g3, g4, g5, g6⟩ := ih _ (i + 1) r u1 h1
   obtain ⟨q, u2, h3, h4⟩ := zAa h2
   have hu : u2 = u1 := by
    unfold movs at h3
    split at h3
    · obtain ⟨_, u3, h5, h6⟩ := zAa h3
      obtain ⟨_, rfl⟩ := zAl h5
      exact (zAc h6).2
    · exact (zAc h3).2
    · exact (zAc h3).2
   subst hu
   cases q with
   | false =>
     obtain ⟨rfl, rfl⟩ := zAc h4
     refine ⟨by simp [g1], fun hn => g2 (by simpa using hn), E1, g3, g4, g5, fun j b hj => ?_⟩
     cases j with
     | zero => simp at hj
     | succ j =>
       obtain ⟨p1, y, p2, p3⟩ := g6 j b (by simpa using hj)
       exact ⟨p1, y, by simpa using p2, by rw [show i + (j + 1) + 1 = i + 1 + j + 1 from by omega]; exact p3⟩
   | true =>
     rw [jT] at h4
     obtain ⟨b, u3, h5, h6⟩ := zAa h4
     obtain ⟨hok, h6⟩ := zAi h6
     obtain ⟨e, rfl⟩ := zAc h6
     subst e
     obtain ⟨E2, e1, e2, e3, e4, e5, e6⟩ := zBk g5 (i + 1) h5
     obtain ⟨E3, f1, f2, f3, f4, f5⟩ := zIQ e4 hok e5
     refine ⟨by simp [g1], fun hn => by simp at hn, E3, f1.trans (e1.trans g3), f2.trans (e2.trans g4), f4, fun j b' hj => ?_⟩
     cases j with
     | zero =>
       simp at hj; subst hj
       exact ⟨zIl hok, x, rfl, f5⟩
     | succ j =>
       obtain ⟨p1, y, p2, p3⟩ := g6 j b' (by simpa using hj)
       refine ⟨p1, y, by simpa using p2, ?_⟩
       rw [show i + (j + 1) + 1 = i + 1 + j + 1 from by omega]
       refine zD0 f3 (fun s hs => ⟨hs, by rw [f2]⟩) p1 (fun c hd => ?_) (zD0 e3 (fun s hs => ⟨e6 s hs, by rw [e2]⟩) p1 (fun c hd => ?_) p3)
       · injection hd with hd; omega
       · rcases hd with ⟨t', _, hd⟩ | hd
         · cases hd
         · injection hd with hd; omega
theorem zBF : ∀ {as : List Arg} {ms : List (Option AV)} {j : Nat} {x : Arg} {m : Option AV}, as[j]? = some x → ms[j]? = some m → (zA4 as ms)[j]? = some (match m with | some b => .val b | none => x.toRo) := by
 intro as
 induction as with
 | nil => intro ms j x m h; simp at h
 | cons y as ih =>
   intro ms j x m h1 h2
   cases ms with
   | nil => simp at h2
   | cons n ms =>
     cases j with
     | zero =>
       simp at h1 h2; subst h1 h2
       cases n <;> rfl
     | succ j =>
       have := ih (by simpa using h1) (by simpa using h2)
       cases n <;> simpa [zA4] using this
theorem zBG : ∀ {as : List Arg} {ms : List (Option AV)}, as.length = ms.length → (zA4 as ms).length = as.length := by
 intro as
 induction as with
 | nil => intro ms h; cases ms <;> simp_all [zA4]
 | cons y as ih =>
   intro ms h
   cases ms with
   | nil => simp at h
   | cons n ms =>
     have := ih (ms := ms) (by simpa using h)
     cases n <;> simp [zA4, this]
theorem zHj (b : Bool) (s i : Nat) : ∃ π ρ d, Pass π ρ d ∧
 (∀ l l', π l = some l' ↔ (b = true ∧ l = .box s ∧ l' = .box i) ∨ (b = true ∧ ∃ c p, l = .arr (.k (2 * s + 1)) c p ∧ l' = .arr (.k (2 * i + 1)) c p) ∨ (∃ j c p, l = .arr (.h (j + 1)) c p ∧ l' = .arr (.k (2 * j)) c p)) ∧
 (∀ l' l, ρ l' = some l ↔ (b = true ∧ l = .box s ∧ l' = .box i) ∨ (b = true ∧ ∃ c p, l = .arr (.k (2 * s + 1)) c p ∧ l' = .arr (.k (2 * i + 1)) c p) ∨ (∃ j c p, l = .arr (.h (j + 1)) c p ∧ l' = .arr (.k (2 * j)) c p) ∨ (∃ c p, l = .arr (.h 0) c p ∧ l' = .arr (.h 0) c p)) := by
 refine Pass.of_rel _ _ ?_ ?_ ?_ ?_ ?_ ?_ ?_
 · rintro l a b (⟨_, rfl, rfl⟩ | ⟨_, c, p, rfl, rfl⟩ | ⟨j, c, p, rfl, rfl⟩) (⟨_, h, rfl⟩ | ⟨_, c', p', h, rfl⟩ | ⟨j', c', p', h, rfl⟩) <;> first | rfl | cases h; first | rfl | skip
 · rintro a b l (⟨_, rfl, rfl⟩ | ⟨_, c, p, rfl, rfl⟩ | ⟨j, c, p, rfl, rfl⟩) (⟨_, rfl, h⟩ | ⟨_, c', p', rfl, h⟩ | ⟨j', c', p', rfl, h⟩) <;> first | rfl | (injection h with h1 h2 h3; injection h1 with h1; first | (exfalso; omega) | (obtain rfl : j = j' := (by omega); subst h2 h3; rfl) | (subst h2 h3; rfl)) | cases h
 · rintro l a b (⟨_, rfl, rfl⟩ | ⟨_, c, p, rfl, rfl⟩ | ⟨j, c, p, rfl, rfl⟩ | ⟨c, p, rfl, rfl⟩) (⟨_, h, rfl⟩ | ⟨_, c', p', h, rfl⟩ | ⟨j', c', p', h, rfl⟩ | ⟨c', p', h, rfl⟩) <;> first | rfl | cases h; first | rfl | skip
 · rintro a b l (⟨_, rfl, rfl⟩ | ⟨_, c, p, rfl, rfl⟩ | ⟨j, c, p, rfl, rfl⟩ | ⟨c, p, rfl, rfl⟩) (⟨_, rfl, h⟩ | ⟨_, c', p', rfl, h⟩ | ⟨j', c', p', rfl, h⟩ | ⟨c', p', rfl, h⟩) <;> first | rfl | (injection h with h1 h2 h3; injection h1 with h1; first | (exfalso; omega) | (obtain rfl : j = j' := (by omega); subst h2 h3; rfl) | (subst h2 h3; rfl)) | cases h
 · rintro a b (h | h | h)
   · exact .inl h
   · exact .inr (.inl h)
   · exact .inr (.inr (.inl h))
 · rintro l j (⟨_, rfl, h⟩ | ⟨_, c, p, rfl, h⟩ | ⟨j', c, p, rfl, h⟩ | ⟨c, p, rfl, h⟩)
   · exact ⟨s, rfl⟩
   · cases h
   · cases h
   · cases h
 · rintro j l (⟨_, h, rfl⟩ | ⟨_, c, p, h, rfl⟩ | ⟨j', c, p, h, rfl⟩ | ⟨c, p, h, rfl⟩)
   · exact ⟨i, rfl⟩
   · cases h
   · cases h
   · cases h
theorem zFm : ∀ {as : List Arg} {ms : List (Option AV)} {j : Nat} {cs : List CV} {m : Option AV}, zDu as ms = true → as[j]? = some (.box cs) → ms[j]? = some m → m = none := by
 intro as
 induction as with
 | nil => intro ms j cs m _ h; simp at h
 | cons y as ih =>
   intro ms j cs m hb h1 h2
   cases ms with
   | nil => simp at h2
   | cons n ms =>
     cases j with
     | zero =>
       simp at h1 h2; subst h1 h2
       cases n with
       | none => rfl
       | some b => cases hb
     | succ j =>
       refine ih (ms := ms) ?_ (by simpa using h1) (by simpa using h2)
       cases y <;> cases n <;> first | exact hb | cases hb
theorem zHe {π : Own → Option Own} {hdr : Nat → Value} (hi : Inv C (St.get (u ++ σ)) a.tmps E) {as : List Arg} {ks : List Nat} {vs : List Value} (h : ArgsOk E (St.get (u ++ σ)) as ks vs) {ms : List (Option AV)} (hl : as.length = ms.length)
 (hnb : zAs as = false) (hmv : ∀ j b v, ms[j]? = some (some b) → vs[j]? = some v → b.mvOk = true ∧ VR E (zAd (St.get (u ++ σ))) (.h (j + 1)) b v)
 (hπ : ∀ j c p, π (.arr (.h (j + 1)) c p) = some (.arr (.k (2 * j)) c p))
 (hbox : ∀ s, ks = [s] → ∀ (i : Nat) (cs : List CV), as[i]? = some (.box cs) → π (.box s) = some (.box i) ∧ ∀ c p, π (.arr (.k (2 * s + 1)) c p) = some (.arr (.k (2 * i + 1)) c p)) {bx : Nat → Nat} (hbx : ∀ s, ks = [s] → ∀ i, bx i = E.bx s) :
 ArgsAt (E.into π true bx hdr) 0 (zA4 as ms) vs := by
 refine zEk (by rw [zBG hl, h.len]) fun j x v hj hv => ?_
 have hjl : j < as.length := by rw [← zBG hl]; exact (List.getElem?_eq_some_iff.1 hj).1
 have hy : as[j]? = some as[j] := List.getElem?_eq_getElem hjl
 have hm : ms[j]? = some (ms[j]'(by omega)) := List.getElem?_eq_getElem (by omega)
 generalize as[j] = y at hy
 generalize (ms[j]'(by omega)) = m at hm
 rw [zBF hy hm] at hj
 rw [Nat.zero_add]
 cases m with
 | some b =>
   cases hj
   obtain ⟨hok, hvr⟩ := hmv j b v hm hv
   show VR _ zAG (.k (2 * j)) b v
   refine VR.imp0 (fun i x v hx hv => ?_) hvr
   have hxo : x.mvOk = true := by
    cases b with
    | v g cs => exact List.all_eq_true.1 hok x hx
    | tup xs => cases hok
    | none => cases hok
   cases x with
   | sl f T xs =>
     cases f with
     | ro => exact zAp hi.env (.ro T xs) hv
     | own => exact zAp hi.env (.own T xs (fun p => hπ j i p)) hv
     | tip => exact zAp hi.env (.tip T xs (fun p => hπ j i p)) hv
     | _ => cases hxo
   | ptr s off => cases hxo
   | clo k ss => cases hxo
   | swp sf n h0 s => cases hxo
   | eptr f T x off => cases hxo
   | eref k c p i T x off => cases hxo
   | apd k c p T xs => cases hxo
   | _ => exact zAp hi.env (.same _ trivial) hv
 | none =>
   cases hj
   cases y with
   | val x =>
     obtain ⟨⟨g, cs, rfl⟩, hvr⟩ := h.val j x v hy hv
     exact zHB hi.env (fun hc => by rw [zB1 (.inl hy) hc] at hnb; cases hnb) hvr
   | box cs =>
     obtain ⟨s, hks, rfl, hg⟩ := h.box j cs v hy hv
     obtain ⟨h1, vals, ty, h2, h3⟩ := hi.box s cs hg
     obtain ⟨p1, p2⟩ := hbox s hks j cs hy
     have hbb := hbx s hks j
     show _ ∧ zBq _ _ _ _
     refine ⟨by rw [show (E.into π true bx hdr).bx j = E.bx s from hbb], by rw [show (E.into π true bx hdr).bx j = E.bx s from hbb]; simp [Env.into, h1, p1], vals, ty, by rw [show (E.into π true bx hdr).bx j = E.bx s from hbb]; exact h2, ?_⟩
     exact zHz hi.env (fun hc => by rw [zB1 (g := true) (.inr hy) hc] at hnb; cases hnb) (fun _ => p2) h3
   | gbox cs => exact (h.ng j cs hy).elim
variable {E' : Env} {π ρ d : Own → Option Own} {bx : Nat → Nat} {hdr : Nat → Value}
theorem zGT (hi : Inv C (St.get (u ++ σ)) a.tmps E) {b : Bool} {s i : Nat} (hp : Pass π ρ d)
 (hρ : ∀ l' l, ρ l' = some l ↔ (b = true ∧ l = .box s ∧ l' = .box i) ∨ (b = true ∧ ∃ c p, l = .arr (.k (2 * s + 1)) c p ∧ l' = .arr (.k (2 * i + 1)) c p) ∨ (∃ j c p, l = .arr (.h (j + 1)) c p ∧ l' = .arr (.k (2 * j)) c p) ∨ (∃ c p, l = .arr (.h 0) c p ∧ l' = .arr (.h 0) c p))
 {as : List Arg} {r : CallO} {v : Value} {cs out : List CV} (hg : b = true → St.get (u ++ σ) (2 * s + 1) = .v true cs)
 (hx : ExitR (E.into π true bx hdr) E' as r v) (hpl : r.res.plain = true) (hout : out.all CV.plain = true) (hat : b = true → zBq E' i (E.bx s) out) :
 Hand C (((zAe, .none) :: (cond b [(2 * s + 1, .v true out)] [] ++ u)) ++ σ) a.tmps E'.w 0 r.res v := by
 have hold := hx.old
 have hst := zBt (mu := True) hp hi.env hold (fun hm => absurd trivial hm)
 have hbk := zCA hp hi.env hx.env hx.size
 have hdk : ∀ pl c, dkC ρ pl c → (∃ n, pl = .h n) ∨ (b = true ∧ pl = .k (2 * s + 1)) := by
  rintro pl c ⟨p, l', h⟩
  rcases (hρ _ _).1 h with ⟨_, h, _⟩ | ⟨hb, c', p', h, _⟩ | ⟨j, c', p', h, _⟩ | ⟨c', p', h, _⟩
  · cases h
  · cases h; exact .inr ⟨hb, rfl⟩
  · cases h; exact .inl ⟨_, rfl⟩
  · cases h; exact .inl ⟨_, rfl⟩
 have hdb : ∀ s', dbC ρ s' → b = true ∧ s' = s := by
  rintro s' ⟨l', h⟩
  rcases (hρ _ _).1 h with ⟨hb, h, _⟩ | ⟨_, c', p', h, _⟩ | ⟨j, c', p', h, _⟩ | ⟨c', p', h, _⟩
  · cases h; exact ⟨hb, rfl⟩
  · cases h
  · cases h
  · cases h
 generalize hUdef : ((zAe, AV.none) :: (cond b [(2 * s + 1, AV.v true out)] [] ++ u)) = U
 have hplo : ∀ z ∈ out, z.stale [zAe] true = z := by
  intro z hz
  have := List.all_eq_true.1 hout z hz
  cases z with
  | sl f T xs => cases f <;> first | rfl | cases this
  | _ => first | rfl | cases this
 have hG : ∀ q, St.get (U ++ σ) q = if zAe = q then .none else if b = true ∧ 2 * s + 1 = q then .v true out else
  (St.get (u ++ σ) q).mapC (CV.stale (cond b [zAe, 2 * s + 1] [zAe]) true) := by
  intro q
  have ne : (2 * s + 1).beq zAe = false := by
   cases h : (2 * s + 1).beq zAe with
   | false => rfl
   | true => have := Nat.eq_of_beq_eq_true h; unfold zAe at this; omega
  subst hUdef
  show St.get ((zAe, _) :: ((cond b [(2 * s + 1, AV.v true out)] [] ++ u) ++ σ)) q = _
  rw [St.get_cons]
  by_cases h1 : zAe = q
  · simp [h1]
  · simp only [h1, if_false]
    have hbeq : zAe.beq zAe = true := by unfold zAe; rfl
    rw [hbeq]
    cases b with
    | false =>
      simp only [jF, List.nil_append, Bool.false_eq_true, false_and, if_false]
    | true =>
      simp only [jT, List.cons_append, List.nil_append, true_and]
      rw [St.get_cons]
      by_cases h2 : 2 * s + 1 = q
      · simp only [h2, if_true]
        have : ∀ l : List CV, (∀ z ∈ l, z.stale [zAe] true = z) → l.map (CV.stale [zAe] true) = l := fun l hl => by
         conv => rhs; rw [← List.map_id l]
         exact List.map_congr_left hl
        exact congrArg (AV.v true) (this _ hplo)
      · simp only [h2, if_false, ne]
        rw [AV.mapC_comp]
        exact congrArg (fun f => (St.get (u ++ σ) q).mapC f) (funext fun z => CV.stale_stale z (fun q => by simp [Bool.or_comm]) rfl)
 have hbxs : ∀ s', zAd (St.get (u ++ σ)) s' → zAd (St.get (U ++ σ)) s' ∧ (E.back E' π ρ d).bx s' = E.bx s' := by
  intro s' hs
  refine ⟨?_, rfl⟩
  obtain ⟨ys, hys⟩ := hs
  unfold zAd
  rw [hG, if_neg (by unfold zAe; omega)]
  split
  · exact ⟨_, rfl⟩
  · rw [hys]; exact ⟨_, rfl⟩
 have cw : ∀ (q j : Nat) (z : CV), (b = true → q ≠ 2 * s + 1) → CW (dkC ρ) True (.k q) j (z.stale (cond b [zAe, 2 * s + 1] [zAe]) true) z := by
  intro q j z h2
  refine CW.stale (fun _ hd => ?_) (fun k' c' hd => ?_) (fun _ => rfl)
  · rcases hdk _ _ hd with ⟨n, h⟩ | ⟨hb, h⟩
    · cases h
    · cases h; exact h2 hb rfl
  · rcases hdk _ _ hd with ⟨n, h⟩ | ⟨hb, h⟩
    · cases h
    · cases h; rw [hb]; simp
 have hres : VR (E.back E' π ρ d) (zAd (St.get (U ++ σ))) (.h 0) r.res v := by
  have := zCv (E := E) (π := π) (hide := true) (bx := bx) (hdr := hdr) (d := d) (bxs := zAd (St.get (U ++ σ))) hold hpl (fun c p => (hρ _ _).2 (.inr (.inr (.inr ⟨c, p, rfl, rfl⟩)))) (hx.res.vr (zA9 hpl))
  exact this
 refine ⟨E.back E' π ρ d, rfl, hi.step hst hx.os hx.tape hx.output hx.size (fun b hlt h0 => ?_) hbk.new hbk.inj hbk.boxhw rfl hbxs
  (fun t => .inr ⟨?_, rfl⟩) (fun s' cs' hs => ?_), hres⟩
 · have h2 := (hi.old b hlt h0).2.2
   have hlt2 : b < E.w.heap.size := Nat.lt_of_lt_of_le hlt hi.size
   obtain ⟨a1, a2, a3⟩ := hold b hlt2 (by simp [Env.into, h2])
   have hf : E.frame π b := ⟨hlt2, by rw [h2]; rfl⟩
   exact ⟨a1, by simp [Env.back, hf], by simp [Env.back, hf, h2]⟩
 · rw [hG]
   split
   · trivial
   · rw [if_neg (fun h => by have := h.2; omega)]
     exact AWk.map (fun c z => cw _ c z (fun _ => by omega)) _
 · rw [hG, if_neg (by unfold zAe; omega)] at hs
   by_cases hss : b = true ∧ s' = s
   · obtain ⟨hb, hss⟩ := hss
     subst hss
     rw [if_pos ⟨hb, rfl⟩] at hs
     injection hs with _ hs
     subst hs
     obtain ⟨h1, vals, ty, h2, h3⟩ := hat hb
     refine .inl ⟨(zAR hold h1 ((hρ _ _).2 (.inl ⟨hb, rfl, rfl⟩))).1, vals, ty, h2, ?_⟩
     have key : VRs (E.back E' π ρ d) (zAd (St.get (U ++ σ))) (.k (2 * s' + 1)) 0 (out.map fun x => cond true x x.rob) vals.toList :=
      VRs.imp (fun j x v hx hv => zBs hold (List.all_eq_true.1 hout x hx) (fun p => (hρ _ _).2 (.inr (.inl ⟨hb, _, p, rfl, rfl⟩))) hv) h3
     simpa using key
   · rw [if_neg (fun h => hss ⟨h.1, by have := h.2; omega⟩)] at hs
     cases hq : St.get (u ++ σ) (2 * s' + 1) with
     | v g' cs0 =>
       rw [hq] at hs
       injection hs with hs1 hs2
       subst hs1 hs2
       exact .inr ⟨fun h => hss (hdb _ h), cs0, rfl, CWs.map (fun c z => cw _ c z (fun hb e => hss ⟨hb, by omega⟩)) _ _⟩
     | tup xs => rw [hq] at hs; cases hs
     | none => rw [hq] at hs; cases hs
theorem zFk {w : World} {v : AV} {ob : List Prop} (hi : Inv C (St.get ([] ++ σ)) a.tmps E) (hw : E.w = w) {c : Call} {f : FuncId} {r : CallO}
 (h : Mr (cond r.plain (zEe tt (AbsCalls C.P) c f r) bad) σ [] = some ((v, ob), u)) (hob : ∀ q ∈ ob, q) : zEl C (u ++ σ) a w c f v := by
 obtain ⟨hpl, h⟩ := zAi h
 unfold zEe at h
 obtain ⟨ms, u1, h1, h2⟩ := zAa h
 obtain ⟨hml, hmn, E1, e1, e2, hi1, hmv⟩ := zEO hi _ _ 0 _ _ h1
 obtain ⟨p, u2, h3, h4⟩ := zAa h2
 cases hn : ms.all Option.isNone with
 | true =>
   rw [hn, jT] at h4
   obtain rfl := hmn hn
   obtain ⟨rfl, hA⟩ := zA7 hi _ _ _ _ h3
   exact zB3 hi hw hpl hA h4 hob
 | false =>
   rw [hn, jF] at h4
   obtain ⟨rfl, hA⟩ := zA7 hi1 _ _ _ _ h3
   cases hnb : zAs p.1 || !zDu p.1 ms with
   | true => rw [hnb] at h4; exact (zAb h4).elim
   | false =>
   rw [hnb, jF] at h4
   obtain ⟨hb1, hb2⟩ := Bool.or_eq_false_iff.1 hnb
   have hb2 : zDu p.1 ms = true := by simpa using hb2
   obtain ⟨hpr, hpo⟩ : r.res.plain = true ∧ r.outs.all (·.all CV.plain) = true := by simpa [CallO.plain] using hpl
   split at h4
   case h_2 => exact (zAb h4).elim
   obtain ⟨_, u3, h5, h6⟩ := zAa h4
   obtain ⟨_, u4, h7, h8⟩ := zAa h6
   obtain rfl := zAj h7
   obtain ⟨e8, rfl⟩ := zAc h8
   cases e8
   have hcon : AbsCalls C.P f (zA4 p.1 ms) r := hob _ (List.mem_singleton.2 rfl)
   have hlen : p.1.length = ms.length := by rw [hA.len, hml]; simp
   have hmv' : ∀ j b v, ms[j]? = some (some b) → (c.args.toList.map a.eval)[j]? = some v → b.mvOk = true ∧ VR E1 (zAd (St.get (u2 ++ σ))) (.h (j + 1)) b v := by
    intro j b v hj hv
    obtain ⟨q1, x, q2, q3⟩ := hmv j b hj
    rw [List.getElem?_map, q2] at hv
    cases hv
    rw [Nat.zero_add] at q3
    exact ⟨q1, q3⟩
   subst hw
   rw [← e1]
   obtain ⟨as, ks⟩ := p
   dsimp only at *
   unfold zBl at h5
   split at h5
   ·
    rename_i houts
    obtain ⟨_, rfl⟩ := zAc h5
    obtain ⟨π, ρ, d, hp, hπ, hρ⟩ := zHj false 0 0
    have hargs : ArgsAt (E1.into π true E1.bx E1.hdr) 0 (zA4 as ms) (c.args.map a.eval).toList := by
     rw [zA2]
     exact zHe hi1 hA hlen hb1 hmv' (fun j c p => (hπ _ _).2 (.inr (.inr ⟨j, c, p, rfl, rfl⟩))) (fun s hs => by cases hs) (fun s hs => by cases hs)
    refine (hcon (E1.into π true E1.bx E1.hdr) _ (zCj hp hi1.env) (zBb hi1.bas) hargs).mono fun val w' hr => ?_
    obtain ⟨E', rfl, hx⟩ := hr
    exact zGT (b := false) (s := 0) (i := 0) (cs := []) (out := []) hi1 hp hρ (fun h => by cases h) hx hpr rfl (fun h => by cases h)
   ·
    rename_i s out houts
    obtain ⟨old, u5, h9, h10⟩ := zAa h5
    unfold boxK at h9
    obtain ⟨b2, u6, h11, h12⟩ := zAa h9
    obtain ⟨rfl, rfl⟩ := zAl h11
    have h12' : St.get (u6 ++ σ) (2 * s + 1) = .v true old ∧ u5 = u6 := by
     split at h12
     · rename_i hg; obtain ⟨rfl, rfl⟩ := zAc h12; exact ⟨hg, rfl⟩
     · exact (zAb h12).elim
    obtain ⟨hg, rfl⟩ := h12'
    obtain ⟨hlen2, h10⟩ := zAi h10
    obtain ⟨_, u7, h13, h14⟩ := zAa h10
    obtain rfl := zAj h13
    obtain ⟨_, rfl⟩ := zAc h14
    obtain ⟨_, i, cs, hasi⟩ := hA.has s (List.mem_singleton.2 rfl)
    obtain ⟨π, ρ, d, hp, hπ, hρ⟩ := zHj true s i
    have hpos : ∀ (i' : Nat) (cs' : List CV), as[i']? = some (.box cs') → i' = i := fun i' cs' h => hA.one i' i cs' cs h hasi
    have hil : i < as.length := (List.getElem?_eq_some_iff.1 hasi).1
    have hmi : ms[i]? = some none := by
     have hm : ms[i]? = some (ms[i]'(by omega)) := List.getElem?_eq_getElem (by omega)
     rw [hm, zFm hb2 hasi hm]
    have hargs : ArgsAt (E1.into π true (fun _ => E1.bx s) E1.hdr) 0 (zA4 as ms) (c.args.map a.eval).toList := by
     rw [zA2]
     refine zHe hi1 hA hlen hb1 hmv' (fun j c p => (hπ _ _).2 (.inr (.inr ⟨j, c, p, rfl, rfl⟩))) (fun s' hs i' cs' hg' => ?_) (fun s' hs i' => ?_)
     · cases hs
       obtain rfl := hpos _ _ hg'
       exact ⟨(hπ _ _).2 (.inl ⟨rfl, rfl, rfl⟩), fun c p => (hπ _ _).2 (.inr (.inl ⟨rfl, c, p, rfl, rfl⟩))⟩
     · cases hs; rfl
    refine (hcon (E1.into π true (fun _ => E1.bx s) E1.hdr) _ (zCj hp hi1.env) (zBb hi1.bas) hargs).mono fun val w' hr => ?_
    obtain ⟨E', rfl, hx⟩ := hr
    obtain ⟨o, ho1, ho2⟩ := zDQ (cs := cs.map CV.toBx) hx.outs (j := i) (zBF hasi hmi) (fun i' cs' => ⟨fun h => by
     have hl' : i' < as.length := by rw [← zBG hlen]; exact (List.getElem?_eq_some_iff.1 h).1
     have hy : as[i']? = some as[i'] := List.getElem?_eq_getElem hl'
     have hm : ms[i']? = some (ms[i']'(by omega)) := List.getElem?_eq_getElem (by omega)
     generalize as[i'] = y at hy
     generalize (ms[i']'(by omega)) = m at hm
     rw [zBF hy hm] at h
     cases m with
     | some b => cases h
     | none =>
       cases y with
       | val x => cases h
       | gbox y => exact (hA.ng i' y hy).elim
       | box y => exact hpos i' y hy, fun h => by
     have hl' : i' < as.length := by rw [← zBG hlen]; exact (List.getElem?_eq_some_iff.1 h).1
     have hy : as[i']? = some as[i'] := List.getElem?_eq_getElem hl'
     have hm : ms[i']? = some (ms[i']'(by omega)) := List.getElem?_eq_getElem (by omega)
     generalize as[i'] = y at hy
     generalize (ms[i']'(by omega)) = m at hm
     rw [zBF hy hm] at h
     cases m with
     | some b => cases h
     | none =>
       cases y with
       | val x => cases h
       | box y => cases h
       | gbox y => exact hA.ng i' y hy⟩)
    rw [ho1] at houts hpo
    cases houts
    rw [Nat.zero_add] at ho2
    exact zGT (b := true) (cs := old) hi1 hp hρ (fun _ => hg) hx hpr (by simpa using hpo) (fun _ => ho2)
   · exact (zAb h5).elim
end
end Go.Ab
end
section
namespace Go.Ab
variable [Inhabited Lb]
def zBc : List CV → List Value → List Value
 | .sl (.al _ _ _) _ _ :: r, v :: vs => v :: zBc r vs
 | _ :: r, _ :: vs => zBc r vs
 | _, _ => []
def cellsOf (g : Bool) (v : Value) : List Value :=
 match g with
 | true => match v with | .agg a => a.toList | _ => []
 | false => [v]
def zCs : List Arg → List Value → List Value
 | .val (.v g cs) :: r, v :: vs => zBc cs (cellsOf g v) ++ zCs r vs
 | _ :: r, _ :: vs => zCs r vs
 | _, _ => []
theorem zA3 {E : Env} {bxs : Nat → Prop} {pl : Pl} {c : Nat} {g : Bool} {cs : List CV} {v : Value} : VR1 E bxs pl c g cs v ↔ VRs E bxs pl c cs (cellsOf g v) ∧ (g = true → ∃ a, v = .agg a) := by
 cases g with
 | true =>
   constructor
   · rintro ⟨vs, rfl, h⟩; exact ⟨h, fun _ => ⟨vs, rfl⟩⟩
   · rintro ⟨h, h2⟩; obtain ⟨a, rfl⟩ := h2 rfl; exact ⟨a, rfl, h⟩
 | false => exact ⟨fun h => ⟨h, fun h => by cases h⟩, fun h => h.1⟩
def LentPass (π : Own → Option Own) (hdr : Nat → Value) (off : Nat) (L : List Lent) (Tg : List (Nat × Nat)) : Prop :=
 ∀ (n : Nat) (z : Lent) (t : Nat × Nat), L[n]? = some z → Tg[n]? = some t → (∀ m c, hdr (off + n) ≠ .slice none m c) → ∀ q, π (.arr (.k z.1) z.2.1 (z.2.2.1 ++ q)) = some (.arr (.k t.1) t.2 q)
def HdrOk (hdr : Nat → Value) (off : Nat) (H : List Value) : Prop := ∀ (n : Nat) (v : Value), H[n]? = some v → hdr (off + n) = v
theorem LentPass.tail {π : Own → Option Own} {hdr : Nat → Value} {off : Nat} {z : Lent} {t : Nat × Nat} {L : List Lent} {Tg : List (Nat × Nat)} (h : LentPass π hdr off (z :: L) (t :: Tg)) : LentPass π hdr (off + 1) L Tg :=
 fun n z t h1 h2 h3 q => h (n + 1) z t (by simpa using h1) (by simpa using h2) (by rw [show off + (n + 1) = off + 1 + n from by omega]; exact h3) q
theorem HdrOk.tail {hdr : Nat → Value} {off : Nat} {v : Value} {H : List Value} (h : HdrOk hdr off (v :: H)) : HdrOk hdr (off + 1) H :=
 fun n v h1 => by rw [show off + 1 + n = off + (n + 1) from by omega]; exact h (n + 1) v (by simpa using h1)
theorem zEJ : ∀ {cs : List CV} {m k c : Nat}, (zAk k c (zAM m cs).1).length = (zAM m cs).2.length := by
 intro cs
 induction cs with
 | nil => intros; rfl
 | cons x cs ih =>
   intro m k c
   cases x with
   | sl f T xs =>
     cases f with
     | al k1 c1 p1 => simp [zAM, zAk, ih]
     | own => cases xs <;> simp [zAM, zAk, CV.toRo, ih]
     | _ => simp [zAM, zAk, CV.toRo, ih]
   | _ => simp [zAM, zAk, CV.toRo, ih]
theorem zEI : ∀ {cs : List CV} {m : Nat} {vs : List Value}, cs.length = vs.length → (zBc cs vs).length = (zAM m cs).2.length := by
 intro cs
 induction cs with
 | nil => intro m vs h; cases vs <;> simp_all [zBc, zAM]
 | cons x cs ih =>
   intro m vs h
   cases vs with
   | nil => simp at h
   | cons v vs =>
     have h' : cs.length = vs.length := by simpa using h
     cases x with
     | sl f T xs => cases f <;> simp [zAM, zBc, ih h'] <;> exact ih h'
     | _ => simp [zAM, zBc] ; exact ih h'
section
variable {E : Env} {π : Own → Option Own} {hide : Bool} {bx : Nat → Nat} {hdr : Nat → Value} {bxs : Nat → Prop}
theorem zGr (he : EnvOk E) {pl : Pl} {k : Nat} : ∀ {cs : List CV} {vals : List Value} {m c0 : Nat}, VRs E bxs pl c0 cs vals → (∀ x ∈ cs, x.isBor = false) →
 LentPass π hdr m (zAM m cs).2 (zAk k c0 (zAM m cs).1) → HdrOk hdr m (zBc cs vals) → VRs (E.into π hide bx hdr) zAG (.k k) c0 (zAM m cs).1 vals := by
 intro cs
 induction cs with
 | nil => intro vals m c0 h _ _ _; cases vals <;> simp_all [VRs, zAM]
 | cons x cs ih =>
   intro vals m c0 h hb hp hh
   cases vals with
   | nil => exact h.elim
   | cons v vals =>
     have hb' : ∀ x ∈ cs, x.isBor = false := fun y hy => hb y (List.mem_cons_of_mem _ hy)
     have hx := hb x List.mem_cons_self
     obtain ⟨h1, h2⟩ := h
     cases x with
     | sl f T xs =>
       cases f with
       | al k1 c1 p1 =>
         have e := hh 0 v rfl
         rw [Nat.add_zero] at e
         refine ⟨zAp he (.lnt k1 c1 m p1 T xs (fun hn q => hp 0 (k1, c1, p1, T) (k, c0) rfl rfl (by rw [Nat.add_zero, e]; exact hn) q) e.symm) h1, ih h2 hb' hp.tail hh.tail⟩
       | ro => exact ⟨zAp he (.ro T xs) h1, ih h2 hb' hp hh⟩
       | bor => cases hx
       | own =>
         cases xs with
         | nil => exact ⟨RdP.nilRo h1, ih h2 hb' hp hh⟩
         | cons y ys => exact ⟨h1.one, ih h2 hb' hp hh⟩
       | tip => exact ⟨h1.one, ih h2 hb' hp hh⟩
       | lnt n => exact ⟨h1.one, ih h2 hb' hp hh⟩
     | ptr s off => exact ⟨h1.one, ih h2 hb' hp hh⟩
     | clo k ss => exact ⟨h1.one, ih h2 hb' hp hh⟩
     | swp sf n h0 s => exact ⟨h1.one, ih h2 hb' hp hh⟩
     | eptr f T x off => exact ⟨h1.one, ih h2 hb' hp hh⟩
     | eref k c p i T x off => exact ⟨h1.one, ih h2 hb' hp hh⟩
     | apd k c p T xs => exact ⟨h1.one, ih h2 hb' hp hh⟩
     | int k n => exact ⟨zAp he (.same _ trivial) h1, ih h2 hb' hp hh⟩
     | bool b => exact ⟨zAp he (.same _ trivial) h1, ih h2 hb' hp hh⟩
     | str s => exact ⟨zAp he (.same _ trivial) h1, ih h2 hb' hp hh⟩
     | val v => exact ⟨zAp he (.same _ trivial) h1, ih h2 hb' hp hh⟩
     | undef => exact ⟨zAp he (.same _ trivial) h1, ih h2 hb' hp hh⟩
theorem LentPass.left {off : Nat} {L L' : List Lent} {Tg Tg' : List (Nat × Nat)} (h : LentPass π hdr off (L ++ L') (Tg ++ Tg')) : LentPass π hdr off L Tg :=
 fun n z t h1 h2 h3 q => h n z t (by rw [List.getElem?_append_left (List.getElem?_eq_some_iff.1 h1).1]; exact h1) (by rw [List.getElem?_append_left (List.getElem?_eq_some_iff.1 h2).1]; exact h2) h3 q
theorem LentPass.right {off : Nat} {L L' : List Lent} {Tg Tg' : List (Nat × Nat)} (hl : L.length = Tg.length) (h : LentPass π hdr off (L ++ L') (Tg ++ Tg')) : LentPass π hdr (off + L.length) L' Tg' :=
 fun n z t h1 h2 h3 q => h (L.length + n) z t (by rw [List.getElem?_append_right (Nat.le_add_right _ _), Nat.add_sub_cancel_left]; exact h1)
  (by rw [hl, List.getElem?_append_right (Nat.le_add_right _ _), Nat.add_sub_cancel_left]; exact h2) (by rw [← Nat.add_assoc]; exact h3) q
theorem HdrOk.left {off : Nat} {H H' : List Value} (h : HdrOk hdr off (H ++ H')) : HdrOk hdr off H :=
 fun n v h1 => h n v (by rw [List.getElem?_append_left (List.getElem?_eq_some_iff.1 h1).1]; exact h1)
theorem HdrOk.right {off : Nat} {H H' : List Value} (h : HdrOk hdr off (H ++ H')) : HdrOk hdr (off + H.length) H' :=
 fun n v h1 => by rw [Nat.add_assoc]; exact h _ v (by rw [List.getElem?_append_right (Nat.le_add_right _ _), Nat.add_sub_cancel_left]; exact h1)
theorem zGp (he : EnvOk E) : ∀ {as : List Arg} {vs : List Value} {m i : Nat}, as.length = vs.length →
 (∀ (j : Nat) (x : Arg) (v : Value), as[j]? = some x → vs[j]? = some v → ∃ g cs, x = .val (.v g cs) ∧ VR1 E bxs (.h 1) 0 g cs v ∧ ∀ x ∈ cs, x.isBor = false) →
 LentPass π hdr m (zAT m as).2 (zAD i (zAT m as).1) → HdrOk hdr m (zCs as vs) → ArgsAt (E.into π hide bx hdr) i (zAT m as).1 vs := by
 intro as
 induction as with
 | nil => intro vs m i h _ _ _; cases vs <;> simp_all [ArgsAt, zAT]
 | cons x as ih =>
   intro vs m i hl h hp hh
   cases vs with
   | nil => simp at hl
   | cons v vs =>
     obtain ⟨g, cs, rfl, h1, h2⟩ := h 0 x v rfl rfl
     obtain ⟨h1, h3⟩ := zA3.1 h1
     have hll : (zAM m cs).2.length = (zAk (2 * i) 0 (zAM m cs).1).length := zEJ.symm
     have hvl : (zBc cs (cellsOf g v)).length = (zAM m cs).2.length := zEI (zAh h1)
     refine ⟨zA3.2 ⟨zGr he h1 h2 (LentPass.left (L := (zAM m cs).2) hp) (HdrOk.left hh), h3⟩, ?_⟩
     refine ih (by simpa using hl) (fun j y w hy hw => h (j + 1) y w (by simpa using hy) (by simpa using hw)) (LentPass.right (L := (zAM m cs).2) hll hp) ?_
     have := HdrOk.right hh
     rw [hvl] at this
     exact this
end
theorem zAU {k : Nat} : ∀ {cs : List CV} {c : Nat} {n : Nat} {t : Nat × Nat}, (zAk k c cs)[n]? = some t → t.1 = k ∧ c ≤ t.2 := by
 intro cs
 induction cs with
 | nil => intro c n t h; simp [zAk] at h
 | cons x cs ih =>
   intro c n t h
   have other : (zAk k (c + 1) cs)[n]? = some t → t.1 = k ∧ c ≤ t.2 := fun h => by have := ih h; exact ⟨this.1, by omega⟩
   cases x with
   | sl f T xs =>
     cases f with
     | lnt m =>
       cases n with
       | zero => simp [zAk] at h; subst h; exact ⟨rfl, Nat.le_refl _⟩
       | succ n => have := ih (c := c + 1) (n := n) (by simpa [zAk] using h); exact ⟨this.1, by omega⟩
     | _ => exact other h
   | _ => exact other h
theorem zEd {k : Nat} : ∀ {cs : List CV} {c : Nat} {n n' : Nat} {t : Nat × Nat}, (zAk k c cs)[n]? = some t → (zAk k c cs)[n']? = some t → n = n' := by
 intro cs
 induction cs with
 | nil => intro c n n' t h; simp [zAk] at h
 | cons x cs ih =>
   intro c n n' t h h'
   cases x with
   | sl f T xs =>
     cases f with
     | lnt m =>
       cases n with
       | zero =>
         cases n' with
         | zero => rfl
         | succ n' =>
           simp [zAk] at h h'; subst h
           have := (zAU h').2
           omega
       | succ n =>
         cases n' with
         | zero =>
           simp [zAk] at h h'; subst h'
           have := (zAU h).2
           omega
         | succ n' => rw [ih (c := c + 1) (n := n) (n' := n') (t := t) (by simpa [zAk] using h) (by simpa [zAk] using h')]
     | _ => exact ih (c := c + 1) h h'
   | _ => exact ih (c := c + 1) h h'
theorem zDZ : ∀ {as : List Arg} {i n : Nat} {t : Nat × Nat}, (zAD i as)[n]? = some t → 2 * i ≤ t.1 := by
 intro as
 induction as with
 | nil => intro i n t h; simp [zAD] at h
 | cons x as ih =>
   intro i n t h
   have other : (zAD (i + 1) as)[n]? = some t → 2 * i ≤ t.1 := fun h => by have := ih h; omega
   cases x with
   | val y =>
     cases y with
     | v g cs =>
       simp only [zAD] at h
       by_cases hn : n < (zAk (2 * i) 0 cs).length
       · rw [List.getElem?_append_left hn] at h
         have := (zAU h).1; omega
       · rw [List.getElem?_append_right (by omega)] at h
         have := ih h; omega
     | _ => exact other h
   | box cs => exact other h
   | gbox cs => exact other h
theorem zDq : ∀ {as : List Arg} {i n n' : Nat} {t : Nat × Nat}, (zAD i as)[n]? = some t → (zAD i as)[n']? = some t → n = n' := by
 intro as
 induction as with
 | nil => intro i n n' t h; simp [zAD] at h
 | cons x as ih =>
   intro i n n' t h h'
   cases x with
   | val y =>
     cases y with
     | v g cs =>
       simp only [zAD] at h h'
       by_cases hn : n < (zAk (2 * i) 0 cs).length <;> by_cases hn' : n' < (zAk (2 * i) 0 cs).length
       · rw [List.getElem?_append_left hn] at h
         rw [List.getElem?_append_left hn'] at h'
         exact zEd h h'
       · rw [List.getElem?_append_left hn] at h
         rw [List.getElem?_append_right (by omega)] at h'
         have := (zAU h).1; have := zDZ h'; omega
       · rw [List.getElem?_append_right (by omega)] at h
         rw [List.getElem?_append_left hn'] at h'
         have := (zAU h').1; have := zDZ h; omega
       · rw [List.getElem?_append_right (by omega)] at h h'
         have := ih h h'; omega
     | _ => exact ih (i := i + 1) h h'
   | box cs => exact ih (i := i + 1) h h'
   | gbox cs => exact ih (i := i + 1) h h'
def zCx (L : List Lent) (Tg : List (Nat × Nat)) (H : List Value) (l l' : Own) : Prop :=
 ∃ (n : Nat) (z : Lent) (t : Nat × Nat) (v : Value), L[n]? = some z ∧ Tg[n]? = some t ∧ H[n]? = some v ∧ (∀ m c, v ≠ .slice none m c) ∧ ∃ q, l = .arr (.k z.1) z.2.1 (z.2.2.1 ++ q) ∧ l' = .arr (.k t.1) t.2 q
def LentApart (L : List Lent) : Prop :=
 ∀ (n n' : Nat) (z z' : Lent) (q q' : List (Nat × Nat)), L[n]? = some z → L[n']? = some z' → z.1 = z'.1 → z.2.1 = z'.2.1 → z.2.2.1 ++ q = z'.2.2.1 ++ q' → n = n'
theorem zHi {L : List Lent} {Tg : List (Nat × Nat)} {H : List Value} (hL : LentApart L) (hT : ∀ (n n' : Nat) (t : Nat × Nat), Tg[n]? = some t → Tg[n']? = some t → n = n') : ∃ π ρ d, Pass π ρ d ∧
 (∀ l l', π l = some l' ↔ zCx L Tg H l l') ∧ (∀ l' l, ρ l' = some l ↔ zCx L Tg H l l' ∨ (∃ c p, l = .arr (.h 0) c p ∧ l' = .arr (.h 0) c p)) := by
 have f1 : ∀ l a b, zCx L Tg H l a → zCx L Tg H l b → a = b := by
  rintro l a b ⟨n, z, t, v, h1, h2, h3, h4, q, rfl, rfl⟩ ⟨n', z', t', v', h1', h2', h3', h4', q', e, rfl⟩
  injection e with e1 e2 e3
  injection e1 with e1
  obtain rfl := hL n n' z z' q q' h1 h1' e1 e2 e3
  rw [h1] at h1'; cases h1'
  rw [h2] at h2'; cases h2'
  rw [List.append_cancel_left_eq] at e3
  rw [e3]
 have f2 : ∀ a b l, zCx L Tg H a l → zCx L Tg H b l → a = b := by
  rintro a b l ⟨n, z, t, v, h1, h2, h3, h4, q, rfl, rfl⟩ ⟨n', z', t', v', h1', h2', h3', h4', q', rfl, e⟩
  injection e with e1 e2 e3
  injection e1 with e1
  subst e3
  obtain rfl := hT n n' t h2 (by rw [h2', Prod.ext e1 e2])
  rw [h1] at h1'; cases h1'
  rfl
 refine Pass.of_rel _ _ f1 f2 ?_ ?_ (fun _ _ h => .inl h) ?_ ?_
 · rintro l a b (h | ⟨c, p, rfl, rfl⟩) (h' | ⟨c', p', e, rfl⟩)
   · exact f1 _ _ _ h h'
   · subst e; obtain ⟨n, z, t, v, h1, h2, h3, h4, q, e, _⟩ := h; cases e
   · obtain ⟨n, z, t, v, h1, h2, h3, h4, q, e, _⟩ := h'; cases e
   · cases e; rfl
 · rintro a b l (h | ⟨c, p, rfl, rfl⟩) (h' | ⟨c', p', rfl, e⟩)
   · exact f2 _ _ _ h h'
   · subst e; obtain ⟨n, z, t, v, h1, h2, h3, h4, q, _, e⟩ := h; cases e
   · obtain ⟨n, z, t, v, h1, h2, h3, h4, q, _, e⟩ := h'; cases e
   · cases e; rfl
 · rintro l i (h | ⟨c, p, rfl, e⟩)
   · obtain ⟨n, z, t, v, h1, h2, h3, h4, q, _, e⟩ := h; cases e
   · cases e
 · rintro s l (h | ⟨c, p, e, rfl⟩)
   · obtain ⟨n, z, t, v, h1, h2, h3, h4, q, e, _⟩ := h; cases e
   · cases e
end Go.Ab
end
section
namespace Go.Ab
variable [Inhabited Lb]
theorem zEZ {E' : Env} : ∀ {ps : List (Nat × Nat)} {m n : Nat} {ys : List CV} {t : Nat × Nat} {y : CV}, zCy E' m ps ys → ps[n]? = some t → ys[n]? = some y →
 ∃ T zs, y = .sl (.lnt (m + n)) T zs ∧ VRc E' zAG (.k t.1) t.2 y (E'.hdr (m + n)) := by
 intro ps
 induction ps with
 | nil => intro m n ys t y h h1; simp at h1
 | cons p ps ih =>
   intro m n ys t y h h1 h2
   cases ys with
   | nil => exact h.elim
   | cons y0 ys =>
     obtain ⟨⟨T, zs, e⟩, g2, g3⟩ := h
     cases n with
     | zero => simp at h1 h2; subst h1 h2; exact ⟨T, zs, e, g2⟩
     | succ n => have := ih g3 (by simpa using h1) (by simpa using h2); rwa [show m + 1 + n = m + (n + 1) from by omega] at this
theorem zCZ {U : Ty} {y x x' : CV} {p : Prop} (h : zEg U y x = some (x', p)) (hp : p) : ∃ f g xs zs, x = .sl f U xs ∧ y = .sl g U zs ∧ zs.length = xs.length ∧ x' = .sl f U zs := by
 unfold zEg at h
 split at h
 · rename_i fl T xs
   split at h
   · rename_i g V ys
     split at h
     · rename_i e
       subst e
       cases hc : decide (U = V) with
       | false => rw [hc] at h; cases h
       | true =>
         rw [hc] at h
         have hc := of_decide_eq_true hc
         subst hc
         cases h
         exact ⟨fl, g, xs, ys, rfl, rfl, hp, rfl⟩
     · cases h
   · cases h
 · cases h
theorem zBw {x : Nat} {r : List Nat} (h : zAW (x :: r) = true) : (∀ y ∈ r, y ≠ x) ∧ zAW r = true := by
 simp [zAW] at h
 exact ⟨fun y hy e => h.1 (e ▸ hy), h.2⟩
theorem zCt : ∀ {l : List Nat} {n n' x : Nat}, zAW l = true → l[n]? = some x → l[n']? = some x → n = n' := by
 intro l
 induction l with
 | nil => intro n n' x _ h; simp at h
 | cons y l ih =>
   intro n n' x h h1 h2
   obtain ⟨h3, h4⟩ := zBw h
   cases n with
   | zero =>
     cases n' with
     | zero => rfl
     | succ n' => simp at h1 h2; subst h1; exact absurd rfl (h3 _ (List.mem_of_getElem? h2))
   | succ n =>
     cases n' with
     | zero => simp at h1 h2; subst h2; exact absurd rfl (h3 _ (List.mem_of_getElem? h1))
     | succ n' => exact congrArg (· + 1) (ih (n := n) (n' := n') (x := x) h4 (by simpa using h1) (by simpa using h2))
theorem zGF {k : Nat} : ∀ {L : List Lent} {ys cs cs' : List CV} {ps : List Prop}, zC8 k L ys cs = some (cs', ps) → (∀ p ∈ ps, p) → zAW (L.map fun z => z.2.1) = true →
 cs'.length = cs.length ∧ (∀ (n : Nat) (z : Lent), L[n]? = some z → z.1 = k ∧ z.2.2.1 = []) ∧ ∀ j : Nat,
  (∃ (n : Nat) (T : Ty) (y : CV) (f g : Fl) (xs zs : List T.den), L[n]? = some (k, j, [], T) ∧ ys[n]? = some y ∧ y = .sl g T zs ∧ zs.length = xs.length ∧ cs[j]? = some (.sl f T xs) ∧
    CV.mutable (.sl f T xs) = true ∧ cs'[j]? = some (.sl f T zs)) ∨ (cs'[j]? = cs[j]? ∧ ∀ (n : Nat) (z : Lent), L[n]? = some z → z.2.1 ≠ j) := by
 intro L
 induction L with
 | nil =>
   intro ys cs cs' ps h _ _
   cases ys with
   | nil => simp [zC8] at h; rw [← h.1]; exact ⟨rfl, by simp, fun j => .inr ⟨rfl, by simp⟩⟩
   | cons y ys => simp [zC8] at h
 | cons z L ih =>
   intro ys cs cs' ps h hps hd
   obtain ⟨k', c, p, U⟩ := z
   cases p with
   | cons q p => cases ys <;> simp [zC8] at h
   | nil =>
     cases ys with
     | nil => simp [zC8] at h
     | cons y ys =>
       simp only [zC8] at h
       cases hk : k'.beq k with
       | false => rw [hk] at h; cases h
       | true =>
         rw [hk] at h
         obtain rfl := Nat.eq_of_beq_eq_true hk
         simp only [jT] at h
         split at h
         · rename_i x hx
           cases hm : x.mutable with
           | false => rw [hm] at h; cases h
           | true =>
             rw [hm] at h
             simp only [jT] at h
             split at h
             · rename_i x' p hx'
               split at h
               · rename_i cs1 ps1 hrest
                 cases h
                 obtain ⟨f, g, xs, zs, rfl, rfl, hl, rfl⟩ := zCZ hx' (hps p List.mem_cons_self)
                 obtain ⟨d1, d2⟩ := zBw hd
                 obtain ⟨e1, e2, e3⟩ := ih hrest (fun q hq => hps q (List.mem_cons_of_mem _ hq)) d2
                 have hc : c < cs.length := (List.getElem?_eq_some_iff.1 hx).1
                 refine ⟨by simpa using e1, fun n z hz => ?_, fun j => ?_⟩
                 · cases n with
                   | zero => simp at hz; subst hz; exact ⟨rfl, rfl⟩
                   | succ n => exact e2 n z (by simpa using hz)
                 · by_cases hj : j = c
                   · subst hj
                     rcases e3 j with ⟨n, T, y, f', g', xs', zs', a1, _⟩ | ⟨a1, a2⟩
                     · exact absurd rfl (d1 j (List.mem_map.2 ⟨_, List.mem_of_getElem? a1, rfl⟩))
                     · refine .inl ⟨0, U, _, f, g, xs, zs, rfl, rfl, rfl, hl, hx, hm, ?_⟩
                       rw [a1, List.getElem?_set_self hc]
                   · rcases e3 j with ⟨n, T, y, f', g', xs', zs', a1, a2, a3, a4, a5, a6⟩ | ⟨a1, a2⟩
                     · rw [List.getElem?_set_ne (Ne.symm hj)] at a5
                       exact .inl ⟨n + 1, T, y, f', g', xs', zs', by simpa using a1, by simpa using a2, a3, a4, a5, a6⟩
                     · refine .inr ⟨by rw [a1, List.getElem?_set_ne (Ne.symm hj)], fun n z hz => ?_⟩
                       cases n with
                       | zero => simp at hz; subst hz; exact Ne.symm hj
                       | succ n => exact a2 n z (by simpa using hz)
               · cases h
             · cases h
         · cases h
theorem zD3 {k c i : Nat} : ∀ {L : List Lent} {ys cs cs' : List CV} {ps : List Prop}, zCf k c i L ys cs = some (cs', ps) → (∀ p ∈ ps, p) → zAW (L.map fun z => (z.2.2.1.headD (0, 0)).2) = true →
 cs'.length = cs.length ∧ (∀ (n : Nat) (z : Lent), L[n]? = some z → z.1 = k ∧ z.2.1 = c ∧ ∃ j, z.2.2.1 = [(i, j)]) ∧ ∀ j : Nat,
  (∃ (n : Nat) (T : Ty) (y : CV) (f g : Fl) (xs zs : List T.den), L[n]? = some (k, c, [(i, j)], T) ∧ ys[n]? = some y ∧ y = .sl g T zs ∧ zs.length = xs.length ∧ cs[j]? = some (.sl f T xs) ∧
    cs'[j]? = some (.sl f T zs)) ∨ (cs'[j]? = cs[j]? ∧ ∀ (n : Nat) (z : Lent), L[n]? = some z → z.2.2.1 ≠ [(i, j)]) := by
 intro L
 induction L with
 | nil =>
   intro ys cs cs' ps h _ _
   cases ys with
   | nil => simp [zCf] at h; rw [← h.1]; exact ⟨rfl, by simp, fun j => .inr ⟨rfl, by simp⟩⟩
   | cons y ys => simp [zCf] at h
 | cons z L ih =>
   intro ys cs cs' ps h hps hd
   obtain ⟨k', c', p, U⟩ := z
   match p, h, hd with
   | [], h, _ => cases ys <;> simp [zCf] at h
   | _ :: _ :: _, h, _ => cases ys <;> simp [zCf] at h
   | [(i', j0)], h, hd =>
     cases ys with
     | nil => simp [zCf] at h
     | cons y ys =>
       simp only [zCf] at h
       cases hk : (k'.beq k && c'.beq c) with
       | false => rw [hk] at h; cases h
       | true =>
         rw [hk] at h
         simp only [Bool.and_eq_true] at hk
         obtain rfl := Nat.eq_of_beq_eq_true hk.1
         obtain rfl := Nat.eq_of_beq_eq_true hk.2
         simp only [jT] at h
         split at h
         · rename_i x hx
           split at h
           · rename_i x' p hx'
             split at h
             · rename_i cs1 ps1 hrest
               cases h
               have hii : i' = i := hps _ List.mem_cons_self
               subst hii
               obtain ⟨f, g, xs, zs, rfl, rfl, hl, rfl⟩ := zCZ hx' (hps p (List.mem_cons_of_mem _ List.mem_cons_self))
               obtain ⟨d1, d2⟩ := zBw hd
               obtain ⟨e1, e2, e3⟩ := ih hrest (fun q hq => hps q (List.mem_cons_of_mem _ (List.mem_cons_of_mem _ hq))) d2
               have hc : j0 < cs.length := (List.getElem?_eq_some_iff.1 hx).1
               refine ⟨by simpa using e1, fun n z hz => ?_, fun j => ?_⟩
               · cases n with
                 | zero => simp at hz; subst hz; exact ⟨rfl, rfl, j0, rfl⟩
                 | succ n => exact e2 n z (by simpa using hz)
               · by_cases hj : j = j0
                 · subst hj
                   rcases e3 j with ⟨n, T, y, f', g', xs', zs', a1, _⟩ | ⟨a1, a2⟩
                   · exact absurd rfl (d1 j (List.mem_map.2 ⟨_, List.mem_of_getElem? a1, rfl⟩))
                   · refine .inl ⟨0, U, _, f, g, xs, zs, rfl, rfl, rfl, hl, hx, ?_⟩
                     rw [a1, List.getElem?_set_self hc]
                 · rcases e3 j with ⟨n, T, y, f', g', xs', zs', a1, a2, a3, a4, a5, a6⟩ | ⟨a1, a2⟩
                   · rw [List.getElem?_set_ne (Ne.symm hj)] at a5
                     exact .inl ⟨n + 1, T, y, f', g', xs', zs', by simpa using a1, by simpa using a2, a3, a4, a5, a6⟩
                   · refine .inr ⟨by rw [a1, List.getElem?_set_ne (Ne.symm hj)], fun n z hz => ?_⟩
                     cases n with
                     | zero =>
                       simp at hz; subst hz
                       intro e
                       simp at e
                       exact hj e.symm
                     | succ n => exact a2 n z (by simpa using hz)
             · cases h
           · cases h
         · cases h
section
variable {E E' : Env} {π ρ d : Own → Option Own} {bx : Nat → Nat} {hdr : Nat → Value} {L : List Lent} {Tg : List (Nat × Nat)} {H : List Value}
 (hp : Pass π ρ d) (hπ : ∀ l l', π l = some l' ↔ zCx L Tg H l l') (hρ : ∀ l' l, ρ l' = some l ↔ zCx L Tg H l l' ∨ (∃ c p, l = .arr (.h 0) c p ∧ l' = .arr (.h 0) c p))
 (hold : ∀ b, b < E.w.heap.size → (E.into π true bx hdr).ow b = none → E'.w.heap[b]? = E.w.heap[b]? ∧ E'.hw b = (E.into π true bx hdr).hw b ∧ E'.ow b = none) (he : EnvOk E)
include hp hπ hρ hold he
theorem zCJ {k c : Nat} {p : List (Nat × Nat)} (hn : ∀ l', ¬ zCx L Tg H (.arr (.k k) c p) l') : zF6 E (E.back E' π ρ d) (.arr (.k k) c p) (.arr (.k k) c p) := by
 intro b hb
 have hlt : b < E.w.heap.size := by
  rcases Nat.lt_or_ge b E.w.heap.size with h1 | h1
  · exact h1
  · rw [(he.new _ h1).1] at hb; cases hb
 have hpi : π (.arr (.k k) c p) = none := by
  cases hq : π (.arr (.k k) c p) with
  | none => rfl
  | some l => exact absurd ((hπ _ _).1 hq) (hn l)
 have hf : E.frame π b := ⟨hlt, by rw [hb]; exact hpi⟩
 obtain ⟨a1, a2, a3⟩ := hold _ hlt (by simp [Env.into, hb, hpi])
 refine ⟨?_, by simp [Env.back, hf], a1⟩
 simp only [Env.back, if_pos hf, hb, jS]
 rcases hp.drop (.arr (.k k) c p) with ⟨⟨l', hl'⟩, _⟩ | ⟨_, h2⟩
 · rcases (hρ _ _).1 hl' with h | ⟨c', p', h, _⟩
   · exact absurd h (hn l')
   · cases h
 · exact h2
theorem zG9 (hL : LentApart L) {n m : Nat} {z : Lent} {t : Nat × Nat} {v vk : Value} {T : Ty} {xs ys : List T.den} (h1 : L[n]? = some z) (h2 : Tg[n]? = some t) (h3 : H[n]? = some v)
 (hk : RdP E.w (fun q => okF E (.k z.1) z.2.1 .own (z.2.2.1 ++ q)) (fun q => qF E (.k z.1) z.2.1 .own (z.2.2.1 ++ q)) vk (.sl T.sz (xs.map T.toD)))
 (ha : Tip E (.arr (.k z.1) z.2.1 z.2.2.1) v T.sz) (hy : VRc E' zAG (.k t.1) t.2 (.sl (.lnt m) T ys) v) (hlen : ys.length = xs.length) :
 RdP (E.back E' π ρ d).w (fun q => okF (E.back E' π ρ d) (.k z.1) z.2.1 .own (z.2.2.1 ++ q)) (fun q => qF (E.back E' π ρ d) (.k z.1) z.2.1 .own (z.2.2.1 ++ q)) vk (.sl T.sz (ys.map T.toD)) := by
 have hqk : Tip E (.arr (.k z.1) z.2.1 z.2.2.1) vk T.sz := by have := hk.top; rwa [List.append_nil] at this
 obtain ⟨adk, capk, ek, hck⟩ := RdP.shape hk
 obtain ⟨ada, capa, ea, hca⟩ := RdP.shape hy
 rw [List.length_map] at ek ea hck hca
 cases adk with
 | none =>
   subst ek
   obtain ⟨h0, hcap⟩ := hqk
   have : ys = [] := List.eq_nil_of_length_eq_zero (by omega)
   subst this
   rw [h0, hcap]
   exact RdP.nil none 0 T.sz ⟨rfl, rfl⟩
 | some adk =>
   cases ada with
   | none =>
     subst ea
     obtain ⟨h0, _⟩ := ha
     have : ys = [] := List.eq_nil_of_length_eq_zero h0
     subst this
     have hxs : xs.length = 0 := by rw [← hlen]; rfl
     subst ek
     have hm := zCJ hp hπ hρ hold he (k := z.1) (c := z.2.1) (p := z.2.2.1) (fun l' hl' => by
      obtain ⟨n', z', t', v', g1, g2, g3, g4, q, e, _⟩ := hl'
      injection e with e1 e2 e3
      injection e1 with e1
      obtain rfl := hL n n' z z' [] q h1 g1 e1 e2 (by rw [List.append_nil]; exact e3)
      rw [h3] at g3; cases g3
      exact g4 _ _ rfl)
     have ht := Tip.moves hm hqk
     rw [hxs] at ht ⊢
     exact RdP.nil (some adk) capk T.sz (by show Tip _ _ _ _; rw [List.append_nil]; exact ht)
   | some ada =>
     have hv : vk = v := by
      subst ek ea
      obtain ⟨bk, ok, fk⟩ := adk
      obtain ⟨ba, oa, fa⟩ := ada
      have hsz := Ty.sz_pos T
      unfold Tip at hqk ha
      split at hqk
      · rename_i b1 n1 c1 e1
        split at ha
        · rename_i b2 n2 c2 e2
          obtain ⟨p1, p2, p3, cs1, ty1, lo1, hi1, p4, p5, p6⟩ := hqk
          obtain ⟨q1, q2, q3, cs2, ty2, lo2, hi2, q4, q5, q6⟩ := ha
          have hb := he.inj _ _ _ p1 q1
          subst hb
          rw [p4] at q4; cases q4
          have hc : c1 = c2 := Nat.eq_of_mul_eq_mul_right hsz (p5.trans q5.symm)
          have hn : n1 = n2 := Nat.eq_of_mul_eq_mul_right hsz (p2.symm.trans q2)
          rw [e1, e2, hc, hn]
        · rename_i e2; cases e2
        · exact ha.elim
      · rename_i e1; cases e1
      · exact hqk.elim
     rw [hv]
     have hpass : ∀ q, ρ (.arr (.k t.1) t.2 q) = some (.arr (.k z.1) z.2.1 (z.2.2.1 ++ q)) := fun q =>
      (hρ _ _).2 (.inl ⟨n, z, t, v, h1, h2, h3, (by intro m c e; rw [ea] at e; cases e), q, rfl, rfl⟩)
     exact RdP.mono hy (fun q b o ho => ⟨rfl, by rw [(zAR (d := d) hold ho.2 (hpass q)).2]; exact ho.1, (zAR hold ho.2 (hpass q)).1⟩) (fun q v sz ht => Tip.back hold (hpass q) ht.1)
end
end Go.Ab
end
section
namespace Go.Ab
variable [Inhabited Lb]
theorem LentApart.top {L : List Lent} (h2 : zAW (L.map fun z => z.2.1) = true) : LentApart L := by
 intro n n' z z' q q' hz hz' _ e _
 exact zCt h2 (x := z.2.1) (by rw [List.getElem?_map, hz]; rfl) (by rw [List.getElem?_map, hz']; exact congrArg some e.symm)
theorem LentApart.row {k c i : Nat} {L : List Lent} (h1 : ∀ (n : Nat) (z : Lent), L[n]? = some z → z.1 = k ∧ z.2.1 = c ∧ ∃ j, z.2.2.1 = [(i, j)])
 (h2 : zAW (L.map fun z => (z.2.2.1.headD (0, 0)).2) = true) : LentApart L := by
 intro n n' z z' q q' hz hz' _ _ e
 obtain ⟨_, _, j, hj⟩ := h1 n z hz
 obtain ⟨_, _, j', hj'⟩ := h1 n' z' hz'
 rw [hj, hj'] at e
 simp at e
 refine zCt h2 (x := j) (by rw [List.getElem?_map, hz]; simp [hj]) (by rw [List.getElem?_map, hz']; simp [hj', e.1])
theorem zGs {E : Env} {bxs : Nat → Prop} {pl : Pl} : ∀ {cs : List CV} {vals : List Value} {m c0 : Nat}, VRs E bxs pl c0 cs vals →
 ∀ (n : Nat) (z : Lent) (v : Value), (zAM m cs).2[n]? = some z → (zBc cs vals)[n]? = some v → Tip E (.arr (.k z.1) z.2.1 z.2.2.1) v z.2.2.2.sz := by
 intro cs
 induction cs with
 | nil => intro vals m c0 _ n z v h; simp [zAM] at h
 | cons x cs ih =>
   intro vals m c0 h n z v h1 h2
   cases vals with
   | nil => exact h.elim
   | cons w vals =>
     cases x with
     | sl f T xs =>
       cases f with
       | al k1 c1 p1 =>
         cases n with
         | zero =>
           simp [zAM, zBc] at h1 h2
           subst h1 h2
           have hv : RdP E.w _ _ _ _ := h.1
           have := hv.top
           simp only [qF, List.append_nil] at this
           exact this
         | succ n => exact ih h.2 n z v (by simpa [zAM] using h1) (by simpa [zBc] using h2)
       | _ => exact ih h.2 n z v (by simpa [zAM] using h1) (by simpa [zBc] using h2)
     | _ => exact ih h.2 n z v (by simpa [zAM] using h1) (by simpa [zBc] using h2)
theorem zGq {E : Env} {bxs : Nat → Prop} : ∀ {as : List Arg} {vs : List Value} {m i : Nat}, as.length = vs.length →
 (∀ (j : Nat) (x : Arg) (v : Value), as[j]? = some x → vs[j]? = some v → ∃ g cs, x = .val (.v g cs) ∧ VR1 E bxs (.h 1) 0 g cs v ∧ ∀ x ∈ cs, x.isBor = false) →
 (zCs as vs).length = (zAT m as).2.length ∧ (zAD i (zAT m as).1).length = (zAT m as).2.length ∧
 ∀ (n : Nat) (z : Lent) (v : Value), (zAT m as).2[n]? = some z → (zCs as vs)[n]? = some v → Tip E (.arr (.k z.1) z.2.1 z.2.2.1) v z.2.2.2.sz := by
 intro as
 induction as with
 | nil => intro vs m i h _; cases vs <;> simp_all [zCs, zAT, zAD]
 | cons x as ih =>
   intro vs m i hl h
   cases vs with
   | nil => simp at hl
   | cons v vs =>
     obtain ⟨g, cs, rfl, h1, h2⟩ := h 0 x v rfl rfl
     obtain ⟨h1, h3⟩ := zA3.1 h1
     have hvl : (zBc cs (cellsOf g v)).length = (zAM m cs).2.length := zEI (zAh h1)
     obtain ⟨i1, i2, i3⟩ := ih (vs := vs) (m := m + (zAM m cs).2.length) (i := i + 1) (by simpa using hl) (fun j y w hy hw => h (j + 1) y w (by simpa using hy) (by simpa using hw))
     refine ⟨by simp [zCs, zAT, hvl, i1], by simp [zAD, zAT, zEJ, i2], fun n z w hz hw => ?_⟩
     simp only [zAT, zCs] at hz hw
     by_cases hn : n < (zAM m cs).2.length
     · rw [List.getElem?_append_left hn] at hz
       rw [List.getElem?_append_left (by rw [hvl]; exact hn)] at hw
       exact zGs h1 n z w hz hw
     · rw [List.getElem?_append_right (by omega)] at hz
       rw [List.getElem?_append_right (by omega), hvl] at hw
       exact i3 _ z w hz hw
theorem zCg : ∀ {as : List Arg}, zBO as = false → ∀ (j : Nat) (x : Arg), as[j]? = some x → ∃ g cs, x = .val (.v g cs) ∧ ∀ y ∈ cs, y.isBor = false := by
 intro as
 induction as with
 | nil => intro _ j x h; simp at h
 | cons x as ih =>
   intro h j y hy
   cases x with
   | box cs => simp [zBO] at h
   | gbox cs => simp [zBO] at h
   | val a =>
     cases a with
     | v g cs =>
       simp only [zBO, Bool.or_eq_false_iff] at h
       cases j with
       | zero =>
         simp at hy; subst hy
         refine ⟨g, cs, rfl, fun z hz => ?_⟩
         cases hb : z.isBor with
         | false => rfl
         | true => rw [List.any_eq_true.2 ⟨z, hz, hb⟩] at h; exact absurd h.1 (by simp)
       | succ j => exact ih h.2 j y (by simpa using hy)
     | _ => simp [zBO] at h
section
variable {E E' : Env} {π ρ d : Own → Option Own} {bx : Nat → Nat} {hdr : Nat → Value} {L : List Lent} {Tg : List (Nat × Nat)} {H : List Value}
 (hp : Pass π ρ d) (hπ : ∀ l l', π l = some l' ↔ zCx L Tg H l l') (hρ : ∀ l' l, ρ l' = some l ↔ zCx L Tg H l l' ∨ (∃ c p, l = .arr (.h 0) c p ∧ l' = .arr (.h 0) c p))
 (hold : ∀ b, b < E.w.heap.size → (E.into π true bx hdr).ow b = none → E'.w.heap[b]? = E.w.heap[b]? ∧ E'.hw b = (E.into π true bx hdr).hw b ∧ E'.ow b = none) (he : EnvOk E)
 (htips : ∀ (n : Nat) (z : Lent) (v : Value), L[n]? = some z → H[n]? = some v → Tip E (.arr (.k z.1) z.2.1 z.2.2.1) v z.2.2.2.sz)
 (hHL : H.length = L.length) (hTL : Tg.length = L.length) {lents : List CV}
 (hlents : ∀ (n : Nat) (t : Nat × Nat) (y : CV) (v : Value), Tg[n]? = some t → lents[n]? = some y → H[n]? = some v → ∃ T zs, y = .sl (.lnt n) T zs ∧ VRc E' zAG (.k t.1) t.2 y v)
include hp hπ hρ hold he htips hHL hTL hlents
theorem zEK (hL : LentApart L) {n : Nat} {z : Lent} {y : CV} {g : Fl} {vk : Value} {xs zs : List z.2.2.2.den} (h1 : L[n]? = some z) (h2 : lents[n]? = some y) (h3 : y = .sl g z.2.2.2 zs) (h4 : zs.length = xs.length)
 (hk : RdP E.w (fun q => okF E (.k z.1) z.2.1 .own (z.2.2.1 ++ q)) (fun q => qF E (.k z.1) z.2.1 .own (z.2.2.1 ++ q)) vk (.sl z.2.2.2.sz (xs.map z.2.2.2.toD))) :
 RdP (E.back E' π ρ d).w (fun q => okF (E.back E' π ρ d) (.k z.1) z.2.1 .own (z.2.2.1 ++ q)) (fun q => qF (E.back E' π ρ d) (.k z.1) z.2.1 .own (z.2.2.1 ++ q)) vk (.sl z.2.2.2.sz (zs.map z.2.2.2.toD)) := by
 have hn : n < L.length := (List.getElem?_eq_some_iff.1 h1).1
 have ht := List.getElem?_eq_getElem (l := Tg) (by omega : n < Tg.length)
 have hv := List.getElem?_eq_getElem (l := H) (by omega : n < H.length)
 obtain ⟨T, zs', e, hy⟩ := hlents n _ y _ ht h2 hv
 subst h3
 cases e
 exact zG9 hp hπ hρ hold he hL h1 ht hv hk (htips n z _ h1 hv) hy h4
theorem zIh {k c i : Nat} (hrow : ∀ (n : Nat) (z : Lent), L[n]? = some z → z.1 = k ∧ z.2.1 = c ∧ ∃ j, z.2.2.1 = [(i, j)]) (hL : LentApart L) (hnd : zAW (L.map fun z => (z.2.2.1.headD (0, 0)).2) = true)
 {T : Ty} {xs : List T.den} {x' : T.den} {row : List CV} {vk : Value} {ps : List Prop} (hr : zCf k c i L lents (T.enc .own (xs.getD i T.dflt)) = some (row, ps)) (hps : ∀ p ∈ ps, p) (hdec : T.dec row = some x')
 (hk : RdP E.w (fun q => okF E (.k k) c .own ([] ++ q)) (fun q => qF E (.k k) c .own ([] ++ q)) vk (.sl T.sz (xs.map T.toD))) :
 RdP (E.back E' π ρ d).w (fun q => okF (E.back E' π ρ d) (.k k) c .own ([] ++ q)) (fun q => qF (E.back E' π ρ d) (.k k) c .own ([] ++ q)) vk (.sl T.sz ((xs.set i x').map T.toD)) := by
 have hm0 := zCJ hp hπ hρ hold he (k := k) (c := c) (p := []) (fun l' hl' => by
  obtain ⟨n', z', t', v', g1, g2, g3, g4, q, e, _⟩ := hl'
  obtain ⟨_, _, j, hj⟩ := hrow n' z' g1
  rw [hj] at e
  injection e with e1 e2 e3
  cases e3)
 have hmv : ∀ (x : Nat × Nat) (q : List (Nat × Nat)), (∀ (n : Nat) (z : Lent), L[n]? = some z → z.2.2.1 ≠ [x]) → zF6 E (E.back E' π ρ d) (.arr (.k k) c (x :: q)) (.arr (.k k) c (x :: q)) := by
  intro x q hx
  refine zCJ hp hπ hρ hold he (fun l' hl' => ?_)
  obtain ⟨n', z', t', v', g1, g2, g3, g4, q', e, _⟩ := hl'
  obtain ⟨_, _, j, hj⟩ := hrow n' z' g1
  injection e with e1 e2 e3
  rw [hj] at e3
  simp at e3
  exact hx n' z' g1 (by rw [hj, e3.1])
 have hsz := Ty.sz_pos T
 obtain ⟨hlr, _, hget⟩ := zD3 hr hps hnd
 rw [Ty.enc_length] at hlr
 by_cases hxs : xs = []
 · subst hxs
   have hq := hk.top
   simp only [List.append_nil] at hq
   obtain ⟨ad, cap, rfl, hcap⟩ := RdP.shape hk
   have ht := Tip.moves hm0 hq
   exact RdP.nil ad cap T.sz (by simp only [List.append_nil]; exact ht)
 have hne : xs.map T.toD ≠ [] := by simpa using hxs
 obtain ⟨b', o', cap, rfl, hcap, hlen, hq, u, hc, hkk⟩ := RdP.cells hk hne
 simp only [List.append_nil] at hq hc
 have hq : Tip E (.arr (.k k) c []) (.slice (some ⟨b', o', none⟩) (xs.map T.toD).length cap) T.sz := hq
 have ho' : o' = 0 := by
  match o', hq with
  | 0, _ => rfl
  | _ + 1, hq => exact hq.elim
 subst ho'
 have hqt := Tip.moves hm0 hq
 obtain ⟨q1, q2, q3, cs, cty, lo, hi, q4, q5, q6⟩ := hq
 obtain ⟨m1, m2, m3⟩ := hm0 b' q1
 have htd := Ty.dec_toD T _ x' hdec
 have hxa : ∀ (ha : i < xs.length), xs.getD i T.dflt = xs[i] := fun ha => by rw [List.getD_eq_getElem?_getD, List.getElem?_eq_getElem ha]; rfl
 have hlen' : ∀ z ∈ (xs.set i x').map T.toD, z.length = T.sz := by
  intro z hz
  obtain ⟨y, _, rfl⟩ := List.mem_map.1 hz
  exact Ty.toD_length T y
 rw [List.length_map] at hqt hcap
 rw [List.length_map]
 refine zCm (m3.trans q4) (by simp) hcap hlen' (by simp only [List.append_nil]; exact hqt) (fun o ho => ?_) (fun i' j hi' hj => ?_)
 · simp only [List.append_nil]
   refine ⟨?_, hqt.1⟩
   rw [hqt.2.1]; exact ho
 · have hi2 : i' < xs.length := by simpa using hi'
   have hi3 : i' < (xs.map T.toD).length := by simpa using hi2
   have e1 : ((xs.set i x').map T.toD)[i'] = T.toD ((xs.set i x')[i']'(by simpa using hi2)) := by rw [List.getElem_map]
   have hjs : j < T.sz := by rw [← hlen' _ (List.getElem_mem hi')]; exact hj
   obtain ⟨hcell, _⟩ := hc i' j hi3 hjs
   rw [Nat.zero_add] at hcell
   have hcs : cs[i' * T.sz + j]? = some (u i' j) := by simpa [World.cell?, q4] using hcell
   refine ⟨u i' j, hcs, ?_⟩
   have hj2 : j < ((xs.map T.toD)[i']'hi3).length := by rw [List.getElem_map, Ty.toD_length]; exact hjs
   have hchild := hkk i' j hi3 hj2
   have same : (∀ (n : Nat) (z : Lent), L[n]? = some z → z.2.2.1 ≠ [(i', j)]) → ((xs.set i x').map T.toD)[i'][j]? = ((xs.map T.toD)[i']'hi3)[j]? →
    RdP (E.back E' π ρ d).w (fun p => okF (E.back E' π ρ d) (.k k) c .own ([] ++ (i', j) :: p)) (fun p => qF (E.back E' π ρ d) (.k k) c .own ([] ++ (i', j) :: p)) (u i' j) (((xs.set i x').map T.toD)[i'][j]) := by
    intro h1 h2
    have ed2 : ((xs.set i x').map T.toD)[i'][j] = ((xs.map T.toD)[i']'hi3)[j] := by
     rw [List.getElem?_eq_getElem hj2] at h2
     exact (List.getElem?_eq_some_iff.1 h2).2
    rw [ed2]
    exact zDB (E := E) (k := .k k) (k' := .k k) (c := c) (c' := c) (p0 := [(i', j)]) (g := fun q => (i', j) :: q) (fun q => hmv _ _ h1) hchild
   by_cases hii : i' = i
   · subst hii
     have hrowD : ((xs.set i' x').map T.toD)[i'] = row.map CV.toD := by rw [e1, List.getElem_set_self, htd]
     have hold0 : ((xs.map T.toD)[i']'hi3) = (T.enc .own (xs.getD i' T.dflt)).map CV.toD := by rw [List.getElem_map, Ty.enc_toD, hxa hi2]
     rcases hget j with ⟨n, U, y, f, g, ys1, zs, a1, a2, a3, a4, a5, a6⟩ | ⟨a1, a2⟩
     · have d1 : ((xs.map T.toD)[i']'hi3)[j] = (CV.sl f U ys1).toD := by
        have : ((xs.map T.toD)[i']'hi3)[j]? = some (CV.sl f U ys1).toD := by rw [hold0, List.getElem?_map, a5]; rfl
        exact (List.getElem?_eq_some_iff.1 this).2
       have d2 : ((xs.set i' x').map T.toD)[i'][j] = (CV.sl f U zs).toD := by
        have : ((xs.set i' x').map T.toD)[i'][j]? = some (CV.sl f U zs).toD := by rw [hrowD, List.getElem?_map, a6]; rfl
        exact (List.getElem?_eq_some_iff.1 this).2
       rw [d2]
       rw [d1] at hchild
       exact zEK hp hπ hρ hold he htips hHL hTL hlents hL (z := (k, c, [(i', j)], U)) (xs := ys1) a1 a2 a3 a4 hchild
     · exact same (fun n z hz e => a2 n z hz e) (by rw [hrowD, hold0, List.getElem?_map, List.getElem?_map, a1])
   · refine same (fun n z hz e => ?_) (by rw [e1, List.getElem_map, List.getElem_set_ne (Ne.symm hii)])
     obtain ⟨_, _, j', hj'⟩ := hrow n z hz
     rw [hj'] at e
     simp at e
     exact hii e.1.symm
end
section
variable {C : Ctx} {σ : St} {a : Act} {E E' : Env} {u u' : Ups} {tt : TT} {o : Oper} {md : Md} {v : AV} {ob : List Prop}
theorem zF1 {f : Fl} {T : Ty} {xs : List T.den} {x : CV} {s : List Nat} {m : Bool} (h : x.stale s m = .sl f T xs) : x = .sl f T xs := by
 rcases CV.stale_eq (s := s) (m := m) x with e | ⟨e, _⟩
 · rw [e] at h; cases h
 · rw [← e, h]
theorem zDt {E : Env} {bxs : Nat → Prop} {k c : Nat} {f : Fl} {T : Ty} {xs : List T.den} {v : Value} (hm : CV.mutable (.sl f T xs) = true) (hv : VRc E bxs (.k k) c (.sl f T xs) v) :
 RdP E.w (fun q => okF E (.k k) c .own ([] ++ q)) (fun q => qF E (.k k) c .own ([] ++ q)) v (.sl T.sz (xs.map T.toD)) ∧ ∀ (E2 : Env) (bxs2 : Nat → Prop) (zs : List T.den), E2.hdr = E.hdr →
  RdP E2.w (fun q => okF E2 (.k k) c .own ([] ++ q)) (fun q => qF E2 (.k k) c .own ([] ++ q)) v (.sl T.sz (zs.map T.toD)) → VRc E2 bxs2 (.k k) c ((CV.sl f T zs).stale [zAe] true) v := by
 have hfl : f = .own ∨ ∃ n, f = .lnt n := by cases f <;> simp [CV.mutable] at hm ⊢
 rcases hfl with rfl | ⟨n, rfl⟩
 · exact ⟨hv, fun E2 bxs2 zs _ h => h⟩
 · refine ⟨RdP.mono hv (fun q b o ho => ⟨rfl, ho⟩) (fun q v sz ht => ht.1), fun E2 bxs2 zs hh h => ?_⟩
   have hq : v = E.hdr n := (RdP.top hv).2 rfl
   exact RdP.mono h.topq (fun q b o ho => ⟨rfl, ho⟩) (fun q v' sz ht => ⟨ht.1, fun hq0 => by rw [ht.2 hq0, hq, hh]⟩)
theorem zEs {w : World} (hi : Inv C (St.get (u ++ σ)) a.tmps E) (hw : E.w = w) {vals : Array Value} {f : FuncId} {r : CallO} (hpl : r.plain = true)
 {as : List Arg} (hA : ArgsOk E (St.get (u ++ σ)) as [] vals.toList) (hrd : zBO as = false)
 (h : Mr ((zDp (zAT 0 as).2 r.lents).bind fun ps => M.pure (r.res, AbsCalls C.P f (zAT 0 as).1 r :: ps)) σ u = some ((v, ob), u')) (hob : ∀ q ∈ ob, q) : Does C.P f vals w fun val w' => Hand C (u' ++ σ) a.tmps w' 0 v val := by
 subst hw
 obtain ⟨hpr, hpo⟩ : r.res.plain = true ∧ r.outs.all (·.all CV.plain) = true := by simpa [CallO.plain] using hpl
 obtain ⟨ps, u1, h1, h2⟩ := zAa h
 obtain ⟨e, rfl⟩ := zAc h2
 cases e
 have hcon : AbsCalls C.P f (zAT 0 as).1 r := hob _ List.mem_cons_self
 have hps : ∀ p ∈ ps, p := fun p hp => hob p (List.mem_cons_of_mem _ hp)
 generalize hLdef : (zAT 0 as).2 = L at h1
 unfold zDp at h1
 split at h1
 case h_2 => exact (zAb h1).elim
 rename_i z0 L'
 obtain ⟨b, u2, h3, h4⟩ := zAa h1
 obtain ⟨rfl, rfl⟩ := zAl h3
 split at h4
 case h_2 => exact (zAb h4).elim
 rename_i g cs hg
 obtain ⟨⟨cs', ps'⟩, u3, h5, h6⟩ := zAa h4
 obtain ⟨hnew, rfl⟩ := zAw h5
 obtain ⟨_, u4, h7, h8⟩ := zAa h6
 obtain rfl := zAj h7
 obtain ⟨_, u5, h9, h10⟩ := zAa h8
 obtain rfl := zAj h9
 obtain ⟨e10, rfl⟩ := zAc h10
 subst e10
 have hz0 : (z0 :: L')[0]? = some z0 := rfl
 generalize z0 :: L' = L at *
 generalize hkk : z0.1 = k at *
 have hall : ∀ (j : Nat) (x : Arg) (v : Value), as[j]? = some x → (vals.toList)[j]? = some v → ∃ g cs, x = .val (.v g cs) ∧ VR1 E (zAd (St.get (u3 ++ σ))) (.h 1) 0 g cs v ∧ ∀ x ∈ cs, x.isBor = false := by
  intro j x v hx hv
  obtain ⟨g, cs, rfl, hb⟩ := zCg hrd j x hx
  obtain ⟨_, hvr⟩ := hA.val j _ v hx hv
  exact ⟨g, cs, rfl, hvr (.h 1), hb⟩
 obtain ⟨hHL, hTL, htips⟩ := zGq (m := 0) (i := 0) hA.len hall
 generalize hH : zCs as (vals.toList) = H at *
 generalize hT : zAD 0 (zAT 0 as).1 = Tg at *
 rw [hLdef] at hHL hTL htips
 have hTinj : ∀ (n n' : Nat) (t : Nat × Nat), Tg[n]? = some t → Tg[n']? = some t → n = n' := by rw [← hT]; exact fun n n' t => zDq
 have hshape : LentApart L ∧ (∀ (n : Nat) (z : Lent), L[n]? = some z → z.1 = k) ∧ cs'.length = cs.length ∧ ∀ (E2 : Env) (π ρ d : Own → Option Own) (hdr : Nat → Value) (hp : Pass π ρ d) (hπ : ∀ l l', π l = some l' ↔ zCx L Tg H l l')
  (hρ : ∀ l' l, ρ l' = some l ↔ zCx L Tg H l l' ∨ (∃ c p, l = .arr (.h 0) c p ∧ l' = .arr (.h 0) c p))
  (hold : ∀ b, b < E.w.heap.size → (E.into π true E.bx hdr).ow b = none → E2.w.heap[b]? = E.w.heap[b]? ∧ E2.hw b = (E.into π true E.bx hdr).hw b ∧ E2.ow b = none)
  (hlents : ∀ (n : Nat) (t : Nat × Nat) (y : CV) (v : Value), Tg[n]? = some t → r.lents[n]? = some y → H[n]? = some v → ∃ T zs, y = .sl (.lnt n) T zs ∧ VRc E2 zAG (.k t.1) t.2 y v)
  (bxs' : Nat → Prop) (j : Nat) (x' : CV) (v : Value), cs'[j]? = some x' → (∃ x, cs[j]? = some x ∧ VRc E (zAd (St.get (u3 ++ σ))) (.k k) j x v) →
  VRc (E.back E2 π ρ d) bxs' (.k k) j (x'.stale [zAe] true) v ∨ ((∀ (n : Nat) (z : Lent), L[n]? = some z → z.2.1 ≠ j) ∧ ∃ x, cs[j]? = some x ∧ x' = x.stale [k] false) := by
  unfold zG8 at hnew
  split at hnew
  · rename_i k0 c0 U L0
    cases hnd : zAW (((k0, c0, ([] : List (Nat × Nat)), U) :: L0).map fun z => z.2.1) with
    | false => rw [hnd] at hnew; cases hnew
    | true =>
      rw [hnd] at hnew
      simp only [jT] at hnew
      generalize hL0 : (k0, c0, ([] : List (Nat × Nat)), U) :: L0 = L at *
      have hk0 : k0 = k := by rw [← hL0] at hz0; rw [← hkk, ← Option.some.inj hz0]
      subst hk0
      obtain ⟨t1, t2, t3⟩ := zGF hnew hps hnd
      have hap := LentApart.top hnd
      refine ⟨hap, fun n z hz => (t2 n z hz).1, by simpa using t1, ?_⟩
      intro E2 π ρ d hdr hp hπ hρ hold hlents bxs' j x' v hx' hx
      obtain ⟨x, hx1, hx2⟩ := hx
      rcases t3 j with ⟨n, T, y, f0, g0, xs, zs, a1, a2, a3, a4, a5, a6, a7⟩ | ⟨a1, a2⟩
      · rw [a7] at hx'
        cases hx'
        rw [List.getElem?_map, hx1] at a5
        have a5 := zF1 (Option.some.inj a5)
        subst a5
        obtain ⟨m1, m2⟩ := zDt a6 hx2
        exact .inl (m2 _ bxs' zs rfl (zEK hp hπ hρ hold hi.env htips hHL hTL hlents hap (z := (k0, j, [], T)) a1 a2 a3 a4 m1))
      · rw [a1, List.getElem?_map, hx1] at hx'
        cases hx'
        exact .inr ⟨a2, x, hx1, rfl⟩
  · rename_i k0 c0 i0 j0 U L0
    cases hnd : zAW (((k0, c0, [(i0, j0)], U) :: L0).map fun z => (z.2.2.1.headD (0, 0)).2) with
    | false => rw [hnd] at hnew; cases hnew
    | true =>
      rw [hnd] at hnew
      simp only [jT] at hnew
      generalize hL0 : (k0, c0, [(i0, j0)], U) :: L0 = L at *
      have hk0 : k0 = k := by rw [← hL0] at hz0; rw [← hkk, ← Option.some.inj hz0]
      subst hk0
      split at hnew
      · rename_i f0 T xs hcell
        cases hm : CV.mutable (.sl f0 T xs) with
        | false => rw [hm] at hnew; cases hnew
        | true =>
          rw [hm] at hnew
          simp only [jT] at hnew
          split at hnew
          · rename_i row ps2 hrow
            split at hnew
            · rename_i x1 hdec
              cases hnew
              obtain ⟨t1, t2, t3⟩ := zD3 hrow hps hnd
              have hap := LentApart.row t2 hnd
              refine ⟨hap, fun n z hz => (t2 n z hz).1, by simp, ?_⟩
              intro E2 π ρ d hdr hp hπ hρ hold hlents bxs' j x' v hx' hx
              obtain ⟨x, hx1, hx2⟩ := hx
              by_cases hj : j = c0
              · subst hj
                rw [List.getElem?_map, hx1] at hcell
                have hcell := zF1 (Option.some.inj hcell)
                subst hcell
                rw [List.getElem?_set_self (by simpa using (List.getElem?_eq_some_iff.1 hx1).1)] at hx'
                cases hx'
                obtain ⟨m1, m2⟩ := zDt hm hx2
                exact .inl (m2 _ bxs' _ rfl (zIh hp hπ hρ hold hi.env htips hHL hTL hlents t2 hap hnd hrow hps hdec m1))
              · rw [List.getElem?_set_ne (Ne.symm hj), List.getElem?_map, hx1] at hx'
                cases hx'
                exact .inr ⟨fun n z hz e => hj (e.symm.trans (t2 n z hz).2.1), x, hx1, rfl⟩
            · cases hnew
          · cases hnew
      · cases hnew
  · cases hnew
 obtain ⟨hap, hLk, hlen', hcells⟩ := hshape
 obtain ⟨π, ρ, d, hp, hπ, hρ⟩ := zHi (H := H) hap hTinj
 have hargs : ArgsAt (E.into π true E.bx (fun n => H.getD n undef)) 0 (zAT 0 as).1 vals.toList := by
  refine zGp hi.env hA.len hall (fun n z t h1 h2 h3 q => ?_) (fun n v hv => ?_)
  · rw [hLdef] at h1
    rw [hT] at h2
    have hn : n < H.length := by rw [hHL]; exact (List.getElem?_eq_some_iff.1 h1).1
    refine (hπ _ _).2 ⟨n, z, t, H[n], h1, h2, List.getElem?_eq_getElem hn, fun m c' e => ?_, q, rfl, rfl⟩
    refine h3 m c' ?_
    rw [Nat.zero_add, List.getD_eq_getElem?_getD, List.getElem?_eq_getElem hn]
    exact e
  · rw [hH] at hv
    rw [Nat.zero_add, List.getD_eq_getElem?_getD, hv]; rfl
 refine (hcon (E.into π true E.bx (fun n => H.getD n undef)) _ (zCj hp hi.env) (zBb hi.bas) hargs).mono fun val w' hr => ?_
 obtain ⟨E', rfl, hx⟩ := hr
 have hold := hx.old
 have hlents : ∀ (n : Nat) (t : Nat × Nat) (y : CV) (v : Value), Tg[n]? = some t → r.lents[n]? = some y → H[n]? = some v → ∃ T zs, y = .sl (.lnt n) T zs ∧ VRc E' zAG (.k t.1) t.2 y v := by
  intro n t y v h1 h2 h3
  rw [← hT] at h1
  obtain ⟨T, zs, e, hy⟩ := zEZ hx.lents h1 h2
  rw [Nat.zero_add] at e hy
  have : E'.hdr n = v := by
   rw [hx.hdr]
   show H.getD n undef = v
   rw [List.getD_eq_getElem?_getD, h3]; rfl
  rw [this] at hy
  exact ⟨T, zs, e, hy⟩
 have hst := zBt (mu := True) hp hi.env hold (fun hm => absurd trivial hm)
 have hbk := zCA hp hi.env hx.env hx.size
 have hdk : ∀ pl c, dkC ρ pl c → pl = .h 0 ∨ (pl = .k k ∧ ∃ (n : Nat) (z : Lent), L[n]? = some z ∧ z.2.1 = c) := by
  rintro pl c ⟨p, l', h⟩
  rcases (hρ _ _).1 h with ⟨n, z, t, v, h1, h2, h3, h4, q, e, _⟩ | ⟨c', p', h, _⟩
  · injection e with e1 e2 e3
    exact .inr ⟨by rw [e1, hLk n z h1], n, z, h1, e2.symm⟩
  · cases h; exact .inl rfl
 have hdb : ∀ s', ¬ dbC ρ s' := by
  rintro s' ⟨l', h⟩
  rcases (hρ _ _).1 h with ⟨n, z, t, v, h1, h2, h3, h4, q, e, _⟩ | ⟨c', p', h, _⟩
  · cases e
  · cases h
 have key : ∀ (bxs' : Nat → Prop) (vals : List Value), (∀ s, zAd (St.get (u3 ++ σ)) s → bxs' s ∧ (E.back E' π ρ d).bx s = E.bx s) → VRs E (zAd (St.get (u3 ++ σ))) (.k k) 0 cs vals →
  VRs (E.back E' π ρ d) bxs' (.k k) 0 (cs'.map (CV.stale [zAe] true)) vals := by
  intro bxs' vals hbx hv
  have hvl := zAh hv
  refine zBf (by simp [hlen', hvl]) fun j z y hz hy => ?_
  rw [List.getElem?_map, Option.map_eq_some_iff] at hz
  obtain ⟨x', hx', rfl⟩ := hz
  have hjl : j < cs.length := by rw [← hlen']; exact (List.getElem?_eq_some_iff.1 hx').1
  have hvj := zAz hv (List.getElem?_eq_getElem hjl) hy
  rw [Nat.zero_add] at hvj ⊢
  rcases hcells E' π ρ d _ hp hπ hρ hold hlents bxs' j x' y hx' ⟨_, List.getElem?_eq_getElem hjl, hvj⟩ with h | ⟨h1, x, hx1, rfl⟩
  · exact h
  · rw [List.getElem?_eq_getElem hjl] at hx1
    cases hx1
    rw [CV.stale_stale (s := [zAe, k]) (m := true) _ (fun q => by simp [Bool.or_comm]) rfl]
    refine CW.vr hst hbx (CW.stale (fun _ hd => ?_) (fun k' c' hd => ?_) (fun _ => rfl)) hvj
    · rcases hdk _ _ hd with hd | ⟨_, n, z, hz, e⟩
      · cases hd
      · exact h1 n z hz e
    · rcases hdk _ _ hd with hd | ⟨hd, _⟩
      · cases hd
      · cases hd; simp
 have hG : ∀ q, St.get (((zAe, .none) :: (k, .v g cs') :: u3) ++ σ) q =
  if zAe = q then .none else if k = q then .v g (cs'.map (CV.stale [zAe] true)) else ((St.get (u3 ++ σ) q).mapC (CV.stale [zAe, k] true)) := by
  intro q
  show St.get ((zAe, _) :: ((k, _) :: (u3 ++ σ))) q = _
  rw [St.get_cons]
  split
  · rfl
  · rw [St.get_cons]
    split
    · rfl
    · rw [AV.mapC_comp]
      congr 1
      funext z
      exact CV.stale_stale z (fun q => by simp [Bool.or_comm]) (by simp)
 have hbx : ∀ s, zAd (St.get (u3 ++ σ)) s → zAd (St.get (((zAe, .none) :: (k, .v g cs') :: u3) ++ σ)) s ∧ (E.back E' π ρ d).bx s = E.bx s := by
  intro s hs
  refine ⟨?_, rfl⟩
  obtain ⟨ys, hys⟩ := hs
  unfold zAd
  rw [hG, if_neg (by unfold zAe; omega)]
  split
  · rename_i e
    rw [e, hys] at hg
    cases hg
    exact ⟨_, rfl⟩
  · rw [hys]; exact ⟨_, rfl⟩
 have cw : ∀ (pl : Pl) (j : Nat) (z : CV), pl ≠ .h 0 → pl ≠ .k k → CW (dkC ρ) True pl j (z.stale [zAe, k] true) z := by
  intro pl j z h1 h2
  refine CW.stale (fun _ hd => ?_) (fun k' c' hd => ?_) (fun _ => rfl)
  · rcases hdk _ _ hd with h | ⟨h, _⟩
    · exact h1 h
    · exact h2 h
  · rcases hdk _ _ hd with h | ⟨h, _⟩
    · cases h
    · cases h; simp
 have hres := zCv (E := E) (π := π) (hide := true) (bx := E.bx) (hdr := fun n => H.getD n undef) (d := d) (bxs := zAd (St.get (((zAe, .none) :: (k, .v g cs') :: u3) ++ σ))) hold hpr (fun c p => (hρ _ _).2 (.inr ⟨c, p, rfl, rfl⟩)) (hx.res.vr (zA9 hpr))
 simp only [jT] at hres
 refine ⟨E.back E' π ρ d, rfl, hi.step hst hx.os hx.tape hx.output hx.size (fun b hlt h0 => ?_) hbk.new hbk.inj hbk.boxhw rfl hbx (fun t => ?_) (fun s cs2 hs => ?_), hres⟩
 · have h2 := (hi.old b hlt h0).2.2
   have hlt2 : b < E.w.heap.size := Nat.lt_of_lt_of_le hlt hi.size
   obtain ⟨a1, a2, a3⟩ := hold b hlt2 (by simp [Env.into, h2])
   have hf : E.frame π b := ⟨hlt2, by rw [h2]; rfl⟩
   exact ⟨a1, by simp [Env.back, hf], by simp [Env.back, hf, h2]⟩
 · rw [hG]
   by_cases hm : zAe = 2 * t
   · rw [if_pos hm]; exact .inl trivial
   · rw [if_neg hm]
     by_cases hk : k = 2 * t
     · rw [if_pos hk]
       refine .inl ?_
       have ht := hi.tmp t
       rw [← hk, hg] at ht
       rw [← hk]
       cases g with
       | true =>
         obtain ⟨vv, e, hvv⟩ := ht
         exact ⟨vv, e, key _ _ hbx hvv⟩
       | false => exact key _ _ hbx ht
     · rw [if_neg hk]
       exact .inr ⟨AWk.map (fun j z => cw _ _ _ (by simp) (by simp; omega)) _, rfl⟩
 · rw [hG, if_neg (by unfold zAe; omega)] at hs
   by_cases hk : k = 2 * s + 1
   · rw [if_pos hk] at hs
     injection hs with hs1 hs2
     subst hs1
     have hbr := hi.box s cs (by rw [← hk]; exact hg)
     obtain ⟨r1, vals, ety, r2, r3⟩ := hbr
     obtain ⟨b1, b2, b3⟩ := hst.box s r1 (hdb s)
     refine .inl ⟨by rw [b1]; exact b2, vals, ety, by rw [b1, b3]; exact r2, ?_⟩
     rw [← hs2, ← hk]
     rw [← hk] at r3
     exact key _ _ hbx r3
   · rw [if_neg hk] at hs
     cases hq : St.get (u3 ++ σ) (2 * s + 1) with
     | v g' cs0 =>
       rw [hq] at hs
       injection hs with hs1 hs2
       subst hs1 hs2
       exact .inr ⟨hdb s, cs0, rfl, CWs.map (fun j z => cw _ _ _ (by simp) (by simp; omega)) _ _⟩
     | tup xs => rw [hq] at hs; cases hs
     | none => rw [hq] at hs; cases hs
end
end Go.Ab
end
