/- The statement FnNormal holds: plain functions, certificates, laws. Conditions: none. -/
import Derived.Test.YthbobcapimmnhaaGreatDoorL2
import Derived.Test.YthbobcapimmnhaaGreatDoorFnNormalP2
set_option linter.all false
section
namespace Go.Proofs.YthbobcapimmnhaaGreatDoor
open Go.Ab Go.ChangeShapes Go.WideShapes Go.ChangeAt Go.RowKit
theorem own : ownKnob Tryz.prog.godebug = none := by kernel_rfl
theorem xXc : laidOutB Tryz.prog = true := by kernel_rfl
theorem xNp : zGk Tryz.prog [(5, .byte)] = true := by kernel_rfl
theorem fnNormal_tab {W : World} (h : laidMetH Tryz.prog Rows.fnNormalRow.laid W) : Go.Lib.TabIs Tryz.prog W Go.Ab.T.p10 .u64 Go.Lib.pow10Tab := by
 rw [MakeChecks.laidMetH_plain _ _ _ (by kernel_rfl)] at h
 exact Go.Lib.tabIs_of_head (g := 3) (t := 137) (e := 123) (n := 20) (by kernel_rfl) (by kernel_rfl) Tryz.underlying137 Tryz.underlying123 (by kernel_rfl) (by kernel_rfl) h.tail.tail
theorem fnNormal_ev {W : World} (h : laidMetH Tryz.prog Rows.fnNormalRow.laid W) : (∃ t1 p1, W.var? Tryz.prog "strconv.ErrSyntax" = some #[.iface t1 p1]) ∧ ∃ t2 p2, W.var? Tryz.prog "strconv.ErrRange" = some #[.iface t2 p2] := by
 rw [MakeChecks.laidMetH_plain _ _ _ (by kernel_rfl)] at h
 have star : "*" ++ "errors.errorString" = "*errors.errorString" := by decide
 have row : ∀ u, Tryz.prog.typeName? 3 u = some "*errors.errorString" → u = 146 := fun u hu => typeName_ptr_named (nm := "errors.errorString") (by rw [star]; kernel_rfl) (by kernel_rfl) (by decide) u (by rw [star]; exact hu)
 obtain ⟨a_hs, _, hs, _⟩ := laid_sentinel (g := 1) (ti := 99) (tp := 146) (te := 148) (ts := 9) h.tail.tail.tail.tail (by kernel_rfl) (by kernel_rfl) Tryz.underlying99 row Tryz.underlying146 Tryz.underlying148 rfl rfl Tryz.underlying9 (by kernel_rfl) (by kernel_rfl)
 obtain ⟨a_hr, _, hr, _⟩ := laid_sentinel (g := 2) (ti := 99) (tp := 146) (te := 148) (ts := 9) h.tail.tail.tail (by kernel_rfl) (by kernel_rfl) Tryz.underlying99 row Tryz.underlying146 Tryz.underlying148 rfl rfl Tryz.underlying9 (by kernel_rfl) (by kernel_rfl)
 exact ⟨⟨_, _, hs⟩, _, _, hr⟩
set_option maxRecDepth 100000 in
theorem fnNormal_lifted (os : Os) (started : os.Started) (H : Type) (enc : TypeId × Value → H) :
 ReturnsInHanded {} Tryz.checked os 8 .any (fun w args => (Rows.fnNormalSpec.pre enc Tryz.prog Tryz.f8 Rows.fnNormalRow.domain false w args ∧ laidMetH Tryz.prog Rows.fnNormalRow.laid w) ∧ sizedMet enc Tryz.prog Tryz.f8 (OpenSpec.ofChange Rows.fnNormalSpec) false w args)
  (Rows.fnNormalSpec.post enc Tryz.prog Tryz.f8 false true false false) := by
 refine returnsInHanded_of_change_and (C := Tryz.checked) (X := fun w _ => laidMetH Tryz.prog Rows.fnNormalRow.laid w) (fun _ _ _ hh h => h.of_heap hh) own started (by kernel_rfl) Tryz.func8
  (ChangeSpec.witness_shaped (enc := enc) (C := Tryz.checked) (os := os) (X := fun w _ => laidMetH Tryz.prog Rows.fnNormalRow.laid w) false (World.laidAll Tryz.prog os Rows.fnNormalRow.laid) #[.slice none 0 0] 8 (World.laidAll_os _ _ _)
    (World.shaped_of_ZipB (by kernel_rfl) (by kernel_rfl)) (by kernel_rfl) (by kernel_rfl) (by kernel_rfl)
    (by rw [MakeChecks.laidMetH_plain _ _ _ (by kernel_rfl)]; exact laidMet_laidAll _ (by kernel_rfl) (by kernel_rfl))) ?_
 intro W base args ds gs before hval0 hW hcnd _ hL _
 obtain ⟨g0, o0, hgo, hall⟩ := vCt (fnNormal_tab hL)
 obtain ⟨⟨u1, u2, hv1⟩, u3, u4, hv2⟩ := fnNormal_ev hL
 obtain ⟨g3, o3, hgo3, hall3⟩ := xSV hv1
 obtain ⟨g4, o4, hgo4, hall4⟩ := xSV hv2
 letI : Inhabited Lb := ⟨⟨[(g0, o0), (g3, o3), (g4, o4)]⟩⟩
 haveI : Nonempty T.Tab10 := ⟨fun w hw => hall w (hw (g0, o0) List.mem_cons_self)⟩
 haveI : Nonempty T.ErrVars := ⟨fun w hw => ⟨⟨u1, u2, hall3 w (hw (g3, o3) (List.mem_cons_of_mem _ List.mem_cons_self))⟩, u3, u4, hall4 w (hw (g4, o4) (List.mem_cons_of_mem _ (List.mem_cons_of_mem _ List.mem_cons_self)))⟩⟩
 have hlb : ∀ x ∈ zDP, W.heap[x.1]? = some x.2 := fun x hx => by
  have hx : x ∈ [(g0, o0), (g3, o3), (g4, o4)] := hx
  simp only [List.mem_cons, List.not_mem_nil, or_false] at hx
  rcases hx with rfl | rfl | rfl <;> first | exact hgo | exact hgo3 | exact hgo4
 have hval : ∀ (j : Nat) t v, Tryz.f8.params[j]? = some t → args[j]? = some v → Value.okWide Tryz.prog W .any base t v := hval0
 have hW' := hW
 obtain ⟨p, q, hA0, hV, rfl, hfz, hnd⟩ := hW
 have hA : DataW.TrodAll enc Tryz.prog W 0 (fun _ => true) true Tryz.f8.params.toList args.toList ds p := hA0
 rw [Tryz.params8] at hA hval
 obtain ⟨v0, vs0, d0, ds0, p0, q0, hargs, rfl, rfl, h0, r0⟩ := trodAll_cons hA
 obtain ⟨rfl, rfl, rfl⟩ := trodAll_nil r0
 obtain rfl : args = #[v0] := by cases args; simp_all
 obtain ⟨rfl, rfl⟩ := trodVars_none hV
 have lt0 : ∀ x ∈ p0, x.block < W.heap.size := by obtain ⟨m, hm⟩ := h0; exact DataW.trod_lt m _ _ _ hm
 obtain ⟨z0, e0, f0, vr0⟩ := vr_of xNp (g := false) (t := 32) (ns := [.inr .byte]) (by kernel_rfl) (hval 0 32 v0 rfl rfl) h0
 obtain ⟨x0_0, _, rfl, e0_0⟩ := AreOf.sl_inv e0
 obtain rfl := e0_0.nil_inv
 obtain ⟨N, hF⟩ := xLa x0_0 f0
 clear hA0 hval0
 refine (zIb T.fk8 (T.laws_FnNormal_ok hF) (W := W) (args := #[v0]) ⟨vr0 _, trivial⟩ hlb).mono fun e W' ⟨he, bel⟩ => ?_
 subst he
 exact ⟨_, rfl, _, _, _, [], _, [], hW', trodAll_mk1 (shut_bool Tryz.underlying4 _), (trodAll_cons_mk (Below.trod xXc (by kernel_rfl) (of_decide_eq_true (by kernel_rfl)) h0 bel lt0) trodAll_mk0), rfl, bel.frame _, fun h => by cases h⟩
theorem fnNormal_proved : Rows.FnNormalSaid :=
 OpenClaim.holds_of_wide 8 Tryz.f8 rfl rfl rfl rfl rfl rfl rfl ⟨rfl, rfl, rfl, rfl, rfl⟩ rfl rfl rfl rfl rfl (by kernel_rfl) Tryz.func8 (by kernel_rfl)
  (of_decide_eq_true (by kernel_rfl)) (by unfold Func.isWrapper; first | (rw [if_pos (by decide +kernel)]; kernel_rfl) | (rw [if_neg (by decide +kernel)]; exact ⟨rfl, rfl⟩))
  (fun os started H enc _ => fnNormal_lifted os started H enc)
theorem fnNormal_card : Rows.FnNormalCardSaid :=
 Claim7.holds_tied_plain_at .later [] Rows.fnNormalCard.laidKinds true Rows.fnNormalCard.stood.harness Rows.fnNormalCard.stood.looks fnNormal_proved (fun _ h => by cases h) (by kernel_rfl) (fun _ h => by cases h) fnNormal_row_tie rfl ⟨rfl, rfl⟩ (by kernel_rfl) rfl
  (fun f fn hf hfn => by
    obtain rfl : f = 8 := Option.some.inj ((show Tryz.prog.funcNamed Rows.fnNormalRow.func = some 8 by kernel_rfl).symm.trans hf) |>.symm
    obtain rfl : fn = Tryz.f8 := (Option.some.inj (Tryz.func8.symm.trans hfn)).symm
    exact ⟨by kernel_rfl, fun j t ht => by
     rw [Tryz.params8] at ht
     have hm : t ∈ [32] := by simpa using Array.mem_of_getElem? ht
     have hall : ([32].all fun u => !Tryz.prog.wantsStandIn u) = true := by kernel_rfl
     exact (show Tryz.prog.wantsStandIn t = false by simpa using List.all_eq_true.1 hall t hm)⟩)
  (by kernel_rfl)
end Go.Proofs.YthbobcapimmnhaaGreatDoor
end
