/- The statement FnCalls holds: plain functions, certificates, laws. Conditions: none. -/
import Derived.Test.YtdjlpnkiffdnpaaGreatDoorL2
import Derived.Test.YtdjlpnkiffdnpaaGreatDoorFnCallsP2
set_option linter.all false
section
namespace Go.Ab
theorem xEk(n:Int):(Bq n).Fit 1048576:=(JP n).fit _
theorem Nv{l:List Val}(h:zO 1048576 (Val.Fit 1048576) l):(Val.mk 3 0 0 [] l [] []).Fit 1048576:=
 Val.fit_iff.2 ⟨show I64 3 from yX (by omega) (by omega),show I64 0 from yX (by omega) (by omega),show I64 0 from yX (by omega) (by omega),Z9 _,h,A2,A2⟩
theorem xPd{n v:Val}(hn:n.Fit 1048576)(hv:v.Fit 1048576):(Ay n v).1.Fit 1048576/\((Ay n v).2=true->Flat (Ay n v).1):=by
 obtain⟨_,_,_,_,h5,_,_⟩:=Val.fit_iff.1 hv;unfold Ay;cases g:(zG n v).2.1
 ·refine⟨?_,fun h=>by cases h⟩;unfold Fd;simp only [jF];cases hr:(decide (0<=n.n)&&decide (n.n<=8))
  ·exact(zV (yX (by omega) (by omega))).fit _
  ·simp only [Zv,Z1] at hr;cases hk:(v.kind==3)
   ·exact(xPb hk n.n.toNat 0 [] (by simp) (by simp) (by omega)).1
   ·exact Nv (Ns h5 _)
 ·exact⟨(Bu hn hv).fit _,fun _=>Bu hn hv⟩
theorem xK6{n v:Val}(hn:n.Fit 1048576)(hv:v.Fit 1048576):(skG n v).1.Fit 1048576/\((skG n v).2=true->Flat (skG n v).1):=by
 obtain⟨_,_,h3,_,h5,_,_⟩:=Val.fit_iff.1 hv;have nf:∀m:Val,(zH m v).Fit 1048576:=by
  intro m;unfold zH;cases (decide (m.n<0)||((v.kind==3)&&decide (m.n>=(v.list.length:Int))))
  ·cases (v.kind==3)
   ·exact xEk _
   ·simp only [jF,jT];by_cases hl:m.n.toNat<v.list.length
    ·have e:v.list.getD m.n.toNat Dv=v.list[m.n.toNat]:=by simp [List.getD,hl]
     rw [e];exact h5.2 _ (Z4 hl)
    ·have e:v.list.getD m.n.toNat Dv=Val.zero:=by simp [List.getD,ZP (by omega:v.list.length<=m.n.toNat)];rfl
     rw [e];exact HI (yX (by omega) (by omega)) (yX (by omega) (by omega)) (yX (by omega) (by omega)) (Z9 _)
  ·exact(zV (yX (by omega) (by omega))).fit _
 unfold skG;cases g:(zG n v).2.1
 ·refine⟨?_,fun h=>by cases h⟩;unfold skB;simp only [jF];cases decide (n.n<0)
  ·cases (v.kind==3)
   ·cases ((zH n v).kind==6)
    ·exact HI (yX (by omega) (by omega)) (Val.fit_iff.1 (nf n)).2.1 h3 (Z9 _)
    ·exact nf n
   ·exact Nv (Nr h5 _)
  ·exact(zV (yX (by omega) (by omega))).fit _
 ·exact⟨(Bu hn hv).fit _,fun _=>Bu hn hv⟩
end Go.Ab
end
section
namespace Go.Ab
theorem xPs{a b v:Val}(ha:a.Fit 1048576)(hb:b.Fit 1048576)(hv:v.Fit 1048576):(whG a b v).1.Fit 1048576/\((whG a b v).2=true->Flat (whG a b v).1):=by
 obtain⟨_,_,_,_,_,h6,h7⟩:=Val.fit_iff.1 hv;have hf:=Cj (ks:=[2,1,5]) (C3 ha hb hv);unfold whG;cases (yY [2,1,5] [a,b,v]).2.1
 ·cases decide (yT v.columns a.text 0<0)
  ·exact⟨Val.fit_iff.2 ⟨show I64 5 from yX (by omega) (by omega),show I64 0 from yX (by omega) (by omega),show I64 0 from yX (by omega) (by omega),Z9 _,A2,h6,ZF xKu h7.1,fun r hr=>h7.2 r ((YX.1 hr).1)⟩,fun h=>by cases h⟩
  ·exact⟨(zV (yX (by omega) (by omega))).fit _,fun h=>by cases h⟩
 ·exact⟨hf.fit _,fun _=>hf⟩
end Go.Ab
end
section
namespace Go.Ab
theorem xJ9{n v:Val}(hn:n.Fit 1048576)(hv:v.Fit 1048576):(AL n v).1.Fit 1048576/\((AL n v).2=true->Flat (AL n v).1):=by
 obtain⟨_,_,_,_,h5,_,_⟩:=Val.fit_iff.1 hv;unfold AL;cases g:(zG n v).2.1
 ·refine⟨?_,fun h=>by cases h⟩;rw [jF];unfold zH;cases b:(v.kind==3)
  ·rw [ZQ,Ya,jF];cases decide (n.n<0)
   ·exact(JP _).fit _
   ·exact(zV (yX (by omega) (by omega))).fit _
  ·rw [ZN,jT];by_cases a:n.n<0
   ·rw [Zz a];exact(zV (yX (by omega) (by omega))).fit _
   ·by_cases c:n.n>=(v.list.length:Int)
    ·rw [Zz c,Xz];exact(zV (yX (by omega) (by omega))).fit _
    ·rw [Zy a,Zy c,Ya,jF];have hl:n.n.toNat<v.list.length:=by omega
     have e:v.list.getD n.n.toNat Dv=v.list[n.n.toNat]:=by simp [List.getD,hl]
     rw [e];exact h5.2 _ (Z4 hl)
 ·exact⟨(Bu hn hv).fit _,fun _=>Bu hn hv⟩
def EU(r:Val×Bool):Prop:=r.1.Fit 16777216/\(r.2=true->Flat r.1)
theorem Good1.two{K:Nat}(h:K<=16777216){r:Val×Bool}(g:Good1 K r):EU r:=⟨Val.fit_mono h g.1,g.2.2⟩
theorem Il{r:Val×Bool}(g:r.1.Fit 1048576/\(r.2=true->Flat r.1)):EU r:=⟨Val.fit_mono (by omega) g.1,g.2⟩
theorem Flat.two{r:Val×Bool}(h:Flat r.1):EU r:=⟨h.fit _,fun _=>h⟩
theorem xEh{s:Str}{l:List Val}(h:zO 1048576 (Val.Fit 1048576) l):EU (AO s l):=by
 have er:EU (y6 4,false):=Flat.two (zV (yX (by omega) (by omega)));cases hn:((l.length:Int) != A7 s)
 ·refine LP (P:=fun s l=>EU (AO s l)) hn er (fun a e s hm=> ?_) (fun a b e s hm=> ?_) (fun a b c e s hm=> ?_) (fun a b c d e=> ?_)
  ·have fa:a.Fit 1048576:=h.2 a (by simp [e]);simp only [Zo,Z2,or_false] at hm;rcases hm with rfl|rfl|rfl|rfl|rfl
   ·exact Flat.two (xJR (by omega) fa)
   ·exact Flat.two (xO0 fa)
   ·exact Flat.two (xEm (by omega) fa)
   ·exact er
   ·exact er
  ·have fa:a.Fit 1048576:=h.2 a (by simp [e]);have fb:b.Fit 1048576:=h.2 b (by simp [e]);simp only [Zo,Z2,or_false] at hm;rcases hm with rfl|rfl|rfl|rfl|rfl|rfl|rfl
   ·exact Il (xPd fa fb)
   ·exact Il (xK6 fa fb)
   ·exact Flat.two (xKF fa fb)
   ·exact Il (xJ9 fa fb)
   ·exact(xI7 fa fb).two (by omega)
   ·exact(xEp fa fb).two (by omega)
   ·exact(xPe fa fb).two (by omega)
  ·have fa:a.Fit 1048576:=h.2 a (by simp [e]);have fb:b.Fit 1048576:=h.2 b (by simp [e]);have fc:c.Fit 1048576:=h.2 c (by simp [e]);simp only [Zo,Z2,or_false] at hm;rcases hm with rfl|rfl|rfl
   ·exact Il (xPs fa fb fc)
   ·exact(xGe fa fb fc).two (by omega)
   ·exact(xI3 fa fb fc).two (by omega)
  ·exact(xCL (h.2 a (by simp [e])) (h.2 b (by simp [e])) (h.2 c (by simp [e])) (h.2 d (by simp [e]))).two (by omega)
 ·rw [AO,hn];exact er
theorem xCS{b:Bool}{x y:Option Int}(h1:∃r,x=some r/\r<=4)(h2:∃r,y=some r/\r<=4):∃r,(bif b then x else y)=some r/\r<=4:=by cases b <;>assumption
theorem LM(s:Str):A7 s<=4:=by
 have key:∃r,BR 0 s=some r/\r<=4:=by
  unfold BR
  repeat (first |exact⟨_,rfl,by omega⟩|refine xCS ⟨_,rfl,by omega⟩ ?_)
 obtain⟨r,h1,h2⟩:=key;rw [A7,h1];exact h2
theorem xEA{s:Str}{n:Nat}{c:Cur}(hn:n<=4)(hc:CurOk c):U (fun N:Nat=>1000<N) (fun N=>A3 N N s [] (n:Int) 0 c) fun r=>r.1=s/\r.2.length<=4/\∀x∈r.2,A0 x:=by
 refine E0 (σ:=List Val×Cur) (L:=fun N m i st=>A3 N m s st.1 (n:Int) i st.2) (B:=1000) n (fun i st=>st.1.length=i/\(∀x∈st.1,A0 x)/\CurOk st.2) (by omega) (fun st hs=> ?_) (fun i st hi hs ih=> ?_) ([],c) ⟨rfl,fun x hx=>(by cases hx),hc⟩
 ·refine(U.mk' (a:=(s,st.1)) ⟨rfl,by have:=hs.1;show st.1.length<=4;omega,hs.2.1⟩).congr fun x hx=> ?_;rw [A3,Zy (by omega),jF]
 ·obtain⟨h1,h2,h3⟩:=hs;have step:∀(v:Val) (d:Cur),A0 v->CurOk d->U (fun x:Nat×Nat=>1000<x.1/\n - (i+1)<x.2) (fun x=>if st.1.length+ [v.re].length<=Lim then A3 x.1 x.2 s (st.1++ [v.re]) (n:Int) ((i+1:Nat):Int) d else none) fun r=>r.1=s/\r.2.length<=4/\∀x∈r.2,A0 x:=fun v d hv hd=>by
   refine .chk (by simp only [jC,jN];unfold Lim;omega) (ih (st.1++ [v.re],d) ⟨by simp [h1],fun x hx=> ?_,hd⟩);rcases Za.1 hx with hx|hx
   ·exact h2 x hx
   ·rw [Zh,Val.re_eq] at hx;rw [hx];exact hv
  have key:U (fun x:Nat×Nat=>1000<x.1/\n - (i+1)<x.2) (fun x=>bif((i:Int)==IntKind.i64.wrap ((n:Int) - 1)) then
   (Option.bind (AY x.1 st.2 2) fun r1=>bif r1.1 then(Option.bind (Gi x.1 r1.2) fun r2=>if st.1.length+ [r2.1.re].length<=Lim then A3 x.1 x.2 s (st.1++ [r2.1.re]) (n:Int) ((i+1:Nat):Int) r2.2 else none)
     else(Option.bind (Gg x.1 r1.2) fun r2=>if st.1.length+ [r2.1.re].length<=Lim then A3 x.1 x.2 s (st.1++ [r2.1.re]) (n:Int) ((i+1:Nat):Int) r2.2 else none))
   else(Option.bind (AY x.1 st.2 2) fun r1=>bif r1.1 then(Option.bind (Gh x.1 r1.2) fun r2=>if st.1.length+ [r2.1.re].length<=Lim then A3 x.1 x.2 s (st.1++ [r2.1.re]) (n:Int) ((i+1:Nat):Int) r2.2 else none)
    else(Option.bind (Gf x.1 r1.2) fun r2=>if st.1.length+ [r2.1.re].length<=Lim then A3 x.1 x.2 s (st.1++ [r2.1.re]) (n:Int) ((i+1:Nat):Int) r2.2 else none))) fun r=>r.1=s/\r.2.length<=4/\∀x∈r.2,A0 x:=
   .cnd (fun _=> .bnd (BO _ h3) fun a ha=> .cnd (fun _=> .bnd ((xJl ha.2).pre (fun x:Nat×Nat=>x.1) fun x hx=>hx.1) fun v hv=>step v.1 v.2 hv.1 hv.2) (fun _=> .bnd ((xJj ha.2).pre (fun x:Nat×Nat=>x.1) fun x hx=>hx.1) fun v hv=>step v.1 v.2 hv.1 hv.2))
     (fun _=> .bnd (BO _ h3) fun a ha=> .cnd (fun _=> .bnd ((xJk ha.2).pre (fun x:Nat×Nat=>x.1) fun x hx=>hx.1) fun v hv=>step v.1 v.2 hv.1 hv.2) (fun _=> .bnd ((xJi ha.2).pre (fun x:Nat×Nat=>x.1) fun x hx=>hx.1) fun v hv=>step v.1 v.2 hv.1 hv.2))
  refine key.congr fun x hx=> ?_;rw [A3,Zz (by omega),jT,y4 (show i<n by omega) (by omega:n<=_)]
theorem xEB{a:List Int}(h:a.length<=1048576):U (fun N:Nat=>1048576<N) (fun N=>IG N a) fun r=>r.2.length<=4/\∀x∈r.2,A0 x:=by
 have up:∀x:Nat,1048576<x->1000<x:=fun x hx=>by omega
 have args:∀(s:Str) (n:Int) (c:Cur),0<=n->n<=4->CurOk c->U (fun N:Nat=>1048576<N) (fun N=>A3 N N s [] n 0 c) fun r=>r.2.length<=4/\∀x∈r.2,A0 x:=fun s n c h0 h1 hc=>by
  obtain⟨m,rfl⟩:=D9 h0;exact((xEA (s:=s) (n:=m) (by omega) hc).pre id up).imp fun r hr=>hr.2
 unfold IG
 refine .bnd (OA id h fun x hx=>hx) fun c hc=> .bnd (P:=fun _=>True) ?_ fun s _=> .bnd (P:=fun v=>v<=4) ⟨A7 s,LM s,fun N _=>KV N s⟩ fun n hn=> .cnd (fun _=> .bnd (Ad id hc (by decide)) fun b hb=>args s b.1 b.2 hb.1.1 (by have:=hb.1.2;omega) hb.2)
  fun hneg=> .bnd (BO id hc) fun b hb=> .cnd (fun _=> .bnd (Ad id hb.2 (by decide)) fun d hd=>args s d.1 d.2 hd.1.1 (by have:=hd.1.2;omega) hd.2) fun _=>args s n b.2 (by have:=of_decide_eq_false hneg;omega) hn hb.2
 unfold KX;exact .bnd (OA id h fun x hx=>hx) fun d hd=> .bnd (GO id hd (by decide)) fun b hb=> .mk' trivial
theorem xJq(a0:List Int)(f0:∀z∈ [CV.sl .ro .byte a0],DFit z.toD):∃N,GF N a0=some true:=by
 by_cases hb:(a0.length:Int)>1048576
 ·exact⟨0,by simp [GF,GG,hb]⟩
 ·obtain⟨⟨s,l⟩,⟨hl,hd⟩,hdraw⟩:=xEB (a:=a0) (by omega);dsimp only at hl hd;have hf:zO 1048576 (Val.Fit 1048576) l:=⟨by omega,fun x hx=>xEz (hd x hx)⟩;obtain⟨f1,f2⟩:=xEh (s:=s) hf;have hv:=xEi s l;have hne:(((l++ [y5 1,y5 2,y5 3,y5 4,y5 5]).length:Int) != A7 s)=true:=by
   have:=LM s;rw [bne_iff_ne];simp only [jA,jC,jN];omega
  have hm:AO s (l++ [y5 1,y5 2,y5 3,y5 4,y5 5])=(y6 4,false):=by rw [AO,hne];rfl
  refine((xEj (s:=s) hf).and ((xLG (K:=16777216) (by omega) f1).and ((xBc (K:=16777216) (by omega) f1).and (AT 1048576)))).imp (fun N ⟨⟨h1,h2⟩,h3,⟨_,h4⟩,hN⟩=> ?_) |>.get;have h5:=(La hne N).1;rw [hm] at h5;have h6:BS N (y6 4) (y6 4)=some true:=xFN (zV (yX (by omega) (by omega))) (by omega);rw [hv] at h4;have hz:∀n:Int,Val.mk 1 n 0 [] [] [] []=y5 n:=fun _=>rfl;have he:Val.mk 6 4 0 [] [] [] []=y6 4:=rfl;have i1:0+l.length<=Lim:=by unfold Lim;omega
  have i2:l.length+ [y5 1,y5 2,y5 3,y5 4,y5 5].length<=Lim:=by simp only [jC,jN];unfold Lim;omega
  generalize AO s l=r at*;cases hr2:r.2
  ·simp only [GF,GG,Zy hb,jS,jF,hdraw N hN,h1,h2,hr2,h3,h4,jU,Zw i1,zK,yZ,hz,he,Val.re_eq,Zw i2,jM,h5,h6]
  ·obtain⟨g1,g2,g3,_⟩:=f2 hr2;simp only [GF,GG,Zy hb,jS,jF,jT,hdraw N hN,h1,h2,hr2,g1,g2,g3,jE,ZB,Aq g1 g2 g3,h3,h4,jU,Zw i1,zK,yZ,hz,he,Val.re_eq,Zw i2,jM,h5,h6]
end Go.Ab
end
section
namespace Go.Proofs.YtdjlpnkiffdnpaaGreatDoor
open Go.Ab Go.ChangeShapes Go.WideShapes Go.ChangeAt Go.RowKit
theorem own:ownKnob Tryz.prog.godebug=none:=by kernel_rfl
theorem xJn:laidOutB Tryz.prog=true:=by kernel_rfl
theorem xJc:gV Tryz.prog [(5,.byte)]=true:=by kernel_rfl
set_option maxRecDepth 100000 in
theorem fnCalls_lifted(os:Os)(started:os.Started)(H:Type)(enc:TypeId×Value->H):
 ReturnsInHanded {} Tryz.checked os 3 .any (fun w args=>(Rows.fnCallsSpec.pre enc Tryz.prog Tryz.f3 Rows.fnCallsRow.domain false w args/\laidMetH Tryz.prog Rows.fnCallsRow.laid w)/\sizedMet enc Tryz.prog Tryz.f3 (OpenSpec.ofChange Rows.fnCallsSpec) false w args)
  (Rows.fnCallsSpec.post enc Tryz.prog Tryz.f3 false true false false):=by
 refine returnsInHanded_of_change_and (C:=Tryz.checked) (X:=fun w _=>laidMetH Tryz.prog Rows.fnCallsRow.laid w) (fun _ _ _ hh h=>h.of_heap hh) own started (by kernel_rfl) Tryz.func3
  (ChangeSpec.witness_shaped (enc:=enc) (C:=Tryz.checked) (os:=os) (X:=fun w _=>laidMetH Tryz.prog Rows.fnCallsRow.laid w) false (World.laidAll Tryz.prog os Rows.fnCallsRow.laid) #[.slice none 0 0] 8 (World.laidAll_os _ _ _)
    (World.shaped_of_ZipB (by kernel_rfl) (by kernel_rfl)) (by kernel_rfl) (by kernel_rfl) (by kernel_rfl)
    (by rw [MakeChecks.laidMetH_plain _ _ _ (by kernel_rfl)];exact laidMet_laidAll _ (by kernel_rfl) (by kernel_rfl))) ?_
 intro W base args ds gs before hval0 hW hcnd _ hL _
 letI:Inhabited Lb:=⟨⟨[]⟩⟩
 have hval:∀(j:Nat) t v,Tryz.f3.params[j]? =some t->args[j]? =some v->Value.okWide Tryz.prog W .any base t v:=hval0;have hW' :=hW;obtain⟨p,q,hA0,hV,rfl,hfz,hnd⟩:=hW;have hA:DataW.TrodAll enc Tryz.prog W 0 (fun _=>true) true Tryz.f3.params.toList args.toList ds p:=hA0;rw [Tryz.params3] at hA hval;obtain⟨v0,vs0,d0,ds0,p0,q0,hargs,rfl,rfl,h0,r0⟩:=trodAll_cons hA;obtain⟨rfl,rfl,rfl⟩:=trodAll_nil r0;obtain rfl:args= #[v0]:=by cases args;simp_all
 obtain⟨rfl,rfl⟩:=trodVars_none hV;have lt0:∀x∈p0,x.block<W.heap.size:=by obtain⟨m,hm⟩:=h0;exact DataW.trod_lt m _ _ _ hm
 obtain⟨z0,e0,f0,vr0⟩:=zAu xJc (g:=false) (t:=22) (ns:=[.inr .byte]) (by kernel_rfl) (hval 0 22 v0 rfl rfl) h0;obtain⟨x0_0,_,rfl,e0_0⟩:=AreOf.sl_inv e0;obtain rfl:=e0_0.nil_inv;obtain⟨N,hF⟩:=xJq x0_0 f0;clear hA0 hval0;refine(zAg T.fk3 (T.laws_FnCalls_ok hF) (W:=W) (args:= #[v0]) ⟨vr0 _,trivial⟩ (fun x hx=>by cases hx)).mono fun e W' ⟨he,bel⟩=> ?_;subst he;exact⟨_,rfl,_,_,_,[],_,[],hW',trodAll_mk1 (shut_bool Tryz.underlying4 _),(trodAll_cons_mk (Below.trod xJn (by kernel_rfl) (of_decide_eq_true (by kernel_rfl)) h0 bel lt0) trodAll_mk0),rfl,bel.frame _,fun h=>by cases h⟩
theorem fnCalls_proved:Rows.FnCallsSaid:=
 OpenClaim.holds_of_wide 3 Tryz.f3 rfl rfl rfl rfl rfl rfl rfl ⟨rfl,rfl,rfl,rfl,rfl⟩ rfl rfl rfl rfl rfl (by kernel_rfl) Tryz.func3 (by kernel_rfl)
  (of_decide_eq_true (by kernel_rfl)) (by unfold Func.isWrapper;first |(rw [Zw (by decide +kernel)];kernel_rfl) |(rw [Zf (by decide +kernel)];exact⟨rfl,rfl⟩))
  (fun os started H enc _=>fnCalls_lifted os started H enc)
theorem fnCalls_card:Rows.FnCallsCardSaid:=
 Claim7.holds_tied_plain_at .later [] Rows.fnCallsCard.laidKinds true Rows.fnCallsCard.stood.harness Rows.fnCallsCard.stood.looks fnCalls_proved (fun _ h=>by cases h) (by kernel_rfl) (fun _ h=>by cases h) fnCalls_row_tie rfl ⟨rfl,rfl⟩ (by kernel_rfl) rfl
  (fun f fn hf hfn=>by
    obtain rfl:f=3:=Yz ((show Tryz.prog.funcNamed Rows.fnCallsRow.func=some 3 by kernel_rfl).symm.trans hf) |>.symm;obtain rfl:fn=Tryz.f3:=(Yz (Tryz.func3.symm.trans hfn)).symm
    exact⟨by kernel_rfl,fun j t ht=>by
     rw [Tryz.params3] at ht;have hm:t∈ [22]:=by simpa using Array.mem_of_getElem? ht
     have hall:([22].all fun u=> !Tryz.prog.wantsStandIn u)=true:=by kernel_rfl
     exact(show Tryz.prog.wantsStandIn t=false by simpa using Zu.1 hall t hm)⟩)
  (by kernel_rfl)
end Go.Proofs.YtdjlpnkiffdnpaaGreatDoor
end
