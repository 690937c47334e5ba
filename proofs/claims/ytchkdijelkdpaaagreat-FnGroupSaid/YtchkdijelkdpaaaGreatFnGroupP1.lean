/- The statement FnGroup holds: plain functions, certificates, laws. Conditions: none. -/
import Derived.Test.YtchkdijelkdpaaaGreatL2
import Derived.Test.YtchkdijelkdpaaaGreatFnGroupP0
set_option linter.all false
section
namespace Go.Ab
open Go.Proofs Go.RowKit Go.Shelf
structure GrpT (P:Program) (ti tm tp:TypeId):Prop where
 int:P.underlying ti=some (.int .i64)
 map:P.underlying tm=some (.map ti tp)
 zero:∀w,(zeroValue tp).run P w= .ok (.pointer none) w
def pbx(b:Nat):Value:= .pointer (some ⟨b,0,none⟩)
def PMap(w:World)(b:Nat)(bx:Int->Nat)(ks:List Int):Prop:=
 ∃es clock,w.heap[b]? =some (.map es clock)/\es.toList.map (fun e=>(e.key,e.val))=ks.map fun x=>(Value.int .i64 x,pbx (bx x))
theorem PMap.kept{w w' :World}{b:Nat}{bx bx' :Int->Nat}{ks:List Int}(h:PMap w b bx ks)(e:w'.heap[b]? =w.heap[b]?)(hb:∀x∈ks,bx' x=bx x):PMap w' b bx' ks:=by
 obtain⟨es,c,h1,h2⟩:=h;refine⟨es,c,e.trans h1,h2.trans (List.map_congr_left fun x hx=>by rw [hb x hx])⟩
theorem PMap.lt{w:World}{b:Nat}{bx:Int->Nat}{ks:List Int}(h:PMap w b bx ks):b<w.heap.size:=by
 obtain⟨es,c,h1,h2⟩:=h;exact(Array.getElem?_eq_some_iff.1 h1).1
theorem xNv{bx:Int->Nat}{x:Int}:∀ {es:List MapEntry} {ks:List Int} {i:Nat},es.map (fun e=>(e.key,e.val))=ks.map (fun y=>(Value.int .i64 y,pbx (bx y)))->
 ∃r,Instr.findNow (.int .i64) (.int .i64 x) es i=some r/\(x∈ks->∃j,r=some (j,pbx (bx x)))/\(x ∉ ks->r=none)
 | [],[],i,_=>⟨none,rfl,by simp,fun _=>rfl⟩
 | [],_::_,i,h=>by cases h
 |_::_,[],i,h=>by cases h
 |e::es,k::ks,i,h=>by
  simp only [List.map_cons,List.cons.injEq,Prod.mk.injEq] at h;obtain⟨⟨h1,h2⟩,h3⟩:=h;by_cases hk:x=k
  ·subst hk;exact⟨some (i,pbx (bx x)),by simp [Instr.findNow,Instr.sameNow,h1,h2],fun _=>⟨i,rfl⟩,by simp⟩
  ·obtain⟨r,r1,r2,r3⟩:=xNv (x:=x) (i:=i+1) h3;have hb:(x==k)=false:=by simpa using hk
   refine⟨r,by simp [Instr.findNow,Instr.sameNow,h1,hb,r1],fun hx=>r2 ?_,fun hx=>r3 ?_⟩
   ·rcases List.mem_cons.1 hx with e|hx
    ·exact absurd e hk
    ·exact hx
   ·exact fun h=>hx (List.mem_cons_of_mem _ h)
section
variable {P:Program} {ti tm tp:TypeId} (T:GrpT P ti tm tp) {w:World}
include T
theorem xLe(em:Bool)(n:Nat)(k:IntKind)(x:Int):(Instr.checkKey em (n+1) ti (.int k x)).run P w= .ok () w:=by
 unfold Instr.checkKey;simp [run_underlying T.int]
theorem xNt{bx:Int->Nat}(x:Int)(es:List MapEntry)(ks:List Int)(h:es.map (fun e=>(e.key,e.val))=ks.map fun y=>(Value.int .i64 y,pbx (bx y))):
 ∃r,(Instr.findKey ti (.int .i64 x) es).run P w= .ok r w/\(x∈ks->∃j,r=some (j,pbx (bx x)))/\(x ∉ ks->r=none):=by
 obtain⟨r,h1,h2⟩:=xNv (x:=x) (i:=0) h;exact⟨r,by simp [Instr.findKey,run_underlying T.int,h1,Result.andThen],h2⟩
theorem xBY{b:Nat}{bx:Int->Nat}{ks:List Int}(h:PMap w b bx ks)(x:Int):(Instr.lookup tm (.map (some b)) (.int .i64 x) false).run P w= .ok (if x∈ks then pbx (bx x) else .pointer none) w:=by
 obtain⟨es,c,h1,h2⟩:=h;obtain⟨r,hr,p1,p2⟩:=xNt T (w:=w) x es.toList ks h2;unfold Instr.lookup;have hg:(getObj b).run P w= .ok (.map es c) w:=by simp [getObj,Sem.run,h1]
 have hck:(Instr.checkKey es.isEmpty 10000 ti (.int .i64 x)).run P w= .ok () w:=xLe T es.isEmpty 9999 .i64 x;by_cases hc:x∈ks
 ·obtain⟨j,rfl⟩:=p1 hc;rw [if_pos hc];simp [run_underlying T.map,hg,hck,hr,Result.andThen]
 ·obtain rfl:=p2 hc;rw [if_neg hc];simp [run_underlying T.map,hg,hck,hr,T.zero,Result.andThen]
theorem xRP{b:Nat}{bx:Int->Nat}{ks:List Int}(h:PMap w b bx ks)(x:Int)(hc:x ∉ ks)(n:Nat):
 ∃w',(Instr.mapUpdate tm (.map (some b)) (.int .i64 x) (pbx n)).run P w= .ok () w' /\PMap w' b (fun y=>if y=x then n else bx y) (ks++ [x])/\w.grownBy w' (some b)/\w'.heap.size=w.heap.size:=by
 obtain⟨es,c,h1,h2⟩:=h;obtain⟨r,hr,p1,p2⟩:=xNt T (w:=w) x es.toList ks h2;obtain rfl:=p2 hc;have hb:b<w.heap.size:=(Array.getElem?_eq_some_iff.1 h1).1;have hg:(getObj b).run P w= .ok (.map es c) w:=by simp [getObj,Sem.run,h1]
 have hck:(Instr.checkKey false 10000 ti (.int .i64 x)).run P w= .ok () w:=xLe T false 9999 .i64 x;have hs:∀ob,(setObj b ob).run P w= .ok () { w with heap:=w.heap.setIfInBounds b ob }:=by
  intro ob;simp [setObj,Sem.run,h1]
 refine⟨{ w with heap:=w.heap.setIfInBounds b (.map (es.push { key:= .int .i64 x,val:=pbx n,born:=c }) (c+1)) },?_,?_,⟨rfl,rfl,rfl,by simp,fun k hk hne=> ?_⟩,by simp⟩
 ·unfold Instr.mapUpdate;simp [run_underlying T.map,hg,hck,hr,hs,Result.andThen]
 ·refine⟨_,_,by simp [hb];exact⟨rfl,rfl⟩,?_⟩;rw [Array.toList_push,List.map_append,h2,List.map_append];simp only [List.map_cons,List.map_nil,if_true]
  congr 1
  refine List.map_congr_left fun y hy=> ?_;have:y≠x:=fun e=>hc (e ▸ hy);rw [if_neg this]
 ·have:b≠k:=fun e=>hne (by rw [e]);simp [Array.getElem?_setIfInBounds,this]
end
end Go.Ab
end
section
namespace Go.Ab
section
variable {P:Program} {ops:Array Oper} {Q:Exit->Act->World->Prop} {md:Region.Mode} {T:World->Prop} {n:Nat}
def xJ0(P:Program)(md:Region.Mode)(ops:Array Oper)(Q:Exit->Act->World->Prop)(T:World->Prop)(n:Nat):Nat->Array Bool->Act->World->Prop
 |0,listed,a,w=>Region.ready md ops listed=[]/\Q .normal a w
 |fuel+1,listed,a,w=>
  (Region.ready md ops listed=[]->Q .normal a w)/\
  ∀i∈Region.ready md ops listed,wpOp P ops Q i (fun a' w' =>((listed.setIfInBounds i true).getD n false=true\/T w')/\xJ0 P md ops Q T n fuel (listed.setIfInBounds i true) a' w') a w
theorem xO1:∀(fuel:Nat) (listed:Array Bool) (a:Act) (w:World),xJ0 P md ops Q T n fuel listed a w->wpAny P md ops Q fuel listed a w
 |0,_,_,_,h=>h
 |fuel+1,_,_,_,h=>⟨h.1,fun i hi=>wpOp_mono (fun a' w' h' =>xO1 fuel _ a' w' h'.2) (h.2 i hi)⟩
theorem xRT{i:Nat}{oi:Oper}{v:Value}(hi:ops[i]? =some oi)(hsel:∀(j:Nat) (o:Oper) cs b,ops[j]? =some o->o.op≠ .select cs b)
 (hQ:∀c a w,Q (.panic c) (a.put oi.dst v) w->Q (.panic c) a w) (hni:i≠n) (hwait:∃on e,ops[n]? =some on/\e∈on.after/\Region.binds md e=true/\e.on=i):
 ∀(fuel:Nat) (listed:Array Bool) (a:Act) (w:World),listed.getD n false=false->
  (∀j oj,ops[j]? =some oj->j≠i->listed.getD j true=false->(∀e∈oj.after,Region.binds md e=true->e.on≠i)->oi.apart ops oj=true)->
  i∈Region.ready md ops listed->YieldsIf P ops T oi v a->T w->
  xJ0 P md ops Q T n fuel (listed.setIfInBounds i true) (a.put oi.dst v) w->xJ0 P md ops Q T n (fuel+1) listed a w:=by
 obtain⟨on,e0,hn1,hn2,hn3,hn4⟩:=hwait;intro fuel
 induction fuel with
 |zero=>
  intro listed a w _ _ hr hy hS H;refine⟨fun h=>(by rw [h] at hr;cases hr),fun j hj=> ?_⟩;by_cases hji:j=i
  ·subst hji;exact hy.wpOp hi hS ⟨.inr hS,H⟩
  ·have:=ready_mono hj hji;rw [H.1] at this;cases this
 |succ fuel ih=>
  intro listed a w hln hfree hr hy hS H;refine⟨fun h=>(by rw [h] at hr;cases hr),fun j hj=> ?_⟩;by_cases hji:j=i
  ·subst hji;exact hy.wpOp hi hS ⟨.inr hS,H⟩
  ·have h1:=H.2 j (ready_mono hj hji);obtain⟨hjun,oj,hoj,hall⟩:=mem_ready.1 hj;have hnot:∀e∈oj.after,Region.binds md e=true->e.on≠i:=fun e he hb heq=>by
    have h1:=hall e he hb;have h0:=(mem_ready.1 hr).1;rw [heq] at h1;rcases Nat.lt_or_ge i listed.size with h' |h'
    ·simp [h'] at h0 h1;rw [h0] at h1;cases h1
    ·simp [Array.getElem?_eq_none h'] at h1
   have hjn:j≠n:=fun e=>by
    subst e;rw [hoj] at hn1;cases hn1;exact hnot e0 hn2 hn3 hn4
   have h2:=wpOp_putIf hoj (hfree j oj hoj hji hjun hnot) (fun cs b=>hsel i oi cs b hi) (fun cs b=>hsel j oj cs b hoj) hQ hy h1
   have hfree' :∀k ok,ops[k]? =some ok->k≠i->(listed.setIfInBounds j true).getD k true=false->
    (∀e∈ok.after,Region.binds md e=true->e.on≠i)->oi.apart ops ok=true:=fun k ok hk hki hun hno=>by
    refine hfree k ok hk hki ?_ hno;by_cases hjk:j=k
    ·subst hjk;exact hjun
    ·rw [getD_set_ne true hjk] at hun;exact hun
   refine wpOp_mono (fun a' w' h3=> ?_) h2;have hT:T w' :=by
    refine h3.2.1.resolve_left ?_;rw [getD_set_ne false hjn,getD_set_ne false hni,hln];simp
   refine⟨.inr hT,ih (listed.setIfInBounds j true) a' w' (by rw [getD_set_ne false hjn];exact hln) hfree' (ready_mono hr (Ne.symm hji)) h3.1 hT ?_⟩;rw [Array.setIfInBounds_comm _ _ hji];exact h3.2.2
def vDI(md:Region.Mode)(ops:Array Oper)(n i:Nat):Bool:=
 match ops[n]? with
 |some on=>on.after.any fun e=>Region.binds md e&&e.on.beq i
 |none=>false
theorem xT8{md:Region.Mode}{ops:Array Oper}{n i:Nat}(h:vDI md ops n i=true):∃on e,ops[n]? =some on/\e∈on.after/\Region.binds md e=true/\e.on=i:=by
 unfold vDI at h;split at h
 ·rename_i on hon;rw [Array.any_eq_true'] at h;obtain⟨e,he,h2⟩:=h;rw [Bool.and_eq_true] at h2;exact⟨on,e,hon,he,h2.1,Nat.eq_of_beq_eq_true h2.2⟩
 ·cases h
theorem xAQ(i:Nat){oi:Oper}{v:Value}{fuel:Nat}{listed:Array Bool}{a:Act}{w:World}(hi:ops[i]? =some oi)
 (hs:(Region.noSelect ops&&Region.free md ops listed i&&(Region.ready md ops listed).contains i&&vDI md ops n i&& !(listed.getD n false)&& !(i.beq n))=true)
 (hQ:∀c a w,Q (.panic c) (a.put oi.dst v) w->Q (.panic c) a w) (hg:oi.guard=none) (hT:T w) (hy:∀w,T w->(execOp a.eval oi).run P w= .ok (.value v) w)
 (h:xJ0 P md ops Q T n fuel (listed.setIfInBounds i true) (a.put oi.dst v) w):xJ0 P md ops Q T n (fuel+1) listed a w:=by
 simp only [Bool.and_eq_true,Bool.not_eq_true'] at hs;obtain⟨⟨⟨⟨⟨h1,h2⟩,h3⟩,h4⟩,h5⟩,h6⟩:=hs;exact xRT hi (Region.noSelect_spec h1) hQ (fun e=>by subst e;rw [Nat.beq_refl] at h6;cases h6) (xT8 h4) fuel listed a w h5 (Region.free_spec hi h2) (by simpa using h3) (.inl ⟨by simp [Region.wanted,hg],hy⟩) hT h
theorem xF8(i:Nat){oi:Oper}{fuel:Nat}{listed:Array Bool}{a:Act}{w:World}(hi:ops[i]? =some oi)(hr:Region.ready md ops listed=[i])(hg:oi.guard=none)
 (h:∀K:Act->World->Prop,(∀a' w',((listed.setIfInBounds i true).getD n false=true\/T w')/\xJ0 P md ops Q T n fuel (listed.setIfInBounds i true) a' w' ->K a' w')->oi.wp P a w K Q):
 xJ0 P md ops Q T n (fuel+1) listed a w:=by
 refine⟨fun h0=>(by rw [hr] at h0;cases h0),fun j hj=> ?_⟩;rw [hr] at hj;obtain rfl:j=i:=by simpa using hj
 unfold wpOp;simp only [hi,Region.wanted,hg,if_true];exact .inl (h _ fun a' w' h' =>h')
theorem xLK{listed:Array Bool}{a:Act}{w:World}(hr:Region.ready md ops listed=[])(h:Q .normal a w):
 ∀fuel,xJ0 P md ops Q T n fuel listed a w
 |0=>⟨hr,h⟩
 |_+1=>⟨fun _=>h,by rw [hr];simp⟩
theorem xLL(T:World->Prop)(n:Nat){id:Nat}{a:Act}{w:World}(hm:P.follows .mixedOrders=true)
 (h:xJ0 P .any ops Q T n ops.size (Array.replicate ops.size false) a { w with drawn:=w.drawn+1 }):(Code.region id ops true).wp P Q a w:=
 wp_region_any hm (xO1 _ _ _ _ h)
end
end Go.Ab
end
section
namespace Go.Ab
open Go.Proofs Go.RowKit Go.Shelf
inductive Tg where
 |map|keys
 |box (x:Int) |cel (x:Int) |frm (x:Int)
 deriving DecidableEq
def Live(ks:List Int)(nx:Option Int):Tg->Prop
 | .map=>True
 | .keys=>True
 | .box x=>x∈ks
 | .cel x=>x∈ks
 | .frm x=>x∈ks/\nx≠some x
def updT(blk:Tg->Nat)(t:Tg)(b:Nat):Tg->Nat:=fun t' =>if t' =t then b else blk t'
def updI{α:Type}(f:Int->α)(x:Int)(v:α):Int->α:=fun y=>if y=x then v else f y
def ORow(w:World)(te g cap sz n:Nat)(xs:List Value):Prop:=
 xs.length=n*sz/\∃cur,w.heap[g]? =some (.cells cur te (0,0))/\n<=cap/\cap<=maxLen/\cur.size=cap*sz/\cur.toList.take (n*sz)=xs
theorem ORow.kept{w w' :World}{te g cap sz n:Nat}{xs:List Value}(h:ORow w te g cap sz n xs)(e:w'.heap[g]? =w.heap[g]?):ORow w' te g cap sz n xs:=by
 obtain⟨h0,cur,h1,h2⟩:=h;exact⟨h0,cur,e.trans h1,h2⟩
theorem OrgRow.kept{w w' :World}{g cap:Nat}{xs:List Org}(h:OrgRow w g cap xs)(e:w'.heap[g]? =w.heap[g]?):OrgRow w' g cap xs:=by
 obtain⟨h0,cs,ty,lo,hi,h1,h2⟩:=h;exact⟨h0,cs,ty,lo,hi,e.trans h1,h2⟩
theorem OrgRow.lt{w:World}{g cap:Nat}{xs:List Org}(h:OrgRow w g cap xs):g<w.heap.size:=by
 obtain⟨h0,cs,ty,lo,hi,h1,h2⟩:=h;exact(Array.getElem?_eq_some_iff.1 h1).1
def frV(blk:Tg->Nat)(fc:Int->Nat)(fr:Int->List Org)(nx:Option Int)(x:Int):Value:=
 if nx=some x then .slice none 0 0 else .slice (some ⟨blk (.frm x),0,none⟩) (fr x).length (fc x)
structure GRel (w0 wr:World) (B tR tI:Nat) (blk:Tg->Nat) (ks kl:List Int) (sm:Int->Int) (fr:Int->List Org) (fc:Int->Nat) (nx:Option Int) (kc:Nat):Prop where
 map:PMap wr (blk .map) (fun x=>blk (.box x)) ks
 box:∀x∈ks,wr.heap[blk (.box x)]? =some (.cells #[.slice (some ⟨blk (.cel x),0,none⟩) 2 2,frV blk fc fr nx x] tR (0,0))
 cel:∀x∈ks,wr.heap[blk (.cel x)]? =some (.cells #[.int .i64 x,.int .i64 (sm x)] tI (0,0))
 frm:∀x∈ks,nx≠some x->OrgRow wr (blk (.frm x)) (fc x) (fr x)
 nil:∀x,nx=some x->fr x=[]
 keys:ORow wr tI (blk .keys) kc 1 kl.length (kl.map (Value.int .i64))
 nodup:ks.Nodup
 inj:∀t t',Live ks nx t->Live ks nx t' ->blk t=blk t' ->t=t'
 rng:∀t,Live ks nx t->B<=blk t/\blk t<wr.heap.size
 below:Below B w0 wr
structure Chg (w w' :World) (b:Nat) (o:Obj):Prop where
 os:w'.os=w.os
 tape:w'.tape=w.tape
 output:w'.output=w.output
 size:w'.heap.size=w.heap.size
 at' :w'.heap[b]? =some o
 other:∀k,k≠b->w'.heap[k]? =w.heap[k]?
theorem Chg.below{w w' :World}{b B:Nat}{o:Obj}(h:Chg w w' b o)(hb:B<=b):Below B w w' :=⟨h.os,h.tape,h.output,by rw [h.size];exact Nat.le_refl _,fun k hk=>h.other k (by omega)⟩
section
variable {w0 wr:World} {B tR tI:Nat} {blk:Tg->Nat} {ks kl:List Int} {sm:Int->Int} {fr:Int->List Org} {fc:Int->Nat} {nx:Option Int} {kc:Nat}
theorem GRel.grow(h:GRel w0 wr B tR tI blk ks kl sm fr fc nx kc){wr' :World}(hb:Below wr.heap.size wr wr'):GRel w0 wr' B tR tI blk ks kl sm fr fc nx kc:=by
 have k:∀t,Live ks nx t->wr'.heap[blk t]? =wr.heap[blk t]? :=fun t ht=>hb.block _ (h.rng t ht).2;refine⟨h.map.kept (k .map trivial) (fun _ _=>rfl),fun x hx=>(k (.box x) hx).trans (h.box x hx),fun x hx=>(k (.cel x) hx).trans (h.cel x hx),fun x hx hn=>(h.frm x hx hn).kept (k (.frm x) ⟨hx,hn⟩),h.nil,h.keys.kept (k .keys trivial),h.nodup,h.inj,fun t ht=>⟨(h.rng t ht).1,Nat.lt_of_lt_of_le (h.rng t ht).2 hb.size⟩,?_⟩;refine h.below.trans ⟨hb.os,hb.tape,hb.output,hb.size,fun b hlt=>hb.block b ?_⟩;have:=(h.rng .map trivial);omega
theorem GRel.turn(h:GRel w0 wr B tR tI blk ks kl sm fr fc nx kc){x:Int}(hx:x∈ks)(hnx:nx=none\/nx=some x){s:Int}{os:List Org}{br cap:Nat}{w2 w3 w4:World}
 (h2:Chg wr w2 (blk (.cel x)) (.cells #[.int .i64 x,.int .i64 s] tI (0,0))) (h3:Below w2.heap.size w2 w3) (hbr:w2.heap.size<=br) (hrow:OrgRow w3 br cap os)
 (h4:Chg w3 w4 (blk (.box x)) (.cells #[.slice (some ⟨blk (.cel x),0,none⟩) 2 2,.slice (some ⟨br,0,none⟩) os.length cap] tR (0,0))):
 GRel w0 w4 B tR tI (updT blk (.frm x) br) ks kl (updI sm x s) (updI fr x os) (updI fc x cap) none kc:=by
 have hcx:=h.rng (.cel x) hx;have hbx:=h.rng (.box x) hx;have z2:=h2.size;have z3:=h3.size;have z4:=h4.size;have hbl:=hrow.lt;have keep:∀b,b<wr.heap.size->b≠blk (.cel x)->b≠blk (.box x)->w4.heap[b]? =wr.heap[b]? :=fun b hb n1 n2=>(h4.other b n2).trans ((h3.block b (by omega)).trans (h2.other b n1));have ub:∀t,t≠ .frm x->updT blk (.frm x) br t=blk t:=fun t ht=>if_neg ht;have ux:updT blk (.frm x) br (.frm x)=br:=if_pos rfl;have live:∀t,Live ks none t->t≠ .frm x->Live ks nx t:=by
  intro t ht hne;cases t with
  |frm y=>
   refine⟨ht.1,fun e=> ?_⟩;rcases hnx with e2|e2
   ·rw [e2] at e;cases e
   ·rw [e2] at e;cases e;exact hne rfl
  |map=>trivial
  |keys=>trivial
  |box y=>exact ht
  |cel y=>exact ht
 have ne:∀t t',Live ks nx t->Live ks nx t' ->t≠t' ->blk t≠blk t' :=fun t t' a b n e=>n (h.inj t t' a b e);refine⟨?_,fun y hy=> ?_,fun y hy=> ?_,fun y hy _=> ?_,fun y e=>by(cases e),?_,h.nodup,fun t t' a b e=> ?_,fun t ht=> ?_,?_⟩
 ·rw [ub .map (by simp)];refine h.map.kept (keep _ (h.rng .map trivial).2 (ne .map (.cel x) trivial hx (by simp)) (ne .map (.box x) trivial hx (by simp))) fun y hy=>ub _ (by simp)
 ·rw [ub (.box y) (by simp),ub (.cel y) (by simp)];by_cases e:y=x
  ·subst e;rw [h4.at'];simp [frV,ux,updI]
  ·have:=h.box y hy;rw [keep _ (h.rng (.box y) hy).2 (ne (.box y) (.cel x) hy hx (by simp)) (ne (.box y) (.box x) hy hx (by simpa using e)),this];have hn:nx≠some y:=by
    rcases hnx with e2|e2
    ·rw [e2];simp
    ·rw [e2];simpa using Ne.symm e
   simp [frV,hn,updI,e,ub (.frm y) (by simpa using e)]
 ·rw [ub (.cel y) (by simp)];by_cases e:y=x
  ·subst e;rw [h4.other _ (ne (.cel y) (.box y) hy hy (by simp)),h3.block _ (by omega),h2.at'];simp [updI]
  ·rw [keep _ (h.rng (.cel y) hy).2 (ne (.cel y) (.cel x) hy hx (by simpa using e)) (ne (.cel y) (.box x) hy hx (by simp)),h.cel y hy];simp [updI,e]
 ·by_cases e:y=x
  ·subst e;rw [ux];simp only [updI,if_true];exact hrow.kept (h4.other _ (by omega))
  ·have hn:nx≠some y:=by
    rcases hnx with e2|e2
    ·rw [e2];simp
    ·rw [e2];simpa using Ne.symm e
   rw [ub (.frm y) (by simpa using e)];simp only [updI,if_neg e];exact(h.frm y hy hn).kept (keep _ (h.rng (.frm y) ⟨hy,hn⟩).2 (ne (.frm y) (.cel x) ⟨hy,hn⟩ hx (by simp)) (ne (.frm y) (.box x) ⟨hy,hn⟩ hx (by simp)))
 ·rw [ub .keys (by simp)];exact h.keys.kept (keep _ (h.rng .keys trivial).2 (ne .keys (.cel x) trivial hx (by simp)) (ne .keys (.box x) trivial hx (by simp)))
 ·by_cases e1:t= .frm x
  ·by_cases e2:t' = .frm x
   ·rw [e1,e2]
   ·rw [e1,ux,ub t' e2] at e;have:=(h.rng t' (live t' b e2)).2;omega
  ·by_cases e2:t' = .frm x
   ·rw [e2,ux,ub t e1] at e;have:=(h.rng t (live t a e1)).2;omega
   ·rw [ub t e1,ub t' e2] at e;exact h.inj t t' (live t a e1) (live t' b e2) e
 ·by_cases e1:t= .frm x
  ·rw [e1,ux];omega
  ·rw [ub t e1];have:=h.rng t (live t ht e1);omega
 ·refine h.below.trans ((h2.below hcx.1).trans (Below.trans ⟨h3.os,h3.tape,h3.output,h3.size,fun b hb=>h3.block b (by omega)⟩ (h4.below hbx.1)))
theorem GRel.add(h:GRel w0 wr B tR tI blk ks ks sm fr fc none kc){x:Int}(hx:x ∉ ks)(hs:sm x=0)(hf:fr x=[]){w1 w2 w3 w4:World}{cb bb kb' kc' :Nat}
 (h1:Below wr.heap.size wr w1) (hc1:wr.heap.size<=cb) (hb1:wr.heap.size<=bb) (hne:cb≠bb) (hcl:cb<w1.heap.size) (hbl:bb<w1.heap.size)
 (hc:w1.heap[cb]? =some (.cells #[.int .i64 x,.int .i64 0] tI (0,0))) (hb:w1.heap[bb]? =some (.cells #[.slice (some ⟨cb,0,none⟩) 2 2,.slice none 0 0] tR (0,0)))
 (hm:PMap w2 (blk .map) (fun y=>if y=x then bb else blk (.box y)) (ks++ [x])) (h2:w1.grownBy w2 (some (blk .map))) (z2:w2.heap.size=w1.heap.size)
 (h3:Below w2.heap.size w2 w3) (hk:ORow w4 tI kb' kc' 1 (ks++ [x]).length ((ks++ [x]).map (Value.int .i64))) (h4:w3.grownBy w4 (some (blk .keys))) (hkb:kb' =blk .keys\/kb' =w3.heap.size):
 GRel w0 w4 B tR tI (updT (updT (updT blk (.box x) bb) (.cel x) cb) .keys kb') (ks++ [x]) (ks++ [x]) sm fr fc (some x) kc' :=by
 have hM:=h.rng .map trivial;have hK:=h.rng .keys trivial;have z1:=h1.size;have z3:=h3.size;have z4:=h4.size;have hkl:kb' <w4.heap.size:=by
  obtain⟨_,cur,h,_⟩:=hk;exact(Array.getElem?_eq_some_iff.1 h).1
 have ne:∀t t',Live ks none t->Live ks none t' ->t≠t' ->blk t≠blk t' :=fun t t' a b n e=>n (h.inj t t' a b e);have hMK:=ne .map .keys trivial trivial (by simp);generalize hB:updT (updT (updT blk (.box x) bb) (.cel x) cb) .keys kb' =blk';have b1:blk' (.box x)=bb:=by rw [<-hB];simp [updT]
 have b2:blk' (.cel x)=cb:=by rw [<-hB];simp [updT]
 have b3:blk' .keys=kb' :=by rw [<-hB];simp [updT]
 have b4:∀t,t≠ .box x->t≠ .cel x->t≠ .keys->blk' t=blk t:=fun t n1 n2 n3=>by rw [<-hB];simp [updT,n1,n2,n3]
 have old:∀b,b<wr.heap.size->b≠blk .map->b≠blk .keys->w4.heap[b]? =wr.heap[b]? :=fun b hb n1 n2=>
  (h4.block b (by omega) (by simpa using n2)).trans ((h3.block b (by omega)).trans ((h2.block b (by omega) (by simpa using n1)).trans (h1.block b hb)))
 have mid:∀b,wr.heap.size<=b->b<w1.heap.size->w4.heap[b]? =w1.heap[b]? :=fun b hb hb2=>
  (h4.block b (by omega) (by simp;omega)).trans ((h3.block b (by omega)).trans (h2.block b hb2 (by simp;omega)))
 have hyx:∀y∈ks,y≠x:=fun y hy e=>hx (e ▸ hy);have live:∀t,Live (ks++ [x]) (some x) t->t≠ .box x->t≠ .cel x->Live ks none t:=by
  intro t ht n1 n2;cases t with
  |map=>trivial
  |keys=>trivial
  |box y=>
   rcases List.mem_append.1 (show y∈ks++ [x] from ht) with e|e
   ·exact e
   ·simp at e;subst e;exact absurd rfl n1
  |cel y=>
   rcases List.mem_append.1 (show y∈ks++ [x] from ht) with e|e
   ·exact e
   ·simp at e;subst e;exact absurd rfl n2
  |frm y=>
   obtain⟨e,e2⟩:=ht;rcases List.mem_append.1 e with e|e
   ·exact⟨e,by simp⟩
   ·simp at e;subst e;exact absurd rfl e2
 refine⟨?_,fun y hy=> ?_,fun y hy=> ?_,fun y hy hn=> ?_,fun y e=>by cases e;exact hf,?_,?_,fun t t' a b e=> ?_,fun t ht=> ?_,?_⟩
 ·rw [b4 .map (by simp) (by simp) (by simp)];refine hm.kept ((h4.block _ (by omega) (by simpa using hMK)).trans (h3.block _ (by omega))) fun y hy=> ?_;by_cases e:y=x
  ·subst e;simp [b1]
  ·rw [b4 (.box y) (by simpa using e) (by simp) (by simp),if_neg e]
 ·by_cases e:y=x
  ·subst e;rw [b1,b2,mid bb hb1 hbl,hb];simp [frV]
  ·have hy:y∈ks:=by
    rcases List.mem_append.1 hy with e2|e2
    ·exact e2
    ·simp at e2;exact absurd e2 e
   rw [b4 (.box y) (by simpa using e) (by simp) (by simp),b4 (.cel y) (by simp) (by simpa using e) (by simp),old _ (h.rng (.box y) hy).2 (ne _ _ hy trivial (by simp)) (ne _ _ hy trivial (by simp)),h.box y hy];have:some x≠some y:=by simpa using Ne.symm e
   simp [frV,this,b4 (.frm y) (by simp) (by simp) (by simp)]
 ·by_cases e:y=x
  ·subst e;rw [b2,mid cb hc1 hcl,hc,hs]
  ·have hy:y∈ks:=by
    rcases List.mem_append.1 hy with e2|e2
    ·exact e2
    ·simp at e2;exact absurd e2 e
   rw [b4 (.cel y) (by simp) (by simpa using e) (by simp),old _ (h.rng (.cel y) hy).2 (ne _ _ hy trivial (by simp)) (ne _ _ hy trivial (by simp)),h.cel y hy]
 ·have e:y≠x:=fun e=>hn (by rw [e]);have hy:y∈ks:=by
   rcases List.mem_append.1 hy with e2|e2
   ·exact e2
   ·simp at e2;exact absurd e2 e
  rw [b4 (.frm y) (by simp) (by simp) (by simp)];exact(h.frm y hy (by simp)).kept (old _ (h.rng (.frm y) ⟨hy,by simp⟩).2 (ne (.frm y) _ ⟨hy,by simp⟩ trivial (by simp)) (ne (.frm y) _ ⟨hy,by simp⟩ trivial (by simp)))
 ·rw [b3];exact hk
 ·rw [List.nodup_append];exact⟨h.nodup,by simp,fun a ha b hb=>by simp at hb;subst hb;exact hyx a ha⟩
 ·have cls:∀t,Live (ks++ [x]) (some x) t->t= .box x\/t= .cel x\/t= .keys\/(blk' t=blk t/\Live ks none t/\t≠ .keys):=by
   intro t ht;by_cases n1:t= .box x
   ·exact .inl n1
   ·by_cases n2:t= .cel x
    ·exact .inr (.inl n2)
    ·by_cases n3:t= .keys
     ·exact .inr (.inr (.inl n3))
     ·exact .inr (.inr (.inr ⟨b4 t n1 n2 n3,live t ht n1 n2,n3⟩))
  have kr:kb' =blk .keys\/w1.heap.size<=kb' :=hkb.imp id (by omega)
  rcases cls t a with rfl|rfl|rfl|⟨e1,l1,m1⟩ <;>rcases cls t' b with rfl|rfl|rfl|⟨e2,l2,m2⟩ <;>first
   |rfl
   |(rw [e1,e2] at e;exact h.inj _ _ l1 l2 e)
   |(have r2:=(h.rng _ l2).2;have r3:=ne _ _ l2 (show Live ks none .keys from trivial) m2;simp only [b1,b2,b3,e2] at e;omega)
   |(have r1:=(h.rng _ l1).2;have r3:=ne _ _ l1 (show Live ks none .keys from trivial) m1;simp only [b1,b2,b3,e1] at e;omega)
   |(simp only [b1,b2,b3] at e;omega)
 ·by_cases n1:t= .box x
  ·subst n1;rw [b1];omega
  ·by_cases n2:t= .cel x
   ·subst n2;rw [b2];omega
   ·by_cases n3:t= .keys
    ·subst n3;rw [b3];omega
    ·rw [b4 t n1 n2 n3];have:=h.rng t (live t ht n1 n2);omega
 ·refine h.below.trans (Below.trans ⟨h1.os,h1.tape,h1.output,h1.size,fun b hb=>h1.block b (by omega)⟩ ?_);refine Below.trans (Below.grown (Below.refl _ _) h2 (by omega) (fun k hk=>by cases hk;omega)) ?_;refine Below.trans ⟨h3.os,h3.tape,h3.output,h3.size,fun b hb=>h3.block b (by omega)⟩ ?_;exact Below.grown (Below.refl _ _) h4 (by omega) (fun k hk=>by cases hk;omega)
end
end Go.Ab
end
section
namespace Go.Ab
open Go.Proofs Go.RowKit Go.Shelf
theorem xN9{P:Program}{te ts:TypeId}(w:World){o:Oper}{a:Act}{K:Act->World->Prop}{Q:Exit->Act->World->Prop}(ht:P.underlying ts=some (.slice te))(s x:Operand)
 (hop:o.op= .call { callee:= .builtin .append,args:= #[s,x],argTypes:= #[ts,ts] }) (i:TypeInfo) (hi:P.info? te=some i) {z:Value} (hz:i.zero=some z) {sz bytes:Nat} (hsize:i.size=sz) (hby:i.bytes=bytes) (hzs:z.cells.size=sz) (hsz:0<sz) (hb:bytes<=64)
 (base:Nat) (v:Value) (n:Nat) (xs:List Value) (hs:a.eval s=v) (hown:w.ownsRow base te sz v n xs) (ad:Addr) (m c:Nat) (news:List Value) (hx:a.eval x= .slice (some ad) m c) (hl:news.length=m*sz)
 (hnews:∀j u,news[j]? =some u->w.cell? (ad.add j)=some u) (h1:∀u∈news,u.oneCell' =true) (hlen:n+m<=1000000000000) (hbase:base<=w.heap.size)
 (hK:∀v' w',w'.ownsRow base te sz v' (n+m) (xs++news)->w.grownBy w' v.ownBlock->(v' = .slice none 0 0↔v= .slice none 0 0/\m=0)->(v'.ownBlock=v.ownBlock\/v'.ownBlock=some w.heap.size)->K (a.put o.dst v') w'):
 o.wp P a w K Q:=by
 have h2:(n+m)*bytes<=1000000000000*64:=Nat.mul_le_mul hlen hb;obtain⟨v',w',hr,h2,h3,h4,h5⟩:=run_append_own_at (P:=P) w base ts o.type te i z sz bytes ht hi hz hsize hby hzs hsz v n xs hown ad m c news hl hnews h1 (by unfold maxLen;omega) (by omega) hbase;unfold Oper.wp execOp;simp only [hop,resolve,invoke,builtin,Sem.run_bind,Sem.run_pure,Result.andThen_ok,List.map_toArray,List.map_cons,List.map_nil,hs,hx,hr];exact hK v' w' h2 h3 h4 h5
theorem xN8{P:Program}{te ts:TypeId}(w:World){ops:Array Oper}{rest:List Oper}{o:Oper}{a:Act}{Q:Exit->Act->World->Prop}(ht:P.underlying ts=some (.slice te))(hg:o.guard=none)(s x:Operand)
 (hop:o.op= .call { callee:= .builtin .append,args:= #[s,x],argTypes:= #[ts,ts] }) (i:TypeInfo) (hi:P.info? te=some i) {z:Value} (hz:i.zero=some z) {sz bytes:Nat} (hsize:i.size=sz) (hby:i.bytes=bytes) (hzs:z.cells.size=sz) (hsz:0<sz) (hb:bytes<=64)
 (base:Nat) (v:Value) (n:Nat) (xs:List Value) (hs:a.eval s=v) (hown:w.ownsRow base te sz v n xs) (ad:Addr) (m c:Nat) (news:List Value) (hx:a.eval x= .slice (some ad) m c) (hl:news.length=m*sz)
 (hnews:∀j u,news[j]? =some u->w.cell? (ad.add j)=some u) (h1:∀u∈news,u.oneCell' =true) (hlen:n+m<=1000000000000) (hbase:base<=w.heap.size)
 (hK:∀v' w',w'.ownsRow base te sz v' (n+m) (xs++news)->w.grownBy w' v.ownBlock->(v' = .slice none 0 0↔v= .slice none 0 0/\m=0)->(v'.ownBlock=v.ownBlock\/v'.ownBlock=some w.heap.size)->wpList P ops Q rest (a.put o.dst v') w'):
 wpList P ops Q (o::rest) a w:=by
 refine wpList_plain hg fun K' hK' => ?_;exact xN9 w ht s x hop i hi hz hsize hby hzs hsz hb base v n xs hs hown ad m c news hx hl hnews h1 hlen hbase fun v' w' a1 a2 a3 a4=>hK' _ _ (hK v' w' a1 a2 a3 a4)
theorem ORow.owns{w:World}{te g cap sz n:Nat}{xs:List Value}(h:ORow w te g cap sz n xs):w.ownsRow 0 te sz (.slice (some ⟨g,0,none⟩) n cap) n xs:=by
 obtain⟨h0,cur,h1,h2,h3,h4,h5⟩:=h;exact⟨h0,.inr ⟨g,cap,cur,rfl,Nat.zero_le _,h1,h2,h3,h4,h5⟩⟩
theorem ORow.of_owns{w:World}{te sz n base:Nat}{xs:List Value}{v:Value}(h:w.ownsRow base te sz v n xs)(hn:n≠0):∃g cap,v= .slice (some ⟨g,0,none⟩) n cap/\base<=g/\ORow w te g cap sz n xs:=by
 obtain⟨h0,h1⟩:=h;rcases h1 with ⟨_,h2⟩|⟨g,cap,cur,rfl,h2,h3,h4,h5,h6,h7⟩
 ·exact absurd h2 hn
 ·exact⟨g,cap,rfl,h2,h0,cur,h3,h4,h5,h6,h7⟩
def Kp(l:List Nat)(a a' :Act):Prop:=a'.defers=a.defers/\a'.tmps.size=a.tmps.size/\∀t∈l,a'.tmps[t]? =a.tmps[t]?
theorem xCh{l:List Nat}{a:Act}{tm:Array Value}{d:Nat}{v:Value}(hd:l.contains d=false)(h:Kp l a { a with tmps:=tm }):Kp l a { a with tmps:=tm.setIfInBounds d v }:=by
 refine⟨rfl,by simpa using h.2.1,fun t ht=> ?_⟩;have:d≠t:=fun e=>by subst e;simp at hd;exact hd ht
 rw [<-h.2.2 t ht];simp [this]
theorem xEY{l:List Nat}{a:Act}:Kp l a { a with tmps:=a.tmps }:=⟨rfl,rfl,fun _ _=>rfl⟩
theorem Kp.trans{l l' l2:List Nat}{a b c:Act}(h:Kp l a b)(g:Kp l' b c)(s:(l2.all fun t=>l.contains t&&l'.contains t)=true):Kp l2 a c:=by
 refine⟨g.1.trans h.1,g.2.1.trans h.2.1,fun t ht=> ?_⟩;have:=List.all_eq_true.1 s t ht;simp only [Bool.and_eq_true,List.contains_iff_mem] at this;exact(g.2.2 t this.2).trans (h.2.2 t this.1)
theorem Kp.get{l:List Nat}{a b:Act}(h:Kp l a b){t:Nat}{v:Value}(hv:a.tmps[t]? =some v)(ht:l.contains t=true):b.tmps[t]? =some v:=(h.2.2 t (by simpa using ht)).trans hv
theorem xDK{a:Act}{k n:Nat}{v:Value}(h:a.tmps[k]? =some v)(hs:a.tmps.size=n)(hk:k<n):a.tmps[k]'(by omega)=v:=(Array.getElem?_eq_some_iff.1 h).2
theorem xPa{a:Act}{t:Nat}{v:Value}(h:a.tmps[t]? =some v):a.eval (.tmp t)=v:=by
 simp only [Act.eval,Array.getD_eq_getD_getElem?,h,Option.getD_some]
end Go.Ab
end
section
namespace Go.Ab
open Go.Proofs Go.RowKit Go.Shelf
theorem xMi(i:Nat)(rs:List Rowd)(r:Rowd):zJm i (rs++ [r])=if gKey i r∈zJm i rs then zJm i rs else zJm i rs++ [gKey i r]:=by
 unfold zJm;rw [List.foldl_append]
 rfl
theorem xQ2(i k:Nat)(rs:List Rowd)(r:Rowd):gSum i k (rs++ [r])=updI (gSum i k rs) (gKey i r) (IntKind.i64.wrap (gSum i k rs (gKey i r)+gKey k r)):=by
 funext y
 simp only [gSum,List.foldl_append,List.foldl_cons,List.foldl_nil,updI];by_cases h:y=gKey i r
 ·subst h;simp
 ·rw [if_neg (Ne.symm h),if_neg h]
theorem xQ0(i:Nat)(rs:List Rowd)(r:Rowd):gFrm i (rs++ [r])=updI (gFrm i rs) (gKey i r) (zIr (gFrm i rs (gKey i r)) r.frm):=by
 funext y
 simp only [gFrm,List.foldl_append,List.foldl_cons,List.foldl_nil,updI];by_cases h:y=gKey i r
 ·subst h;simp
 ·rw [if_neg (Ne.symm h),if_neg h]
theorem xKQ{rs:List Rowd}{j:Nat}(h:j<rs.length):rs.take (j+1)=rs.take j++ [rs[j]]:=by rw [List.take_succ_eq_append_getElem h]
theorem xUo{i:Nat}{x:Int}:∀(n:Nat) (rs:List Rowd),rs.length=n->x ∉ zJm i rs->(∀k,gSum i k rs x=0)/\gFrm i rs x=[]:=by
 intro n
 induction n with
 |zero=>
  intro rs h _;have:rs=[]:=List.length_eq_zero_iff.1 h;subst this;exact⟨fun _=>rfl,rfl⟩
 |succ n ih=>
  intro rs h hx;have e:rs=rs.take n++ [rs[n]'(by omega)]:=by rw [<-xKQ (by omega)];exact(List.take_of_length_le (by omega)).symm
  rw [e] at hx ⊢;rw [xMi] at hx;have hx2:x ∉ zJm i (rs.take n)/\x≠gKey i (rs[n]'(by omega)):=by
   split at hx
   ·rename_i hm;exact⟨hx,fun e=>hx (e ▸ hm)⟩
   ·rw [List.mem_append] at hx;exact⟨fun h=>hx (.inl h),fun e=>hx (.inr (by simp [e]))⟩
  obtain⟨h1,h2⟩:=ih (rs.take n) (by rw [List.length_take];omega) hx2.1;refine⟨fun k=> ?_,?_⟩
  ·rw [xQ2];simp only [updI,if_neg hx2.2];exact h1 k
  ·rw [xQ0];simp only [updI,if_neg hx2.2];exact h2
theorem xVL(a b:List Org):(zIr a b).length<=a.length+b.length:=by
 unfold zIr;rw [List.length_mergeSort];have:=xUj (a++b)
 rwa [jA] at this
theorem xV1{i L:Nat}{x:Int}:∀(rs:List Rowd),(∀r∈rs,r.frm.length<=L)->(gFrm i rs x).length<=rs.length*L:=by
 have key:∀(rs:List Rowd) (f:List Org),(∀r∈rs,r.frm.length<=L)->(rs.foldl (fun f r=>if gKey i r=x then zIr f r.frm else f) f).length<=f.length+rs.length*L:=by
  intro rs
  induction rs with
  |nil=>intro f _;simp
  |cons r rs ih=>
   intro f h;rw [List.foldl_cons];refine Nat.le_trans (ih _ fun q hq=>h q (List.mem_cons_of_mem _ hq)) ?_;have hr:=h r List.mem_cons_self;have hu:=xVL f r.frm;rw [jC,Nat.add_mul];split <;>omega
 intro rs h;have:=key rs [] h;unfold gFrm;simpa using this
theorem xQ1(i:Nat):∀(rs:List Rowd),(zJm i rs).length<=rs.length:=by
 have key:∀(rs:List Rowd) (ks:List Int),(rs.foldl (fun ks r=>if gKey i r∈ks then ks else ks++ [gKey i r]) ks).length<=ks.length+rs.length:=by
  intro rs
  induction rs with
  |nil=>intro f;simp
  |cons r rs ih=>
   intro ks;rw [List.foldl_cons];refine Nat.le_trans (ih _) ?_;split <;>simp <;>omega
 intro rs;simpa [zJm] using key rs []
def vAl(w:World)(v:Value)(xs:List Int):Prop:=
 ∃p c,v= .slice p xs.length c/\(xs=[]\/∃b off,p=some ⟨b,off,none⟩/\b<w.heap.size/\∀m (hm:m<xs.length),w.cell? ⟨b,off+m,none⟩=some (.int .i64 xs[m]))
def xQK(w:World)(v:Value)(rs:List Rowd):Prop:=
 ∃p c,v= .slice p rs.length c/\(rs=[]\/∃b off,p=some ⟨b,off,none⟩/\b<w.heap.size/\∀j (hj:j<rs.length),∃cv fv,w.cell? ⟨b,off+j*2,none⟩=some cv/\w.cell? ⟨b,off+j*2+1,none⟩=some fv/\vAl w cv rs[j].cells/\RowIn w fv rs[j].frm)
theorem xIL{w w' :World}{b o:Nat}(h:w'.heap[b]? =w.heap[b]?):w'.cell? ⟨b,o,none⟩=w.cell? ⟨b,o,none⟩:=by simp only [World.cell?,h]
theorem xT4{w:World}{b o:Nat}{v:Value}(h:w.cell? ⟨b,o,none⟩=some v):b<w.heap.size:=by
 by_cases hlt:b<w.heap.size
 ·exact hlt
 ·simp [World.cell?,Array.getElem?_eq_none (Nat.le_of_not_lt hlt)] at h
section
variable [Inhabited Lb]
theorem vAb{w:World}{ok:List (Nat×Nat)->Nat->Nat->Prop}{q:List (Nat×Nat)->Value->Nat->Prop}{v:Value}{os:List Org}(h:RdP w ok q v (.sl 2 (os.map Ty.org.toD))):RowIn w v os:=by
 by_cases hx:os=[]
 ·subst hx;obtain⟨ad,cap,rfl,_⟩:=RdP.shape h;exact⟨ad,cap,rfl,.inl rfl⟩
 ·obtain⟨b,off,cap,rfl,hcap,hrl,hq,u,hcl,hk⟩:=RdP.cells h (by simpa using hx);have hpos:0<(os.map Ty.org.toD).length:=by
   cases os with
   |nil=>exact absurd rfl hx
   |cons _ _=>simp
  refine⟨some ⟨b,off,none⟩,cap,by rw [List.length_map],.inr ⟨_,rfl,xT4 (hcl 0 0 hpos (by decide)).1,fun j x hj=> ?_⟩⟩;have hj2:j<(orgs os).length:=(List.getElem?_eq_some_iff.1 hj).1;rw [xKS] at hj2;have e:j=j / 2*2+j % 2:=by omega
  have hm:j / 2<os.length:=by omega
  have hk2:j % 2<2:=Nat.mod_lt _ (by decide);have h1:=xLy os (j / 2) hm (j % 2) hk2;rw [<-e,hj] at h1;cases h1;have g1:=(hcl (j / 2) (j % 2) (by simpa using hm) hk2).1;have hr:((os.map Ty.org.toD)[j / 2]'(by simpa using hm))=Ty.org.toD os[j / 2]:=by rw [List.getElem_map]
  have g2:=hk (j / 2) (j % 2) (by simpa using hm) (by rw [hr];exact hk2);have ha:(⟨b,off,none⟩:Addr).add j=⟨b,off+(j / 2)*2+j % 2,none⟩:=by
   rw [show off+j / 2*2+j % 2=off+j by omega];unfold Addr.add;split
   ·rename_i h0;rw [h0];rfl
   ·rfl
  rw [ha,g1];simp only [hr] at g2;exact congrArg some (xUh g2)
theorem xUu{w:World}{ok:List (Nat×Nat)->Nat->Nat->Prop}{q:List (Nat×Nat)->Value->Nat->Prop}{v:Value}{xs:List Int}(h:RdP w ok q v (.sl 1 (xs.map fun n=> [D.int .i64 n]))):vAl w v xs:=by
 by_cases hx:xs=[]
 ·subst hx;obtain⟨ad,cap,rfl,_⟩:=RdP.shape h;exact⟨ad,cap,rfl,.inl rfl⟩
 ·obtain⟨b,off,cap,rfl,hcap,hrl,hq,u,hcl,hk⟩:=RdP.cells h (by simpa using hx);have hpos:0<(xs.map fun n=> [D.int .i64 n]).length:=by
   cases xs with
   |nil=>exact absurd rfl hx
   |cons _ _=>simp
  refine⟨some ⟨b,off,none⟩,cap,by rw [List.length_map],.inr ⟨b,off,rfl,xT4 (hcl 0 0 hpos (by decide)).1,fun m hm=> ?_⟩⟩;have g1:=(hcl m 0 (by simpa using hm) (by decide)).1;have hr:((xs.map fun n=> [D.int .i64 n])[m]'(by simpa using hm))=[D.int .i64 xs[m]]:=by rw [List.getElem_map]
  have g2:=hk m 0 (by simpa using hm) (by rw [hr];exact Nat.zero_lt_one);rw [show off+m*1+0=off+m by omega] at g1;rw [g1];generalize u m 0=y at g2;simp only [hr,List.getElem_cons_zero] at g2;cases g2
  rfl
theorem xVG{w:World}{ok:List (Nat×Nat)->Nat->Nat->Prop}{q:List (Nat×Nat)->Value->Nat->Prop}{v:Value}{rs:List Rowd}(h:RdP w ok q v (.sl 2 (rs.map Rowd.toD))):xQK w v rs:=by
 by_cases hx:rs=[]
 ·subst hx;obtain⟨ad,cap,rfl,_⟩:=RdP.shape h;exact⟨ad,cap,rfl,.inl rfl⟩
 ·obtain⟨b,off,cap,rfl,hcap,hrl,hq,u,hcl,hk⟩:=RdP.cells h (by simpa using hx);have hpos:0<(rs.map Rowd.toD).length:=by
   cases rs with
   |nil=>exact absurd rfl hx
   |cons _ _=>simp
  refine⟨some ⟨b,off,none⟩,cap,by rw [List.length_map],.inr ⟨b,off,rfl,xT4 (hcl 0 0 hpos (by decide)).1,fun j hj=> ?_⟩⟩;have g0:=(hcl j 0 (by simpa using hj) (by decide)).1;have g1:=(hcl j 1 (by simpa using hj) (by decide)).1;have hr:((rs.map Rowd.toD)[j]'(by simpa using hj))=Rowd.toD rs[j]:=by rw [List.getElem_map]
  have k0:=hk j 0 (by simpa using hj) (by rw [hr];exact Nat.zero_lt_succ _);have k1:=hk j 1 (by simpa using hj) (by rw [hr];exact Nat.lt_succ_self _);simp only [hr] at k0 k1;exact⟨u j 0,u j 1,by simpa using g0,g1,xUu k0,vAb k1⟩
end
theorem xU0{w:World}{g cap:Nat}{xs:List Org}(h:OrgRow w g cap xs):RowIn w (.slice (some ⟨g,0,none⟩) xs.length cap) xs:=by
 have hl:=h.lt;obtain⟨h0,cs,ty,lo,hi,h1,h2,h3,h4⟩:=h;refine⟨_,cap,rfl,.inr ⟨_,rfl,hl,fun j u hj=> ?_⟩⟩;have hj2:j<(orgs xs).length:=(List.getElem?_eq_some_iff.1 hj).1;rw [xKS] at hj2;have e:j=j / 2*2+j % 2:=by omega
 have hm:j / 2<xs.length:=by omega
 have hk2:j % 2<2:=Nat.mod_lt _ (by decide);have q1:=xLy xs (j / 2) hm (j % 2) hk2;rw [<-e,hj] at q1;cases q1;have ha:(⟨g,0,none⟩:Addr).add j=⟨g,(j / 2)*2+j % 2,none⟩:=by
  rw [<-e];unfold Addr.add;split
  ·rename_i h0;rw [h0]
  ·simp
 rw [ha];simp only [World.cell?,h1];exact h4 _ hm _ hk2
end Go.Ab
end
section
namespace Go.Ab
open Go.Proofs Go.RowKit Go.Shelf
theorem ORow.cellI{w:World}{te g cap:Nat}{xs:List Int}(h:ORow w te g cap 1 xs.length (xs.map (Value.int .i64))){j:Nat}(hj:j<xs.length):w.cell? ⟨g,j,none⟩=some (.int .i64 xs[j]):=by
 obtain⟨_,cur,h1,h2,h3,h4,h5⟩:=h;simp only [World.cell?,h1];have e:(cur.toList.take (xs.length*1))[j]? =some (.int .i64 xs[j]):=by rw [h5,List.getElem?_map,List.getElem?_eq_getElem hj];rfl
 rw [List.getElem?_take,if_pos (by omega)] at e;simpa using e
theorem ORow.holdsI{w:World}{te g cap:Nat}{xs:List Int}(h:ORow w te g cap 1 xs.length (xs.map (Value.int .i64))):Sort.Holds (Value.int .i64) w g 0 xs.toArray:=by
 intro j hj;have hj:j<xs.length:=by simpa using hj
 rw [Nat.zero_add];refine⟨?_,?_⟩
 ·rw [h.cellI hj];simp [hj]
 ·obtain⟨_,cur,h1,_⟩:=h;simp [World.frozen?,h1]
theorem xVJ{w:World}{te g cap n:Nat}{xs ys:List Int}{os:Array Obj}(h:ORow w te g cap 1 xs.length (xs.map (Value.int .i64)))(hl:ys.length=xs.length):
 ORow (Sort.grow (Sort.putRow (Value.int .i64) (Sort.ahead w n) g 0 ys.toArray) os) te g cap 1 ys.length (ys.map (Value.int .i64))/\w.heap.size<=(Sort.grow (Sort.putRow (Value.int .i64) (Sort.ahead w n) g 0 ys.toArray) os).heap.size/\
  ∀b,b<w.heap.size->b≠g->(Sort.grow (Sort.putRow (Value.int .i64) (Sort.ahead w n) g 0 ys.toArray) os).heap[b]? =w.heap[b]? :=by
 have hsz:(Sort.putRow (Value.int .i64) (Sort.ahead w n) g 0 ys.toArray).heap.size=w.heap.size:=by simp [Sort.putRow,Sort.mapBlock,Sort.ahead]
 obtain⟨_,cur,h1,h2,h3,h4,h5⟩:=h;have hg:g<w.heap.size:=(Array.getElem?_eq_some_iff.1 h1).1;refine⟨⟨by simp,Sort.putCells (Value.int .i64) 0 ys.toArray cur,?_,by omega,h3,by simp [Sort.putCells,h4],?_⟩,by rw [Sort.size_grow,hsz];omega,fun b hb hne=> ?_⟩
 ·rw [Sort.heap_grow_old _ _ (by rw [hsz];exact hg)];simp only [Sort.putRow,Sort.mapBlock,Array.getElem?_modify,if_true];show Option.map _ (w.heap[g]?)=_;rw [h1];rfl
 ·refine List.ext_getElem? fun j=> ?_;rw [List.getElem?_take];by_cases hj:j<ys.length
  ·rw [if_pos (by omega),List.getElem?_map,List.getElem?_eq_getElem hj];have hc:j<cur.size:=by omega
   simp [Sort.putCells,hc,hj]
  ·rw [if_neg (by omega),List.getElem?_map,List.getElem?_eq_none (by omega)]
   rfl
 ·rw [Sort.heap_grow_old _ _ (by rw [hsz];exact hb)];simp only [Sort.putRow,Sort.mapBlock,Array.getElem?_modify];rw [if_neg (Ne.symm hne)]
  rfl
section
variable {w0 wr:World} {B tR tI:Nat} {blk:Tg->Nat} {ks kl:List Int} {sm:Int->Int} {fr:Int->List Org} {fc:Int->Nat} {nx:Option Int} {kc:Nat}
theorem GRel.rekey(h:GRel w0 wr B tR tI blk ks kl sm fr fc nx kc){wr' :World}{kl' :List Int}(hos:wr'.os=wr.os/\wr'.tape=wr.tape/\wr'.output=wr.output)(hs:wr.heap.size<=wr'.heap.size)(ho:∀b,b<wr.heap.size->b≠blk .keys->wr'.heap[b]? =wr.heap[b]?)
 (hk:ORow wr' tI (blk .keys) kc 1 kl'.length (kl'.map (Value.int .i64))):GRel w0 wr' B tR tI blk ks kl' sm fr fc nx kc:=by
 have k:∀t,Live ks nx t->t≠ .keys->wr'.heap[blk t]? =wr.heap[blk t]? :=fun t ht hn=>ho _ (h.rng t ht).2 fun e=>hn (h.inj t .keys ht trivial e);refine⟨h.map.kept (k .map trivial (by simp)) (fun _ _=>rfl),fun x hx=>(k (.box x) hx (by simp)).trans (h.box x hx),fun x hx=>(k (.cel x) hx (by simp)).trans (h.cel x hx),fun x hx hn=>(h.frm x hx hn).kept (k (.frm x) ⟨hx,hn⟩ (by simp)),h.nil,hk,h.nodup,h.inj,fun t ht=>⟨(h.rng t ht).1,Nat.lt_of_lt_of_le (h.rng t ht).2 hs⟩,?_⟩;have rk:=h.rng .keys trivial;exact h.below.trans ⟨hos.1,hos.2.1,hos.2.2,hs,fun b hb=>ho b (by omega) (by omega)⟩
end
def rowV(blk:Tg->Nat)(fr:Int->List Org)(fc:Int->Nat)(xs:List Int):List Value:=
 xs.flatMap fun x=> [.slice (some ⟨blk (.cel x),0,none⟩) 2 2,.slice (some ⟨blk (.frm x),0,none⟩) (fr x).length (fc x)]
theorem xVF(blk:Tg->Nat)(fr:Int->List Org)(fc:Int->Nat)(xs:List Int)(x:Int):
 rowV blk fr fc (xs++ [x])=rowV blk fr fc xs++ [.slice (some ⟨blk (.cel x),0,none⟩) 2 2,.slice (some ⟨blk (.frm x),0,none⟩) (fr x).length (fc x)]:=by simp [rowV]
end Go.Ab
end
section
namespace Go.Ab
open Go.Proofs Go.RowKit Go.Shelf
section
variable [Inhabited Lb]
def Env.ended(E:Env)(w' :World)(lab:Nat->Option (Nat×List (Nat×Nat)))(hwf:Nat->Nat):Env:=
 { w:=w',hw:=fun b=>match lab b with |some _=>hwf b|none=>E.hw b,
   ow:=fun b=>match lab b with |some l=>some (.arr (.h 0) l.1 l.2) |none=>(E.ow b).bind fun l=>match l with | .arr (.h 0) _ _=>none|l=>some l,
   bx:=E.bx,hdr:=E.hdr }
theorem vES{C:Ctx}{fn:Func}{I:Info}{σ:St}{tmps:Array Value}{a' :Act}{E:Env}(hi:Inv C σ.get tmps E)(hext:∀s b,C.ext s=some b->False)(hIe:I.ext=[])(hIl:I.lnt=[]){w' :World}{B6:Nat}(hB6:E.ow B6≠none)
 (hos:w'.os=E.w.os/\w'.tape=E.w.tape/\w'.output=E.w.output) (hsz:E.w.heap.size<=w'.heap.size) (hold:∀b,b<E.w.heap.size->b≠B6->w'.heap[b]? =E.w.heap[b]?) (hd:a'.defers=[]) (hnt:a'.tmps.size=C.nt)
 {lab:Nat->Option (Nat×List (Nat×Nat))} {hwf:Nat->Nat} (inj:∀b b' l,lab b=some l->lab b' =some l->b=b') (new:∀b l,lab b=some l->E.w.heap.size<=b/\b<w'.heap.size)
 {av:AV} {v:Value} (hnb:av.nbox=none) (hres:VR (E.ended w' lab hwf) zAI (.h 0) av v) (hrun:(results fn a'.tmps).run C.P w' = .ok v w'):zGK C fn I ⟨av,[],[]⟩ a' w' :=by
 have labn:∀b,b<E.w.heap.size->lab b=none:=fun b hb=>by
  cases h:lab b with
  |none=>rfl
  |some l=>have:=(new b l h).1;omega
 have hinv:Inv C (St.get []) a'.tmps (E.ended w' lab hwf):=by
  refine { os:=hos.1.trans hi.os,tape:=hos.2.1.trans hi.tape,output:=hos.2.2.trans hi.output,size:=Nat.le_trans hi.size hsz,hdr:=hi.hdr,old:=fun b hb h0=> ?_,new:=fun b hb=> ?_,inj:=fun b b' l h1 h2=> ?_,boxhw:=fun b s h=> ?_,nt:=hnt,tmp:=fun t=>trivial,box:=fun s cs h=>by(cases h),ext:=fun s b h=>(hext s b h).elim,base:=hi.base }
  ·obtain⟨h1,h2,h3⟩:=hi.old b hb h0;have hlt:b<E.w.heap.size:=Nat.lt_of_lt_of_le hb hi.size;refine⟨(hold b hlt fun e=>hB6 (e ▸ h3)).trans h1,?_,?_⟩
   ·simp only [Env.ended,labn b hlt];exact h2
   ·simp only [Env.ended,labn b hlt,h3,Option.bind_none]
  ·have hb:w'.heap.size<=b:=hb;have hl:lab b=none:=by
    cases h:lab b with
    |none=>rfl
    |some l=>have:=(new b l h).2;omega
   obtain⟨h1,h2⟩:=hi.new b (by omega);simp only [Env.ended,hl,h1,Option.bind_none];exact⟨trivial,h2⟩
  ·simp only [Env.ended] at h1 h2;cases g1:lab b with
   |some l1=>
    cases g2:lab b' with
    |some l2=>
     rw [g1] at h1;rw [g2] at h2;simp only at h1 h2;cases h1;have:l1=l2:=by
      cases l1;cases l2;simpa using(Option.some.inj h2).symm
     subst this;exact inj b b' l1 g1 g2
    |none=>
     rw [g1] at h1;rw [g2] at h2;simp only at h1 h2;cases h1;rw [Option.bind_eq_some_iff] at h2;obtain⟨l2,_,c2⟩:=h2;split at c2
     ·cases c2
     ·rename_i hne;cases c2;exact(hne _ _ rfl).elim
   |none=>
    cases g2:lab b' with
    |some l2=>
     rw [g1] at h1;rw [g2] at h2;simp only at h1 h2;cases h2;rw [Option.bind_eq_some_iff] at h1;obtain⟨l1,_,c1⟩:=h1;split at c1
     ·cases c1
     ·rename_i hne;cases c1;exact(hne _ _ rfl).elim
    |none=>
     rw [g1] at h1;rw [g2] at h2;simp only at h1 h2;rw [Option.bind_eq_some_iff] at h1 h2;obtain⟨l1,a1,c1⟩:=h1;obtain⟨l2,a2,c2⟩:=h2;have e1:l1=l:=by split at c1 <;>first |exact Option.some.inj c1|cases c1
     have e2:l2=l:=by split at c2 <;>first |exact Option.some.inj c2|cases c2
     subst e1 e2;exact hi.inj _ _ _ a1 a2
  ·simp only [Env.ended] at h ⊢;cases g1:lab b with
   |some l1=>rw [g1] at h;simp at h
   |none=>
    rw [g1] at h;simp only at h ⊢;rw [Option.bind_eq_some_iff] at h;obtain⟨l1,a1,c1⟩:=h;have e1:l1= .box s:=by split at c1 <;>first |exact Option.some.inj c1|cases c1
    subst e1;exact hi.boxhw b s a1
 refine⟨hd,fun tg ht _ _ m=>⟨v,E.ended w' lab hwf,E.ended w' lab hwf,rfl,⟨[],hinv⟩,hrun,{ w:=rfl,hw:=rfl,bx:=rfl,hdr:=rfl,ow:=fun b h=>h,env:=hinv.env,res:=ResAt.of hres hnb,outs:=fun n s o h1 h2=>by rw [hIe] at h1;simp at h1,outl:=by rw [hIe];rfl,lents:= ?_ }⟩⟩;rw [hIl] at ht;obtain rfl:tg=[]:=List.length_eq_zero_iff.1 ht
 trivial
theorem Reach.tail{P:Program}{fn:Func}{I:Info}{σ:St}{ro:CallO}{c1 c2:Code}
 (h:∀C:Ctx,C.P=P->C.nt=I.nt->(∀s b,C.ext s=some b->s∈I.ext)->∀a w,R C σ a w->c1.wp P (Exit.then (fun a1 w1=>c2.wp P (fun e a' w' =>e= .ret/\zGK C fn I ro a' w') a1 w1) (fun _ _ _=>False)) a w):Reach P fn I [.code c1,.code c2] σ ro:=by
 intro C hP hnt hext a w hR b cs;obtain⟨e,a1,w1,hq,harr⟩:=h C hP hnt hext a w hR b [.code c2] cs;cases e with
 |normal=>
  obtain⟨e2,a2,w2,⟨rfl,hq2⟩,todo,harr2⟩:=hq b [] cs;exact⟨a2,w2,todo,hq2,harr.trans harr2⟩
 |exit id=>exact hq.elim
 |goto l=>exact hq.elim
 |ret=>exact hq.elim
 |panic c=>exact hq.elim
 |outgrown=>exact hq.elim
theorem xU1{w:World}{ok:List (Nat×Nat)->Nat->Nat->Prop}{q:List (Nat×Nat)->Value->Nat->Prop}{g cap:Nat}{xs:List Org}(h:OrgRow w g cap xs)(hok:∀o,o<xs.length*2->ok [] g o)(hq:q [] (.slice (some ⟨g,0,none⟩) xs.length cap) 2):
 RdP w ok q (.slice (some ⟨g,0,none⟩) xs.length cap) (.sl 2 (xs.map Ty.org.toD)):=by
 obtain⟨hcap,cs,ty,lo,hi,t4,t5,t6,hc⟩:=h;refine .sl g 0 xs.length cap 2 _ (fun m k=>if h:m<xs.length/\k<2 then(zAu xs[m])[k]'h.2 else .bool false) (by simp) hcap (fun r hr=> ?_) hq (fun m k hm hk=> ?_) (fun m k hm hk=> ?_)
 ·obtain⟨y,_,rfl⟩:=List.mem_map.1 hr;exact Ty.toD_length .org y
 ·rw [dif_pos ⟨hm,hk⟩];refine⟨?_,hok _ (by omega)⟩;simp only [World.cell?,t4];rw [Nat.zero_add];exact hc m hm k hk
 ·have hm' :m<xs.length:=by simpa using hm
  have hr:(xs.map Ty.org.toD)[m]=Ty.org.toD xs[m]:=by rw [List.getElem_map]
  have hk' :k<2:=by rw [hr] at hk;exact hk
  rw [dif_pos ⟨hm',hk'⟩];simp only [hr]
  match k,hk' with
  |0,_=>exact .int .i64 _
  |1,_=>exact .int .i64 _
end
end Go.Ab
end
section
namespace Go.Ab
open Go.Proofs Go.RowKit Go.Shelf
def xHv(n:Nat):Code->Option Code
 | .region i o d=>cond (i.beq n) (some (.region i o d)) none
 | .seq x y=>(xHv n x).orElse fun _=>xHv n y
 | .cond _ x y=>(xHv n x).orElse fun _=>xHv n y
 | .block _ x=>xHv n x
 | .loop x=>xHv n x
 |_=>none
noncomputable def Rg (n:Nat):Code:=((Tryz.f28.body).bind (xHv n)).getD .skip
theorem grpT:GrpT Tryz.prog 3 93 94:=⟨Tryz.underlying3,Tryz.underlying93,Tryz.zeroValue94⟩
theorem vGK:(Tryz.prog.info? 3).map (fun i=>(i.zero,i.size,i.bytes))=some (some (.int .i64 0),1,8):=by kernel_rfl
theorem vGL:(Tryz.prog.info? 45).map (fun i=>(i.zero,i.size,i.bytes))=some (some (.agg #[.slice none 0 0,.slice none 0 0]),2,48):=by kernel_rfl
theorem mixG:Tryz.prog.follows .mixedOrders=true:=by kernel_rfl
set_option maxRecDepth 100000
theorem gpr8{a:Act}{w:World}(hs:a.tmps.size=153):(Rg 8).wp Tryz.prog (fun e a' w' =>e= .normal/\w' =w.alloc (.map #[] 0)/\a'.tmps[11]? =some (.map (some w.heap.size))/\Kp [3,4,5,6,9,10] a a') a w:=by
 dsimp only [Rg,Tryz.f28,Option.bind,xHv,Option.getD,cond,Nat.beq,Option.orElse];have hmm:= @run_makeMap Tryz.prog
 go_wp2
 exact xCh rfl (xCh rfl xEY)
theorem gpr9{a:Act}{w:World}(hs:a.tmps.size=153):(Rg 9).wp Tryz.prog (fun e a' w' =>e= .normal/\w' =w.alloc (.cells #[] 3 (0,0))/\a'.tmps[12]? =some (.slice (some ⟨w.heap.size,0,none⟩) 0 0)/\Kp [3,4,5,6,9,10,11] a a') a w:=by
 dsimp only [Rg,Tryz.f28,Option.bind,xHv,Option.getD,cond,Nat.beq,Option.orElse]
 go_wp2
 exact xCh rfl (xCh rfl xEY)
theorem vGp{a:Act}{w:World}(hs:a.tmps.size=153){B5 n c:Nat}{p:Option Addr}(h5:a.tmps[5]? =some (.pointer (some ⟨B5,0,none⟩)))(hc:w.cell? ⟨B5,6,none⟩=some (.slice p n c)):(Rg 10).wp Tryz.prog (fun e a' w' =>e= .normal/\w' =w/\a'.tmps[55]? =some (.slice p n c)/\a'.tmps[56]? =some (.int .i64 n)/\a'.tmps[57]? =some (.int .i64 (0:Nat))/\Kp [3,4,5,6,9,10,11,12] a a') a w:=by
 dsimp only [Rg,Tryz.f28,Option.bind,xHv,Option.getD,cond,Nat.beq,Option.orElse];have h5:=xDK h5 hs (by decide)
 go_wp2
 exact xCh rfl (xCh rfl (xCh rfl (xCh rfl xEY)))
theorem vGq{a:Act}{w:World}(hs:a.tmps.size=153){j n:Nat}(h56:a.tmps[56]? =some (.int .i64 n))(h57:a.tmps[57]? =some (.int .i64 j)):(Rg 11).wp Tryz.prog (fun e a' w' =>e= .normal/\w' =w/\a'.tmps[58]? =some (.bool (decide (j<n)))/\Kp [3,4,5,6,9,10,11,12,55,56,57] a a') a w:=by
 dsimp only [Rg,Tryz.f28,Option.bind,xHv,Option.getD,cond,Nat.beq,Option.orElse];have h56:=xDK h56 hs (by decide);have h57:=xDK h57 hs (by decide)
 go_wp2
 exact xCh rfl xEY
theorem vGr{a:Act}{w:World}(hs:a.tmps.size=153){j n b off c:Nat}(hj:j<n){p1 p2:Option Addr}{n1 c1 n2 c2:Nat}(h55:a.tmps[55]? =some (.slice (some ⟨b,off,none⟩) n c))(h57:a.tmps[57]? =some (.int .i64 j))(hc:w.cell? ⟨b,off+j*2,none⟩=some (.slice p1 n1 c1))(hf:w.cell? ⟨b,off+j*2+1,none⟩=some (.slice p2 n2 c2)):
 (Rg 12).wp Tryz.prog (fun e a' w' =>e= .normal/\w' =w.alloc (.cells #[.slice p1 n1 c1,.slice p2 n2 c2] 45 (0,0))/\a'.tmps[14]? =some (.pointer (some ⟨w.heap.size,0,none⟩))/\Kp [3,4,5,6,9,10,11,12,55,56,57] a a') a w:=by
 dsimp only [Rg,Tryz.f28,Option.bind,xHv,Option.getD,cond,Nat.beq,Option.orElse];have h55:=xDK h55 hs (by decide);have h57:=xDK h57 hs (by decide)
 go_wp2
 exact xCh rfl (xCh rfl (xCh rfl xEY))
theorem vGs{a:Act}{w:World}(hs:a.tmps.size=153){rb i b off c n:Nat}(hj:i<n){x:Int}(h14:a.tmps[14]? =some (.pointer (some ⟨rb,0,none⟩)))(h9:a.tmps[9]? =some (.int .i64 i))(hc:w.cell? ⟨rb,0,none⟩=some (.slice (some ⟨b,off,none⟩) n c))(hx:w.cell? ⟨b,off+i,none⟩=some (.int .i64 x)):
 (Rg 13).wp Tryz.prog (fun e a' w' =>e= .normal/\w' =w/\a'.tmps[15]? =some (.int .i64 x)/\Kp [3,4,5,6,9,10,11,12,14,55,56,57] a a') a w:=by
 dsimp only [Rg,Tryz.f28,Option.bind,xHv,Option.getD,cond,Nat.beq,Option.orElse];have h14:=xDK h14 hs (by decide);have h9:=xDK h9 hs (by decide)
 go_wp2
 exact xCh rfl (xCh (v:= .int .i64 x) rfl (xCh rfl (xCh rfl (xCh rfl (xCh rfl xEY)))))
theorem vGt{a:Act}{w:World}(hs:a.tmps.size=153){M:Nat}{bx:Int->Nat}{ks:List Int}{x:Int}(hm:PMap w M bx ks)(h11:a.tmps[11]? =some (.map (some M)))(h15:a.tmps[15]? =some (.int .i64 x)):
 (Rg 14).wp Tryz.prog (fun e a' w' =>e= .normal/\w' =w/\a'.tmps[69]? =some (.bool (!decide (x∈ks)))/\Kp [3,4,5,6,9,10,11,12,14,15,55,56,57] a a') a w:=by
 dsimp only [Rg,Tryz.f28,Option.bind,xHv,Option.getD,cond,Nat.beq,Option.orElse];have h11:=xDK h11 hs (by decide);have h15:=xDK h15 hs (by decide);have hl:=xBY grpT hm x;by_cases hx:x∈ks
 ·rw [if_pos hx,pbx] at hl
  go_wp2
  exact xCh rfl (xCh rfl (xCh rfl (xCh rfl xEY)))
 ·rw [if_neg hx] at hl
  go_wp2
  exact xCh rfl (xCh rfl (xCh rfl (xCh rfl xEY)))
theorem vGu{a:Act}{w:World}(hs:a.tmps.size=153){M:Nat}{bx:Int->Nat}{ks:List Int}{x:Int}(hm:PMap w M bx ks)(hx:x ∉ ks)(h11:a.tmps[11]? =some (.map (some M)))(h15:a.tmps[15]? =some (.int .i64 x)):
 (Rg 15).wp Tryz.prog (fun e a' w' =>e= .normal/\PMap w' M (fun y=>if y=x then w.heap.size+1 else bx y) (ks++ [x])/\((w.alloc (.cells #[.int .i64 x,.int .i64 0] 3)).alloc (.cells #[.slice (some ⟨w.heap.size,0,none⟩) 2 2,.slice none 0 0] 45)).grownBy w' (some M)/\
   w'.heap.size=((w.alloc (.cells #[.int .i64 x,.int .i64 0] 3)).alloc (.cells #[.slice (some ⟨w.heap.size,0,none⟩) 2 2,.slice none 0 0] 45)).heap.size/\Kp [3,4,5,6,9,10,11,12,14,15,55,56,57] a a') a w:=by
 dsimp only [Rg,Tryz.f28,Option.bind,xHv,Option.getD,cond,Nat.beq,Option.orElse];have h11:=xDK h11 hs (by decide);have h15:=xDK h15 hs (by decide);have hlt:=hm.lt;obtain⟨w',hrun,r1,r2,r3⟩:=xRP grpT (hm.kept ((xGv (w:=w.alloc (.cells #[.int .i64 x,.int .i64 0] 3)) (o:= .cells #[.slice (some ⟨w.heap.size,0,none⟩) 2 2,.slice none 0 0] 45) (by rw [xFd];omega)).trans (xGv hlt)) (fun _ _=>rfl)) x hx (w.heap.size+1);rw [pbx] at hrun
 go_wp2
 exact xCh rfl (xCh rfl (xCh rfl (xCh rfl (xCh rfl (xCh rfl xEY)))))
theorem vGv{a:Act}{w:World}(hs:a.tmps.size=153){kb kc:Nat}{ks:List Int}{x:Int}(hlen:ks.length<=1000)(hk:ORow w 3 kb kc 1 ks.length (ks.map (Value.int .i64)))(h12:a.tmps[12]? =some (.slice (some ⟨kb,0,none⟩) ks.length kc))(h15:a.tmps[15]? =some (.int .i64 x)):
 (Rg 16).wp Tryz.prog (fun e a' w' =>e= .normal/\∃kb' kc',ORow w' 3 kb' kc' 1 (ks++ [x]).length ((ks++ [x]).map (Value.int .i64))/\(w.alloc (.cells #[.int .i64 x] 3)).grownBy w' (some kb)/\(kb' =kb\/kb' =(w.alloc (.cells #[.int .i64 x] 3)).heap.size)/\a'.tmps[12]? =some (.slice (some ⟨kb',0,none⟩) (ks++ [x]).length kc')/\Kp [3,4,5,6,9,10,11,14,15,55,56,57] a a') a w:=by
 dsimp only [Rg,Tryz.f28,Option.bind,xHv,Option.getD,cond,Nat.beq,Option.orElse];have h12:=xDK h12 hs (by decide);have h15:=xDK h15 hs (by decide);obtain⟨i0,hi,hz0,hz1,hz2⟩:=info_parts vGK;have hkl:kb<w.heap.size:=by
  obtain⟨_,cur,h,_⟩:=hk;exact(Array.getElem?_eq_some_iff.1 h).1
 have hnew:(w.alloc (.cells #[.int .i64 x] 3)).heap[w.heap.size]? =some (.cells #[.int .i64 x] 3 (0,0)):=by
  show(Array.push _ _)[_]? =_;rw [Array.getElem?_push,if_pos rfl]
 have hcell:(w.alloc (.cells #[.int .i64 x] 3)).cell? ⟨w.heap.size,0,none⟩=some (.int .i64 x):=by simp only [World.cell?,hnew];rfl
 go_wp2_with (at_builtin;go_loud (refine xN8 (sz:=1) (bytes:=8) _ Tryz.underlying42 rfl _ _ rfl i0 hi hz0 hz1 hz2 rfl (by decide) (by decide) 0 (n:=ks.length) (xs:=ks.map (Value.int .i64)) (v:= .slice (some ⟨kb,0,none⟩) ks.length kc) (by simp [Act.eval,hs]) (hk.kept (xGv hkl)).owns ⟨w.heap.size,0,none⟩ 1 1 [.int .i64 x] (by simp [Act.eval,hs]) rfl (fun j u hj=>by(match j,hj with |0,hj=>simp at hj;subst hj;exact hcell)) (by simp [Value.oneCell']) (by omega) (Nat.zero_le _) ?_;intro v' w' o1 o2 o3 o4;obtain⟨kb',kc',rfl,_,o5⟩:=ORow.of_owns o1 (by omega)))
 refine⟨kb',kc',by simpa using o5,o2,by simpa [Value.ownBlock] using o4,⟨rfl,rfl⟩,?_⟩;exact xCh rfl (xCh rfl (xCh rfl (xCh rfl (xCh rfl xEY))))
theorem vGy{a:Act}{w:World}(hs:a.tmps.size=153){j:Nat}(hj:j<1000)(h57:a.tmps[57]? =some (.int .i64 j)):
 (Rg 19).wp Tryz.prog (fun e a' w' =>e= .normal/\w' =w/\a'.tmps[57]? =some (.int .i64 (j+1:Nat))/\Kp [3,4,5,6,9,10,11,12,55,56] a a') a w:=by
 dsimp only [Rg,Tryz.f28,Option.bind,xHv,Option.getD,cond,Nat.beq,Option.orElse];have h57:=xDK h57 hs (by decide)
 go_wp2
 exact xCh rfl (xCh rfl xEY)
end Go.Ab
end
section
namespace Go.Ab
open Go.Proofs Go.RowKit Go.Shelf
set_option maxRecDepth 100000
theorem vGw{a:Act}{w:World}(hs:a.tmps.size=153){M rb cb k b off nn c:Nat}{bx:Int->Nat}{ks:List Int}{x s n:Int}(hm:PMap w M bx ks)(hx:x∈ks)(hk:k<nn)(h11:a.tmps[11]? =some (.map (some M)))(h15:a.tmps[15]? =some (.int .i64 x))(h10:a.tmps[10]? =some (.int .i64 k))(h14:a.tmps[14]? =some (.pointer (some ⟨rb,0,none⟩)))
 (hbox:w.cell? ⟨bx x,0,none⟩=some (.slice (some ⟨cb,0,none⟩) 2 2)) (hcel:w.cell? ⟨cb,1,none⟩=some (.int .i64 s)) (hrow:w.cell? ⟨rb,0,none⟩=some (.slice (some ⟨b,off,none⟩) nn c)) (hn:w.cell? ⟨b,off+k,none⟩=some (.int .i64 n)) (hfz:w.frozen? ⟨cb,1,none⟩=false):
 (Rg 17).wp Tryz.prog (fun e a' w' =>e= .normal/\w' =w.drew.setCell ⟨cb,1,none⟩ (.int .i64 (IntKind.i64.wrap (s+n)))/\Kp [3,4,5,6,9,10,11,12,14,15,55,56,57] a a') a w:=by
 dsimp only [Rg,Tryz.f28,Option.bind,xHv,Option.getD,cond,Nat.beq,Option.orElse];have h11:=xDK h11 hs (by decide);have h15:=xDK h15 hs (by decide);have h10:=xDK h10 hs (by decide);have h14:=xDK h14 hs (by decide);have hl:=xBY grpT (w:=w.drew) hm x;rw [if_pos hx,pbx] at hl;refine xLL (fun u=>u=w.drew) 21 mixG ?_;show xJ0 _ _ _ _ _ _ 22 _ _ w.drew;have hT:w.drew=w.drew:=rfl;refine xAQ (v:=(.map (some M))) 0 rfl (by kernel_rfl) (fun _ _ _ h=>nomatch h.1) rfl hT (fun w hw=> ?_) ?_
 ·obtain rfl:=hw
  any_goals go_simp
 refine xAQ (v:=(.int .i64 x)) 1 rfl (by kernel_rfl) (fun _ _ _ h=>nomatch h.1) rfl hT (fun w hw=> ?_) ?_
 ·obtain rfl:=hw
  any_goals go_simp
 refine xAQ (v:=(.pointer (some ⟨bx x,0,none⟩))) 2 rfl (by kernel_rfl) (fun _ _ _ h=>nomatch h.1) rfl hT (fun w hw=> ?_) ?_
 ·obtain rfl:=hw
  any_goals go_simp
 refine xAQ (v:=(.pointer (some ⟨bx x,0,none⟩))) 3 rfl (by kernel_rfl) (fun _ _ _ h=>nomatch h.1) rfl hT (fun w hw=> ?_) ?_
 ·obtain rfl:=hw
  any_goals go_simp
 refine xAQ (v:=(.pointer (some ⟨bx x,0,none⟩))) 4 rfl (by kernel_rfl) (fun _ _ _ h=>nomatch h.1) rfl hT (fun w hw=> ?_) ?_
 ·obtain rfl:=hw
  any_goals go_simp
 refine xAQ (v:=(.slice (some ⟨cb,0,none⟩) 2 2)) 5 rfl (by kernel_rfl) (fun _ _ _ h=>nomatch h.1) rfl hT (fun w hw=> ?_) ?_
 ·obtain rfl:=hw
  any_goals go_simp
 refine xAQ (v:=(.map (some M))) 6 rfl (by kernel_rfl) (fun _ _ _ h=>nomatch h.1) rfl hT (fun w hw=> ?_) ?_
 ·obtain rfl:=hw
  any_goals go_simp
 refine xAQ (v:=(.int .i64 x)) 7 rfl (by kernel_rfl) (fun _ _ _ h=>nomatch h.1) rfl hT (fun w hw=> ?_) ?_
 ·obtain rfl:=hw
  any_goals go_simp
 refine xAQ (v:=(.pointer (some ⟨bx x,0,none⟩))) 8 rfl (by kernel_rfl) (fun _ _ _ h=>nomatch h.1) rfl hT (fun w hw=> ?_) ?_
 ·obtain rfl:=hw
  any_goals go_simp
 refine xAQ (v:=(.pointer (some ⟨bx x,0,none⟩))) 9 rfl (by kernel_rfl) (fun _ _ _ h=>nomatch h.1) rfl hT (fun w hw=> ?_) ?_
 ·obtain rfl:=hw
  any_goals go_simp
 refine xAQ (v:=(.pointer (some ⟨bx x,0,none⟩))) 10 rfl (by kernel_rfl) (fun _ _ _ h=>nomatch h.1) rfl hT (fun w hw=> ?_) ?_
 ·obtain rfl:=hw
  any_goals go_simp
 refine xAQ (v:=(.slice (some ⟨cb,0,none⟩) 2 2)) 11 rfl (by kernel_rfl) (fun _ _ _ h=>nomatch h.1) rfl hT (fun w hw=> ?_) ?_
 ·obtain rfl:=hw
  any_goals go_simp
 refine xAQ (v:=(.pointer (some ⟨cb,1,none⟩))) 12 rfl (by kernel_rfl) (fun _ _ _ h=>nomatch h.1) rfl hT (fun w hw=> ?_) ?_
 ·obtain rfl:=hw
  any_goals go_simp
 refine xAQ (v:=(.int .i64 s)) 13 rfl (by kernel_rfl) (fun _ _ _ h=>nomatch h.1) rfl hT (fun w hw=> ?_) ?_
 ·obtain rfl:=hw
  any_goals go_simp
 refine xAQ (v:=(.pointer (some ⟨rb,0,none⟩))) 14 rfl (by kernel_rfl) (fun _ _ _ h=>nomatch h.1) rfl hT (fun w hw=> ?_) ?_
 ·obtain rfl:=hw
  any_goals go_simp
 refine xAQ (v:=(.slice (some ⟨b,off,none⟩) nn c)) 15 rfl (by kernel_rfl) (fun _ _ _ h=>nomatch h.1) rfl hT (fun w hw=> ?_) ?_
 ·obtain rfl:=hw
  any_goals go_simp
 refine xAQ (v:=(.int .i64 k)) 16 rfl (by kernel_rfl) (fun _ _ _ h=>nomatch h.1) rfl hT (fun w hw=> ?_) ?_
 ·obtain rfl:=hw
  any_goals go_simp
 refine xAQ (v:=(.pointer (some ⟨b,off+k,none⟩))) 17 rfl (by kernel_rfl) (fun _ _ _ h=>nomatch h.1) rfl hT (fun w hw=> ?_) ?_
 ·obtain rfl:=hw
  any_goals go_simp
 refine xAQ (v:=(.int .i64 n)) 18 rfl (by kernel_rfl) (fun _ _ _ h=>nomatch h.1) rfl hT (fun w hw=> ?_) ?_
 ·obtain rfl:=hw
  any_goals go_simp
 refine xAQ (v:=(.int .i64 (IntKind.i64.wrap (s+n)))) 19 rfl (by kernel_rfl) (fun _ _ _ h=>nomatch h.1) rfl hT (fun w hw=> ?_) ?_
 ·obtain rfl:=hw
  any_goals go_simp
 refine xAQ (v:=(.pointer (some ⟨cb,1,none⟩))) 20 rfl (by kernel_rfl) (fun _ _ _ h=>nomatch h.1) rfl hT (fun w hw=> ?_) ?_
 ·obtain rfl:=hw
  any_goals go_simp
 refine xF8 21 rfl (by kernel_rfl) rfl fun K hK=> ?_
 go_simp
 refine hK _ _ ⟨.inl (by kernel_rfl),xLK (by kernel_rfl) ⟨rfl,rfl,?_⟩ _⟩
 iterate 21 refine xCh rfl ?_
 exact xEY
theorem vGx{a:Act}{w:World}(hs:a.tmps.size=153){M rb fn fc rn rc:Nat}{fp rp:Option Addr}{bx:Int->Nat}{ks:List Int}{x:Int}{os:List Org}(hm:PMap w M bx ks)(hx:x∈ks)(h11:a.tmps[11]? =some (.map (some M)))(h15:a.tmps[15]? =some (.int .i64 x))(h14:a.tmps[14]? =some (.pointer (some ⟨rb,0,none⟩)))
 (hbl:bx x<w.heap.size) (hrl:rb<w.heap.size) (hbox:w.cell? ⟨bx x,1,none⟩=some (.slice fp fn fc)) (hrow:w.cell? ⟨rb,1,none⟩=some (.slice rp rn rc)) (hfz:w.frozen? ⟨bx x,1,none⟩=false)
 (hU:Calls Tryz.prog 20 #[.slice fp fn fc,.slice rp rn rc] w.drew fun e W' =>∃br cap,e= .returned (.slice (some ⟨br,0,none⟩) os.length cap)/\Below w.heap.size w.drew W' /\w.heap.size<=br/\OrgRow W' br cap os):
 (Rg 18).wp Tryz.prog (fun e a' w' =>e= .normal/\(∃br cap W',Below w.heap.size w.drew W' /\w.heap.size<=br/\OrgRow W' br cap os/\w' =W'.setCell ⟨bx x,1,none⟩ (.slice (some ⟨br,0,none⟩) os.length cap))/\Kp [3,4,5,6,9,10,11,12,14,15,55,56,57] a a') a w:=by
 dsimp only [Rg,Tryz.f28,Option.bind,xHv,Option.getD,cond,Nat.beq,Option.orElse];have h11:=xDK h11 hs (by decide);have h15:=xDK h15 hs (by decide);have h14:=xDK h14 hs (by decide);refine xLL (fun u=>PMap u M bx ks/\u.cell? ⟨bx x,1,none⟩=some (.slice fp fn fc)/\u.cell? ⟨rb,1,none⟩=some (.slice rp rn rc)) 14 mixG ?_;show xJ0 _ _ _ _ _ _ 15 _ _ w.drew;have hT:PMap w.drew M bx ks/\w.drew.cell? ⟨bx x,1,none⟩=some (.slice fp fn fc)/\w.drew.cell? ⟨rb,1,none⟩=some (.slice rp rn rc):=⟨hm,hbox,hrow⟩;refine xAQ (v:=(.map (some M))) 0 rfl (by kernel_rfl) (fun _ _ _ h=>nomatch h.1) rfl hT (fun w hw=> ?_) ?_
 ·obtain⟨t1,t2,t3⟩:=hw;have hl:=xBY grpT t1 x;rw [if_pos hx,pbx] at hl
  any_goals go_simp
 refine xAQ (v:=(.int .i64 x)) 1 rfl (by kernel_rfl) (fun _ _ _ h=>nomatch h.1) rfl hT (fun w hw=> ?_) ?_
 ·obtain⟨t1,t2,t3⟩:=hw;have hl:=xBY grpT t1 x;rw [if_pos hx,pbx] at hl
  any_goals go_simp
 refine xAQ (v:=(.pointer (some ⟨bx x,0,none⟩))) 2 rfl (by kernel_rfl) (fun _ _ _ h=>nomatch h.1) rfl hT (fun w hw=> ?_) ?_
 ·obtain⟨t1,t2,t3⟩:=hw;have hl:=xBY grpT t1 x;rw [if_pos hx,pbx] at hl
  any_goals go_simp
 refine xAQ (v:=(.map (some M))) 3 rfl (by kernel_rfl) (fun _ _ _ h=>nomatch h.1) rfl hT (fun w hw=> ?_) ?_
 ·obtain⟨t1,t2,t3⟩:=hw;have hl:=xBY grpT t1 x;rw [if_pos hx,pbx] at hl
  any_goals go_simp
 refine xAQ (v:=(.int .i64 x)) 4 rfl (by kernel_rfl) (fun _ _ _ h=>nomatch h.1) rfl hT (fun w hw=> ?_) ?_
 ·obtain⟨t1,t2,t3⟩:=hw;have hl:=xBY grpT t1 x;rw [if_pos hx,pbx] at hl
  any_goals go_simp
 refine xAQ (v:=(.pointer (some ⟨bx x,0,none⟩))) 5 rfl (by kernel_rfl) (fun _ _ _ h=>nomatch h.1) rfl hT (fun w hw=> ?_) ?_
 ·obtain⟨t1,t2,t3⟩:=hw;have hl:=xBY grpT t1 x;rw [if_pos hx,pbx] at hl
  any_goals go_simp
 refine xAQ (v:=(.pointer (some ⟨bx x,0,none⟩))) 6 rfl (by kernel_rfl) (fun _ _ _ h=>nomatch h.1) rfl hT (fun w hw=> ?_) ?_
 ·obtain⟨t1,t2,t3⟩:=hw;have hl:=xBY grpT t1 x;rw [if_pos hx,pbx] at hl
  any_goals go_simp
 refine xAQ (v:=(.pointer (some ⟨bx x,1,none⟩))) 7 rfl (by kernel_rfl) (fun _ _ _ h=>nomatch h.1) rfl hT (fun w hw=> ?_) ?_
 ·obtain⟨t1,t2,t3⟩:=hw;have hl:=xBY grpT t1 x;rw [if_pos hx,pbx] at hl
  any_goals go_simp
 refine xAQ (v:=(.slice fp fn fc)) 8 rfl (by kernel_rfl) (fun _ _ _ h=>nomatch h.1) rfl hT (fun w hw=> ?_) ?_
 ·obtain⟨t1,t2,t3⟩:=hw;have hl:=xBY grpT t1 x;rw [if_pos hx,pbx] at hl
  any_goals go_simp
 refine xAQ (v:=(.pointer (some ⟨rb,1,none⟩))) 9 rfl (by kernel_rfl) (fun _ _ _ h=>nomatch h.1) rfl hT (fun w hw=> ?_) ?_
 ·obtain⟨t1,t2,t3⟩:=hw;have hl:=xBY grpT t1 x;rw [if_pos hx,pbx] at hl
  any_goals go_simp
 refine xAQ (v:=(.slice rp rn rc)) 10 rfl (by kernel_rfl) (fun _ _ _ h=>nomatch h.1) rfl hT (fun w hw=> ?_) ?_
 ·obtain⟨t1,t2,t3⟩:=hw;have hl:=xBY grpT t1 x;rw [if_pos hx,pbx] at hl
  any_goals go_simp
 refine xF8 11 rfl (by kernel_rfl) rfl fun K hK=> ?_
 go_simp
 go_at_call 20
 refine hU.mono ?_;rintro e W' ⟨br,cap,rfl,hb,hbr,hor⟩;have kb:∀b,b<w.heap.size->W'.heap[b]? =w.heap[b]? :=fun b hb' =>hb.block b hb';have c1:W'.cell? ⟨bx x,1,none⟩=some (.slice fp fn fc):=by rw [<-hbox];simp only [World.cell?,kb _ hbl]
 have c2:W'.cell? ⟨rb,1,none⟩=some (.slice rp rn rc):=by rw [<-hrow];simp only [World.cell?,kb _ hrl]
 have c3:W'.frozen? ⟨bx x,1,none⟩=false:=by rw [<-hfz];simp only [World.frozen?,kb _ hbl]
 have hT' :PMap W' M bx ks/\W'.cell? ⟨bx x,1,none⟩=some (.slice fp fn fc)/\W'.cell? ⟨rb,1,none⟩=some (.slice rp rn rc):=⟨hm.kept (kb _ hm.lt) (fun _ _=>rfl),c1,c2⟩;refine hK _ _ ⟨.inr hT',?_⟩;refine xF8 12 rfl (by kernel_rfl) rfl fun K hK=> ?_
 go_simp
 refine hK _ _ ⟨.inr hT',?_⟩;refine xF8 13 rfl (by kernel_rfl) rfl fun K hK=> ?_
 go_simp
 refine hK _ _ ⟨.inr hT',?_⟩;refine xF8 14 rfl (by kernel_rfl) rfl fun K hK=> ?_
 go_simp
 refine hK _ _ ⟨.inl (by kernel_rfl),xLK (by kernel_rfl) ⟨rfl,⟨br,cap,W',hb,hbr,hor,rfl⟩,?_⟩ _⟩
 iterate 14 refine xCh rfl ?_
 exact xEY
end Go.Ab
end
section
namespace Go.Ab
open Go.Proofs Go.RowKit Go.Shelf
set_option maxRecDepth 100000
theorem vAk(a b c:Int)(w:World):Calls Tryz.prog 114 #[.int .i64 a,.int .i64 b,.int .i64 c] w fun e w' =>e= .returned (.bool (decide (b<=a)&&decide (a<=c)))/\w' =w:=by
 go_enter Tryz.func114,Tryz.ntmps114
 go_wp2
 ·rename_i h
  go_ret
  rw [decide_eq_true h,Bool.true_and];exact⟨rfl,rfl⟩
 ·rename_i h
  go_ret
  rw [decide_eq_false (by omega),Bool.false_and];exact⟨rfl,rfl⟩
theorem vAK(n:Int)(w:World):Calls Tryz.prog 82 #[.int .i64 n] w fun e w' =>e= .returned (.bool (numB n))/\w' =w:=by
 have hs:∀(m:Int) (f:Ending->World->Prop),f (.returned (.bool (numB m))) w->Calls Tryz.prog 114 #[.int .i64 m,.int .i64 (-1000000000),.int .i64 1000000000] w f:=fun m f hf=>(vAk m _ _ w).mono fun e w' ⟨he,hw⟩=>by rw [he,hw];exact hf
 go_enter Tryz.func82,Tryz.ntmps82
 go_wp2_with (go_at_call 114;refine hs _ _ ?_)
 go_ret
 exact⟨rfl,rfl⟩
theorem xQy [Inhabited Lb]{fn:Func}{tmps:Array Value}{w:World}{t b:Nat}{u0 u1 u2 u3 u4 u5 u6:Value}{ty:TypeId}(hr:fn.results= #[.cell t 31])(ht:tmps.getD t undef= .pointer (some ⟨b,0,none⟩))(hb:w.heap[b]? =some (.cells #[u0,u1,u2,u3,u4,u5,u6] ty (0,0))):
 (results fn tmps).run Tryz.prog w= .ok (.agg #[u0,u1,u2,u3,u4,u5,u6]) w:=by
 refine zDF (rs:=[.cell t 31]) (vs:=[.agg #[u0,u1,u2,u3,u4,u5,u6]]) (by rw [hr]) rfl fun i x v hx hv=> ?_
 match i,hx,hv with
 |0,hx,hv=>
  cases hx;cases hv;have c0:w.cell? ⟨b,0,none⟩=some u0:=by simp only [World.cell?,hb];rfl
  have c1:w.cell? ⟨b,1,none⟩=some u1:=by simp only [World.cell?,hb];rfl
  have c2:w.cell? ⟨b,2,none⟩=some u2:=by simp only [World.cell?,hb];rfl
  have c3:w.cell? ⟨b,3,none⟩=some u3:=by simp only [World.cell?,hb];rfl
  have c4:w.cell? ⟨b,4,none⟩=some u4:=by simp only [World.cell?,hb];rfl
  have c5:w.cell? ⟨b,5,none⟩=some u5:=by simp only [World.cell?,hb];rfl
  have c6:w.cell? ⟨b,6,none⟩=some u6:=by simp only [World.cell?,hb];rfl
  unfold zF1;simp only [ht]
  go_simp
theorem vER [Inhabited Lb](w:World):Calls Tryz.prog 46 #[.int .i64 5] w fun e w' =>e= .returned (.agg #[.int .i64 6,.int .i64 5,.int .i64 0,.string ⟨#[]⟩,.slice none 0 0,.slice none 0 0,.slice none 0 0])/\Below w.heap.size w w' :=by
 go_enter Tryz.func46,Tryz.ntmps46
 go_wp2
 refine bodyPost_ret (xQy rfl rfl (by show(Array.push _ _)[_]? =_;rw [Array.getElem?_push,if_pos rfl])) rfl ?_;exact⟨rfl,(Below.refl _ _).alloc (Nat.le_refl _) _⟩
theorem vGz{a:Act}{w:World}(hs:a.tmps.size=153){R:World->Prop}{v:Value}(h12:a.tmps[12]? =some v)(hS:Calls Tryz.prog 81 #[v] w fun e w' =>e= .returned (.tuple #[])/\R w'):
 (Rg 20).wp Tryz.prog (fun e a' w' =>e= .normal/\R w' /\Kp [3,4,5,6,9,10,11,12] a a') a w:=by
 dsimp only [Rg,Tryz.f28,Option.bind,xHv,Option.getD,cond,Nat.beq,Option.orElse];have h12:=xDK h12 hs (by decide)
 go_wp2_with (go_at_call 81;refine hS.mono ?_;rintro e W' ⟨rfl,hR⟩)
 exact⟨hR,xCh rfl (xCh rfl xEY)⟩
theorem vGA{a:Act}{w:World}(hs:a.tmps.size=153){B3 B4:Nat}{ta tb:ByteArray}(h3:a.tmps[3]? =some (.pointer (some ⟨B3,0,none⟩)))(h4:a.tmps[4]? =some (.pointer (some ⟨B4,0,none⟩)))(hc:w.cell? ⟨B3,3,none⟩=some (.string ta))(hd:w.cell? ⟨B4,3,none⟩=some (.string tb)):
 (Rg 21).wp Tryz.prog (fun e a' w' =>e= .normal/\w' =(w.alloc (.cells #[.string ta,.string tb] 9)).alloc (.cells #[.int .i64 5,.int .i64 0,.int .i64 0,.string ⟨#[]⟩,.slice none 0 0,.slice (some ⟨w.heap.size,0,none⟩) 2 2,.slice none 0 0] 31)/\a'.tmps[16]? =some (.pointer (some ⟨w.heap.size+1,0,none⟩))/\Kp [3,4,5,6,9,10,11,12] a a') a w:=by
 dsimp only [Rg,Tryz.f28,Option.bind,xHv,Option.getD,cond,Nat.beq,Option.orElse];have h3:=xDK h3 hs (by decide);have h4:=xDK h4 hs (by decide)
 go_wp2
 iterate 7 refine xCh rfl ?_
 exact xEY
theorem vGB{a:Act}{w:World}(hs:a.tmps.size=153){p:Option Addr}{n c:Nat}(h12:a.tmps[12]? =some (.slice p n c)):
 (Rg 22).wp Tryz.prog (fun e a' w' =>e= .normal/\w' =w/\a'.tmps[124]? =some (.slice p n c)/\a'.tmps[125]? =some (.int .i64 n)/\a'.tmps[126]? =some (.int .i64 (0:Nat))/\Kp [3,4,5,6,9,10,11,12,16] a a') a w:=by
 dsimp only [Rg,Tryz.f28,Option.bind,xHv,Option.getD,cond,Nat.beq,Option.orElse];have h12:=xDK h12 hs (by decide)
 go_wp2
 exact xCh rfl (xCh rfl (xCh rfl xEY))
theorem vGC{a:Act}{w:World}(hs:a.tmps.size=153){j n:Nat}(h56:a.tmps[125]? =some (.int .i64 n))(h57:a.tmps[126]? =some (.int .i64 j)):(Rg 23).wp Tryz.prog (fun e a' w' =>e= .normal/\w' =w/\a'.tmps[127]? =some (.bool (decide (j<n)))/\Kp [3,4,5,6,9,10,11,12,16,124,125,126] a a') a w:=by
 dsimp only [Rg,Tryz.f28,Option.bind,xHv,Option.getD,cond,Nat.beq,Option.orElse];have h56:=xDK h56 hs (by decide);have h57:=xDK h57 hs (by decide)
 go_wp2
 exact xCh rfl xEY
theorem vGD{a:Act}{w:World}(hs:a.tmps.size=153){j n b c:Nat}(hj:j<n){x:Int}(h124:a.tmps[124]? =some (.slice (some ⟨b,0,none⟩) n c))(h126:a.tmps[126]? =some (.int .i64 j))(hc:w.cell? ⟨b,j,none⟩=some (.int .i64 x)):
 (Rg 24).wp Tryz.prog (fun e a' w' =>e= .normal/\w' =w/\a'.tmps[18]? =some (.int .i64 x)/\Kp [3,4,5,6,9,10,11,12,16,124,125,126] a a') a w:=by
 dsimp only [Rg,Tryz.f28,Option.bind,xHv,Option.getD,cond,Nat.beq,Option.orElse];have h124:=xDK h124 hs (by decide);have h126:=xDK h126 hs (by decide);have hc0:w.cell? ⟨b,0+j,none⟩=some (.int .i64 x):=by rw [Nat.zero_add];exact hc
 go_wp2
 exact xCh (v:= .int .i64 x) rfl (xCh rfl (xCh rfl xEY))
theorem vGE{a:Act}{w:World}(hs:a.tmps.size=153){M cb:Nat}{bx:Int->Nat}{ks:List Int}{x s:Int}(hm:PMap w M bx ks)(hx:x∈ks)(h11:a.tmps[11]? =some (.map (some M)))(h18:a.tmps[18]? =some (.int .i64 x))
 (hbox:w.cell? ⟨bx x,0,none⟩=some (.slice (some ⟨cb,0,none⟩) 2 2)) (hcel:w.cell? ⟨cb,1,none⟩=some (.int .i64 s)):
 (Rg 25).wp Tryz.prog (fun e a' w' =>e= .normal/\w' =w/\a'.tmps[139]? =some (.bool (!numB s))/\Kp [3,4,5,6,9,10,11,12,16,18,124,125,126] a a') a w:=by
 dsimp only [Rg,Tryz.f28,Option.bind,xHv,Option.getD,cond,Nat.beq,Option.orElse];have h11:=xDK h11 hs (by decide);have h18:=xDK h18 hs (by decide);have hl:=xBY grpT hm x;rw [if_pos hx,pbx] at hl
 go_wp2_with (go_at_call 82;refine(vAK _ _).mono ?_;rintro e W' ⟨rfl,rfl⟩)
 iterate 10 refine xCh rfl ?_
 exact xEY
theorem xGw{w:World}{b o:Nat}{cs cs' :Array Value}{ty:TypeId}{v:Value}(h:w.heap[b]? =some (.cells cs ty (0,0)))(e:cs.setIfInBounds o v=cs'):Chg w (w.setCell ⟨b,o,none⟩ v) b (.cells cs' ty (0,0)):=by
 subst e;refine⟨rfl,rfl,rfl,by simp [World.setCell],?_,fun k hk=>Below.heap_setCell w _ v k hk⟩;simp [World.setCell,Array.getElem?_modify,h]
theorem Chg.trans{w w1 w2:World}{b:Nat}{o1 o2:Obj}(h:Chg w w1 b o1)(g:Chg w1 w2 b o2):Chg w w2 b o2:=
 ⟨g.os.trans h.os,g.tape.trans h.tape,g.output.trans h.output,g.size.trans h.size,g.at',fun k hk=>(g.other k hk).trans (h.other k hk)⟩
theorem vGF [Inhabited Lb]{a:Act}{w:World}(hs:a.tmps.size=153){B6:Nat}{u0 u1 u2 u3 u4 u5 u6:Value}{ty:TypeId}(h6:a.tmps[6]? =some (.pointer (some ⟨B6,0,none⟩)))(hb:w.heap[B6]? =some (.cells #[u0,u1,u2,u3,u4,u5,u6] ty (0,0))):
 (Rg 26).wp Tryz.prog (fun e a' w' =>e= .normal/\(∃W,Below w.heap.size w W/\Chg W w' B6 (.cells #[.int .i64 6,.int .i64 5,.int .i64 0,.string ⟨#[]⟩,.slice none 0 0,.slice none 0 0,.slice none 0 0] ty (0,0)))/\Kp [3,4,5,6,9,10,11,12,16] a a') a w:=by
 dsimp only [Rg,Tryz.f28,Option.bind,xHv,Option.getD,cond,Nat.beq,Option.orElse];have h6:=xDK h6 hs (by decide);have hbl:B6<w.heap.size:=(Array.getElem?_eq_some_iff.1 hb).1
 go_wp2_with (go_at_call 46;refine(vER _).mono ?_;rintro e W ⟨rfl,hW⟩;have hB:W.heap[B6]? =some (.cells #[u0,u1,u2,u3,u4,u5,u6] ty (0,0)):=(hW.block _ hbl).trans hb;have f:∀o,W.frozen? ⟨B6,o,none⟩=false:=(fun o=>by simp [World.frozen?,hB]);have c0:W.cell? ⟨B6,0,none⟩=some u0:=(by simp only [World.cell?,hB];rfl);have c1:W.cell? ⟨B6,1,none⟩=some u1:=(by simp only [World.cell?,hB];rfl);have c2:W.cell? ⟨B6,2,none⟩=some u2:=(by simp only [World.cell?,hB];rfl);have c3:W.cell? ⟨B6,3,none⟩=some u3:=(by simp only [World.cell?,hB];rfl);have c4:W.cell? ⟨B6,4,none⟩=some u4:=(by simp only [World.cell?,hB];rfl);have c5:W.cell? ⟨B6,5,none⟩=some u5:=(by simp only [World.cell?,hB];rfl);have c6:W.cell? ⟨B6,6,none⟩=some u6:=(by simp only [World.cell?,hB];rfl))
 refine⟨⟨W,hW,?_⟩,xCh rfl xEY⟩;have g0:=(xGw (o:=0) (v:= .int .i64 6) hB (by simp):Chg _ _ B6 (.cells #[.int .i64 6,u1,u2,u3,u4,u5,u6] ty (0,0)));have g1:=g0.trans (xGw (o:=1) (v:= .int .i64 5) g0.at' (by simp):Chg _ _ B6 (.cells #[.int .i64 6,.int .i64 5,u2,u3,u4,u5,u6] ty (0,0)));have g2:=g1.trans (xGw (o:=2) (v:= .int .i64 0) g1.at' (by simp):Chg _ _ B6 (.cells #[.int .i64 6,.int .i64 5,.int .i64 0,u3,u4,u5,u6] ty (0,0)));have g3:=g2.trans (xGw (o:=3) (v:= .string ⟨#[]⟩) g2.at' (by simp):Chg _ _ B6 (.cells #[.int .i64 6,.int .i64 5,.int .i64 0,.string ⟨#[]⟩,u4,u5,u6] ty (0,0)));have g4:=g3.trans (xGw (o:=4) (v:= .slice none 0 0) g3.at' (by simp):Chg _ _ B6 (.cells #[.int .i64 6,.int .i64 5,.int .i64 0,.string ⟨#[]⟩,.slice none 0 0,u5,u6] ty (0,0)));have g5:=g4.trans (xGw (o:=5) (v:= .slice none 0 0) g4.at' (by simp):Chg _ _ B6 (.cells #[.int .i64 6,.int .i64 5,.int .i64 0,.string ⟨#[]⟩,.slice none 0 0,.slice none 0 0,u6] ty (0,0)));exact g5.trans (xGw (o:=6) (v:= .slice none 0 0) g5.at' (by simp):Chg _ _ B6 (.cells #[.int .i64 6,.int .i64 5,.int .i64 0,.string ⟨#[]⟩,.slice none 0 0,.slice none 0 0,.slice none 0 0] ty (0,0)))
theorem vGH{a:Act}{w:World}(hs:a.tmps.size=153){j:Nat}(hj:j<1000)(h57:a.tmps[126]? =some (.int .i64 j)):
 (Rg 28).wp Tryz.prog (fun e a' w' =>e= .normal/\w' =w/\a'.tmps[126]? =some (.int .i64 (j+1:Nat))/\Kp [3,4,5,6,9,10,11,12,16,124,125] a a') a w:=by
 dsimp only [Rg,Tryz.f28,Option.bind,xHv,Option.getD,cond,Nat.beq,Option.orElse];have h57:=xDK h57 hs (by decide)
 go_wp2
 exact xCh rfl (xCh rfl xEY)
theorem vGI{a:Act}{w:World}(hs:a.tmps.size=153){B6 ob:Nat}{u0 u1 u2 u3 u4 u5 u6:Value}{v1 v2 v3:Int}{v4:ByteArray}{p1 p2 p3:Option Addr}{n1 n2 n3 d1 d2 d3:Nat}{ty ty' :TypeId}(h6:a.tmps[6]? =some (.pointer (some ⟨B6,0,none⟩)))(h16:a.tmps[16]? =some (.pointer (some ⟨ob,0,none⟩)))(hB:w.heap[B6]? =some (.cells #[u0,u1,u2,u3,u4,u5,u6] ty (0,0)))
 (hO:w.heap[ob]? =some (.cells #[.int .i64 v1,.int .i64 v2,.int .i64 v3,.string v4,.slice p1 n1 d1,.slice p2 n2 d2,.slice p3 n3 d3] ty' (0,0))):
 (Rg 29).wp Tryz.prog (fun e a' w' =>e= .normal/\Chg w w' B6 (.cells #[.int .i64 v1,.int .i64 v2,.int .i64 v3,.string v4,.slice p1 n1 d1,.slice p2 n2 d2,.slice p3 n3 d3] ty (0,0))/\Kp [3,4,5,6,9,10,11,12,16] a a') a w:=by
 dsimp only [Rg,Tryz.f28,Option.bind,xHv,Option.getD,cond,Nat.beq,Option.orElse];have h6:=xDK h6 hs (by decide);have h16:=xDK h16 hs (by decide);have f:∀o,w.frozen? ⟨B6,o,none⟩=false:=fun o=>by simp [World.frozen?,hB]
 have c0:w.cell? ⟨B6,0,none⟩=some u0:=by simp only [World.cell?,hB];rfl
 have c1:w.cell? ⟨B6,1,none⟩=some u1:=by simp only [World.cell?,hB];rfl
 have c2:w.cell? ⟨B6,2,none⟩=some u2:=by simp only [World.cell?,hB];rfl
 have c3:w.cell? ⟨B6,3,none⟩=some u3:=by simp only [World.cell?,hB];rfl
 have c4:w.cell? ⟨B6,4,none⟩=some u4:=by simp only [World.cell?,hB];rfl
 have c5:w.cell? ⟨B6,5,none⟩=some u5:=by simp only [World.cell?,hB];rfl
 have c6:w.cell? ⟨B6,6,none⟩=some u6:=by simp only [World.cell?,hB];rfl
 have e0:w.cell? ⟨ob,0,none⟩=some (.int .i64 v1):=by simp only [World.cell?,hO];rfl
 have e1:w.cell? ⟨ob,1,none⟩=some (.int .i64 v2):=by simp only [World.cell?,hO];rfl
 have e2:w.cell? ⟨ob,2,none⟩=some (.int .i64 v3):=by simp only [World.cell?,hO];rfl
 have e3:w.cell? ⟨ob,3,none⟩=some (.string v4):=by simp only [World.cell?,hO];rfl
 have e4:w.cell? ⟨ob,4,none⟩=some (.slice p1 n1 d1):=by simp only [World.cell?,hO];rfl
 have e5:w.cell? ⟨ob,5,none⟩=some (.slice p2 n2 d2):=by simp only [World.cell?,hO];rfl
 have e6:w.cell? ⟨ob,6,none⟩=some (.slice p3 n3 d3):=by simp only [World.cell?,hO];rfl
 go_wp2
 refine⟨?_,xCh rfl xEY⟩;have g0:=(xGw (o:=0) (v:= .int .i64 v1) hB (by simp):Chg _ _ B6 (.cells #[.int .i64 v1,u1,u2,u3,u4,u5,u6] ty (0,0)));have g1:=g0.trans (xGw (o:=1) (v:= .int .i64 v2) g0.at' (by simp):Chg _ _ B6 (.cells #[.int .i64 v1,.int .i64 v2,u2,u3,u4,u5,u6] ty (0,0)));have g2:=g1.trans (xGw (o:=2) (v:= .int .i64 v3) g1.at' (by simp):Chg _ _ B6 (.cells #[.int .i64 v1,.int .i64 v2,.int .i64 v3,u3,u4,u5,u6] ty (0,0)));have g3:=g2.trans (xGw (o:=3) (v:= .string v4) g2.at' (by simp):Chg _ _ B6 (.cells #[.int .i64 v1,.int .i64 v2,.int .i64 v3,.string v4,u4,u5,u6] ty (0,0)));have g4:=g3.trans (xGw (o:=4) (v:= .slice p1 n1 d1) g3.at' (by simp):Chg _ _ B6 (.cells #[.int .i64 v1,.int .i64 v2,.int .i64 v3,.string v4,.slice p1 n1 d1,u5,u6] ty (0,0)));have g5:=g4.trans (xGw (o:=5) (v:= .slice p2 n2 d2) g4.at' (by simp):Chg _ _ B6 (.cells #[.int .i64 v1,.int .i64 v2,.int .i64 v3,.string v4,.slice p1 n1 d1,.slice p2 n2 d2,u6] ty (0,0)));exact g5.trans (xGw (o:=6) (v:= .slice p3 n3 d3) g5.at' (by simp):Chg _ _ B6 (.cells #[.int .i64 v1,.int .i64 v2,.int .i64 v3,.string v4,.slice p1 n1 d1,.slice p2 n2 d2,.slice p3 n3 d3] ty (0,0)))
end Go.Ab
end
section
namespace Go.Ab
open Go.Proofs Go.RowKit Go.Shelf
set_option maxRecDepth 100000
theorem vGG{a:Act}{w:World}(hs:a.tmps.size=153){M ob rn rc n1 d1 n2 d2 base:Nat}{rp p1 p2:Option Addr}{bx:Int->Nat}{ks:List Int}{x:Int}{xs:List Value}(hm:PMap w M bx ks)(hx:x∈ks)(h11:a.tmps[11]? =some (.map (some M)))(h18:a.tmps[18]? =some (.int .i64 x))(h16:a.tmps[16]? =some (.pointer (some ⟨ob,0,none⟩)))
 (hlen:rn<=1000) (hbl:bx x<base) (hol:ob<base) (hMl:M<base) (hbase:base<=w.heap.size) (hrow:w.cell? ⟨ob,6,none⟩=some (.slice rp rn rc)) (hfz:w.frozen? ⟨ob,6,none⟩=false) (hb0:w.cell? ⟨bx x,0,none⟩=some (.slice p1 n1 d1)) (hb1:w.cell? ⟨bx x,1,none⟩=some (.slice p2 n2 d2))
 (hown:w.ownsRow base 45 2 (.slice rp rn rc) rn xs):
 (Rg 27).wp Tryz.prog (fun e a' w' =>e= .normal/\(∃v' W',W'.ownsRow base 45 2 v' (rn+1) (xs++ [.slice p1 n1 d1,.slice p2 n2 d2])/\Below base w W' /\w' =W'.setCell ⟨ob,6,none⟩ v')/\Kp [3,4,5,6,9,10,11,12,16,124,125,126] a a') a w:=by
 dsimp only [Rg,Tryz.f28,Option.bind,xHv,Option.getD,cond,Nat.beq,Option.orElse];have h11:=xDK h11 hs (by decide);have h18:=xDK h18 hs (by decide);have h16:=xDK h16 hs (by decide);obtain⟨i0,hi,hz0,hz1,hz2⟩:=info_parts vGL
 have keep:∀u:World,(∀b,b<base->u.heap[b]? =w.heap[b]?)->PMap u M bx ks/\u.cell? ⟨ob,6,none⟩=some (.slice rp rn rc)/\u.cell? ⟨bx x,0,none⟩=some (.slice p1 n1 d1)/\u.cell? ⟨bx x,1,none⟩=some (.slice p2 n2 d2):=fun u hu=>
  ⟨hm.kept (hu _ hMl) (fun _ _=>rfl),by rw [<-hrow];simp only [World.cell?,hu _ hol],by rw [<-hb0];simp only [World.cell?,hu _ hbl],by rw [<-hb1];simp only [World.cell?,hu _ hbl]⟩
 refine xLL (fun u=>PMap u M bx ks/\u.cell? ⟨ob,6,none⟩=some (.slice rp rn rc)/\u.cell? ⟨bx x,0,none⟩=some (.slice p1 n1 d1)/\u.cell? ⟨bx x,1,none⟩=some (.slice p2 n2 d2)) 10 mixG ?_;show xJ0 _ _ _ _ _ _ 11 _ _ w.drew;have hT:=keep w.drew fun _ _=>rfl;refine xAQ (v:=(.pointer (some ⟨ob,6,none⟩))) 0 rfl (by kernel_rfl) (fun _ _ _ h=>nomatch h.1) rfl hT (fun w hw=> ?_) ?_
 ·obtain⟨t1,t2,t3,t4⟩:=hw;have hl:=xBY grpT t1 x;rw [if_pos hx,pbx] at hl
  any_goals go_simp
 refine xAQ (v:=(.slice rp rn rc)) 1 rfl (by kernel_rfl) (fun _ _ _ h=>nomatch h.1) rfl hT (fun w hw=> ?_) ?_
 ·obtain⟨t1,t2,t3,t4⟩:=hw;have hl:=xBY grpT t1 x;rw [if_pos hx,pbx] at hl
  any_goals go_simp
 refine xAQ (v:=(.map (some M))) 2 rfl (by kernel_rfl) (fun _ _ _ h=>nomatch h.1) rfl hT (fun w hw=> ?_) ?_
 ·obtain⟨t1,t2,t3,t4⟩:=hw;have hl:=xBY grpT t1 x;rw [if_pos hx,pbx] at hl
  any_goals go_simp
 refine xAQ (v:=(.int .i64 x)) 3 rfl (by kernel_rfl) (fun _ _ _ h=>nomatch h.1) rfl hT (fun w hw=> ?_) ?_
 ·obtain⟨t1,t2,t3,t4⟩:=hw;have hl:=xBY grpT t1 x;rw [if_pos hx,pbx] at hl
  any_goals go_simp
 refine xAQ (v:=(.pointer (some ⟨bx x,0,none⟩))) 4 rfl (by kernel_rfl) (fun _ _ _ h=>nomatch h.1) rfl hT (fun w hw=> ?_) ?_
 ·obtain⟨t1,t2,t3,t4⟩:=hw;have hl:=xBY grpT t1 x;rw [if_pos hx,pbx] at hl
  any_goals go_simp
 refine xAQ (v:=(.pointer (some ⟨bx x,0,none⟩))) 5 rfl (by kernel_rfl) (fun _ _ _ h=>nomatch h.1) rfl hT (fun w hw=> ?_) ?_
 ·obtain⟨t1,t2,t3,t4⟩:=hw;have hl:=xBY grpT t1 x;rw [if_pos hx,pbx] at hl
  any_goals go_simp
 refine xAQ (v:=(.agg #[.slice p1 n1 d1,.slice p2 n2 d2])) 6 rfl (by kernel_rfl) (fun _ _ _ h=>nomatch h.1) rfl hT (fun w hw=> ?_) ?_
 ·obtain⟨t1,t2,t3,t4⟩:=hw;have hl:=xBY grpT t1 x;rw [if_pos hx,pbx] at hl
  any_goals go_simp
 refine xF8 7 rfl (by kernel_rfl) rfl fun K hK=> ?_
 go_simp
 have al:∀b,b<base->(w.drew.alloc (.cells #[.slice p1 n1 d1,.slice p2 n2 d2] 45)).heap[b]? =w.heap[b]? :=fun b hb=>xGv (w:=w.drew) (by show b<w.heap.size;omega);have hnew:(w.drew.alloc (.cells #[.slice p1 n1 d1,.slice p2 n2 d2] 45)).heap[w.heap.size]? =some (.cells #[.slice p1 n1 d1,.slice p2 n2 d2] 45 (0,0)):=by
  show(Array.push _ _)[_]? =_;rw [Array.getElem?_push,if_pos (show w.heap.size=w.drew.heap.size from rfl)]
 have n0:(w.drew.alloc (.cells #[.slice p1 n1 d1,.slice p2 n2 d2] 45)).cell? ⟨w.heap.size,0,none⟩=some (.slice p1 n1 d1):=by simp only [World.cell?,hnew];rfl
 have n1' :(w.drew.alloc (.cells #[.slice p1 n1 d1,.slice p2 n2 d2] 45)).cell? ⟨w.heap.size,1,none⟩=some (.slice p2 n2 d2):=by simp only [World.cell?,hnew];rfl
 refine hK _ _ ⟨.inr (keep _ al),?_⟩;refine xF8 8 rfl (by kernel_rfl) rfl fun K hK=> ?_;refine xN9 (sz:=2) (bytes:=48) _ Tryz.underlying29 _ _ rfl i0 hi hz0 hz1 hz2 rfl (by decide) (by decide) base (v:= .slice rp rn rc) (n:=rn) (xs:=xs) (by simp [Act.eval,Act.put,hs]) (hown.alloc _) ⟨w.heap.size,0,none⟩ 1 1 [.slice p1 n1 d1,.slice p2 n2 d2] (by simp [Act.eval,Act.put,hs]) rfl (fun j u hj=> ?_) (by simp [Value.oneCell']) (by omega) (by show base<=(Array.push w.heap _).size;rw [Array.size_push];omega) ?_
 ·match j,hj with
  |0,hj=>simp at hj;subst hj;exact n0
  |1,hj=>simp at hj;subst hj;exact n1'
  |j+2,hj=>simp at hj
 intro v' W' o1 o2 o3 o4;have ob1:∀g,(Value.slice rp rn rc).ownBlock=some g->base<=g:=by
  intro g hg;rcases hown.2 with ⟨e,_⟩|⟨g',cap,cur,e,h2,_⟩
  ·rw [e] at hg;cases hg
  ·rw [e] at hg;cases hg;exact h2
 have kb:∀b,b<base->W'.heap[b]? =w.heap[b]? :=fun b hb=>(o2.block b (by show b<(Array.push w.heap _).size;rw [Array.size_push];omega) (fun e=>by have:=ob1 b e.symm;omega)).trans (al b hb);have hT' :=keep W' kb;have hz:w.heap.size+1<=W'.heap.size:=by have:=o2.size;rw [show World.heap _=Array.push w.heap _ from rfl,Array.size_push] at this;exact this
 have hbw:Below base w W' :=⟨o2.os,o2.tape,o2.output,by omega,kb⟩;have cc:=hT'.2.1;have cf:W'.frozen? ⟨ob,6,none⟩=false:=by rw [<-hfz];simp only [World.frozen?,kb _ hol]
 have hv:∃q1 q2 q3,v' = .slice q1 q2 q3:=by
  obtain⟨g,cap,rfl,_⟩:=ORow.of_owns o1 (by omega);exact⟨_,_,_,rfl⟩
 obtain⟨q1,q2,q3,rfl⟩:=hv;refine hK _ _ ⟨.inr hT',?_⟩;refine xF8 9 rfl (by kernel_rfl) rfl fun K hK=> ?_
 go_simp
 refine hK _ _ ⟨.inr hT',?_⟩;refine xF8 10 rfl (by kernel_rfl) rfl fun K hK=> ?_
 go_simp
 refine hK _ _ ⟨.inl (by kernel_rfl),xLK (by kernel_rfl) ⟨rfl,⟨_,W',o1,hbw,rfl⟩,?_⟩ _⟩
 iterate 10 refine xCh rfl ?_
 exact xEY
end Go.Ab
end
section
namespace Go.Ab
open Go.Proofs Go.RowKit Go.Shelf
set_option maxRecDepth 100000
noncomputable def cH1:Code:= .seq (Rg 17) (Rg 18)
noncomputable def cB1:Code:= .seq (Rg 12) (.seq (Rg 13) (.seq (.seq (Rg 14) (.cond (.tmp 69) (.seq (Rg 15) (Rg 16)) .skip)) cH1))
noncomputable def cL1:Code:= .block 0 (.loop (.seq (Rg 11) (.seq (.cond (.tmp 58) .skip (.exit 0)) (.seq (.block 1 cB1) (Rg 19)))))
structure F1 (a:Act) (B3 B4 B6 i k M:Nat) (kv rv:Value) (n j:Nat):Prop where
 d:a.defers=[]
 s:a.tmps.size=153
 s3:a.tmps[3]? =some (.pointer (some ⟨B3,0,none⟩))
 s4:a.tmps[4]? =some (.pointer (some ⟨B4,0,none⟩))
 s6:a.tmps[6]? =some (.pointer (some ⟨B6,0,none⟩))
 s9:a.tmps[9]? =some (.int .i64 i)
 s10:a.tmps[10]? =some (.int .i64 k)
 s11:a.tmps[11]? =some (.map (some M))
 s12:a.tmps[12]? =some kv
 s55:a.tmps[55]? =some rv
 s56:a.tmps[56]? =some (.int .i64 n)
 s57:a.tmps[57]? =some (.int .i64 j)
def J1(w0:World)(rs:List Rowd)(B3 B4 B6 i k:Nat)(rv:Value)(m j:Nat)(a:Act)(w:World):Prop:=
 ∃blk fc kc,F1 a B3 B4 B6 i k (blk .map) (.slice (some ⟨blk .keys,0,none⟩) (zJm i (rs.take m)).length kc) rv rs.length j/\
  GRel w0 w w0.heap.size 45 3 blk (zJm i (rs.take m)) (zJm i (rs.take m)) (gSum i k (rs.take m)) (gFrm i (rs.take m)) fc none kc
def xQS [Inhabited Lb]:Prop:=∀(xs ys:List Org) (u v:Value) (w:World),RowIn w u xs->RowIn w v ys->xs.length+ys.length<=1000000000000->(∀x∈zH7,x.1<w.heap.size/\w.heap[x.1]? =some x.2)->
 Calls Tryz.prog 20 #[u,v] w fun e w' =>∃br cap,e= .returned (.slice (some ⟨br,0,none⟩) (zIr xs ys).length cap)/\Below w.heap.size w w' /\w.heap.size<=br/\OrgRow w' br cap (zIr xs ys)
structure RowOk (i k:Nat) (r:Rowd):Prop where
 i:i<r.cells.length
 k:k<r.cells.length
 f:r.frm.length<=100000000
theorem xUn{i:Nat}{r:Rowd}(h:i<r.cells.length):r.cells[i]=gKey i r:=by
 unfold gKey;rw [List.getD_eq_getElem?_getD,List.getElem?_eq_getElem h]
 rfl
section
variable [Inhabited Lb] {w0:World} {rs:List Rowd} {B3 B4 B6 i k:Nat} {rv:Value}
theorem xS4(hU:xQS)(hlaid:∀x∈zH7,x.1<w0.heap.size/\w0.heap[x.1]? =some x.2)(hok:∀r∈rs,RowOk i k r)(hn:rs.length<=1000){j:Nat}(hj:j<rs.length)
 {a:Act} {w:World} {blk:Tg->Nat} {fc:Int->Nat} {nx:Option Int} {kc rb:Nat} {cb coff cc fn fcap:Nat} {fp:Option Addr}
 (F:F1 a B3 B4 B6 i k (blk .map) (.slice (some ⟨blk .keys,0,none⟩) (zJm i (rs.take (j+1))).length kc) rv rs.length j)
 (h14:a.tmps[14]? =some (.pointer (some ⟨rb,0,none⟩))) (h15:a.tmps[15]? =some (.int .i64 (gKey i rs[j])))
 (hrb:w.heap[rb]? =some (.cells #[.slice (some ⟨cb,coff,none⟩) rs[j].cells.length cc,.slice fp fn fcap] 45 (0,0)))
 (hcl:cb<w0.heap.size) (hcells:∀m (hm:m<rs[j].cells.length),w0.cell? ⟨cb,coff+m,none⟩=some (.int .i64 rs[j].cells[m])) (hfr:RowIn w0 (.slice fp fn fcap) rs[j].frm)
 (hx:gKey i rs[j]∈zJm i (rs.take (j+1))) (hnx:nx=none\/nx=some (gKey i rs[j]))
 (hne:∀t,Live (zJm i (rs.take (j+1))) nx t->blk t≠rb)
 (G:GRel w0 w w0.heap.size 45 3 blk (zJm i (rs.take (j+1))) (zJm i (rs.take (j+1))) (gSum i k (rs.take j)) (gFrm i (rs.take j)) fc nx kc):
 cH1.wp Tryz.prog (fun e a' w' =>e= .normal/\J1 w0 rs B3 B4 B6 i k rv (j+1) j a' w') a w:=by
 have hr:=hok _ (List.getElem_mem hj);generalize hxk:gKey i rs[j]=x at h15 hx hnx;have bx:=G.box x hx;have cl:=G.cel x hx;have rbx:=G.rng (.box x) hx;have rcl:=G.rng (.cel x) hx;have rmp:=G.rng .map trivial;have nbc:blk (.box x)≠blk (.cel x):=fun e=>by have:=G.inj (.box x) (.cel x) hx hx e;cases this
 have nmc:blk .map≠blk (.cel x):=fun e=>by have:=G.inj .map (.cel x) trivial hx e;cases this
 have old:∀b,b<w0.heap.size->w.heap[b]? =w0.heap[b]? :=G.below.block;have hrbl:rb<w.heap.size:=(Array.getElem?_eq_some_iff.1 hrb).1;obtain⟨vp,vn,vc,hfv⟩:∃vp vn vc,frV blk fc (gFrm i (rs.take j)) nx x= .slice vp vn vc:=by
  unfold frV;split
  ·exact⟨_,_,_,rfl⟩
  ·exact⟨_,_,_,rfl⟩
 rw [hfv] at bx;refine wp_seq (wp_mono (vGw (k:=k) F.s G.map hx hr.k F.s11 h15 F.s10 h14 (by simp only [World.cell?,bx];rfl) (by simp only [World.cell?,cl];rfl) (by simp only [World.cell?,hrb];rfl) ((xIL (old _ hcl)).trans (hcells k hr.k)) (by simp [World.frozen?,cl])) ?_);rintro e a1 w1 ⟨rfl,hw1,K1⟩;rw [xUn hr.k] at hw1;obtain⟨s',hs'⟩:∃s',IntKind.i64.wrap (gSum i k (rs.take j) x+gKey k rs[j])=s' :=⟨_,rfl⟩;rw [hs'] at hw1;have c1:Chg w w1 (blk (.cel x)) (.cells #[.int .i64 x,.int .i64 s'] 3 (0,0)):=by
  have:=xGw (w:=w.drew) (o:=1) (v:= .int .i64 s') (cs' := #[.int .i64 x,.int .i64 s']) (b:=blk (.cel x)) cl (by simp);rw [hw1];exact⟨this.os,this.tape,this.output,this.size,this.at',this.other⟩
 clear hw1;have z1:=c1.size;have bx1:=(c1.other _ nbc).trans bx;have rb1:=(c1.other rb (fun e=>hne (.cel x) hx e.symm)).trans hrb;have hU1:Calls Tryz.prog 20 #[.slice vp vn vc,.slice fp fn fcap] w1.drew fun e W' =>∃br cap,e= .returned (.slice (some ⟨br,0,none⟩) (zIr (gFrm i (rs.take j) x) rs[j].frm).length cap)/\Below w1.heap.size w1.drew W' /\w1.heap.size<=br/\OrgRow W' br cap (zIr (gFrm i (rs.take j) x) rs[j].frm):=by
  have oldW:∀b,b<w0.heap.size->w1.heap[b]? =w0.heap[b]? :=fun b hb=>(c1.other b (by omega)).trans (old b hb);refine hU _ _ _ _ w1.drew ?_ (hfr.kept (w' :=w1.drew) (by show w0.heap.size<=w1.heap.size;omega) oldW) ?_ fun y hy=>⟨?_,(oldW _ (hlaid y hy).1).trans (hlaid y hy).2⟩
  ·by_cases hq:nx=some x
   ·rw [frV,if_pos hq] at hfv;rw [<-hfv,G.nil x hq];exact⟨none,0,rfl,.inl rfl⟩
   ·rw [frV,if_neg hq] at hfv;rw [<-hfv];refine xU0 (w:=w1.drew) ((G.frm x hx hq).kept (c1.other _ fun e=> ?_));have:=G.inj (.frm x) (.cel x) ⟨hx,hq⟩ hx e;cases this
  ·have h1:=xV1 (i:=i) (L:=100000000) (x:=x) (rs.take j) fun r hr=>(hok r (List.mem_of_mem_take hr)).f;have h2:(rs.take j).length*100000000<=1000*100000000:=Nat.mul_le_mul (by rw [List.length_take];omega) (Nat.le_refl _);have:=hr.f;omega
  ·have:=(hlaid y hy).1;show y.1<w1.heap.size;omega
 have e1:a1.tmps.size=153:=K1.2.1.trans F.s;refine wp_mono (vGx e1 (G.map.kept (c1.other _ nmc) (fun _ _=>rfl)) hx (K1.get F.s11 rfl) (K1.get h15 rfl) (K1.get h14 rfl) (by omega) (by omega) (by simp only [World.cell?,bx1];rfl) (by simp only [World.cell?,rb1];rfl) (by simp [World.frozen?,bx1]) hU1) ?_;rintro e a2 w2 ⟨rfl,⟨br,cap,W',g1,g2,g3,g4⟩,K2⟩;have hbW:Below w1.heap.size w1 W' :=⟨g1.os,g1.tape,g1.output,g1.size,g1.block⟩;have c2:Chg W' w2 (blk (.box x)) (.cells #[.slice (some ⟨blk (.cel x),0,none⟩) 2 2,.slice (some ⟨br,0,none⟩) (zIr (gFrm i (rs.take j) x) rs[j].frm).length cap] 45 (0,0)):=by
  rw [g4];exact xGw ((hbW.block _ (by omega)).trans bx1) (by simp)
 have T:=G.turn hx hnx c1 hbW g2 g3 c2;have K:=K1.trans K2 (l2:=[3,4,6,9,10,11,12,55,56,57]) rfl;refine⟨rfl,updT blk (.frm x) br,updI fc x cap,kc,?_,?_⟩
 ·have e2:updT blk (.frm x) br .map=blk .map:=if_neg (by simp);have e3:updT blk (.frm x) br .keys=blk .keys:=if_neg (by simp);rw [e2,e3];exact⟨K.1.trans F.d,K.2.1.trans F.s,K.get F.s3 rfl,K.get F.s4 rfl,K.get F.s6 rfl,K.get F.s9 rfl,K.get F.s10 rfl,K.get F.s11 rfl,K.get F.s12 rfl,K.get F.s55 rfl,K.get F.s56 rfl,K.get F.s57 rfl⟩
 ·have q1:updI (gSum i k (rs.take j)) x s' =gSum i k (rs.take (j+1)):=by rw [xKQ hj,xQ2,hxk,hs']
  have q2:updI (gFrm i (rs.take j)) x (zIr (gFrm i (rs.take j) x) rs[j].frm)=gFrm i (rs.take (j+1)):=by rw [xKQ hj,xQ0,hxk]
  rw [q1,q2] at T;exact T
theorem xUp(hU:xQS)(hlaid:∀x∈zH7,x.1<w0.heap.size/\w0.heap[x.1]? =some x.2)(hrs:xQK w0 rv rs)(hok:∀r∈rs,RowOk i k r)(hn:rs.length<=1000){j:Nat}(hj:j<rs.length){a:Act}{w:World}(hJ:J1 w0 rs B3 B4 B6 i k rv j j a w):
 cB1.wp Tryz.prog (fun e a' w' =>e= .normal/\J1 w0 rs B3 B4 B6 i k rv (j+1) j a' w') a w:=by
 obtain⟨blk,fc,kc,F,G⟩:=hJ;obtain⟨p,c,rfl,hrows⟩:=hrs;obtain⟨b,off,rfl,hbl,hcell⟩:=hrows.resolve_left (fun e=>by rw [e] at hj;simp at hj);obtain⟨cv,fv,e1,e2,hi1,hi2⟩:=hcell j hj;have hr:=hok _ (List.getElem_mem hj);obtain⟨cp,cc,rfl,hints⟩:=hi1;obtain⟨cb,coff,rfl,hcbl,hcells⟩:=hints.resolve_left (fun e=>by have:=hr.i;rw [e] at this;simp at this);obtain⟨fp,fcap,rfl,_⟩:=id hi2;have old:∀b,b<w0.heap.size->w.heap[b]? =w0.heap[b]? :=G.below.block;have z0:=G.below.size;refine wp_seq (wp_mono (vGr F.s hj F.s55 F.s57 ((xIL (old _ hbl)).trans e1) ((xIL (old _ hbl)).trans e2)) ?_);rintro e a1 w1 ⟨rfl,hw1,h14,K1⟩;have hb1:Below w.heap.size w w1:=by rw [hw1];exact(Below.refl _ _).alloc (Nat.le_refl _) _
 have z1:w1.heap.size=w.heap.size+1:=by rw [hw1,xFd]
 have hrb:w1.heap[w.heap.size]? =some (.cells #[.slice (some ⟨cb,coff,none⟩) rs[j].cells.length cc,.slice fp rs[j].frm.length fcap] 45 (0,0)):=by
  rw [hw1];show(Array.push _ _)[_]? =_;rw [Array.getElem?_push,if_pos rfl]
 clear hw1;have G1:=G.grow hb1;have old1:∀b,b<w0.heap.size->w1.heap[b]? =w0.heap[b]? :=G1.below.block;have s1:a1.tmps.size=153:=K1.2.1.trans F.s;refine wp_seq (wp_mono (vGs s1 hr.i h14 (K1.get F.s9 rfl) (by simp only [World.cell?,hrb];rfl) ((xIL (old1 _ hcbl)).trans (hcells i hr.i))) ?_);rintro e a2 w2 ⟨rfl,rfl,h15,K2⟩;rw [xUn hr.i] at h15;have K12:=K1.trans K2 (l2:=[3,4,6,9,10,11,12,55,56,57]) rfl;have s2:a2.tmps.size=153:=K2.2.1.trans s1;refine wp_seq (wp_seq (wp_mono (vGt s2 G1.map (K12.get F.s11 rfl) h15) ?_));rintro e a3 w3 ⟨rfl,rfl,h69,K3⟩;have K13:=K12.trans K3 (l2:=[3,4,6,9,10,11,12,55,56,57]) rfl;have h14' :=K3.get (K2.get h14 rfl) rfl;have h15' :=K3.get h15 rfl;have s3:a3.tmps.size=153:=K3.2.1.trans s2;have hc69:a3.eval (.tmp 69)= .bool (!decide (gKey i rs[j]∈zJm i (rs.take j))):=xPa h69;have rng:=G.rng;by_cases hx:gKey i rs[j]∈zJm i (rs.take j)
 ·have ek:zJm i (rs.take (j+1))=zJm i (rs.take j):=by rw [xKQ hj,xMi,if_pos hx]
  rw [decide_eq_true hx] at hc69;refine wp_cond_false hc69 (wp_skip ?_);refine xS4 (nx:=none) hU hlaid hok hn hj (rb:=w.heap.size) (blk:=blk) (fc:=fc) (kc:=kc) ⟨K13.1.trans F.d,s3,K13.get F.s3 rfl,K13.get F.s4 rfl,K13.get F.s6 rfl,K13.get F.s9 rfl,K13.get F.s10 rfl,K13.get F.s11 rfl,by rw [ek];exact K13.get F.s12 rfl,K13.get F.s55 rfl,K13.get F.s56 rfl,K13.get F.s57 rfl⟩ h14' h15' hrb hcbl hcells hi2 (by rw [ek];exact hx) (.inl rfl) (fun t ht=> ?_) (by rw [ek];exact G1);rw [ek] at ht;have:=(rng t ht).2;omega
 ·have ek:zJm i (rs.take (j+1))=zJm i (rs.take j)++ [gKey i rs[j]]:=by rw [xKQ hj,xMi,if_neg hx]
  rw [decide_eq_false hx] at hc69;refine wp_cond_true hc69 (wp_seq (wp_mono (vGu s3 G1.map hx (K13.get F.s11 rfl) h15') ?_));rintro e a4 w4 ⟨rfl,hm4,hg4,z4,K4⟩;have K14:=K13.trans K4 (l2:=[3,4,6,9,10,11,12,55,56,57]) rfl;have s4:a4.tmps.size=153:=K4.2.1.trans s3;generalize hA:(w3.alloc (.cells #[.int .i64 (gKey i rs[j]),.int .i64 0] 3)).alloc (.cells #[.slice (some ⟨w3.heap.size,0,none⟩) 2 2,.slice none 0 0] 45)=A at hg4 z4;have zA:A.heap.size=w3.heap.size+2:=by rw [<-hA,xFd,xFd]
  have hbA:Below w3.heap.size w3 A:=by rw [<-hA];exact((Below.refl _ _).alloc (Nat.le_refl _) _).alloc (by rw [xFd];omega) _
  have hcA:A.heap[w3.heap.size]? =some (.cells #[.int .i64 (gKey i rs[j]),.int .i64 0] 3 (0,0)):=by
   rw [<-hA,xGv (by rw [xFd];omega)];show(Array.push _ _)[_]? =_;rw [Array.getElem?_push,if_pos rfl]
  have hbA2:A.heap[w3.heap.size+1]? =some (.cells #[.slice (some ⟨w3.heap.size,0,none⟩) 2 2,.slice none 0 0] 45 (0,0)):=by
   rw [<-hA];show(Array.push _ _)[_]? =_;rw [Array.getElem?_push,if_pos (xFd _ _).symm]
  clear hA;have rmap:=G1.rng .map trivial;have rkey:=G1.rng .keys trivial;have nmk:blk .keys≠blk .map:=fun e=>by have:=G1.inj .keys .map trivial trivial e;cases this
  have hk4:ORow w4 3 (blk .keys) kc 1 (zJm i (rs.take j)).length ((zJm i (rs.take j)).map (Value.int .i64)):=G1.keys.kept ((hg4.block _ (by omega) (by simpa using nmk)).trans (hbA.block _ rkey.2));have hlen:(zJm i (rs.take j)).length<=1000:=Nat.le_trans (xQ1 i _) (by rw [List.length_take];omega);refine wp_mono (vGv s4 hlen hk4 (K14.get F.s12 rfl) (K4.get h15' rfl)) ?_;rintro e a5 w5 ⟨rfl,kb',kc',hk5,hg5,hkb,h12,K5⟩;have K15:=K14.trans K5 (l2:=[3,4,6,9,10,11,55,56,57]) rfl;have s5:a5.tmps.size=153:=K5.2.1.trans s4;have hn0:=xUo _ (rs.take j) rfl hx;have hb45:Below w4.heap.size w4 (w4.alloc (.cells #[.int .i64 (gKey i rs[j])] 3)):=(Below.refl _ _).alloc (Nat.le_refl _) _;have G5:=G1.add hx (hn0.1 k) hn0.2 hbA (Nat.le_refl _) (Nat.le_succ _) (by omega) (by omega) (by omega) hcA hbA2 hm4 hg4 z4 hb45 hk5 hg5 hkb;have rb5:w5.heap[w.heap.size]? =w3.heap[w.heap.size]? :=by
   have rm:=rng .map trivial;have rk:=rng .keys trivial;exact(hg5.block _ (by rw [xFd];omega) (by simp;omega)).trans ((xGv (by omega)).trans ((hg4.block _ (by omega) (by simp;omega)).trans (hbA.block _ (by omega))))
  have bm:updT (updT (updT blk (.box (gKey i rs[j])) (w3.heap.size+1)) (.cel (gKey i rs[j])) w3.heap.size) .keys kb' .map=blk .map:=by simp [updT]
  have bk:updT (updT (updT blk (.box (gKey i rs[j])) (w3.heap.size+1)) (.cel (gKey i rs[j])) w3.heap.size) .keys kb' .keys=kb' :=by simp [updT]
  have hne:∀t,Live (zJm i (rs.take j)++ [gKey i rs[j]]) (some (gKey i rs[j])) t->updT (updT (updT blk (.box (gKey i rs[j])) (w3.heap.size+1)) (.cel (gKey i rs[j])) w3.heap.size) .keys kb' t≠w.heap.size:=by
   intro t ht;by_cases n1:t= .keys
   ·subst n1;rw [bk];have:=(rng .keys trivial).2;rcases hkb with e|e
    ·omega
    ·rw [xFd] at e;omega
   ·by_cases n2:t= .cel (gKey i rs[j])
    ·subst n2;simp [updT];omega
    ·by_cases n3:t= .box (gKey i rs[j])
     ·subst n3;simp [updT];omega
     ·have e0:updT (updT (updT blk (.box (gKey i rs[j])) (w3.heap.size+1)) (.cel (gKey i rs[j])) w3.heap.size) .keys kb' t=blk t:=by simp [updT,n1,n2,n3]
      rw [e0];have hl:Live (zJm i (rs.take j)) none t:=by
       cases t with
       |map=>trivial
       |keys=>trivial
       |box y=>
        rcases List.mem_append.1 (show y∈zJm i (rs.take j)++ [gKey i rs[j]] from ht) with e|e
        ·exact e
        ·simp at e;subst e;exact absurd rfl n3
       |cel y=>
        rcases List.mem_append.1 (show y∈zJm i (rs.take j)++ [gKey i rs[j]] from ht) with e|e
        ·exact e
        ·simp at e;subst e;exact absurd rfl n2
       |frm y=>
        obtain⟨e,e2⟩:=ht;rcases List.mem_append.1 e with e|e
        ·exact⟨e,by simp⟩
        ·simp at e;subst e;exact absurd rfl e2
      have:=(rng t hl).2;omega
  refine xS4 (nx:=some (gKey i rs[j])) hU hlaid hok hn hj (rb:=w.heap.size) (blk:=updT (updT (updT blk (.box (gKey i rs[j])) (w3.heap.size+1)) (.cel (gKey i rs[j])) w3.heap.size) .keys kb') (fc:=fc) (kc:=kc') ⟨K15.1.trans F.d,s5,K15.get F.s3 rfl,K15.get F.s4 rfl,K15.get F.s6 rfl,K15.get F.s9 rfl,K15.get F.s10 rfl,by rw [bm];exact K15.get F.s11 rfl,by rw [ek,bk];exact h12,K15.get F.s55 rfl,K15.get F.s56 rfl,K15.get F.s57 rfl⟩ (K5.get (K4.get h14' rfl) rfl) (K5.get (K4.get h15' rfl) rfl) (rb5.trans hrb) hcbl hcells hi2 (by rw [ek];simp) (.inr rfl) (by rw [ek];exact hne) (by rw [ek];exact G5)
theorem xV3(hU:xQS)(hlaid:∀x∈zH7,x.1<w0.heap.size/\w0.heap[x.1]? =some x.2)(hrs:xQK w0 rv rs)(hok:∀r∈rs,RowOk i k r)(hn:rs.length<=1000){a:Act}{w:World}(hJ:J1 w0 rs B3 B4 B6 i k rv 0 0 a w):
 cL1.wp Tryz.prog (fun e a' w' =>e= .normal/\J1 w0 rs B3 B4 B6 i k rv rs.length rs.length a' w') a w:=by
 refine wp_block ?_;refine wp_loop (fun a w=>∃j,j<=rs.length/\J1 w0 rs B3 B4 B6 i k rv j j a w) (fun a _=>rs.length - (RowKit.intOf (a.tmps.getD 57 undef)).toNat) ⟨0,Nat.zero_le _,hJ⟩ ?_;rintro a w ⟨j,hj,hJ⟩;obtain⟨blk,fc,kc,F,G⟩:=id hJ;have m0:(RowKit.intOf (a.tmps.getD 57 undef)).toNat=j:=by
  rw [show a.tmps.getD 57 undef= .int .i64 j from xPa F.s57];simp [RowKit.intOf]
 refine wp_seq (wp_mono (vGq F.s F.s56 F.s57) ?_);rintro e a1 w1 ⟨rfl,rfl,h58,K1⟩;have F1' :F1 a1 B3 B4 B6 i k (blk .map) (.slice (some ⟨blk .keys,0,none⟩) (zJm i (rs.take j)).length kc) rv rs.length j:=⟨K1.1.trans F.d,K1.2.1.trans F.s,K1.get F.s3 rfl,K1.get F.s4 rfl,K1.get F.s6 rfl,K1.get F.s9 rfl,K1.get F.s10 rfl,K1.get F.s11 rfl,K1.get F.s12 rfl,K1.get F.s55 rfl,K1.get F.s56 rfl,K1.get F.s57 rfl⟩;have hc:a1.eval (.tmp 58)= .bool (decide (j<rs.length)):=xPa h58;by_cases hlt:j<rs.length
 ·rw [decide_eq_true hlt] at hc;refine wp_seq (wp_cond_true hc (wp_skip ?_));refine wp_seq (wp_block ?_);refine wp_mono (xUp hU hlaid hrs hok hn hlt ⟨blk,fc,kc,F1',G⟩) ?_;rintro e a2 w2 ⟨rfl,blk2,fc2,kc2,F2,G2⟩;refine wp_mono (vGy F2.s (by omega) F2.s57) ?_;rintro e a3 w3 ⟨rfl,rfl,h57,K3⟩;refine⟨⟨j+1,hlt,blk2,fc2,kc2,⟨K3.1.trans F2.d,K3.2.1.trans F2.s,K3.get F2.s3 rfl,K3.get F2.s4 rfl,K3.get F2.s6 rfl,K3.get F2.s9 rfl,K3.get F2.s10 rfl,K3.get F2.s11 rfl,K3.get F2.s12 rfl,K3.get F2.s55 rfl,K3.get F2.s56 rfl,h57⟩,G2⟩,?_⟩;have m1:(RowKit.intOf (a3.tmps.getD 57 undef)).toNat=j+1:=by
   rw [show a3.tmps.getD 57 undef= .int .i64 (j+1:Nat) from xPa h57];simp [RowKit.intOf] <;>omega
  rw [m0,m1];omega
 ·rw [decide_eq_false hlt] at hc;obtain rfl:j=rs.length:=by omega
  refine wp_seq (wp_cond_false hc (wp_exit ?_));simp only [Exit.then,Exit.inBlock,if_true];exact⟨trivial,blk,fc,kc,F1',G⟩
end
end Go.Ab
end
section
namespace Go.Ab
open Go.Proofs Go.RowKit Go.Shelf
set_option maxRecDepth 100000
noncomputable def cB2:Code:= .seq (Rg 24) (.seq (.seq (Rg 25) (.cond (.tmp 139) (.seq (Rg 26) .ret) .skip)) (Rg 27))
noncomputable def cL2:Code:= .block 2 (.loop (.seq (Rg 23) (.seq (.cond (.tmp 127) .skip (.exit 2)) (.seq (.block 3 cB2) (Rg 28)))))
noncomputable def cT2:Code:= .seq (Rg 29) .ret
noncomputable def cS2:Code:= .seq (.seq (Rg 22) cL2) cT2
noncomputable def cS1:Code:= .seq (Rg 20) (.seq (Rg 21) cS2)
noncomputable def cAll:Code:= .seq (Rg 9) (.seq (.seq (Rg 10) cL1) cS1)
def xSY:Array Value:= #[.int .i64 6,.int .i64 5,.int .i64 0,.string ⟨#[]⟩,.slice none 0 0,.slice none 0 0,.slice none 0 0]
def xKh(cb:Nat)(rv:Value):Array Value:= #[.int .i64 5,.int .i64 0,.int .i64 0,.string ⟨#[]⟩,.slice none 0 0,.slice (some ⟨cb,0,none⟩) 2 2,rv]
structure Tab (w0 W:World) (ks xs:List Int) (sm:Int->Int) (fr:Int->List Org) (ta tb:ByteArray) (blk:Tg->Nat) (fc:Int->Nat) (cb:Nat) (rv:Value):Prop where
 rel:∃kc,GRel w0 W w0.heap.size 45 3 blk ks xs sm fr fc none kc
 lt:∀t,Live ks none t->blk t<cb
 col:W.heap[cb]? =some (.cells #[.string ta,.string tb] 9 (0,0))
 rows:W.ownsRow (cb+2) 45 2 rv xs.length (rowV blk fr fc xs)
 size:cb+2<=W.heap.size
def GOut(w0:World)(ks xs:List Int)(sm:Int->Int)(fr:Int->List Org)(ta tb:ByteArray)(B6:Nat)(ty:TypeId)(a' :Act)(w' :World):Prop:=
 a'.defers=[]/\a'.tmps.size=153/\a'.tmps[6]? =some (.pointer (some ⟨B6,0,none⟩))/\∃W,Below w0.heap.size w0 W/\
  ((xs.all (fun x=>numB (sm x))=false/\Chg W w' B6 (.cells xSY ty (0,0)))\/
   (xs.all (fun x=>numB (sm x))=true/\∃blk fc cb rv,Chg W w' B6 (.cells (xKh cb rv) ty (0,0))/\Tab w0 W ks xs sm fr ta tb blk fc cb rv))
structure F2 (a:Act) (B6 M ob:Nat) (kv:Value) (n m:Nat):Prop where
 d:a.defers=[]
 s:a.tmps.size=153
 s6:a.tmps[6]? =some (.pointer (some ⟨B6,0,none⟩))
 s11:a.tmps[11]? =some (.map (some M))
 s16:a.tmps[16]? =some (.pointer (some ⟨ob,0,none⟩))
 s124:a.tmps[124]? =some kv
 s125:a.tmps[125]? =some (.int .i64 n)
 s126:a.tmps[126]? =some (.int .i64 m)
structure W2 (w0 wS w:World) (ks xs:List Int) (sm:Int->Int) (fr:Int->List Org) (ta tb:ByteArray) (blk:Tg->Nat) (fc:Int->Nat) (kc S m:Nat) (rv:Value):Prop where
 rel:GRel w0 wS w0.heap.size 45 3 blk ks xs sm fr fc none kc
 hS:S=wS.heap.size
 below:Below S wS w
 size:S+2<=w.heap.size
 col:w.heap[S]? =some (.cells #[.string ta,.string tb] 9 (0,0))
 out:w.heap[S+1]? =some (.cells (xKh S rv) 31 (0,0))
 rows:w.ownsRow (S+2) 45 2 rv m (rowV blk fr fc (xs.take m))
 nums:∀x∈xs.take m,numB (sm x)=true
section
variable [Inhabited Lb] {w0 wS:World} {ks xs:List Int} {sm:Int->Int} {fr:Int->List Org} {ta tb:ByteArray} {blk:Tg->Nat} {fc:Int->Nat} {kc S B6:Nat} {ty:TypeId} {u0 u1 u2 u3 u4 u5 u6:Value}
theorem W2.rel' {w:World}{m:Nat}{rv:Value}(h:W2 w0 wS w ks xs sm fr ta tb blk fc kc S m rv):GRel w0 w w0.heap.size 45 3 blk ks xs sm fr fc none kc:=h.rel.grow (by have:=h.below;rwa [h.hS] at this)
theorem xMC{w:World}{base te sz n:Nat}{v:Value}{xs:List Value}(h:w.ownsRow base te sz v n xs):∃p c,v= .slice p n c:=by
 rcases h.2 with ⟨rfl,rfl⟩|⟨g,cap,cur,rfl,_⟩
 ·exact⟨_,_,rfl⟩
 ·exact⟨_,_,rfl⟩
theorem xUq(hperm:∀x∈xs,x∈ks)(hn:xs.length<=1000)(h6:B6<w0.heap.size)(hB6:w0.heap[B6]? =some (.cells #[u0,u1,u2,u3,u4,u5,u6] ty (0,0))){m:Nat}(hm:m<xs.length){a:Act}{w:World}{rv:Value}
 (F:F2 a B6 (blk .map) (S+1) (.slice (some ⟨blk .keys,0,none⟩) xs.length kc) xs.length m) (H:W2 w0 wS w ks xs sm fr ta tb blk fc kc S m rv):
 cB2.wp Tryz.prog (Exit.then (fun a' w' =>F2 a' B6 (blk .map) (S+1) (.slice (some ⟨blk .keys,0,none⟩) xs.length kc) xs.length m/\∃rv',W2 w0 wS w' ks xs sm fr ta tb blk fc kc S (m+1) rv') (fun e a' w' =>e= .ret/\GOut w0 ks xs sm fr ta tb B6 ty a' w')) a w:=by
 have G:=H.rel';have hx:xs[m]∈ks:=hperm _ (List.getElem_mem hm);refine wp_seq (wp_mono (vGD F.s hm F.s124 F.s126 (G.keys.cellI hm)) ?_);rintro e a1 w1 ⟨rfl,hw,h18,K1⟩;obtain rfl:w=w1:=hw.symm;have bx:=G.box _ hx;have cl:=G.cel _ hx;have s1:a1.tmps.size=153:=K1.2.1.trans F.s;refine wp_seq (wp_seq (wp_mono (vGE s1 G.map hx (K1.get F.s11 rfl) h18 (by simp only [World.cell?,bx];rfl) (by simp only [World.cell?,cl];rfl)) ?_));rintro e a2 w2 ⟨rfl,hw,h139,K2⟩;obtain rfl:w=w2:=hw.symm;have s2:a2.tmps.size=153:=K2.2.1.trans s1;have K:=K1.trans K2 (l2:=[6,11,16,124,125,126]) rfl;have hc:a2.eval (.tmp 139)= .bool (!numB (sm xs[m])):=xPa h139;have old:∀b,b<w0.heap.size->w.heap[b]? =w0.heap[b]? :=G.below.block;have z0:=G.below.size;cases hnum:numB (sm xs[m]) with
 |false=>
  rw [hnum] at hc;refine wp_cond_true hc (wp_seq (wp_mono (vGF s2 (K.get F.s6 rfl) ((old _ h6).trans hB6)) ?_));rintro e a3 w3 ⟨rfl,⟨W,hW,hC⟩,K3⟩;refine wp_ret ⟨rfl,K3.1.trans (K.1.trans F.d),K3.2.1.trans s2,K3.get (K.get F.s6 rfl) rfl,W,G.below.trans ⟨hW.os,hW.tape,hW.output,hW.size,fun b hb=>hW.block b (by omega)⟩,.inl ⟨?_,hC⟩⟩;rw [List.all_eq_false];exact⟨xs[m],List.getElem_mem hm,by rw [hnum];simp⟩
 |true=>
  rw [hnum] at hc;refine wp_cond_false hc (wp_skip ?_);obtain⟨rp,rc,rfl⟩:=xMC H.rows;have hS:=H.hS;have rb:=H.rel.rng (.box xs[m]) hx;have rm:=H.rel.rng .map trivial;have hsz:=H.size;have fv:frV blk fc fr none xs[m]= .slice (some ⟨blk (.frm xs[m]),0,none⟩) (fr xs[m]).length (fc xs[m]):=if_neg (by simp);rw [fv] at bx;have ho:=H.out;refine wp_mono (vGG s2 (base:=S+2) G.map hx (K.get F.s11 rfl) (K2.get h18 rfl) (K.get F.s16 rfl) (by omega) (by omega) (by omega) (by omega) hsz (by simp only [World.cell?,ho];rfl) (by simp [World.frozen?,ho]) (by simp only [World.cell?,bx];rfl) (by simp only [World.cell?,bx];rfl) H.rows) ?_;rintro e a3 w3 ⟨rfl,⟨v',W',o1,o2,o3⟩,K3⟩;have KK:=K.trans K3 (l2:=[6,11,16,124,125,126]) rfl;refine⟨⟨KK.1.trans F.d,KK.2.1.trans F.s,KK.get F.s6 rfl,KK.get F.s11 rfl,KK.get F.s16 rfl,KK.get F.s124 rfl,KK.get F.s125 rfl,KK.get F.s126 rfl⟩,v',?_⟩;have hoW:W'.heap[S+1]? =some (.cells (xKh S (.slice rp m rc)) 31 (0,0)):=(o2.block _ (by omega)).trans ho;have C:Chg W' w3 (S+1) (.cells (xKh S v') 31 (0,0)):=by
   rw [o3];exact xGw hoW (by simp [xKh])
  have tk:xs.take (m+1)=xs.take m++ [xs[m]]:=List.take_succ_eq_append_getElem hm;refine⟨H.rel,H.hS,?_,?_,?_,C.at',?_,?_⟩
  ·exact H.below.trans ⟨C.os.trans o2.os,C.tape.trans o2.tape,C.output.trans o2.output,by rw [C.size];exact o2.size,fun b hb=>(C.other b (by omega)).trans (o2.block b (by omega))⟩
  ·rw [C.size];have:=o2.size;omega
  ·rw [C.other _ (by omega),o2.block _ (by omega)];exact H.col
  ·rw [tk,xVF];obtain⟨q0,q1⟩:=o1;refine⟨q0,?_⟩;rcases q1 with q1|⟨g,cap,cur,rfl,q2,q3,q4⟩
   ·exact .inl q1
   ·exact .inr ⟨g,cap,cur,rfl,q2,(C.other _ (by omega)).trans q3,q4⟩
  ·intro x hx;rw [tk,List.mem_append] at hx;rcases hx with hx|hx
   ·exact H.nums x hx
   ·simp at hx;subst hx;exact hnum
theorem xV4(hperm:∀x∈xs,x∈ks)(hn:xs.length<=1000)(h6:B6<w0.heap.size)(hB6:w0.heap[B6]? =some (.cells #[u0,u1,u2,u3,u4,u5,u6] ty (0,0))){a:Act}{w:World}{rv:Value}
 (F:F2 a B6 (blk .map) (S+1) (.slice (some ⟨blk .keys,0,none⟩) xs.length kc) xs.length 0) (H:W2 w0 wS w ks xs sm fr ta tb blk fc kc S 0 rv):
 cL2.wp Tryz.prog (Exit.then (fun a' w' =>F2 a' B6 (blk .map) (S+1) (.slice (some ⟨blk .keys,0,none⟩) xs.length kc) xs.length xs.length/\∃rv',W2 w0 wS w' ks xs sm fr ta tb blk fc kc S xs.length rv') (fun e a' w' =>e= .ret/\GOut w0 ks xs sm fr ta tb B6 ty a' w')) a w:=by
 refine wp_block ?_;refine wp_loop (fun a w=>∃m rv,m<=xs.length/\F2 a B6 (blk .map) (S+1) (.slice (some ⟨blk .keys,0,none⟩) xs.length kc) xs.length m/\W2 w0 wS w ks xs sm fr ta tb blk fc kc S m rv) (fun a _=>xs.length - (RowKit.intOf (a.tmps.getD 126 undef)).toNat) ⟨0,rv,Nat.zero_le _,F,H⟩ ?_;rintro a w ⟨m,rv,hm,F,H⟩;have m0:(RowKit.intOf (a.tmps.getD 126 undef)).toNat=m:=by
  rw [show a.tmps.getD 126 undef= .int .i64 m from xPa F.s126];simp [RowKit.intOf]
 refine wp_seq (wp_mono (vGC F.s F.s125 F.s126) ?_);rintro e a1 w1 ⟨rfl,hw,h127,K1⟩;obtain rfl:w=w1:=hw.symm;have F1' :F2 a1 B6 (blk .map) (S+1) (.slice (some ⟨blk .keys,0,none⟩) xs.length kc) xs.length m:=⟨K1.1.trans F.d,K1.2.1.trans F.s,K1.get F.s6 rfl,K1.get F.s11 rfl,K1.get F.s16 rfl,K1.get F.s124 rfl,K1.get F.s125 rfl,K1.get F.s126 rfl⟩;have hc:a1.eval (.tmp 127)= .bool (decide (m<xs.length)):=xPa h127;by_cases hlt:m<xs.length
 ·rw [decide_eq_true hlt] at hc;refine wp_seq (wp_cond_true hc (wp_skip ?_));refine wp_seq (wp_block ?_);refine wp_mono (xUq hperm hn h6 hB6 hlt F1' H) ?_;intro e a2 w2 h;cases e with
  |normal=>
   obtain⟨F2',rv',H2⟩:=h;refine wp_mono (vGH F2'.s (by omega) F2'.s126) ?_;rintro e a3 w3 ⟨rfl,hw,h126,K3⟩;obtain rfl:w2=w3:=hw.symm;refine⟨⟨m+1,rv',hlt,⟨K3.1.trans F2'.d,K3.2.1.trans F2'.s,K3.get F2'.s6 rfl,K3.get F2'.s11 rfl,K3.get F2'.s16 rfl,K3.get F2'.s124 rfl,K3.get F2'.s125 rfl,h126⟩,H2⟩,?_⟩;have m1:(RowKit.intOf (a3.tmps.getD 126 undef)).toNat=m+1:=by
    rw [show a3.tmps.getD 126 undef= .int .i64 (m+1:Nat) from xPa h126];simp [RowKit.intOf] <;>omega
   rw [m0,m1];omega
  |ret=>exact h
  |exit id=>exact absurd h.1 (by simp)
  |goto l=>exact absurd h.1 (by simp)
  |panic c=>exact absurd h.1 (by simp)
  |outgrown=>exact absurd h.1 (by simp)
 ·rw [decide_eq_false hlt] at hc;obtain rfl:m=xs.length:=by omega
  refine wp_seq (wp_cond_false hc (wp_exit ?_));simp only [Exit.then,Exit.inBlock,if_true];exact⟨F1',rv,H⟩
end
end Go.Ab
end
section
namespace Go.Ab
open Go.Proofs Go.RowKit Go.Shelf
set_option maxRecDepth 100000
structure F0 (a:Act) (B3 B4 B5 B6 i k:Nat):Prop where
 d:a.defers=[]
 s:a.tmps.size=153
 s3:a.tmps[3]? =some (.pointer (some ⟨B3,0,none⟩))
 s4:a.tmps[4]? =some (.pointer (some ⟨B4,0,none⟩))
 s5:a.tmps[5]? =some (.pointer (some ⟨B5,0,none⟩))
 s6:a.tmps[6]? =some (.pointer (some ⟨B6,0,none⟩))
 s9:a.tmps[9]? =some (.int .i64 i)
 s10:a.tmps[10]? =some (.int .i64 k)
def vAx:Prop:=∀(blk cap:Nat) (zs:List Int) (w:World),Sort.Holds (Value.int .i64) w blk 0 zs.toArray->blk<w.heap.size->zs.length<4611686018427387904->
 Calls Tryz.prog 81 #[.slice (some ⟨blk,0,none⟩) zs.length cap] w fun e w' =>e= .returned (.tuple #[])/\∃n os,w' =Sort.grow (Sort.putRow (Value.int .i64) (Sort.ahead w n) blk 0 (zs.mergeSort fun x y=>decide (x<=y)).toArray) os
section
variable [Inhabited Lb] {w0:World} {rs:List Rowd} {B3 B4 B5 B6 i k:Nat} {rv:Value} {ta tb:ByteArray} {ty:TypeId} {u0 u1 u2 u3 u4 u5 u6:Value}
theorem vGT(hSo:vAx)(hlen:rs.length<=1000)(h3:w0.cell? ⟨B3,3,none⟩=some (.string ta))(h4:w0.cell? ⟨B4,3,none⟩=some (.string tb))(hB6:w0.heap[B6]? =some (.cells #[u0,u1,u2,u3,u4,u5,u6] ty (0,0))){a:Act}{w:World}(hJ:J1 w0 rs B3 B4 B6 i k rv rs.length rs.length a w):
 cS1.wp Tryz.prog (fun e a' w' =>e= .ret/\GOut w0 (zJm i rs) (zI6 i rs) (gSum i k rs) (gFrm i rs) ta tb B6 ty a' w') a w:=by
 obtain⟨blk,fc,kc,F,G⟩:=hJ;rw [List.take_length] at F G;have rk:=G.rng .keys trivial;have hkl:=xQ1 i rs;have h6:B6<w0.heap.size:=(Array.getElem?_eq_some_iff.1 hB6).1;obtain⟨xs,hxs⟩:∃xs,zI6 i rs=xs:=⟨_,rfl⟩;have hxl:xs.length=(zJm i rs).length:=by rw [<-hxs];exact List.length_mergeSort _
 have hperm:∀x∈xs,x∈zJm i rs:=fun x hx=>by rw [<-hxs] at hx;exact List.mem_mergeSort.1 hx
 refine wp_seq (wp_mono (vGz F.s F.s12 (hSo (blk .keys) kc (zJm i rs) w G.keys.holdsI rk.2 (by omega))) ?_);rintro e a1 wS ⟨rfl,⟨n,os,hw⟩,K1⟩;rw [show((zJm i rs).mergeSort fun x y=>decide (x<=y))=xs from hxs] at hw;obtain⟨p1,p2,p3⟩:=xVJ (n:=n) (os:=os) G.keys hxl;rw [<-hw] at p1 p2 p3;have GS:=G.rekey (wr' :=wS) (by rw [hw];exact⟨rfl,rfl,rfl⟩) p2 p3 p1;clear hw;have s1:a1.tmps.size=153:=K1.2.1.trans F.s;have b3:=xT4 h3;have b4:=xT4 h4;have old:∀b,b<w0.heap.size->wS.heap[b]? =w0.heap[b]? :=GS.below.block;refine wp_seq (wp_mono (vGA s1 (K1.get F.s3 rfl) (K1.get F.s4 rfl) ((xIL (old _ b3)).trans h3) ((xIL (old _ b4)).trans h4)) ?_);rintro e a2 w2 ⟨rfl,hw2,h16,K2⟩;have K12:=K1.trans K2 (l2:=[6,11,12]) rfl;have s2:a2.tmps.size=153:=K2.2.1.trans s1;refine wp_seq (wp_seq (wp_mono (vGB s2 (K12.get F.s12 rfl)) ?_));rintro e a3 w3 ⟨rfl,hw,h124,h125,h126,K3⟩;obtain rfl:w2=w3:=hw.symm;have K13:=K12.trans K3 (l2:=[6,11]) rfl;rw [<-hxl] at h124 h125;have z2:w2.heap.size=wS.heap.size+2:=by rw [hw2,xFd,xFd]
 have hcol:w2.heap[wS.heap.size]? =some (.cells #[.string ta,.string tb] 9 (0,0)):=by
  rw [hw2,xGv (by rw [xFd];omega)];show(Array.push _ _)[_]? =_;rw [Array.getElem?_push,if_pos rfl]
 have hout:w2.heap[wS.heap.size+1]? =some (.cells (xKh wS.heap.size (.slice none 0 0)) 31 (0,0)):=by
  rw [hw2];show(Array.push _ _)[_]? =_;rw [Array.getElem?_push,if_pos (xFd _ _).symm]
  rfl
 have hbS:Below wS.heap.size wS w2:=by rw [hw2];exact((Below.refl _ _).alloc (Nat.le_refl _) _).alloc (by rw [xFd];omega) _
 clear hw2;have H:W2 w0 wS w2 (zJm i rs) xs (gSum i k rs) (gFrm i rs) ta tb blk fc kc wS.heap.size 0 (.slice none 0 0):=⟨GS,rfl,hbS,by omega,hcol,hout,⟨rfl,.inl ⟨rfl,rfl⟩⟩,fun x hx=>by simp at hx⟩;have FF:F2 a3 B6 (blk .map) (wS.heap.size+1) (.slice (some ⟨blk .keys,0,none⟩) xs.length kc) xs.length 0:=⟨K13.1.trans F.d,K3.2.1.trans s2,K13.get F.s6 rfl,K13.get F.s11 rfl,K3.get h16 rfl,h124,h125,h126⟩;rw [hxs];refine wp_mono (xV4 hperm (by omega) h6 hB6 FF H) ?_;intro e a4 w4 h;cases e with
 |normal=>
  obtain⟨F4,rv',H4⟩:=h;obtain⟨rp,rc,rfl⟩:=xMC H4.rows;have G4:=H4.rel';refine wp_seq (wp_mono (vGI F4.s F4.s6 F4.s16 ((G4.below.block _ h6).trans hB6) H4.out) ?_);rintro e a5 w5 ⟨rfl,C,K5⟩;refine wp_ret ⟨rfl,K5.1.trans F4.d,K5.2.1.trans F4.s,K5.get F4.s6 rfl,w4,G4.below,.inr ⟨?_,blk,fc,wS.heap.size,_,C,⟨⟨kc,G4⟩,fun t ht=>(GS.rng t ht).2,H4.col,?_,H4.size⟩⟩⟩
  ·rw [List.all_eq_true];intro x hx;exact H4.nums x (by rw [List.take_length];exact hx)
  ·have:=H4.rows
   rwa [List.take_length] at this
 |ret=>exact h
 |exit id=>exact absurd h.1 (by simp)
 |goto l=>exact absurd h.1 (by simp)
 |panic c=>exact absurd h.1 (by simp)
 |outgrown=>exact absurd h.1 (by simp)
theorem vDJ(hU:xQS)(hSo:vAx)(hlaid:∀x∈zH7,x.1<w0.heap.size/\w0.heap[x.1]? =some x.2)(hrs:xQK w0 rv rs)(hok:∀r∈rs,RowOk i k r)(hlen:rs.length<=1000)(h3:w0.cell? ⟨B3,3,none⟩=some (.string ta))(h4:w0.cell? ⟨B4,3,none⟩=some (.string tb))(h5:w0.cell? ⟨B5,6,none⟩=some rv)
 (hB6:w0.heap[B6]? =some (.cells #[u0,u1,u2,u3,u4,u5,u6] ty (0,0))) {a:Act} (F:F0 a B3 B4 B5 B6 i k):
 (Rg 8).wp Tryz.prog (Exit.then (fun a1 w1=>cAll.wp Tryz.prog (fun e a' w' =>e= .ret/\GOut w0 (zJm i rs) (zI6 i rs) (gSum i k rs) (gFrm i rs) ta tb B6 ty a' w') a1 w1) (fun _ _ _=>False)) a w0:=by
 refine wp_mono (gpr8 F.s) ?_;rintro e a1 w1 ⟨rfl,hw1,h11,K1⟩;have s1:a1.tmps.size=153:=K1.2.1.trans F.s;refine wp_seq (wp_mono (gpr9 s1) ?_);rintro e a2 w2 ⟨rfl,hw2,h12,K2⟩;have K12:=K1.trans K2 (l2:=[3,4,5,6,9,10]) rfl;have s2:a2.tmps.size=153:=K2.2.1.trans s1;have z1:w1.heap.size=w0.heap.size+1:=by rw [hw1,xFd]
 have z2:w2.heap.size=w0.heap.size+2:=by rw [hw2,xFd,z1]
 have hb:Below w0.heap.size w0 w2:=by rw [hw2,hw1];exact((Below.refl _ _).alloc (Nat.le_refl _) _).alloc (by rw [xFd];omega) _
 have hM:w2.heap[w0.heap.size]? =some (.map #[] 0):=by
  rw [hw2,xGv (by omega),hw1];show(Array.push _ _)[_]? =_;rw [Array.getElem?_push,if_pos rfl]
 have hK:w2.heap[w0.heap.size+1]? =some (.cells #[] 3 (0,0)):=by
  rw [hw2];show(Array.push _ _)[_]? =_;rw [Array.getElem?_push,if_pos z1.symm]
 clear hw1 hw2;have b5:=xT4 h5;obtain⟨p,c,rfl,hrows⟩:=id hrs;refine wp_seq (wp_seq (wp_mono (vGp s2 (K12.get F.s5 rfl) ((xIL (hb.block _ b5)).trans h5)) ?_));rintro e a3 w3 ⟨rfl,hw,h55,h56,h57,K3⟩;obtain rfl:w2=w3:=hw.symm;have K13:=K12.trans K3 (l2:=[3,4,6,9,10]) rfl;rw [z1] at h12
 let blk:Tg->Nat:=fun t=>match t with | .map=>w0.heap.size|_=>w0.heap.size+1
 have hJ:J1 w0 rs B3 B4 B6 i k (.slice p rs.length c) 0 0 a3 w2:=by
  refine⟨blk,fun _=>0,0,⟨K13.1.trans F.d,K3.2.1.trans s2,K13.get F.s3 rfl,K13.get F.s4 rfl,K13.get F.s6 rfl,K13.get F.s9 rfl,K13.get F.s10 rfl,K3.get (K2.get h11 rfl) rfl,K3.get h12 rfl,h55,h56,h57⟩,?_⟩;refine⟨⟨#[],0,hM,rfl⟩,fun x hx=>by(cases hx),fun x hx=>by(cases hx),fun x hx=>by(cases hx),fun x e=>by(cases e),⟨rfl, #[],hK,Nat.le_refl _,by decide,rfl,rfl⟩,List.nodup_nil,fun t t' a b e=> ?_,fun t ht=> ?_,hb⟩
  ·cases t with
   |map=>
    cases t' with
    |map=>rfl
    |keys=>exact absurd e (by show w0.heap.size≠w0.heap.size+1;omega)
    |box x=>cases b
    |cel x=>cases b
    |frm x=>cases b.1
   |keys=>
    cases t' with
    |keys=>rfl
    |map=>exact absurd e (by show w0.heap.size+1≠w0.heap.size;omega)
    |box x=>cases b
    |cel x=>cases b
    |frm x=>cases b.1
   |box x=>cases a
   |cel x=>cases a
   |frm x=>cases a.1
  ·cases t with
   |map=>show w0.heap.size<=w0.heap.size/\w0.heap.size<_;omega
   |keys=>show w0.heap.size<=w0.heap.size+1/\w0.heap.size+1<_;omega
   |box x=>cases ht
   |cel x=>cases ht
   |frm x=>cases ht.1
 refine wp_mono (xV3 hU hlaid hrs hok hlen hJ) ?_;rintro e a4 w4 ⟨rfl,hJ4⟩;exact vGT hSo hlen h3 h4 hB6 hJ4
end
end Go.Ab
end
section
namespace Go.Ab
open Go.Proofs Go.RowKit Go.Shelf
set_option maxRecDepth 100000
def LabR(blk:Tg->Nat)(xs:List Int)(cb:Nat)(rv:Value)(b:Nat)(l:Nat×List (Nat×Nat)):Prop:=
 (b=cb/\l=(5,[]))\/(rv.ownBlock=some b/\l=(6,[]))\/∃(i:Nat) (x:Int),xs[i]? =some x/\((b=blk (.cel x)/\l=(6,[(i,0)]))\/(b=blk (.frm x)/\l=(6,[(i,1)])))
def labW(xs:List Int)(fr:Int->List Org):Nat×List (Nat×Nat)->Nat
 |(5,_)=>2
 |(_,[])=>xs.length*2
 |(_,[(_,0)])=>2
 |(_,[(i,_)])=>(fr (xs.getD i 0)).length*2
 |_=>0
section
variable [Inhabited Lb]
theorem vDE{w0 W w' :World}{ks xs:List Int}{sm:Int->Int}{fr:Int->List Org}{ta tb:ByteArray}{blk:Tg->Nat}{fc:Int->Nat}{cb:Nat}{rv:Value}(E:Env)(hEw:E.w=w0)(T:Tab w0 W ks xs sm fr ta tb blk fc cb rv)
 (hW:∀b,w0.heap.size<=b->w'.heap[b]? =W.heap[b]?) (hsz:w'.heap.size=W.heap.size) (hperm:∀x∈xs,x∈ks) (hnd:xs.Nodup):
 ∃lab hwf,(∀b b' l,lab b=some l->lab b' =some l->b=b')/\(∀b l,lab b=some l->E.w.heap.size<=b/\b<w'.heap.size)/\
  VR (E.ended w' lab hwf) zAI (.h 0) (.v true [.int .i64 5,.int .i64 0,.int .i64 0,.str [],.sl .own .val [],.sl .own .str [ta.data.toList,tb.data.toList],.sl .own .row (xs.map fun x=>(⟨[x,sm x],fr x⟩:Rowd))]) (.agg (xKh cb rv)):=by
 obtain⟨kc,G⟩:=T.rel;have lt:=T.lt;have hz0:=G.below.size;have hcs:=T.size;have lvc:∀ {i:Nat} {x:Int},xs[i]? =some x->x∈ks:=fun h=>hperm _ (List.mem_of_getElem? h);have rvb:∀ {b:Nat},rv.ownBlock=some b->cb+2<=b/\b<W.heap.size:=by
  intro b hb;rcases T.rows.2 with ⟨e,_⟩|⟨g,cap,cur,e,h2,h3,_⟩
  ·rw [e] at hb;cases hb
  ·rw [e] at hb;cases hb;exact⟨h2,(Array.getElem?_eq_some_iff.1 h3).1⟩
 have nidx:∀ {i j:Nat} {x:Int},xs[i]? =some x->xs[j]? =some x->i=j:=by
  intro i j x h1 h2;obtain⟨a1,a2⟩:=List.getElem?_eq_some_iff.1 h1;obtain⟨b1,b2⟩:=List.getElem?_eq_some_iff.1 h2;have hp:=List.pairwise_iff_getElem.1 hnd;rcases Nat.lt_trichotomy i j with h|h|h
  ·exact absurd (a2.trans b2.symm) (hp i j a1 b1 h)
  ·exact h
  ·exact absurd (b2.trans a2.symm) (hp j i b1 a1 h)
 have rng:∀ {b l},LabR blk xs cb rv b l->w0.heap.size<=b/\b<W.heap.size:=by
  intro b l h;have hm:=G.rng .map trivial;have hl:=lt .map trivial;rcases h with ⟨rfl,_⟩|⟨h,_⟩|⟨i,x,hx,⟨rfl,_⟩|⟨rfl,_⟩⟩
  ·omega
  ·have:=rvb h;omega
  ·exact G.rng (.cel x) (lvc hx)
  ·exact G.rng (.frm x) ⟨lvc hx,by simp⟩
 have cls:∀ {b l},LabR blk xs cb rv b l->(b=cb/\l=(5,[]))\/((cb+2<=b/\rv.ownBlock=some b)/\l=(6,[]))\/∃(i:Nat) (x:Int) (t:Tg),xs[i]? =some x/\Live ks none t/\b=blk t/\blk t<cb/\((t= .cel x/\l=(6,[(i,0)]))\/(t= .frm x/\l=(6,[(i,1)]))):=by
  intro b l h;rcases h with h|⟨h,e⟩|⟨i,x,hx,⟨rfl,e⟩|⟨rfl,e⟩⟩
  ·exact .inl h
  ·exact .inr (.inl ⟨⟨(rvb h).1,h⟩,e⟩)
  ·exact .inr (.inr ⟨i,x,.cel x,hx,lvc hx,rfl,lt _ (lvc hx),.inl ⟨rfl,e⟩⟩)
  ·exact .inr (.inr ⟨i,x,.frm x,hx,⟨lvc hx,by simp⟩,rfl,lt (.frm x) ⟨lvc hx,by simp⟩,.inr ⟨rfl,e⟩⟩)
 obtain⟨lab,hlab⟩:=zBA (LabR blk xs cb rv) fun b l l' h1 h2=>by
  rcases cls h1 with ⟨e1,rfl⟩|⟨⟨e1,_⟩,rfl⟩|⟨i,x,t,hx,lv,rfl,lc,q⟩ <;>rcases cls h2 with ⟨e2,rfl⟩|⟨⟨e2,_⟩,rfl⟩|⟨j,y,t',hy,lv',e,lc',q'⟩ <;>first
   |rfl
   |omega
   |skip
  have ht:=G.inj t t' lv lv' e;subst ht;rcases q with ⟨rfl,rfl⟩|⟨rfl,rfl⟩ <;>rcases q' with ⟨e',rfl⟩|⟨e',rfl⟩ <;>cases e'
  ·rw [nidx hx hy]
  ·rw [nidx hx hy]
 have linj:∀b b' l,lab b=some l->lab b' =some l->b=b' :=by
  intro b b' l h1 h2
  rcases(hlab _ _).1 h1 with ⟨rfl,rfl⟩|⟨g1,rfl⟩|⟨i,x,hx,⟨rfl,rfl⟩|⟨rfl,rfl⟩⟩ <;>rcases(hlab _ _).1 h2 with ⟨rfl,e⟩|⟨g2,e⟩|⟨j,y,hy,⟨rfl,e⟩|⟨rfl,e⟩⟩ <;>first
   |rfl
   |(cases e;done)
   |skip
  ·rw [g1] at g2;exact Option.some.inj g2
  ·cases e;rw [hx] at hy;cases hy;rfl
  ·cases e;rw [hx] at hy;cases hy;rfl
 let hwf:Nat->Nat:=fun b=>match lab b with |some l=>labW xs fr l|none=>0
 have how:∀ {b l},LabR blk xs cb rv b l->(E.ended w' lab hwf).ow b=some (.arr (.h 0) l.1 l.2)/\(E.ended w' lab hwf).hw b=labW xs fr l:=by
  intro b l h;have:=(hlab _ _).2 h;simp only [Env.ended,hwf,this];exact⟨trivial,trivial⟩
 have hww:(E.ended w' lab hwf).w=w' :=rfl;refine⟨lab,hwf,linj,fun b l h=>by rw [hEw,hsz];exact rng ((hlab _ _).1 h),⟨_,rfl,rfl,rfl,rfl,⟨⟨#[]⟩,rfl,rfl⟩,.nil none 0 _ ⟨rfl,rfl⟩,?_,?_,trivial⟩⟩
 ·obtain⟨o1,o2⟩:=how (.inl ⟨rfl,rfl⟩:LabR blk xs cb rv cb (5,[]));have hc:w'.heap[cb]? =some (.cells #[.string ta,.string tb] 9 (0,0)):=(hW cb (by have:=G.rng .map trivial;have:=lt .map trivial;omega)).trans T.col;refine .sl cb 0 2 2 1 _ (fun i _=>if i=0 then .string ta else .string tb) rfl (Nat.le_refl _) (fun r hr=> ?_) ⟨o1,o2,Nat.le_refl _,_,_,0,0,hc,rfl,fun o a b=>by omega⟩ (fun i j hi hj=> ?_) (fun i j hi hj=> ?_)
  ·obtain⟨y,_,rfl⟩:=List.mem_map.1 hr
   rfl
  ·have hj:j<1:=hj;obtain rfl:j=0:=by omega
   have:i=0\/i=1:=by omega
   rcases this with rfl|rfl
   ·exact⟨by rw [hww];simp only [World.cell?,hc];rfl,by rw [o2];show _<2;omega,o1⟩
   ·exact⟨by rw [hww];simp only [World.cell?,hc];rfl,by rw [o2];show _<2;omega,o1⟩
  ·have hi2:i<2:=hi;have:i=0\/i=1:=by omega
   rcases this with rfl|rfl
   ·have hj' :j<1:=hj;obtain rfl:j=0:=by omega
    exact .str ta
   ·have hj' :j<1:=hj;obtain rfl:j=0:=by omega
    exact .str tb
 ·rcases T.rows with ⟨hl0,⟨e,hn0⟩|⟨g,cap,cur,e,h2,h3,h4,h5,h6,h7⟩⟩
  ·have:xs=[]:=List.length_eq_zero_iff.1 hn0;subst this;rw [e];exact .nil none 0 _ ⟨rfl,rfl⟩
  ·rw [e];obtain⟨o1,o2⟩:=how (.inr (.inl ⟨by rw [e];rfl,rfl⟩):LabR blk xs cb rv g (6,[]));have hg:w'.heap[g]? =some (.cells cur 45 (0,0)):=(hW g (by have:=G.rng .map trivial;have:=lt .map trivial;omega)).trans h3;have hcur:∀(i:Nat) (x:Int),xs[i]? =some x->cur[i*2]? =some (.slice (some ⟨blk (.cel x),0,none⟩) 2 2)/\cur[i*2+1]? =some (.slice (some ⟨blk (.frm x),0,none⟩) (fr x).length (fc x)):=by
    intro i x hx;obtain⟨hi,_⟩:=List.getElem?_eq_some_iff.1 hx;have key:∀(l:List Int) (i:Nat) (x:Int),l[i]? =some x->(rowV blk fr fc l)[i*2]? =some (.slice (some ⟨blk (.cel x),0,none⟩) 2 2)/\(rowV blk fr fc l)[i*2+1]? =some (.slice (some ⟨blk (.frm x),0,none⟩) (fr x).length (fc x)):=by
     intro l
     induction l with
     |nil=>intro i x h;cases h
     |cons y l ih=>
      intro i x h;cases i with
      |zero=>
       simp at h;subst h;exact⟨rfl,rfl⟩
      |succ i=>
       have:=ih i x (by simpa using h);rw [show(i+1)*2=i*2+1+1 by omega];exact this
    obtain⟨k1,k2⟩:=key xs i x hx;rw [<-h7] at k1 k2;rw [List.getElem?_take] at k1 k2;rw [if_pos (by omega)] at k1 k2;exact⟨by simpa using k1,by simpa using k2⟩
   refine .sl g 0 xs.length cap 2 _ (fun i j=>match xs[i]? with |some x=>if j=0 then .slice (some ⟨blk (.cel x),0,none⟩) 2 2 else .slice (some ⟨blk (.frm x),0,none⟩) (fr x).length (fc x) |none=>undef) (by simp) h4 (fun r hr=> ?_) ⟨o1,o2,h4,_,_,0,0,hg,h6.symm,fun o a b=>by omega⟩ (fun i j hi hj=> ?_) (fun i j hi hj=> ?_)
   ·obtain⟨y,_,rfl⟩:=List.mem_map.1 hr
    rfl
   ·have hx:xs[i]? =some xs[i]:=List.getElem?_eq_getElem hi;have hj:j<2:=hj;obtain⟨k1,k2⟩:=hcur i _ hx;simp only [hx];refine⟨?_,by rw [o2];show 0+i*2+j<xs.length*2;omega,o1⟩;rw [hww];simp only [World.cell?,hg];have:j=0\/j=1:=by omega
    rcases this with rfl|rfl
    ·rw [show 0+i*2+0=i*2 by omega];exact k1
    ·rw [show 0+i*2+1=i*2+1 by omega];exact k2
   ·have hi' :i<xs.length:=by simpa using hi
    have hx:xs[i]? =some xs[i]:=List.getElem?_eq_getElem hi';have hm:xs[i]∈ks:=hperm _ (List.getElem_mem hi');have hr:(List.map Ty.row.toD (xs.map fun x=>(⟨[x,sm x],fr x⟩:Rowd)))[i]=Rowd.toD ⟨[xs[i],sm xs[i]],fr xs[i]⟩:=by rw [List.getElem_map,List.getElem_map];rfl
    have hj2:j<2:=by rw [hr] at hj;exact hj
    simp only [hx,hr]
    match j,hj2 with
    |0,_=>
     obtain⟨p1,p2⟩:=how (.inr (.inr ⟨i,_,hx,.inl ⟨rfl,rfl⟩⟩):LabR blk xs cb rv (blk (.cel xs[i])) (6,[(i,0)]));have rc:=G.rng (.cel xs[i]) hm;have hc:w'.heap[blk (.cel xs[i])]? =some (.cells #[.int .i64 xs[i],.int .i64 (sm xs[i])] 3 (0,0)):=(hW _ rc.1).trans (G.cel _ hm);refine .sl (blk (.cel xs[i])) 0 2 2 1 [[.int .i64 xs[i]],[.int .i64 (sm xs[i])]] (fun i' _=>if i' =0 then .int .i64 xs[i] else .int .i64 (sm xs[i])) rfl (Nat.le_refl _) (fun r hr=> ?_) ⟨p1,p2,Nat.le_refl _,_,_,0,0,hc,rfl,fun o a b=>by omega⟩ (fun i' j hi hj=> ?_) (fun i' j hi hj=> ?_)
     ·simp at hr;rcases hr with rfl|rfl <;>rfl
     ·have hj:j<1:=hj;obtain rfl:j=0:=by omega
      have:i' =0\/i' =1:=by omega
      rcases this with rfl|rfl
      ·exact⟨by rw [hww];simp only [World.cell?,hc];rfl,by rw [p2];show _<2;omega,p1⟩
      ·exact⟨by rw [hww];simp only [World.cell?,hc];rfl,by rw [p2];show _<2;omega,p1⟩
     ·have hi2:i' <2:=hi;have:i' =0\/i' =1:=by omega
      rcases this with rfl|rfl
      ·have hj' :j<1:=hj;obtain rfl:j=0:=by omega
       exact .int .i64 _
      ·have hj' :j<1:=hj;obtain rfl:j=0:=by omega
       exact .int .i64 _
    |1,_=>
     obtain⟨p1,p2⟩:=how (.inr (.inr ⟨i,_,hx,.inr ⟨rfl,rfl⟩⟩):LabR blk xs cb rv (blk (.frm xs[i])) (6,[(i,1)]));have p2:(E.ended w' lab hwf).hw (blk (.frm xs[i]))=(fr xs[i]).length*2:=by
      rw [p2];show(fr (xs.getD i 0)).length*2=_;rw [List.getD_eq_getElem?_getD,hx]
      rfl
     have rc:=G.rng (.frm xs[i]) ⟨hm,by simp⟩;have ho:=(G.frm _ hm (by simp)).kept (hW _ rc.1);have ho' :=ho;obtain⟨q1,cs,ty,lo,hi',q2,q3,q4,_⟩:=ho';exact xU1 (w:=(E.ended w' lab hwf).w) ho (fun o ho=>⟨by rw [p2];exact ho,p1⟩) ⟨p1,p2,q1,cs,ty,lo,hi',q2,q3,q4⟩
end
end Go.Ab
end
section
namespace Go.Ab
open Go.Proofs Go.RowKit Go.Shelf
set_option maxRecDepth 100000
theorem vFk:vAx:=fun blk cap zs w h1 h2 h3=>Any.sort_Ints Tryz.lays191 blk 0 cap zs w h1 h2 h3
section
variable [Inhabited Lb]
theorem vDH:xQS:=xN6
theorem vrs7{E:Env}{bxs:Nat->Prop}{pl:Pl}{c0 c1 c2 c3 c4 c5 c6:CV}{l:List Value}(h:VRs E bxs pl 0 [c0,c1,c2,c3,c4,c5,c6] l):
 ∃v0 v1 v2 v3 v4 v5 v6,l=[v0,v1,v2,v3,v4,v5,v6]/\VRc E bxs pl 3 c3 v3/\VRc E bxs pl 6 c6 v6:=by
 rcases l with _|⟨v0,l⟩
 ·exact h.elim
 obtain⟨_,h⟩:=h;rcases l with _|⟨v1,l⟩
 ·exact h.elim
 obtain⟨_,h⟩:=h;rcases l with _|⟨v2,l⟩
 ·exact h.elim
 obtain⟨_,h⟩:=h;rcases l with _|⟨v3,l⟩
 ·exact h.elim
 obtain⟨q3,h⟩:=h;rcases l with _|⟨v4,l⟩
 ·exact h.elim
 obtain⟨_,h⟩:=h;rcases l with _|⟨v5,l⟩
 ·exact h.elim
 obtain⟨_,h⟩:=h;rcases l with _|⟨v6,l⟩
 ·exact h.elim
 obtain⟨q6,h⟩:=h;rcases l with _|⟨v7,l⟩
 ·exact⟨v0,v1,v2,v3,v4,v5,v6,rfl,q3,q6⟩
 ·exact h.elim
theorem xMj{a:Act}{k:Nat}{v:Value}(hs:a.tmps.size=153)(hk:k<153)(h:a.tmps.getD k undef=v):a.tmps[k]? =some v:=by
 have hk:k<a.tmps.size:=by omega
 rw [Array.getD_eq_getD_getElem?,Array.getElem?_eq_getElem hk] at h;rw [Array.getElem?_eq_getElem hk];exact congrArg some h
theorem xTW{x9 x10:Int}{b3 b4 b5:Val}{r:Val×Bool}{I:Info}{σ:St}{c0 c1 c2 c3 c4 c5 c6:CV}(hst:stkAt 8 I.body=[.code (Rg 8),.code cAll])(hx:I.ext=[])(hl:I.lnt=[])(hn:I.nt=153)
 (g6:σ.get 6= .v false [.ptr 3 0]) (g8:σ.get 8= .v false [.ptr 4 0]) (g10:σ.get 10= .v false [.ptr 5 0]) (g12:σ.get 12= .v false [.ptr 6 0]) (g18:σ.get 18= .v false [.int .i64 x9]) (g20:σ.get 20= .v false [.int .i64 x10])
 (g7:σ.get 7= .v true [.int .i64 (Val.kind b3),.int .i64 (Val.n b3),.int .i64 (Val.step b3),.str (Val.text b3),.sl .ro .val (Val.list b3),.sl .ro .str (Val.columns b3),.sl .ro .row (Val.rows b3)])
 (g9:σ.get 9= .v true [.int .i64 (Val.kind b4),.int .i64 (Val.n b4),.int .i64 (Val.step b4),.str (Val.text b4),.sl .ro .val (Val.list b4),.sl .ro .str (Val.columns b4),.sl .ro .row (Val.rows b4)])
 (g11:σ.get 11= .v true [.int .i64 (Val.kind b5),.int .i64 (Val.n b5),.int .i64 (Val.step b5),.str (Val.text b5),.sl .ro .val (Val.list b5),.sl .ro .str (Val.columns b5),.sl .ro .row (Val.rows b5)])
 (g13:σ.get 13= .v true [c0,c1,c2,c3,c4,c5,c6])
 (h:zJt x9 x10 b3 b4 b5=some r):Reach Tryz.prog Tryz.f28 I (stkAt 8 I.body) σ (xBu r):=by
 unfold zJt at h;split at h
 case isFalse=>cases h
 rename_i hc;obtain⟨hi0,hk0,hall,hlen⟩:=hc;obtain⟨i,rfl⟩:∃i:Nat,x9=i:=⟨x9.toNat,by omega⟩;obtain⟨k,rfl⟩:∃k:Nat,x10=k:=⟨x10.toNat,by omega⟩;rw [Int.toNat_natCast,Int.toNat_natCast] at h hall;have hok:∀r∈Val.rows b5,RowOk i k r:=fun r hr=>by
  have:=List.all_eq_true.1 hall r hr;simp only [zJa,Bool.and_eq_true,decide_eq_true_eq] at this;exact⟨this.1.1,this.1.2,this.2⟩
 rw [hst];refine Reach.tail fun C hP hnt hext a w hR=> ?_;obtain⟨hd,E,rfl,hi⟩:=hR;have hs:a.tmps.size=153:=hi.nt.trans (hnt.trans hn);have t3:=hi.tmp 3;rw [show 2*3=6 from rfl,g6] at t3;have t4:=hi.tmp 4;rw [show 2*4=8 from rfl,g8] at t4;have t5:=hi.tmp 5;rw [show 2*5=10 from rfl,g10] at t5;have t6:=hi.tmp 6;rw [show 2*6=12 from rfl,g12] at t6;have t9:=hi.tmp 9;rw [show 2*9=18 from rfl,g18] at t9;have t10:=hi.tmp 10;rw [show 2*10=20 from rfl,g20] at t10;obtain⟨⟨e3,_⟩,_⟩:=t3;obtain⟨⟨e4,_⟩,_⟩:=t4;obtain⟨⟨e5,_⟩,_⟩:=t5;obtain⟨⟨e6,_⟩,_⟩:=t6;obtain⟨e9,_⟩:=t9;obtain⟨e10,_⟩:=t10;obtain⟨o3,vals3,ty3,hb3,hv3⟩:=hi.box 3 _ g7;obtain⟨o4,vals4,ty4,hb4,hv4⟩:=hi.box 4 _ g9;obtain⟨o5,vals5,ty5,hb5,hv5⟩:=hi.box 5 _ g11;obtain⟨o6,vals6,ty6,hb6,hv6⟩:=hi.box 6 _ g13;obtain⟨_,_,_,v3,_,_,_,l3,⟨ta,rfl,hta⟩,_⟩:=vrs7 hv3;obtain⟨_,_,_,v4,_,_,_,l4,⟨tb,rfl,htb⟩,_⟩:=vrs7 hv4;obtain⟨_,_,_,_,_,_,v5,l5,_,hrow⟩:=vrs7 hv5;obtain⟨u0,u1,u2,u3,u4,u5,u6,l6,_,_⟩:=vrs7 hv6;have hB6:E.w.heap[E.bx 6]? =some (.cells #[u0,u1,u2,u3,u4,u5,u6] ty6 (0,0)):=by rw [hb6,show vals6= #[u0,u1,u2,u3,u4,u5,u6] from Array.ext' l6]
 have k3:E.w.cell? ⟨E.bx 3,3,none⟩=some (.string ta):=by
  have:vals3[3]? =some (.string ta):=by rw [<-Array.getElem?_toList,l3];rfl
  simp only [World.cell?,hb3];exact this
 have k4:E.w.cell? ⟨E.bx 4,3,none⟩=some (.string tb):=by
  have:vals4[3]? =some (.string tb):=by rw [<-Array.getElem?_toList,l4];rfl
  simp only [World.cell?,hb4];exact this
 have k5:E.w.cell? ⟨E.bx 5,6,none⟩=some v5:=by
  have:vals5[6]? =some v5:=by rw [<-Array.getElem?_toList,l5];rfl
  simp only [World.cell?,hb5];exact this
 have hlaid:∀x∈zH7,x.1<E.w.heap.size/\E.w.heap[x.1]? =some x.2:=fun x hx=>by
  obtain⟨b1,b2,b3,_⟩:=hi.base x hx;exact⟨Nat.lt_of_lt_of_le b1 hi.size,(hi.old x.1 b1 b2).1.trans b3⟩
 have hrs:xQK E.w v5 (Val.rows b5):=xVG hrow;have W:=vDJ vDH vFk hlaid hrs hok hlen k3 k4 k5 hB6 (a:=a) ⟨hd,hs,xMj hs (by decide) e3,xMj hs (by decide) e4,xMj hs (by decide) e5,xMj hs (by decide) e6,xMj hs (by decide) e9,xMj hs (by decide) e10⟩;have hex:∀s b,C.ext s=some b->False:=fun s b hb=>by have:=hext s b hb;rw [hx] at this;simp at this
 have hB6l:E.bx 6<E.w.heap.size:=(Array.getElem?_eq_some_iff.1 hB6).1;refine wp_mono W ?_;intro e a1 w1 h1;cases e with
 |normal=>
  refine wp_mono h1 ?_;rintro e a' w' ⟨rfl,d1,d2,d3,Wd,hbel,hcase⟩;refine⟨rfl,?_⟩;have d3' :a'.tmps.getD 6 undef= .pointer (some ⟨E.bx 6,0,none⟩):=xPa d3;rcases hcase with ⟨hall,hC⟩|⟨hall,blk,fc,cb,rv,hC,T⟩
  ·rw [if_neg (by rw [hall];simp)] at h;cases h;have hz:=hbel.size;refine vES (B6:=E.bx 6) (lab:=fun _=>none) (hwf:=fun _=>0) hi hex hx hl (by rw [o6];simp) ⟨hC.os.trans hbel.os,hC.tape.trans hbel.tape,hC.output.trans hbel.output⟩ (by rw [hC.size];exact hz) (fun b hb hne=>(hC.other b hne).trans (hbel.block b hb)) d1 (d2.trans (hn.symm.trans hnt.symm)) (fun b b' l h=>by cases h) (fun b l h=>by cases h) (v:= .agg xSY) rfl ?_ ?_
   ·exact⟨_,rfl,rfl,rfl,rfl,⟨⟨#[]⟩,rfl,rfl⟩,.nil none 0 _ ⟨rfl,rfl⟩,.nil none 0 _ ⟨rfl,rfl⟩,.nil none 0 _ ⟨rfl,rfl⟩,trivial⟩
   ·rw [hP];exact xQy rfl d3' hC.at'
  ·rw [if_pos hall] at h;cases h;have hz:=hbel.size;obtain⟨rp,rc,rfl⟩:=xMC T.rows;have hperm:∀x∈zI6 i (Val.rows b5),x∈zJm i (Val.rows b5):=fun x hx=>List.mem_mergeSort.1 hx;obtain⟨kc,G⟩:=T.rel;have hnd:(zI6 i (Val.rows b5)).Nodup:=(List.mergeSort_perm _ _).nodup_iff.2 G.nodup;obtain⟨lab,hwf,j1,j2,j3⟩:=vDE E rfl T (w' :=w') (fun b hb=>hC.other b (by omega)) hC.size hperm hnd;rw [hta,htb] at j3;refine vES (B6:=E.bx 6) (lab:=lab) (hwf:=hwf) hi hex hx hl (by rw [o6];simp) ⟨hC.os.trans hbel.os,hC.tape.trans hbel.tape,hC.output.trans hbel.output⟩ (by rw [hC.size];exact hz) (fun b hb hne=>(hC.other b hne).trans (hbel.block b hb)) d1 (d2.trans (hn.symm.trans hnt.symm)) j1 j2 rfl j3 ?_;rw [hP];exact xQy rfl d3' hC.at'
 |exit id=>exact h1.elim
 |goto l=>exact h1.elim
 |ret=>exact h1.elim
 |panic c=>exact h1.elim
 |outgrown=>exact h1.elim
end
end Go.Ab
end
section
open Go.Proofs
namespace Go.Ab.T
set_option maxRecDepth 100000
variable [Inhabited Lb]
noncomputable def I120:Info:= { body:=(Tryz.f120.body).getD .skip,nt:=15,results:=[.tmp 6],keep:=[0,2,4,12],live:=[],modes:=[(1,[(3,.take,false)])] }
theorem vAE:FnOk Tryz.prog 120 Tryz.f120 I120:=by refine⟨Tryz.func120,?_,?_,?_,?_⟩<;>kernel_rfl
def xXa(a0 a1 a2):rE I120 (xFN a0 a1 a2) [Y] []=dn (xDQ (dc (a0<=a2))) [iY (dc (a0>=a1))]:=by kernel_rfl
def xXb(a0 a1 a2):rE I120 (xFN a0 a1 a2) [F] []=dn (xDQ false) [iN (dc (a0>=a1))]:=by kernel_rfl
theorem vD9{N:Nat}:∀a0 a1 a2 r,xI6 N a0 a1 a2=some r->RE Tryz.f120 I120 (xFN a0 a1 a2) (xDQ r):=fun a0 a1 a2 r h=>cE h (fun h0 h=>dE h vAE (xXa a0 a1 a2) (oc h0 on)) fun h0 h=>dE h vAE (xXb a0 a1 a2) (oc h0 on)
theorem xJp{N:Nat}{a0:Int}{a1:Int}{a2:Int}{r:Bool}(h:xI6 N  a0 a1 a2=some r):AbC 120 (xFN a0 a1 a2) (xDQ r):=
 AbsCalls.of_reach vAE rfl rfl rfl (jL rfl) (vD9 a0 a1 a2 r h)
noncomputable def I80:Info:= { body:=(Tryz.f80.body).getD .skip,nt:=5,results:=[.tmp 2],keep:=[0,4],live:=[],modes:=[] }
theorem fk80:FnOk Tryz.prog 80 Tryz.f80 I80:=by refine⟨Tryz.func80,?_,?_,?_,?_⟩<;>kernel_rfl
def vCT(a0 r1):rE I80 (xCC a0) [] [xDQ r1]=dn (xBg r1) [AbC 120 (xFN a0 (-1000000000) 1000000000) (xDQ r1)]:=by kernel_rfl
theorem vF5{N:Nat}:∀a0 r,xEy N a0=some r->RE Tryz.f80 I80 (xCC a0) (xBg r):=fun a0 r h=>bE h fun r1 h0 h=>dE h fk80 (vCT a0 r1) (oc (xJp h0) on)
theorem xDR{N:Nat}{a0:Int}{r:Bool}(h:xEy N  a0=some r):AbC 80 (xCC a0) (xBg r):=
 AbsCalls.of_reach fk80 rfl rfl rfl (jL rfl) (vF5 a0 r h)
noncomputable def I117:Info:= { body:=(Tryz.f117.body).getD .skip,nt:=29,results:=[.tmp 2],keep:=[0,4,6,14,50],live:=[(2,[0,6])],modes:=[(4,[(4,.take,false),(10,.take,false)])] }
theorem xSf:FnOk Tryz.prog 117 Tryz.f117 I117:=by refine⟨Tryz.func117,?_,?_,?_,?_⟩<;>kernel_rfl
def xMM(x0:Str)(x3:Int):St:=[(0,.v false [.str x0]),(6,.v false [.int .i64 x3])]
abbrev xFr(v0:Int)(v1:Str):Prop:=iY (dc (v0<(Ln v1:Int)))
abbrev xBo(v0:Int)(v1:Str):Prop:=(0:Int)<=v0/\v0<(Ln v1)
abbrev xSq(v0:Str)(v1:Int):=dc ((((gD v0 (tN v1) 0).toNat:Int):Int)<32)
def xWR(x0 x3):rS 2 I117 (xMM x0 x3) [Y,Y,Y,Y] []=dn (xCy false) [xFr x3 x0,xBo x3 x0,iY (xSq x0 x3),iY true,iY true]:=by kernel_rfl
abbrev xOS(v0:Str)(v1:Int):Prop:=iN (xSq v0 v1)
abbrev xSr(v0:Str)(v1:Int):=dc ((((gD v0 (tN v1) 0).toNat:Int):Int)>126)
def xWS(x0 x3):rS 2 I117 (xMM x0 x3) [Y,F,Y,Y] []=dn (xCy false) [xFr x3 x0,xBo x3 x0,xOS x0 x3,xBo x3 x0,iY (xSr x0 x3),iY true]:=by kernel_rfl
abbrev xS9(v0:Str)(v1:Int):Prop:=iN (xSr v0 v1)
abbrev xPs(v0:Str)(v1:Int):=(((gD v0 (tN v1) 0).toNat:Int):Int)==34
def xWT(x0 x3):rS 2 I117 (xMM x0 x3) [Y,F,F,Y] []=dn (xCy false) [xFr x3 x0,xBo x3 x0,xOS x0 x3,xBo x3 x0,xS9 x0 x3,xBo x3 x0,iY (xPs x0 x3)]:=by kernel_rfl
def xWU(x0 x3):rS 2 I117 (xMM x0 x3) [Y,F,F,F] []=st 2 I117 (xMM x0 (W (x3+1))) [xFr x3 x0,xBo x3 x0,xOS x0 x3,xBo x3 x0,xS9 x0 x3,xBo x3 x0,iN (xPs x0 x3)]:=by kernel_rfl
def xWV(x0 x3):rS 2 I117 (xMM x0 x3) [F] []=dn (xCy (dc ((Ln x0:Int)<=20))) [iN (dc (x3<(Ln x0:Int)))]:=by kernel_rfl
def xWW(a0):rE I117 (xF0 a0) [] []=st 2 I117 (xMM a0 0) []:=by kernel_rfl
theorem vD3{N:Nat}:∀n x0 x3 r,xCQ N n x0 x3=some r->RS Tryz.f117 I117 2 (xMM x0 x3) (xCy r):=by
 intro n
 induction n with
 |zero=>exact fun _ _ _ h=>nE h
 |succ n ih=>
  exact fun x0 x3 r h=>cE h (fun h0 h=>iE h fun h1 h=>cE h (fun h2 h=>dS h xSf (xWR x0 x3) (oc5 h0 h1 h2 rfl rfl on)) fun h2 h=>cE h (fun h4 h=>dS h xSf (xWS x0 x3) (oc6 h0 h1 h2 h1 h4 rfl on)) fun h4 h=>cE h (fun h6 h=>dS h xSf (xWT x0 x3) (oc7 h0 h1 h2 h1 h4 h1 h6 on)) fun h6 h=>tS xSf (xWU x0 x3) (oc7 h0 h1 h2 h1 h4 h1 h6 on) (ih _ _ _ h)) fun h0 h=>dS h xSf (xWV x0 x3) (oc h0 on)
theorem vD4{N:Nat}:∀a0 r,xHe N a0=some r->RE Tryz.f117 I117 (xF0 a0) (xCy r):=fun a0 r h=>tE xSf (xWW a0) on (vD3 _ _ _ _ h)
theorem xLC{N:Nat}{a0:Str}{r:Bool}(h:xHe N  a0=some r):AbC 117 (xF0 a0) (xCy r):=
 AbsCalls.of_reach xSf rfl rfl rfl (jL rfl) (vD4 a0 r h)
noncomputable def I158:Info:= { body:=(Tryz.f158.body).getD .skip,nt:=16,results:=[.tmp 2],keep:=[0,2,4,3],live:=[],modes:=[(1,[(3,.take,false),(8,.take,false)])] }
theorem xVW:FnOk Tryz.prog 158 Tryz.f158 I158:=by refine⟨Tryz.func158,?_,?_,?_,?_⟩<;>kernel_rfl
abbrev xMV(v0:Val):Prop:=iY (v0.kind==1)
def xXF(a0):rE I158 (xDt a0) [Y,Y] []=dn (xCn true) [xMV a0,iY true]:=by kernel_rfl
abbrev xCL(v0:Val):Prop:=iN (v0.kind==1)
abbrev xLW(v0:Val):Prop:=iY (v0.kind==2)
def xXG(a0):rE I158 (xDt a0) [F,Y] []=dn (xCn true) [xCL a0,xLW a0]:=by kernel_rfl
abbrev xDy(v0:Val):Prop:=iN (v0.kind==2)
def xXH(a0):rE I158 (xDt a0) [F,F] []=dn (xCn (a0.kind==3)) [xCL a0,xDy a0]:=by kernel_rfl
theorem vEp{N:Nat}:∀a0 r,xIb N a0=some r->RE Tryz.f158 I158 (xDt a0) (xCn r):=fun a0 r h=>cE h (fun h0 h=>dE h xVW (xXF a0) (oc2 h0 rfl on)) fun h0 h=>cE h (fun h1 h=>dE h xVW (xXG a0) (oc2 h0 h1 on)) fun h1 h=>dE h xVW (xXH a0) (oc2 h0 h1 on)
theorem xH3{N:Nat}{a0:Val}{r:Bool}(h:xIb N  a0=some r):AbC 158 (xDt a0) (xCn r):=
 AbsCalls.of_reach xVW rfl rfl rfl (jL rfl) (vEp a0 r h)
noncomputable def I173:Info:= { body:=(Tryz.f173.body).getD .skip,nt:=10,results:=[.tmp 4],keep:=[0,2,8,14],live:=[],modes:=[] }
theorem vAH:FnOk Tryz.prog 173 Tryz.f173 I173:=by refine⟨Tryz.func173,?_,?_,?_,?_⟩<;>kernel_rfl
def xX7(a0 a1):rE I173 (xHC a0 a1) [Y] []=dn (xGP a0) [iY (dc (a0>a1))]:=by kernel_rfl
def xX8(a0 a1):rE I173 (xHC a0 a1) [F] []=dn (xGP a1) [iN (dc (a0>a1))]:=by kernel_rfl
theorem vEB{N:Nat}:∀a0 a1 r,xJW N a0 a1=some r->RE Tryz.f173 I173 (xHC a0 a1) (xGP r):=fun a0 a1 r h=>cE h (fun h0 h=>dE h vAH (xX7 a0 a1) (oc h0 on)) fun h0 h=>dE h vAH (xX8 a0 a1) (oc h0 on)
theorem xQE{N:Nat}{a0:Int}{a1:Int}{r:Int}(h:xJW N  a0 a1=some r):AbC 173 (xHC a0 a1) (xGP r):=
 AbsCalls.of_reach vAH rfl rfl rfl (jL rfl) (vEB a0 a1 r h)
def G159(q:Val->Option (Int)):Prop:=∀a0 r,q a0=some r->AbC 159 (xE2 a0) (xC9 r)
noncomputable def I159:Info:= { body:=(Tryz.f159.body).getD .skip,nt:=22,results:=[.tmp 2],keep:=[0,2,4,6,8,18,3],live:=[(3,[2,6,8,3])],modes:=[] }
theorem xVX:FnOk Tryz.prog 159 Tryz.f159 I159:=by refine⟨Tryz.func159,?_,?_,?_,?_⟩<;>kernel_rfl
def xQP(x3 x4:Int)(b1:Val):St:=[(2,.v false [.ptr 1 0]),(6,.v false [.int .i64 x3]),(8,.v false [.int .i64 x4]),(3,.v true (Va .ro b1))]
abbrev xIV(v0:Val):=(Ln v0.list:Int)
abbrev xOT(v0:Int)(v1:Val):Prop:=iY (dc (v0<(xIV v1)))
abbrev xLa(v0:Int)(v1:Val):Prop:=(0:Int)<=v0/\v0<(Ln v1.list)
abbrev xJx(v0:Val)(v1:Int):=gD v0.list (tN v1) vd
def xXI(x3 x4 b1 r1 r2):rS 3 I159 (xQP x3 x4 b1) [Y] [xC9 r1,xGP r2]=st 3 I159 (xQP r2 (W (x4+1)) b1) [xOT x4 b1,xLa x4 b1,AbC 159 (xE2 (xJx b1 x4)) (xC9 r1),AbC 173 (xHC x3 r1) (xGP r2)]:=by kernel_rfl
abbrev xTa(v0:Int)(v1:Val):Prop:=iN (dc (v0<(xIV v1)))
def xXJ(x3 x4 b1):rS 3 I159 (xQP x3 x4 b1) [F] []=dn (xC9 (W (x3+1))) [xTa x4 b1]:=by kernel_rfl
def xXK(a0):rE I159 (xE2 a0) [] []=st 3 I159 (xQP 0 0 a0) []:=by kernel_rfl
theorem vEq{N q0}(g0:G159 q0):∀n x3 x4 b1 r,xFF N q0 n x3 x4 b1=some r->RS Tryz.f159 I159 3 (xQP x3 x4 b1) (xC9 r):=by
 intro n
 induction n with
 |zero=>exact fun _ _ _ _ h=>nE h
 |succ n ih=>
  exact fun x3 x4 b1 r h=>cE h (fun h0 h=>iE h fun h1 h=>bE h fun r1 h2 h=>bE h fun r2 h3 h=>tS xVX (xXI x3 x4 b1 r1 r2) (oc4 h0 h1 (g0 _ _ h2) (xQE h3) on) (ih _ _ _ _ h)) fun h0 h=>dS h xVX (xXJ x3 x4 b1) (oc h0 on)
theorem vEr{N q0}(g0:G159 q0):∀a0 r,xHY N q0 a0=some r->RE Tryz.f159 I159 (xE2 a0) (xC9 r):=fun a0 r h=>tE xVX (xXK a0) on (vEq g0 _ _ _ _ _ h)
theorem xK4{N q0}(g0:G159 q0){a0}{r}(h:xHY N q0 a0=some r):AbC 159 (xE2 a0) (xC9 r):=
 AbsCalls.of_reach xVX rfl rfl rfl (jL rfl) (vEr g0 a0 r h)
theorem xI3{N:Nat}:∀d,G159 (xEq N d)
 |0=>fun _ _ h=>nE h
 |d+1=>fun _ _ h=>xK4 (N:=N) (xI3 d) h
theorem xNU{N:Nat}{a0:Val}{r:Int}(h:xJn N a0=some r):AbC 159 (xE2 a0) (xC9 r):=xI3 N _ r h
noncomputable def I187:Info:= { body:=(Tryz.f187.body).getD .skip,nt:=45,results:=[.tmp 2],keep:=[0,4,6,8,10,18,82],live:=[(2,[0,6])],modes:=[(4,[(4,.take,false)]),(5,[(4,.take,false)]),(6,[(0,.take,false),(2,.take,false),(5,.take,false),(6,.take,false)])] }
theorem xLj:FnOk Tryz.prog 187 Tryz.f187 I187:=by refine⟨Tryz.func187,?_,?_,?_,?_⟩<;>kernel_rfl
def xHt(x0:Str)(x3:Int):St:=[(0,.v false [.str x0]),(6,.v false [.int .i64 x3])]
abbrev xMw(v0:Str)(v1:Int):=(((gD v0 (tN v1) 0).toNat:Int):Int)
abbrev xKp(v0:Str)(v1:Int):Prop:=iY (dc ((xMw v0 v1)>=97))
abbrev xNJ(v0:Str)(v1:Int):Prop:=iY (dc ((xMw v0 v1)>=48))
abbrev xLX(v0:Str)(v1:Int):Prop:=iY (!(dc ((xMw v0 v1)<=122)))
def xYu(x0 x3):rS 2 I187 (xHt x0 x3) [Y,Y,Y,Y,Y,Y] []=dn (xBD false) [xFr x3 x0,xBo x3 x0,xKp x0 x3,xBo x3 x0,xBo x3 x0,xNJ x0 x3,xBo x3 x0,xLX x0 x3,iY (x3==0),iY true]:=by kernel_rfl
abbrev xPt(v0:Str)(v1:Int):=dc ((((gD v0 (tN v1) 0).toNat:Int):Int)<=57)
def xYv(x0 x3):rS 2 I187 (xHt x0 x3) [Y,Y,Y,Y,F,Y] []=dn (xBD false) [xFr x3 x0,xBo x3 x0,xKp x0 x3,xBo x3 x0,xBo x3 x0,xNJ x0 x3,xBo x3 x0,xLX x0 x3,xIW x3,iY (!(xPt x0 x3))]:=by kernel_rfl
def xYw(x0 x3):rS 2 I187 (xHt x0 x3) [Y,Y,Y,Y,F,F] []=st 2 I187 (xHt x0 (W (x3+1))) [xFr x3 x0,xBo x3 x0,xKp x0 x3,xBo x3 x0,xBo x3 x0,xNJ x0 x3,xBo x3 x0,xLX x0 x3,xIW x3,iN (!(xPt x0 x3))]:=by kernel_rfl
abbrev xUS(v0:Str)(v1:Int):Prop:=iN (!(dc ((xMw v0 v1)<=122)))
def xYx(x0 x3):rS 2 I187 (xHt x0 x3) [Y,Y,Y,F,F] []=st 2 I187 (xHt x0 (W (x3+1))) [xFr x3 x0,xBo x3 x0,xKp x0 x3,xBo x3 x0,xBo x3 x0,xNJ x0 x3,xBo x3 x0,xUS x0 x3,iN false]:=by kernel_rfl
abbrev xQ9(v0:Str)(v1:Int):Prop:=iN (dc ((xMw v0 v1)>=48))
def xYy(x0 x3):rS 2 I187 (xHt x0 x3) [Y,Y,F,Y,Y,Y] []=dn (xBD false) [xFr x3 x0,xBo x3 x0,xKp x0 x3,xBo x3 x0,xBo x3 x0,xQ9 x0 x3,xLX x0 x3,iY (x3==0),iY true]:=by kernel_rfl
def xYz(x0 x3):rS 2 I187 (xHt x0 x3) [Y,Y,F,Y,F,Y] []=dn (xBD false) [xFr x3 x0,xBo x3 x0,xKp x0 x3,xBo x3 x0,xBo x3 x0,xQ9 x0 x3,xLX x0 x3,xIW x3,iY (!false)]:=by kernel_rfl
def xYA(x0 x3):rS 2 I187 (xHt x0 x3) [Y,Y,F,F,F] []=st 2 I187 (xHt x0 (W (x3+1))) [xFr x3 x0,xBo x3 x0,xKp x0 x3,xBo x3 x0,xBo x3 x0,xQ9 x0 x3,xUS x0 x3,iN false]:=by kernel_rfl
abbrev xLY(v0:Str)(v1:Int):Prop:=iN (dc ((xMw v0 v1)>=97))
def xYB(x0 x3):rS 2 I187 (xHt x0 x3) [Y,F,Y,Y,Y,Y] []=dn (xBD false) [xFr x3 x0,xBo x3 x0,xLY x0 x3,xBo x3 x0,xNJ x0 x3,xBo x3 x0,iY (!false),iY (x3==0),iY true]:=by kernel_rfl
def xYC(x0 x3):rS 2 I187 (xHt x0 x3) [Y,F,Y,Y,F,Y] []=dn (xBD false) [xFr x3 x0,xBo x3 x0,xLY x0 x3,xBo x3 x0,xNJ x0 x3,xBo x3 x0,iY (!false),xIW x3,iY (!(xPt x0 x3))]:=by kernel_rfl
def xYD(x0 x3):rS 2 I187 (xHt x0 x3) [Y,F,Y,Y,F,F] []=st 2 I187 (xHt x0 (W (x3+1))) [xFr x3 x0,xBo x3 x0,xLY x0 x3,xBo x3 x0,xNJ x0 x3,xBo x3 x0,iY (!false),xIW x3,iN (!(xPt x0 x3))]:=by kernel_rfl
def xVh(x0 x3):rS 2 I187 (xHt x0 x3) [Y,F,F,Y,Y,Y] []=dn (xBD false) [xFr x3 x0,xBo x3 x0,xLY x0 x3,xBo x3 x0,xQ9 x0 x3,iY (!false),iY (x3==0),iY true]:=by kernel_rfl
def xVi(x0 x3):rS 2 I187 (xHt x0 x3) [Y,F,F,Y,F,Y] []=dn (xBD false) [xFr x3 x0,xBo x3 x0,xLY x0 x3,xBo x3 x0,xQ9 x0 x3,iY (!false),xIW x3,iY (!false)]:=by kernel_rfl
def xVj(x0 x3):rS 2 I187 (xHt x0 x3) [F] []=dn (xBD (dc ((Ln x0:Int)>0))) [iN (dc (x3<(Ln x0:Int)))]:=by kernel_rfl
def xVk(a0):rE I187 (xFH a0) [] []=st 2 I187 (xHt a0 0) []:=by kernel_rfl
theorem vEG{N:Nat}:∀n x0 x3 r,xDc N n x0 x3=some r->RS Tryz.f187 I187 2 (xHt x0 x3) (xBD r):=by
 intro n
 induction n with
 |zero=>exact fun _ _ _ h=>nE h
 |succ n ih=>
  exact fun x0 x3 r h=>cE h (fun h0 h=>iE h fun h1 h=>cE h (fun h2 h=>cE h (fun h5 h=>cE h (fun h7 h=>cE h (fun h8 h=>dS h xLj (xYu x0 x3) (oc10 h0 h1 h2 h1 h1 h5 h1 h7 h8 rfl on)) fun h8 h=>cE h (fun h9 h=>dS h xLj (xYv x0 x3) (oc10 h0 h1 h2 h1 h1 h5 h1 h7 h8 h9 on)) fun h9 h=>tS xLj (xYw x0 x3) (oc10 h0 h1 h2 h1 h1 h5 h1 h7 h8 h9 on) (ih _ _ _ h)) fun h7 h=>tS xLj (xYx x0 x3) (oc9 h0 h1 h2 h1 h1 h5 h1 h7 rfl on) (ih _ _ _ h)) fun h5 h=>cE h (fun h6 h=>cE h (fun h7 h=>dS h xLj (xYy x0 x3) (oc9 h0 h1 h2 h1 h1 h5 h6 h7 rfl on)) fun h7 h=>dS h xLj (xYz x0 x3) (oc9 h0 h1 h2 h1 h1 h5 h6 h7 rfl on)) fun h6 h=>tS xLj (xYA x0 x3) (oc8 h0 h1 h2 h1 h1 h5 h6 rfl on) (ih _ _ _ h)) fun h2 h=>cE h (fun h4 h=>cE h (fun h7 h=>dS h xLj (xYB x0 x3) (oc9 h0 h1 h2 h1 h4 h1 rfl h7 rfl on)) fun h7 h=>cE h (fun h8 h=>dS h xLj (xYC x0 x3) (oc9 h0 h1 h2 h1 h4 h1 rfl h7 h8 on)) fun h8 h=>tS xLj (xYD x0 x3) (oc9 h0 h1 h2 h1 h4 h1 rfl h7 h8 on) (ih _ _ _ h)) fun h4 h=>cE h (fun h6 h=>dS h xLj (xVh x0 x3) (oc8 h0 h1 h2 h1 h4 rfl h6 rfl on)) fun h6 h=>dS h xLj (xVi x0 x3) (oc8 h0 h1 h2 h1 h4 rfl h6 rfl on)) fun h0 h=>dS h xLj (xVj x0 x3) (oc h0 on)
theorem vEH{N:Nat}:∀a0 r,xJq N a0=some r->RE Tryz.f187 I187 (xFH a0) (xBD r):=fun a0 r h=>tE xLj (xVk a0) on (vEG _ _ _ _ h)
theorem xI8{N:Nat}{a0:Str}{r:Bool}(h:xJq N  a0=some r):AbC 187 (xFH a0) (xBD r):=
 AbsCalls.of_reach xLj rfl rfl rfl (jL rfl) (vEH a0 r h)
noncomputable def I196:Info:= { body:=(Tryz.f196.body).getD .skip,nt:=2,results:=[.tmp 0],keep:=[0],live:=[],modes:=[] }
theorem vE0:FnOk Tryz.prog 196 Tryz.f196 I196:=by refine⟨Tryz.func196,?_,?_,?_,?_⟩<;>kernel_rfl
def xYP:rE I196 (xGs ) [] []=dn (xFu [[108,101,116],[105,110],[105,102],[116,104,101,110],[101,108,115,101],[102,111,114],[100,111],[108,101,110],[115,117,109],[116,97,107,101],[115,107,105,112],[114,97,110,103,101],[110,116,104],[119,104,101,114,101],[107,101,101,112],[97,100,100],[103,114,111,117,112],[106,111,105,110],[99,111,108,117,109,110],[114,111,119,115],[99,108,111,99,107],[99,104,97,110,99,101],[102,105,108,101],[116,97,98,108,101]]) []:=by kernel_rfl
theorem vEK{N:Nat}:∀r,xHE N=some r->RE Tryz.f196 I196 (xGs ) (xFu r):=fun r h=>dE h vE0 (xYP) on
theorem xL8{N:Nat}{r:(List Str)}(h:xHE N   =some r):AbC 196 (xGs ) (xFu r):=
 AbsCalls.of_reach vE0 rfl rfl rfl (jL rfl) (vEK  r h)
noncomputable def I86:Info:= { body:=(Tryz.f86.body).getD .skip,nt:=18,results:=[.tmp 4],keep:=[0,2,8,10,18,34],live:=[(2,[0,2,10])],modes:=[] }
theorem fk86:FnOk Tryz.prog 86 Tryz.f86 I86:=by refine⟨Tryz.func86,?_,?_,?_,?_⟩<;>kernel_rfl
def xTv(x0:List Str)(x1:Str)(x5:Int):St:=[(0,.v false [.sl .ro .str x0]),(2,.v false [.str x1]),(10,.v false [.int .i64 x5])]
abbrev xLb(v0:Int)(v1:List Str):Prop:=iY (dc (v0<(Ln v1:Int)))
abbrev xHH(v0:Int)(v1:List Str):Prop:=(0:Int)<=v0/\v0<(Ln v1)
abbrev xMx(v0:List Str)(v1:Int)(v2:Str):=((gD v0 (tN v1) Ty.str.dflt):Str)==v2
def vC5(x0 x1 x5):rS 2 I86 (xTv x0 x1 x5) [Y,Y] []=dn (xDC true) [xLb x5 x0,xHH x5 x0,iY (xMx x0 x5 x1)]:=by kernel_rfl
def vC6(x0 x1 x5):rS 2 I86 (xTv x0 x1 x5) [Y,F] []=st 2 I86 (xTv x0 x1 (W (x5+1))) [xLb x5 x0,xHH x5 x0,iN (xMx x0 x5 x1)]:=by kernel_rfl
abbrev xOU(v0:Int)(v1:List Str):Prop:=iN (dc (v0<(Ln v1:Int)))
def vC7(x0 x1 x5):rS 2 I86 (xTv x0 x1 x5) [F] []=dn (xDC false) [xOU x5 x0]:=by kernel_rfl
def vC8(a0 a1):rE I86 (xGO a0 a1) [] []=st 2 I86 (xTv a0 a1 0) []:=by kernel_rfl
theorem vGc{N:Nat}:∀n x0 x1 x5 r,xF4 N n x0 x1 x5=some r->RS Tryz.f86 I86 2 (xTv x0 x1 x5) (xDC r):=by
 intro n
 induction n with
 |zero=>exact fun _ _ _ _ h=>nE h
 |succ n ih=>
  exact fun x0 x1 x5 r h=>cE h (fun h0 h=>iE h fun h1 h=>cE h (fun h2 h=>dS h fk86 (vC5 x0 x1 x5) (oc3 h0 h1 h2 on)) fun h2 h=>tS fk86 (vC6 x0 x1 x5) (oc3 h0 h1 h2 on) (ih _ _ _ _ h)) fun h0 h=>dS h fk86 (vC7 x0 x1 x5) (oc h0 on)
theorem vGd{N:Nat}:∀a0 a1 r,xJV N a0 a1=some r->RE Tryz.f86 I86 (xGO a0 a1) (xDC r):=fun a0 a1 r h=>tE fk86 (vC8 a0 a1) on (vGc _ _ _ _ _ h)
theorem xKd{N:Nat}{a0:List Str}{a1:Str}{r:Bool}(h:xJV N  a0 a1=some r):AbC 86 (xGO a0 a1) (xDC r):=
 AbsCalls.of_reach fk86 rfl rfl rfl (jL rfl) (vGd a0 a1 r h)
noncomputable def I188:Info:= { body:=(Tryz.f188.body).getD .skip,nt:=6,results:=[.tmp 2],keep:=[0,4],live:=[],modes:=[] }
theorem vEZ:FnOk Tryz.prog 188 Tryz.f188 I188:=by refine⟨Tryz.func188,?_,?_,?_,?_⟩<;>kernel_rfl
def xYE(a0 r1 r2):rE I188 (xGr a0) [] [xFu r1,xDC r2]=dn (xFt r2) [AbC 196 xGs (xFu r1),AbC 86 (xGO r1 a0) (xDC r2)]:=by kernel_rfl
theorem vEI{N:Nat}:∀a0 r,xGA N a0=some r->RE Tryz.f188 I188 (xGr a0) (xFt r):=fun a0 r h=>bE h fun r1 h0 h=>bE h fun r2 h1 h=>dE h vEZ (xYE a0 r1 r2) (oc2 (xL8 h0) (xKd h1) on)
theorem xL6{N:Nat}{a0:Str}{r:Bool}(h:xGA N  a0=some r):AbC 188 (xGr a0) (xFt r):=
 AbsCalls.of_reach vEZ rfl rfl rfl (jL rfl) (vEI a0 r h)
noncomputable def I174:Info:= { body:=(Tryz.f174.body).getD .skip,nt:=15,results:=[.tmp 2],keep:=[0,4],live:=[],modes:=[(1,[(2,.take,false),(7,.take,false)])] }
theorem xVY:FnOk Tryz.prog 174 Tryz.f174 I174:=by refine⟨Tryz.func174,?_,?_,?_,?_⟩<;>kernel_rfl
def xX9(a0 r1 r2):rE I174 (xDn a0) [Y,Y] [xBD r1,xFt r2]=dn (xCx (!r2)) [AbC 187 (xFH a0) (xBD r1),iY r1,iY (dc ((Ln a0:Int)<=8)),AbC 188 (xGr a0) (xFt r2)]:=by kernel_rfl
def xYa(a0 r1):rE I174 (xDn a0) [Y,F] [xBD r1]=dn (xCx false) [AbC 187 (xFH a0) (xBD r1),iY r1,iN (dc ((Ln a0:Int)<=8))]:=by kernel_rfl
def xYb(a0 r1):rE I174 (xDn a0) [F,F] [xBD r1]=dn (xCx false) [AbC 187 (xFH a0) (xBD r1),iN r1,iN false]:=by kernel_rfl
theorem vEC{N:Nat}:∀a0 r,xGd N a0=some r->RE Tryz.f174 I174 (xDn a0) (xCx r):=fun a0 r h=>bE h fun r1 h0 h=>cE h (fun h1 h=>cE h (fun h2 h=>bE h fun r2 h3 h=>dE h xVY (xX9 a0 r1 r2) (oc4 (xI8 h0) h1 h2 (xL6 h3) on)) fun h2 h=>dE h xVY (xYa a0 r1) (oc3 (xI8 h0) h1 h2 on)) fun h1 h=>dE h xVY (xYb a0 r1) (oc3 (xI8 h0) h1 rfl on)
theorem xI4{N:Nat}{a0:Str}{r:Bool}(h:xGd N  a0=some r):AbC 174 (xDn a0) (xCx r):=
 AbsCalls.of_reach xVY rfl rfl rfl (jL rfl) (vEC a0 r h)
noncomputable def I37:Info:= { body:=(Tryz.f37.body).getD .skip,nt:=18,results:=[.tmp 2],keep:=[0,4,6,14,34],live:=[(2,[0,6])],modes:=[] }
theorem fk37:FnOk Tryz.prog 37 Tryz.f37 I37:=by refine⟨Tryz.func37,?_,?_,?_,?_⟩<;>kernel_rfl
def xTp(x0:List Str)(x3:Int):St:=[(0,.v false [.sl .ro .str x0]),(6,.v false [.int .i64 x3])]
abbrev xJy(v0:List Str)(v1:Int):=gD v0 (tN v1) Ty.str.dflt
def vBr(x0 x3 r1):rS 2 I37 (xTp x0 x3) [Y,Y] [xDC r1]=dn (xDm false) [xLb x3 x0,(0:Int)<=x3/\x3<=(Ln x0),xHH x3 x0,AbC 86 (xGO (List.take (tN x3) x0) (xJy x0 x3)) (xDC r1),iY r1]:=by kernel_rfl
def vBs(x0 x3 r1):rS 2 I37 (xTp x0 x3) [Y,F] [xDC r1]=st 2 I37 (xTp x0 (W (x3+1))) [xLb x3 x0,(0:Int)<=x3/\x3<=(Ln x0),xHH x3 x0,AbC 86 (xGO (List.take (tN x3) x0) (xJy x0 x3)) (xDC r1),iN r1]:=by kernel_rfl
def vBt(x0 x3):rS 2 I37 (xTp x0 x3) [F] []=dn (xDm true) [xOU x3 x0]:=by kernel_rfl
def vBu(a0):rE I37 (xFY a0) [] []=st 2 I37 (xTp a0 0) []:=by kernel_rfl
theorem vFC{N:Nat}:∀n x0 x3 r,xDl N n x0 x3=some r->RS Tryz.f37 I37 2 (xTp x0 x3) (xDm r):=by
 intro n
 induction n with
 |zero=>exact fun _ _ _ h=>nE h
 |succ n ih=>
  exact fun x0 x3 r h=>cE h (fun h0 h=>iE h fun h1 h=>iE h fun h2 h=>bE h fun r1 h3 h=>cE h (fun h4 h=>dS h fk37 (vBr x0 x3 r1) (oc5 h0 h1 h2 (xKd h3) h4 on)) fun h4 h=>tS fk37 (vBs x0 x3 r1) (oc5 h0 h1 h2 (xKd h3) h4 on) (ih _ _ _ h)) fun h0 h=>dS h fk37 (vBt x0 x3) (oc h0 on)
theorem vFD{N:Nat}:∀a0 r,xHd N a0=some r->RE Tryz.f37 I37 (xFY a0) (xDm r):=fun a0 r h=>tE fk37 (vBu a0) on (vFC _ _ _ _ h)
theorem xLA{N:Nat}{a0:List Str}{r:Bool}(h:xHd N  a0=some r):AbC 37 (xFY a0) (xDm r):=
 AbsCalls.of_reach fk37 rfl rfl rfl (jL rfl) (vFD a0 r h)
noncomputable def I160:Info:= { body:=(Tryz.f160.body).getD .skip,nt:=23,results:=[.tmp 2],keep:=[0,4,6,14,30],live:=[(2,[0,6])],modes:=[(6,[(3,.take,false)])] }
theorem xTU:FnOk Tryz.prog 160 Tryz.f160 I160:=by refine⟨Tryz.func160,?_,?_,?_,?_⟩<;>kernel_rfl
def xNj(x0:List Str)(x3:Int):St:=[(0,.v false [.sl .ro .str x0]),(6,.v false [.int .i64 x3])]
def xXL(x0 x3 r1):rS 2 I160 (xNj x0 x3) [Y,Y] [xCx r1]=dn (xCb false) [xLb x3 x0,xHH x3 x0,AbC 174 (xDn (xJy x0 x3)) (xCx r1),iY (!r1)]:=by kernel_rfl
def xXM(x0 x3 r1):rS 2 I160 (xNj x0 x3) [Y,F] [xCx r1]=st 2 I160 (xNj x0 (W (x3+1))) [xLb x3 x0,xHH x3 x0,AbC 174 (xDn (xJy x0 x3)) (xCx r1),iN (!r1)]:=by kernel_rfl
def xXN(x0 x3 r1 r2):rS 2 I160 (xNj x0 x3) [F,Y] [xDQ r1,xDm r2]=dn (xCb r2) [xOU x3 x0,AbC 120 (xFN (Ln x0:Int) 1 4) (xDQ r1),iY r1,AbC 37 (xFY x0) (xDm r2)]:=by kernel_rfl
def xXO(x0 x3 r1):rS 2 I160 (xNj x0 x3) [F,F] [xDQ r1]=dn (xCb false) [xOU x3 x0,AbC 120 (xFN (Ln x0:Int) 1 4) (xDQ r1),iN r1]:=by kernel_rfl
def xXP(a0):rE I160 (xEL a0) [] []=st 2 I160 (xNj a0 0) []:=by kernel_rfl
theorem vEs{N:Nat}:∀n x0 x3 r,xEM N n x0 x3=some r->RS Tryz.f160 I160 2 (xNj x0 x3) (xCb r):=by
 intro n
 induction n with
 |zero=>exact fun _ _ _ h=>nE h
 |succ n ih=>
  exact fun x0 x3 r h=>cE h (fun h0 h=>iE h fun h1 h=>bE h fun r1 h2 h=>cE h (fun h3 h=>dS h xTU (xXL x0 x3 r1) (oc4 h0 h1 (xI4 h2) h3 on)) fun h3 h=>tS xTU (xXM x0 x3 r1) (oc4 h0 h1 (xI4 h2) h3 on) (ih _ _ _ h)) fun h0 h=>bE h fun r1 h1 h=>cE h (fun h2 h=>bE h fun r2 h3 h=>dS h xTU (xXN x0 x3 r1 r2) (oc4 h0 (xJp h1) h2 (xLA h3) on)) fun h2 h=>dS h xTU (xXO x0 x3 r1) (oc3 h0 (xJp h1) h2 on)
theorem vEt{N:Nat}:∀a0 r,xIa N a0=some r->RE Tryz.f160 I160 (xEL a0) (xCb r):=fun a0 r h=>tE xTU (xXP a0) on (vEs _ _ _ _ h)
theorem xH1{N:Nat}{a0:List Str}{r:Bool}(h:xIa N  a0=some r):AbC 160 (xEL a0) (xCb r):=
 AbsCalls.of_reach xTU rfl rfl rfl (jL rfl) (vEt a0 r h)
noncomputable def I126:Info:= { body:=(Tryz.f126.body).getD .skip,nt:=24,results:=[.tmp 4],keep:=[0,2,4,6,8,5,7],live:=[],modes:=[(1,[(5,.take,false),(11,.take,false)])] }
theorem xVS:FnOk Tryz.prog 126 Tryz.f126 I126:=by refine⟨Tryz.func126,?_,?_,?_,?_⟩<;>kernel_rfl
def xXj(a0 a1):rE I126 (xCT a0 a1) [Y] []=dn (xAW true) [iY (dc (a0.cell<a1.cell))]:=by kernel_rfl
def xXk(a0 a1):rE I126 (xCT a0 a1) [F,Y] []=dn (xAW (dc (a0.row<a1.row))) [iN (dc (a0.cell<a1.cell)),iY (a0.cell==a1.cell)]:=by kernel_rfl
def xXl(a0 a1):rE I126 (xCT a0 a1) [F,F] []=dn (xAW false) [iN (dc (a0.cell<a1.cell)),iN (a0.cell==a1.cell)]:=by kernel_rfl
theorem vEc{N:Nat}:∀a0 a1 r,xEw N a0 a1=some r->RE Tryz.f126 I126 (xCT a0 a1) (xAW r):=fun a0 a1 r h=>cE h (fun h0 h=>dE h xVS (xXj a0 a1) (oc h0 on)) fun h0 h=>cE h (fun h1 h=>dE h xVS (xXk a0 a1) (oc2 h0 h1 on)) fun h1 h=>dE h xVS (xXl a0 a1) (oc2 h0 h1 on)
theorem xCl{N:Nat}{a0:Org}{a1:Org}{r:Bool}(h:xEw N  a0 a1=some r):AbC 126 (xCT a0 a1) (xAW r):=
 AbsCalls.of_reach xVS rfl rfl rfl (jL rfl) (vEc a0 a1 r h)
noncomputable def I161:Info:= { body:=(Tryz.f161.body).getD .skip,nt:=41,results:=[.tmp 2],keep:=[0,4,6,14,80],live:=[(2,[0,6])],modes:=[(4,[(6,.take,false),(14,.take,false),(17,.take,false)])] }
theorem xQY:FnOk Tryz.prog 161 Tryz.f161 I161:=by refine⟨Tryz.func161,?_,?_,?_,?_⟩<;>kernel_rfl
def xK7(x0:List Org)(x3:Int):St:=[(0,.v false [.sl .ro .org x0]),(6,.v false [.int .i64 x3])]
abbrev xFL(v0:Int)(v1:List Org):Prop:=iY (dc (v0<(Ln v1:Int)))
abbrev xSs(v0:List Org)(v1:Int):=dc (((Org.cell (gD v0 (tN v1) Ty.org.dflt)):Int)<0)
def xXQ(x0 x3):rS 2 I161 (xK7 x0 x3) [Y,Y,Y,Y] []=dn (xB4 false) [xFL x3 x0,xDz x3 x0,iY (xSs x0 x3),iY true,iY true]:=by kernel_rfl
abbrev xMW(v0:List Org)(v1:Int):Prop:=iN (xSs v0 v1)
abbrev xSt(v0:List Org)(v1:Int):=dc (((Org.row (gD v0 (tN v1) Ty.org.dflt)):Int)<0)
def xXR(x0 x3):rS 2 I161 (xK7 x0 x3) [Y,F,Y,Y] []=dn (xB4 false) [xFL x3 x0,xDz x3 x0,xMW x0 x3,xDz x3 x0,iY (xSt x0 x3),iY true]:=by kernel_rfl
abbrev xOV(v0:List Org)(v1:Int):Prop:=iN (xSt v0 v1)
def xXS(x0 x3 r1):rS 2 I161 (xK7 x0 x3) [Y,F,F,Y,Y] [xAW r1]=dn (xB4 false) [xFL x3 x0,xDz x3 x0,xMW x0 x3,xDz x3 x0,xOV x0 x3,xMU x3,(0:Int)<=(W (x3 - 1))/\(W (x3 - 1))<(Ln x0),xDz x3 x0,AbC 126 (xCT (gD x0 (tN (W (x3 - 1))) Ty.org.dflt) (xD0 x0 x3)) (xAW r1),iY (!r1)]:=by kernel_rfl
def xXT(x0 x3 r1):rS 2 I161 (xK7 x0 x3) [Y,F,F,Y,F] [xAW r1]=st 2 I161 (xK7 x0 (W (x3+1))) [xFL x3 x0,xDz x3 x0,xMW x0 x3,xDz x3 x0,xOV x0 x3,xMU x3,(0:Int)<=(W (x3 - 1))/\(W (x3 - 1))<(Ln x0),xDz x3 x0,AbC 126 (xCT (gD x0 (tN (W (x3 - 1))) Ty.org.dflt) (xD0 x0 x3)) (xAW r1),iN (!r1)]:=by kernel_rfl
def xXU(x0 x3):rS 2 I161 (xK7 x0 x3) [Y,F,F,F,F] []=st 2 I161 (xK7 x0 (W (x3+1))) [xFL x3 x0,xDz x3 x0,xMW x0 x3,xDz x3 x0,xOV x0 x3,iN (dc (x3>0)),iN false]:=by kernel_rfl
abbrev xIX(v0:Int)(v1:List Org):Prop:=iN (dc (v0<(Ln v1:Int)))
def xXV(x0 x3):rS 2 I161 (xK7 x0 x3) [F] []=dn (xB4 true) [xIX x3 x0]:=by kernel_rfl
def xXW(a0):rE I161 (xE7 a0) [] []=st 2 I161 (xK7 a0 0) []:=by kernel_rfl
theorem vEu{N:Nat}:∀n x0 x3 r,xCR N n x0 x3=some r->RS Tryz.f161 I161 2 (xK7 x0 x3) (xB4 r):=by
 intro n
 induction n with
 |zero=>exact fun _ _ _ h=>nE h
 |succ n ih=>
  exact fun x0 x3 r h=>cE h (fun h0 h=>iE h fun h1 h=>cE h (fun h2 h=>dS h xQY (xXQ x0 x3) (oc5 h0 h1 h2 rfl rfl on)) fun h2 h=>cE h (fun h4 h=>dS h xQY (xXR x0 x3) (oc6 h0 h1 h2 h1 h4 rfl on)) fun h4 h=>cE h (fun h5 h=>iE h fun h6 h=>bE h fun r1 h8 h=>cE h (fun h9 h=>dS h xQY (xXS x0 x3 r1) (oc10 h0 h1 h2 h1 h4 h5 h6 h1 (xCl h8) h9 on)) fun h9 h=>tS xQY (xXT x0 x3 r1) (oc10 h0 h1 h2 h1 h4 h5 h6 h1 (xCl h8) h9 on) (ih _ _ _ h)) fun h5 h=>tS xQY (xXU x0 x3) (oc7 h0 h1 h2 h1 h4 h5 rfl on) (ih _ _ _ h)) fun h0 h=>dS h xQY (xXV x0 x3) (oc h0 on)
theorem vEv{N:Nat}:∀a0 r,xHf N a0=some r->RE Tryz.f161 I161 (xE7 a0) (xB4 r):=fun a0 r h=>tE xQY (xXW a0) on (vEu _ _ _ _ h)
theorem xI9{N:Nat}{a0:List Org}{r:Bool}(h:xHf N  a0=some r):AbC 161 (xE7 a0) (xB4 r):=
 AbsCalls.of_reach xQY rfl rfl rfl (jL rfl) (vEv a0 r h)
noncomputable def I119:Info:= { body:=(Tryz.f119.body).getD .skip,nt:=55,results:=[.tmp 2],keep:=[0,2,4,6,8,10,30,40,80,90,108,3,9],live:=[(4,[2,6,3]),(10,[2,6,8,10,3,9])],modes:=[(1,[(4,.take,false)]),(7,[(7,.take,false)])] }
theorem xNw:FnOk Tryz.prog 119 Tryz.f119 I119:=by refine⟨Tryz.func119,?_,?_,?_,?_⟩<;>kernel_rfl
def xMO(x3:Int)(b1:Val):St:=[(2,.v false [.ptr 1 0]),(6,.v false [.int .i64 x3]),(3,.v true (Va .ro b1))]
def xMg(x3 x5:Int)(b1:Val)(b4:Rowd):St:=[(2,.v false [.ptr 1 0]),(6,.v false [.int .i64 x3]),(8,.v false [.ptr 4 0]),(10,.v false [.int .i64 x5]),(3,.v true (Va .ro b1)),(9,.v true [.sl .ro .int b4.cells,.sl .ro .org b4.frm])]
def xVd(x3 x5 b1 b4 r1):rS 10 I119 (xMg x3 x5 b1 b4) [Y,Y] [xBg r1]=dn (xCo false) [iY (dc (x5<(Ln b4.cells:Int))),(0:Int)<=x5/\x5<(Ln b4.cells),AbC 80 (xCC (gD b4.cells (tN x5) Ty.int.dflt)) (xBg r1),iY (!r1)]:=by kernel_rfl
def xVe(x3 x5 b1 b4 r1):rS 10 I119 (xMg x3 x5 b1 b4) [Y,F] [xBg r1]=st 10 I119 (xMg x3 (W (x5+1)) b1 b4) [iY (dc (x5<(Ln b4.cells:Int))),(0:Int)<=x5/\x5<(Ln b4.cells),AbC 80 (xCC (gD b4.cells (tN x5) Ty.int.dflt)) (xBg r1),iN (!r1)]:=by kernel_rfl
def xVf(x3 x5 b1 b4):rS 10 I119 (xMg x3 x5 b1 b4) [F] []=st 4 I119 (xMO (W (x3+1)) b1) [iN (dc (x5<(Ln b4.cells:Int)))]:=by kernel_rfl
abbrev xJz(v0:Val):=(Ln v0.rows:Int)
abbrev xIu(v0:Int)(v1:Val):Prop:=iY (dc (v0<(xJz v1)))
abbrev xFe(v0:Int)(v1:Val):Prop:=(0:Int)<=v0/\v0<(Ln v1.rows)
abbrev xUL(v0:Val)(v1:Int):=((Ln (Rowd.cells (gD v0.rows (tN v1) rd)):Int):Int) != (Ln v0.columns:Int)
def xW3(x3 b1):rS 4 I119 (xMO x3 b1) [Y,Y,Y] []=dn (xCo false) [xIu x3 b1,xFe x3 b1,iY (xUL b1 x3),iY true]:=by kernel_rfl
abbrev vAn(v0:Val)(v1:Int):Prop:=iN (xUL v0 v1)
abbrev xKb(v0:Val)(v1:Int):=Rowd.frm (gD v0.rows (tN v1) rd)
def xW4(x3 b1 r1):rS 4 I119 (xMO x3 b1) [Y,F,Y] [xB4 r1]=dn (xCo false) [xIu x3 b1,xFe x3 b1,vAn b1 x3,AbC 161 (xE7 (xKb b1 x3)) (xB4 r1),iY (!r1)]:=by kernel_rfl
abbrev vAR(v0:Val)(v1:Int):=gD v0.rows (tN v1) rd
def xW5(x3 b1 r1):rS 4 I119 (xMO x3 b1) [Y,F,F] [xB4 r1]=st 10 I119 (xMg x3 0 b1 (vAR b1 x3)) [xIu x3 b1,xFe x3 b1,vAn b1 x3,AbC 161 (xE7 (xKb b1 x3)) (xB4 r1),iN (!r1)]:=by kernel_rfl
abbrev xLc(v0:Int)(v1:Val):Prop:=iN (dc (v0<(xJz v1)))
def xW6(x3 b1):rS 4 I119 (xMO x3 b1) [F] []=dn (xCo true) [xLc x3 b1]:=by kernel_rfl
def xW7(a0 r1):rE I119 (xFI a0) [Y,Y] [xCb r1]=dn (xCo false) [AbC 160 (xEL a0.columns) (xCb r1),iY (!r1),iY true]:=by kernel_rfl
abbrev xPv(v0:Val):=dc ((Ln v0.rows:Int)>12)
def xW8(a0 r1):rE I119 (xFI a0) [F,Y] [xCb r1]=dn (xCo false) [AbC 160 (xEL a0.columns) (xCb r1),iN (!r1),iY (xPv a0)]:=by kernel_rfl
def xW9(a0 r1):rE I119 (xFI a0) [F,F] [xCb r1]=st 4 I119 (xMO 0 a0) [AbC 160 (xEL a0.columns) (xCb r1),iN (!r1),iN (xPv a0)]:=by kernel_rfl
theorem vAA{N:Nat}{k4:Int->Val->Option (Bool)}(hk4:∀z0 z1 r,k4 z0 z1=some r->RS Tryz.f119 I119 4 (xMO z0 z1) (xCo r)):∀n x3 x5 b1 b4 r,xEr N k4 n x3 x5 b1 b4=some r->RS Tryz.f119 I119 10 (xMg x3 x5 b1 b4) (xCo r):=by
 intro n
 induction n with
 |zero=>exact fun _ _ _ _ _ h=>nE h
 |succ n ih=>
  exact fun x3 x5 b1 b4 r h=>cE h (fun h0 h=>iE h fun h1 h=>bE h fun r1 h2 h=>cE h (fun h3 h=>dS h xNw (xVd x3 x5 b1 b4 r1) (oc4 h0 h1 (xDR h2) h3 on)) fun h3 h=>tS xNw (xVe x3 x5 b1 b4 r1) (oc4 h0 h1 (xDR h2) h3 on) (ih _ _ _ _ _ h)) fun h0 h=>tS xNw (xVf x3 x5 b1 b4) (oc h0 on) (hk4 _ _ _ h)
theorem vD7{N:Nat}:∀n x3 b1 r,xE8 N n x3 b1=some r->RS Tryz.f119 I119 4 (xMO x3 b1) (xCo r):=by
 intro n
 induction n with
 |zero=>exact fun _ _ _ h=>nE h
 |succ n ih=>
  exact fun x3 b1 r h=>cE h (fun h0 h=>iE h fun h1 h=>cE h (fun h2 h=>dS h xNw (xW3 x3 b1) (oc4 h0 h1 h2 rfl on)) fun h2 h=>bE h fun r1 h3 h=>cE h (fun h4 h=>dS h xNw (xW4 x3 b1 r1) (oc5 h0 h1 h2 (xI9 h3) h4 on)) fun h4 h=>tS xNw (xW5 x3 b1 r1) (oc5 h0 h1 h2 (xI9 h3) h4 on) (vAA ih _ _ _ _ _ _ h)) fun h0 h=>dS h xNw (xW6 x3 b1) (oc h0 on)
theorem vD8{N:Nat}:∀a0 r,xIl N a0=some r->RE Tryz.f119 I119 (xFI a0) (xCo r):=fun a0 r h=>bE h fun r1 h0 h=>cE h (fun h1 h=>dE h xNw (xW7 a0 r1) (oc3 (xH1 h0) h1 rfl on)) fun h1 h=>cE h (fun h2 h=>dE h xNw (xW8 a0 r1) (oc3 (xH1 h0) h1 h2 on)) fun h2 h=>tE xNw (xW9 a0 r1) (oc3 (xH1 h0) h1 h2 on) (vD7 _ _ _ _ h)
theorem xN2{N:Nat}{a0:Val}{r:Bool}(h:xIl N  a0=some r):AbC 119 (xFI a0) (xCo r):=
 AbsCalls.of_reach xNw rfl rfl rfl (jL rfl) (vD8 a0 r h)
def G75(q:Val->Option (Bool)):Prop:=∀a0 r,q a0=some r->AbC 75 (xAp a0) (xAl r)
def G118(q:Val->Option (Bool)):Prop:=∀a0 r,q a0=some r->AbC 118 (xG7 a0) (xDu r)
noncomputable def I75:Info:= { body:=(Tryz.f75.body).getD .skip,nt:=95,results:=[.tmp 2],keep:=[0,2,4,52,88,92,94,104,124,142,162,180,3],live:=[],modes:=[(1,[(3,.take,false),(9,.take,false),(13,.take,false)]),(3,[(3,.take,false),(8,.take,false),(12,.take,false)]),(9,[(3,.take,false)]),(11,[(3,.take,false)]),(13,[(3,.take,false)]),(15,[(3,.take,false)])] }
theorem fk75:FnOk Tryz.prog 75 Tryz.f75 I75:=by refine⟨Tryz.func75,?_,?_,?_,?_⟩<;>kernel_rfl
abbrev xIv(v0:Val):Prop:=iY (v0.kind != 3)
def vCq(a0):rE I75 (xAp a0) [Y,Y,Y] []=dn (xAl false) [xIv a0,iY (dc ((xIV a0)>0)),iY true]:=by kernel_rfl
abbrev xIY(v0:Val):Prop:=iN (dc ((xIV v0)>0))
abbrev xIw(v0:Val):Prop:=iY (v0.kind != 5)
abbrev xUM(v0:Val):=dc (((W ((Ln v0.columns:Int)+(Ln v0.rows:Int))):Int)>0)
abbrev vAo(v0:Val):Prop:=iY (xUM v0)
def vCr(a0):rE I75 (xAp a0) [Y,F,Y,Y] []=dn (xAl false) [xIv a0,xIY a0,xIw a0,vAo a0]:=by kernel_rfl
abbrev xJi(v0:Val):Prop:=iN (xUM v0)
abbrev xIZ(v0:Val):Prop:=iY (v0.kind != 2)
abbrev xMy(v0:Val):=(v0.text:Str)== []
def vCs(a0):rE I75 (xAp a0) [Y,F,Y,F,Y,Y,Y] []=dn (xAl false) [xIv a0,xIY a0,xIw a0,xJi a0,xIZ a0,iY (!(xMy a0)),iY true]:=by kernel_rfl
abbrev xKq(v0:Val):Prop:=iN (!(xMy v0))
abbrev xJR(v0:Val):Prop:=iY (v0.kind != 4)
def vCt(a0):rE I75 (xAp a0) [Y,F,Y,F,Y,F,Y,Y] []=dn (xAl false) [xIv a0,xIY a0,xIw a0,xJi a0,xIZ a0,xKq a0,xJR a0,iY (a0.step != 0)]:=by kernel_rfl
abbrev xLZ(v0:Val):Prop:=iN (v0.step != 0)
def vCu(a0 r1):rE I75 (xAp a0) [Y,F,Y,F,Y,F,Y,F,Y] [xBg r1]=dn (xAl r1) [xIv a0,xIY a0,xIw a0,xJi a0,xIZ a0,xKq a0,xJR a0,xLZ a0,xMV a0,AbC 80 (xCC a0.n) (xBg r1)]:=by kernel_rfl
abbrev xL0(v0:Val):Prop:=iN (v0.kind==3)
abbrev xFy(v0:Val):Prop:=iN (v0.kind==4)
abbrev xMX(v0:Val):Prop:=iN (v0.kind==5)
abbrev xNK(v0:Val):Prop:=iY (v0.kind==6)
def vCv(a0 r1):rE I75 (xAp a0) [Y,F,Y,F,Y,F,Y,F,F,F,F,F,F,Y] [xDQ r1]=dn (xAl r1) [xIv a0,xIY a0,xIw a0,xJi a0,xIZ a0,xKq a0,xJR a0,xLZ a0,xCL a0,xDy a0,xL0 a0,xFy a0,xMX a0,xNK a0,AbC 120 (xFN a0.n 1 8) (xDQ r1)]:=by kernel_rfl
abbrev xHA(v0:Val):Prop:=iN (v0.kind==6)
def vCw(a0):rE I75 (xAp a0) [Y,F,Y,F,Y,F,Y,F,F,F,F,F,F,F] []=dn (xAl false) [xIv a0,xIY a0,xIw a0,xJi a0,xIZ a0,xKq a0,xJR a0,xLZ a0,xCL a0,xDy a0,xL0 a0,xFy a0,xMX a0,xHA a0]:=by kernel_rfl
abbrev xMY(v0:Val):Prop:=iY (v0.kind==4)
def vCx(a0 r1 r2):rE I75 (xAp a0) [Y,F,Y,F,Y,F,F,F,F,F,F,Y,Y] [xBg r1,xBg r2]=dn (xAl r2) [xIv a0,xIY a0,xIw a0,xJi a0,xIZ a0,xKq a0,iN (a0.kind != 4),iN false,xCL a0,xDy a0,xL0 a0,xMY a0,AbC 80 (xCC a0.n) (xBg r1),iY r1,AbC 80 (xCC a0.step) (xBg r2)]:=by kernel_rfl
def vCy(a0 r1):rE I75 (xAp a0) [Y,F,Y,F,Y,F,F,F,F,F,F,Y,F] [xBg r1]=dn (xAl false) [xIv a0,xIY a0,xIw a0,xJi a0,xIZ a0,xKq a0,iN (a0.kind != 4),iN false,xCL a0,xDy a0,xL0 a0,xMY a0,AbC 80 (xCC a0.n) (xBg r1),iN r1]:=by kernel_rfl
def vCz(a0):rE I75 (xAp a0) [Y,F,Y,F,F,F,Y,Y] []=dn (xAl false) [xIv a0,xIY a0,xIw a0,xJi a0,iN (a0.kind != 2),iN false,xJR a0,iY (a0.step != 0)]:=by kernel_rfl
abbrev xHp(v0:Val):Prop:=iY (v0.n==0)
def xZR(a0 r1):rE I75 (xAp a0) [Y,F,Y,F,F,F,Y,F,F,Y,Y] [xCy r1]=dn (xAl r1) [xIv a0,xIY a0,xIw a0,xJi a0,iN (a0.kind != 2),iN false,xJR a0,xLZ a0,xCL a0,xLW a0,xHp a0,AbC 117 (xF0 a0.text) (xCy r1)]:=by kernel_rfl
abbrev xMZ(v0:Val):Prop:=iN (v0.n==0)
def xZS(a0):rE I75 (xAp a0) [Y,F,Y,F,F,F,Y,F,F,Y,F] []=dn (xAl false) [xIv a0,xIY a0,xIw a0,xJi a0,iN (a0.kind != 2),iN false,xJR a0,xLZ a0,xCL a0,xLW a0,xMZ a0]:=by kernel_rfl
def xZT(a0):rE I75 (xAp a0) [Y,F,F,F,Y,Y,Y] []=dn (xAl false) [xIv a0,xIY a0,iN (a0.kind != 5),iN false,xIZ a0,iY (!(xMy a0)),iY true]:=by kernel_rfl
def xZU(a0):rE I75 (xAp a0) [Y,F,F,F,Y,F,Y,Y] []=dn (xAl false) [xIv a0,xIY a0,iN (a0.kind != 5),iN false,xIZ a0,xKq a0,xJR a0,iY (a0.step != 0)]:=by kernel_rfl
abbrev xJj(v0:Val):Prop:=iY (v0.kind==5)
def xZV(a0 r1):rE I75 (xAp a0) [Y,F,F,F,Y,F,Y,F,F,F,F,F,Y,Y] [xCo r1]=dn (xAl r1) [xIv a0,xIY a0,iN (a0.kind != 5),iN false,xIZ a0,xKq a0,xJR a0,xLZ a0,xCL a0,xDy a0,xL0 a0,xFy a0,xJj a0,xHp a0,AbC 119 (xFI a0) (xCo r1)]:=by kernel_rfl
def xZW(a0):rE I75 (xAp a0) [Y,F,F,F,Y,F,Y,F,F,F,F,F,Y,F] []=dn (xAl false) [xIv a0,xIY a0,iN (a0.kind != 5),iN false,xIZ a0,xKq a0,xJR a0,xLZ a0,xCL a0,xDy a0,xL0 a0,xFy a0,xJj a0,xMZ a0]:=by kernel_rfl
def xZX(a0):rE I75 (xAp a0) [F,F,Y,Y] []=dn (xAl false) [iN (a0.kind != 3),iN false,xIw a0,vAo a0]:=by kernel_rfl
def xZY(a0):rE I75 (xAp a0) [F,F,Y,F,Y,Y,Y] []=dn (xAl false) [iN (a0.kind != 3),iN false,xIw a0,xJi a0,xIZ a0,iY (!(xMy a0)),iY true]:=by kernel_rfl
def xZZ(a0):rE I75 (xAp a0) [F,F,Y,F,Y,F,Y,Y] []=dn (xAl false) [iN (a0.kind != 3),iN false,xIw a0,xJi a0,xIZ a0,xKq a0,xJR a0,iY (a0.step != 0)]:=by kernel_rfl
def xZ0(a0 r1):rE I75 (xAp a0) [F,F,Y,F,Y,F,Y,F,F,F,Y,Y] [xDu r1]=dn (xAl r1) [iN (a0.kind != 3),iN false,xIw a0,xJi a0,xIZ a0,xKq a0,xJR a0,xLZ a0,xCL a0,xDy a0,iY (a0.kind==3),xHp a0,AbC 118 (xG7 a0) (xDu r1)]:=by kernel_rfl
def xZ1(a0):rE I75 (xAp a0) [F,F,Y,F,Y,F,Y,F,F,F,Y,F] []=dn (xAl false) [iN (a0.kind != 3),iN false,xIw a0,xJi a0,xIZ a0,xKq a0,xJR a0,xLZ a0,xCL a0,xDy a0,iY (a0.kind==3),xMZ a0]:=by kernel_rfl
theorem vF1{N q0 q1}(g0:G75 q0)(g1:G118 q1):∀a0 r,xDV N q0 q1 a0=some r->RE Tryz.f75 I75 (xAp a0) (xAl r):=fun a0 r h=>cE h (fun h0 h=>cE h (fun h1 h=>dE h fk75 (vCq a0) (oc3 h0 h1 rfl on)) fun h1 h=>cE h (fun h2 h=>cE h (fun h3 h=>dE h fk75 (vCr a0) (oc4 h0 h1 h2 h3 on)) fun h3 h=>cE h (fun h4 h=>cE h (fun h5 h=>dE h fk75 (vCs a0) (oc7 h0 h1 h2 h3 h4 h5 rfl on)) fun h5 h=>cE h (fun h6 h=>cE h (fun h7 h=>dE h fk75 (vCt a0) (oc8 h0 h1 h2 h3 h4 h5 h6 h7 on)) fun h7 h=>cE h (fun h8 h=>bE h fun r1 h9 h=>dE h fk75 (vCu a0 r1) (oc10 h0 h1 h2 h3 h4 h5 h6 h7 h8 (xDR h9) on)) fun h8 h=>cE h (fun h13 h=>bE h fun r1 h14 h=>dE h fk75 (vCv a0 r1) (oc12 h0 h1 h2 h3 h4 h5 h6 h7 h8 (zJv h4) (zJv h0) (zJv h6) (oc3 (zJv h2) h13 (xJp h14) on))) fun h13 h=>dE h fk75 (vCw a0) (oc12 h0 h1 h2 h3 h4 h5 h6 h7 h8 (zJv h4) (zJv h0) (zJv h6) (oc2 (zJv h2) h13 on))) fun h6 h=>bE h fun r1 h12 h=>cE h (fun h13 h=>bE h fun r2 h14 h=>dE h fk75 (vCx a0 r1 r2) (oc12 h0 h1 h2 h3 h4 h5 h6 rfl (eq_ne (zJv h6) rfl) (zJv h4) (zJv h0) (zJv h6) (oc3 (xDR h12) h13 (xDR h14) on))) fun h13 h=>dE h fk75 (vCy a0 r1) (oc12 h0 h1 h2 h3 h4 h5 h6 rfl (eq_ne (zJv h6) rfl) (zJv h4) (zJv h0) (zJv h6) (oc2 (xDR h12) h13 on))) fun h4 h=>cE h (fun h7 h=>dE h fk75 (vCz a0) (oc8 h0 h1 h2 h3 h4 rfl (zJu (eq_ne (zJv h4) rfl)) h7 on)) fun h7 h=>cE h (fun h10 h=>bE h fun r1 h11 h=>dE h fk75 (xZR a0 r1) (oc12 h0 h1 h2 h3 h4 rfl (zJu (eq_ne (zJv h4) rfl)) h7 (eq_ne (zJv h4) rfl) (zJv h4) h10 (xLC h11) on)) fun h10 h=>dE h fk75 (xZS a0) (oc11 h0 h1 h2 h3 h4 rfl (zJu (eq_ne (zJv h4) rfl)) h7 (eq_ne (zJv h4) rfl) (zJv h4) h10 on)) fun h2 h=>
 cE h (fun h5 h=>dE h fk75 (xZT a0) (oc7 h0 h1 h2 rfl (zJu (eq_ne (zJv h2) rfl)) h5 rfl on)) fun h5 h=>cE h (fun h7 h=>dE h fk75 (xZU a0) (oc8 h0 h1 h2 rfl (zJu (eq_ne (zJv h2) rfl)) h5 (zJu (eq_ne (zJv h2) rfl)) h7 on)) fun h7 h=>cE h (fun h13 h=>bE h fun r1 h14 h=>dE h fk75 (xZV a0 r1) (oc12 h0 h1 h2 rfl (zJu (eq_ne (zJv h2) rfl)) h5 (zJu (eq_ne (zJv h2) rfl)) h7 (eq_ne (zJv h2) rfl) (eq_ne (zJv h2) rfl) (zJv h0) (eq_ne (zJv h2) rfl) (oc3 (zJv h2) h13 (xN2 h14) on))) fun h13 h=>dE h fk75 (xZW a0) (oc12 h0 h1 h2 rfl (zJu (eq_ne (zJv h2) rfl)) h5 (zJu (eq_ne (zJv h2) rfl)) h7 (eq_ne (zJv h2) rfl) (eq_ne (zJv h2) rfl) (zJv h0) (eq_ne (zJv h2) rfl) (oc2 (zJv h2) h13 on))) fun h0 h=>cE h (fun h3 h=>dE h fk75 (xZX a0) (oc4 h0 rfl (zJu (eq_ne (zJv h0) rfl)) h3 on)) fun h3 h=>cE h (fun h5 h=>dE h fk75 (xZY a0) (oc7 h0 rfl (zJu (eq_ne (zJv h0) rfl)) h3 (zJu (eq_ne (zJv h0) rfl)) h5 rfl on)) fun h5 h=>cE h (fun h7 h=>dE h fk75 (xZZ a0) (oc8 h0 rfl (zJu (eq_ne (zJv h0) rfl)) h3 (zJu (eq_ne (zJv h0) rfl)) h5 (zJu (eq_ne (zJv h0) rfl)) h7 on)) fun h7 h=>cE h (fun h11 h=>bE h fun r1 h12 h=>dE h fk75 (xZ0 a0 r1) (oc12 h0 rfl (zJu (eq_ne (zJv h0) rfl)) h3 (zJu (eq_ne (zJv h0) rfl)) h5 (zJu (eq_ne (zJv h0) rfl)) h7 (eq_ne (zJv h0) rfl) (eq_ne (zJv h0) rfl) (zJv h0) h11 (oc (g1 _ _ h12) on))) fun h11 h=>dE h fk75 (xZ1 a0) (oc12 h0 rfl (zJu (eq_ne (zJv h0) rfl)) h3 (zJu (eq_ne (zJv h0) rfl)) h5 (zJu (eq_ne (zJv h0) rfl)) h7 (eq_ne (zJv h0) rfl) (eq_ne (zJv h0) rfl) (zJv h0) h11 on)
theorem xJC{N q0 q1}(g0:G75 q0)(g1:G118 q1){a0}{r}(h:xDV N q0 q1 a0=some r):AbC 75 (xAp a0) (xAl r):=
 AbsCalls.of_reach fk75 rfl rfl rfl (jL rfl) (vF1 g0 g1 a0 r h)
noncomputable def I118:Info:= { body:=(Tryz.f118.body).getD .skip,nt:=36,results:=[.tmp 2],keep:=[0,2,4,6,16,52,3],live:=[(2,[2,6,3])],modes:=[(4,[(7,.take,false)]),(6,[(4,.take,false)])] }
theorem xSg:FnOk Tryz.prog 118 Tryz.f118 I118:=by refine⟨Tryz.func118,?_,?_,?_,?_⟩<;>kernel_rfl
def xMN(x3:Int)(b1:Val):St:=[(2,.v false [.ptr 1 0]),(6,.v false [.int .i64 x3]),(3,.v true (Va .ro b1))]
def xWX(x3 b1 r1):rS 2 I118 (xMN x3 b1) [Y,Y,Y] [xCn r1]=dn (xDu false) [xOT x3 b1,xLa x3 b1,AbC 158 (xDt (xJx b1 x3)) (xCn r1),iY (!r1),iY true]:=by kernel_rfl
def xWY(x3 b1 r1 r2):rS 2 I118 (xMN x3 b1) [Y,F,Y] [xCn r1,xAl r2]=dn (xDu false) [xOT x3 b1,xLa x3 b1,AbC 158 (xDt (xJx b1 x3)) (xCn r1),iN (!r1),xLa x3 b1,AbC 75 (xAp (xJx b1 x3)) (xAl r2),iY (!r2)]:=by kernel_rfl
def xWZ(x3 b1 r1 r2):rS 2 I118 (xMN x3 b1) [Y,F,F] [xCn r1,xAl r2]=st 2 I118 (xMN (W (x3+1)) b1) [xOT x3 b1,xLa x3 b1,AbC 158 (xDt (xJx b1 x3)) (xCn r1),iN (!r1),xLa x3 b1,AbC 75 (xAp (xJx b1 x3)) (xAl r2),iN (!r2)]:=by kernel_rfl
abbrev xPw(v0:Val):=dc ((Ln v0.list:Int)<=8)
def xW0(x3 b1 r1):rS 2 I118 (xMN x3 b1) [F,Y] [xC9 r1]=dn (xDu (dc (r1<=3))) [xTa x3 b1,iY (xPw b1),AbC 159 (xE2 b1) (xC9 r1)]:=by kernel_rfl
def xW1(x3 b1):rS 2 I118 (xMN x3 b1) [F,F] []=dn (xDu false) [xTa x3 b1,iN (xPw b1)]:=by kernel_rfl
def xW2(a0):rE I118 (xG7 a0) [] []=st 2 I118 (xMN 0 a0) []:=by kernel_rfl
theorem vD5{N q0 q1}(g0:G75 q0)(g1:G118 q1):∀n x3 b1 r,xEC N q0 q1 n x3 b1=some r->RS Tryz.f118 I118 2 (xMN x3 b1) (xDu r):=by
 intro n
 induction n with
 |zero=>exact fun _ _ _ h=>nE h
 |succ n ih=>
  exact fun x3 b1 r h=>cE h (fun h0 h=>iE h fun h1 h=>bE h fun r1 h2 h=>cE h (fun h3 h=>dS h xSg (xWX x3 b1 r1) (oc5 h0 h1 (xH3 h2) h3 rfl on)) fun h3 h=>bE h fun r2 h5 h=>cE h (fun h6 h=>dS h xSg (xWY x3 b1 r1 r2) (oc7 h0 h1 (xH3 h2) h3 h1 (g0 _ _ h5) h6 on)) fun h6 h=>tS xSg (xWZ x3 b1 r1 r2) (oc7 h0 h1 (xH3 h2) h3 h1 (g0 _ _ h5) h6 on) (ih _ _ _ h)) fun h0 h=>cE h (fun h1 h=>bE h fun r1 h2 h=>dS h xSg (xW0 x3 b1 r1) (oc3 h0 h1 (xNU h2) on)) fun h1 h=>dS h xSg (xW1 x3 b1) (oc2 h0 h1 on)
theorem vD6{N q0 q1}(g0:G75 q0)(g1:G118 q1):∀a0 r,xIs N q0 q1 a0=some r->RE Tryz.f118 I118 (xG7 a0) (xDu r):=fun a0 r h=>tE xSg (xW2 a0) on (vD5 g0 g1 _ _ _ _ h)
theorem xLG{N q0 q1}(g0:G75 q0)(g1:G118 q1){a0}{r}(h:xIs N q0 q1 a0=some r):AbC 118 (xG7 a0) (xDu r):=
 AbsCalls.of_reach xSg rfl rfl rfl (jL rfl) (vD6 g0 g1 a0 r h)
theorem xJU{N:Nat}:∀d,G75 (xAz N d).c_spec_IsValidValue/\G118 (xAz N d).c_spec_l3List:=by
 intro d
 induction d with
 |zero=>exact⟨fun _ _ h=>nE h,fun _ _ h=>nE h⟩
 |succ d ih=>
  obtain⟨ih0,ih1⟩:=ih;exact⟨fun _ _ h=>xJC (N:=N) ih0 ih1 h,fun _ _ h=>xLG (N:=N) ih0 ih1 h⟩
theorem xGY{N:Nat}{a0:Val}{r:Bool}(h:xHZ N a0=some r):AbC 75 (xAp a0) (xAl r):=(xJU N).1 _ r h
noncomputable def I36:Info:= { body:=(Tryz.f36.body).getD .skip,nt:=5,results:=[.cell 2 31],keep:=[0,4,5],live:=[],modes:=[] }
theorem fk36:FnOk Tryz.prog 36 Tryz.f36 I36:=by refine⟨Tryz.func36,?_,?_,?_,?_⟩<;>kernel_rfl
def vBq(a0):rE I36 (xCd a0) [] []=dn (xAV (Val.mk 6 a0 0 [] [] [] [])) []:=by kernel_rfl
theorem vFB{N:Nat}:∀a0 r,xBL N a0=some r->RE Tryz.f36 I36 (xCd a0) (xAV r):=fun a0 r h=>dE h fk36 (vBq a0) on
theorem xC5{N:Nat}{a0:Int}{r:Val}(h:xBL N  a0=some r):AbC 36 (xCd a0) (xAV r):=
 AbsCalls.of_reach fk36 rfl rfl rfl (jL rfl) (vFB a0 r h)
noncomputable def I85:Info:= { body:=(Tryz.f85.body).getD .skip,nt:=31,results:=[.cell 2 31,.tmp 3],keep:=[0,4,6,8,16,32,46,5],live:=[(2,[0,4,8,5])],modes:=[] }
theorem fk85:FnOk Tryz.prog 85 Tryz.f85 I85:=by refine⟨Tryz.func85,?_,?_,?_,?_⟩<;>kernel_rfl
def xRX(x0:List Val)(x4:Int)(b2:Val):St:=[(0,.v false [.sl .ro .val x0]),(4,.v false [.ptr 2 0]),(8,.v false [.int .i64 x4]),(5,.v true (Va .own b2))]
abbrev xRa(v0:Int)(v1:List Val):Prop:=iY (dc (v0<(Ln v1:Int)))
abbrev xG3(v0:Int)(v1:List Val):Prop:=(0:Int)<=v0/\v0<(Ln v1)
abbrev xLw(v0:List Val)(v1:Int):=gD v0 (tN v1) vd
def vC0(x0 x4 b2 r1 r2):rS 2 I85 (xRX x0 x4 b2) [Y,Y] [xAl r1,xAV r2]=dn (xDe (r2,true)) [xRa x4 x0,xG3 x4 x0,AbC 75 (xAp (xLw x0 x4)) (xAl r1),iY (!r1),AbC 36 (xCd 4) (xAV r2)]:=by kernel_rfl
abbrev xPx(v0:List Val)(v1:Int):=((Val.kind (gD v0 (tN v1) vd)):Int)==6
def vC1(x0 x4 b2 r1 r2):rS 2 I85 (xRX x0 x4 b2) [Y,F,Y] [xAl r1,xAV r2]=dn (xDe (r2,true)) [xRa x4 x0,xG3 x4 x0,AbC 75 (xAp (xLw x0 x4)) (xAl r1),iN (!r1),xG3 x4 x0,iY (xPx x0 x4),xG3 x4 x0,AbC 36 (xCd (Val.n (xLw x0 x4))) (xAV r2)]:=by kernel_rfl
def vC2(x0 x4 b2 r1):rS 2 I85 (xRX x0 x4 b2) [Y,F,F] [xAl r1]=st 2 I85 (xRX x0 (W (x4+1)) b2) [xRa x4 x0,xG3 x4 x0,AbC 75 (xAp (xLw x0 x4)) (xAl r1),iN (!r1),xG3 x4 x0,iN (xPx x0 x4)]:=by kernel_rfl
def vC3(x0 x4 b2):rS 2 I85 (xRX x0 x4 b2) [F] []=dn (xDe ((Val.mk 0 0 0 [] [] [] []),false)) [iN (dc (x4<(Ln x0:Int)))]:=by kernel_rfl
def vC4(a0):rE I85 (xGB a0) [] []=st 2 I85 (xRX a0 0 (Val.mk 0 0 0 [] [] [] [])) []:=by kernel_rfl
theorem vGa{N:Nat}:∀n x0 x4 b2 r,xEg N n x0 x4 b2=some r->RS Tryz.f85 I85 2 (xRX x0 x4 b2) (xDe r):=by
 intro n
 induction n with
 |zero=>exact fun _ _ _ _ h=>nE h
 |succ n ih=>
  exact fun x0 x4 b2 r h=>cE h (fun h0 h=>iE h fun h1 h=>bE h fun r1 h2 h=>cE h (fun h3 h=>bE h fun r2 h4 h=>dS h fk85 (vC0 x0 x4 b2 r1 r2) (oc5 h0 h1 (xGY h2) h3 (xC5 h4) on)) fun h3 h=>cE h (fun h5 h=>bE h fun r2 h7 h=>dS h fk85 (vC1 x0 x4 b2 r1 r2) (oc8 h0 h1 (xGY h2) h3 h1 h5 h1 (xC5 h7) on)) fun h5 h=>tS fk85 (vC2 x0 x4 b2 r1) (oc6 h0 h1 (xGY h2) h3 h1 h5 on) (ih _ _ _ _ h)) fun h0 h=>dS h fk85 (vC3 x0 x4 b2) (oc h0 on)
theorem vGb{N:Nat}:∀a0 r,xJs N a0=some r->RE Tryz.f85 I85 (xGB a0) (xDe r):=fun a0 r h=>tE fk85 (vC4 a0) on (vGa _ _ _ _ _ h)
theorem xKO{N:Nat}{a0:List Val}{r:Val×Bool}(h:xJs N  a0=some r):AbC 85 (xGB a0) (xDe r):=
 AbsCalls.of_reach fk85 rfl rfl rfl (jL rfl) (vGb a0 r h)
noncomputable def I35:Info:= { body:=(Tryz.f35.body).getD .skip,nt:=34,results:=[.cell 4 31,.tmp 5],keep:=[0,2,8,10,12,14,16,28,38,62,9,13],live:=[(5,[0,2,8,16,9])],modes:=[(1,[(2,.take,false)]),(2,[(0,.take,false)]),(3,[(0,.take,false)])] }
theorem fk35:FnOk Tryz.prog 35 Tryz.f35 I35:=by refine⟨Tryz.func35,?_,?_,?_,?_⟩<;>kernel_rfl
def xTo(x0:List Val)(x1:List Int)(x8:Int)(b4:Val):St:=[(0,.v false [.sl .ro .val x0]),(2,.v false [.sl .ro .int x1]),(8,.v false [.ptr 4 0]),(16,.v false [.int .i64 x8]),(9,.v true (Va .own b4))]
abbrev xKF(v0:Int)(v1:List Int):Prop:=(0:Int)<=v0/\v0<(Ln v1)
abbrev xPy(v0:List Val)(v1:Int)(v2:List Int):=((Val.kind (gD v0 (tN v1) vd)):Int) != (gD v2 (tN v1) Ty.int.dflt)
def vBl(x0 x1 x8 b4 r1):rS 5 I35 (xTo x0 x1 x8 b4) [Y,Y] [xAV r1]=dn (xCE (r1,true)) [xRa x8 x0,xG3 x8 x0,xKF x8 x1,iY (xPy x0 x8 x1),AbC 36 (xCd 4) (xAV r1)]:=by kernel_rfl
def vBm(x0 x1 x8 b4):rS 5 I35 (xTo x0 x1 x8 b4) [Y,F] []=st 5 I35 (xTo x0 x1 (W (x8+1)) b4) [xRa x8 x0,xG3 x8 x0,xKF x8 x1,iN (xPy x0 x8 x1)]:=by kernel_rfl
def vBn(x0 x1 x8 b4):rS 5 I35 (xTo x0 x1 x8 b4) [F] []=dn (xCE ((Val.mk 0 0 0 [] [] [] []),false)) [iN (dc (x8<(Ln x0:Int)))]:=by kernel_rfl
def vBo(a0 a1 r1):rE I35 (xGC a0 a1) [Y] [xDe r1]=dn (xCE (r1.1,true)) [AbC 85 (xGB a0) (xDe r1),iY r1.2]:=by kernel_rfl
def vBp(a0 a1 r1):rE I35 (xGC a0 a1) [F] [xDe r1]=st 5 I35 (xTo a0 a1 0 (Val.mk 0 0 0 [] [] [] [])) [AbC 85 (xGB a0) (xDe r1),iN r1.2]:=by kernel_rfl
theorem vFz{N:Nat}:∀n x0 x1 x8 b4 r,xEh N n x0 x1 x8 b4=some r->RS Tryz.f35 I35 5 (xTo x0 x1 x8 b4) (xCE r):=by
 intro n
 induction n with
 |zero=>exact fun _ _ _ _ _ h=>nE h
 |succ n ih=>
  exact fun x0 x1 x8 b4 r h=>cE h (fun h0 h=>iE h fun h1 h=>iE h fun h2 h=>cE h (fun h3 h=>bE h fun r1 h4 h=>dS h fk35 (vBl x0 x1 x8 b4 r1) (oc5 h0 h1 h2 h3 (xC5 h4) on)) fun h3 h=>tS fk35 (vBm x0 x1 x8 b4) (oc4 h0 h1 h2 h3 on) (ih _ _ _ _ _ h)) fun h0 h=>dS h fk35 (vBn x0 x1 x8 b4) (oc h0 on)
theorem vFA{N:Nat}:∀a0 a1 r,xIn N a0 a1=some r->RE Tryz.f35 I35 (xGC a0 a1) (xCE r):=fun a0 a1 r h=>bE h fun r1 h0 h=>cE h (fun h1 h=>dE h fk35 (vBo a0 a1 r1) (oc2 (xKO h0) h1 on)) fun h1 h=>tE fk35 (vBp a0 a1 r1) (oc2 (xKO h0) h1 on) (vFz _ _ _ _ _ _ h)
theorem xGD{N:Nat}{a0:List Val}{a1:List Int}{r:Val×Bool}(h:xIn N  a0 a1=some r):AbC 35 (xGC a0 a1) (xCE r):=
 AbsCalls.of_reach fk35 rfl rfl rfl (jL rfl) (vFA a0 a1 r h)
noncomputable def I61:Info:= { body:=(Tryz.f61.body).getD .skip,nt:=19,results:=[.tmp 4],keep:=[0,2,8,10,18,34],live:=[(2,[0,2,10])],modes:=[] }
theorem fk61:FnOk Tryz.prog 61 Tryz.f61 I61:=by refine⟨Tryz.func61,?_,?_,?_,?_⟩<;>kernel_rfl
def xTt(x0:List Str)(x1:Str)(x5:Int):St:=[(0,.v false [.sl .ro .str x0]),(2,.v false [.str x1]),(10,.v false [.int .i64 x5])]
def vB6(x0 x1 x5):rS 2 I61 (xTt x0 x1 x5) [Y,Y] []=dn (xE5 x5) [xLb x5 x0,xHH x5 x0,iY (xMx x0 x5 x1)]:=by kernel_rfl
def vB7(x0 x1 x5):rS 2 I61 (xTt x0 x1 x5) [Y,F] []=st 2 I61 (xTt x0 x1 (W (x5+1))) [xLb x5 x0,xHH x5 x0,iN (xMx x0 x5 x1)]:=by kernel_rfl
def vB8(x0 x1 x5):rS 2 I61 (xTt x0 x1 x5) [F] []=dn (xE5 (-1)) [xOU x5 x0]:=by kernel_rfl
def vB9(a0 a1):rE I61 (xHB a0 a1) [] []=st 2 I61 (xTt a0 a1 0) []:=by kernel_rfl
theorem vFT{N:Nat}:∀n x0 x1 x5 r,xE4 N n x0 x1 x5=some r->RS Tryz.f61 I61 2 (xTt x0 x1 x5) (xE5 r):=by
 intro n
 induction n with
 |zero=>exact fun _ _ _ _ h=>nE h
 |succ n ih=>
  exact fun x0 x1 x5 r h=>cE h (fun h0 h=>iE h fun h1 h=>cE h (fun h2 h=>dS h fk61 (vB6 x0 x1 x5) (oc3 h0 h1 h2 on)) fun h2 h=>tS fk61 (vB7 x0 x1 x5) (oc3 h0 h1 h2 on) (ih _ _ _ _ h)) fun h0 h=>dS h fk61 (vB8 x0 x1 x5) (oc h0 on)
theorem vFU{N:Nat}:∀a0 a1 r,xJo N a0 a1=some r->RE Tryz.f61 I61 (xHB a0 a1) (xE5 r):=fun a0 a1 r h=>tE fk61 (vB9 a0 a1) on (vFT _ _ _ _ _ h)
theorem xNX{N:Nat}{a0:List Str}{a1:Str}{r:Int}(h:xJo N  a0 a1=some r):AbC 61 (xHB a0 a1) (xE5 r):=
 AbsCalls.of_reach fk61 rfl rfl rfl (jL rfl) (vFU a0 a1 r h)
noncomputable def I18:Info:= { body:=(Tryz.f18.body).getD .skip,nt:=9,results:=[.tmp 4],keep:=[0,2,4,8,5],live:=[],modes:=[] }
theorem fk18:FnOk Tryz.prog 18 Tryz.f18 I18:=by refine⟨Tryz.func18,?_,?_,?_,?_⟩<;>kernel_rfl
def vAX(a0 a1 r1):rE I18 (xFZ a0 a1) [] [xE5 r1]=dn (xBG r1) [AbC 61 (xHB a0.columns a1) (xE5 r1)]:=by kernel_rfl
theorem vFq{N:Nat}:∀a0 a1 r,xDO N a0 a1=some r->RE Tryz.f18 I18 (xFZ a0 a1) (xBG r):=fun a0 a1 r h=>bE h fun r1 h0 h=>dE h fk18 (vAX a0 a1 r1) (oc (xNX h0) on)
theorem xCw{N:Nat}{a0:Val}{a1:Str}{r:Int}(h:xDO N  a0 a1=some r):AbC 18 (xFZ a0 a1) (xBG r):=
 AbsCalls.of_reach fk18 rfl rfl rfl (jL rfl) (vFq a0 a1 r h)
noncomputable def I87:Info:= { body:=(Tryz.f87.body).getD .skip,nt:=87,results:=[.tmp 4],keep:=[0,2,8,10,12,14,36,60,122],live:=[(4,[0,2,10,12,14])],modes:=[(4,[(4,.take,false)]),(5,[(0,.take,false)]),(8,[(4,.take,false),(9,.take,false)]),(9,[(0,.take,false)]),(11,[(4,.take,false)]),(12,[(0,.take,false)]),(14,[(0,.take,false)])] }
theorem fk87:FnOk Tryz.prog 87 Tryz.f87 I87:=by refine⟨Tryz.func87,?_,?_,?_,?_⟩<;>kernel_rfl
def xJu(x0 x1 x5:List Org)(x6 x7:Int):St:=[(0,.v false [.sl .ro .org x0]),(2,.v false [.sl .ro .org x1]),(10,.v false [.sl .own .org x5]),(12,.v false [.int .i64 x6]),(14,.v false [.int .i64 x7])]
abbrev xKr(v0 v1:List Org)(v2:Int):Prop:=Ln v0+Ln [(xD0 v1 v2)]<=Lim
def vC9(x0 x1 x5 x6 x7):rS 4 I87 (xJu x0 x1 x5 x6 x7) [Y,Y,Y,Y] []=st 4 I87 (xJu x0 x1 (x5++ [(xD0 x0 x6)]) (W (x6+1)) x7) [xFL x6 x0,iY true,iY (x7==(Ln x1:Int)),iY true,xDz x6 x0,xKr x5 x0 x6]:=by kernel_rfl
abbrev xKG(v0:Int)(v1:List Org):Prop:=iN (v0==(Ln v1:Int))
abbrev xM0(v0:List Org)(v1:Int)(v2:List Org)(v3:Int)(v4:Bool):Prop:=AbC 126 (xCT (xD0 v0 v1) (xD0 v2 v3)) (xAW v4)
def vDa(x0 x1 x5 x6 x7 r1):rS 4 I87 (xJu x0 x1 x5 x6 x7) [Y,Y,F,Y,Y] [xAW r1]=st 4 I87 (xJu x0 x1 (x5++ [(xD0 x0 x6)]) (W (x6+1)) x7) [xFL x6 x0,iY true,xKG x7 x1,xFL x6 x0,xDz x6 x0,xDz x7 x1,xM0 x0 x6 x1 x7 r1,iY r1,xDz x6 x0,xKr x5 x0 x6]:=by kernel_rfl
def vDb(x0 x1 x5 x6 x7 r1):rS 4 I87 (xJu x0 x1 x5 x6 x7) [Y,Y,F,Y,F,Y,Y] [xAW r1]=st 4 I87 (xJu x0 x1 (x5++ [(xD0 x1 x7)]) x6 (W (x7+1))) [xFL x6 x0,iY true,xKG x7 x1,xFL x6 x0,xDz x6 x0,xDz x7 x1,xM0 x0 x6 x1 x7 r1,iN r1,iY (x6==(Ln x0:Int)),iY true,xDz x7 x1,xKr x5 x1 x7]:=by kernel_rfl
def vDc(x0 x1 x5 x6 x7 r1 r2):rS 4 I87 (xJu x0 x1 x5 x6 x7) [Y,Y,F,Y,F,F,Y] [xAW r1,xAW r2]=st 4 I87 (xJu x0 x1 (x5++ [(xD0 x1 x7)]) x6 (W (x7+1))) [xFL x6 x0,iY true,xKG x7 x1,xFL x6 x0,xDz x6 x0,xDz x7 x1,xM0 x0 x6 x1 x7 r1,iN r1,xKG x6 x0,xDz x7 x1,xDz x6 x0,xM0 x1 x7 x0 x6 r2,iY r2,xDz x7 x1,xKr x5 x1 x7]:=by kernel_rfl
def vDd(x0 x1 x5 x6 x7 r1 r2):rS 4 I87 (xJu x0 x1 x5 x6 x7) [Y,Y,F,Y,F,F,F] [xAW r1,xAW r2]=st 4 I87 (xJu x0 x1 (x5++ [(xD0 x0 x6)]) (W (x6+1)) (W (x7+1))) [xFL x6 x0,iY true,xKG x7 x1,xFL x6 x0,xDz x6 x0,xDz x7 x1,xM0 x0 x6 x1 x7 r1,iN r1,xKG x6 x0,xDz x7 x1,xDz x6 x0,xM0 x1 x7 x0 x6 r2,iN r2,xDz x6 x0,xKr x5 x0 x6]:=by kernel_rfl
def vDe(x0 x1 x5 x6 x7):rS 4 I87 (xJu x0 x1 x5 x6 x7) [F,Y,Y,Y] []=st 4 I87 (xJu x0 x1 (x5++ [(xD0 x0 x6)]) (W (x6+1)) x7) [xIX x6 x0,xFL x7 x1,iY (x7==(Ln x1:Int)),iY true,xDz x6 x0,xKr x5 x0 x6]:=by kernel_rfl
def vDf(x0 x1 x5 x6 x7):rS 4 I87 (xJu x0 x1 x5 x6 x7) [F,Y,F,F,F,Y,Y] []=st 4 I87 (xJu x0 x1 (x5++ [(xD0 x1 x7)]) x6 (W (x7+1))) [xIX x6 x0,xFL x7 x1,xKG x7 x1,xIX x6 x0,iN false,iY (x6==(Ln x0:Int)),iY true,xDz x7 x1,xKr x5 x1 x7]:=by kernel_rfl
def vDg(x0 x1 x5 x6 x7 r1):rS 4 I87 (xJu x0 x1 x5 x6 x7) [F,Y,F,F,F,F,Y] [xAW r1]=st 4 I87 (xJu x0 x1 (x5++ [(xD0 x1 x7)]) x6 (W (x7+1))) [xIX x6 x0,xFL x7 x1,xKG x7 x1,xIX x6 x0,iN false,xKG x6 x0,xDz x7 x1,xDz x6 x0,xM0 x1 x7 x0 x6 r1,iY r1,xDz x7 x1,xKr x5 x1 x7]:=by kernel_rfl
def vDh(x0 x1 x5 x6 x7 r1):rS 4 I87 (xJu x0 x1 x5 x6 x7) [F,Y,F,F,F,F,F] [xAW r1]=st 4 I87 (xJu x0 x1 (x5++ [(xD0 x0 x6)]) (W (x6+1)) (W (x7+1))) [xIX x6 x0,xFL x7 x1,xKG x7 x1,xIX x6 x0,iN false,xKG x6 x0,xDz x7 x1,xDz x6 x0,xM0 x1 x7 x0 x6 r1,iN r1,xDz x6 x0,xKr x5 x0 x6]:=by kernel_rfl
def vDi(x0 x1 x5 x6 x7):rS 4 I87 (xJu x0 x1 x5 x6 x7) [F,F] []=dn (xEi x5) [xIX x6 x0,xIX x7 x1]:=by kernel_rfl
def xZ2(a0 a1):rE I87 (xGE a0 a1) [] []=st 4 I87 (xJu a0 a1 [] 0 0) []:=by kernel_rfl
theorem vGe{N:Nat}:∀n x0 x1 x5 x6 x7 r,xBE N n x0 x1 x5 x6 x7=some r->RS Tryz.f87 I87 4 (xJu x0 x1 x5 x6 x7) (xEi r):=by
 intro n
 induction n with
 |zero=>exact fun _ _ _ _ _ _ h=>nE h
 |succ n ih=>
  exact fun x0 x1 x5 x6 x7 r h=>cE h (fun h0 h=>cE h (fun h2 h=>iE h fun h4 h=>iE h fun h5 h=>tS fk87 (vC9 x0 x1 x5 x6 x7) (oc6 h0 rfl h2 rfl h4 h5 on) (ih _ _ _ _ _ _ h)) fun h2 h=>iE h fun h4 h=>iE h fun h5 h=>bE h fun r1 h6 h=>cE h (fun h7 h=>iE h fun h9 h=>tS fk87 (vDa x0 x1 x5 x6 x7 r1) (oc10 h0 rfl h2 h0 h4 h5 (xCl h6) h7 h4 h9 on) (ih _ _ _ _ _ _ h)) fun h7 h=>cE h (fun h8 h=>iE h fun h11 h=>tS fk87 (vDb x0 x1 x5 x6 x7 r1) (oc12 h0 rfl h2 h0 h4 h5 (xCl h6) h7 h8 rfl h5 h11 on) (ih _ _ _ _ _ _ h)) fun h8 h=>bE h fun r2 h11 h=>cE h (fun h12 h=>iE h fun h14 h=>tS fk87 (vDc x0 x1 x5 x6 x7 r1 r2) (oc12 h0 rfl h2 h0 h4 h5 (xCl h6) h7 h8 h5 h4 (xCl h11) (oc3 h12 h5 h14 on)) (ih _ _ _ _ _ _ h)) fun h12 h=>iE h fun h14 h=>tS fk87 (vDd x0 x1 x5 x6 x7 r1 r2) (oc12 h0 rfl h2 h0 h4 h5 (xCl h6) h7 h8 h5 h4 (xCl h11) (oc3 h12 h4 h14 on)) (ih _ _ _ _ _ _ h)) fun h0 h=>cE h (fun h1 h=>cE h (fun h2 h=>iE h fun h4 h=>iE h fun h5 h=>tS fk87 (vDe x0 x1 x5 x6 x7) (oc6 h0 h1 h2 rfl h4 h5 on) (ih _ _ _ _ _ _ h)) fun h2 h=>cE h (fun h5 h=>iE h fun h7 h=>iE h fun h8 h=>tS fk87 (vDf x0 x1 x5 x6 x7) (oc9 h0 h1 h2 h0 rfl h5 rfl h7 h8 on) (ih _ _ _ _ _ _ h)) fun h5 h=>iE h fun h6 h=>iE h fun h7 h=>bE h fun r1 h8 h=>cE h (fun h9 h=>iE h fun h11 h=>tS fk87 (vDg x0 x1 x5 x6 x7 r1) (oc12 h0 h1 h2 h0 rfl h5 h6 h7 (xCl h8) h9 h6 h11 on) (ih _ _ _ _ _ _ h)) fun h9 h=>iE h fun h11 h=>tS fk87 (vDh x0 x1 x5 x6 x7 r1) (oc12 h0 h1 h2 h0 rfl h5 h6 h7 (xCl h8) h9 h7 h11 on) (ih _ _ _ _ _ _ h)) fun h1 h=>dS h fk87 (vDi x0 x1 x5 x6 x7) (oc2 h0 h1 on)
theorem vGf{N:Nat}:∀a0 a1 r,xIp N a0 a1=some r->RE Tryz.f87 I87 (xGE a0 a1) (xEi r):=fun a0 a1 r h=>tE fk87 (xZ2 a0 a1) on (vGe _ _ _ _ _ _ _ h)
theorem xKP{N:Nat}{a0:List Org}{a1:List Org}{r:(List Org)}(h:xIp N  a0 a1=some r):AbC 87 (xGE a0 a1) (xEi r):=
 AbsCalls.of_reach fk87 rfl rfl rfl (jL rfl) (vGf a0 a1 r h)
end Go.Ab.T
end
section
open Go.Proofs
namespace Go.Ab.T
set_option maxRecDepth 100000
variable [Inhabited Lb]
noncomputable def I114:Info:= { body:=(Tryz.f114.body).getD .skip,nt:=15,results:=[.tmp 6],keep:=[0,2,4,12],live:=[],modes:=[(1,[(3,.take,false)])] }
theorem vAD:FnOk Tryz.prog 114 Tryz.f114 I114:=by refine⟨Tryz.func114,?_,?_,?_,?_⟩<;>kernel_rfl
def xWI(a0 a1 a2):rE I114 (xEa a0 a1 a2) [Y] []=dn (xCq (dc (a0<=a2))) [xK3 a1 a0]:=by kernel_rfl
def xWJ(a0 a1 a2):rE I114 (xEa a0 a1 a2) [F] []=dn (xCq false) [xOi a1 a0]:=by kernel_rfl
theorem vDX{N:Nat}:∀a0 a1 a2 r,xGz N a0 a1 a2=some r->RE Tryz.f114 I114 (xEa a0 a1 a2) (xCq r):=fun a0 a1 a2 r h=>cE h (fun h0 h=>dE h vAD (xWI a0 a1 a2) (oc h0 on)) fun h0 h=>dE h vAD (xWJ a0 a1 a2) (oc h0 on)
theorem xG2{N:Nat}{a0:Int}{a1:Int}{a2:Int}{r:Bool}(h:xGz N  a0 a1 a2=some r):AbC 114 (xEa a0 a1 a2) (xCq r):=
 AbsCalls.of_reach vAD rfl rfl rfl (jL rfl) (vDX a0 a1 a2 r h)
noncomputable def I82:Info:= { body:=(Tryz.f82.body).getD .skip,nt:=5,results:=[.tmp 2],keep:=[0,4],live:=[],modes:=[] }
theorem fk82:FnOk Tryz.prog 82 Tryz.f82 I82:=by refine⟨Tryz.func82,?_,?_,?_,?_⟩<;>kernel_rfl
def vCU(a0 r1):rE I82 (xDf a0) [] [xCq r1]=dn (xBQ r1) [AbC 114 (xEa a0 (-1000000000) 1000000000) (xCq r1)]:=by kernel_rfl
theorem vF6{N:Nat}:∀a0 r,xFn N a0=some r->RE Tryz.f82 I82 (xDf a0) (xBQ r):=fun a0 r h=>bE h fun r1 h0 h=>dE h fk82 (vCU a0 r1) (oc (xG2 h0) on)
theorem xFi{N:Nat}{a0:Int}{r:Bool}(h:xFn N  a0=some r):AbC 82 (xDf a0) (xBQ r):=
 AbsCalls.of_reach fk82 rfl rfl rfl (jL rfl) (vF6 a0 r h)
noncomputable def I113:Info:= { body:=(Tryz.f113.body).getD .skip,nt:=29,results:=[.tmp 2],keep:=[0,4,6,14,50],live:=[(2,[0,6])],modes:=[(4,[(4,.take,false),(10,.take,false)])] }
theorem xSe:FnOk Tryz.prog 113 Tryz.f113 I113:=by refine⟨Tryz.func113,?_,?_,?_,?_⟩<;>kernel_rfl
def xMK(x0:Str)(x3:Int):St:=[(0,.v false [.str x0]),(6,.v false [.int .i64 x3])]
def xWC(x0 x3):rS 2 I113 (xMK x0 x3) [Y,Y,Y,Y] []=dn (xCv false) [xFr x3 x0,xBo x3 x0,iY (xSq x0 x3),iY true,iY true]:=by kernel_rfl
def xWD(x0 x3):rS 2 I113 (xMK x0 x3) [Y,F,Y,Y] []=dn (xCv false) [xFr x3 x0,xBo x3 x0,xOS x0 x3,xBo x3 x0,iY (xSr x0 x3),iY true]:=by kernel_rfl
def xWE(x0 x3):rS 2 I113 (xMK x0 x3) [Y,F,F,Y] []=dn (xCv false) [xFr x3 x0,xBo x3 x0,xOS x0 x3,xBo x3 x0,xS9 x0 x3,xBo x3 x0,iY (xPs x0 x3)]:=by kernel_rfl
def xWF(x0 x3):rS 2 I113 (xMK x0 x3) [Y,F,F,F] []=st 2 I113 (xMK x0 (W (x3+1))) [xFr x3 x0,xBo x3 x0,xOS x0 x3,xBo x3 x0,xS9 x0 x3,xBo x3 x0,iN (xPs x0 x3)]:=by kernel_rfl
def xWG(x0 x3):rS 2 I113 (xMK x0 x3) [F] []=dn (xCv (dc ((Ln x0:Int)<=20))) [iN (dc (x3<(Ln x0:Int)))]:=by kernel_rfl
def xWH(a0):rE I113 (xFT a0) [] []=st 2 I113 (xMK a0 0) []:=by kernel_rfl
theorem vDV{N:Nat}:∀n x0 x3 r,xEU N n x0 x3=some r->RS Tryz.f113 I113 2 (xMK x0 x3) (xCv r):=by
 intro n
 induction n with
 |zero=>exact fun _ _ _ h=>nE h
 |succ n ih=>
  exact fun x0 x3 r h=>cE h (fun h0 h=>iE h fun h1 h=>cE h (fun h2 h=>dS h xSe (xWC x0 x3) (oc5 h0 h1 h2 rfl rfl on)) fun h2 h=>cE h (fun h4 h=>dS h xSe (xWD x0 x3) (oc6 h0 h1 h2 h1 h4 rfl on)) fun h4 h=>cE h (fun h6 h=>dS h xSe (xWE x0 x3) (oc7 h0 h1 h2 h1 h4 h1 h6 on)) fun h6 h=>tS xSe (xWF x0 x3) (oc7 h0 h1 h2 h1 h4 h1 h6 on) (ih _ _ _ h)) fun h0 h=>dS h xSe (xWG x0 x3) (oc h0 on)
theorem vDW{N:Nat}:∀a0 r,xHb N a0=some r->RE Tryz.f113 I113 (xFT a0) (xCv r):=fun a0 r h=>tE xSe (xWH a0) on (vDV _ _ _ _ h)
theorem xLo{N:Nat}{a0:Str}{r:Bool}(h:xHb N  a0=some r):AbC 113 (xFT a0) (xCv r):=
 AbsCalls.of_reach xSe rfl rfl rfl (jL rfl) (vDW a0 r h)
noncomputable def I185:Info:= { body:=(Tryz.f185.body).getD .skip,nt:=42,results:=[.tmp 2],keep:=[0,4,6,8,16,76],live:=[(2,[0,6])],modes:=[(4,[(4,.take,false)]),(5,[(0,.take,false),(2,.take,false),(5,.take,false),(11,.take,false)])] }
theorem xM5:FnOk Tryz.prog 185 Tryz.f185 I185:=by refine⟨Tryz.func185,?_,?_,?_,?_⟩<;>kernel_rfl
def xIH(x0:Str)(x3:Int):St:=[(0,.v false [.str x0]),(6,.v false [.int .i64 x3])]
def xYc(x0 x3):rS 2 I185 (xIH x0 x3) [Y,Y,Y,Y,Y,Y] []=dn (xCp false) [xFr x3 x0,xBo x3 x0,xKp x0 x3,xBo x3 x0,xLX x0 x3,iY (x3==0),iY true,iY true]:=by kernel_rfl
abbrev xSv(v0:Str)(v1:Int):=dc ((((gD v0 (tN v1) 0).toNat:Int):Int)<48)
def xYd(x0 x3):rS 2 I185 (xIH x0 x3) [Y,Y,Y,F,Y,Y] []=dn (xCp false) [xFr x3 x0,xBo x3 x0,xKp x0 x3,xBo x3 x0,xLX x0 x3,xIW x3,xBo x3 x0,iY (xSv x0 x3),iY true]:=by kernel_rfl
abbrev xTb(v0:Str)(v1:Int):Prop:=iN (xSv v0 v1)
abbrev xPz(v0:Str)(v1:Int):=dc ((((gD v0 (tN v1) 0).toNat:Int):Int)>57)
def xYe(x0 x3):rS 2 I185 (xIH x0 x3) [Y,Y,Y,F,F,Y] []=dn (xCp false) [xFr x3 x0,xBo x3 x0,xKp x0 x3,xBo x3 x0,xLX x0 x3,xIW x3,xBo x3 x0,xTb x0 x3,xBo x3 x0,iY (xPz x0 x3)]:=by kernel_rfl
def xYf(x0 x3):rS 2 I185 (xIH x0 x3) [Y,Y,Y,F,F,F] []=st 2 I185 (xIH x0 (W (x3+1))) [xFr x3 x0,xBo x3 x0,xKp x0 x3,xBo x3 x0,xLX x0 x3,xIW x3,xBo x3 x0,xTb x0 x3,xBo x3 x0,iN (xPz x0 x3)]:=by kernel_rfl
def xYg(x0 x3):rS 2 I185 (xIH x0 x3) [Y,Y,F,F] []=st 2 I185 (xIH x0 (W (x3+1))) [xFr x3 x0,xBo x3 x0,xKp x0 x3,xBo x3 x0,xUS x0 x3,iN false]:=by kernel_rfl
def xYh(x0 x3):rS 2 I185 (xIH x0 x3) [Y,F,Y,Y,Y,Y] []=dn (xCp false) [xFr x3 x0,xBo x3 x0,xLY x0 x3,iY (!false),iY (x3==0),iY true,iY true]:=by kernel_rfl
def xYi(x0 x3):rS 2 I185 (xIH x0 x3) [Y,F,Y,F,Y,Y] []=dn (xCp false) [xFr x3 x0,xBo x3 x0,xLY x0 x3,iY (!false),xIW x3,xBo x3 x0,iY (xSv x0 x3),iY true]:=by kernel_rfl
def xYj(x0 x3):rS 2 I185 (xIH x0 x3) [Y,F,Y,F,F,Y] []=dn (xCp false) [xFr x3 x0,xBo x3 x0,xLY x0 x3,iY (!false),xIW x3,xBo x3 x0,xTb x0 x3,xBo x3 x0,iY (xPz x0 x3)]:=by kernel_rfl
def xYk(x0 x3):rS 2 I185 (xIH x0 x3) [Y,F,Y,F,F,F] []=st 2 I185 (xIH x0 (W (x3+1))) [xFr x3 x0,xBo x3 x0,xLY x0 x3,iY (!false),xIW x3,xBo x3 x0,xTb x0 x3,xBo x3 x0,iN (xPz x0 x3)]:=by kernel_rfl
def xYl(x0 x3 r1):rS 2 I185 (xIH x0 x3) [F] [xCq r1]=dn (xCp r1) [iN (dc (x3<(Ln x0:Int))),AbC 114 (xEa (Ln x0:Int) 1 8) (xCq r1)]:=by kernel_rfl
def xVg(a0):rE I185 (xG0 a0) [] []=st 2 I185 (xIH a0 0) []:=by kernel_rfl
theorem vED{N:Nat}:∀n x0 x3 r,xD9 N n x0 x3=some r->RS Tryz.f185 I185 2 (xIH x0 x3) (xCp r):=by
 intro n
 induction n with
 |zero=>exact fun _ _ _ h=>nE h
 |succ n ih=>
  exact fun x0 x3 r h=>cE h (fun h0 h=>iE h fun h1 h=>cE h (fun h2 h=>cE h (fun h4 h=>cE h (fun h5 h=>dS h xM5 (xYc x0 x3) (oc8 h0 h1 h2 h1 h4 h5 rfl rfl on)) fun h5 h=>cE h (fun h7 h=>dS h xM5 (xYd x0 x3) (oc9 h0 h1 h2 h1 h4 h5 h1 h7 rfl on)) fun h7 h=>cE h (fun h9 h=>dS h xM5 (xYe x0 x3) (oc10 h0 h1 h2 h1 h4 h5 h1 h7 h1 h9 on)) fun h9 h=>tS xM5 (xYf x0 x3) (oc10 h0 h1 h2 h1 h4 h5 h1 h7 h1 h9 on) (ih _ _ _ h)) fun h4 h=>tS xM5 (xYg x0 x3) (oc6 h0 h1 h2 h1 h4 rfl on) (ih _ _ _ h)) fun h2 h=>cE h (fun h4 h=>dS h xM5 (xYh x0 x3) (oc7 h0 h1 h2 rfl h4 rfl rfl on)) fun h4 h=>cE h (fun h6 h=>dS h xM5 (xYi x0 x3) (oc8 h0 h1 h2 rfl h4 h1 h6 rfl on)) fun h6 h=>cE h (fun h8 h=>dS h xM5 (xYj x0 x3) (oc9 h0 h1 h2 rfl h4 h1 h6 h1 h8 on)) fun h8 h=>tS xM5 (xYk x0 x3) (oc9 h0 h1 h2 rfl h4 h1 h6 h1 h8 on) (ih _ _ _ h)) fun h0 h=>bE h fun r1 h1 h=>dS h xM5 (xYl x0 x3 r1) (oc2 h0 (xG2 h1) on)
theorem vEE{N:Nat}:∀a0 r,xJ4 N a0=some r->RE Tryz.f185 I185 (xG0 a0) (xCp r):=fun a0 r h=>tE xM5 (xVg a0) on (vED _ _ _ _ h)
theorem xK8{N:Nat}{a0:Str}{r:Bool}(h:xJ4 N  a0=some r):AbC 185 (xG0 a0) (xCp r):=
 AbsCalls.of_reach xM5 rfl rfl rfl (jL rfl) (vEE a0 r h)
noncomputable def I195:Info:= { body:=(Tryz.f195.body).getD .skip,nt:=26,results:=[.tmp 2],keep:=[0,4,6,8,12,24,40,48],live:=[],modes:=[] }
theorem xJ3:FnOk Tryz.prog 195 Tryz.f195 I195:=by refine⟨Tryz.func195,?_,?_,?_,?_⟩<;>kernel_rfl
def xYF(a0):rE I195 (xAx a0) [Y] []=dn (xAt 0) [iY ((a0:Str)== [99,108,111,99,107])]:=by kernel_rfl
abbrev xIj(v0:Str):Prop:=iN ((v0:Str)== [99,108,111,99,107])
def xYG(a0):rE I195 (xAx a0) [F,Y,Y] []=dn (xAt 1) [xIj a0,iY ((a0:Str)== [108,101,110]),iY ((a0:Str)== [108,101,110])]:=by kernel_rfl
abbrev xIx(v0:Str):Prop:=iN ((v0:Str)== [108,101,110])
def xYH(a0):rE I195 (xAx a0) [F,F,Y,Y] []=dn (xAt 1) [xIj a0,xIx a0,iY ((a0:Str)== [115,117,109]),iY ((a0:Str)== [115,117,109])]:=by kernel_rfl
abbrev xI0(v0:Str):Prop:=iN ((v0:Str)== [115,117,109])
abbrev xSw(v0:Str):=(v0:Str)== [114,111,119,115]
def xYI(a0):rE I195 (xAx a0) [F,F,F,Y,Y] []=dn (xAt 1) [xIj a0,xIx a0,xI0 a0,iY (xSw a0),iY (xSw a0)]:=by kernel_rfl
abbrev xJk(v0:Str):Prop:=iN (xSw v0)
abbrev xSx(v0:Str):=(v0:Str)== [99,104,97,110,99,101]
def xYJ(a0):rE I195 (xAx a0) [F,F,F,F,Y,Y] []=dn (xAt 1) [xIj a0,xIx a0,xI0 a0,xJk a0,iY (xSx a0),iY (xSx a0)]:=by kernel_rfl
abbrev xJS(v0:Str):Prop:=iN (xSx v0)
def xYK(a0):rE I195 (xAx a0) [F,F,F,F,F,Y] []=dn (xAt 1) [xIj a0,xIx a0,xI0 a0,xJk a0,xJS a0,iY ((a0:Str)== [102,105,108,101])]:=by kernel_rfl
abbrev xKs(v0:Str):Prop:=iN ((v0:Str)== [102,105,108,101])
abbrev xSy(v0:Str):=(v0:Str)== [116,97,107,101]
def xYL(a0):rE I195 (xAx a0) [F,F,F,F,F,F,Y,Y] []=dn (xAt 2) [xIj a0,xIx a0,xI0 a0,xJk a0,xJS a0,xKs a0,iY (xSy a0),iY (xSy a0)]:=by kernel_rfl
abbrev xKI(v0:Str):Prop:=iN (xSy v0)
abbrev xSz(v0:Str):=(v0:Str)== [115,107,105,112]
def xYM(a0):rE I195 (xAx a0) [F,F,F,F,F,F,F,Y,Y] []=dn (xAt 2) [xIj a0,xIx a0,xI0 a0,xJk a0,xJS a0,xKs a0,xKI a0,iY (xSz a0),iY (xSz a0)]:=by kernel_rfl
abbrev xLd(v0:Str):Prop:=iN (xSz v0)
abbrev xSA(v0:Str):=(v0:Str)== [114,97,110,103,101]
def xYN(a0):rE I195 (xAx a0) [F,F,F,F,F,F,F,F,Y,Y] []=dn (xAt 2) [xIj a0,xIx a0,xI0 a0,xJk a0,xJS a0,xKs a0,xKI a0,xLd a0,iY (xSA a0),iY (xSA a0)]:=by kernel_rfl
abbrev xL1(v0:Str):Prop:=iN (xSA v0)
def xYO(a0):rE I195 (xAx a0) [F,F,F,F,F,F,F,F,F,Y,Y] []=dn (xAt 2) [xIj a0,xIx a0,xI0 a0,xJk a0,xJS a0,xKs a0,xKI a0,xLd a0,xL1 a0,iY ((a0:Str)== [110,116,104]),iY ((a0:Str)== [110,116,104])]:=by kernel_rfl
abbrev xM1(v0:Str):Prop:=iN ((v0:Str)== [110,116,104])
abbrev xSB(v0:Str):=(v0:Str)== [107,101,101,112]
def xVl(a0):rE I195 (xAx a0) [F,F,F,F,F,F,F,F,F,F,Y,Y] []=dn (xAt 2) [xIj a0,xIx a0,xI0 a0,xJk a0,xJS a0,xKs a0,xKI a0,xLd a0,xL1 a0,xM1 a0,iY (xSB a0),iY (xSB a0)]:=by kernel_rfl
abbrev xNL(v0:Str):Prop:=iN (xSB v0)
abbrev xSC(v0:Str):=(v0:Str)== [99,111,108,117,109,110]
def xVm(a0):rE I195 (xAx a0) [F,F,F,F,F,F,F,F,F,F,F,Y,Y] []=dn (xAt 2) [xIj a0,xIx a0,xI0 a0,xJk a0,xJS a0,xKs a0,xKI a0,xLd a0,xL1 a0,xM1 a0,xNL a0,iY (xSC a0),iY (xSC a0)]:=by kernel_rfl
abbrev xOW(v0:Str):Prop:=iN (xSC v0)
def xVn(a0):rE I195 (xAx a0) [F,F,F,F,F,F,F,F,F,F,F,F,Y] []=dn (xAt 2) [xIj a0,xIx a0,xI0 a0,xJk a0,xJS a0,xKs a0,xKI a0,xLd a0,xL1 a0,xM1 a0,xNL a0,xOW a0,iY ((a0:Str)== [116,97,98,108,101])]:=by kernel_rfl
abbrev xRb(v0:Str):Prop:=iN ((v0:Str)== [116,97,98,108,101])
abbrev xSD(v0:Str):=(v0:Str)== [119,104,101,114,101]
def xVo(a0):rE I195 (xAx a0) [F,F,F,F,F,F,F,F,F,F,F,F,F,Y,Y] []=dn (xAt 3) [xIj a0,xIx a0,xI0 a0,xJk a0,xJS a0,xKs a0,xKI a0,xLd a0,xL1 a0,xM1 a0,xNL a0,xOW a0,xRb a0,iY (xSD a0),iY (xSD a0)]:=by kernel_rfl
abbrev xTc(v0:Str):Prop:=iN (xSD v0)
abbrev xSE(v0:Str):=(v0:Str)== [103,114,111,117,112]
def xVp(a0):rE I195 (xAx a0) [F,F,F,F,F,F,F,F,F,F,F,F,F,F,Y,Y] []=dn (xAt 3) [xIj a0,xIx a0,xI0 a0,xJk a0,xJS a0,xKs a0,xKI a0,xLd a0,xL1 a0,xM1 a0,xNL a0,xOW a0,xRb a0,xTc a0,iY (xSE a0),iY (xSE a0)]:=by kernel_rfl
abbrev xUT(v0:Str):Prop:=iN (xSE v0)
abbrev xSF(v0:Str):=(v0:Str)== [106,111,105,110]
def xVq(a0):rE I195 (xAx a0) [F,F,F,F,F,F,F,F,F,F,F,F,F,F,F,Y] []=dn (xAt 3) [xIj a0,xIx a0,xI0 a0,xJk a0,xJS a0,xKs a0,xKI a0,xLd a0,xL1 a0,xM1 a0,xNL a0,xOW a0,xRb a0,xTc a0,xUT a0,iY (xSF a0)]:=by kernel_rfl
def xVr(a0):rE I195 (xAx a0) [F,F,F,F,F,F,F,F,F,F,F,F,F,F,F,F,Y] []=dn (xAt 4) [xIj a0,xIx a0,xI0 a0,xJk a0,xJS a0,xKs a0,xKI a0,xLd a0,xL1 a0,xM1 a0,xNL a0,xOW a0,xRb a0,xTc a0,xUT a0,iN (xSF a0),iY ((a0:Str)== [97,100,100])]:=by kernel_rfl
def xVs(a0):rE I195 (xAx a0) [F,F,F,F,F,F,F,F,F,F,F,F,F,F,F,F,F] []=dn (xAt (-1)) [xIj a0,xIx a0,xI0 a0,xJk a0,xJS a0,xKs a0,xKI a0,xLd a0,xL1 a0,xM1 a0,xNL a0,xOW a0,xRb a0,xTc a0,xUT a0,iN (xSF a0),iN ((a0:Str)== [97,100,100])]:=by kernel_rfl
theorem vEJ{N:Nat}:∀a0 r,xGq N a0=some r->RE Tryz.f195 I195 (xAx a0) (xAt r):=fun a0 r h=>cE h (fun h0 h=>dE h xJ3 (xYF a0) (oc h0 on)) fun h0 h=>cE h (fun h1 h=>dE h xJ3 (xYG a0) (oc3 h0 h1 h1 on)) fun h1 h=>cE h (fun h2 h=>dE h xJ3 (xYH a0) (oc4 h0 h1 h2 h2 on)) fun h2 h=>cE h (fun h3 h=>dE h xJ3 (xYI a0) (oc5 h0 h1 h2 h3 h3 on)) fun h3 h=>cE h (fun h4 h=>dE h xJ3 (xYJ a0) (oc6 h0 h1 h2 h3 h4 h4 on)) fun h4 h=>cE h (fun h5 h=>dE h xJ3 (xYK a0) (oc6 h0 h1 h2 h3 h4 h5 on)) fun h5 h=>cE h (fun h6 h=>dE h xJ3 (xYL a0) (oc8 h0 h1 h2 h3 h4 h5 h6 h6 on)) fun h6 h=>cE h (fun h7 h=>dE h xJ3 (xYM a0) (oc9 h0 h1 h2 h3 h4 h5 h6 h7 h7 on)) fun h7 h=>cE h (fun h8 h=>dE h xJ3 (xYN a0) (oc10 h0 h1 h2 h3 h4 h5 h6 h7 h8 h8 on)) fun h8 h=>cE h (fun h9 h=>dE h xJ3 (xYO a0) (oc11 h0 h1 h2 h3 h4 h5 h6 h7 h8 h9 h9 on)) fun h9 h=>cE h (fun h10 h=>dE h xJ3 (xVl a0) (oc12 h0 h1 h2 h3 h4 h5 h6 h7 h8 h9 h10 h10 on)) fun h10 h=>cE h (fun h11 h=>dE h xJ3 (xVm a0) (oc12 h0 h1 h2 h3 h4 h5 h6 h7 h8 h9 h10 h11 (oc h11 on))) fun h11 h=>cE h (fun h12 h=>dE h xJ3 (xVn a0) (oc12 h0 h1 h2 h3 h4 h5 h6 h7 h8 h9 h10 h11 (oc h12 on))) fun h12 h=>cE h (fun h13 h=>dE h xJ3 (xVo a0) (oc12 h0 h1 h2 h3 h4 h5 h6 h7 h8 h9 h10 h11 (oc3 h12 h13 h13 on))) fun h13 h=>cE h (fun h14 h=>dE h xJ3 (xVp a0) (oc12 h0 h1 h2 h3 h4 h5 h6 h7 h8 h9 h10 h11 (oc4 h12 h13 h14 h14 on))) fun h14 h=>cE h (fun h15 h=>dE h xJ3 (xVq a0) (oc12 h0 h1 h2 h3 h4 h5 h6 h7 h8 h9 h10 h11 (oc4 h12 h13 h14 h15 on))) fun h15 h=>cE h (fun h16 h=>dE h xJ3 (xVr a0) (oc12 h0 h1 h2 h3 h4 h5 h6 h7 h8 h9 h10 h11 (oc5 h12 h13 h14 h15 h16 on))) fun h16 h=>
 dE h xJ3 (xVs a0) (oc12 h0 h1 h2 h3 h4 h5 h6 h7 h8 h9 h10 h11 (oc5 h12 h13 h14 h15 h16 on))
theorem xKy{N:Nat}{a0:Str}{r:Int}(h:xGq N  a0=some r):AbC 195 (xAx a0) (xAt r):=
 AbsCalls.of_reach xJ3 rfl rfl rfl (jL rfl) (vEJ a0 r h)
noncomputable def I186:Info:= { body:=(Tryz.f186.body).getD .skip,nt:=15,results:=[.tmp 2],keep:=[0,4,6,8],live:=[],modes:=[] }
theorem xPb:FnOk Tryz.prog 186 Tryz.f186 I186:=by refine⟨Tryz.func186,?_,?_,?_,?_⟩<;>kernel_rfl
def xYm(a0):rE I186 (xCc a0) [Y,Y] []=dn (xBZ true) [iY ((a0:Str)== [108,101,116]),iY ((a0:Str)== [108,101,116])]:=by kernel_rfl
abbrev xNM(v0:Str):Prop:=iN ((v0:Str)== [108,101,116])
def xYn(a0):rE I186 (xCc a0) [F,Y,Y] []=dn (xBZ true) [xNM a0,iY ((a0:Str)== [105,110]),iY ((a0:Str)== [105,110])]:=by kernel_rfl
abbrev xOX(v0:Str):Prop:=iN ((v0:Str)== [105,110])
def xYo(a0):rE I186 (xCc a0) [F,F,Y,Y] []=dn (xBZ true) [xNM a0,xOX a0,iY ((a0:Str)== [105,102]),iY ((a0:Str)== [105,102])]:=by kernel_rfl
abbrev xRc(v0:Str):Prop:=iN ((v0:Str)== [105,102])
abbrev xSG(v0:Str):=(v0:Str)== [116,104,101,110]
def xYp(a0):rE I186 (xCc a0) [F,F,F,Y,Y] []=dn (xBZ true) [xNM a0,xOX a0,xRc a0,iY (xSG a0),iY (xSG a0)]:=by kernel_rfl
abbrev xTd(v0:Str):Prop:=iN (xSG v0)
abbrev xSH(v0:Str):=(v0:Str)== [101,108,115,101]
def xYq(a0):rE I186 (xCc a0) [F,F,F,F,Y,Y] []=dn (xBZ true) [xNM a0,xOX a0,xRc a0,xTd a0,iY (xSH a0),iY (xSH a0)]:=by kernel_rfl
abbrev xUU(v0:Str):Prop:=iN (xSH v0)
abbrev xPA(v0:Str):=(v0:Str)== [102,111,114]
def xYr(a0):rE I186 (xCc a0) [F,F,F,F,F,Y,Y] []=dn (xBZ true) [xNM a0,xOX a0,xRc a0,xTd a0,xUU a0,iY (xPA a0),iY (xPA a0)]:=by kernel_rfl
def xYs(a0):rE I186 (xCc a0) [F,F,F,F,F,F,Y] []=dn (xBZ true) [xNM a0,xOX a0,xRc a0,xTd a0,xUU a0,iN (xPA a0),iY ((a0:Str)== [100,111])]:=by kernel_rfl
def xYt(a0 r1):rE I186 (xCc a0) [F,F,F,F,F,F,F] [xAt r1]=dn (xBZ (dc (r1>=0))) [xNM a0,xOX a0,xRc a0,xTd a0,xUU a0,iN (xPA a0),iN ((a0:Str)== [100,111]),AbC 195 (xAx a0) (xAt r1)]:=by kernel_rfl
theorem vEF{N:Nat}:∀a0 r,xGy N a0=some r->RE Tryz.f186 I186 (xCc a0) (xBZ r):=fun a0 r h=>cE h (fun h0 h=>dE h xPb (xYm a0) (oc2 h0 h0 on)) fun h0 h=>cE h (fun h1 h=>dE h xPb (xYn a0) (oc3 h0 h1 h1 on)) fun h1 h=>cE h (fun h2 h=>dE h xPb (xYo a0) (oc4 h0 h1 h2 h2 on)) fun h2 h=>cE h (fun h3 h=>dE h xPb (xYp a0) (oc5 h0 h1 h2 h3 h3 on)) fun h3 h=>cE h (fun h4 h=>dE h xPb (xYq a0) (oc6 h0 h1 h2 h3 h4 h4 on)) fun h4 h=>cE h (fun h5 h=>dE h xPb (xYr a0) (oc7 h0 h1 h2 h3 h4 h5 h5 on)) fun h5 h=>cE h (fun h6 h=>dE h xPb (xYs a0) (oc7 h0 h1 h2 h3 h4 h5 h6 on)) fun h6 h=>bE h fun r1 h7 h=>dE h xPb (xYt a0 r1) (oc8 h0 h1 h2 h3 h4 h5 h6 (xKy h7) on)
theorem xLQ{N:Nat}{a0:Str}{r:Bool}(h:xGy N  a0=some r):AbC 186 (xCc a0) (xBZ r):=
 AbsCalls.of_reach xPb rfl rfl rfl (jL rfl) (vEF a0 r h)
noncomputable def I172:Info:= { body:=(Tryz.f172.body).getD .skip,nt:=10,results:=[.tmp 2],keep:=[0,4],live:=[],modes:=[(1,[(2,.take,false)])] }
theorem vAG:FnOk Tryz.prog 172 Tryz.f172 I172:=by refine⟨Tryz.func172,?_,?_,?_,?_⟩<;>kernel_rfl
def xX5(a0 r1 r2):rE I172 (xDY a0) [Y] [xCp r1,xBZ r2]=dn (xCO (!r2)) [AbC 185 (xG0 a0) (xCp r1),iY r1,AbC 186 (xCc a0) (xBZ r2)]:=by kernel_rfl
def xX6(a0 r1):rE I172 (xDY a0) [F] [xCp r1]=dn (xCO false) [AbC 185 (xG0 a0) (xCp r1),iN r1]:=by kernel_rfl
theorem vEA{N:Nat}:∀a0 r,xF9 N a0=some r->RE Tryz.f172 I172 (xDY a0) (xCO r):=fun a0 r h=>bE h fun r1 h0 h=>cE h (fun h1 h=>bE h fun r2 h2 h=>dE h vAG (xX5 a0 r1 r2) (oc3 (xK8 h0) h1 (xLQ h2) on)) fun h1 h=>dE h vAG (xX6 a0 r1) (oc2 (xK8 h0) h1 on)
theorem xIQ{N:Nat}{a0:Str}{r:Bool}(h:xF9 N  a0=some r):AbC 172 (xDY a0) (xCO r):=
 AbsCalls.of_reach vAG rfl rfl rfl (jL rfl) (vEA a0 r h)
noncomputable def I90:Info:= { body:=(Tryz.f90.body).getD .skip,nt:=19,results:=[.tmp 4],keep:=[0,2,8,10,12,14,16,18,20,32],live:=[(2,[2,14,16,18])],modes:=[(4,[(0,.take,false)]),(5,[(0,.take,false)]),(6,[(1,.take,false)])] }
theorem fk90:FnOk Tryz.prog 90 Tryz.f90 I90:=by refine⟨Tryz.func90,?_,?_,?_,?_⟩<;>kernel_rfl
def xTw(x1:Str)(x7:List Str)(x8 x9:Int):St:=[(2,.v false [.str x1]),(14,.v false [.sl .ro .str x7]),(16,.v false [.int .i64 x8]),(18,.v false [.int .i64 x9])]
def vDo(x1 x7 x8 x9):rS 2 I90 (xTw x1 x7 x8 x9) [Y,Y] []=dn (xCN x9) [xFK x9 x8,xHH x9 x7,iY (xMx x7 x9 x1)]:=by kernel_rfl
def vDp(x1 x7 x8 x9):rS 2 I90 (xTw x1 x7 x8 x9) [Y,F] []=st 2 I90 (xTw x1 x7 x8 (W (x9+1))) [xFK x9 x8,xHH x9 x7,iN (xMx x7 x9 x1)]:=by kernel_rfl
def vDq(x1 x7 x8 x9):rS 2 I90 (xTw x1 x7 x8 x9) [F] []=dn (xCN (-1)) [xHX x9 x8]:=by kernel_rfl
def vDr(a0 a1):rE I90 (xFE a0 a1) [] []=st 2 I90 (xTw a1 a0 (Ln a0:Int) 0) []:=by kernel_rfl
theorem vGi{N:Nat}:∀n x1 x7 x8 x9 r,xET N n x1 x7 x8 x9=some r->RS Tryz.f90 I90 2 (xTw x1 x7 x8 x9) (xCN r):=by
 intro n
 induction n with
 |zero=>exact fun _ _ _ _ _ h=>nE h
 |succ n ih=>
  exact fun x1 x7 x8 x9 r h=>cE h (fun h0 h=>iE h fun h1 h=>cE h (fun h2 h=>dS h fk90 (vDo x1 x7 x8 x9) (oc3 h0 h1 h2 on)) fun h2 h=>tS fk90 (vDp x1 x7 x8 x9) (oc3 h0 h1 h2 on) (ih _ _ _ _ _ h)) fun h0 h=>dS h fk90 (vDq x1 x7 x8 x9) (oc h0 on)
theorem vGj{N:Nat}:∀a0 a1 r,xIf N a0 a1=some r->RE Tryz.f90 I90 (xFE a0 a1) (xCN r):=fun a0 a1 r h=>tE fk90 (vDr a0 a1) on (vGi _ _ _ _ _ _ h)
theorem xIP{N:Nat}{a0:List Str}{a1:Str}{r:Int}(h:xIf N  a0 a1=some r):AbC 90 (xFE a0 a1) (xCN r):=
 AbsCalls.of_reach fk90 rfl rfl rfl (jL rfl) (vGj a0 a1 r h)
noncomputable def I45:Info:= { body:=(Tryz.f45.body).getD .skip,nt:=18,results:=[.tmp 2],keep:=[0,4,6,8,10,12,14,16,32],live:=[(2,[0,10,12,14])],modes:=[(4,[(1,.take,false),(3,.take,false)]),(6,[(1,.take,false)])] }
theorem fk45:FnOk Tryz.prog 45 Tryz.f45 I45:=by refine⟨Tryz.func45,?_,?_,?_,?_⟩<;>kernel_rfl
def xTq(x0 x5:List Str)(x6 x7:Int):St:=[(0,.v false [.sl .ro .str x0]),(10,.v false [.sl .ro .str x5]),(12,.v false [.int .i64 x6]),(14,.v false [.int .i64 x7])]
def vBD(x0 x5 x6 x7 r1):rS 2 I45 (xTq x0 x5 x6 x7) [Y,Y] [xCN r1]=dn (xDj false) [xFK x7 x6,xHH x7 x5,AbC 90 (xFE x0 (xJy x5 x7)) (xCN r1),iY (r1 != x7)]:=by kernel_rfl
def vBE(x0 x5 x6 x7 r1):rS 2 I45 (xTq x0 x5 x6 x7) [Y,F] [xCN r1]=st 2 I45 (xTq x0 x5 x6 (W (x7+1))) [xFK x7 x6,xHH x7 x5,AbC 90 (xFE x0 (xJy x5 x7)) (xCN r1),iN (r1 != x7)]:=by kernel_rfl
def vBF(x0 x5 x6 x7):rS 2 I45 (xTq x0 x5 x6 x7) [F] []=dn (xDj true) [xHX x7 x6]:=by kernel_rfl
def vBG(a0):rE I45 (xFR a0) [] []=st 2 I45 (xTq a0 a0 (Ln a0:Int) 0) []:=by kernel_rfl
theorem vFG{N:Nat}:∀n x0 x5 x6 x7 r,xDi N n x0 x5 x6 x7=some r->RS Tryz.f45 I45 2 (xTq x0 x5 x6 x7) (xDj r):=by
 intro n
 induction n with
 |zero=>exact fun _ _ _ _ _ h=>nE h
 |succ n ih=>
  exact fun x0 x5 x6 x7 r h=>cE h (fun h0 h=>iE h fun h1 h=>bE h fun r1 h2 h=>cE h (fun h3 h=>dS h fk45 (vBD x0 x5 x6 x7 r1) (oc4 h0 h1 (xIP h2) h3 on)) fun h3 h=>tS fk45 (vBE x0 x5 x6 x7 r1) (oc4 h0 h1 (xIP h2) h3 on) (ih _ _ _ _ _ h)) fun h0 h=>dS h fk45 (vBF x0 x5 x6 x7) (oc h0 on)
theorem vFH{N:Nat}:∀a0 r,xG9 N a0=some r->RE Tryz.f45 I45 (xFR a0) (xDj r):=fun a0 r h=>tE fk45 (vBG a0) on (vFG _ _ _ _ _ _ h)
theorem xLl{N:Nat}{a0:List Str}{r:Bool}(h:xG9 N  a0=some r):AbC 45 (xFR a0) (xDj r):=
 AbsCalls.of_reach fk45 rfl rfl rfl (jL rfl) (vFH a0 r h)
noncomputable def I157:Info:= { body:=(Tryz.f157.body).getD .skip,nt:=22,results:=[.tmp 2],keep:=[0,4,8,10,12,14,16,26],live:=[(2,[0,10,12,14])],modes:=[(4,[(0,.take,false)]),(6,[(1,.take,false)]),(7,[(3,.take,false)])] }
theorem xTT:FnOk Tryz.prog 157 Tryz.f157 I157:=by refine⟨Tryz.func157,?_,?_,?_,?_⟩<;>kernel_rfl
def xNi(x0 x5:List Str)(x6 x7:Int):St:=[(0,.v false [.sl .ro .str x0]),(10,.v false [.sl .ro .str x5]),(12,.v false [.int .i64 x6]),(14,.v false [.int .i64 x7])]
def xXA(x0 x5 x6 x7 r1):rS 2 I157 (xNi x0 x5 x6 x7) [Y,Y] [xCO r1]=dn (xB0 false) [xFK x7 x6,xHH x7 x5,AbC 172 (xDY (xJy x5 x7)) (xCO r1),iY (!r1)]:=by kernel_rfl
def xXB(x0 x5 x6 x7 r1):rS 2 I157 (xNi x0 x5 x6 x7) [Y,F] [xCO r1]=st 2 I157 (xNi x0 x5 x6 (W (x7+1))) [xFK x7 x6,xHH x7 x5,AbC 172 (xDY (xJy x5 x7)) (xCO r1),iN (!r1)]:=by kernel_rfl
def xXC(x0 x5 x6 x7 r1 r2):rS 2 I157 (xNi x0 x5 x6 x7) [F,Y] [xCq r1,xDj r2]=dn (xB0 r2) [xHX x7 x6,AbC 114 (xEa (Ln x0:Int) 1 4) (xCq r1),iY r1,AbC 45 (xFR x0) (xDj r2)]:=by kernel_rfl
def xXD(x0 x5 x6 x7 r1):rS 2 I157 (xNi x0 x5 x6 x7) [F,F] [xCq r1]=dn (xB0 false) [xHX x7 x6,AbC 114 (xEa (Ln x0:Int) 1 4) (xCq r1),iN r1]:=by kernel_rfl
def xXE(a0):rE I157 (xEk a0) [] []=st 2 I157 (xNi a0 a0 (Ln a0:Int) 0) []:=by kernel_rfl
theorem vEn{N:Nat}:∀n x0 x5 x6 x7 r,xEl N n x0 x5 x6 x7=some r->RS Tryz.f157 I157 2 (xNi x0 x5 x6 x7) (xB0 r):=by
 intro n
 induction n with
 |zero=>exact fun _ _ _ _ _ h=>nE h
 |succ n ih=>
  exact fun x0 x5 x6 x7 r h=>cE h (fun h0 h=>iE h fun h1 h=>bE h fun r1 h2 h=>cE h (fun h3 h=>dS h xTT (xXA x0 x5 x6 x7 r1) (oc4 h0 h1 (xIQ h2) h3 on)) fun h3 h=>tS xTT (xXB x0 x5 x6 x7 r1) (oc4 h0 h1 (xIQ h2) h3 on) (ih _ _ _ _ _ h)) fun h0 h=>bE h fun r1 h1 h=>cE h (fun h2 h=>bE h fun r2 h3 h=>dS h xTT (xXC x0 x5 x6 x7 r1 r2) (oc4 h0 (xG2 h1) h2 (xLl h3) on)) fun h2 h=>dS h xTT (xXD x0 x5 x6 x7 r1) (oc3 h0 (xG2 h1) h2 on)
theorem vEo{N:Nat}:∀a0 r,xHw N a0=some r->RE Tryz.f157 I157 (xEk a0) (xB0 r):=fun a0 r h=>tE xTT (xXE a0) on (vEn _ _ _ _ _ _ h)
theorem xHx{N:Nat}{a0:List Str}{r:Bool}(h:xHw N  a0=some r):AbC 157 (xEk a0) (xB0 r):=
 AbsCalls.of_reach xTT rfl rfl rfl (jL rfl) (vEo a0 r h)
noncomputable def I115:Info:= { body:=(Tryz.f115.body).getD .skip,nt:=77,results:=[.tmp 2],keep:=[0,2,4,8,12,14,16,36,40,42,44,46,64,68,70,72,74,84,90,92,94,96,148,3,9,17],live:=[(4,[2,40,42,44,3]),(9,[2,8,40,42,44,68,70,72,3,9]),(15,[2,8,40,42,44,90,92,94,3,9])],modes:=[(1,[(4,.take,false)]),(11,[(0,.take,false)]),(13,[(1,.take,false)]),(17,[(3,.take,false),(8,.take,false),(11,.take,false)]),(19,[(1,.take,false)]),(20,[(1,.take,false)])] }
theorem xKY:FnOk Tryz.prog 115 Tryz.f115 I115:=by refine⟨Tryz.func115,?_,?_,?_,?_⟩<;>kernel_rfl
def xML(x20:List Rowd)(x21 x22:Int)(b1:Val):St:=[(2,.v false [.ptr 1 0]),(40,.v false [.sl .ro .row x20]),(42,.v false [.int .i64 x21]),(44,.v false [.int .i64 x22]),(3,.v true (Va .ro b1))]
def xOK(x20:List Rowd)(x21 x22:Int)(x34:List Int)(x35 x36:Int)(b1:Val)(b4:Rowd):St:=[(2,.v false [.ptr 1 0]),(8,.v false [.ptr 4 0]),(40,.v false [.sl .ro .row x20]),(42,.v false [.int .i64 x21]),(44,.v false [.int .i64 x22]),(68,.v false [.sl .ro .int x34]),(70,.v false [.int .i64 x35]),(72,.v false [.int .i64 x36]),(3,.v true (Va .ro b1)),(9,.v true [.sl .ro .int b4.cells,.sl .ro .org b4.frm])]
def xJt(x20:List Rowd)(x21 x22:Int)(x45:List Org)(x46 x47:Int)(b1:Val)(b4:Rowd):St:=[(2,.v false [.ptr 1 0]),(8,.v false [.ptr 4 0]),(40,.v false [.sl .ro .row x20]),(42,.v false [.int .i64 x21]),(44,.v false [.int .i64 x22]),(90,.v false [.sl .ro .org x45]),(92,.v false [.int .i64 x46]),(94,.v false [.int .i64 x47]),(3,.v true (Va .ro b1)),(9,.v true [.sl .ro .int b4.cells,.sl .ro .org b4.frm])]
def xU2(x20 x21 x22 x45 x46 x47 b1 b4):rS 15 I115 (xJt x20 x21 x22 x45 x46 x47 b1 b4) [Y,Y,Y,Y] []=dn (xBp false) [xFK x47 x46,xDz x47 x45,iY (xSs x45 x47),iY true,iY true]:=by kernel_rfl
def xU3(x20 x21 x22 x45 x46 x47 b1 b4):rS 15 I115 (xJt x20 x21 x22 x45 x46 x47 b1 b4) [Y,F,Y,Y] []=dn (xBp false) [xFK x47 x46,xDz x47 x45,xMW x45 x47,iY (xSt x45 x47),iY true]:=by kernel_rfl
def xU4(x20 x21 x22 x45 x46 x47 b1 b4 r1):rS 15 I115 (xJt x20 x21 x22 x45 x46 x47 b1 b4) [Y,F,F,Y,Y] [xBR r1]=dn (xBp false) [xFK x47 x46,xDz x47 x45,xMW x45 x47,xOV x45 x47,xMU x47,(0:Int)<=(W (x47 - 1))/\(W (x47 - 1))<(Ln b4.frm),AbC 65 (xCJ (gD b4.frm (tN (W (x47 - 1))) Ty.org.dflt) (xD0 x45 x47)) (xBR r1),iY (!r1)]:=by kernel_rfl
def xU5(x20 x21 x22 x45 x46 x47 b1 b4 r1):rS 15 I115 (xJt x20 x21 x22 x45 x46 x47 b1 b4) [Y,F,F,Y,F] [xBR r1]=st 15 I115 (xJt x20 x21 x22 x45 x46 (W (x47+1)) b1 b4) [xFK x47 x46,xDz x47 x45,xMW x45 x47,xOV x45 x47,xMU x47,(0:Int)<=(W (x47 - 1))/\(W (x47 - 1))<(Ln b4.frm),AbC 65 (xCJ (gD b4.frm (tN (W (x47 - 1))) Ty.org.dflt) (xD0 x45 x47)) (xBR r1),iN (!r1)]:=by kernel_rfl
def xU6(x20 x21 x22 x45 x46 x47 b1 b4):rS 15 I115 (xJt x20 x21 x22 x45 x46 x47 b1 b4) [Y,F,F,F,F] []=st 15 I115 (xJt x20 x21 x22 x45 x46 (W (x47+1)) b1 b4) [xFK x47 x46,xDz x47 x45,xMW x45 x47,xOV x45 x47,iN (dc (x47>0)),iN false]:=by kernel_rfl
def xU7(x20 x21 x22 x45 x46 x47 b1 b4):rS 15 I115 (xJt x20 x21 x22 x45 x46 x47 b1 b4) [F] []=st 4 I115 (xML x20 x21 (W (x22+1)) b1) [xHX x47 x46]:=by kernel_rfl
abbrev xMz(v0:List Int)(v1:Int):=gD v0 (tN v1) Ty.int.dflt
def xWL(x20 x21 x22 x34 x35 x36 b1 b4 r1):rS 9 I115 (xOK x20 x21 x22 x34 x35 x36 b1 b4) [Y,Y] [xBQ r1]=dn (xBp false) [xFK x36 x35,xKF x36 x34,AbC 82 (xDf (xMz x34 x36)) (xBQ r1),iY (!r1)]:=by kernel_rfl
def xWM(x20 x21 x22 x34 x35 x36 b1 b4 r1):rS 9 I115 (xOK x20 x21 x22 x34 x35 x36 b1 b4) [Y,F] [xBQ r1]=st 9 I115 (xOK x20 x21 x22 x34 x35 (W (x36+1)) b1 b4) [xFK x36 x35,xKF x36 x34,AbC 82 (xDf (xMz x34 x36)) (xBQ r1),iN (!r1)]:=by kernel_rfl
def xWN(x20 x21 x22 x34 x35 x36 b1 b4):rS 9 I115 (xOK x20 x21 x22 x34 x35 x36 b1 b4) [F] []=st 15 I115 (xJt x20 x21 x22 b4.frm (Ln b4.frm:Int) 0 b1 b4) [xHX x36 x35]:=by kernel_rfl
abbrev xM2(v0:Int)(v1:List Rowd):Prop:=(0:Int)<=v0/\v0<(Ln v1)
abbrev xLx(v0:List Rowd)(v1:Int):=Rowd.cells (gD v0 (tN v1) rd)
abbrev xPu(v0:Val):=(Ln v0.columns:Int)
def xWK(x20 x21 x22 b1):rS 4 I115 (xML x20 x21 x22 b1) [Y,Y] []=dn (xBp false) [xFK x22 x21,xM2 x22 x20,iY (((Ln (xLx x20 x22):Int):Int) != (xPu b1))]:=by kernel_rfl
abbrev xJA(v0:List Rowd)(v1:Int):=gD v0 (tN v1) rd
def xU8(x20 x21 x22 b1):rS 4 I115 (xML x20 x21 x22 b1) [Y,F] []=st 9 I115 (xOK x20 x21 x22 (xLx x20 x22) (Ln (xLx x20 x22):Int) 0 b1 (xJA x20 x22)) [xFK x22 x21,xM2 x22 x20,iN (((Ln (xLx x20 x22):Int):Int) != (xPu b1))]:=by kernel_rfl
def xU9(x20 x21 x22 b1):rS 4 I115 (xML x20 x21 x22 b1) [F] []=dn (xBp true) [xHX x22 x21]:=by kernel_rfl
def xVa(a0 r1):rE I115 (xEV a0) [Y,Y] [xB0 r1]=dn (xBp false) [AbC 157 (xEk a0.columns) (xB0 r1),iY (!r1),iY true]:=by kernel_rfl
def xVb(a0 r1):rE I115 (xEV a0) [F,Y] [xB0 r1]=dn (xBp false) [AbC 157 (xEk a0.columns) (xB0 r1),iN (!r1),iY (xPv a0)]:=by kernel_rfl
def xVc(a0 r1):rE I115 (xEV a0) [F,F] [xB0 r1]=st 4 I115 (xML a0.rows (xJz a0) 0 a0) [AbC 157 (xEk a0.columns) (xB0 r1),iN (!r1),iN (xPv a0)]:=by kernel_rfl
theorem vAz{N:Nat}{k4:(List Rowd)->Int->Int->Val->Option (Bool)}(hk4:∀z0 z1 z2 z3 r,k4 z0 z1 z2 z3=some r->RS Tryz.f115 I115 4 (xML z0 z1 z2 z3) (xBp r)):∀n x20 x21 x22 x45 x46 x47 b1 b4 r,xDM N k4 n x20 x21 x22 x45 x46 x47 b1 b4=some r->RS Tryz.f115 I115 15 (xJt x20 x21 x22 x45 x46 x47 b1 b4) (xBp r):=by
 intro n
 induction n with
 |zero=>exact fun _ _ _ _ _ _ _ _ _ h=>nE h
 |succ n ih=>
  exact fun x20 x21 x22 x45 x46 x47 b1 b4 r h=>cE h (fun h0 h=>iE h fun h1 h=>cE h (fun h2 h=>dS h xKY (xU2 x20 x21 x22 x45 x46 x47 b1 b4) (oc5 h0 h1 h2 rfl rfl on)) fun h2 h=>cE h (fun h3 h=>dS h xKY (xU3 x20 x21 x22 x45 x46 x47 b1 b4) (oc5 h0 h1 h2 h3 rfl on)) fun h3 h=>cE h (fun h4 h=>iE h fun h5 h=>bE h fun r1 h6 h=>cE h (fun h7 h=>dS h xKY (xU4 x20 x21 x22 x45 x46 x47 b1 b4 r1) (oc8 h0 h1 h2 h3 h4 h5 (xGV h6) h7 on)) fun h7 h=>tS xKY (xU5 x20 x21 x22 x45 x46 x47 b1 b4 r1) (oc8 h0 h1 h2 h3 h4 h5 (xGV h6) h7 on) (ih _ _ _ _ _ _ _ _ _ h)) fun h4 h=>tS xKY (xU6 x20 x21 x22 x45 x46 x47 b1 b4) (oc6 h0 h1 h2 h3 h4 rfl on) (ih _ _ _ _ _ _ _ _ _ h)) fun h0 h=>tS xKY (xU7 x20 x21 x22 x45 x46 x47 b1 b4) (oc h0 on) (hk4 _ _ _ _ _ h)
theorem vDZ{N:Nat}{k4:(List Rowd)->Int->Int->Val->Option (Bool)}(hk4:∀z0 z1 z2 z3 r,k4 z0 z1 z2 z3=some r->RS Tryz.f115 I115 4 (xML z0 z1 z2 z3) (xBp r)):∀n x20 x21 x22 x34 x35 x36 b1 b4 r,xEX N k4 n x20 x21 x22 x34 x35 x36 b1 b4=some r->RS Tryz.f115 I115 9 (xOK x20 x21 x22 x34 x35 x36 b1 b4) (xBp r):=by
 intro n
 induction n with
 |zero=>exact fun _ _ _ _ _ _ _ _ _ h=>nE h
 |succ n ih=>
  exact fun x20 x21 x22 x34 x35 x36 b1 b4 r h=>cE h (fun h0 h=>iE h fun h1 h=>bE h fun r1 h2 h=>cE h (fun h3 h=>dS h xKY (xWL x20 x21 x22 x34 x35 x36 b1 b4 r1) (oc4 h0 h1 (xFi h2) h3 on)) fun h3 h=>tS xKY (xWM x20 x21 x22 x34 x35 x36 b1 b4 r1) (oc4 h0 h1 (xFi h2) h3 on) (ih _ _ _ _ _ _ _ _ _ h)) fun h0 h=>tS xKY (xWN x20 x21 x22 x34 x35 x36 b1 b4) (oc h0 on) (vAz hk4 _ _ _ _ _ _ _ _ _ _ h)
theorem vDY{N:Nat}:∀n x20 x21 x22 b1 r,xEW N n x20 x21 x22 b1=some r->RS Tryz.f115 I115 4 (xML x20 x21 x22 b1) (xBp r):=by
 intro n
 induction n with
 |zero=>exact fun _ _ _ _ _ h=>nE h
 |succ n ih=>
  exact fun x20 x21 x22 b1 r h=>cE h (fun h0 h=>iE h fun h1 h=>cE h (fun h2 h=>dS h xKY (xWK x20 x21 x22 b1) (oc3 h0 h1 h2 on)) fun h2 h=>tS xKY (xU8 x20 x21 x22 b1) (oc3 h0 h1 h2 on) (vDZ ih _ _ _ _ _ _ _ _ _ _ h)) fun h0 h=>dS h xKY (xU9 x20 x21 x22 b1) (oc h0 on)
theorem vD0{N:Nat}:∀a0 r,xHo N a0=some r->RE Tryz.f115 I115 (xEV a0) (xBp r):=fun a0 r h=>bE h fun r1 h0 h=>cE h (fun h1 h=>dE h xKY (xVa a0 r1) (oc3 (xHx h0) h1 rfl on)) fun h1 h=>cE h (fun h2 h=>dE h xKY (xVb a0 r1) (oc3 (xHx h0) h1 h2 on)) fun h2 h=>tE xKY (xVc a0 r1) (oc3 (xHx h0) h1 h2 on) (vDY _ _ _ _ _ _ h)
theorem xKA{N:Nat}{a0:Val}{r:Bool}(h:xHo N  a0=some r):AbC 115 (xEV a0) (xBp r):=
 AbsCalls.of_reach xKY rfl rfl rfl (jL rfl) (vD0 a0 r h)
def G116(q:Val->Option (Int)):Prop:=∀a0 r,q a0=some r->AbC 116 (xES a0) (xC8 r)
noncomputable def I116:Info:= { body:=(Tryz.f116.body).getD .skip,nt:=20,results:=[.tmp 2],keep:=[0,2,4,6,10,14,16,18,20,3,11],live:=[(3,[6,14,16,18])],modes:=[(6,[(1,.take,false)])] }
theorem xVR:FnOk Tryz.prog 116 Tryz.f116 I116:=by refine⟨Tryz.func116,?_,?_,?_,?_⟩<;>kernel_rfl
def xQL(x3:Int)(x7:List Val)(x8 x9:Int):St:=[(6,.v false [.int .i64 x3]),(14,.v false [.sl .ro .val x7]),(16,.v false [.int .i64 x8]),(18,.v false [.int .i64 x9])]
def xWO(x3 x7 x8 x9 r1):rS 3 I116 (xQL x3 x7 x8 x9) [Y] [xC8 r1]=st 3 I116 (xQL (if r1>x3 then r1 else x3) x7 x8 (W (x9+1))) [xFK x9 x8,xG3 x9 x7,AbC 116 (xES (xLw x7 x9)) (xC8 r1)]:=by kernel_rfl
def xWP(x3 x7 x8 x9):rS 3 I116 (xQL x3 x7 x8 x9) [F] []=dn (xC8 (W (x3+1))) [xHX x9 x8]:=by kernel_rfl
def xWQ(a0):rE I116 (xES a0) [] []=st 3 I116 (xQL 0 a0.list (xIV a0) 0) []:=by kernel_rfl
theorem vD1{N q0}(g0:G116 q0):∀n x3 x7 x8 x9 r,xFD N q0 n x3 x7 x8 x9=some r->RS Tryz.f116 I116 3 (xQL x3 x7 x8 x9) (xC8 r):=by
 intro n
 induction n with
 |zero=>exact fun _ _ _ _ _ h=>nE h
 |succ n ih=>
  exact fun x3 x7 x8 x9 r h=>cE h (fun h0 h=>iE h fun h1 h=>bE h fun r1 h2 h=>tS xVR (xWO x3 x7 x8 x9 r1) (oc3 h0 h1 (g0 _ _ h2) on) (ih _ _ _ _ _ h)) fun h0 h=>dS h xVR (xWP x3 x7 x8 x9) (oc h0 on)
theorem vD2{N q0}(g0:G116 q0):∀a0 r,xHQ N q0 a0=some r->RE Tryz.f116 I116 (xES a0) (xC8 r):=fun a0 r h=>tE xVR (xWQ a0) on (vD1 g0 _ _ _ _ _ _ h)
theorem xKZ{N q0}(g0:G116 q0){a0}{r}(h:xHQ N q0 a0=some r):AbC 116 (xES a0) (xC8 r):=
 AbsCalls.of_reach xVR rfl rfl rfl (jL rfl) (vD2 g0 a0 r h)
theorem xIO{N:Nat}:∀d,G116 (xEp N d)
 |0=>fun _ _ h=>nE h
 |d+1=>fun _ _ h=>xKZ (N:=N) (xIO d) h
theorem xNx{N:Nat}{a0:Val}{r:Int}(h:xIe N a0=some r):AbC 116 (xES a0) (xC8 r):=xIO N _ r h
def G72(q:Val->Option (Bool)):Prop:=∀a0 r,q a0=some r->AbC 72 (xAe a0) (xAb r)
noncomputable def I72:Info:= { body:=(Tryz.f72.body).getD .skip,nt:=185,results:=[.tmp 2],keep:=[0,2,4,6,10,46,48,84,120,156,192,242,248,250,252,254,294,3,11],live:=[(15,[2,248,250,252,3])],modes:=[(1,[(4,.take,false),(10,.take,false)]),(4,[(1,.take,false),(6,.take,false),(11,.take,false)]),(6,[(1,.take,false),(6,.take,false),(11,.take,false)]),(8,[(1,.take,false),(6,.take,false),(11,.take,false)]),(10,[(1,.take,false),(6,.take,false),(11,.take,false)]),(12,[(3,.take,false),(8,.take,false),(13,.take,false),(19,.take,false)]),(17,[(3,.take,false),(8,.take,false),(13,.take,false)]),(19,[(1,.take,false)]),(20,[(3,.take,false),(8,.take,false),(13,.take,false),(19,.take,false),(25,.take,false),(31,.take,false)])] }
theorem fk72:FnOk Tryz.prog 72 Tryz.f72 I72:=by refine⟨Tryz.func72,?_,?_,?_,?_⟩<;>kernel_rfl
def xHu(x124:List Val)(x125 x126:Int)(b1:Val):St:=[(2,.v false [.ptr 1 0]),(248,.v false [.sl .ro .val x124]),(250,.v false [.int .i64 x125]),(252,.v false [.int .i64 x126]),(3,.v true (Va .ro b1))]
abbrev xKc(v0:List Val)(v1:Int):=((Val.kind (gD v0 (tN v1) vd)):Int)
abbrev xRe(v0:List Val)(v1:Int):Prop:=iY ((xKc v0 v1) != 1)
abbrev xUV(v0:List Val)(v1:Int):Prop:=iY ((xKc v0 v1) != 2)
def xY1(x124 x125 x126 b1):rS 15 I72 (xHu x124 x125 x126 b1) [Y,Y,Y,Y,Y] []=dn (xAb false) [xFK x126 x125,xG3 x126 x124,xRe x124 x126,xUV x124 x126,iY ((xKc x124 x126) != 3),iY true]:=by kernel_rfl
abbrev xL2(v0:List Val)(v1:Int)(v2:Bool):Prop:=AbC 72 (xAe (xLw v0 v1)) (xAb v2)
def xY2(x124 x125 x126 b1 r1):rS 15 I72 (xHu x124 x125 x126 b1) [Y,Y,Y,F,Y] [xAb r1]=dn (xAb false) [xFK x126 x125,xG3 x126 x124,xRe x124 x126,xUV x124 x126,iN ((xKc x124 x126) != 3),xL2 x124 x126 r1,iY (!r1)]:=by kernel_rfl
def xY3(x124 x125 x126 b1 r1):rS 15 I72 (xHu x124 x125 x126 b1) [Y,Y,Y,F,F] [xAb r1]=st 15 I72 (xHu x124 x125 (W (x126+1)) b1) [xFK x126 x125,xG3 x126 x124,xRe x124 x126,xUV x124 x126,iN ((xKc x124 x126) != 3),xL2 x124 x126 r1,iN (!r1)]:=by kernel_rfl
def xY4(x124 x125 x126 b1 r1):rS 15 I72 (xHu x124 x125 x126 b1) [Y,Y,F,F,Y] [xAb r1]=dn (xAb false) [xFK x126 x125,xG3 x126 x124,xRe x124 x126,iN ((xKc x124 x126) != 2),iN false,xL2 x124 x126 r1,iY (!r1)]:=by kernel_rfl
def xY5(x124 x125 x126 b1 r1):rS 15 I72 (xHu x124 x125 x126 b1) [Y,Y,F,F,F] [xAb r1]=st 15 I72 (xHu x124 x125 (W (x126+1)) b1) [xFK x126 x125,xG3 x126 x124,xRe x124 x126,iN ((xKc x124 x126) != 2),iN false,xL2 x124 x126 r1,iN (!r1)]:=by kernel_rfl
def xY6(x124 x125 x126 b1 r1):rS 15 I72 (xHu x124 x125 x126 b1) [Y,F,F,F,Y] [xAb r1]=dn (xAb false) [xFK x126 x125,xG3 x126 x124,iN ((xKc x124 x126) != 1),iN false,iN false,xL2 x124 x126 r1,iY (!r1)]:=by kernel_rfl
def xY7(x124 x125 x126 b1 r1):rS 15 I72 (xHu x124 x125 x126 b1) [Y,F,F,F,F] [xAb r1]=st 15 I72 (xHu x124 x125 (W (x126+1)) b1) [xFK x126 x125,xG3 x126 x124,iN ((xKc x124 x126) != 1),iN false,iN false,xL2 x124 x126 r1,iN (!r1)]:=by kernel_rfl
abbrev xIy(v0:Val):Prop:=iY (v0.step==0)
abbrev xKJ(v0:Val):Prop:=iY (xMy v0)
abbrev xGa(v0:Val):Prop:=iY ((xPu v0)==0)
abbrev xJl(v0:Val):Prop:=iY ((xJz v0)==0)
def xY8(x124 x125 x126 b1 r1):rS 15 I72 (xHu x124 x125 x126 b1) [F,Y,Y,Y,Y,Y,Y] [xC8 r1]=dn (xAb (dc (r1<=3))) [xHX x126 x125,xHp b1,xIy b1,xKJ b1,xGa b1,xJl b1,iY (xPw b1),AbC 116 (xES b1) (xC8 r1)]:=by kernel_rfl
def xY9(x124 x125 x126 b1):rS 15 I72 (xHu x124 x125 x126 b1) [F,Y,Y,Y,Y,Y,F] []=dn (xAb false) [xHX x126 x125,xHp b1,xIy b1,xKJ b1,xGa b1,xJl b1,iN (xPw b1)]:=by kernel_rfl
abbrev xRf(v0:Val):Prop:=iN ((xJz v0)==0)
def xZa(x124 x125 x126 b1):rS 15 I72 (xHu x124 x125 x126 b1) [F,Y,Y,Y,Y,F,F] []=dn (xAb false) [xHX x126 x125,xHp b1,xIy b1,xKJ b1,xGa b1,xRf b1,iN false]:=by kernel_rfl
abbrev xIS(v0:Val):Prop:=iN ((xPu v0)==0)
def xVt(x124 x125 x126 b1):rS 15 I72 (xHu x124 x125 x126 b1) [F,Y,Y,Y,F,F,F] []=dn (xAb false) [xHX x126 x125,xHp b1,xIy b1,xKJ b1,xIS b1,iN false,iN false]:=by kernel_rfl
abbrev xLs(v0:Val):Prop:=iN (xMy v0)
def xVu(x124 x125 x126 b1):rS 15 I72 (xHu x124 x125 x126 b1) [F,Y,Y,F,F,F,F] []=dn (xAb false) [xHX x126 x125,xHp b1,xIy b1,xLs b1,iN false,iN false,iN false]:=by kernel_rfl
abbrev xLt(v0:Val):Prop:=iN (v0.step==0)
def xVv(x124 x125 x126 b1):rS 15 I72 (xHu x124 x125 x126 b1) [F,Y,F,F,F,F,F] []=dn (xAb false) [xHX x126 x125,xHp b1,xLt b1,iN false,iN false,iN false,iN false]:=by kernel_rfl
def xVw(x124 x125 x126 b1):rS 15 I72 (xHu x124 x125 x126 b1) [F,F,F,F,F,F,F] []=dn (xAb false) [xHX x126 x125,xMZ b1,iN false,iN false,iN false,iN false,iN false]:=by kernel_rfl
abbrev xCW(v0:Val):Prop:=iY ((xIV v0)==0)
def xZb(a0 r1):rE I72 (xAe a0) [Y,Y,Y,Y,Y,Y] [xBQ r1]=dn (xAb r1) [xCW a0,xGa a0,xMV a0,xJl a0,xIy a0,xKJ a0,AbC 82 (xDf a0.n) (xBQ r1)]:=by kernel_rfl
def xZc(a0):rE I72 (xAe a0) [Y,Y,Y,Y,Y,F] []=dn (xAb false) [xCW a0,xGa a0,xMV a0,xJl a0,xIy a0,xLs a0]:=by kernel_rfl
def xZd(a0):rE I72 (xAe a0) [Y,Y,Y,Y,F,F] []=dn (xAb false) [xCW a0,xGa a0,xMV a0,xJl a0,xLt a0,iN false]:=by kernel_rfl
def xZe(a0):rE I72 (xAe a0) [Y,Y,Y,F,F,F] []=dn (xAb false) [xCW a0,xGa a0,xMV a0,xRf a0,iN false,iN false]:=by kernel_rfl
def xZf(a0 r1):rE I72 (xAe a0) [Y,Y,F,Y,Y,Y,Y] [xCv r1]=dn (xAb r1) [xCW a0,xGa a0,xCL a0,xLW a0,xJl a0,xHp a0,xIy a0,AbC 113 (xFT a0.text) (xCv r1)]:=by kernel_rfl
def xZg(a0):rE I72 (xAe a0) [Y,Y,F,Y,Y,Y,F] []=dn (xAb false) [xCW a0,xGa a0,xCL a0,xLW a0,xJl a0,xHp a0,xLt a0]:=by kernel_rfl
def xZh(a0):rE I72 (xAe a0) [Y,Y,F,Y,Y,F,F] []=dn (xAb false) [xCW a0,xGa a0,xCL a0,xLW a0,xJl a0,xMZ a0,iN false]:=by kernel_rfl
def xZi(a0):rE I72 (xAe a0) [Y,Y,F,Y,F,F,F] []=dn (xAb false) [xCW a0,xGa a0,xCL a0,xLW a0,xRf a0,iN false,iN false]:=by kernel_rfl
def xZj(a0 r1 r2):rE I72 (xAe a0) [Y,Y,F,F,Y,Y,Y,Y] [xBQ r1,xBQ r2]=dn (xAb r2) [xCW a0,xGa a0,xCL a0,xDy a0,xMY a0,xJl a0,xKJ a0,AbC 82 (xDf a0.n) (xBQ r1),iY r1,AbC 82 (xDf a0.step) (xBQ r2)]:=by kernel_rfl
def xZk(a0 r1):rE I72 (xAe a0) [Y,Y,F,F,Y,Y,Y,F] [xBQ r1]=dn (xAb false) [xCW a0,xGa a0,xCL a0,xDy a0,xMY a0,xJl a0,xKJ a0,AbC 82 (xDf a0.n) (xBQ r1),iN r1]:=by kernel_rfl
def xZl(a0):rE I72 (xAe a0) [Y,Y,F,F,Y,Y,F,F] []=dn (xAb false) [xCW a0,xGa a0,xCL a0,xDy a0,xMY a0,xJl a0,xLs a0,iN false]:=by kernel_rfl
def xZm(a0):rE I72 (xAe a0) [Y,Y,F,F,Y,F,F,F] []=dn (xAb false) [xCW a0,xGa a0,xCL a0,xDy a0,xMY a0,xRf a0,iN false,iN false]:=by kernel_rfl
def xZn(a0 r1):rE I72 (xAe a0) [Y,Y,F,F,F,Y,Y,Y,Y] [xCq r1]=dn (xAb r1) [xCW a0,xGa a0,xCL a0,xDy a0,xFy a0,xNK a0,xJl a0,xIy a0,xKJ a0,AbC 114 (xEa a0.n 1 8) (xCq r1)]:=by kernel_rfl
def xZo(a0):rE I72 (xAe a0) [Y,Y,F,F,F,Y,Y,Y,F] []=dn (xAb false) [xCW a0,xGa a0,xCL a0,xDy a0,xFy a0,xNK a0,xJl a0,xIy a0,xLs a0]:=by kernel_rfl
def xZp(a0):rE I72 (xAe a0) [Y,Y,F,F,F,Y,Y,F,F] []=dn (xAb false) [xCW a0,xGa a0,xCL a0,xDy a0,xFy a0,xNK a0,xJl a0,xLt a0,iN false]:=by kernel_rfl
def xZq(a0):rE I72 (xAe a0) [Y,Y,F,F,F,Y,F,F,F] []=dn (xAb false) [xCW a0,xGa a0,xCL a0,xDy a0,xFy a0,xNK a0,xRf a0,iN false,iN false]:=by kernel_rfl
def xZr(a0 r1):rE I72 (xAe a0) [Y,Y,F,F,F,F,Y,Y,Y,Y,Y] [xBp r1]=dn (xAb r1) [xCW a0,xGa a0,xCL a0,xDy a0,xFy a0,xHA a0,xJj a0,xHp a0,xIy a0,xKJ a0,xCW a0,AbC 115 (xEV a0) (xBp r1)]:=by kernel_rfl
def xZs(a0):rE I72 (xAe a0) [Y,Y,F,F,F,F,Y,Y,Y,F,F] []=dn (xAb false) [xCW a0,xGa a0,xCL a0,xDy a0,xFy a0,xHA a0,xJj a0,xHp a0,xIy a0,xLs a0,iN false]:=by kernel_rfl
def xZt(a0):rE I72 (xAe a0) [Y,Y,F,F,F,F,Y,Y,F,F,F] []=dn (xAb false) [xCW a0,xGa a0,xCL a0,xDy a0,xFy a0,xHA a0,xJj a0,xHp a0,xLt a0,iN false,iN false]:=by kernel_rfl
def xZu(a0):rE I72 (xAe a0) [Y,Y,F,F,F,F,Y,F,F,F,F] []=dn (xAb false) [xCW a0,xGa a0,xCL a0,xDy a0,xFy a0,xHA a0,xJj a0,xMZ a0,iN false,iN false,iN false]:=by kernel_rfl
abbrev xSI(v0:Val):=xHu v0.list (Ln v0.list:Int) 0 v0
def xZv(a0):rE I72 (xAe a0) [Y,Y,F,F,F,F,F,Y] []=st 15 I72 (xSI a0) [xCW a0,xGa a0,xCL a0,xDy a0,xFy a0,xHA a0,xMX a0,iY (a0.kind==3)]:=by kernel_rfl
def xZw(a0):rE I72 (xAe a0) [Y,Y,F,F,F,F,F,F] []=dn (xAb false) [xCW a0,xGa a0,xCL a0,xDy a0,xFy a0,xHA a0,xMX a0,xL0 a0]:=by kernel_rfl
def xZx(a0):rE I72 (xAe a0) [Y,F,Y,F,F,F] []=dn (xAb false) [xCW a0,xIS a0,xMV a0,iN false,iN false,iN false]:=by kernel_rfl
def xZy(a0):rE I72 (xAe a0) [Y,F,F,Y,F,F,F] []=dn (xAb false) [xCW a0,xIS a0,xCL a0,xLW a0,iN false,iN false,iN false]:=by kernel_rfl
def xZz(a0):rE I72 (xAe a0) [Y,F,F,F,Y,F,F,F] []=dn (xAb false) [xCW a0,xIS a0,xCL a0,xDy a0,xMY a0,iN false,iN false,iN false]:=by kernel_rfl
def xZA(a0):rE I72 (xAe a0) [Y,F,F,F,F,Y,F,F,F] []=dn (xAb false) [xCW a0,xIS a0,xCL a0,xDy a0,xFy a0,xNK a0,iN false,iN false,iN false]:=by kernel_rfl
def xZB(a0 r1):rE I72 (xAe a0) [Y,F,F,F,F,F,Y,Y,Y,Y,Y] [xBp r1]=dn (xAb r1) [xCW a0,xIS a0,xCL a0,xDy a0,xFy a0,xHA a0,xJj a0,xHp a0,xIy a0,xKJ a0,xCW a0,AbC 115 (xEV a0) (xBp r1)]:=by kernel_rfl
def xZC(a0):rE I72 (xAe a0) [Y,F,F,F,F,F,Y,Y,Y,F,F] []=dn (xAb false) [xCW a0,xIS a0,xCL a0,xDy a0,xFy a0,xHA a0,xJj a0,xHp a0,xIy a0,xLs a0,iN false]:=by kernel_rfl
def xZD(a0):rE I72 (xAe a0) [Y,F,F,F,F,F,Y,Y,F,F,F] []=dn (xAb false) [xCW a0,xIS a0,xCL a0,xDy a0,xFy a0,xHA a0,xJj a0,xHp a0,xLt a0,iN false,iN false]:=by kernel_rfl
def xZE(a0):rE I72 (xAe a0) [Y,F,F,F,F,F,Y,F,F,F,F] []=dn (xAb false) [xCW a0,xIS a0,xCL a0,xDy a0,xFy a0,xHA a0,xJj a0,xMZ a0,iN false,iN false,iN false]:=by kernel_rfl
def xZF(a0):rE I72 (xAe a0) [Y,F,F,F,F,F,F,Y] []=st 15 I72 (xSI a0) [xCW a0,xIS a0,xCL a0,xDy a0,xFy a0,xHA a0,xMX a0,iY (a0.kind==3)]:=by kernel_rfl
def xZG(a0):rE I72 (xAe a0) [Y,F,F,F,F,F,F,F] []=dn (xAb false) [xCW a0,xIS a0,xCL a0,xDy a0,xFy a0,xHA a0,xMX a0,xL0 a0]:=by kernel_rfl
abbrev xIT(v0:Val):Prop:=iN ((xIV v0)==0)
def xZH(a0):rE I72 (xAe a0) [F,F,Y,F,F,F] []=dn (xAb false) [xIT a0,iN false,xMV a0,iN false,iN false,iN false]:=by kernel_rfl
def xZI(a0):rE I72 (xAe a0) [F,F,F,Y,F,F,F] []=dn (xAb false) [xIT a0,iN false,xCL a0,xLW a0,iN false,iN false,iN false]:=by kernel_rfl
def xZJ(a0):rE I72 (xAe a0) [F,F,F,F,Y,F,F,F] []=dn (xAb false) [xIT a0,iN false,xCL a0,xDy a0,xMY a0,iN false,iN false,iN false]:=by kernel_rfl
def xZK(a0):rE I72 (xAe a0) [F,F,F,F,F,Y,F,F,F] []=dn (xAb false) [xIT a0,iN false,xCL a0,xDy a0,xFy a0,xNK a0,iN false,iN false,iN false]:=by kernel_rfl
def xZL(a0):rE I72 (xAe a0) [F,F,F,F,F,F,Y,Y,Y,Y,F] []=dn (xAb false) [xIT a0,iN false,xCL a0,xDy a0,xFy a0,xHA a0,xJj a0,xHp a0,xIy a0,xKJ a0,xIT a0]:=by kernel_rfl
def xZM(a0):rE I72 (xAe a0) [F,F,F,F,F,F,Y,Y,Y,F,F] []=dn (xAb false) [xIT a0,iN false,xCL a0,xDy a0,xFy a0,xHA a0,xJj a0,xHp a0,xIy a0,xLs a0,iN false]:=by kernel_rfl
def xZN(a0):rE I72 (xAe a0) [F,F,F,F,F,F,Y,Y,F,F,F] []=dn (xAb false) [xIT a0,iN false,xCL a0,xDy a0,xFy a0,xHA a0,xJj a0,xHp a0,xLt a0,iN false,iN false]:=by kernel_rfl
def xZO(a0):rE I72 (xAe a0) [F,F,F,F,F,F,Y,F,F,F,F] []=dn (xAb false) [xIT a0,iN false,xCL a0,xDy a0,xFy a0,xHA a0,xJj a0,xMZ a0,iN false,iN false,iN false]:=by kernel_rfl
def xZP(a0):rE I72 (xAe a0) [F,F,F,F,F,F,F,Y] []=st 15 I72 (xSI a0) [xIT a0,iN false,xCL a0,xDy a0,xFy a0,xHA a0,xMX a0,iY (a0.kind==3)]:=by kernel_rfl
def xZQ(a0):rE I72 (xAe a0) [F,F,F,F,F,F,F,F] []=dn (xAb false) [xIT a0,iN false,xCL a0,xDy a0,xFy a0,xHA a0,xMX a0,xL0 a0]:=by kernel_rfl
theorem xUg{N q0}(g0:G72 q0):∀n x124 x125 x126 b1 r,xBv N q0 n x124 x125 x126 b1=some r->RS Tryz.f72 I72 15 (xHu x124 x125 x126 b1) (xAb r):=by
 intro n
 induction n with
 |zero=>exact fun _ _ _ _ _ h=>nE h
 |succ n ih=>
  exact fun x124 x125 x126 b1 r h=>cE h (fun h0 h=>iE h fun h1 h=>cE h (fun h2 h=>cE h (fun h3 h=>cE h (fun h4 h=>dS h fk72 (xY1 x124 x125 x126 b1) (oc6 h0 h1 h2 h3 h4 rfl on)) fun h4 h=>bE h fun r1 h5 h=>cE h (fun h6 h=>dS h fk72 (xY2 x124 x125 x126 b1 r1) (oc7 h0 h1 h2 h3 h4 (g0 _ _ h5) h6 on)) fun h6 h=>tS fk72 (xY3 x124 x125 x126 b1 r1) (oc7 h0 h1 h2 h3 h4 (g0 _ _ h5) h6 on) (ih _ _ _ _ _ h)) fun h3 h=>bE h fun r1 h5 h=>cE h (fun h6 h=>dS h fk72 (xY4 x124 x125 x126 b1 r1) (oc7 h0 h1 h2 h3 rfl (g0 _ _ h5) h6 on)) fun h6 h=>tS fk72 (xY5 x124 x125 x126 b1 r1) (oc7 h0 h1 h2 h3 rfl (g0 _ _ h5) h6 on) (ih _ _ _ _ _ h)) fun h2 h=>bE h fun r1 h5 h=>cE h (fun h6 h=>dS h fk72 (xY6 x124 x125 x126 b1 r1) (oc7 h0 h1 h2 rfl rfl (g0 _ _ h5) h6 on)) fun h6 h=>tS fk72 (xY7 x124 x125 x126 b1 r1) (oc7 h0 h1 h2 rfl rfl (g0 _ _ h5) h6 on) (ih _ _ _ _ _ h)) fun h0 h=>cE h (fun h1 h=>cE h (fun h2 h=>cE h (fun h3 h=>cE h (fun h4 h=>cE h (fun h5 h=>cE h (fun h6 h=>bE h fun r1 h7 h=>dS h fk72 (xY8 x124 x125 x126 b1 r1) (oc8 h0 h1 h2 h3 h4 h5 h6 (xNx h7) on)) fun h6 h=>dS h fk72 (xY9 x124 x125 x126 b1) (oc7 h0 h1 h2 h3 h4 h5 h6 on)) fun h5 h=>dS h fk72 (xZa x124 x125 x126 b1) (oc7 h0 h1 h2 h3 h4 h5 rfl on)) fun h4 h=>dS h fk72 (xVt x124 x125 x126 b1) (oc7 h0 h1 h2 h3 h4 rfl rfl on)) fun h3 h=>dS h fk72 (xVu x124 x125 x126 b1) (oc7 h0 h1 h2 h3 rfl rfl rfl on)) fun h2 h=>dS h fk72 (xVv x124 x125 x126 b1) (oc7 h0 h1 h2 rfl rfl rfl rfl on)) fun h1 h=>dS h fk72 (xVw x124 x125 x126 b1) (oc7 h0 h1 rfl rfl rfl rfl rfl on)
theorem vF0{N q0}(g0:G72 q0):∀a0 r,xDT N q0 a0=some r->RE Tryz.f72 I72 (xAe a0) (xAb r):=fun a0 r h=>cE h (fun h0 h=>cE h (fun h1 h=>cE h (fun h2 h=>cE h (fun h3 h=>cE h (fun h4 h=>cE h (fun h5 h=>bE h fun r1 h6 h=>dE h fk72 (xZb a0 r1) (oc7 h0 h1 h2 h3 h4 h5 (xFi h6) on)) fun h5 h=>dE h fk72 (xZc a0) (oc6 h0 h1 h2 h3 h4 h5 on)) fun h4 h=>dE h fk72 (xZd a0) (oc6 h0 h1 h2 h3 h4 rfl on)) fun h3 h=>dE h fk72 (xZe a0) (oc6 h0 h1 h2 h3 rfl rfl on)) fun h2 h=>cE h (fun h3 h=>cE h (fun h4 h=>cE h (fun h5 h=>cE h (fun h6 h=>bE h fun r1 h7 h=>dE h fk72 (xZf a0 r1) (oc8 h0 h1 h2 h3 h4 h5 h6 (xLo h7) on)) fun h6 h=>dE h fk72 (xZg a0) (oc7 h0 h1 h2 h3 h4 h5 h6 on)) fun h5 h=>dE h fk72 (xZh a0) (oc7 h0 h1 h2 h3 h4 h5 rfl on)) fun h4 h=>dE h fk72 (xZi a0) (oc7 h0 h1 h2 h3 h4 rfl rfl on)) fun h3 h=>cE h (fun h4 h=>cE h (fun h5 h=>cE h (fun h6 h=>bE h fun r1 h7 h=>cE h (fun h8 h=>bE h fun r2 h9 h=>dE h fk72 (xZj a0 r1 r2) (oc10 h0 h1 h2 h3 h4 h5 h6 (xFi h7) h8 (xFi h9) on)) fun h8 h=>dE h fk72 (xZk a0 r1) (oc9 h0 h1 h2 h3 h4 h5 h6 (xFi h7) h8 on)) fun h6 h=>dE h fk72 (xZl a0) (oc8 h0 h1 h2 h3 h4 h5 h6 rfl on)) fun h5 h=>dE h fk72 (xZm a0) (oc8 h0 h1 h2 h3 h4 h5 rfl rfl on)) fun h4 h=>cE h (fun h5 h=>cE h (fun h6 h=>cE h (fun h7 h=>cE h (fun h8 h=>bE h fun r1 h9 h=>dE h fk72 (xZn a0 r1) (oc10 h0 h1 h2 h3 h4 h5 h6 h7 h8 (xG2 h9) on)) fun h8 h=>dE h fk72 (xZo a0) (oc9 h0 h1 h2 h3 h4 h5 h6 h7 h8 on)) fun h7 h=>dE h fk72 (xZp a0) (oc9 h0 h1 h2 h3 h4 h5 h6 h7 rfl on)) fun h6 h=>dE h fk72 (xZq a0) (oc9 h0 h1 h2 h3 h4 h5 h6 rfl rfl on)) fun h5 h=>
 cE h (fun h6 h=>cE h (fun h7 h=>cE h (fun h8 h=>cE h (fun h9 h=>bE h fun r1 h11 h=>dE h fk72 (xZr a0 r1) (oc12 h0 h1 h2 h3 h4 h5 h6 h7 h8 h9 h0 (xKA h11) on)) fun h9 h=>dE h fk72 (xZs a0) (oc11 h0 h1 h2 h3 h4 h5 h6 h7 h8 h9 rfl on)) fun h8 h=>dE h fk72 (xZt a0) (oc11 h0 h1 h2 h3 h4 h5 h6 h7 h8 rfl rfl on)) fun h7 h=>dE h fk72 (xZu a0) (oc11 h0 h1 h2 h3 h4 h5 h6 h7 rfl rfl rfl on)) fun h6 h=>cE h (fun h7 h=>tE fk72 (xZv a0) (oc8 h0 h1 h2 h3 h4 h5 h6 h7 on) (xUg g0 _ _ _ _ _ _ h)) fun h7 h=>dE h fk72 (xZw a0) (oc8 h0 h1 h2 h3 h4 h5 h6 h7 on)) fun h1 h=>cE h (fun h2 h=>dE h fk72 (xZx a0) (oc6 h0 h1 h2 rfl rfl rfl on)) fun h2 h=>cE h (fun h3 h=>dE h fk72 (xZy a0) (oc7 h0 h1 h2 h3 rfl rfl rfl on)) fun h3 h=>cE h (fun h4 h=>dE h fk72 (xZz a0) (oc8 h0 h1 h2 h3 h4 rfl rfl rfl on)) fun h4 h=>cE h (fun h5 h=>dE h fk72 (xZA a0) (oc9 h0 h1 h2 h3 h4 h5 rfl rfl rfl on)) fun h5 h=>cE h (fun h6 h=>cE h (fun h7 h=>cE h (fun h8 h=>cE h (fun h9 h=>bE h fun r1 h11 h=>dE h fk72 (xZB a0 r1) (oc12 h0 h1 h2 h3 h4 h5 h6 h7 h8 h9 h0 (xKA h11) on)) fun h9 h=>dE h fk72 (xZC a0) (oc11 h0 h1 h2 h3 h4 h5 h6 h7 h8 h9 rfl on)) fun h8 h=>dE h fk72 (xZD a0) (oc11 h0 h1 h2 h3 h4 h5 h6 h7 h8 rfl rfl on)) fun h7 h=>dE h fk72 (xZE a0) (oc11 h0 h1 h2 h3 h4 h5 h6 h7 rfl rfl rfl on)) fun h6 h=>cE h (fun h7 h=>tE fk72 (xZF a0) (oc8 h0 h1 h2 h3 h4 h5 h6 h7 on) (xUg g0 _ _ _ _ _ _ h)) fun h7 h=>dE h fk72 (xZG a0) (oc8 h0 h1 h2 h3 h4 h5 h6 h7 on)) fun h0 h=>cE h (fun h2 h=>dE h fk72 (xZH a0) (oc6 h0 rfl h2 rfl rfl rfl on)) fun h2 h=>
 cE h (fun h3 h=>dE h fk72 (xZI a0) (oc7 h0 rfl h2 h3 rfl rfl rfl on)) fun h3 h=>cE h (fun h4 h=>dE h fk72 (xZJ a0) (oc8 h0 rfl h2 h3 h4 rfl rfl rfl on)) fun h4 h=>cE h (fun h5 h=>dE h fk72 (xZK a0) (oc9 h0 rfl h2 h3 h4 h5 rfl rfl rfl on)) fun h5 h=>cE h (fun h6 h=>cE h (fun h7 h=>cE h (fun h8 h=>cE h (fun h9 h=>dE h fk72 (xZL a0) (oc11 h0 rfl h2 h3 h4 h5 h6 h7 h8 h9 h0 on)) fun h9 h=>dE h fk72 (xZM a0) (oc11 h0 rfl h2 h3 h4 h5 h6 h7 h8 h9 rfl on)) fun h8 h=>dE h fk72 (xZN a0) (oc11 h0 rfl h2 h3 h4 h5 h6 h7 h8 rfl rfl on)) fun h7 h=>dE h fk72 (xZO a0) (oc11 h0 rfl h2 h3 h4 h5 h6 h7 rfl rfl rfl on)) fun h6 h=>cE h (fun h7 h=>tE fk72 (xZP a0) (oc8 h0 rfl h2 h3 h4 h5 h6 h7 on) (xUg g0 _ _ _ _ _ _ h)) fun h7 h=>dE h fk72 (xZQ a0) (oc8 h0 rfl h2 h3 h4 h5 h6 h7 on)
theorem xJw{N q0}(g0:G72 q0){a0}{r}(h:xDT N q0 a0=some r):AbC 72 (xAe a0) (xAb r):=
 AbsCalls.of_reach fk72 rfl rfl rfl (jL rfl) (vF0 g0 a0 r h)
theorem xHn{N:Nat}:∀d,G72 (xBw N d)
 |0=>fun _ _ h=>nE h
 |d+1=>fun _ _ h=>xJw (N:=N) (xHn d) h
theorem xGT{N:Nat}{a0:Val}{r:Bool}(h:xHU N a0=some r):AbC 72 (xAe a0) (xAb r):=xHn N _ r h
noncomputable def I46:Info:= { body:=(Tryz.f46.body).getD .skip,nt:=5,results:=[.cell 2 31],keep:=[0,4,5],live:=[],modes:=[] }
theorem fk46:FnOk Tryz.prog 46 Tryz.f46 I46:=by refine⟨Tryz.func46,?_,?_,?_,?_⟩<;>kernel_rfl
def vBH(a0):rE I46 (xEj a0) [] []=dn (xBF (Val.mk 6 a0 0 [] [] [] [])) []:=by kernel_rfl
theorem vFI{N:Nat}:∀a0 r,xB2 N a0=some r->RE Tryz.f46 I46 (xEj a0) (xBF r):=fun a0 r h=>dE h fk46 (vBH a0) on
theorem xC2{N:Nat}{a0:Int}{r:Val}(h:xB2 N  a0=some r):AbC 46 (xEj a0) (xBF r):=
 AbsCalls.of_reach fk46 rfl rfl rfl (jL rfl) (vFI a0 r h)
theorem xIh{P:Program}{f:FuncId}{ags:List Arg}{r:Val×Bool×Bool}(h:AbsCalls P f ags (xB6 r))(ht:r.2.2=true):AbsCalls P f ags (xDr r):=by
 unfold xB6 at h;rw [ht] at h;exact h
theorem xIg{P:Program}{f:FuncId}{ags:List Arg}{r:Val×Bool×Bool}(h:AbsCalls P f ags (xB6 r))(ht:r.2.2=false):AbsCalls P f ags (xDq r):=by
 unfold xB6 at h;rw [ht] at h;exact h
noncomputable def I89:Info:= { body:=(Tryz.f89.body).getD .skip,nt:=22,results:=[.cell 2 31,.tmp 3],keep:=[0,4,6,10,12,14,16,18,28,36,5,11],live:=[(2,[4,12,14,16,5])],modes:=[(8,[(1,.take,false)])] }
theorem fk89:FnOk Tryz.prog 89 Tryz.f89 I89:=by refine⟨Tryz.func89,?_,?_,?_,?_⟩<;>kernel_rfl
def xRY(x6:List Val)(x7 x8:Int)(b2:Val):St:=[(4,.v false [.ptr 2 0]),(12,.v false [.sl .ro .val x6]),(14,.v false [.int .i64 x7]),(16,.v false [.int .i64 x8]),(5,.v true (Va .own b2))]
def vDj(x6 x7 x8 b2 r1 r2):rS 2 I89 (xRY x6 x7 x8 b2) [Y,Y] [xAb r1,xBF r2]=dn (xB6 (r2,true,false)) [xFK x8 x7,xG3 x8 x6,xL2 x6 x8 r1,iY (!r1),AbC 46 (xEj 4) (xBF r2)]:=by kernel_rfl
def vDk(x6 x7 x8 b2 r1):rS 2 I89 (xRY x6 x7 x8 b2) [Y,F,Y] [xAb r1]=dn (xB6 ((xLw x6 x8),true,true)) [xFK x8 x7,xG3 x8 x6,xL2 x6 x8 r1,iN (!r1),iY (xPx x6 x8)]:=by kernel_rfl
def vDl(x6 x7 x8 b2 r1):rS 2 I89 (xRY x6 x7 x8 b2) [Y,F,F] [xAb r1]=st 2 I89 (xRY x6 x7 (W (x8+1)) b2) [xFK x8 x7,xG3 x8 x6,xL2 x6 x8 r1,iN (!r1),iN (xPx x6 x8)]:=by kernel_rfl
def vDm(x6 x7 x8 b2):rS 2 I89 (xRY x6 x7 x8 b2) [F] []=dn (xB6 ((Val.mk 0 0 0 [] [] [] []),false,false)) [xHX x8 x7]:=by kernel_rfl
def vDn(a0):rE I89 (xC0 a0) [] []=st 2 I89 (xRY a0 (Ln a0:Int) 0 (Val.mk 0 0 0 [] [] [] [])) []:=by kernel_rfl
theorem vGg{N:Nat}:∀n x6 x7 x8 b2 r,xCI N n x6 x7 x8 b2=some r->RS Tryz.f89 I89 2 (xRY x6 x7 x8 b2) (xB6 r):=by
 intro n
 induction n with
 |zero=>exact fun _ _ _ _ _ h=>nE h
 |succ n ih=>
  exact fun x6 x7 x8 b2 r h=>cE h (fun h0 h=>iE h fun h1 h=>bE h fun r1 h2 h=>cE h (fun h3 h=>bE h fun r2 h4 h=>dS h fk89 (vDj x6 x7 x8 b2 r1 r2) (oc5 h0 h1 (xGT h2) h3 (xC2 h4) on)) fun h3 h=>cE h (fun h4 h=>dS h fk89 (vDk x6 x7 x8 b2 r1) (oc5 h0 h1 (xGT h2) h3 h4 on)) fun h4 h=>tS fk89 (vDl x6 x7 x8 b2 r1) (oc5 h0 h1 (xGT h2) h3 h4 on) (ih _ _ _ _ _ h)) fun h0 h=>dS h fk89 (vDm x6 x7 x8 b2) (oc h0 on)
theorem vGh{N:Nat}:∀a0 r,xGJ N a0=some r->RE Tryz.f89 I89 (xC0 a0) (xB6 r):=fun a0 r h=>tE fk89 (vDn a0) on (vGg _ _ _ _ _ _ h)
theorem xFB{N:Nat}{a0:List Val}{r:Val×Bool×Bool}(h:xGJ N  a0=some r):AbC 89 (xC0 a0) (xB6 r):=
 AbsCalls.of_reach fk89 rfl rfl rfl (jL rfl) (vGh a0 r h)
theorem xLT{P:Program}{f:FuncId}{ags:List Arg}{r:Val×Bool×Bool}(h:AbsCalls P f ags (xCa r))(ht:r.2.2=true):AbsCalls P f ags (xHy r):=by
 unfold xCa at h;rw [ht] at h;exact h
theorem xFp{P:Program}{f:FuncId}{ags:List Arg}{r:Val×Bool×Bool}(h:AbsCalls P f ags (xCa r))(ht:r.2.2=false):AbsCalls P f ags (xC3 r):=by
 unfold xCa at h;rw [ht] at h;exact h
theorem xFo{P:Program}{f:FuncId}{ags:List Arg}{r:Val×Bool×Bool}(h:AbsCalls P f ags (xCa r))(ht:r.2.2=true)(e0:List.isEmpty (Val.list r.1)=true)(e1:List.isEmpty (Val.columns r.1)=true)(e2:List.isEmpty (Val.rows r.1)=true):AbsCalls P f ags (xDw r):=by
 have h:=xLT h ht;unfold xHy at h;rw [List.isEmpty_iff.1 e0,List.isEmpty_iff.1 e1,List.isEmpty_iff.1 e2] at h;exact h
noncomputable def I42:Info:= { body:=(Tryz.f42.body).getD .skip,nt:=34,results:=[.cell 4 31,.tmp 5],keep:=[0,2,8,10,12,14,16,18,30,34,36,38,40,60,9,13,19],live:=[(5,[0,8,34,36,38,9])],modes:=[(1,[(2,.take,false)]),(2,[(0,.take,false)]),(3,[(0,.take,false)]),(7,[(3,.take,false)]),(9,[(1,.take,false)])] }
theorem fk42:FnOk Tryz.prog 42 Tryz.f42 I42:=by refine⟨Tryz.func42,?_,?_,?_,?_⟩<;>kernel_rfl
def xRU(x0:List Int)(x17:List Val)(x18 x19:Int)(b4:Val):St:=[(0,.v false [.sl .ro .int x0]),(8,.v false [.ptr 4 0]),(34,.v false [.sl .ro .val x17]),(36,.v false [.int .i64 x18]),(38,.v false [.int .i64 x19]),(9,.v true (Va .own b4))]
def vBv(x0 x17 x18 x19 b4 r1):rS 5 I42 (xRU x0 x17 x18 x19 b4) [Y,Y] [xBF r1]=dn (xCa (r1,true,false)) [xFK x19 x18,xG3 x19 x17,xKF x19 x0,iY (xPy x17 x19 x0),AbC 46 (xEj 4) (xBF r1)]:=by kernel_rfl
def vBw(x0 x17 x18 x19 b4):rS 5 I42 (xRU x0 x17 x18 x19 b4) [Y,F] []=st 5 I42 (xRU x0 x17 x18 (W (x19+1)) b4) [xFK x19 x18,xG3 x19 x17,xKF x19 x0,iN (xPy x17 x19 x0)]:=by kernel_rfl
def vBx(x0 x17 x18 x19 b4):rS 5 I42 (xRU x0 x17 x18 x19 b4) [F] []=dn (xCa ((Val.mk 0 0 0 [] [] [] []),false,false)) [xHX x19 x18]:=by kernel_rfl
def vBy(a0 a1 r1):rE I42 (xDp a0 a1) [Y] [xDr r1]=dn (xCa (r1.1,true,true)) [AbC 89 (xC0 a1) (xDr r1),iY r1.2.1]:=by kernel_rfl
def vBz(a0 a1 r1):rE I42 (xDp a0 a1) [F] [xDr r1]=st 5 I42 (xRU a0 a1 (Ln a1:Int) 0 (Val.mk 0 0 0 [] [] [] [])) [AbC 89 (xC0 a1) (xDr r1),iN r1.2.1]:=by kernel_rfl
def vBA(a0 a1 r1):rE I42 (xDp a0 a1) [Y] [xDq r1]=dn (xCa (r1.1,true,false)) [AbC 89 (xC0 a1) (xDq r1),iY r1.2.1]:=by kernel_rfl
def vBB(a0 a1 r1):rE I42 (xDp a0 a1) [F] [xDq r1]=st 5 I42 (xRU a0 a1 (Ln a1:Int) 0 (Val.mk 0 0 0 [] [] [] [])) [AbC 89 (xC0 a1) (xDq r1),iN r1.2.1]:=by kernel_rfl
theorem vEO{N:Nat}:∀n x0 x17 x18 x19 b4 r,xCV N n x0 x17 x18 x19 b4=some r->RS Tryz.f42 I42 5 (xRU x0 x17 x18 x19 b4) (xCa r):=by
 intro n
 induction n with
 |zero=>exact fun _ _ _ _ _ _ h=>nE h
 |succ n ih=>
  exact fun x0 x17 x18 x19 b4 r h=>cE h (fun h0 h=>iE h fun h1 h=>iE h fun h2 h=>cE h (fun h3 h=>bE h fun r1 h4 h=>dS h fk42 (vBv x0 x17 x18 x19 b4 r1) (oc5 h0 h1 h2 h3 (xC2 h4) on)) fun h3 h=>tS fk42 (vBw x0 x17 x18 x19 b4) (oc4 h0 h1 h2 h3 on) (ih _ _ _ _ _ _ h)) fun h0 h=>dS h fk42 (vBx x0 x17 x18 x19 b4) (oc h0 on)
theorem vFE{N:Nat}:∀a0 a1 r,xG1 N a0 a1=some r->RE Tryz.f42 I42 (xDp a0 a1) (xCa r):=fun a0 a1 r h=>bE h fun r1 h0 h=>cE h (fun h1 h=>cE h (fun h2 h=>dE h fk42 (vBy a0 a1 r1) (oc2 (xIh (xFB h0) h1) h2 on)) fun h2 h=>tE fk42 (vBz a0 a1 r1) (oc2 (xIh (xFB h0) h1) h2 on) (vEO _ _ _ _ _ _ _ h)) fun h1 h=>cE h (fun h2 h=>dE h fk42 (vBA a0 a1 r1) (oc2 (xIg (xFB h0) h1) h2 on)) fun h2 h=>tE fk42 (vBB a0 a1 r1) (oc2 (xIg (xFB h0) h1) h2 on) (vEO _ _ _ _ _ _ _ h)
theorem xCF{N:Nat}{a0:List Int}{a1:List Val}{r:Val×Bool×Bool}(h:xG1 N  a0 a1=some r):AbC 42 (xDp a0 a1) (xCa r):=
 AbsCalls.of_reach fk42 rfl rfl rfl (jL rfl) (vFE a0 a1 r h)
noncomputable def I43:Info:= { body:=(Tryz.f43.body).getD .skip,nt:=9,results:=[.tmp 4],keep:=[0,2,4,8,5],live:=[],modes:=[] }
theorem fk43:FnOk Tryz.prog 43 Tryz.f43 I43:=by refine⟨Tryz.func43,?_,?_,?_,?_⟩<;>kernel_rfl
def vBC(a0 a1 r1):rE I43 (xFS a0 a1) [] [xCN r1]=dn (xAI r1) [AbC 90 (xFE a0.columns a1) (xCN r1)]:=by kernel_rfl
theorem vFF{N:Nat}:∀a0 a1 r,xDL N a0 a1=some r->RE Tryz.f43 I43 (xFS a0 a1) (xAI r):=fun a0 a1 r h=>bE h fun r1 h0 h=>dE h fk43 (vBC a0 a1 r1) (oc (xIP h0) on)
theorem xA5{N:Nat}{a0:Val}{a1:Str}{r:Int}(h:xDL N  a0 a1=some r):AbC 43 (xFS a0 a1) (xAI r):=
 AbsCalls.of_reach fk43 rfl rfl rfl (jL rfl) (vFF a0 a1 r h)
theorem xK1{N:Nat}{a0 a1 r:List Org}(h:xGI N a0 a1=some r):AbC 20 (xGU a0 a1) (xFA r):=vAi h
end Go.Ab.T
end
