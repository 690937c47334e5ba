/- A layer over the machine of the kit: an evaluator over plain data that is sound. Conditions: none. -/
import Derived.Test.YtdjlpnkiffdnpaaGreatDoorL0
set_option linter.all false
section
namespace Go.Ab
variable [Inhabited Lb]
theorem oH{T:Ty}(hf:T.flat=true)(x:T.den):∀d∈T.toD x,∀sz rows,d≠ .sl sz rows:=by
 cases T <;>first |(cases hf;done) |(intro d hd sz rows e;subst e;simp [Ty.toD] at hd)
theorem RdP.scalar{w:World}{ok:List (Nat×Nat)->Nat->Nat->Prop}{q:List (Nat×Nat)->Value->Nat->Prop}{v:Value}{d:D}(h:RdP w ok q v d)(hd:∀sz rows,d≠ .sl sz rows)
 (w' :World) (ok' :List (Nat×Nat)->Nat->Nat->Prop) (q' :List (Nat×Nat)->Value->Nat->Prop):RdP w' ok' q' v d:=by
 cases h with
 |int k n=>exact .int k n
 |bool b=>exact .bool b
 |str s=>exact .str s
 |nil a cap sz hq=>exact absurd rfl (hd _ _)
 |sl b off n cap sz rows=>exact absurd rfl (hd _ _)
structure Scr (E E' :Env):Prop where
 ow:E'.ow=E.ow
 hw:E'.hw=E.hw
 bx:E'.bx=E.bx
 hdr:E'.hdr=E.hdr
 cell:∀b o,o<E.hw b->E'.w.cell? ⟨b,o,none⟩=E.w.cell? ⟨b,o,none⟩
 frz:∀b o,E'.w.frozen? ⟨b,o,none⟩=E.w.frozen? ⟨b,o,none⟩
 obj:∀(b:Nat) (cs:Array Value) (ty:TypeId) (fr:Nat×Nat),E.w.heap[b]? =some (.cells cs ty fr)->∃cs',E'.w.heap[b]? =some (.cells cs' ty fr)/\cs'.size=cs.size
 same:∀b,(∀k c p,E.ow b≠some (.arr k c p))->E'.w.heap[b]? =E.w.heap[b]?
 os:E'.w.os=E.w.os
 tape:E'.w.tape=E.w.tape
 output:E'.w.output=E.w.output
 size:E'.w.heap.size=E.w.heap.size
theorem Scr.refl(E:Env):Scr E E:=⟨rfl,rfl,rfl,rfl,fun _ _ _=>rfl,fun _ _=>rfl,fun _ cs _ _ h=>⟨cs,h,rfl⟩,fun _ _=>rfl,rfl,rfl,rfl,rfl⟩
section
variable {C:Ctx} {σ:St} {a:Act} {E E' :Env} {u u' u'' :Ups} {tt:TT} {bxs:Nat->Prop}
theorem Tip.scr(h:Scr E E'){l:Own}{v:Value}{sz:Nat}(ht:Tip E l v sz):Tip E' l v sz:=by
 unfold Tip at ht ⊢;split at ht
 ·obtain⟨h1,h2,h3,cs,ty,lo,hi,h4,h5,h6⟩:=ht;obtain⟨cs',g1,g2⟩:=h.obj _ _ _ _ h4;exact⟨by rw [h.ow];exact h1,by rw [h.hw];exact h2,h3,cs',ty,lo,hi,g1,by rw [g2];exact h5,h6⟩
 ·exact ht
 ·exact ht.elim
theorem okF.scr(h:Scr E E'){k:Pl}{c:Nat}{f:Fl}{p:List (Nat×Nat)}{b o:Nat}(ho:okF E k c f p b o):o<E.hw b/\okF E' k c f p b o:=by
 cases f <;>simp only [okF,h.hw,h.ow] at ho ⊢ <;>first |exact⟨ho.1,ho⟩|exact⟨ho,ho⟩
theorem qF.scr(h:Scr E E'){k:Pl}{c:Nat}{f:Fl}{p:List (Nat×Nat)}{v:Value}{sz:Nat}(hq:qF E k c f p v sz):qF E' k c f p v sz:=by
 cases f with
 |own=>exact Tip.scr h hq
 |lnt n=>exact⟨Tip.scr h hq.1,by rw [h.hdr];exact hq.2⟩
 |tip=>exact fun hp=>Tip.scr h (hq hp)
 |al k' c' p' =>exact Tip.scr h hq
 |ro=>trivial
 |bor=>trivial
theorem RdP.scr(h:Scr E E'){k:Pl}{c:Nat}{f:Fl}{g:List (Nat×Nat)->List (Nat×Nat)}{v:Value}{d:D}(hr:RdP E.w (fun p=>okF E k c f (g p)) (fun p=>qF E k c f (g p)) v d):
 RdP E'.w (fun p=>okF E' k c f (g p)) (fun p=>qF E' k c f (g p)) v d:=
 hr.mono (fun p b o ho=>⟨h.cell b o (okF.scr h ho).1,(okF.scr h ho).2⟩) (fun p v sz hq=>qF.scr h hq)
theorem VRc.scr(h:Scr E E'){k:Pl}{c:Nat}{x:CV}{v:Value}(hx:∀k' c' p T xs,x≠ .apd k' c' p T xs)(hv:VRc E bxs k c x v):VRc E' bxs k c x v:=by
 cases x with
 |int kd n=>exact hv
 |bool b=>exact hv
 |str s=>exact hv
 |val u=>exact hv
 |undef=>exact hv
 |ptr s off=>exact⟨by rw [h.bx];exact hv.1,hv.2⟩
 |clo k ss=>exact⟨by rw [h.bx];exact hv.1,hv.2⟩
 |swp sf n h0 s=>exact⟨hv.1,fun ad l cap he=>by rw [h.hdr] at he ⊢;exact hv.2 ad l cap he⟩
 |sl f T xs=>exact RdP.scr (g:=id) h hv
 |apd k' c' p T xs=>exact absurd rfl (hx _ _ _ _ _)
 |eptr f T x off=>
  obtain⟨hf,b,o,e,u,hu⟩:=hv;refine⟨hf,b,o,e,u,fun j hj=> ?_⟩;obtain⟨g1,g2,g3⟩:=hu j hj;have g4:=okF.scr h g2;exact⟨(h.cell _ _ g4.1).trans g1,g4.2,RdP.scr (g:=fun p=>(0,j)::p) h g3⟩
 |eref k' c' p i T x off=>
  obtain⟨b,e,e1,e2,u,hu⟩:=hv;refine⟨b,e,by rw [h.ow];exact e1,by rw [h.hw];exact⟨e2.1,fun o ho=>by rw [h.frz];exact e2.2 o ho⟩,u,fun j hj=> ?_⟩;obtain⟨g1,g2⟩:=hu j hj;refine⟨(h.cell _ _ ?_).trans g1,RdP.scr (g:=fun q=>(i,j)::q) h g2⟩;rw [Ty.toD_length] at hj;have:=e2.1;rw [ZM,YJ] at this;omega
theorem lX(q:Nat):St.get ((aB,AV.none)::(u++σ)) q=if aB=q then .none else(St.get (u++σ) q).mapC (CV.stale [aB] true):=by
 rw [St.get_cons]
 rfl
theorem qK(h:Scr E E'){k:Pl}{c:Nat}{x:CV}{v:Value}(hv:VRc E bxs k c x v):VRc E' bxs k c (x.stale [aB] true) v:=by
 rcases CV.stale_eq (s:=[aB]) (m:=true) x with e|⟨e,_,e2⟩
 ·rw [e];exact hv.one
 ·rw [e];refine VRc.scr h ?_ hv;rintro k' c' p T xs rfl;simp [CV.isBor] at e2
theorem Inv.scr(hi:Inv C (St.get (u++σ)) a.tmps E)(h:Scr E E'):Inv C (St.get (((aB,.none)::u)++σ)) a.tmps E' :=by
 have hbx:∀s,aA (St.get (u++σ)) s->aA (St.get (((aB,.none)::u)++σ)) s:=by
  rintro s ⟨ys,hys⟩;unfold aA;rw [jO,lX,Zf (by unfold aB;omega),hys];exact⟨_,rfl⟩
 have hb:∀ {pl:Pl} {j:Nat} {x:CV} {v:Value},VRc E' (aA (St.get (u++σ))) pl j x v->VRc E' (aA (St.get (((aB,.none)::u)++σ))) pl j x v:=fun hv=>by
  rename_i pl j x v;cases x with
  |ptr s off=>exact⟨hv.1,hbx s hv.2⟩
  |clo k ss=>exact⟨hv.1,fun s hs=>hbx s (hv.2 s hs)⟩
  |_=>exact hv
 refine { os:=h.os.trans hi.os,base:=hi.base,ext:=fun s b he=>⟨hbx s (hi.ext s b he).1,by rw [h.bx];exact(hi.ext s b he).2⟩,tape:=h.tape.trans hi.tape,output:=h.output.trans hi.output,size:=by rw [h.size];exact hi.size,hdr:=h.hdr.trans hi.hdr,old:=fun b hlt h0=> ?_,new:=fun b hlt=> ?_,inj:=by rw [h.ow];exact hi.inj,boxhw:=by rw [h.ow,h.hw];exact hi.boxhw,nt:=hi.nt,tmp:=fun t=> ?_,box:=fun s cs' hs=> ?_ }
 ·obtain⟨a1,a2,a3⟩:=hi.old b hlt h0;exact⟨(h.same b (by rw [a3];simp)).trans a1,by rw [h.hw];exact a2,by rw [h.ow];exact a3⟩
 ·rw [h.size] at hlt;rw [h.ow,h.hw];exact hi.new b hlt
 ·rw [jO,lX];split
  ·trivial
  ·exact VR.imp (fun j x v _ hv=>hb (qK h hv)) (hi.tmp t)
 ·rw [jO,lX,Zf (by unfold aB;omega)] at hs;cases hq:St.get (u++σ) (2*s+1) with
  |v g cs0=>
   rw [hq] at hs;injection hs with hs1 hs2;subst hs1 hs2;obtain⟨h1,vals,ty,h2,h3⟩:=hi.box s cs0 hq;refine⟨by rw [h.ow,h.bx];exact h1,vals,ty,?_,VRs.imp (fun j x v _ hv=>hb (qK h hv)) h3⟩;rw [h.bx,h.same _ (by rw [h1];simp)];exact h2
  |tup xs=>rw [hq] at hs;cases hs
  |none=>rw [hq] at hs;cases hs
theorem xX{b:Nat}{l:Own}(hb:E.ow b=some l)(hl:∃k c p,l= .arr k c p){cs:Array Value}{ty:TypeId}{fr:Nat×Nat}(hh:E.w.heap[b]? =some (.cells cs ty fr)){vs:List Value}{o:Nat}(ho:E.hw b<=o):
 Scr E { E with w:=E.w.setCells b o vs }:=by
 obtain⟨cs',c1,c2,c3⟩:=dM b vs o E.w hh;obtain⟨o1,o2,o3⟩:=dN b vs o E.w;refine⟨rfl,rfl,rfl,rfl,fun b' o' h=> ?_,fun b' o' => ?_,fun b' cs0 ty0 fr0 h=> ?_,fun b' h=> ?_,o1,o2,o3,dB b vs o E.w⟩
 ·by_cases e:b' =b
  ·subst e;have:cs'[o']? =cs[o']? :=by rw [c3,Zf (by omega)]
   simp [World.cell?,c1,hh,this]
  ·exact aT (cW b b' e _ _ _) _
 ·by_cases e:b' =b
  ·subst e;simp [World.frozen?,c1,hh]
  ·exact oM (cW b b' e _ _ _) _
 ·by_cases e:b' =b
  ·subst e;rw [hh] at h;cases h;exact⟨cs',c1,c2⟩
  ·exact⟨cs0,(cW b b' e _ _ _).trans h,rfl⟩
 ·by_cases e:b' =b
  ·subst e;obtain⟨k,c,p,rfl⟩:=hl;exact absurd hb (h _ _ _)
  ·exact cW b b' e _ _ _
theorem rX{w:World}(hi:Inv C (St.get (u++σ)) a.tmps E)(hw:E.w=w){t0 t1 e:TypeId}{te:TypeInfo}{z:Value}{T:Ty}(ht:C.P.underlying t0=some (.slice e))
 (hd:(∃e',C.P.underlying t1=some (.slice e'))\/C.P.underlying t1=some .string) (hte:C.P.info? e=some te) (hsz:te.size=T.sz) (hby:te.bytes<=256) (hz:te.zero=some z)
 (hzc:z.cells.size=T.sz) (hfl:T.flat=true) {xs ys:List T.den} {k c:Nat} {p:List (Nat×Nat)}
 {v0 x:Value} (hv0:VRc E (aA (St.get (u++σ))) (.h 0) 0 (.sl (.al k c p) T xs) v0) {news:List Value} (hs:SrcRun C.P w T.sz ys.length news x)
 (hnew:∀i j (hi:i<ys.length) (hj:j<(T.toD ys[i]).length),∃u,news[i*T.sz+j]? =some u/\∀w' ok q,RdP w' ok q u (T.toD ys[i])[j])
 (hL:xs.length+ys.length<=Lim) (ty:TypeId):
 ∃val w',(Builtin.append_ #[t0,t1] ty #[v0,x]).run C.P w= .ok val w' /\Hand C (((aB,.none)::u)++σ) a.tmps w' 0 (.v false [.apd k c p T (xs++ys)]) val:=by
 subst hw;have hp:=Ty.sz_pos T;have hv0:RdP E.w (okF E (.h 0) 0 (.al k c p)) (qF E (.h 0) 0 (.al k c p)) v0 (.sl T.sz (xs.map T.toD)):=hv0;obtain⟨olds,ho,hoc,hok⟩:=iH (P:=C.P) hv0 hp;obtain⟨ad,cap,rfl,hcap⟩:=hv0.shape;rw [Zr] at ho hcap;have hq:Tip E (.arr (.k k) c (p++ [])) (.slice ad (xs.map T.toD).length cap) T.sz:=hv0.top;rw [Zr,Zb] at hq;rw [Zr];have hold:∀i j (hi:i<xs.length) (hj:j<(T.toD xs[i]).length),∃u,olds[i*T.sz+j]? =some u/\∀w' ok q,RdP w' ok q u (T.toD xs[i])[j]:=by
  intro i j hi hj;obtain⟨u,h1,h2⟩:=hok i j (by simpa using hi) (by simpa using hj);refine⟨u,h1,fun w' ok q=> ?_⟩;have h3:=h2.scalar (fun sz rows=>oH hfl xs[i] _ (by simp) sz rows) w' ok q;simpa using h3
 have hnl:=hs.length;have hol:=ho.length;have hlt:∀(n i j:Nat),i<n->j<T.sz->i*T.sz+j<n*T.sz:=by
  intro n i j hi hj
  calc i*T.sz+j<i*T.sz+T.sz:=by omega
   _=(i+1)*T.sz:=by rw [ZM,YJ]
   _<=n*T.sz:=ZJ _ hi
 by_cases hroom:xs.length+ys.length<=cap
 ·match ad,hq with
  |none,hq=>
   obtain⟨h0,rfl⟩:xs.length=0/\cap=0:=hq;have hx:xs=[]:=Z0.1 h0;have hy:ys=[]:=Z0.1 (by omega);subst hx hy;exact⟨_,_,qE ht hd hte (by rw [hsz];exact hs),E,rfl,Inv.scr hi (Scr.refl E),⟨hfl,.inr (RdP.nil none 0 T.sz ⟨rfl,rfl⟩)⟩,trivial⟩
  |some ⟨b,off,sp⟩,hq=>
   match off,sp,hq with
   |_+1,_,hq=>exact hq.elim
   |0,some _,hq=>exact hq.elim
   |0,none,hq=>
    obtain⟨q1,q2,q3,cs,cty,lo,hi',q4,q5,q6⟩:=hq;have hin:∀j,j<news.length->xs.length*T.sz+j<cap*T.sz:=by
     intro j hj;have:(xs.length+ys.length)*T.sz<=cap*T.sz:=ZJ _ hroom;rw [ZM] at this;omega
    have run:=qG (ty:=ty) ht hd hte (by rw [hsz];exact hs) (b:=b) hroom (fun j hj=>by
     have:=hin j hj;rw [hsz];simp [World.cell?,q4];omega) (fun j hj=>by
     have h1:=hin j hj;rw [hsz];simp only [World.frozen?,q4];by_cases hlo:lo<=xs.length*T.sz+j
     ·by_cases hhi:xs.length*T.sz+j<hi'
      ·have:=q6 _ hlo hhi;omega
      ·simp [hhi]
     ·simp [hlo])
    rw [hsz] at run;have scr:=xX (vs:=news) (o:=xs.length*T.sz) q1 ⟨_,_,_,rfl⟩ q4 (by omega);obtain⟨cs',c1,c2,c3⟩:=dM b news (xs.length*T.sz) E.w q4;refine⟨_,_,run,_,rfl,Inv.scr hi scr,⟨hfl,.inl ⟨b,cap,by rw [jA],q1,by rw [jA];exact hroom,?_,cs',cty,lo,hi',c1,by rw [c2];exact q5,q6,fun i j hi hj=> ?_⟩⟩,trivial⟩
    ·show E.hw b<=_;rw [q2,jA];exact ZJ _ (Yi _ _)
    ·have hjs:j<T.sz:=by rw [Ty.toD_length] at hj;exact hj
     by_cases hix:i<xs.length
     ·have e:(xs++ys)[i]=xs[i]:=List.getElem_append_left hix;obtain⟨u1,g1,g2⟩:=hold i j hix (by rw [Ty.toD_length];exact hjs);refine⟨u1,?_,fun w' ok q=>by simp only [e];exact g2 w' ok q⟩;have hk:=hlt xs.length i j hix hjs;rw [c3,Zf (by omega)];have:=hoc b 0 xs.length cap (by rw [Zr]) _ _ g1;rw [Zj] at this;simpa [World.cell?,q4] using this
     ·have hiy:i - xs.length<ys.length:=by rw [jA] at hi;omega
      have e:(xs++ys)[i]=ys[i - xs.length]:=XL (by omega);obtain⟨u1,g1,g2⟩:=hnew (i - xs.length) j hiy (by rw [Ty.toD_length];exact hjs);refine⟨u1,?_,fun w' ok q=>by simp only [e];exact g2 w' ok q⟩;have hk:(i - xs.length)*T.sz+j<news.length:=(Zt.1 g1).1;have:=hin _ hk;have hm:i*T.sz=xs.length*T.sz+(i - xs.length)*T.sz:=by rw [<-ZM];congr 1;omega
      rw [hm,Yt,c3,Zw ⟨Yi _ _,by omega,by omega⟩,Yu];exact g1
 ·have hcapge:=grownCap_ge E.w (xs.length+ys.length) cap e;have run:=qD (ty:=ty) ht hd hte hz (by rw [hsz];exact hs) (s:=ad) (n:=xs.length) (cap:=cap) (olds:=olds) (by rw [hsz];simpa using ho) (by omega) hL hby;generalize hgc:grownCap E.w (xs.length+ys.length) cap e=gc at*;have hg:=Grown.drew E.w (olds++news++(Builtin.zeroCells z.cells (gc - (xs.length+ys.length))).toList).toArray e;have hsrc:=nC xs.length;obtain⟨st,hi2⟩:=lZ hi hg (iR (kp:=false) (nest:=false) hsrc) jB (kU hsrc) ((xs.length+ys.length)*T.sz);have hn:=hi.new E.w.heap.size (Zi _);refine⟨_,_,run,_,rfl,Inv.scr hi2 (Scr.refl _),⟨hfl,.inr ?_⟩,trivial⟩;have hcsz:(olds++news++(Builtin.zeroCells z.cells (gc - (xs.length+ys.length))).toList).toArray.size=gc*T.sz:=by
   have e1:∀k,(Builtin.zeroCells z.cells k).toList.length=k*T.sz:=by
    intro k;have:=size_zeroCells z.cells k;rw [hzc] at this;simpa using this
   rw [X2,jA,jA,e1,hol,hnl,<-ZM,<-ZM]
   congr 1;omega
  refine kS (E:=E) (f:= .own) (g:= .own) (rf:= .own) (bxs:=fun _=>False) (kp:=false) (nest:=false) rfl (.inl ⟨hfl,rfl⟩) (fun b' hb hb2=> ?_) (by simp [Env.newArr]) (by simp [Env.newArr]) hg.new hcapge (hcsz.symm) (fr:=(0,0)) (fun o _ h=>absurd h (YY o)) (fun i j hi hj=> ?_) (fun i j hi hj=> ?_)
  ·have hne:b' ≠E.w.heap.size:=by
    rintro rfl;rcases hb2 with h|h
    ·omega
    ·exact h hn.1
   exact⟨by simp [Env.newArr,hne],by simp [Env.newArr,hne],hg.old b' hne⟩
  ·obtain⟨u1,g1,g2⟩:=hold i j hi hj;refine⟨u1,?_,g2 _ _ _⟩;have hk:i*T.sz+j<olds.length:=(Zt.1 g1).1;rw [YE,Zc,Ze hk];exact g1
  ·obtain⟨u1,g1,g2⟩:=hnew i j hi hj;refine⟨u1,?_,g2 _ _ _⟩;have hk:i*T.sz+j<news.length:=(Zt.1 g1).1;rw [YE,Zc,ZM,Yt,Z3 (by omega),hol,Yu,Ze hk];exact g1
theorem rY{w:World}(htt:aO C.P tt)(hi:Inv C (St.get (u++σ)) a.tmps E)(hw:E.w=w){o:Oper}{c:Call}(ho:o.op= .call c)(hc:c.callee= .builtin .append){x y:Operand}{t0 t1:TypeId}
 (ha:c.args.toList=[x,y]) (hat:c.argTypes.toList=[t0,t1]) {i j:TI} (hti:tt.get t0=some i) (htj:tt.get t1=some j) {p q:CV} {u1 u2:Ups} {p0 q0:AV}
 (h1:Mr (opd tt .take t0 x) σ u=some (p0,u1)) (hp:p0= .v false [p]) (h2:Mr (opd tt .cp t1 y) σ u1=some (q0,u2)) (hq:q0= .v false [q]) (hfit:gH i j p q=true) {r:CV} {ob:List Prop}
 (hr:kQ p q=some (r,ob)) (hob:∀P∈ob,P):Good C (((aB,.none)::u2)++σ) a w o (.v false [r]):=by
 subst hp hq;obtain⟨E1,e1,e2,e3,e4,e5,e6⟩:=d9 hi 0 h1;obtain⟨rfl,g⟩:=d8 e4 h2;have f5:=(g (.h 1)).1;have hx:=e5.1;have hargs:c.args.map a.eval= #[a.eval x,a.eval y]:=by
  apply Y3;rw [YN,ha];rfl
 have hats:c.argTypes= #[t0,t1]:=Y3 hat;simp only [gH,Zv] at hfit;obtain⟨hf1,hf2⟩:=hfit;unfold kQ at hr;split at hr
 ·rename_i k c' pth T xs g' U ys;split at hr
  ·rename_i hUT;subst hUT;cases hfl:U.flat with
   |false=>rw [hfl] at hr;cases hr
   |true=>
    rw [hfl] at hr;cases hr;obtain⟨e',T',he'⟩:=oR (i:=j) hf2;obtain⟨hu',_⟩:=(htt t1 j htj).elem e' T' he';obtain⟨news,s1,s2,s3⟩:=iH (P:=C.P) (v:=a.eval y) f5 (Ty.sz_pos U);rw [Zr] at s1;have s4:∀i j (hi:i<ys.length) (hj:j<(U.toD ys[i]).length),∃u,news[i*U.sz+j]? =some u/\∀w' ok q,RdP w' ok q u (U.toD ys[i])[j]:=by
     intro i j hi hj;obtain⟨u,g1,g2⟩:=s3 i j (by simpa using hi) (by simpa using hj);refine⟨u,g1,fun w' ok q=> ?_⟩;have h3:=g2.scalar (fun sz rows=>oH hfl ys[i] _ (by simp) sz rows) w' ok q;simpa using h3
    obtain⟨e,he⟩:=gT hf1;obtain⟨hu,te,zv,k1,k2,k3,k4,k5,k6⟩:=(htt t0 i hti).elem e U he;have hzc:zv.cells.size=U.sz:=by
     have:=kI k6;rw [Ty.enc_length] at this;simpa using this
    obtain⟨val,w',hrun,hand⟩:=rX e4 rfl hu (.inl ⟨e',hu'⟩) k1 k2 k4 k5 hzc hfl hx s1 s4 (hob _ (by simp)) o.type;refine⟨val,w',?_,hand⟩;rw [nZ ho hc,hargs,hats,<-(show E1.w=w by rw [e1,hw]),hrun]
    rfl
  ·cases hr
 ·cases hr
theorem wD{w:World}(hi:Inv C (St.get (u++σ)) a.tmps E)(hw:E.w=w){k c i off b b' cap:Nat}{p:List (Nat×Nat)}{T U:Ty}{g:Bool}{cs:List CV}{xs:List U.den}{x x' :CV}{val:Value}
 (hg:St.get (u++σ) k= .v g cs) (hc:cs[c]? =some x) (hmx:x.mutable=true) (hn:cV x p (eG T i off [.sl .own U xs])=some x') (hfl:U.flat=true)
 (hval:val.cells.toList=[.slice (some ⟨b',0,none⟩) xs.length cap]) (hat:kK E (.arr (.k k) c (p++ [(i,off)])) b' U xs cap)
 (hob:E.ow b=some (.arr (.k k) c p)) (hhi:(i+1)*T.sz<=E.hw b) (hfz:∀o,o<E.hw b->E.w.frozen? ⟨b,o,none⟩=false)
 (hcell:∀j,j<T.sz->(E.w.cell? ⟨b,i*T.sz+j,none⟩).isSome=true) (hlen:off+1<=T.sz):
 ∃w',(storeCells ⟨b,i*T.sz+off,none⟩ val.cells.toList 0).run C.P w= .ok () w' /\val.cells.size=1/\
  Hand C (((aB,.none)::(k,.v g ((cs.map (CV.stale [k] false)).set c x'))::u)++σ) a.tmps w' 0 .none undef:=by
 subst hw;rw [hval];generalize hws: [Value.slice (some ⟨b',0,none⟩) xs.length cap]=ws;have hwl:ws.length=1:=by rw [<-hws];rfl
 obtain⟨t1,t2,t3,dcs,dty,dlo,dhi,t4,t5,t6,t7⟩:=hat;have hbb:b' ≠b:=by
  rintro rfl;rw [t1] at hob;simp at hob
 have hb2:i*T.sz+T.sz<=E.hw b:=by rw [ZM,YJ] at hhi;exact hhi
 have run:=run_storeCells_cells (P:=C.P) b (i*T.sz+off) ws 0 E.w (fun j hj=>by
  have:=hcell (off+j) (by omega);rw [Nat.add_zero,Yt];exact this) (fun j hj=>hfz _ (by omega)) (fun z hz=>by
  rw [<-hws,Zh] at hz;subst hz;rfl)
 rw [Nat.add_zero] at run;refine⟨_,run,by rw [<-Array.length_toList,hval];rfl,?_⟩;obtain⟨hcs,hty,hfr,hh⟩:∃cs ty fr,E.w.heap[b]? =some (.cells cs ty fr):=by
  have:=hcell 0 (Ty.sz_pos T);unfold World.cell? at this;split at this
  ·exact⟨_,_,_,by assumption⟩
  ·simp at this
 obtain⟨cs',d1,d2,d3⟩:=dM b ws (i*T.sz+off) E.w hh;obtain⟨o1,o2,o3⟩:=dN b ws (i*T.sz+off) E.w;have same:∀b0,b0≠b->(E.w.setCells b (i*T.sz+off) ws).heap[b0]? =E.w.heap[b0]? :=fun b0 h=>cW b b0 h _ _ _;generalize hE:({ E with w:=E.w.setCells b (i*T.sz+off) ws,hw:=fun b0=>if b0=b' then xs.length*U.sz else E.hw b0 }:Env)=E';have E'w:E'.w=E.w.setCells b (i*T.sz+off) ws:=by rw [<-hE]
 have E'ow:E'.ow=E.ow:=by rw [<-hE]
 have E'hw:∀b0,b0≠b' ->E'.hw b0=E.hw b0:=fun b0 h=>by rw [<-hE];exact Zf h
 have E'hw1:E'.hw b' =xs.length*U.sz:=by rw [<-hE];exact Zw rfl
 have hE'b:E'.w.heap[b']? =some (.cells dcs dty (dlo,dhi)):=by rw [E'w,same _ hbb];exact t4
 have hit:bW p i off 1 (p++ [(i,off)])=true:=by
  have:=lL (p:=p) (i:=i) (off:=off) (m:=1) (c' :=0) (q:=[]) Nat.zero_lt_one;simpa using this
 have st:Step E E' (dkM k c) (fun _=>False) True:= {
  ro:=fun b0 hb0=>by
   have hne:b0≠b:=by rintro rfl;rw [hob] at hb0;cases hb0
   have hne' :b0≠b' :=by rintro rfl;rw [t1] at hb0;cases hb0
   exact⟨fun _=>by rw [E'ow];exact hb0,fun o ho=>⟨by rw [E'w];exact aT (same b0 hne) o,by rw [E'hw _ hne'];exact ho⟩⟩
  own:=fun b0 k' c' q hb0 hd=>by
   have hne:b0≠b:=by rintro rfl;rw [hob] at hb0;cases hb0;exact hd (.inl ⟨rfl,rfl⟩)
   have hne' :b0≠b' :=by rintro rfl;rw [t1] at hb0;cases hb0;exact hd (.inl ⟨rfl,rfl⟩)
   exact⟨by rw [E'ow];exact hb0,E'hw b0 hne',by rw [E'w];exact same b0 hne⟩
  bor:=fun h=>absurd trivial h
  box:=fun s hs _=>by
   have hne:E.bx s≠b:=by intro e;rw [e,hob] at hs;cases hs
   exact⟨by rw [<-hE],by rw [E'ow];exact hs,by rw [E'w];exact same _ hne⟩
  hdr:=by rw [<-hE] }
 have M:MutSet E E' k c p b i off T [.sl .own U xs] ws:= {
  hb:=hob
  inj:=hi.inj
  owb:=by rw [E'ow];exact hob
  hwb:=E'hw b (Ne.symm hbb)
  moves:=fun {l} hl hh b0 hb0=>by
   have hne:b0≠b:=by
    rintro rfl;rw [hob] at hb0;simp only [ZL,Own.arr.injEq,true_and] at hb0;exact hl hb0.symm
   have hne' :b0≠b' :=by
    rintro rfl;rw [t1] at hb0;simp only [ZL,Own.arr.injEq,true_and] at hb0;subst hb0;have hh:bW p i off 1 (p++ [(i,off)])=false:=hh;rw [hit] at hh;cases hh
   exact⟨by rw [E'ow];exact hb0,E'hw b0 hne',by rw [E'w];exact same b0 hne⟩
  cells:=⟨hcs,cs',hty,hfr,hh,by rw [E'w];exact d1,d2,d3⟩
  len:=hwl.symm
  hi:=hhi
  fresh:=fun j y v hy hv hf=>by
   have hj:j=0:=by have:=(Zt.1 hy).1;simp at this;exact this
   subst hj;simp only [List.getElem?_cons_zero,ZL] at hy;subst hy;rw [<-hws] at hv;simp only [List.getElem?_cons_zero,ZL] at hv;subst hv;have hl:E'.ow b' =some (.arr (.k k) c (p++ [(i,off)])):=by rw [E'ow];exact t1
   refine eF (ok:=fun q=>okF E' (.k k) c .own (p++(i,off+0)::q)) (q:=fun q=>qF E' (.k k) c .own (p++(i,off+0)::q)) (fr:=(dlo,dhi)) hE'b (by rw [Zr]) t2 (fun r hr=> ?_) ?_ (fun o ho=>⟨by rw [E'hw1];exact ho,hl⟩) (fun i0 j0 hi0 hj0=> ?_)
   ·obtain⟨y,_,rfl⟩:=Zk.1 hr;exact Ty.toD_length U y
   ·exact⟨hl,E'hw1,t2,dcs,dty,dlo,dhi,hE'b,t5,t6⟩
   ·have hi1:i0<xs.length:=by simpa using hi0
    obtain⟨u1,g1,g2⟩:=t7 i0 j0 hi1 (by rw [Z7] at hj0;exact hj0);refine⟨u1,g1,?_⟩;have:=g2 E'.w (fun q=>okF E' (.k k) c .own (p++(i,off+0)::(i0,j0)::q)) (fun q=>qF E' (.k k) c .own (p++(i,off+0)::(i0,j0)::q));simpa using this }
 refine⟨E',E'w,pA hi hg hc hmx hn M st (by rw [E'w];exact o1) (by rw [E'w];exact o2) (by rw [E'w];exact o3) (by rw [E'w,dB];exact Zi _) (fun b0 hlt h0=> ?_) (fun b0 hlt=> ?_) (by rw [E'ow];exact hi.inj) (fun b0 s h=> ?_) (fun s=>by rw [<-hE]),trivial⟩
 ·have h2:=(hi.old b0 hlt h0).2.2;have hne:b0≠b:=by rintro rfl;rw [hob] at h2;cases h2
  have hne' :b0≠b' :=by rintro rfl;rw [t1] at h2;cases h2
  exact⟨by rw [E'w];exact same b0 hne,E'hw b0 hne',by rw [E'ow];exact h2⟩
 ·rw [E'w,dB] at hlt;have:=hi.new b0 hlt;have hne' :b0≠b' :=by rintro rfl;rw [t1] at this;cases this.1
  exact⟨by rw [E'ow];exact this.1,by rw [E'hw _ hne'];exact this.2⟩
 ·rw [E'ow] at h;have hne' :b0≠b' :=by rintro rfl;rw [t1] at h;cases h
  rw [E'hw _ hne'];exact hi.boxhw b0 s h
end
end Go.Ab
end
section
namespace Go.Ab
variable [Inhabited Lb]
def q9(C:Ctx)(σ:St)(a:Act)(w:World)(o:Oper)(v:AV):Prop:=
 Good C σ a w o v\/∃w',(execOp a.eval o).run C.P w= .ok .skip w' /\Hand C σ a.tmps w' 0 v undef
theorem zAe{z:List CV}:∀ {vs:List Value},bB z vs=true->∀y∈z,∀k c,¬y.speaks k c:=by
 induction z with
 |nil=>intro vs _ y hy;cases hy
 |cons x xs ih=>
  intro vs h y hy k c hs;cases vs with
  |nil=>simp [bB] at h
  |cons v vs=>
   simp [bB] at h;cases hy with
   |tail _ hy=>exact ih h.2 y hy k c hs
   |head=>
    have h1:=h.1;unfold gE at h1;split at h1 <;>first |exact hs|cases h1
theorem lY{f:CV->Option CV}:∀(p:List (Nat×Nat)) (x x' :CV),cV x p f=some x' ->∃z z',f z=some z'
 | [],x,x',h=>⟨x,x',by rwa [cV] at h⟩
 |(i,j)::p,x,x',h=>by
  cases x with
  |sl fl T xs=>
   simp only [cV] at h;split at h
   ·split at h
    ·rename_i y' hy;exact lY p _ _ hy
    ·cases h
   ·cases h
  |_=>simp only [cV] at h;cases h
theorem qR{T:Ty}{i off:Nat}{vs:List CV}{z z' :CV}(h:eG T i off vs z=some z'):off+vs.length<=T.sz:=by
 unfold eG at h;split at h
 ·split at h
  ·rename_i hU;subst hU;split at h
   ·rename_i hset;have:=(fV hset).2
    rwa [Ty.enc_length] at this
   ·cases h
  ·cases h
 ·cases h
section
variable {C:Ctx} {σ:St} {a:Act} {E:Env} {u u' u'' :Ups} {tt:TT} {o:Oper} {md:Md} {v:AV} {ob:List Prop} {ty:TypeId}
theorem rR{w:World}(htt:aO C.P tt)(hi:Inv C (St.get (u++σ)) a.tmps E)(hw:E.w=w){t:TypeId}(ho:o.op= .alloc t){i:TI}(hti:tt.get t=some i){z:List CV}(hz:i.zero=some z){d:Nat}
 (hg:St.get (u++σ) (2*d+1)= .none):Good C (((2*d+1,.v true z)::u)++σ) a w o (.v false [.ptr d 0]):=by
 obtain⟨ti,ds,h1,h2,h3,h4,h5,h6⟩:=(htt t i hti).info;obtain⟨zv,hz1,hz2⟩:=h6 z hz;refine⟨_,_,?_,nA hi hw hg (kJ _ _ _ _ hz2) (zAe hz2) (t:=t)⟩;rw [tQ ho];simp [Instr.alloc,zeroValue,typeInfo,h1,hz1,newVar,newRow,bF]
theorem sK{w:World}(hi:Inv C (St.get (u++σ)) a.tmps E)(hw:E.w=w){t:TypeId}{x:Operand}(ho:o.op= .box t x){cs:List CV}(hx:Mr (kD tt t x) σ u=some (cs,u')){d:Nat}
 (hg:St.get (u' ++σ) (2*d+1)= .none):Good C (((2*d+1,.v true cs)::u')++σ) a w o (.v false [.ptr d 0]):=by
 obtain⟨E',g,e1,e2,e3,e4,e5,e6,e7⟩:=pM hi 0 hx;refine⟨_,_,?_,nA e4 (e1.trans hw) hg (i6 e5) e7 (t:=t)⟩;rw [tT ho];simp [Instr.box,newVar,newRow,bF]
theorem mL{P:Program}{w w' :World}{t:TypeId}{i:TI}(h:TIok P t i){ad:Addr}{val:Value}(hs:val.cells.size=i.sz)(hr:(storeCells ad val.cells.toList 0).run P w= .ok () w'):
 (Instr.storeAt t (.pointer (some ad)) val).run P w= .ok () w' :=by
 obtain⟨ti,d,h1,h2,_⟩:=h.info;have hs' :val.cells.size=ti.size:=by rw [hs,h2]
 simp [Instr.storeAt,Instr.sureAddr,storeVar,sizeOf,typeInfo,h1,hs',hr]
theorem nU{w:World}{E1:Env}(e4:Inv C (St.get (u++σ)) a.tmps E1)(e1:E1.w=w){k c0 j off:Nat}{pth:List (Nat×Nat)}{T:Ty}{y:T.den}{vs:List CV}{gv:Bool}{val ptr:Value}
 (e5:VR1 E1 (aA (St.get (u++σ))) (.h 0) 0 gv vs val) (hp:VRc E1 (aA (St.get (u++σ))) (.h 0) 0 (.eref k c0 pth j T y off) ptr) {r:Eff} {u3:Ups}
 (h3:Mr (jY k c0 pth j T off vs) σ u=some (r,u3)):
 ∃ad w',ptr= .pointer (some ad)/\(storeCells ad val.cells.toList 0).run C.P w= .ok () w' /\val.cells.size=vs.length/\Hand C (u3++σ) a.tmps w' 0 r.1 undef/\r.2=[]:=by
 obtain⟨_,u4,k1,k2⟩:=aC h3;obtain⟨_,u5,k3,k4⟩:=aC k2;obtain rfl:=bG k3;obtain⟨q1,q2,rfl⟩:=bV (v:=r.1) (ob:=r.2) k4;unfold mS at k1;obtain⟨av,u6,m1,m2⟩:=aC k1;obtain⟨rfl,rfl⟩:=bN m1;split at m2
 ·rename_i gg cs hg;obtain⟨xc,u7,m3,m4⟩:=aC m2;obtain⟨hxc,rfl⟩:=cX m3;obtain⟨hmx,m5⟩:=aQ m4;obtain⟨xc',u8,m6,m7⟩:=aC m5;obtain⟨hnav,rfl⟩:=cX m6;obtain rfl:=bG m7;obtain⟨b,hpv,hob,⟨hhi,hfz⟩,uu,huu⟩:=hp;have hle:off+vs.length<=T.sz:=by
   obtain⟨z,z',hz⟩:=lY pth xc xc' hnav;exact qR hz
  obtain⟨w',hrun,hsz,hand⟩:=wE e4 e1 hg hxc hmx hnav e5 hob hhi hfz (fun j' hj' =>by
   have:=(huu j' (by rw [Ty.toD_length];exact hj')).1;rw [this];rfl) hle
  exact⟨_,w',hpv,hrun,hsz,by rw [q1];exact hand,q2⟩
 ·exact(aD m2).elim
theorem tL{w:World}{E1:Env}(e4:Inv C (St.get (u++σ)) a.tmps E1)(e1:E1.w=w){k c0 j off b' cap:Nat}{pth:List (Nat×Nat)}{T U:Ty}{y:T.den}{xs:List U.den}{val ptr:Value}(hfl:U.flat=true)
 (hval:val.cells.toList=[.slice (some ⟨b',0,none⟩) xs.length cap]) (hat:kK E1 (.arr (.k k) c0 (pth++ [(j,off)])) b' U xs cap)
 (hp:VRc E1 (aA (St.get (u++σ))) (.h 0) 0 (.eref k c0 pth j T y off) ptr) {r:Eff} {u3:Ups}
 (h3:Mr (jY k c0 pth j T off [.sl .own U xs]) σ u=some (r,u3)):
 ∃ad w',ptr= .pointer (some ad)/\(storeCells ad val.cells.toList 0).run C.P w= .ok () w' /\val.cells.size=1/\Hand C (u3++σ) a.tmps w' 0 r.1 undef/\r.2=[]:=by
 obtain⟨_,u4,k1,k2⟩:=aC h3;obtain⟨_,u5,k3,k4⟩:=aC k2;obtain rfl:=bG k3;obtain⟨q1,q2,rfl⟩:=bV (v:=r.1) (ob:=r.2) k4;unfold mS at k1;obtain⟨av,u6,m1,m2⟩:=aC k1;obtain⟨rfl,rfl⟩:=bN m1;split at m2
 ·rename_i gg cs hg;obtain⟨xc,u7,m3,m4⟩:=aC m2;obtain⟨hxc,rfl⟩:=cX m3;obtain⟨hmx,m5⟩:=aQ m4;obtain⟨xc',u8,m6,m7⟩:=aC m5;obtain⟨hnav,rfl⟩:=cX m6;obtain rfl:=bG m7;obtain⟨b,hpv,hob,⟨hhi,hfz⟩,uu,huu⟩:=hp;have hle:off+1<=T.sz:=by
   obtain⟨z,z',hz⟩:=lY pth xc xc' hnav;exact qR hz
  obtain⟨w',hrun,hsz,hand⟩:=wD e4 e1 hg hxc hmx hnav hfl hval hat hob hhi hfz (fun j' hj' =>by
   have:=(huu j' (by rw [Ty.toD_length];exact hj')).1;rw [this];rfl) hle
  exact⟨_,w',hpv,hrun,hsz,by rw [q1];exact hand,q2⟩
 ·exact(aD m2).elim
theorem yH{w:World}(htt:aO C.P tt)(hi:Inv C (St.get (u++σ)) a.tmps E)(hw:E.w=w){t:TypeId}{p x:Operand}(ho:o.op= .store t p x){i:TI}(hti:tt.get t=some i){vs:List CV}
 (h1:Mr (mD tt t x) σ u=some (vs,u')) {c:CV} (h2:Mr (opc tt 0 p) σ u' =some (c,u'')) (hlen:vs.length=i.sz)
 {r:Eff} {u3:Ups} (h3:Mr (match c with | .ptr s off=>qP s off (vs.map CV.noAl) | .eref k c p j T _ off=>lC k c p j T off vs|_=>bad) σ u'' =some (r,u3)) (hob:∀q∈r.2,q):
 ∃w',(execOp a.eval o).run C.P w= .ok .skip w' /\Hand C (u3++σ) a.tmps w' 0 r.1 undef:=by
 obtain⟨E1,g,e1,e2,e4,e5,e6⟩:=wV hi 0 h1;obtain⟨rfl,hp⟩:=bD e4 h2;have hk:=htt t i hti;split at h3
 ·rename_i s off;obtain⟨cs,u4,k1,k2⟩:=aC h3;obtain⟨hg,rfl⟩:=fD k1;obtain⟨cs',u5,k3,k4⟩:=aC k2;obtain⟨hset,rfl⟩:=cX k3;obtain⟨_,u6,k5,k6⟩:=aC k4;obtain rfl:=bG k5;obtain⟨q1,q2,rfl⟩:=bV (v:=r.1) (ob:=r.2) k6;obtain⟨w',hrun,hsz,hand⟩:=yG e4 (e1.trans hw) hg (pJ e5) (fun y hy k c=>wO hy k c) hset;refine⟨w',?_,by rw [q1];exact hand⟩;have hpp:=(hp (.h 0) 0).1;rw [Zr] at hsz;rw [lG ho,hpp,mL hk (by rw [hsz,hlen]) hrun]
  rfl
 ·rename_i k c0 pth j T y off;unfold lC at h3;split at h3
  ·rename_i k' c' p' U xs;obtain⟨r0,u4,k1,k2⟩:=aC h3;obtain⟨e,rfl⟩:=aE k2;subst e;obtain⟨rfl,rfl,rfl⟩:=hob _ (Zh.2 rfl);have hcell:∃v0,(a.eval x).cells.toList=[v0]/\VRc E1 (aA (St.get (u'' ++σ))) (.h 0) 0 (.apd k' c' (pth++ [(j,off)]) U xs) v0:=by
    have:=i6 e5;cases hl:(a.eval x).cells.toList with
    |nil=>rw [hl] at this;exact this.elim
    |cons v0 rest=>
     rw [hl] at this;cases rest with
     |nil=>exact⟨v0,rfl,this.1⟩
     |cons _ _=>exact this.2.elim
   obtain⟨v0,hv0,hfl,hap⟩:=hcell
   have fin:∀ {n:Nat},(∃ad w',a.eval p= .pointer (some ad)/\(storeCells ad (a.eval x).cells.toList 0).run C.P w= .ok () w' /\(a.eval x).cells.size=n/\Hand C (u3++σ) a.tmps w' 0 r0.1 undef/\r0.2=[])->n=i.sz->
    ∃w',(execOp a.eval o).run C.P w= .ok .skip w' /\Hand C (u3++σ) a.tmps w' 0 r0.1 undef:=by
    rintro n ⟨ad,w',f1,f2,f3,f4,_⟩ hn;refine⟨w',?_,f4⟩;rw [lG ho,f1,mL hk (by rw [f3,hn]) f2]
    rfl
   have h1sz:(1:Nat)=i.sz:=hlen;rcases hap with ⟨b',cap,rfl,hat⟩|hown
   ·exact fin (tL e4 (e1.trans hw) hfl hv0 hat (hp (.h 0) 0) k1) h1sz
   ·have e5' :VR1 E1 (aA (St.get (u'' ++σ))) (.h 0) 0 true [.sl .own U xs] (.agg (a.eval x).cells):=⟨_,rfl,by rw [hv0];exact⟨hown,trivial⟩⟩;have:=nU e4 (e1.trans hw) e5' (hp (.h 0) 0) k1;exact fin this h1sz
  ·have:=nU e4 (e1.trans hw) (pJ e5) (hp (.h 0) 0) h3;obtain⟨ad,w',f1,f2,f3,f4,_⟩:=this;refine⟨w',?_,f4⟩;rw [Zr] at f3;rw [lG ho,f1,mL hk (by rw [f3,hlen]) f2]
   rfl
 ·exact(aD h3).elim
end
end Go.Ab
end
section
namespace Go.Ab
variable [Inhabited Lb]
section
variable {C:Ctx} {σ:St} {a:Act} {E:Env} {u u' :Ups} {tt:TT} {o:Oper} {md:Md} {v:AV} {ob:List Prop} {ty:TypeId}
def Env.less(E:Env)(hw' :Nat->Nat):Env:= { E with hw:=hw' }
theorem o0{hw' :Nat->Nat}(hi:Inv C (St.get (u++σ)) a.tmps E)(h:∀b,E.ow b≠some (.arr (.h 0) 0 [])->hw' b=E.hw b):
 Inv C (St.get (((aB,.none)::u)++σ)) a.tmps (E.less hw')/\(∀s,aA (St.get (u++σ)) s->aA (St.get (((aB,.none)::u)++σ)) s):=by
 have hb:∀s,aA (St.get (u++σ)) s->aA (St.get (((aB,.none)::u)++σ)) s:=fun s=>dQ (by unfold aB;omega)
 have st:Step E (E.less hw') (fun pl c=>pl= .h 0/\c=0) (fun _=>False) True:=
  ⟨fun b hb=>⟨fun _=>hb,fun o ho=>⟨rfl,by show o<hw' b;rw [h b (by rw [hb];simp)];exact ho⟩⟩,
    fun b k c p hb hd=>⟨hb,h b (by rw [hb];intro e;cases e;exact hd ⟨rfl,rfl⟩),rfl⟩,
    fun hn=>absurd trivial hn,fun s hs _=>⟨rfl,hs,rfl⟩,rfl⟩
 have hG:∀q,aB≠q->St.get (((aB,.none)::u)++σ) q=(St.get (u++σ) q).mapC (CV.stale [aB] true):=by
  intro q hq;show St.get ((aB,_)::(u++σ)) q=_;rw [St.get_cons,Zf hq];rfl
 refine⟨hi.step st rfl rfl rfl (Zi _) (fun b hlt h0=> ?_) (fun b hlt=> ?_) hi.inj (fun b s hs=> ?_) rfl (fun s hs=>⟨hb s hs,rfl⟩) (fun t=> .inr ⟨?_,rfl⟩) (fun s cs' hs=> .inr ⟨id,?_⟩),hb⟩
 ·have:=(hi.old b hlt h0).2.2;exact⟨rfl,h b (by rw [this];simp),this⟩
 ·have:=hi.new b hlt;exact⟨this.1,by show hw' b=0;rw [h b (by rw [this.1];simp)];exact this.2⟩
 ·have:=hi.boxhw b s hs;show hw' b=0;have hs:E.ow b=some (.box s):=hs;rw [h b (by rw [hs];simp)];exact this
 ·by_cases e:aB=2*t
  ·have:St.get (((aB,.none)::u)++σ) (2*t)= .none:=by
    show St.get ((aB,_)::(u++σ)) _=_;rw [St.get_cons,Zw e]
   rw [this];trivial
  ·rw [hG _ e];exact AWk.map (fun c x=>CW.stale (fun _ hd=>by cases hd.1) (fun k c hd=>by cases hd.1) (fun _=>rfl)) _
 ·have e:aB≠2*s+1:=by unfold aB;omega
  rw [hG _ e] at hs;cases hq:St.get (u++σ) (2*s+1) with
  |v g' cs0=>
   rw [hq] at hs;injection hs with hs1 hs2;subst hs1 hs2;exact⟨cs0,rfl,CWs.map (fun c x=>CW.stale (fun _ hd=>by cases hd.1) (fun k c hd=>by cases hd.1) (fun _=>rfl)) _ _⟩
  |tup xs=>rw [hq] at hs;cases hs
  |none=>rw [hq] at hs;cases hs
theorem yQ(hi:Inv C (St.get (u++σ)) a.tmps E){T:Ty}(hflat:T.flat=true){xs:List T.den}{n:Nat}(hn:n<=xs.length){v0:Value}(hv0:VRc E (aA (St.get (u++σ))) (.h 0) 0 (.sl .own T xs) v0):
 ∃ad cap,v0= .slice ad xs.length cap/\xs.length<=cap/\(if cap=0 then ad else ad.map (·.add (0*T.sz)))=ad/\Hand C (((aB,.none)::u)++σ) a.tmps E.w 0 (.v false [.sl .own T (xs.take n)]) (.slice ad n cap):=by
 have hv0:RdP E.w (okF E (.h 0) 0 .own) (qF E (.h 0) 0 .own) v0 (.sl T.sz (xs.map T.toD)):=hv0;obtain⟨news,s1,s2,s3⟩:=iH (P:=C.P) hv0 (Ty.sz_pos T);obtain⟨ad,cap,rfl,hcap⟩:=hv0.shape;have hq:Tip E (.arr (.h 0) 0 []) (.slice ad (xs.map T.toD).length cap) T.sz:=hv0.top;rw [Zr] at hcap hq s2 ⊢
 match ad,hq with
 |none,hq=>
  obtain⟨h0,rfl⟩:xs.length=0/\cap=0:=hq;have hx:xs=[]:=Z0.1 h0;subst hx;have hn0:n=0:=by simpa using hn
  subst hn0;obtain⟨hi2,_⟩:=o0 (hw' :=E.hw) hi (fun b _=>rfl);exact⟨none,0,rfl,hcap,by simp,E.less E.hw,rfl,hi2,RdP.nil none 0 T.sz ⟨rfl,rfl⟩,trivial⟩
 |some ⟨b,off,sp⟩,hq=>
  match off,sp,hq with
  |_+1,_,hq=>exact hq.elim
  |0,some _,hq=>exact hq.elim
  |0,none,hq=>
   obtain⟨q1,q2,q3,cs,cty,lo,hi',q4,q5,q6⟩:=hq
   obtain⟨hi2,_⟩:=o0 (hw' :=fun b' =>if b' =b then n*T.sz else E.hw b') hi (fun b' hb' =>by
    have:b' ≠b:=by rintro rfl;exact hb' q1
    simp [this])
   refine⟨_,cap,rfl,hcap,by simp [dF],E.less (fun b' =>if b' =b then n*T.sz else E.hw b'),rfl,hi2,?_,trivial⟩
   have hTip:Tip (E.less fun b' =>if b' =b then n*T.sz else E.hw b') (.arr (.h 0) 0 []) (.slice (some ⟨b,0,none⟩) n cap) T.sz:=
    ⟨q1,by simp [Env.less],by omega,cs,cty,lo,hi',q4,q5,q6⟩
   refine eF (cs:=cs) (ty:=cty) (fr:=(lo,hi')) q4 (by simp;omega) (by omega) (fun r hr=> ?_) hTip (fun o ho=>⟨by show o<(if b=b then n*T.sz else E.hw b);rw [Zw rfl];exact ho,q1⟩) (fun i j hi hj=> ?_)
   ·obtain⟨x,_,rfl⟩:=Zk.1 hr;exact Ty.toD_length T x
   ·have hlt:i<xs.length:=by simp at hi;omega
    have e:((xs.take n).map T.toD)[i]=(xs.map T.toD)[i]'(by simpa using hlt):=by simp
    have hj' :j<((xs.map T.toD)[i]'(by simpa using hlt)).length:=by rw [<-e];exact hj
    obtain⟨u1,g1,g2⟩:=s3 i j (by simpa using hlt) hj';refine⟨u1,?_,?_⟩
    ·have:=s2 b 0 xs.length cap rfl _ _ g1;rw [Zj] at this;simpa [World.cell?,q4] using this
    ·have e2:(((xs.take n).map T.toD)[i])[j]=((xs.map T.toD)[i]'(by simpa using hlt))[j]:=by simp only [e]
     rw [e2];refine g2.flat ?_;have:((xs.map T.toD)[i]'(by simpa using hlt))=T.toD xs[i]:=by simp
     exact Ty.flat_toD hflat xs[i] _ (by rw [<-this];exact Z4 hj')
theorem yB{w:World}(htt:aO C.P tt)(hi:Inv C (St.get (u++σ)) a.tmps E)(hw:E.w=w){t:TypeId}{x y:Operand}(ho:o.op= .slice t x none (some y) none)
 {i:TI} (hti:tt.get t=some i) {T:Ty} {xs:List T.den} {k:IntKind} {n:Int} {u1 u2:Ups} {p:AV} (h1:Mr (opd tt .take t x) σ u=some (p,u1)) (hp:p= .v false [.sl .own T xs])
 (h2:Mr (opc tt 0 y) σ u1=some (.int k n,u2)) (hfit:fW i (.sl .own T xs)=true) (hflat:T.flat=true) (hob:0<=n/\n<=xs.length):
 Good C (((aB,.none)::u2)++σ) a w o (.v false [.sl .own T (xs.take n.toNat)]):=by
 subst hp;obtain⟨E1,e1,e2,e3,e4,e5,e6⟩:=d9 hi 0 h1;obtain⟨rfl,hy⟩:=bD e4 h2;have hy0:a.eval y= .int k n:=hy (.h 0) 0;obtain⟨ad,cap,hv,hcap,had,hand⟩:=yQ (a:=a) e4 hflat (n:=n.toNat) (by omega) e5.1;obtain⟨e,hel⟩:=gT hfit;obtain⟨g1,te,vz,g2,g3,_⟩:=(htt t i hti).elem e T hel;refine⟨_,E1.w,?_,hand⟩;rw [lF ho,hv,<-hw,<-e1];have hb:(Instr.sliceBounds true xs.length cap none (some (.int k n)) none).run C.P E1.w= .ok (0,n.toNat,cap) E1.w:=by
  have:=dU (P:=C.P) (w:=E1.w) (k:=k) (i:=(n.toNat:Int)) (y:=cap) (code:= .sliceAcap) ⟨by omega,by omega⟩;rw [ZA hob.1] at this;simp [Instr.sliceBounds,this]
 have hrw:(Option.map a.eval (some y))=some (.int k n):=by rw [Option.map_some,hy0]
 rw [hrw];simp [Instr.sliceAt,run_underlying g1,Instr.slice,hb,sizeOf,typeInfo,g2,g3,eH];simpa using had
end
end Go.Ab
end
section
namespace Go.Ab
variable [Inhabited Lb]
def Dec(σ:St)(dc:List (Nat×Bool)):Prop:=∀t lit b,fE dc t=some lit->σ.get (2*t)= .v false [.bool b]->b=lit
section
variable {C:Ctx} {σ:St} {a:Act} {E:Env} {tt:TT} {con:FuncId->List Arg->CallO->Prop} {o:Oper} {md:Md} {dc:List (Nat×Bool)} {orc:Option CallO} {v:AV} {ob:List Prop} {u:Ups}
theorem wW{w:World}(htt:aO C.P tt)(hi:Inv C (St.get ([]++σ)) a.tmps E)(hw:E.w=w)(hdec:Dec σ dc)(hnc:cT o=false)(h:Mr (iA tt con md o dc orc) σ []=some ((v,ob),u))(hob:∀p∈ob,p):
 q9 C (u++σ) a w o v:=by
 unfold iA at h;split at h
 ·rename_i x ho;obtain⟨r,u1,h1,h2⟩:=aC h;obtain⟨rfl,rfl,rfl⟩:=bV h2;exact .inl (o8 hi hw (.inl ho) h1)
 ·rename_i x ho;obtain⟨r,u1,h1,h2⟩:=aC h;obtain⟨rfl,rfl,rfl⟩:=bV h2;exact .inl (o8 hi hw (.inr ho) h1)
 ·rename_i c x y ho;split at h
  ·rename_i t;obtain⟨r,u1,h1,h2⟩:=aC h;obtain⟨rfl,rfl⟩:=bN h1;split at h2
   ·rename_i b hb;have hv:=hi.tmp t;rw [hb] at hv;have he:a.eval (.tmp t)= .bool b:=hv.1;split at h2
    ·rename_i hd;obtain⟨r,u2,h3,h4⟩:=aC h2;obtain⟨rfl,rfl,rfl⟩:=bV h4;have:=hdec _ _ _ hd hb;subst this;exact .inl (pU hi hw he ho h3)
    ·rename_i hd;obtain⟨r,u2,h3,h4⟩:=aC h2;obtain⟨rfl,rfl,rfl⟩:=bV h4;have:=hdec _ _ _ hd hb;subst this;exact .inl (pU hi hw he ho h3)
    ·exact(aD h2).elim
   ·exact(aD h2).elim
  ·exact(aD h).elim
 ·rename_i t ho;split at h
  ·rename_i i d hti hdst;split at h
   ·rename_i z hz;obtain⟨r,u1,h1,h2⟩:=aC h;obtain⟨rfl,rfl⟩:=bN h1;split at h2
    ·rename_i hg;obtain⟨_,u2,h3,h4⟩:=aC h2;obtain rfl:=bG h3;obtain⟨rfl,rfl,rfl⟩:=aN h4;exact .inl (rR htt hi hw ho hti hz hg)
    ·exact(aD h2).elim
   ·exact(aD h).elim
  ·exact(aD h).elim
 ·rename_i t x ho;split at h
  ·rename_i i d hti hdst;obtain⟨cs,u1,h1,h2⟩:=aC h;obtain⟨r,u2,h3,h4⟩:=aC h2;obtain⟨rfl,rfl⟩:=bN h3;split at h4
   ·rename_i hg;obtain⟨_,u3,h5,h6⟩:=aC h4;obtain rfl:=bG h5;obtain⟨rfl,rfl,rfl⟩:=aN h6;exact .inl (sK hi hw ho h1 hg)
   ·exact(aD h4).elim
  ·exact(aD h).elim
 ·rename_i t ps ho;split at h
  ·rename_i i hti;split at h
   ·rename_i z hz;obtain⟨hagg,h⟩:=aQ h;obtain⟨cs,u1,h1,h2⟩:=aC h;obtain⟨rfl,rfl,rfl⟩:=bV h2;exact .inl (sN htt hi hw ho hti hz hagg h1)
   ·exact(aD h).elim
  ·exact(aD h).elim
 ·rename_i t n ps ho;split at h
  ·rename_i i hti;split at h
   ·rename_i e T he;split at h
    ·obtain⟨hn,h⟩:=aQ h;obtain⟨cs,u1,h1,h2⟩:=aC h;obtain⟨r,u2,h3,h4⟩:=aC h2;obtain⟨hr,rfl⟩:=cX h3;obtain⟨rfl,rfl,rfl⟩:=aN h4;exact .inl (sM htt hi hw ho hti he (jL hn) h1 hr)
    ·exact(aD h).elim
   ·exact(aD h).elim
  ·exact(aD h).elim
 ·rename_i t x ho;split at h
  ·rename_i i hti;obtain⟨c,u1,h1,h2⟩:=aC h;obtain⟨rfl,hv⟩:=bD hi h1;split at h2
   ·exact .inl (vR htt hi hw ho hti hv h2)
   ·obtain⟨hl,h2⟩:=aQ h2;obtain⟨rfl,rfl,rfl⟩:=bV h2;exact .inl (vU htt hi hw ho hti (hv _ _) (jL hl))
   ·obtain⟨hl,h2⟩:=aQ h2;have:=vW htt hi hw ho hti (hv _ _) (jL hl);split at h2
    ·obtain⟨rfl,rfl,rfl⟩:=bV h2;exact .inl this.1
    ·obtain⟨rfl,rfl,rfl⟩:=bV h2;exact .inl this.2
    ·exact(aD h2).elim
   ·exact(aD h2).elim
  ·exact(aD h).elim
 ·rename_i t p x ho;split at h
  ·rename_i i hti;obtain⟨vs,u1,h1,h2⟩:=aC h;obtain⟨c,u2,h3,h4⟩:=aC h2;obtain⟨hl,h4⟩:=aQ h4;obtain⟨w',r1,r2⟩:=yH htt hi hw ho hti h1 h3 (Zl hl) (r:=(v,ob)) h4 hob;exact .inr ⟨w',r1,r2⟩
  ·exact(aD h).elim
 ·rename_i x ho;obtain⟨c,u1,h1,h2⟩:=aC h;split at h2
  ·obtain⟨rfl,rfl,rfl⟩:=aN h2;exact .inl (wN hi hw ho h1)
  ·exact(aD h2).elim
 ·rename_i fn first caps ho
  split at h
  ·obtain⟨hf,h⟩:=aQ h;obtain⟨ss,u1,h1,h2⟩:=aC h;obtain⟨rfl,rfl,rfl⟩:=aN h2;exact .inl (vX hi hw ho hf h1)
  ·exact(aD h).elim
 ·rename_i op t x y s ho;obtain⟨p,u1,h1,h2⟩:=aC h;obtain⟨rfl,hp⟩:=d8 hi h1;obtain⟨q,u2,h3,h4⟩:=aC h2;obtain⟨rfl,hq⟩:=d8 hi h3;exact .inl (sF htt hi hw ho hp hq h4 hob)
 ·rename_i op t x ho;obtain⟨c,u1,h1,h2⟩:=aC h;exact .inl (zAa hi hw ho h1 h2)
 ·rename_i s d x ho;split at h
  ·rename_i i j hti htj;obtain⟨c,u1,h1,h2⟩:=aC h;obtain⟨rfl,hv⟩:=bD hi h1;unfold nS at h2;split at h2
   ·rename_i k n;split at h2
    ·rename_i k' hk';obtain⟨rfl,rfl,rfl⟩:=aN h2;exact .inl (tD htt hi hw ho hti htj hk' (hv (.h 0) 0))
    ·exact(aD h2).elim
   ·rename_i f xs;split at h2
    ·rename_i e he;obtain⟨hj,h2⟩:=aQ h2;obtain⟨rfl,rfl,rfl⟩:=aN h2;exact .inl (tC htt hi hw ho hti htj he ((htt s i hti).u8 e he) hj (hv (.h 0) 0))
    ·exact(aD h2).elim
   ·rename_i st;split at h2
    ·rename_i e he;obtain⟨hs,h2⟩:=aQ h2;obtain⟨rfl,rfl,rfl⟩:=aN h2;obtain⟨t,ht,rfl⟩:=hv (.h 0) 0;exact .inl (tF htt hi hw ho hti htj he ((htt d j htj).u8 e he) hs ht)
    ·exact(aD h2).elim
   ·exact(aD h2).elim
  ·exact(aD h).elim
 ·rename_i t l c ho;split at h
  ·rename_i i hti;split at h
   ·rename_i e T he;obtain⟨p,u1,h1,h2⟩:=aC h;obtain⟨rfl,hp⟩:=bD hi h1;obtain⟨q,u2,h3,h4⟩:=aC h2;obtain⟨rfl,hq⟩:=bD hi h3;split at h4
    ·obtain⟨rfl,rfl,rfl⟩:=aN h4;exact .inl (vY htt hi hw ho hti he (hp (.h 0) 0) (hq (.h 0) 0) (hob _ (Zh.2 rfl)))
    ·exact(aD h4).elim
   ·exact(aD h).elim
  ·exact(aD h).elim
 ·rename_i t x lo hi' mx ho;split at h
  ·rename_i i hti;split at h
   ·split at h
    ·rename_i y;obtain⟨p,u1,h1,h2⟩:=aC h;obtain⟨c,u2,h3,h4⟩:=aC h2;obtain⟨hp,rfl⟩:=iL h3;obtain⟨m,u3,h5,h6⟩:=aC h4;obtain⟨hfit,h6⟩:=aQ h6;split at h6
     ·obtain⟨hflat,h6⟩:=aQ h6;obtain⟨_,u4,h7,h8⟩:=aC h6;obtain rfl:=bG h7;obtain⟨rfl,rfl,rfl⟩:=aN h8;exact .inl (yB htt hi hw ho hti h1 hp h5 hfit hflat (hob _ (Zh.2 rfl)))
     ·exact(aD h6).elim
    ·exact(aD h).elim
   ·obtain⟨c,u1,h1,h2⟩:=aC h;obtain⟨rfl,hv⟩:=bD hi h1;obtain⟨l,u2,h3,h4⟩:=aC h2;obtain⟨rfl,hl⟩:=pQ hi h3;obtain⟨m,u3,h5,h6⟩:=aC h4;obtain⟨rfl,hm⟩:=pQ hi h5;obtain⟨hfit,h6⟩:=aQ h6;obtain⟨r,u4,h7,h8⟩:=aC h6;obtain⟨hr,rfl⟩:=cX h7;obtain⟨rfl,rfl,rfl⟩:=aN h8;exact .inl (yC htt hi hw ho hti hv hfit (l:=l) (h:=m) (by cases l <;>exact hl) (by cases m <;>exact hm) hr hob)
  ·exact(aD h).elim
 ·rename_i t x f ho;split at h
  ·rename_i i hti;split at h
   ·rename_i p hp;obtain⟨c,u1,h1,h2⟩:=aC h;exact .inl (uD htt hi hw ho hti hp h1 h2)
   ·exact(aD h).elim
  ·exact(aD h).elim
 ·rename_i t x ix ho;split at h
  ·rename_i i hti;obtain⟨c,u1,h1,h2⟩:=aC h;obtain⟨rfl,hc⟩:=bD hi h1;obtain⟨d,u2,h3,h4⟩:=aC h2;obtain⟨rfl,hd⟩:=bD hi h3;obtain⟨hs,h4⟩:=aQ h4;exact .inl (vA htt hi hw ho hti hc hd hs h4 hob)
  ·exact(aD h).elim
 ·rename_i t x ix ho;split at h
  ·rename_i j hj;obtain⟨hs,h⟩:=aQ h;obtain⟨c,u1,h1,h2⟩:=aC h;obtain⟨rfl,hc⟩:=bD hi h1;obtain⟨d,u2,h3,h4⟩:=aC h2;obtain⟨rfl,hd⟩:=bD hi h3;split at h4
   ·obtain⟨rfl,rfl,rfl⟩:=aN h4;exact .inl (vC htt hi hw ho hj hs hc hd (hob _ (Zh.2 rfl)))
   ·exact(aD h4).elim
  ·exact(aD h).elim
 ·rename_i x i ho;split at h
  ·rename_i t;obtain⟨r,u1,h1,h2⟩:=aC h;obtain⟨rfl,rfl⟩:=bN h1;split at h2
   ·rename_i ys hg;split at h2
    ·split at h2
     ·rename_i y hy;obtain⟨rfl,rfl,rfl⟩:=bV h2;exact .inl (uB hi hw ho hg hy)
     ·exact(aD h2).elim
    ·dsimp only at h2;split at h2
     ·rename_i y hy;obtain⟨_,u2,h3,h4⟩:=aC h2;obtain rfl:=bG h3;obtain⟨rfl,rfl,rfl⟩:=bV h4;exact .inl (uC hi hw ho hg hy)
     ·exact(aD h2).elim
   ·exact(aD h2).elim
  ·exact(aD h).elim
 ·rename_i c ho;split at h
  ·rename_i hc;split at h
   ·rename_i x t hx ht;have hs:c.argTypes.size=1:=by rw [<-Array.length_toList,ht];rfl
    have hd:c.argTypes.getD 0 0=t:=by
     rw [show c.argTypes= #[t] from Y3 ht];rfl
    exact .inl (vG htt hi hw ho hc hx hd hs h)
   ·exact(aD h).elim
  ·rename_i hc;split at h
   ·rename_i x y t0 t1 hx ht;split at h
    ·rename_i i j hti htj;obtain⟨p,u1,h1,h2⟩:=aC h;obtain⟨ca,u2,h3,h4⟩:=aC h2;obtain⟨hp,rfl⟩:=iL h3;obtain⟨q,u3,h5,h6⟩:=aC h4;obtain⟨cb,u4,h7,h8⟩:=aC h6;obtain⟨hq,rfl⟩:=iL h7;obtain⟨hfit,h8⟩:=aQ h8;split at h8
     ·rename_i r hr;have key:∀ {u5:Ups},Mr (opd tt .cp t1 y) σ u2=some (q,u4)->Mr ((bI aB .none).bind fun _=>aG r.1 r.2) σ u4=some ((v,ob),u5)->Good C (u5++σ) a w o v:=by
       intro u5 h5 h8;obtain⟨_,u6,h9,h10⟩:=aC h8;obtain rfl:=bG h9;obtain⟨rfl,rfl,rfl⟩:=aN h10;exact rY htt hi hw ho hc hx ht hti htj h1 hp h5 hq hfit hr hob
      cases md with
      |take=>exact(aD h8).elim
      |cp=>exact .inl (key h5 h8)
      |ref=>exact .inl (key h5 h8)
     obtain⟨r,u5,h9,h10⟩:=aC h8;obtain⟨hr,rfl⟩:=cX h9;obtain⟨rfl,rfl,rfl⟩:=aN h10;exact .inl (sA htt hi hw ho hc hx ht hti htj (by cases md <;>simp) h1 hp h5 hq hfit hr hob)
    ·exact(aD h).elim
   ·exact(aD h).elim
  ·rename_i hc;split at h
   ·rename_i x y hx;obtain⟨p,u1,h1,h2⟩:=aC h;obtain⟨rfl,hp⟩:=bD hi h1;obtain⟨q,u2,h3,h4⟩:=aC h2;obtain⟨rfl,hq⟩:=bD hi h3;split at h4
    ·obtain⟨rfl,rfl,rfl⟩:=aN h4;exact .inl ((o7 hi hw ho hx hp hq).1 hc)
    ·exact(aD h4).elim
   ·exact(aD h).elim
  ·rename_i hc;split at h
   ·rename_i x y hx;obtain⟨p,u1,h1,h2⟩:=aC h;obtain⟨rfl,hp⟩:=bD hi h1;obtain⟨q,u2,h3,h4⟩:=aC h2;obtain⟨rfl,hq⟩:=bD hi h3;split at h4
    ·obtain⟨rfl,rfl,rfl⟩:=aN h4;exact .inl ((o7 hi hw ho hx hp hq).2 hc)
    ·exact(aD h4).elim
   ·exact(aD h).elim
  ·rename_i f hc;simp [cT,ho,hc] at hnc
  ·rename_i f hc;simp [cT,ho,hc] at hnc
  ·exact(aD h).elim
 ·exact(aD h).elim
end
end Go.Ab
end
section
namespace Go.Ab
variable [Inhabited Lb]
def aJ:Nat->Prop:=fun _=>True
structure EnvOk (E:Env):Prop where
 new:∀b,E.w.heap.size<=b->E.ow b=none/\E.hw b=0
 inj:∀b b' l,E.ow b=some l->E.ow b' =some l->b=b'
 boxhw:∀b s,E.ow b=some (.box s)->E.hw b=0
theorem Inv.env{C:Ctx}{G:Nat->AV}{tmps:Array Value}{E:Env}(h:Inv C G tmps E):EnvOk E:=⟨h.new,h.inj,h.boxhw⟩
theorem Inv.bas{C:Ctx}{G:Nat->AV}{tmps:Array Value}{E:Env}(h:Inv C G tmps E):eY E:=fun x hx=>by
 obtain⟨h1,h2,h3,h4⟩:=h.base x hx;obtain⟨a1,a2,a3⟩:=h.old x.1 h1 h2;exact⟨ZC h1 h.size,a3,a1.trans h3,a2.trans h4⟩
def bM(E:Env)(i:Nat)(b:Nat)(cs:List CV):Prop:=
 E.ow b=some (.box i)/\∃vals ty,E.w.heap[b]? =some (.cells vals ty (0,0))/\VRs E aJ (.k (2*i+1)) 0 cs vals.toList
def iI(E:Env)(i:Nat):Arg->Value->Prop
 | .val a,v=>VR E aJ (.k (2*i)) a v
 | .box cs,v=>v= .pointer (some ⟨E.bx i,0,none⟩)/\bM E i (E.bx i) cs
 | .gbox _,_=>False
def ArgsAt(E:Env):Nat->List Arg->List Value->Prop
 |_,[],[]=>True
 |i,.gbox cs::as,[]=>bM E (gi i) (E.bx (gi i)) cs/\ArgsAt E (i+1) as []
 |i,a::as,v::vs=>iI E i a v/\ArgsAt E (i+1) as vs
 |_,_,_=>False
def aF:Nat->List Arg->List Nat
 |_,[]=> []
 |i,.val _::as=>aF (i+1) as
 |i,.box _::as=>i::aF (i+1) as
 |i,.gbox _::as=>gi i::aF (i+1) as
def cR(E E' :Env):Nat->List Arg->List (List CV)->Prop
 |_,[],[]=>True
 |i,.val _::as,o=>cR E E' (i+1) as o
 |i,.box _::as,o::os=>bM E' i (E.bx i) o/\cR E E' (i+1) as os
 |i,.gbox _::as,o::os=>bM E' (gi i) (E.bx (gi i)) o/\cR E E' (i+1) as os
 |_,_,_=>False
def aV(k:Nat):Nat->List CV->List (Nat×Nat)
 |_,[]=> []
 |c,.sl (.lnt _) _ _::r=>(k,c)::aV k (c+1) r
 |c,_::r=>aV k (c+1) r
def bA:Nat->List Arg->List (Nat×Nat)
 |_,[]=> []
 |i,.val (.v _ cs)::r=>aV (2*i) 0 cs++bA (i+1) r
 |i,_::r=>bA (i+1) r
def eZ(E' :Env):Nat->List (Nat×Nat)->List CV->Prop
 |_,[],[]=>True
 |n,p::ps,y::ys=>(∃T xs,y= .sl (.lnt n) T xs)/\VRc E' aJ (.k p.1) p.2 y (E'.hdr n)/\eZ E' (n+1) ps ys
 |_,_,_=>False
def ResAt(E:Env)(m:Nat)(a:AV)(v:Value):Prop:=
 match a.nbox with
 |some cs=>∃b,v= .pointer (some ⟨b,0,none⟩)/\bM E m b cs
 |none=>VR E aJ (.h 0) a v
theorem fN{a:AV}(h:a.plain=true):a.nbox=none:=by
 unfold AV.nbox;split
 ·simp [AV.plain,CV.plain] at h
 ·rfl
theorem ResAt.vr{E:Env}{m:Nat}{a:AV}{v:Value}(h:ResAt E m a v)(hn:a.nbox=none):VR E aJ (.h 0) a v:=by
 unfold ResAt at h;rw [hn] at h;exact h
theorem ResAt.of{E:Env}{m:Nat}{a:AV}{v:Value}(h:VR E aJ (.h 0) a v)(hn:a.nbox=none):ResAt E m a v:=by
 unfold ResAt;rw [hn];exact h
structure ExitR (E E' :Env) (as:List Arg) (r:CallO) (v:Value):Prop where
 os:E'.w.os=E.w.os
 tape:E'.w.tape=E.w.tape
 output:E'.w.output=E.w.output
 size:E.w.heap.size<=E'.w.heap.size
 hdr:E'.hdr=E.hdr
 old:∀b,b<E.w.heap.size->E.ow b=none->E'.w.heap[b]? =E.w.heap[b]? /\E'.hw b=E.hw b/\E'.ow b=none
 env:EnvOk E'
 res:ResAt E' as.length r.res v
 outs:cR E E' 0 as r.outs
 lents:eZ E' 0 (bA 0 as) r.lents
 bx:∀s,s∈aF 0 as->E'.bx s=E.bx s
def Does(P:Program)(f:FuncId)(args:Array Value)(w:World)(R:Value->World->Prop):Prop:=
 (∃v w',(callFunc f args).run P w= .ok (.value v) w' /\R v w')\/
   ((callFunc f args).run P w= .ok (.enter f args) w/\Calls P f args w fun e w' =>match e with | .returned v=>R v w' |_=>False)
theorem Does.mono{P:Program}{f:FuncId}{args:Array Value}{w:World}{R R' :Value->World->Prop}(h:Does P f args w R)(hr:∀v w',R v w' ->R' v w'):Does P f args w R' :=by
 rcases h with ⟨v,w',h1,h2⟩|⟨h1,h2⟩
 ·exact .inl ⟨v,w',h1,hr _ _ h2⟩
 ·exact .inr ⟨h1,Calls.mono h2 fun e w' he=>by cases e <;>first |exact hr _ _ he|exact he⟩
def AbsCalls(P:Program)(f:FuncId)(as:List Arg)(r:CallO):Prop:=
 ∀(E:Env) (args:Array Value),EnvOk E->eY E->ArgsAt E 0 as args.toList->Does P f args E.w fun v w' =>∃E',E'.w=w' /\ExitR E E' as r v
structure Pass (π ρ d:Own->Option Own):Prop where
 pinj:∀l1 l2 l,π l1=some l->π l2=some l->l1=l2
 rinj:∀l1 l2 l,ρ l1=some l->ρ l2=some l->l1=l2
 back:∀l l',π l=some l' ->ρ l' =some l
 drop:∀l,((∃l',ρ l' =some l)/\d l=none)\/((∀l',ρ l' ≠some l)/\d l=some l)
 boxp:∀l i,π l=some (.box i)->∃s,l= .box s
 boxr:∀l s,ρ l=some (.box s)->∃i,l= .box i
theorem iC{α β:Type}(S:α->β->Prop)(h:∀a b b',S a b->S a b' ->b=b'):∃f:α->Option β,∀a b,f a=some b↔S a b:=by
 refine⟨fun a=>Classical.choose (p:=fun o:Option β=>∀b,o=some b↔S a b) ?_,fun a=>YS (p:=fun o:Option β=>∀b,o=some b↔S a b) _⟩;by_cases he:∃b,S a b
 ·obtain⟨b,hb⟩:=he;exact⟨some b,fun b' =>⟨fun e=>by cases e;exact hb,fun hb' =>by rw [h a b b' hb hb']⟩⟩
 ·exact⟨none,fun b=>⟨fun e=>(by cases e),fun hb=>absurd ⟨b,hb⟩ he⟩⟩
theorem Pass.of_rel(S S2:Own->Own->Prop)(f1:∀l a b,S l a->S l b->a=b)(f2:∀a b l,S a l->S b l->a=b)
 (g1:∀l a b,S2 l a->S2 l b->a=b) (g2:∀a b l,S2 a l->S2 b l->a=b) (sub:∀a b,S a b->S2 a b)
 (bx:∀l i,S2 l (.box i)->∃s,l= .box s) (br:∀s l,S2 (.box s) l->∃i,l= .box i):
 ∃π ρ d,Pass π ρ d/\(∀l l',π l=some l' ↔S l l')/\(∀l' l,ρ l' =some l↔S2 l l'):=by
 obtain⟨π,hπ⟩:=iC S f1;obtain⟨ρ,hρ⟩:=iC (fun a b=>S2 b a) (fun a b b' h1 h2=>g2 _ _ _ h1 h2);obtain⟨d,hd⟩:=iC (fun a b:Own=>a=b/\∀l',ρ l' ≠some a) (fun a b b' h1 h2=>h1.1.symm.trans h2.1)
 refine⟨π,ρ,d,⟨fun l1 l2 l h1 h2=>f2 _ _ _ ((hπ _ _).1 h1) ((hπ _ _).1 h2),fun l1 l2 l h1 h2=>g1 _ _ _ ((hρ _ _).1 h1) ((hρ _ _).1 h2),
  fun l l' h=>(hρ _ _).2 (sub _ _ ((hπ _ _).1 h)),fun l=> ?_,fun l i h=>bx _ _ (sub _ _ ((hπ _ _).1 h)),fun l s h=>br _ _ ((hρ _ _).1 h)⟩,hπ,hρ⟩
 by_cases he:∃l',ρ l' =some l
 ·refine .inl ⟨he,?_⟩;cases hdl:d l with
  |none=>rfl
  |some x=>
   have:=(hd l x).1 hdl;obtain⟨l',hl'⟩:=he;exact absurd hl' (this.2 l')
 ·have hn:∀l',ρ l' ≠some l:=fun l' h=>he ⟨l',h⟩;exact .inr ⟨hn,(hd l l).2 ⟨rfl,hn⟩⟩
def Env.into(E:Env)(π:Own->Option Own)(hide:Bool)(bx:Nat->Nat)(hdr:Nat->Value):Env:=
 { w:=E.w,ow:=fun b=>(E.ow b).bind π,hw:=fun b=>if hide=true/\(E.ow b).isSome=true/\(E.ow b).bind π=none then 0 else E.hw b,bx:=bx,hdr:=hdr }
def Env.frame(E:Env)(π:Own->Option Own)(b:Nat):Prop:=b<E.w.heap.size/\(E.ow b).bind π=none
instance (E:Env) (π:Own->Option Own) (b:Nat):Decidable (E.frame π b):=by unfold Env.frame;exact inferInstance
def Env.back(E E' :Env)(π ρ d:Own->Option Own):Env:=
 { w:=E'.w,ow:=fun b=>if E.frame π b then(E.ow b).bind d else(E'.ow b).bind ρ,hw:=fun b=>if E.frame π b then E.hw b else E'.hw b,bx:=E.bx,hdr:=E.hdr }
def dkC(ρ:Own->Option Own):Pl->Nat->Prop:=fun pl c=>∃p l',ρ l' =some (.arr pl c p)
def dbC(ρ:Own->Option Own):Nat->Prop:=fun s=>∃l',ρ l' =some (.box s)
section
variable {E E' :Env} {π ρ d:Own->Option Own} {hide:Bool} {bx:Nat->Nat} {hdr:Nat->Value}
theorem eT(hp:Pass π ρ d)(h:EnvOk E):EnvOk (E.into π hide bx hdr) where
 new:=fun b hb=>by
  have:=h.new b hb;exact⟨by simp [Env.into,this.1],by simp [Env.into,this.2]⟩
 inj:=fun b b' l h1 h2=>by
  simp only [Env.into,Zm] at h1 h2;obtain⟨l1,a1,c1⟩:=h1;obtain⟨l2,a2,c2⟩:=h2;have:=hp.pinj _ _ _ c1 c2;subst this;exact h.inj _ _ _ a1 a2
 boxhw:=fun b s hb=>by
  simp only [Env.into] at hb ⊢;have:E.hw b=0:=by
   rw [Zm] at hb;obtain⟨l,a1,c1⟩:=hb;obtain⟨s',rfl⟩:=hp.boxp _ _ c1;exact h.boxhw b s' a1
  split
  ·rfl
  ·exact this
theorem eS(h:eY E):eY (E.into π hide bx hdr):=fun x hx=>by
 obtain⟨h1,h2,h3,h4⟩:=h x hx;exact⟨h1,by simp [Env.into,h2],h3,by simp [Env.into,h2,h4]⟩
theorem jD(hp:Pass π ρ d){l1 l:Own}(h:d l1=some l):l=l1/\∀l',ρ l' ≠some l:=by
 rcases hp.drop l1 with ⟨_,h1⟩|⟨h1,h2⟩
 ·rw [h1] at h;cases h
 ·rw [h2] at h;cases h;exact⟨rfl,h1⟩
theorem fB(hp:Pass π ρ d)(h:EnvOk E)(h' :EnvOk E')(hs:E.w.heap.size<=E'.w.heap.size):EnvOk (E.back E' π ρ d) where
 new:=fun b hb=>by
  have hb' :E'.w.heap.size<=b:=hb;have hf:¬E.frame π b:=fun hf=>by have:=hf.1;omega
  have:=h'.new b hb';exact⟨by simp [Env.back,hf,this.1],by simp [Env.back,hf,this.2]⟩
 inj:=fun b b' l h1 h2=>by
  simp only [Env.back] at h1 h2;have mixed:∀ {b b' :Nat},(E.ow b).bind d=some l->(E'.ow b').bind ρ=some l->False:=by
   intro b b' g1 g2;simp only [Zm] at g1 g2;obtain⟨l1,a1,c1⟩:=g1;obtain⟨l2,a2,c2⟩:=g2;exact(jD hp c1).2 _ c2
  split at h1 <;>split at h2
  ·simp only [Zm] at h1 h2;obtain⟨l1,a1,c1⟩:=h1;obtain⟨l2,a2,c2⟩:=h2;have e1:=(jD hp c1).1;have e2:=(jD hp c2).1;exact h.inj _ _ _ a1 (by rw [a2,<-e2,<-e1])
  ·exact(mixed h1 h2).elim
  ·exact(mixed h2 h1).elim
  ·simp only [Zm] at h1 h2;obtain⟨l1,a1,c1⟩:=h1;obtain⟨l2,a2,c2⟩:=h2;have:=hp.rinj _ _ _ c1 c2;subst this;exact h'.inj _ _ _ a1 a2
 boxhw:=fun b s hb=>by
  simp only [Env.back] at hb ⊢;split at hb
  ·rename_i hf;rw [Zw hf];rw [Zm] at hb;obtain⟨l,a1,c1⟩:=hb;obtain⟨rfl,_⟩:=jD hp c1;exact h.boxhw b s a1
  ·rename_i hf;rw [Zf hf];rw [Zm] at hb;obtain⟨l,a1,c1⟩:=hb;obtain⟨i,rfl⟩:=hp.boxr _ _ c1;exact h'.boxhw b i a1
theorem fC(hp:Pass π ρ d)(h:EnvOk E)
 (hold:∀b,b<E.w.heap.size->(E.into π hide bx hdr).ow b=none->E'.w.heap[b]? =E.w.heap[b]? /\E'.hw b=(E.into π hide bx hdr).hw b/\E'.ow b=none)
 {mu:Prop} (hmu:¬mu->∀b l l',E.ow b=some l->π l=some l' ->E.hw b=0):Step E (E.back E' π ρ d) (dkC ρ) (dbC ρ) mu where
 ro:=fun b hb=>by
  by_cases hlt:b<E.w.heap.size
  ·have hf:E.frame π b:=⟨hlt,by rw [hb];rfl⟩;obtain⟨a1,a2,a3⟩:=hold b hlt (by simp [Env.into,hb]);exact⟨fun _=>by simp [Env.back,hf,hb],fun o ho=>⟨aT a1 o,by simp [Env.back,hf,ho]⟩⟩
  ·have:=h.new b (by omega);exact⟨fun h0=>by omega,fun o ho=>by omega⟩
 own:=fun b k c p hb hd=>by
  have hlt:b<E.w.heap.size:=by
   rcases ZG b E.w.heap.size with h1|h1
   ·exact h1
   ·rw [(h.new b h1).1] at hb;cases hb
  have hpi:π (.arr k c p)=none:=by
   cases hq:π (.arr k c p) with
   |none=>rfl
   |some l=>exact absurd ⟨p,l,hp.back _ _ hq⟩ hd
  have hf:E.frame π b:=⟨hlt,by rw [hb];exact hpi⟩;obtain⟨a1,a2,a3⟩:=hold b hlt (by simp [Env.into,hb,hpi]);refine⟨?_,by simp [Env.back,hf],a1⟩;simp only [Env.back,Zw hf,hb,jS];rcases hp.drop (.arr k c p) with ⟨⟨l',hl'⟩,_⟩|⟨_,h2⟩
  ·exact absurd ⟨p,l',hl'⟩ hd
  ·exact h2
 bor:=fun hm b o ho=>by
  have hlt:b<E.w.heap.size:=by
   rcases ZG b E.w.heap.size with h1|h1
   ·exact h1
   ·rw [(h.new b h1).2] at ho;omega
  have hpi:(E.ow b).bind π=none:=by
   cases hq:E.ow b with
   |none=>rfl
   |some l=>
    cases hr:π l with
    |none=>exact hr
    |some l' =>have:=hmu hm b l l' hq hr;omega
  have hf:E.frame π b:=⟨hlt,hpi⟩;obtain⟨a1,a2,a3⟩:=hold b hlt hpi;exact⟨aT a1 o,by simp [Env.back,hf,ho]⟩
 box:=fun s hs hd=>by
  have hlt:E.bx s<E.w.heap.size:=by
   rcases ZG (E.bx s) E.w.heap.size with h1|h1
   ·exact h1
   ·rw [(h.new _ h1).1] at hs;cases hs
  have hpi:π (.box s)=none:=by
   cases hq:π (.box s) with
   |none=>rfl
   |some l=>exact absurd ⟨l,hp.back _ _ hq⟩ hd
  have hf:E.frame π (E.bx s):=⟨hlt,by rw [hs];exact hpi⟩;obtain⟨a1,a2,a3⟩:=hold _ hlt (by simp [Env.into,hs,hpi]);refine⟨rfl,?_,a1⟩;simp only [Env.back,Zw hf,hs,jS];rcases hp.drop (.box s) with ⟨⟨l',hl'⟩,_⟩|⟨_,h2⟩
  ·exact absurd ⟨l',hl'⟩ hd
  ·exact h2
 hdr:=rfl
inductive Goes (E:Env) (π:Own->Option Own) (hide:Bool) (hdr:Nat->Value) (pl pl' :Pl) (c c' :Nat) (v:Value):CV->CV->Prop where
 |same (x:CV) (h:match x with | .int _ _=>True| .bool _=>True| .str _=>True| .val _=>True| .undef=>True|_=>False):Goes E π hide hdr pl pl' c c' v x x
 |undef (x:CV):Goes E π hide hdr pl pl' c c' v x .undef
 |ro (T:Ty) (xs:List T.den):Goes E π hide hdr pl pl' c c' v (.sl .ro T xs) (.sl .ro T xs)
 |own (T:Ty) (xs:List T.den) (h:∀p,π (.arr pl c p)=some (.arr pl' c' p)):Goes E π hide hdr pl pl' c c' v (.sl .own T xs) (.sl .own T xs)
 |tip (T:Ty) (xs:List T.den) (h:∀p,π (.arr pl c p)=some (.arr pl' c' p)):Goes E π hide hdr pl pl' c c' v (.sl .tip T xs) (.sl .tip T xs)
 |bor (T:Ty) (xs:List T.den) (h:hide=false/\∀k c p,π (.arr k c p)=none):Goes E π hide hdr pl pl' c c' v (.sl .bor T xs) (.sl .ro T xs)
 |al (k1 c1:Nat) (p1:List (Nat×Nat)) (T:Ty) (xs:List T.den) (h:hide=false/\∀k c p,π (.arr k c p)=none):Goes E π hide hdr pl pl' c c' v (.sl (.al k1 c1 p1) T xs) (.sl .ro T xs)
 |lnt (k1 c1 n:Nat) (p1:List (Nat×Nat)) (T:Ty) (xs:List T.den) (h:(∀n c,v≠ .slice none n c)->∀q,π (.arr (.k k1) c1 (p1++q))=some (.arr pl' c' q)) (hv:v=hdr n):
   Goes E π hide hdr pl pl' c c' v (.sl (.al k1 c1 p1) T xs) (.sl (.lnt n) T xs)
theorem Tip.into{l l' :Own}(hm:π l=some l'){v:Value}{sz:Nat}(h:Tip E l v sz):Tip (E.into π hide bx hdr) l' v sz:=by
 unfold Tip at h ⊢;split at h
 ·obtain⟨h1,h2,h3⟩:=h;exact⟨by simp [Env.into,h1,hm],by simp [Env.into,h1,hm,h2],h3⟩
 ·exact h
 ·exact h.elim
theorem aU(he:EnvOk E){bxs:Nat->Prop}{pl pl' :Pl}{c c' :Nat}{v:Value}{x x' :CV}(hg:Goes E π hide hdr pl pl' c c' v x x')(hv:VRc E bxs pl c x v):
 VRc (E.into π hide bx hdr) aJ pl' c' x' v:=by
 have hown:∀b l l',E.ow b=some l->π l=some l' ->(E.into π hide bx hdr).ow b=some l' /\(E.into π hide bx hdr).hw b=E.hw b:=by
  intro b l l' h1 h2;exact⟨by simp [Env.into,h1,h2],by simp [Env.into,h1,h2]⟩
 have hro:∀b,E.ow b=none->(E.into π hide bx hdr).ow b=none/\(E.into π hide bx hdr).hw b=E.hw b:=by
  intro b h1;exact⟨by simp [Env.into,h1],by simp [Env.into,h1]⟩
 have hbor:(hide=false/\∀k c p,π (.arr k c p)=none)->∀b o,o<E.hw b->(E.into π hide bx hdr).ow b=none/\o<(E.into π hide bx hdr).hw b:=by
  intro h b o ho;have h1:(E.into π hide bx hdr).hw b=E.hw b:=by simp [Env.into,h.1]
  refine⟨?_,by rw [h1];exact ho⟩;show(E.ow b).bind π=none;cases hl:E.ow b with
  |none=>rfl
  |some l=>
   cases l with
   |box s=>have:=he.boxhw b s hl;omega
   |arr k c p=>exact h.2 k c p
 cases hg with
 |same _ hx=>cases x <;>first |exact hv|exact hx.elim
 |undef=>exact hv.one
 |ro T xs=>
  exact RdP.mono hv (fun p b o ho=>⟨rfl,by rw [(hro b ho.2).2];exact ho.1,(hro b ho.2).1⟩) (fun _ _ _ _=>trivial)
 |own T xs h=>
  exact RdP.mono hv (fun p b o ho=>⟨rfl,by rw [(hown b _ _ ho.2 (h p)).2];exact ho.1,(hown b _ _ ho.2 (h p)).1⟩) (fun p v sz ht=>Tip.into (h p) ht)
 |tip T xs h=>
  refine RdP.mono hv (fun p b o ho=>⟨rfl,?_⟩) (fun p v sz ht hp=>Tip.into (h p) (ht hp));by_cases hp:p=[]
  ·have:=hown b _ _ (ho.2.1 hp) (h p);exact⟨by rw [this.2];exact ho.1,fun _=>this.1,fun hn=>absurd hp hn⟩
  ·have:=hro b (ho.2.2 hp);exact⟨by rw [this.2];exact ho.1,fun hn=>absurd hn hp,fun _=>this.1⟩
 |bor T xs h=>
  exact RdP.mono hv (fun p b o ho=>⟨rfl,(hbor h b o ho).2,(hbor h b o ho).1⟩) (fun _ _ _ _=>trivial)
 |al k1 c1 p1 T xs h=>
  exact RdP.mono hv (fun p b o ho=>⟨rfl,(hbor h b o ho.1).2,(hbor h b o ho.1).1⟩) (fun _ _ _ _=>trivial)
 |lnt k1 c1 n p1 T xs h hh=>
  by_cases hn:∀n c,v≠ .slice none n c
  case neg=>
   have hn' :∃n c,v= .slice none n c:=by
    refine YM fun h=>hn fun n c e=>h ⟨n,c,e⟩
   obtain⟨n',c2,rfl⟩:=hn';have hq:Tip E (.arr (.k k1) c1 (p1++ [])) (.slice none n' c2) T.sz:=by
    have hv:RdP E.w _ _ _ _:=hv;exact hv.top
   obtain⟨rfl,rfl⟩:=hq;have hxs:xs=[]:=by
    obtain⟨ad,cap,e,_⟩:=RdP.shape hv;have e2:=(Value.slice.inj e).2.1;simpa using e2.symm
   subst hxs;exact RdP.nil none 0 T.sz ⟨⟨rfl,rfl⟩,fun _=>hh⟩
  have h:=h hn;refine RdP.mono (RdP.topq hv) (fun p b o ho=>⟨rfl,by rw [(hown b _ _ ho.2 (h p)).2];exact ho.1,(hown b _ _ ho.2 (h p)).1⟩) (fun p v' sz ht=>⟨Tip.into (h p) ht.1,fun hp=> ?_⟩);exact(ht.2 hp).trans hh
inductive Comes' (ρ:Own->Option Own) (hide:Bool) (pl' pl:Pl) (c' c:Nat):CV->CV->Prop where
 |same (x:CV) (h:match x with | .int _ _=>True| .bool _=>True| .str _=>True| .val _=>True| .undef=>True|_=>False):Comes' ρ hide pl' pl c' c x x
 |undef (x:CV):Comes' ρ hide pl' pl c' c x .undef
 |ro (T:Ty) (xs:List T.den) (h:hide=true):Comes' ρ hide pl' pl c' c (.sl .ro T xs) (.sl .ro T xs)
 |bor (T:Ty) (xs:List T.den):Comes' ρ hide pl' pl c' c (.sl .ro T xs) (.sl .bor T xs)
 |tipbor (T:Ty) (xs:List T.den):Comes' ρ hide pl' pl c' c (.sl .tip T xs) (.sl .bor T xs)
 |own (T:Ty) (xs:List T.den) (h:∀p,ρ (.arr pl' c' p)=some (.arr pl c p)):Comes' ρ hide pl' pl c' c (.sl .own T xs) (.sl .own T xs)
 |tip (T:Ty) (xs:List T.den) (h:∀p,ρ (.arr pl' c' p)=some (.arr pl c p)) (hh:hide=true):Comes' ρ hide pl' pl c' c (.sl .tip T xs) (.sl .tip T xs)
section
variable (hold:∀b,b<E.w.heap.size->(E.into π hide bx hdr).ow b=none->E'.w.heap[b]? =E.w.heap[b]? /\E'.hw b=(E.into π hide bx hdr).hw b/\E'.ow b=none)
include hold
theorem cY{b:Nat}{l' l:Own}(h1:E'.ow b=some l')(h2:ρ l' =some l):(E.back E' π ρ d).ow b=some l/\(E.back E' π ρ d).hw b=E'.hw b:=by
 have hf:¬E.frame π b:=fun hf=>by
  have:=(hold b hf.1 hf.2).2.2;rw [h1] at this;cases this
 exact⟨by simp [Env.back,hf,h1,h2],by simp [Env.back,hf]⟩
theorem iS{b o:Nat}(h:o<E'.hw b):o<(E.back E' π ρ d).hw b:=by
 by_cases hf:E.frame π b
 ·have:=(hold b hf.1 hf.2).2.1;rw [this] at h;simp only [Env.back,Zw hf];simp only [Env.into] at h;split at h <;>omega
 ·simpa [Env.back,hf] using h
theorem nD{b o:Nat}(hh:hide=true)(h1:E'.ow b=none)(h:o<E'.hw b):(E.back E' π ρ d).ow b=none:=by
 by_cases hf:E.frame π b
 ·have:=(hold b hf.1 hf.2).2.1;rw [this] at h;simp only [Env.back,Zw hf];cases hl:E.ow b with
  |none=>rfl
  |some l=>
   have h2:=hf.2;rw [hl] at h2;simp [Env.into,hl,hh,h2] at h;exact absurd h (by simp [show π l=none from h2])
 ·simp [Env.back,hf,h1]
theorem Tip.back{l' l:Own}(hm:ρ l' =some l){v:Value}{sz:Nat}(h:Tip E' l' v sz):Tip (E.back E' π ρ d) l v sz:=by
 unfold Tip at h ⊢;split at h
 ·obtain⟨h1,h2,h3⟩:=h;have:=cY (d:=d) hold h1 hm;exact⟨this.1,this.2.trans h2,h3⟩
 ·exact h
 ·exact h.elim
theorem cI{bxs:Nat->Prop}{pl pl' :Pl}{c c' :Nat}{v:Value}{x x' :CV}(hg:Comes' ρ hide pl' pl c' c x x')(hv:VRc E' aJ pl' c' x v):
 VRc (E.back E' π ρ d) bxs pl c x' v:=by
 cases hg with
 |same _ hx=>cases x <;>first |exact hv|exact hx.elim
 |undef=>exact hv.one
 |ro T xs h=>
  exact RdP.mono hv (fun p b o ho=>⟨rfl,iS hold ho.1,nD hold h ho.2 ho.1⟩) (fun _ _ _ _=>trivial)
 |bor T xs=>exact RdP.mono hv (fun p b o ho=>⟨rfl,iS hold ho.1⟩) (fun _ _ _ _=>trivial)
 |tipbor T xs=>exact RdP.mono hv (fun p b o ho=>⟨rfl,iS hold ho.1⟩) (fun _ _ _ _=>trivial)
 |own T xs h=>
  exact RdP.mono hv (fun p b o ho=>⟨rfl,by rw [(cY (d:=d) hold ho.2 (h p)).2];exact ho.1,(cY hold ho.2 (h p)).1⟩) (fun p v sz ht=>Tip.back hold (h p) ht)
 |tip T xs h hh=>
  refine RdP.mono hv (fun p b o ho=>⟨rfl,iS hold ho.1,fun hp=> ?_,fun hp=> ?_⟩) (fun p v sz ht hp=>Tip.back hold (h p) (ht hp))
  ·exact(cY hold (ho.2.1 hp) (h p)).1
  ·exact nD hold hh (ho.2.2 hp) ho.1
end
end
end Go.Ab
end
section
namespace Go.Ab
variable [Inhabited Lb]
theorem RdP.nilRo{w:World}{ok:List (Nat×Nat)->Nat->Nat->Prop}{q:List (Nat×Nat)->Value->Nat->Prop}{v:Value}{sz:Nat}(h:RdP w ok q v (.sl sz []))
 {w' :World} {ok' :List (Nat×Nat)->Nat->Nat->Prop}:RdP w' ok' (fun _ _ _=>True) v (.sl sz []):=by
 obtain⟨ad,cap,rfl,_⟩:=RdP.shape h;exact .nil ad cap sz trivial
structure ArgsOk (E:Env) (G:Nat->AV) (as:List Arg) (ks:List Nat) (vs:List Value):Prop where
 len:as.length=vs.length
 val:∀(j:Nat) (x:AV) (v:Value),as[j]? =some (.val x)->vs[j]? =some v->(∃g cs,x= .v g cs)/\∀pl,VR E (aA G) pl x v
 box:∀(j:Nat) (cs:List CV) (v:Value),as[j]? =some (.box cs)->vs[j]? =some v->∃s,ks=[s]/\v= .pointer (some ⟨E.bx s,0,none⟩)/\G (2*s+1)= .v true cs
 one:∀(j j' :Nat) (cs cs' :List CV),as[j]? =some (.box cs)->as[j']? =some (.box cs')->j=j'
 has:∀s,s∈ks->ks=[s]/\∃(j:Nat) (cs:List CV),as[j]? =some (.box cs)
 ng:∀(j:Nat) (cs:List CV),as[j]? ≠some (.gbox cs)
section
variable {C:Ctx} {σ:St} {a:Act} {E:Env} {u u' :Ups} {tt:TT}
theorem iT(hi:Inv C (St.get (u++σ)) a.tmps E):∀(xs:List Operand) (tys:List TypeId) (r:List Arg×List Nat) (u' :Ups),
 Mr (gK tt xs tys) σ u=some (r,u')->u' =u/\ArgsOk E (St.get (u++σ)) r.1 r.2 (xs.map a.eval):=by
 intro xs
 induction xs with
 |nil=>
  intro tys r u' h;obtain⟨rfl,rfl⟩:=aE h;exact⟨rfl,⟨rfl,by simp,by simp,by simp,by simp,by simp⟩⟩
 |cons x xs ih=>
  intro tys r u' h;obtain⟨p,u1,h1,h2⟩:=aC h;obtain⟨rfl,hp⟩:=ih _ _ _ h1;obtain⟨b,u2,h3,h4⟩:=aC h2;obtain⟨rfl,hb⟩:=d8 hi h3;have vals:∀(g:Bool) (cs:List CV),b= .v g cs->r=(.val (.v g cs)::p.1,p.2)->ArgsOk E (St.get (u2++σ)) r.1 r.2 ((x::xs).map a.eval):=by
   intro g cs e1 e2;subst e1 e2;refine⟨by simp [hp.len],fun j y v hj hv=> ?_,fun j y v hj hv=> ?_,fun j j' y y' hj hj' => ?_,fun s hs=> ?_,fun j y hj=> ?_⟩
   ·cases j with
    |zero=>simp at hj hv;subst hj hv;exact⟨⟨g,cs,rfl⟩,hb⟩
    |succ j=>exact hp.val j y v (by simpa using hj) (by simpa using hv)
   ·cases j with
    |zero=>simp at hj
    |succ j=>exact hp.box j y v (by simpa using hj) (by simpa using hv)
   ·cases j with
    |zero=>simp at hj
    |succ j=>cases j' with
     |zero=>simp at hj'
     |succ j' =>rw [hp.one j j' y y' (by simpa using hj) (by simpa using hj')]
   ·obtain⟨e,j,y,hj⟩:=hp.has s hs;exact⟨e,j+1,y,by simpa using hj⟩
   ·cases j with
    |zero=>simp at hj
    |succ j=>exact hp.ng j y (by simpa using hj)
  split at h4
  ·rename_i s;obtain⟨cs,u3,h5,h6⟩:=aC h4;unfold cZ at h5;obtain⟨b2,u4,h7,h8⟩:=aC h5;obtain⟨rfl,rfl⟩:=bN h7;have h8' :St.get (u4++σ) (2*s+1)= .v true cs/\u3=u4:=by
    split at h8
    ·rename_i hg;obtain⟨rfl,rfl⟩:=aE h8;exact⟨hg,rfl⟩
    ·exact(aD h8).elim
   obtain⟨hg,rfl⟩:=h8';split at h6
   ·rename_i hks;obtain⟨rfl,rfl⟩:=aE h6;have nob:∀(j:Nat) (y:List CV),p.1[j]? ≠some (.box y):=by
     intro j y hj;have hl:j<(xs.map a.eval).length:=by rw [<-hp.len];exact(Zt.1 hj).1
     obtain⟨s,e,_⟩:=hp.box j y _ hj (Zx hl);rw [hks] at e;cases e
    refine⟨rfl,⟨by simp [hp.len],fun j y v hj hv=> ?_,fun j y v hj hv=> ?_,fun j j' y y' hj hj' => ?_,fun s' hs=> ?_,fun j y hj=> ?_⟩⟩
    ·cases j with
     |zero=>simp at hj
     |succ j=>exact hp.val j y v (by simpa using hj) (by simpa using hv)
    ·cases j with
     |zero=>
      simp at hj hv;subst hj hv;exact⟨s,rfl,(hb (.h 0)).1.1,hg⟩
     |succ j=>exact absurd (by simpa using hj) (nob j y)
    ·cases j with
     |succ j=>exact absurd (by simpa using hj) (nob j y)
     |zero=>cases j' with
      |zero=>rfl
      |succ j' =>exact absurd (by simpa using hj') (nob j' y')
    ·simp at hs;subst hs;exact⟨rfl,0,cs,rfl⟩
    ·cases j with
     |zero=>simp at hj
     |succ j=>exact hp.ng j y (by simpa using hj)
   ·exact(aD h6).elim
  ·obtain⟨rfl,rfl⟩:=aE h4;exact⟨rfl,vals _ _ rfl rfl⟩
  ·exact(aD h4).elim
theorem mT{E:Env}:∀ {as:List Arg} {vs:List Value} {i:Nat},as.length=vs.length->(∀(j:Nat) (x:Arg) (v:Value),as[j]? =some x->vs[j]? =some v->iI E (i+j) x v)->ArgsAt E i as vs:=by
 intro as
 induction as with
 |nil=>intro vs i hl h;cases vs <;>simp_all [ArgsAt]
 |cons x as ih=>
  intro vs i hl h;cases vs with
  |nil=>simp at hl
  |cons v vs=>
   have h0:=h 0 x v rfl rfl;have ht:ArgsAt E (i+1) as vs:=ih (by simpa using hl) fun j y w h1 h2=>by rw [show i+1+j=i+(j+1) from by omega];exact h (j+1) y w (by simpa using h1) (by simpa using h2)
   cases x with
   |val a=>exact⟨h0,ht⟩
   |box cs=>exact⟨h0,ht⟩
   |gbox cs=>exact h0.elim
theorem rK{E E' :Env}:∀ {as:List Arg} {k:Nat} {outs:List (List CV)},cR E E' k as outs->(∀(j:Nat) (cs:List CV),as[j]? ≠some (.box cs)/\as[j]? ≠some (.gbox cs))->outs=[]:=by
 intro as
 induction as with
 |nil=>intro k outs h _;cases outs <;>simp_all [cR]
 |cons x as ih=>
  intro k outs h hn;cases x with
  |box cs=>exact absurd rfl (hn 0 cs).1
  |gbox cs=>exact absurd rfl (hn 0 cs).2
  |val y=>exact ih (k:=k+1) h fun j cs=>by simpa using hn (j+1) cs
theorem mV{E E' :Env}:∀ {as:List Arg} {k j:Nat} {cs:List CV} {outs:List (List CV)},cR E E' k as outs->as[j]? =some (.box cs)->(∀(j' :Nat) (cs' :List CV),(as[j']? =some (.box cs')->j' =j)/\as[j']? ≠some (.gbox cs'))->
 ∃o,outs=[o]/\bM E' (k+j) (E.bx (k+j)) o:=by
 intro as
 induction as with
 |nil=>intro k j cs outs h hj;simp at hj
 |cons x as ih=>
  intro k j cs outs h hj hn;cases x with
  |box cs0=>
   obtain rfl:=(hn 0 cs0).1 rfl;cases outs with
   |nil=>exact h.elim
   |cons o os=>
    have:=rK h.2 fun j' cs' =>⟨fun he=>by have:=(hn (j' +1) cs').1 (by simpa using he);omega,fun he=>(hn (j' +1) cs').2 (by simpa using he)⟩;subst this;exact⟨o,rfl,h.1⟩
  |gbox cs0=>exact absurd rfl (hn 0 cs0).2
  |val y=>
   cases j with
   |zero=>simp at hj
   |succ j=>
    have:=ih (k:=k+1) (j:=j) h (by simpa using hj) fun j' cs' =>⟨fun he=>by have:=(hn (j' +1) cs').1 (by simpa using he);omega,fun he=>(hn (j' +1) cs').2 (by simpa using he)⟩
    rwa [show k+1+j=k+(j+1) from by omega] at this
theorem wZ(s i:Nat)(own:Bool):∃π ρ d,Pass π ρ d/\
 (∀l l',π l=some l' ↔(l= .box s/\l' = .box i)\/(own=true/\∃c p,l= .arr (.k (2*s+1)) c p/\l' = .arr (.k (2*i+1)) c p))/\
 (∀l' l,ρ l' =some l↔(l= .box s/\l' = .box i)\/(∃c p,l= .arr (.k (2*s+1)) c p/\l' = .arr (.k (2*i+1)) c p)\/(∃c p,l= .arr (.h 0) c p/\l' = .arr (.h 0) c p)):=by
 refine Pass.of_rel _ _ ?_ ?_ ?_ ?_ ?_ ?_ ?_
 ·rintro l a b (⟨rfl,rfl⟩|⟨_,c,p,rfl,rfl⟩) (⟨h,rfl⟩|⟨_,c',p',h,rfl⟩) <;>first |rfl|(cases h;rfl) |cases h
 ·rintro a b l (⟨rfl,rfl⟩|⟨_,c,p,rfl,rfl⟩) (⟨rfl,h⟩|⟨_,c',p',rfl,h⟩) <;>first |rfl|(cases h;rfl) |cases h
 ·rintro l a b (⟨rfl,rfl⟩|⟨c,p,rfl,rfl⟩|⟨c,p,rfl,rfl⟩) (⟨h,rfl⟩|⟨c',p',h,rfl⟩|⟨c',p',h,rfl⟩) <;>first |rfl|(cases h;rfl) |cases h
 ·rintro a b l (⟨rfl,rfl⟩|⟨c,p,rfl,rfl⟩|⟨c,p,rfl,rfl⟩) (⟨rfl,h⟩|⟨c',p',rfl,h⟩|⟨c',p',rfl,h⟩) <;>first |rfl|(cases h;rfl) |cases h
 ·rintro a b (h|⟨_,h⟩)
  ·exact .inl h
  ·exact .inr (.inl h)
 ·rintro l j (⟨rfl,h⟩|⟨c,p,rfl,h⟩|⟨c,p,rfl,h⟩)
  ·exact⟨s,rfl⟩
  ·cases h
  ·cases h
 ·rintro j l (⟨h,rfl⟩|⟨c,p,h,rfl⟩|⟨c,p,h,rfl⟩)
  ·exact⟨i,rfl⟩
  ·cases h
  ·cases h
theorem xD:∃π ρ d,Pass π ρ d/\(∀l,π l=none)/\(∀l' l,ρ l' =some l↔(∃c p,l= .arr (.h 0) c p/\l' = .arr (.h 0) c p)):=by
 obtain⟨π,ρ,d,h1,h2,h3⟩:=Pass.of_rel (fun _ _=>False) (fun l l' =>∃c p,l= .arr (.h 0) c p/\l' = .arr (.h 0) c p) (by simp) (by simp)
  (by rintro l a b ⟨c,p,rfl,rfl⟩ ⟨c',p',h,rfl⟩;cases h;rfl) (by rintro a b l ⟨c,p,rfl,rfl⟩ ⟨c',p',rfl,h⟩;cases h;rfl) (by simp)
  (by rintro l j ⟨c,p,rfl,h⟩;cases h) (by rintro j l ⟨c,p,h,rfl⟩;cases h)
 exact⟨π,ρ,d,h1,fun l=>by cases h:π l with |none=>rfl|some x=>exact((h2 l x).1 h).elim,h3⟩
theorem qV{π:Own->Option Own}{hide:Bool}{bx:Nat->Nat}{hdr:Nat->Value}(he:EnvOk E){bxs:Nat->Prop}{pl:Pl}{g:Bool}{cs:List CV}{v:Value}
 (hb:cs.any CV.isBorAl=true->hide=false/\∀k c p,π (.arr k c p)=none) (hv:∀pl,VR E bxs pl (.v g cs) v):
 VR (E.into π hide bx hdr) aJ pl ((AV.v g cs).mapC CV.toRo) v:=by
 refine VR.imp (fun j x v hx hv=> ?_) (hv pl);have hx:x∈cs:=hx;have hb' :x.isBorAl=true->hide=false/\∀k c p,π (.arr k c p)=none:=fun h=>hb (Y8.2 ⟨x,hx,h⟩);cases x with
 |sl f T xs=>
  cases f with
  |ro=>exact aU he (.ro T xs) hv
  |bor=>exact aU he (.bor T xs (hb' rfl)) hv
  |own=>
   cases xs with
   |nil=>exact RdP.nilRo hv
   |cons y ys=>exact hv.one
  |tip=>exact hv.one
  |lnt n=>exact hv.one
  |al k c p=>exact aU he (.al k c p T xs (hb' rfl)) hv
 |ptr s off=>exact hv.one
 |clo k ss=>exact hv.one
 |swp sf n h0 s=>exact hv.one
 |eptr f T x off=>exact hv.one
 |eref k c p i T x off=>exact hv.one
 |apd k c p T xs=>exact hv.one
 |_=>exact aU he (.same _ trivial) hv
theorem qU{π:Own->Option Own}{hide:Bool}{bx:Nat->Nat}{hdr:Nat->Value}(he:EnvOk E){bxs:Nat->Prop}{pl pl' :Pl}{cs:List CV}{vs:List Value}
 (hb:cs.any CV.isBorAl=true->hide=false/\∀k c p,π (.arr k c p)=none) (ho:cs.any CV.isOwn=true->∀c p,π (.arr pl c p)=some (.arr pl' c p)) (hv:VRs E bxs pl 0 cs vs):
 VRs (E.into π hide bx hdr) aJ pl' 0 (cs.map CV.toBx) vs:=by
 refine VRs.imp (fun j x v hx hv=> ?_) hv;have hb' :x.isBorAl=true->hide=false/\∀k c p,π (.arr k c p)=none:=fun h=>hb (Y8.2 ⟨x,hx,h⟩);have ho' :x.isOwn=true->∀c p,π (.arr pl c p)=some (.arr pl' c p):=fun h=>ho (Y8.2 ⟨x,hx,h⟩);cases x with
 |sl f T xs=>
  cases f with
  |ro=>exact aU he (.ro T xs) hv
  |bor=>exact aU he (.bor T xs (hb' rfl)) hv
  |own=>exact aU he (.own T xs (ho' rfl _)) hv
  |tip=>exact aU he (.tip T xs (ho' rfl _)) hv
  |lnt n=>exact hv.one
  |al k c p=>exact hv.one
 |ptr s off=>exact hv.one
 |clo k ss=>exact hv.one
 |swp sf n h0 s=>exact hv.one
 |eptr f T x off=>exact hv.one
 |eref k c p i T x off=>exact hv.one
 |apd k c p T xs=>exact hv.one
 |_=>exact aU he (.same _ trivial) hv
theorem iO:∀ {as:List Arg} {j:Nat} {g:Bool} {cs:List CV},as[j]? =some (.val (.v g cs))\/as[j]? =some (.box cs)->cs.any CV.isBorAl=true->aL as=true:=by
 intro as
 induction as with
 |nil=>intro j g cs h;simp at h
 |cons x as ih=>
  intro j g cs h hc;cases j with
  |zero=>
   simp at h;rcases h with rfl|rfl
   ·simp [aL,hc]
   ·simp [aL,hc]
  |succ j=>
   have:=ih (j:=j) (g:=g) (by simpa using h) hc;cases x with
   |box _=>simp [aL,this]
   |gbox _=>simp [aL,this]
   |val y=>cases y <;>simp [aL,this]
theorem rV:∀ {as:List Arg} {j:Nat} {cs:List CV},as[j]? =some (.box cs)->cs.any CV.isOwn=true->cG as=true:=by
 intro as
 induction as with
 |nil=>intro j cs h;simp at h
 |cons x as ih=>
  intro j cs h hc;cases j with
  |zero=>simp at h;subst h;simp [cG,hc]
  |succ j=>
   have:=ih (j:=j) (by simpa using h) hc;cases x <;>simp [cG,this]
theorem kT{π:Own->Option Own}{hide:Bool}{hdr:Nat->Value}(hi:Inv C (St.get (u++σ)) a.tmps E){as:List Arg}{ks:List Nat}{vs:List Value}(h:ArgsOk E (St.get (u++σ)) as ks vs)
 (hb:aL as=true->hide=false/\∀k c p,π (.arr k c p)=none)
 (hbox:∀s,ks=[s]->∀(i:Nat) (cs:List CV),as[i]? =some (.box cs)->π (.box s)=some (.box i)/\(cG as=true->∀c p,π (.arr (.k (2*s+1)) c p)=some (.arr (.k (2*i+1)) c p))) {bx:Nat->Nat} (hbx:∀s,ks=[s]->∀i,bx i=E.bx s):
 ArgsAt (E.into π hide bx hdr) 0 (as.map Arg.toRo) vs:=by
 refine mT (by simp [h.len]) fun j x v hj hv=> ?_;rw [Zn,Z8] at hj;obtain⟨y,hy,rfl⟩:=hj;rw [Zj];cases y with
 |val x=>
  obtain⟨⟨g,cs,rfl⟩,hvr⟩:=h.val j x v hy hv;exact qV hi.env (fun hc=>hb (iO (.inl hy) hc)) hvr
 |box cs=>
  obtain⟨s,hks,rfl,hg⟩:=h.box j cs v hy hv;obtain⟨h1,vals,ty,h2,h3⟩:=hi.box s cs hg;obtain⟨p1,p2⟩:=hbox s hks j cs hy;have hbb:=hbx s hks j;show _/\bM _ _ _ _;refine⟨by rw [show(E.into π hide bx hdr).bx j=E.bx s from hbb],by rw [show(E.into π hide bx hdr).bx j=E.bx s from hbb];simp [Env.into,h1,p1],vals,ty,by rw [show(E.into π hide bx hdr).bx j=E.bx s from hbb];exact h2,?_⟩;exact qU hi.env (fun hc=>hb (iO (g:=true) (.inr hy) hc)) (fun hc=>p2 (rV hy hc)) h3
 |gbox cs=>exact(h.ng j cs hy).elim
end
end Go.Ab
end
section
namespace Go.Ab
variable [Inhabited Lb]
section
variable {C:Ctx} {σ:St} {a:Act} {E E' :Env} {u u' :Ups} {tt:TT} {π ρ d:Own->Option Own} {hide:Bool} {bx:Nat->Nat} {hdr:Nat->Value}
theorem gJ(hold:∀b,b<E.w.heap.size->(E.into π hide bx hdr).ow b=none->E'.w.heap[b]? =E.w.heap[b]? /\E'.hw b=(E.into π hide bx hdr).hw b/\E'.ow b=none)
 {bxs:Nat->Prop} {pl pl' :Pl} {c c' :Nat} {v:Value} {x:CV} (hx:x.plain=true) (hr:∀p,ρ (.arr pl' c' p)=some (.arr pl c p)) (hv:VRc E' aJ pl' c' x v):
 VRc (E.back E' π ρ d) bxs pl c (cond hide x x.rob) v:=by
 cases hide with
 |true=>
  simp only [jT];cases x with
  |sl f T xs=>
   cases f with
   |ro=>exact cI hold (.ro T xs rfl) hv
   |own=>exact cI hold (.own T xs hr) hv
   |tip=>exact cI hold (.tip T xs hr rfl) hv
   |_=>cases hx
  |int k n=>exact cI hold (.same _ trivial) hv
  |bool b=>exact cI hold (.same _ trivial) hv
  |str s=>exact cI hold (.same _ trivial) hv
  |val s=>exact cI hold (.same _ trivial) hv
  |_=>cases hx
 |false=>
  simp only [jF];cases x with
  |sl f T xs=>
   cases f with
   |ro=>exact cI hold (.bor T xs) hv
   |own=>exact cI hold (.own T xs hr) hv
   |tip=>exact cI hold (.tipbor T xs) hv
   |_=>cases hx
  |int k n=>exact cI hold (.same _ trivial) hv
  |bool b=>exact cI hold (.same _ trivial) hv
  |str s=>exact cI hold (.same _ trivial) hv
  |val s=>exact cI hold (.same _ trivial) hv
  |_=>cases hx
theorem AV.plain_mem{a:AV}{x:CV}(h:a.plain=true)(hx:a.mem x):x.plain=true:=by
 cases a with
 |none=>exact hx.elim
 |v g cs=>exact Zu.1 h x hx
 |tup xs=>obtain⟨y,hy,hx⟩:=hx;exact Zu.1 (Zu.1 h y hy) x hx
theorem tB(b:Bool)(f:CV->CV)(a:AV):(a.mapC fun x=>cond b x (f x))=cond b a (a.mapC f):=by
 cases b
 ·rfl
 ·exact AV.mapC_id (fun _=>rfl) a
theorem iG(hold:∀b,b<E.w.heap.size->(E.into π hide bx hdr).ow b=none->E'.w.heap[b]? =E.w.heap[b]? /\E'.hw b=(E.into π hide bx hdr).hw b/\E'.ow b=none)
 {bxs:Nat->Prop} {r:AV} {v:Value} (hx:r.plain=true) (hr:∀c p,ρ (.arr (.h 0) c p)=some (.arr (.h 0) c p)) (hv:VR E' aJ (.h 0) r v):
 VR (E.back E' π ρ d) bxs (.h 0) (cond hide r (r.mapC CV.rob)) v:=by
 rw [<-tB];exact VR.imp (fun j x v hm hv=>gJ hold (AV.plain_mem hx hm) (fun p=>hr j p) hv) hv
theorem sQ(hi:Inv C (St.get (u++σ)) a.tmps E)(hp:Pass π ρ d)(hπ:∀l,π l=none)(hρ:∀l' l,ρ l' =some l↔(∃c p,l= .arr (.h 0) c p/\l' = .arr (.h 0) c p))
 {as:List Arg} {r:CallO} {v:Value} (hx:ExitR (E.into π hide bx hdr) E' as r v) (hpl:r.res.plain=true):
 Hand C (u++σ) a.tmps E'.w 0 (cond hide r.res (r.res.mapC CV.rob)) v:=by
 have hold:=hx.old;have hst:=fC (mu:=False) hp hi.env hold (fun _ b l l' _ h2=>by rw [hπ] at h2;cases h2);have hbk:=fB hp hi.env hx.env hx.size;have hdk:∀pl c,dkC ρ pl c->pl= .h 0:=by
  rintro pl c ⟨p,l',h⟩;obtain⟨c',p',h,_⟩:=(hρ _ _).1 h;cases h;rfl
 have hdb:∀s,¬dbC ρ s:=by
  rintro s ⟨l',h⟩;obtain⟨c',p',h,_⟩:=(hρ _ _).1 h;cases h
 have cw:∀(pl:Pl) (j:Nat) (z:CV),pl≠ .h 0->CW (dkC ρ) False pl j z z:=by
  intro pl j z h1;exact .inr ⟨rfl,fun _ hd=>h1 (hdk _ _ hd),fun k' c' _ hd=>(by have:=hdk _ _ hd;cases this),fun _ h=>h⟩
 have aw:∀(pl:Pl) (x:AV),pl≠ .h 0->AWk (dkC ρ) False pl x x:=by
  intro pl x h;have:=AWk.map (dk:=dkC ρ) (mu:=False) (pl:=pl) (f:=id) (fun c z=>cw pl c z h) x
  rwa [AV.mapC_id (f:=id) (fun _=>rfl)] at this
 refine⟨E.back E' π ρ d,rfl,hi.step hst hx.os hx.tape hx.output hx.size (fun b hlt h0=> ?_) hbk.new hbk.inj hbk.boxhw rfl (fun s hs=>⟨hs,rfl⟩)
  (fun t=> .inr ⟨aw _ _ (by simp),rfl⟩) (fun s cs' hs=> .inr ⟨hdb s,cs',hs,?_⟩),iG hold hpl (fun c p=>(hρ _ _).2 ⟨c,p,rfl,rfl⟩) (hx.res.vr (fN hpl))⟩
 ·have h2:=(hi.old b hlt h0).2.2;have hlt2:b<E.w.heap.size:=ZC hlt hi.size;obtain⟨a1,a2,a3⟩:=hold b hlt2 (by simp [Env.into,h2]);have hf:E.frame π b:=⟨hlt2,by rw [h2];rfl⟩;exact⟨a1,by simp [Env.back,hf],by simp [Env.back,hf,h2]⟩
 ·have:=CWs.map (dk:=dkC ρ) (mu:=False) (pl:= .k (2*s+1)) (f:=id) (fun c z=>cw _ c z (by simp)) cs' 0;simpa using this
theorem sR(hi:Inv C (St.get (u++σ)) a.tmps E){s i:Nat}{own:Bool}(hp:Pass π ρ d)
 (hπ:∀l l',π l=some l' ↔(l= .box s/\l' = .box i)\/(own=true/\∃c p,l= .arr (.k (2*s+1)) c p/\l' = .arr (.k (2*i+1)) c p))
 (hρ:∀l' l,ρ l' =some l↔(l= .box s/\l' = .box i)\/(∃c p,l= .arr (.k (2*s+1)) c p/\l' = .arr (.k (2*i+1)) c p)\/(∃c p,l= .arr (.h 0) c p/\l' = .arr (.h 0) c p))
 {as:List Arg} {r:CallO} {v:Value} {cs out:List CV} (hbx:bx i=E.bx s) (hg:St.get (u++σ) (2*s+1)= .v true cs)
 (hx:ExitR (E.into π hide bx hdr) E' as r v) (hpl:r.res.plain=true) (hout:out.all CV.plain=true) (hat:bM E' i (E.bx s) out) (hho:own=true->hide=true):
 Hand C ((cond own [(aB,.none)] []++(2*s+1,.v true (cond hide out (out.map CV.rob)))::u)++σ) a.tmps E'.w 0 (cond hide r.res (r.res.mapC CV.rob)) v:=by
 have hold:=hx.old
 have hst:=fC (mu:=own=true) hp hi.env hold (fun hm b l l' h1 h2=>by
  rcases(hπ _ _).1 h2 with ⟨rfl,_⟩|⟨h,_⟩
  ·exact hi.boxhw b s h1
  ·exact absurd h hm)
 have hbk:=fB hp hi.env hx.env hx.size;have hdk:∀pl c,dkC ρ pl c->pl= .h 0\/pl= .k (2*s+1):=by
  rintro pl c ⟨p,l',h⟩;rcases(hρ _ _).1 h with ⟨h,_⟩|⟨c',p',h,_⟩|⟨c',p',h,_⟩
  ·cases h
  ·cases h;exact .inr rfl
  ·cases h;exact .inl rfl
 have hdb:∀s',dbC ρ s' ->s' =s:=by
  rintro s' ⟨l',h⟩;rcases(hρ _ _).1 h with ⟨h,_⟩|⟨c',p',h,_⟩|⟨c',p',h,_⟩
  ·cases h;rfl
  ·cases h
  ·cases h
 generalize hUdef:(cond own [(aB,AV.none)] []++(2*s+1,AV.v true (cond hide out (out.map CV.rob)))::u)=U;have hplo:∀z∈(cond hide out (out.map CV.rob)),z.stale [aB] own=z:=by
  intro z hz;cases own with
  |true=>
   rw [hho rfl] at hz;have:=Zu.1 hout z hz;cases z with
   |sl f T xs=>cases f <;>first |rfl|cases this
   |_=>first |rfl|cases this
  |false=>
   have hz2:z.onKey [aB]=false:=by
    have key:∀y:CV,y.plain=true->y.onKey [aB]=false/\y.rob.onKey [aB]=false:=by
     intro y hy;cases y with
     |sl f T xs=>cases f <;>first |exact⟨rfl,rfl⟩|cases hy
     |_=>first |exact⟨rfl,rfl⟩|cases hy
    cases hide with
    |true=>exact(key z (Zu.1 hout z hz)).1
    |false=>obtain⟨y,hy,rfl⟩:=Zk.1 hz;exact(key y (Zu.1 hout y hy)).2
   simp [CV.stale,hz2]
 have hG:∀q,St.get (U++σ) q=if own=true/\aB=q then .none else if 2*s+1=q then .v true (cond hide out (out.map CV.rob)) else
  (St.get (u++σ) q).mapC (CV.stale (cond own [aB,2*s+1] [2*s+1]) own):=by
  intro q;have ne:(2*s+1).beq aB=false:=by
   cases h:(2*s+1).beq aB with
   |false=>rfl
   |true=>have:=Zl h;unfold aB at this;omega
  subst hUdef;cases own with
  |false=>
   show St.get ((2*s+1,_)::(u++σ)) q=_;rw [St.get_cons];simp [ne]
  |true=>
   show St.get ((aB,_)::(2*s+1,_)::(u++σ)) q=_;rw [St.get_cons];by_cases h1:aB=q
   ·simp [h1]
   ·simp only [h1,if_false,and_false];rw [St.get_cons];by_cases h2:2*s+1=q
    ·simp only [h2,ZB];show AV.v true _=_
     congr 1
     have:∀l:List CV,(∀z∈l,z.stale [aB] true=z)->l.map (CV.stale [aB] true)=l:=fun l hl=>by
      conv=>rhs;rw [<-Xp l]
      exact ZO hl
     exact this _ hplo
    ·simp only [h2,if_false,ne];rw [AV.mapC_comp]
     congr 1
     funext z
     exact CV.stale_stale z (fun q=>by simp [YO]) rfl
 have hbxs:∀s',aA (St.get (u++σ)) s' ->aA (St.get (U++σ)) s' /\(E.back E' π ρ d).bx s' =E.bx s' :=by
  intro s' hs;refine⟨?_,rfl⟩;obtain⟨ys,hys⟩:=hs;unfold aA;rw [hG,Zf (by unfold aB;omega)];split
  ·exact⟨_,rfl⟩
  ·rw [hys];exact⟨_,rfl⟩
 have cw:∀(pl:Pl) (j:Nat) (z:CV),pl≠ .h 0->pl≠ .k (2*s+1)->CW (dkC ρ) (own=true) pl j (z.stale (cond own [aB,2*s+1] [2*s+1]) own) z:=by
  intro pl j z h1 h2;refine CW.stale (fun _ hd=> ?_) (fun k' c' hd=> ?_) (fun h=>h)
  ·rcases hdk _ _ hd with h|h
   ·exact h1 h
   ·exact h2 h
  ·rcases hdk _ _ hd with h|h
   ·cases h
   ·cases h;cases own <;>simp
 refine⟨E.back E' π ρ d,rfl,hi.step hst hx.os hx.tape hx.output hx.size (fun b hlt h0=> ?_) hbk.new hbk.inj hbk.boxhw rfl hbxs
  (fun t=> .inr ⟨?_,rfl⟩) (fun s' cs' hs=> ?_),iG hold hpl (fun c p=>(hρ _ _).2 (.inr (.inr ⟨c,p,rfl,rfl⟩))) (hx.res.vr (fN hpl))⟩
 ·have h2:=(hi.old b hlt h0).2.2;have hlt2:b<E.w.heap.size:=ZC hlt hi.size;obtain⟨a1,a2,a3⟩:=hold b hlt2 (by simp [Env.into,h2]);have hf:E.frame π b:=⟨hlt2,by rw [h2];rfl⟩;exact⟨a1,by simp [Env.back,hf],by simp [Env.back,hf,h2]⟩
 ·rw [hG];split
  ·trivial
  ·rw [Zf (by omega)];exact AWk.map (fun c z=>cw _ c z (by simp) (by simp;omega)) _
 ·rw [hG,Zf (by unfold aB;omega)] at hs;by_cases hss:s' =s
  ·subst hss;rw [Zw rfl] at hs;injection hs with _ hs;subst hs;obtain⟨h1,vals,ty,h2,h3⟩:=hat;refine .inl ⟨(cY hold h1 ((hρ _ _).2 (.inl ⟨rfl,rfl⟩))).1,vals,ty,h2,?_⟩
   have key:VRs (E.back E' π ρ d) (aA (St.get (U++σ))) (.k (2*s' +1)) 0 (out.map fun x=>cond hide x x.rob) vals.toList:=
    VRs.imp (fun j x v hx hv=>gJ hold (Zu.1 hout x hx) (fun p=>(hρ _ _).2 (.inr (.inl ⟨_,p,rfl,rfl⟩))) hv) h3
   have e:(out.map fun x=>cond hide x x.rob)=cond hide out (out.map CV.rob):=by cases hide <;>simp
   rwa [e] at key
  ·rw [Zf (by omega)] at hs;cases hq:St.get (u++σ) (2*s' +1) with
   |v g' cs0=>
    rw [hq] at hs;injection hs with hs1 hs2;subst hs1 hs2;exact .inr ⟨fun h=>hss (hdb _ h),cs0,rfl,CWs.map (fun c z=>cw _ c z (by simp) (by simp;omega)) _ _⟩
   |tup xs=>rw [hq] at hs;cases hs
   |none=>rw [hq] at hs;cases hs
end
end Go.Ab
end
section
namespace Go.Ab
variable [Inhabited Lb]
theorem n4{P:Program}{ρ:Operand->Value}{o:Oper}{w:World}{c:Call}{f:FuncId}(h:o.op= .call c)(hc:c.callee= .value (.func f))(hρ:ρ (.func f)= .func (.func f) #[] #[]):
 (execOp ρ o).run P w=(callFunc f (c.args.map ρ)).run P w:=by
 unfold execOp;rw [h];show((resolve ρ c o.type >>= fun d=>invoke d.target d.args):Sem Next).run P w=_;simp only [resolve,hc,hρ,Deferred.ofValue,Sem.run_bind,Sem.run_pure,Result.andThen_ok,invoke,Array.append_empty,Array.empty_append]
section
variable {C:Ctx} {σ:St} {a:Act} {E E' :Env} {u u' :Ups} {tt:TT} {o:Oper} {md:Md} {v:AV} {ob:List Prop}
def gF(C:Ctx)(σ:St)(a:Act)(w:World)(c:Call)(f:FuncId)(v:AV):Prop:=
 Does C.P f (c.args.map a.eval) w fun val w' =>Hand C σ a.tmps w' 0 v val
theorem dI(a:Act)(c:Call):(c.args.map a.eval).toList=c.args.toList.map a.eval:=by simp
theorem iU{w:World}(hi:Inv C (St.get (u++σ)) a.tmps E)(hw:E.w=w){c:Call}{f:FuncId}{r:CallO}(hpl:r.plain=true)
 {p:List Arg×List Nat} (hA:ArgsOk E (St.get (u++σ)) p.1 p.2 (c.args.toList.map a.eval)) (h:Mr (match r.lents with
   | []=>cond (aL p.1)
     (cond (cG p.1) bad ((eA false p.2 (r.outs.map (·.map CV.rob))).bind fun _=>M.pure (r.res.mapC CV.rob,[AbsCalls C.P f (p.1.map Arg.toRo) r])))
     ((eA (cG p.1) p.2 r.outs).bind fun _=>M.pure (r.res,[AbsCalls C.P f (p.1.map Arg.toRo) r]))
   |_=>bad) σ u=some ((v,ob),u')) (hob:∀q∈ob,q):gF C (u' ++σ) a w c f v:=by
 subst hw;obtain⟨hpr,hpo⟩:r.res.plain=true/\r.outs.all (·.all CV.plain)=true:=by simpa [CallO.plain] using hpl
 obtain⟨as,ks⟩:=p;dsimp only at hA h;split at h
 case h_2=>exact(aD h).elim
 obtain⟨hide,own,outs',hform,hcon,hho,hbo,hown⟩:∃(hide own:Bool) (outs' :List (List CV)),Mr (eA own ks outs') σ u=some ((),u')/\(AbsCalls C.P f (as.map Arg.toRo) r/\v=cond hide r.res (r.res.mapC CV.rob)/\
  outs' =r.outs.map fun x=>cond hide x (x.map CV.rob))/\(own=true->hide=true)/\(aL as=true->hide=false/\own=false)/\(cG as=true->own=true):=by
  cases hb:aL as with
  |true=>
   rw [hb] at h;simp only [jT] at h;cases hO:cG as with
   |true=>rw [hO] at h;exact(aD h).elim
   |false=>
    rw [hO] at h;simp only [jF] at h;obtain⟨_,u1,h1,h2⟩:=aC h;obtain⟨e,rfl⟩:=aE h2;cases e;exact⟨false,false,_,h1,⟨hob _ (Zh.2 rfl),rfl,by simp⟩,by simp,by simp,by simp⟩
  |false=>
   rw [hb] at h;simp only [jF] at h;obtain⟨_,u1,h1,h2⟩:=aC h;obtain⟨e,rfl⟩:=aE h2;cases e;exact⟨true,cG as,_,h1,⟨hob _ (Zh.2 rfl),rfl,by simp⟩,by simp,by simp,by simp⟩
 obtain⟨hcon,rfl,rfl⟩:=hcon;unfold eA at hform;split at hform
 ·
  rename_i houts;obtain⟨_,rfl⟩:=aE hform;obtain⟨π,ρ,d,hp,hπ,hρ⟩:=xD;have hargs:ArgsAt (E.into π hide E.bx E.hdr) 0 (as.map Arg.toRo) (c.args.map a.eval).toList:=by
   rw [dI];exact kT hi hA (fun hb=>⟨(hbo hb).1,fun k c p=>hπ _⟩) (fun s hs i cs hg=>by cases hs) (fun s hs=>by cases hs)
  refine(hcon (E.into π hide E.bx E.hdr) _ (eT hp hi.env) (eS hi.bas) hargs).mono fun val w' hr=> ?_;obtain⟨E',rfl,hx⟩:=hr;exact sQ hi hp hπ hρ hx hpr
 ·
  rename_i s out houts;obtain⟨old,u1,h1,h2⟩:=aC hform;unfold cZ at h1;obtain⟨b2,u4,h7,h8⟩:=aC h1;obtain⟨rfl,rfl⟩:=bN h7;have h8' :St.get (u4++σ) (2*s+1)= .v true old/\u1=u4:=by
   split at h8
   ·rename_i hg;obtain⟨rfl,rfl⟩:=aE h8;exact⟨hg,rfl⟩
   ·exact(aD h8).elim
  obtain⟨hg,rfl⟩:=h8';obtain⟨hlen,h2⟩:=aQ h2;obtain⟨_,u5,h9,h10⟩:=aC h2;obtain rfl:=bG h9;have hu:u' =cond own [(aB,AV.none)] []++(2*s+1,.v true out)::u1:=by
   cases own with
   |true=>simp only [jT] at h10;obtain rfl:=bG h10;rfl
   |false=>simp only [jF] at h10;obtain⟨_,rfl⟩:=aE h10;rfl
  obtain⟨_,i,cs,hasi⟩:=hA.has s (Zh.2 rfl);obtain⟨π,ρ,d,hp,hπ,hρ⟩:=wZ s i own;have hpos:∀(i' :Nat) (cs' :List CV),as[i']? =some (.box cs')->i' =i:=fun i' cs' h=>hA.one i' i cs' cs h hasi;have hargs:ArgsAt (E.into π hide (fun _=>E.bx s) E.hdr) 0 (as.map Arg.toRo) (c.args.map a.eval).toList:=by
   rw [dI];refine kT hi hA (fun hb=>⟨(hbo hb).1,fun k c p=> ?_⟩) (fun s' hs i' cs' hg' => ?_) (fun s' hs i' => ?_)
   ·cases hq:π (.arr k c p) with
    |none=>rfl
    |some l=>
     rcases(hπ _ _).1 hq with ⟨h,_⟩|⟨h,_⟩
     ·cases h
     ·rw [(hbo hb).2] at h;cases h
   ·cases hs;obtain rfl:=hpos _ _ hg';exact⟨(hπ _ _).2 (.inl ⟨rfl,rfl⟩),fun ho c p=>(hπ _ _).2 (.inr ⟨hown ho,c,p,rfl,rfl⟩)⟩
   ·cases hs;rfl
  refine(hcon (E.into π hide (fun _=>E.bx s) E.hdr) _ (eT hp hi.env) (eS hi.bas) hargs).mono fun val w' hr=> ?_;obtain⟨E',rfl,hx⟩:=hr
  obtain⟨o,ho1,ho2⟩:=mV (cs:=cs.map CV.toBx) hx.outs (j:=i) (by rw [Zn,hasi];rfl) (fun i' cs' =>⟨fun h=>by
   rw [Zn,Z8] at h;obtain⟨y,hy,e⟩:=h;cases y with
   |val x=>cases e
   |gbox x=>cases e
   |box y=>exact hpos i' y hy,fun h=>by
   rw [Zn,Z8] at h;obtain⟨y,hy,e⟩:=h;cases y with
   |val x=>cases e
   |box x=>cases e
   |gbox x=>exact hA.ng i' x hy⟩)
  rw [ho1] at houts hpo;simp only [ZX,Ys,Y6,and_true] at houts;rw [hu,<-houts];rw [Zj] at ho2;exact sR hi (own:=own) hp hπ hρ rfl hg hx hpr (by simpa using hpo) ho2 hho
 ·exact(aD hform).elim
end
end Go.Ab
end
section
namespace Go.Ab
variable [Inhabited Lb]
theorem xC(s i:Nat):∃π ρ d,Pass π ρ d/\(∀l,π l=none)/\
 (∀l' l,ρ l' =some l↔(l= .box s/\l' = .box i)\/∃c p,l= .arr (.k (2*s+1)) c p/\l' = .arr (.k (2*i+1)) c p):=by
 obtain⟨π,ρ,d,h1,h2,h3⟩:=Pass.of_rel (fun _ _=>False) (fun l l' =>(l= .box s/\l' = .box i)\/∃c p,l= .arr (.k (2*s+1)) c p/\l' = .arr (.k (2*i+1)) c p) (by simp) (by simp)
  (by rintro l a b (⟨rfl,rfl⟩|⟨c,p,rfl,rfl⟩) (⟨h,rfl⟩|⟨c',p',h,rfl⟩) <;>first |rfl|(cases h;rfl) |cases h)
  (by rintro a b l (⟨rfl,rfl⟩|⟨c,p,rfl,rfl⟩) (⟨rfl,h⟩|⟨c',p',rfl,h⟩) <;>first |rfl|(cases h;rfl) |cases h) (by simp)
  (by rintro l j (⟨rfl,h⟩|⟨c,p,rfl,h⟩)
      ·exact⟨s,rfl⟩
      ·cases h) (by rintro j l (⟨h,rfl⟩|⟨c,p,h,rfl⟩)
                    ·exact⟨i,rfl⟩
                    ·cases h)
 exact⟨π,ρ,d,h1,fun l=>by cases h:π l with |none=>rfl|some x=>exact((h2 l x).1 h).elim,h3⟩
section
variable {C:Ctx} {σ:St} {a:Act} {E E' :Env} {u u' :Ups} {tt:TT} {π ρ d:Own->Option Own} {hide:Bool} {bx:Nat->Nat} {hdr:Nat->Value}
def Env.rebx(E:Env)(s b:Nat):Env:= { E with bx:=fun s' =>if s' =s then b else E.bx s' }
theorem xK(E:Env)(s b:Nat):Step E (E.rebx s b) (fun _ _=>False) (fun s' =>s' =s) False where
 ro:=fun b hb=>⟨fun _=>hb,fun o ho=>⟨rfl,ho⟩⟩
 own:=fun b k c p hb _=>⟨hb,rfl,rfl⟩
 bor:=fun _ b o ho=>⟨rfl,ho⟩
 box:=fun s' hs hd=>⟨by simp [Env.rebx,hd],hs,rfl⟩
 hdr:=rfl
theorem sP(hi:Inv C (St.get (u++σ)) a.tmps E){s m:Nat}(hp:Pass π ρ d)(hπ:∀l,π l=none)
 (hρ:∀l' l,ρ l' =some l↔(l= .box s/\l' = .box m)\/∃c p,l= .arr (.k (2*s+1)) c p/\l' = .arr (.k (2*m+1)) c p)
 {as:List Arg} {r:CallO} {v:Value} {cs:List CV} (hg:St.get (u++σ) (2*s+1)= .none) (hx:ExitR (E.into π hide bx hdr) E' as r v) (hpl:cs.all CV.plain=true)
 {b:Nat} (hat:bM E' m b cs):
 Hand C (((2*s+1,.v true (cond hide cs (cs.map CV.rob)))::u)++σ) a.tmps E'.w 0 (.v false [.ptr s 0]) (.pointer (some ⟨b,0,none⟩)):=by
 have hold:=hx.old;have hst:=fC (mu:=False) hp hi.env hold (fun _ b l l' _ h2=>by rw [hπ] at h2;cases h2);have hbk:=fB hp hi.env hx.env hx.size;have hdk:∀pl c,dkC ρ pl c->pl= .k (2*s+1):=by
  rintro pl c ⟨p,l',h⟩;rcases(hρ _ _).1 h with ⟨h,_⟩|⟨c',p',h,_⟩
  ·cases h
  ·cases h;rfl
 have hdb:∀s',dbC ρ s' ->s' =s:=by
  rintro s' ⟨l',h⟩;rcases(hρ _ _).1 h with ⟨h,_⟩|⟨c',p',h,_⟩
  ·cases h;rfl
  ·cases h
 have st2:=xK (E.back E' π ρ d) s b;have st:=(hst.trans st2).imp (dk' :=fun pl _=>pl= .k (2*s+1)) (db' :=fun s' =>s' =s) (mu' :=False) (fun k c h=>h.elim (hdk _ _) fun h=>h.elim) (fun s' h=>h.elim (hdb _) id) (fun h=>h.elim id id);have hnb:¬aA (St.get (u++σ)) s:=by rintro ⟨cs,h⟩;rw [hg] at h;cases h
 have hd:aA (St.get (((2*s+1,.v true (cond hide cs (cs.map CV.rob)))::u)++σ)) s:=⟨_,by show St.get ((2*s+1,_)::(u++σ)) _=_;rw [St.get_cons,Zw rfl]⟩;have hbx:∀s',aA (St.get (u++σ)) s' ->aA (St.get (((2*s+1,.v true (cond hide cs (cs.map CV.rob)))::u)++σ)) s' /\((E.back E' π ρ d).rebx s b).bx s' =E.bx s' :=by
  intro s' hs';have:s' ≠s:=by rintro rfl;exact hnb hs'
  exact⟨dQ (by intro e;exact this (by omega)) hs',by simp [Env.rebx,this,Env.back]⟩
 refine⟨(E.back E' π ρ d).rebx s b,rfl,hi.step st hx.os hx.tape hx.output hx.size (fun b' hlt h0=> ?_) hbk.new hbk.inj hbk.boxhw rfl hbx
  (fun t=> .inr ⟨?_,rfl⟩) (fun s' cs2 hs=> ?_),⟨by simp [Env.rebx],hd⟩,trivial⟩
 ·have h2:=(hi.old b' hlt h0).2.2;have hlt2:b' <E.w.heap.size:=ZC hlt hi.size;obtain⟨a1,a2,a3⟩:=hold b' hlt2 (by simp [Env.into,h2]);have hf:E.frame π b' :=⟨hlt2,by rw [h2];rfl⟩;exact⟨a1,by simp [Env.rebx,Env.back,hf],by simp [Env.rebx,Env.back,hf,h2]⟩
 ·show AWk _ _ _ (St.get ((2*s+1,_)::(u++σ)) _) _;rw [St.get_cons,Zf (by omega)];refine AWk.map (fun c x=>CW.stale (fun _ hd=> ?_) (fun k c hd=> ?_) (fun h=>h.elim)) _
  ·injection hd with hd;omega
  ·injection hd with hd;simp [hd]
 ·by_cases e:s' =s
  ·subst e;have e1:St.get ((2*s' +1,.v true (cond hide cs (cs.map CV.rob)))::(u++σ)) (2*s' +1)= .v true cs2:=hs;rw [St.get_cons,Zw rfl] at e1;injection e1 with _ e1;subst e1;obtain⟨h1,vals,ty,h2,h3⟩:=hat;refine .inl ⟨?_,vals,ty,?_,?_⟩
   ·have:=(cY (E:=E) (π:=π) (hide:=hide) (bx:=bx) (hdr:=hdr) (d:=d) hold h1 ((hρ _ _).2 (.inl ⟨rfl,rfl⟩))).1;have e:((E.back E' π ρ d).rebx s' b).bx s' =b:=by simp [Env.rebx]
    rw [e];exact this
   ·have e:((E.back E' π ρ d).rebx s' b).bx s' =b:=by simp [Env.rebx]
    rw [e];exact h2
   ·have key:VRs ((E.back E' π ρ d).rebx s' b) (aA (St.get (((2*s' +1,.v true (cond hide cs (cs.map CV.rob)))::u)++σ))) (.k (2*s' +1)) 0 (cs.map fun x=>cond hide x x.rob) vals.toList:=
     VRs.imp (fun j x v hx hv=>VRc.step st2 (fun s hs=>hs.elim) (by simp) (by simp) (by simp) (gJ (bxs:=fun _=>False) hold (Zu.1 hpl x hx) (fun p=>(hρ _ _).2 (.inr ⟨_,p,rfl,rfl⟩)) hv)) h3
    have e:(cs.map fun x=>cond hide x x.rob)=cond hide cs (cs.map CV.rob):=by cases hide <;>simp
    rwa [e] at key
  ·obtain⟨cs0,hc,rfl⟩:=eM (by omega) hs;refine .inr ⟨e,cs0,hc,CWs.map (fun c x=>CW.stale (fun _ hd=> ?_) (fun k c hd=> ?_) (fun h=>h.elim)) _ _⟩
   ·injection hd with hd;omega
   ·injection hd with hd;simp [hd]
theorem wM{w:World}{o:Oper}{v:AV}{ob:List Prop}(hi:Inv C (St.get ([]++σ)) a.tmps E)(hw:E.w=w){c:Call}{f:FuncId}{r:CallO}{cs:List CV}(hn:r.res.nbox=some cs)
 (h:Mr (l0 tt (AbsCalls C.P) o.dst c f r cs) σ []=some ((v,ob),u)) (hob:∀q∈ob,q):gF C (u++σ) a w c f v:=by
 subst hw;unfold l0 at h;split at h
 case h_2=>exact(aD h).elim
 rename_i dd hdst houts hlents;obtain⟨hpl,h⟩:=aQ h;obtain⟨p,u1,h1,h2⟩:=aC h;obtain⟨rfl,hA⟩:=iT hi _ _ _ _ h1;split at h2
 case h_2=>exact(aD h2).elim
 rename_i hks;obtain⟨y,u2,h3,h4⟩:=aC h2;obtain⟨rfl,rfl⟩:=bN h3;split at h4
 case h_2=>exact(aD h4).elim
 rename_i hg;obtain⟨_,u3,h5,h6⟩:=aC h4;obtain rfl:=bG h5;obtain⟨e,rfl⟩:=aE h6;cases e;have hcon:AbsCalls C.P f (p.1.map Arg.toRo) r:=hob _ (Zh.2 rfl);obtain⟨π,ρ,d,hp,hπ,hρ⟩:=xC dd (p.1.map Arg.toRo).length;have hargs:ArgsAt (E.into π (!aL p.1) E.bx E.hdr) 0 (p.1.map Arg.toRo) (c.args.map a.eval).toList:=by
  rw [dI];exact kT hi hA (fun hb=>⟨by rw [hb];rfl,fun k c p=>hπ _⟩) (fun s hs i cs hg=>by rw [hks] at hs;cases hs) (fun s hs=>by rw [hks] at hs;cases hs)
 refine(hcon (E.into π (!aL p.1) E.bx E.hdr) _ (eT hp hi.env) (eS hi.bas) hargs).mono fun val w' hr=> ?_;obtain⟨E',rfl,hx⟩:=hr;have hres:=hx.res;unfold ResAt at hres;rw [hn] at hres;obtain⟨b,rfl,hat⟩:=hres;have:=sP hi hp hπ hρ hg hx hpl hat;have e:(cond (!aL p.1) cs (cs.map CV.rob))=cond (aL p.1) (cs.map CV.rob) cs:=by cases aL p.1 <;>rfl
 rw [e] at this;exact this
end
end Go.Ab
end
section
namespace Go.Ab
variable [Inhabited Lb]
theorem pD{E E' :Env}{bxs bxs' :Nat->Prop}{dk:Pl->Nat->Prop}{db:Nat->Prop}{pl:Pl}{b:AV}{v:Value}(h:Step E E' dk db False)(hbx:∀s,bxs s->bxs' s/\E'.bx s=E.bx s)(hb:b.mvOk=true)
 (hd:∀c,¬dk pl c) (hv:VR E bxs pl b v):VR E' bxs' pl b v:=by
 refine AWk.vr h hbx ?_ hv
 have cw:∀(c:Nat) (x:CV),x.mvOk=true->CW dk False pl c x x:=fun c x hx=> .inr ⟨rfl,fun _=>hd c,fun k' c' hs=>by
  cases x with
  |sl f T xs=>cases f <;>first |exact hs.elim|cases hx
  |eref k c p i T y off=>cases hx
  |apd k c p T y=>cases hx
  |_=>exact hs.elim,fun _ h=>h⟩
 cases b with
 |v g cs=>
  refine⟨cs,rfl,?_⟩;have hall:∀x∈cs,x.mvOk=true:=Zu.1 hb;generalize 0=c;clear hv hb
  induction cs generalizing c with
  |nil=>exact .nil
  |cons x cs ih=>exact .cons (cw c x (hall x Zp)) (ih (fun y hy=>hall y (Zq _ hy)) _)
 |tup xs=>cases hb
 |none=>cases hb
section
variable {C:Ctx} {σ:St} {a:Act} {E:Env} {u u' :Ups} {tt:TT}
def dJ(n:Nat):Own->Option Own
 | .arr (.h j) c (x::p)=>if j=n then none else some (.arr (.h j) c (x::p))
 |l=>some l
theorem wI(n:Nat):RhoOk (dJ n) (fun pl _=>pl= .h n) where
 box:=fun _=>rfl
 id:=fun k c p h=>by
  unfold dJ;split
  ·rename_i j c' x p' e;injection e with e1 e2 e3;rw [Zf (fun e=>h (by rw [e1,e]))];rw [e1,e2,e3]
  ·rfl
 inj:=fun l1 l2 l h1 h2=>by
  unfold dJ at h1 h2;split at h1 <;>split at h2 <;>(repeat' split at h1) <;>(repeat' split at h2) <;>simp_all
 arr:=fun k c p s=>by
  unfold dJ;split
  ·split <;>simp
  ·rename_i h;intro e;cases e
theorem yS{G:Nat->AV}{tmps:Array Value}{n:Nat}{b:AV}{v:Value}(hi:Inv C G tmps E)(hok:b.mvOk=true)(hv:VR E (aA G) (.h n) b v):
 ∃E',E'.w=E.w/\E'.bx=E.bx/\Step E E' (fun pl _=>pl= .h n) (fun _=>False) False/\Inv C G tmps E' /\VR E' (aA G) (.h n) (b.mapC CV.toTip) v:=by
 have hr:=wI n;have hst:=fS (E:=E) hr;have cw:∀(q c:Nat) (x:CV),CW (fun pl _=>pl= .h n) False (.k q) c x x:=fun q c x=> .inr ⟨rfl,fun _ (h:Pl.k q= .h n)=>(by cases h),fun k' c' _ (h:Pl.k k' = .h n)=>(by cases h),fun _ h=>h⟩;refine⟨E.rel (dJ n),rfl,rfl,hst,hi.rel hr rfl (fun s hs=>hs) (fun t=> .inr ⟨?_,rfl⟩) (fun s cs' hs=> .inr ⟨cs',hs,?_⟩),?_⟩
 ·have:=AWk.map (dk:=fun pl _=>pl= .h n) (mu:=False) (pl:= .k (2*t)) (f:=id) (fun c x=>cw _ c x) (G (2*t))
  rwa [AV.mapC_id (f:=id) (fun _=>rfl)] at this
 ·have:=CWs.map (dk:=fun pl _=>pl= .h n) (mu:=False) (pl:= .k (2*s+1)) (f:=id) (fun c x=>cw _ c x) cs' 0;simpa using this
 ·refine VR.imp (fun j x v hx hv=> ?_) hv;have hxo:x.mvOk=true:=by
   cases b with
   |v g cs=>exact Zu.1 hok x hx
   |tup xs=>cases hok
   |none=>cases hok
  have tip:∀ {v:Value} {sz:Nat},Tip E (.arr (.h n) j []) v sz->Tip (E.rel (dJ n)) (.arr (.h n) j []) v sz:=fun h=>h.rel (f:=dJ n) rfl;have top:∀ {b:Nat},E.ow b=some (.arr (.h n) j [])->(E.rel (dJ n)).ow b=some (.arr (.h n) j []):=fun {b} h=>by simp [Env.rel,h,dJ]
  cases x with
  |sl f T xs=>
   cases f with
   |ro=>exact RdP.mono hv (fun p b o ho=>⟨rfl,ho.1,by simp [Env.rel,ho.2]⟩) (fun _ _ _ _=>trivial)
   |own=>
    refine RdP.mono hv (fun p b o ho=>⟨rfl,ho.1,fun hp=> ?_,fun hp=> ?_⟩) (fun p v sz ht hp=> ?_)
    ·subst hp;exact top ho.2
    ·cases p with
     |nil=>exact absurd rfl hp
     |cons y p=>simp [Env.rel,ho.2,dJ]
    ·subst hp;exact tip ht
   |tip=>
    refine RdP.mono hv (fun p b o ho=>⟨rfl,ho.1,fun hp=>by subst hp;exact top (ho.2.1 rfl),fun hp=>by simp [Env.rel,ho.2.2 hp]⟩) (fun p v sz ht hp=> ?_);have:=ht hp;subst hp;exact tip this
   |_=>cases hxo
  |ptr s off=>cases hxo
  |clo k ss=>cases hxo
  |swp sf n h0 s=>cases hxo
  |eptr f T x off=>cases hxo
  |eref k c p i T x off=>cases hxo
  |apd k c p T xs=>cases hxo
  |int k m=>exact hv
  |bool b=>exact hv
  |str s=>exact hv
  |val s=>exact hv
  |undef=>exact hv
theorem yO{b:AV}(h:b.mvOk=true):(b.mapC CV.toTip).mvOk=true:=by
 cases b with
 |v g cs=>
  refine Zu.2 fun x hx=> ?_;obtain⟨y,hy,rfl⟩:=Zk.1 hx;have:=Zu.1 h y hy;cases y with
  |sl f T xs=>cases f <;>first |rfl|exact this
  |_=>exact this
 |tup xs=>cases h
 |none=>cases h
theorem wA(hi:Inv C (St.get (u++σ)) a.tmps E):∀(xs:List Operand) (tys:List TypeId) (i:Nat) (ms:List (Option AV)) (u' :Ups),Mr (lU tt xs tys) σ u=some (ms,u')->
 ms.length=xs.length/\(ms.all Option.isNone=true->u' =u)/\∃E1,E1.w=E.w/\E1.bx=E.bx/\Inv C (St.get (u' ++σ)) a.tmps E1/\
  ∀j b,ms[j]? =some (some b)->b.mvOk=true/\∃x,xs[j]? =some x/\VR E1 (aA (St.get (u' ++σ))) (.h (i+j+1)) b (a.eval x):=by
 intro xs
 induction xs with
 |nil=>
  intro tys i ms u' h;obtain⟨rfl,rfl⟩:=aE h;exact⟨rfl,fun _=>rfl,E,rfl,rfl,hi,fun j b h=>by simp at h⟩
 |cons x xs ih=>
  intro tys i ms u' h;obtain⟨r,u1,h1,h2⟩:=aC h;obtain⟨g1,g2,E1,g3,g4,g5,g6⟩:=ih _ (i+1) r u1 h1;obtain⟨q,u2,h3,h4⟩:=aC h2;have hu:u2=u1:=by
   unfold o9 at h3;split at h3
   ·obtain⟨_,u3,h5,h6⟩:=aC h3;obtain⟨_,rfl⟩:=bN h5;exact(aE h6).2
   ·exact(aE h3).2
   ·exact(aE h3).2
  subst hu;cases q with
  |false=>
   obtain⟨rfl,rfl⟩:=aE h4;refine⟨by simp [g1],fun hn=>g2 (by simpa using hn),E1,g3,g4,g5,fun j b hj=> ?_⟩;cases j with
   |zero=>simp at hj
   |succ j=>
    obtain⟨p1,y,p2,p3⟩:=g6 j b (by simpa using hj);exact⟨p1,y,by simpa using p2,by rw [show i+(j+1)+1=i+1+j+1 from by omega];exact p3⟩
  |true=>
   rw [jT] at h4;obtain⟨b,u3,h5,h6⟩:=aC h4;obtain⟨hok,h6⟩:=aQ h6;obtain⟨e,rfl⟩:=aE h6;subst e;obtain⟨E2,e1,e2,e3,e4,e5,e6⟩:=d9 g5 (i+1) h5;obtain⟨E3,f1,f2,f3,f4,f5⟩:=yS e4 hok e5;refine⟨by simp [g1],fun hn=>by simp at hn,E3,f1.trans (e1.trans g3),f2.trans (e2.trans g4),f4,fun j b' hj=> ?_⟩;cases j with
   |zero=>
    simp at hj;subst hj;exact⟨yO hok,x,rfl,f5⟩
   |succ j=>
    obtain⟨p1,y,p2,p3⟩:=g6 j b' (by simpa using hj);refine⟨p1,y,by simpa using p2,?_⟩;rw [show i+(j+1)+1=i+1+j+1 from by omega];refine pD f3 (fun s hs=>⟨hs,by rw [f2]⟩) p1 (fun c hd=> ?_) (pD e3 (fun s hs=>⟨e6 s hs,by rw [e2]⟩) p1 (fun c hd=> ?_) p3)
    ·injection hd with hd;omega
    ·rcases hd with ⟨t',_,hd⟩|hd
     ·cases hd
     ·injection hd with hd;omega
theorem jZ:∀ {as:List Arg} {ms:List (Option AV)} {j:Nat} {x:Arg} {m:Option AV},as[j]? =some x->ms[j]? =some m->(c8 as ms)[j]? =some (match m with |some b=> .val b|none=>x.toRo):=by
 intro as
 induction as with
 |nil=>intro ms j x m h;simp at h
 |cons y as ih=>
  intro ms j x m h1 h2;cases ms with
  |nil=>simp at h2
  |cons n ms=>
   cases j with
   |zero=>
    simp at h1 h2;subst h1 h2;cases n <;>rfl
   |succ j=>
    have:=ih (by simpa using h1) (by simpa using h2);cases n <;>simpa [c8] using this
theorem j9:∀ {as:List Arg} {ms:List (Option AV)},as.length=ms.length->(c8 as ms).length=as.length:=by
 intro as
 induction as with
 |nil=>intro ms h;cases ms <;>simp_all [c8]
 |cons y as ih=>
  intro ms h;cases ms with
  |nil=>simp at h
  |cons n ms=>
   have:=ih (ms:=ms) (by simpa using h);cases n <;>simp [c8,this]
theorem pT(b:Bool)(s i:Nat):∃π ρ d,Pass π ρ d/\
 (∀l l',π l=some l' ↔(b=true/\l= .box s/\l' = .box i)\/(b=true/\∃c p,l= .arr (.k (2*s+1)) c p/\l' = .arr (.k (2*i+1)) c p)\/(∃j c p,l= .arr (.h (j+1)) c p/\l' = .arr (.k (2*j)) c p))/\
 (∀l' l,ρ l' =some l↔(b=true/\l= .box s/\l' = .box i)\/(b=true/\∃c p,l= .arr (.k (2*s+1)) c p/\l' = .arr (.k (2*i+1)) c p)\/(∃j c p,l= .arr (.h (j+1)) c p/\l' = .arr (.k (2*j)) c p)\/(∃c p,l= .arr (.h 0) c p/\l' = .arr (.h 0) c p)):=by
 refine Pass.of_rel _ _ ?_ ?_ ?_ ?_ ?_ ?_ ?_
 ·rintro l a b (⟨_,rfl,rfl⟩|⟨_,c,p,rfl,rfl⟩|⟨j,c,p,rfl,rfl⟩) (⟨_,h,rfl⟩|⟨_,c',p',h,rfl⟩|⟨j',c',p',h,rfl⟩) <;>first |rfl|cases h;first |rfl|skip
 ·rintro a b l (⟨_,rfl,rfl⟩|⟨_,c,p,rfl,rfl⟩|⟨j,c,p,rfl,rfl⟩) (⟨_,rfl,h⟩|⟨_,c',p',rfl,h⟩|⟨j',c',p',rfl,h⟩) <;>first |rfl|(injection h with h1 h2 h3;injection h1 with h1;first |(exfalso;omega) |(obtain rfl:j=j' :=(by omega);subst h2 h3;rfl) |(subst h2 h3;rfl)) |cases h
 ·rintro l a b (⟨_,rfl,rfl⟩|⟨_,c,p,rfl,rfl⟩|⟨j,c,p,rfl,rfl⟩|⟨c,p,rfl,rfl⟩) (⟨_,h,rfl⟩|⟨_,c',p',h,rfl⟩|⟨j',c',p',h,rfl⟩|⟨c',p',h,rfl⟩) <;>first |rfl|cases h;first |rfl|skip
 ·rintro a b l (⟨_,rfl,rfl⟩|⟨_,c,p,rfl,rfl⟩|⟨j,c,p,rfl,rfl⟩|⟨c,p,rfl,rfl⟩) (⟨_,rfl,h⟩|⟨_,c',p',rfl,h⟩|⟨j',c',p',rfl,h⟩|⟨c',p',rfl,h⟩) <;>first |rfl|(injection h with h1 h2 h3;injection h1 with h1;first |(exfalso;omega) |(obtain rfl:j=j' :=(by omega);subst h2 h3;rfl) |(subst h2 h3;rfl)) |cases h
 ·rintro a b (h|h|h)
  ·exact .inl h
  ·exact .inr (.inl h)
  ·exact .inr (.inr (.inl h))
 ·rintro l j (⟨_,rfl,h⟩|⟨_,c,p,rfl,h⟩|⟨j',c,p,rfl,h⟩|⟨c,p,rfl,h⟩)
  ·exact⟨s,rfl⟩
  ·cases h
  ·cases h
  ·cases h
 ·rintro j l (⟨_,h,rfl⟩|⟨_,c,p,h,rfl⟩|⟨j',c,p,h,rfl⟩|⟨c,p,h,rfl⟩)
  ·exact⟨i,rfl⟩
  ·cases h
  ·cases h
  ·cases h
theorem wH:∀ {as:List Arg} {ms:List (Option AV)} {j:Nat} {cs:List CV} {m:Option AV},gY as ms=true->as[j]? =some (.box cs)->ms[j]? =some m->m=none:=by
 intro as
 induction as with
 |nil=>intro ms j cs m _ h;simp at h
 |cons y as ih=>
  intro ms j cs m hb h1 h2;cases ms with
  |nil=>simp at h2
  |cons n ms=>
   cases j with
   |zero=>
    simp at h1 h2;subst h1 h2;cases n with
    |none=>rfl
    |some b=>cases hb
   |succ j=>
    refine ih (ms:=ms) ?_ (by simpa using h1) (by simpa using h2);cases y <;>cases n <;>first |exact hb|cases hb
theorem pE{π:Own->Option Own}{hdr:Nat->Value}(hi:Inv C (St.get (u++σ)) a.tmps E){as:List Arg}{ks:List Nat}{vs:List Value}(h:ArgsOk E (St.get (u++σ)) as ks vs){ms:List (Option AV)}(hl:as.length=ms.length)
 (hnb:aL as=false) (hmv:∀j b v,ms[j]? =some (some b)->vs[j]? =some v->b.mvOk=true/\VR E (aA (St.get (u++σ))) (.h (j+1)) b v)
 (hπ:∀j c p,π (.arr (.h (j+1)) c p)=some (.arr (.k (2*j)) c p))
 (hbox:∀s,ks=[s]->∀(i:Nat) (cs:List CV),as[i]? =some (.box cs)->π (.box s)=some (.box i)/\∀c p,π (.arr (.k (2*s+1)) c p)=some (.arr (.k (2*i+1)) c p)) {bx:Nat->Nat} (hbx:∀s,ks=[s]->∀i,bx i=E.bx s):
 ArgsAt (E.into π true bx hdr) 0 (c8 as ms) vs:=by
 refine mT (by rw [j9 hl,h.len]) fun j x v hj hv=> ?_;have hjl:j<as.length:=by rw [<-j9 hl];exact(Zt.1 hj).1
 have hy:as[j]? =some as[j]:=Zx hjl;have hm:ms[j]? =some (ms[j]'(by omega)):=Zx (by omega);generalize as[j]=y at hy;generalize (ms[j]'(by omega))=m at hm;rw [jZ hy hm] at hj;rw [Zj];cases m with
 |some b=>
  cases hj;obtain⟨hok,hvr⟩:=hmv j b v hm hv;show VR _ aJ (.k (2*j)) b v;refine VR.imp0 (fun i x v hx hv=> ?_) hvr;have hxo:x.mvOk=true:=by
   cases b with
   |v g cs=>exact Zu.1 hok x hx
   |tup xs=>cases hok
   |none=>cases hok
  cases x with
  |sl f T xs=>
   cases f with
   |ro=>exact aU hi.env (.ro T xs) hv
   |own=>exact aU hi.env (.own T xs (fun p=>hπ j i p)) hv
   |tip=>exact aU hi.env (.tip T xs (fun p=>hπ j i p)) hv
   |_=>cases hxo
  |ptr s off=>cases hxo
  |clo k ss=>cases hxo
  |swp sf n h0 s=>cases hxo
  |eptr f T x off=>cases hxo
  |eref k c p i T x off=>cases hxo
  |apd k c p T xs=>cases hxo
  |_=>exact aU hi.env (.same _ trivial) hv
 |none=>
  cases hj;cases y with
  |val x=>
   obtain⟨⟨g,cs,rfl⟩,hvr⟩:=h.val j x v hy hv;exact qV hi.env (fun hc=>by rw [iO (.inl hy) hc] at hnb;cases hnb) hvr
  |box cs=>
   obtain⟨s,hks,rfl,hg⟩:=h.box j cs v hy hv;obtain⟨h1,vals,ty,h2,h3⟩:=hi.box s cs hg;obtain⟨p1,p2⟩:=hbox s hks j cs hy;have hbb:=hbx s hks j;show _/\bM _ _ _ _;refine⟨by rw [show(E.into π true bx hdr).bx j=E.bx s from hbb],by rw [show(E.into π true bx hdr).bx j=E.bx s from hbb];simp [Env.into,h1,p1],vals,ty,by rw [show(E.into π true bx hdr).bx j=E.bx s from hbb];exact h2,?_⟩;exact qU hi.env (fun hc=>by rw [iO (g:=true) (.inr hy) hc] at hnb;cases hnb) (fun _=>p2) h3
  |gbox cs=>exact(h.ng j cs hy).elim
variable {E' :Env} {π ρ d:Own->Option Own} {bx:Nat->Nat} {hdr:Nat->Value}
theorem nK(hi:Inv C (St.get (u++σ)) a.tmps E){b:Bool}{s i:Nat}(hp:Pass π ρ d)
 (hρ:∀l' l,ρ l' =some l↔(b=true/\l= .box s/\l' = .box i)\/(b=true/\∃c p,l= .arr (.k (2*s+1)) c p/\l' = .arr (.k (2*i+1)) c p)\/(∃j c p,l= .arr (.h (j+1)) c p/\l' = .arr (.k (2*j)) c p)\/(∃c p,l= .arr (.h 0) c p/\l' = .arr (.h 0) c p))
 {as:List Arg} {r:CallO} {v:Value} {cs out:List CV} (hg:b=true->St.get (u++σ) (2*s+1)= .v true cs)
 (hx:ExitR (E.into π true bx hdr) E' as r v) (hpl:r.res.plain=true) (hout:out.all CV.plain=true) (hat:b=true->bM E' i (E.bx s) out):
 Hand C (((aB,.none)::(cond b [(2*s+1,.v true out)] []++u))++σ) a.tmps E'.w 0 r.res v:=by
 have hold:=hx.old;have hst:=fC (mu:=True) hp hi.env hold (fun hm=>absurd trivial hm);have hbk:=fB hp hi.env hx.env hx.size;have hdk:∀pl c,dkC ρ pl c->(∃n,pl= .h n)\/(b=true/\pl= .k (2*s+1)):=by
  rintro pl c ⟨p,l',h⟩;rcases(hρ _ _).1 h with ⟨_,h,_⟩|⟨hb,c',p',h,_⟩|⟨j,c',p',h,_⟩|⟨c',p',h,_⟩
  ·cases h
  ·cases h;exact .inr ⟨hb,rfl⟩
  ·cases h;exact .inl ⟨_,rfl⟩
  ·cases h;exact .inl ⟨_,rfl⟩
 have hdb:∀s',dbC ρ s' ->b=true/\s' =s:=by
  rintro s' ⟨l',h⟩;rcases(hρ _ _).1 h with ⟨hb,h,_⟩|⟨_,c',p',h,_⟩|⟨j,c',p',h,_⟩|⟨c',p',h,_⟩
  ·cases h;exact⟨hb,rfl⟩
  ·cases h
  ·cases h
  ·cases h
 generalize hUdef:((aB,AV.none)::(cond b [(2*s+1,AV.v true out)] []++u))=U;have hplo:∀z∈out,z.stale [aB] true=z:=by
  intro z hz;have:=Zu.1 hout z hz;cases z with
  |sl f T xs=>cases f <;>first |rfl|cases this
  |_=>first |rfl|cases this
 have hG:∀q,St.get (U++σ) q=if aB=q then .none else if b=true/\2*s+1=q then .v true out else
  (St.get (u++σ) q).mapC (CV.stale (cond b [aB,2*s+1] [aB]) true):=by
  intro q;have ne:(2*s+1).beq aB=false:=by
   cases h:(2*s+1).beq aB with
   |false=>rfl
   |true=>have:=Zl h;unfold aB at this;omega
  subst hUdef;show St.get ((aB,_)::((cond b [(2*s+1,AV.v true out)] []++u)++σ)) q=_;rw [St.get_cons];by_cases h1:aB=q
  ·simp [h1]
  ·simp only [h1,if_false];have hbeq:aB.beq aB=true:=by unfold aB;rfl
   rw [hbeq];cases b with
   |false=>
    simp only [jF,jM,Yg,false_and,if_false]
   |true=>
    simp only [jT,jO,jM,true_and];rw [St.get_cons];by_cases h2:2*s+1=q
    ·simp only [h2,ZB];have:∀l:List CV,(∀z∈l,z.stale [aB] true=z)->l.map (CV.stale [aB] true)=l:=fun l hl=>by
      conv=>rhs;rw [<-Xp l]
      exact ZO hl
     exact Zd (AV.v true) (this _ hplo)
    ·simp only [h2,if_false,ne];rw [AV.mapC_comp];exact Zd (fun f=>(St.get (u++σ) q).mapC f) (funext fun z=>CV.stale_stale z (fun q=>by simp [YO]) rfl)
 have hbxs:∀s',aA (St.get (u++σ)) s' ->aA (St.get (U++σ)) s' /\(E.back E' π ρ d).bx s' =E.bx s' :=by
  intro s' hs;refine⟨?_,rfl⟩;obtain⟨ys,hys⟩:=hs;unfold aA;rw [hG,Zf (by unfold aB;omega)];split
  ·exact⟨_,rfl⟩
  ·rw [hys];exact⟨_,rfl⟩
 have cw:∀(q j:Nat) (z:CV),(b=true->q≠2*s+1)->CW (dkC ρ) True (.k q) j (z.stale (cond b [aB,2*s+1] [aB]) true) z:=by
  intro q j z h2;refine CW.stale (fun _ hd=> ?_) (fun k' c' hd=> ?_) (fun _=>rfl)
  ·rcases hdk _ _ hd with ⟨n,h⟩|⟨hb,h⟩
   ·cases h
   ·cases h;exact h2 hb rfl
  ·rcases hdk _ _ hd with ⟨n,h⟩|⟨hb,h⟩
   ·cases h
   ·cases h;rw [hb];simp
 have hres:VR (E.back E' π ρ d) (aA (St.get (U++σ))) (.h 0) r.res v:=by
  have:=iG (E:=E) (π:=π) (hide:=true) (bx:=bx) (hdr:=hdr) (d:=d) (bxs:=aA (St.get (U++σ))) hold hpl (fun c p=>(hρ _ _).2 (.inr (.inr (.inr ⟨c,p,rfl,rfl⟩)))) (hx.res.vr (fN hpl));exact this
 refine⟨E.back E' π ρ d,rfl,hi.step hst hx.os hx.tape hx.output hx.size (fun b hlt h0=> ?_) hbk.new hbk.inj hbk.boxhw rfl hbxs
  (fun t=> .inr ⟨?_,rfl⟩) (fun s' cs' hs=> ?_),hres⟩
 ·have h2:=(hi.old b hlt h0).2.2;have hlt2:b<E.w.heap.size:=ZC hlt hi.size;obtain⟨a1,a2,a3⟩:=hold b hlt2 (by simp [Env.into,h2]);have hf:E.frame π b:=⟨hlt2,by rw [h2];rfl⟩;exact⟨a1,by simp [Env.back,hf],by simp [Env.back,hf,h2]⟩
 ·rw [hG];split
  ·trivial
  ·rw [Zf (fun h=>by have:=h.2;omega)];exact AWk.map (fun c z=>cw _ c z (fun _=>by omega)) _
 ·rw [hG,Zf (by unfold aB;omega)] at hs;by_cases hss:b=true/\s' =s
  ·obtain⟨hb,hss⟩:=hss;subst hss;rw [Zw ⟨hb,rfl⟩] at hs;injection hs with _ hs;subst hs;obtain⟨h1,vals,ty,h2,h3⟩:=hat hb;refine .inl ⟨(cY hold h1 ((hρ _ _).2 (.inl ⟨hb,rfl,rfl⟩))).1,vals,ty,h2,?_⟩
   have key:VRs (E.back E' π ρ d) (aA (St.get (U++σ))) (.k (2*s' +1)) 0 (out.map fun x=>cond true x x.rob) vals.toList:=
    VRs.imp (fun j x v hx hv=>gJ hold (Zu.1 hout x hx) (fun p=>(hρ _ _).2 (.inr (.inl ⟨hb,_,p,rfl,rfl⟩))) hv) h3
   simpa using key
  ·rw [Zf (fun h=>hss ⟨h.1,by have:=h.2;omega⟩)] at hs;cases hq:St.get (u++σ) (2*s' +1) with
   |v g' cs0=>
    rw [hq] at hs;injection hs with hs1 hs2;subst hs1 hs2;exact .inr ⟨fun h=>hss (hdb _ h),cs0,rfl,CWs.map (fun c z=>cw _ c z (fun hb e=>hss ⟨hb,by omega⟩)) _ _⟩
   |tup xs=>rw [hq] at hs;cases hs
   |none=>rw [hq] at hs;cases hs
theorem wB{w:World}{v:AV}{ob:List Prop}(hi:Inv C (St.get ([]++σ)) a.tmps E)(hw:E.w=w){c:Call}{f:FuncId}{r:CallO}
 (h:Mr (cond r.plain (lV tt (AbsCalls C.P) c f r) bad) σ []=some ((v,ob),u)) (hob:∀q∈ob,q):gF C (u++σ) a w c f v:=by
 obtain⟨hpl,h⟩:=aQ h;unfold lV at h;obtain⟨ms,u1,h1,h2⟩:=aC h;obtain⟨hml,hmn,E1,e1,e2,hi1,hmv⟩:=wA hi _ _ 0 _ _ h1;obtain⟨p,u2,h3,h4⟩:=aC h2;cases hn:ms.all Option.isNone with
 |true=>
  rw [hn,jT] at h4;obtain rfl:=hmn hn;obtain⟨rfl,hA⟩:=iT hi _ _ _ _ h3;exact iU hi hw hpl hA h4 hob
 |false=>
  rw [hn,jF] at h4;obtain⟨rfl,hA⟩:=iT hi1 _ _ _ _ h3;cases hnb:aL p.1|| !gY p.1 ms with
  |true=>rw [hnb] at h4;exact(aD h4).elim
  |false=>
  rw [hnb,jF] at h4;obtain⟨hb1,hb2⟩:=ZR.1 hnb;have hb2:gY p.1 ms=true:=by simpa using hb2
  obtain⟨hpr,hpo⟩:r.res.plain=true/\r.outs.all (·.all CV.plain)=true:=by simpa [CallO.plain] using hpl
  split at h4
  case h_2=>exact(aD h4).elim
  obtain⟨_,u3,h5,h6⟩:=aC h4;obtain⟨_,u4,h7,h8⟩:=aC h6;obtain rfl:=bG h7;obtain⟨e8,rfl⟩:=aE h8;cases e8;have hcon:AbsCalls C.P f (c8 p.1 ms) r:=hob _ (Zh.2 rfl);have hlen:p.1.length=ms.length:=by rw [hA.len,hml];simp
  have hmv' :∀j b v,ms[j]? =some (some b)->(c.args.toList.map a.eval)[j]? =some v->b.mvOk=true/\VR E1 (aA (St.get (u2++σ))) (.h (j+1)) b v:=by
   intro j b v hj hv;obtain⟨q1,x,q2,q3⟩:=hmv j b hj;rw [Zn,q2] at hv;cases hv;rw [Zj] at q3;exact⟨q1,q3⟩
  subst hw;rw [<-e1];obtain⟨as,ks⟩:=p;dsimp only at*;unfold eA at h5;split at h5
  ·
   rename_i houts;obtain⟨_,rfl⟩:=aE h5;obtain⟨π,ρ,d,hp,hπ,hρ⟩:=pT false 0 0;have hargs:ArgsAt (E1.into π true E1.bx E1.hdr) 0 (c8 as ms) (c.args.map a.eval).toList:=by
    rw [dI];exact pE hi1 hA hlen hb1 hmv' (fun j c p=>(hπ _ _).2 (.inr (.inr ⟨j,c,p,rfl,rfl⟩))) (fun s hs=>by cases hs) (fun s hs=>by cases hs)
   refine(hcon (E1.into π true E1.bx E1.hdr) _ (eT hp hi1.env) (eS hi1.bas) hargs).mono fun val w' hr=> ?_;obtain⟨E',rfl,hx⟩:=hr;exact nK (b:=false) (s:=0) (i:=0) (cs:=[]) (out:=[]) hi1 hp hρ (fun h=>by cases h) hx hpr rfl (fun h=>by cases h)
  ·
   rename_i s out houts;obtain⟨old,u5,h9,h10⟩:=aC h5;unfold cZ at h9;obtain⟨b2,u6,h11,h12⟩:=aC h9;obtain⟨rfl,rfl⟩:=bN h11;have h12' :St.get (u6++σ) (2*s+1)= .v true old/\u5=u6:=by
    split at h12
    ·rename_i hg;obtain⟨rfl,rfl⟩:=aE h12;exact⟨hg,rfl⟩
    ·exact(aD h12).elim
   obtain⟨hg,rfl⟩:=h12';obtain⟨hlen2,h10⟩:=aQ h10;obtain⟨_,u7,h13,h14⟩:=aC h10;obtain rfl:=bG h13;obtain⟨_,rfl⟩:=aE h14;obtain⟨_,i,cs,hasi⟩:=hA.has s (Zh.2 rfl);obtain⟨π,ρ,d,hp,hπ,hρ⟩:=pT true s i;have hpos:∀(i' :Nat) (cs' :List CV),as[i']? =some (.box cs')->i' =i:=fun i' cs' h=>hA.one i' i cs' cs h hasi;have hil:i<as.length:=(Zt.1 hasi).1;have hmi:ms[i]? =some none:=by
    have hm:ms[i]? =some (ms[i]'(by omega)):=Zx (by omega);rw [hm,wH hb2 hasi hm]
   have hargs:ArgsAt (E1.into π true (fun _=>E1.bx s) E1.hdr) 0 (c8 as ms) (c.args.map a.eval).toList:=by
    rw [dI];refine pE hi1 hA hlen hb1 hmv' (fun j c p=>(hπ _ _).2 (.inr (.inr ⟨j,c,p,rfl,rfl⟩))) (fun s' hs i' cs' hg' => ?_) (fun s' hs i' => ?_)
    ·cases hs;obtain rfl:=hpos _ _ hg';exact⟨(hπ _ _).2 (.inl ⟨rfl,rfl,rfl⟩),fun c p=>(hπ _ _).2 (.inr (.inl ⟨rfl,c,p,rfl,rfl⟩))⟩
    ·cases hs;rfl
   refine(hcon (E1.into π true (fun _=>E1.bx s) E1.hdr) _ (eT hp hi1.env) (eS hi1.bas) hargs).mono fun val w' hr=> ?_;obtain⟨E',rfl,hx⟩:=hr
   obtain⟨o,ho1,ho2⟩:=mV (cs:=cs.map CV.toBx) hx.outs (j:=i) (jZ hasi hmi) (fun i' cs' =>⟨fun h=>by
    have hl' :i' <as.length:=by rw [<-j9 hlen];exact(Zt.1 h).1
    have hy:as[i']? =some as[i']:=Zx hl';have hm:ms[i']? =some (ms[i']'(by omega)):=Zx (by omega);generalize as[i']=y at hy;generalize (ms[i']'(by omega))=m at hm;rw [jZ hy hm] at h;cases m with
    |some b=>cases h
    |none=>
     cases y with
     |val x=>cases h
     |gbox y=>exact(hA.ng i' y hy).elim
     |box y=>exact hpos i' y hy,fun h=>by
    have hl' :i' <as.length:=by rw [<-j9 hlen];exact(Zt.1 h).1
    have hy:as[i']? =some as[i']:=Zx hl';have hm:ms[i']? =some (ms[i']'(by omega)):=Zx (by omega);generalize as[i']=y at hy;generalize (ms[i']'(by omega))=m at hm;rw [jZ hy hm] at h;cases m with
    |some b=>cases h
    |none=>
     cases y with
     |val x=>cases h
     |box y=>cases h
     |gbox y=>exact hA.ng i' y hy⟩)
   rw [ho1] at houts hpo;cases houts;rw [Zj] at ho2;exact nK (b:=true) (cs:=old) hi1 hp hρ (fun _=>hg) hx hpr (by simpa using hpo) (fun _=>ho2)
  ·exact(aD h5).elim
end
end Go.Ab
end
section
namespace Go.Ab
variable [Inhabited Lb]
def cB:List CV->List Value->List Value
 | .sl (.al _ _ _) _ _::r,v::vs=>v::cB r vs
 |_::r,_::vs=>cB r vs
 |_,_=> []
def cellsOf(g:Bool)(v:Value):List Value:=
 match g with
 |true=>match v with | .agg a=>a.toList|_=> []
 |false=> [v]
def dR:List Arg->List Value->List Value
 | .val (.v g cs)::r,v::vs=>cB cs (cellsOf g v)++dR r vs
 |_::r,_::vs=>dR r vs
 |_,_=> []
theorem dW{E:Env}{bxs:Nat->Prop}{pl:Pl}{c:Nat}{g:Bool}{cs:List CV}{v:Value}:VR1 E bxs pl c g cs v↔VRs E bxs pl c cs (cellsOf g v)/\(g=true->∃a,v= .agg a):=by
 cases g with
 |true=>
  constructor
  ·rintro ⟨vs,rfl,h⟩;exact⟨h,fun _=>⟨vs,rfl⟩⟩
  ·rintro ⟨h,h2⟩;obtain⟨a,rfl⟩:=h2 rfl;exact⟨a,rfl,h⟩
 |false=>exact⟨fun h=>⟨h,fun h=>by cases h⟩,fun h=>h.1⟩
def LentPass(π:Own->Option Own)(hdr:Nat->Value)(off:Nat)(L:List aH)(Tg:List (Nat×Nat)):Prop:=
 ∀(n:Nat) (z:aH) (t:Nat×Nat),L[n]? =some z->Tg[n]? =some t->(∀m c,hdr (off+n)≠ .slice none m c)->∀q,π (.arr (.k z.1) z.2.1 (z.2.2.1++q))=some (.arr (.k t.1) t.2 q)
def HdrOk(hdr:Nat->Value)(off:Nat)(H:List Value):Prop:=∀(n:Nat) (v:Value),H[n]? =some v->hdr (off+n)=v
theorem LentPass.tail{π:Own->Option Own}{hdr:Nat->Value}{off:Nat}{z:aH}{t:Nat×Nat}{L:List aH}{Tg:List (Nat×Nat)}(h:LentPass π hdr off (z::L) (t::Tg)):LentPass π hdr (off+1) L Tg:=
 fun n z t h1 h2 h3 q=>h (n+1) z t (by simpa using h1) (by simpa using h2) (by rw [show off+(n+1)=off+1+n from by omega];exact h3) q
theorem HdrOk.tail{hdr:Nat->Value}{off:Nat}{v:Value}{H:List Value}(h:HdrOk hdr off (v::H)):HdrOk hdr (off+1) H:=
 fun n v h1=>by rw [show off+1+n=off+(n+1) from by omega];exact h (n+1) v (by simpa using h1)
theorem oV:∀ {cs:List CV} {m k c:Nat},(aV k c (aM m cs).1).length=(aM m cs).2.length:=by
 intro cs
 induction cs with
 |nil=>intros;rfl
 |cons x cs ih=>
  intro m k c;cases x with
  |sl f T xs=>
   cases f with
   |al k1 c1 p1=>simp [aM,aV,ih]
   |own=>cases xs <;>simp [aM,aV,CV.toRo,ih]
   |_=>simp [aM,aV,CV.toRo,ih]
  |_=>simp [aM,aV,CV.toRo,ih]
theorem oU:∀ {cs:List CV} {m:Nat} {vs:List Value},cs.length=vs.length->(cB cs vs).length=(aM m cs).2.length:=by
 intro cs
 induction cs with
 |nil=>intro m vs h;cases vs <;>simp_all [cB,aM]
 |cons x cs ih=>
  intro m vs h;cases vs with
  |nil=>simp at h
  |cons v vs=>
   have h' :cs.length=vs.length:=by simpa using h
   cases x with
   |sl f T xs=>cases f <;>simp [aM,cB,ih h'] <;>exact ih h'
   |_=>simp [aM,cB] ;exact ih h'
section
variable {E:Env} {π:Own->Option Own} {hide:Bool} {bx:Nat->Nat} {hdr:Nat->Value} {bxs:Nat->Prop}
theorem vK(he:EnvOk E){pl:Pl}{k:Nat}:∀ {cs:List CV} {vals:List Value} {m c0:Nat},VRs E bxs pl c0 cs vals->(∀x∈cs,x.isBor=false)->
 LentPass π hdr m (aM m cs).2 (aV k c0 (aM m cs).1)->HdrOk hdr m (cB cs vals)->VRs (E.into π hide bx hdr) aJ (.k k) c0 (aM m cs).1 vals:=by
 intro cs
 induction cs with
 |nil=>intro vals m c0 h _ _ _;cases vals <;>simp_all [VRs,aM]
 |cons x cs ih=>
  intro vals m c0 h hb hp hh;cases vals with
  |nil=>exact h.elim
  |cons v vals=>
   have hb' :∀x∈cs,x.isBor=false:=fun y hy=>hb y (Zq _ hy);have hx:=hb x Zp;obtain⟨h1,h2⟩:=h;cases x with
   |sl f T xs=>
    cases f with
    |al k1 c1 p1=>
     have e:=hh 0 v rfl;rw [Nat.add_zero] at e;refine⟨aU he (.lnt k1 c1 m p1 T xs (fun hn q=>hp 0 (k1,c1,p1,T) (k,c0) rfl rfl (by rw [Nat.add_zero,e];exact hn) q) e.symm) h1,ih h2 hb' hp.tail hh.tail⟩
    |ro=>exact⟨aU he (.ro T xs) h1,ih h2 hb' hp hh⟩
    |bor=>cases hx
    |own=>
     cases xs with
     |nil=>exact⟨RdP.nilRo h1,ih h2 hb' hp hh⟩
     |cons y ys=>exact⟨h1.one,ih h2 hb' hp hh⟩
    |tip=>exact⟨h1.one,ih h2 hb' hp hh⟩
    |lnt n=>exact⟨h1.one,ih h2 hb' hp hh⟩
   |ptr s off=>exact⟨h1.one,ih h2 hb' hp hh⟩
   |clo k ss=>exact⟨h1.one,ih h2 hb' hp hh⟩
   |swp sf n h0 s=>exact⟨h1.one,ih h2 hb' hp hh⟩
   |eptr f T x off=>exact⟨h1.one,ih h2 hb' hp hh⟩
   |eref k c p i T x off=>exact⟨h1.one,ih h2 hb' hp hh⟩
   |apd k c p T xs=>exact⟨h1.one,ih h2 hb' hp hh⟩
   |int k n=>exact⟨aU he (.same _ trivial) h1,ih h2 hb' hp hh⟩
   |bool b=>exact⟨aU he (.same _ trivial) h1,ih h2 hb' hp hh⟩
   |str s=>exact⟨aU he (.same _ trivial) h1,ih h2 hb' hp hh⟩
   |val v=>exact⟨aU he (.same _ trivial) h1,ih h2 hb' hp hh⟩
   |undef=>exact⟨aU he (.same _ trivial) h1,ih h2 hb' hp hh⟩
theorem LentPass.left{off:Nat}{L L' :List aH}{Tg Tg' :List (Nat×Nat)}(h:LentPass π hdr off (L++L') (Tg++Tg')):LentPass π hdr off L Tg:=
 fun n z t h1 h2 h3 q=>h n z t (by rw [Ze (Zt.1 h1).1];exact h1) (by rw [Ze (Zt.1 h2).1];exact h2) h3 q
theorem LentPass.right{off:Nat}{L L' :List aH}{Tg Tg' :List (Nat×Nat)}(hl:L.length=Tg.length)(h:LentPass π hdr off (L++L') (Tg++Tg')):LentPass π hdr (off+L.length) L' Tg' :=
 fun n z t h1 h2 h3 q=>h (L.length+n) z t (by rw [Z3 (Yi _ _),Yu];exact h1)
  (by rw [hl,Z3 (Yi _ _),Yu];exact h2) (by rw [<-Yt];exact h3) q
theorem HdrOk.left{off:Nat}{H H' :List Value}(h:HdrOk hdr off (H++H')):HdrOk hdr off H:=
 fun n v h1=>h n v (by rw [Ze (Zt.1 h1).1];exact h1)
theorem HdrOk.right{off:Nat}{H H' :List Value}(h:HdrOk hdr off (H++H')):HdrOk hdr (off+H.length) H' :=
 fun n v h1=>by rw [Yt];exact h _ v (by rw [Z3 (Yi _ _),Yu];exact h1)
theorem vH(he:EnvOk E):∀ {as:List Arg} {vs:List Value} {m i:Nat},as.length=vs.length->
 (∀(j:Nat) (x:Arg) (v:Value),as[j]? =some x->vs[j]? =some v->∃g cs,x= .val (.v g cs)/\VR1 E bxs (.h 1) 0 g cs v/\∀x∈cs,x.isBor=false)->
 LentPass π hdr m (aP m as).2 (bA i (aP m as).1)->HdrOk hdr m (dR as vs)->ArgsAt (E.into π hide bx hdr) i (aP m as).1 vs:=by
 intro as
 induction as with
 |nil=>intro vs m i h _ _ _;cases vs <;>simp_all [ArgsAt,aP]
 |cons x as ih=>
  intro vs m i hl h hp hh;cases vs with
  |nil=>simp at hl
  |cons v vs=>
   obtain⟨g,cs,rfl,h1,h2⟩:=h 0 x v rfl rfl;obtain⟨h1,h3⟩:=dW.1 h1;have hll:(aM m cs).2.length=(aV (2*i) 0 (aM m cs).1).length:=oV.symm;have hvl:(cB cs (cellsOf g v)).length=(aM m cs).2.length:=oU (aS h1);refine⟨dW.2 ⟨vK he h1 h2 (LentPass.left (L:=(aM m cs).2) hp) (HdrOk.left hh),h3⟩,?_⟩;refine ih (by simpa using hl) (fun j y w hy hw=>h (j+1) y w (by simpa using hy) (by simpa using hw)) (LentPass.right (L:=(aM m cs).2) hll hp) ?_;have:=HdrOk.right hh;rw [hvl] at this;exact this
end
theorem fL{k:Nat}:∀ {cs:List CV} {c:Nat} {n:Nat} {t:Nat×Nat},(aV k c cs)[n]? =some t->t.1=k/\c<=t.2:=by
 intro cs
 induction cs with
 |nil=>intro c n t h;simp [aV] at h
 |cons x cs ih=>
  intro c n t h;have other:(aV k (c+1) cs)[n]? =some t->t.1=k/\c<=t.2:=fun h=>by have:=ih h;exact⟨this.1,by omega⟩
  cases x with
  |sl f T xs=>
   cases f with
   |lnt m=>
    cases n with
    |zero=>simp [aV] at h;subst h;exact⟨rfl,Zi _⟩
    |succ n=>have:=ih (c:=c+1) (n:=n) (by simpa [aV] using h);exact⟨this.1,by omega⟩
   |_=>exact other h
  |_=>exact other h
theorem vM{k:Nat}:∀ {cs:List CV} {c:Nat} {n n' :Nat} {t:Nat×Nat},(aV k c cs)[n]? =some t->(aV k c cs)[n']? =some t->n=n' :=by
 intro cs
 induction cs with
 |nil=>intro c n n' t h;simp [aV] at h
 |cons x cs ih=>
  intro c n n' t h h';cases x with
  |sl f T xs=>
   cases f with
   |lnt m=>
    cases n with
    |zero=>
     cases n' with
     |zero=>rfl
     |succ n' =>
      simp [aV] at h h';subst h;have:=(fL h').2;omega
    |succ n=>
     cases n' with
     |zero=>
      simp [aV] at h h';subst h';have:=(fL h).2;omega
     |succ n' =>rw [ih (c:=c+1) (n:=n) (n' :=n') (t:=t) (by simpa [aV] using h) (by simpa [aV] using h')]
   |_=>exact ih (c:=c+1) h h'
  |_=>exact ih (c:=c+1) h h'
theorem oY:∀ {as:List Arg} {i n:Nat} {t:Nat×Nat},(bA i as)[n]? =some t->2*i<=t.1:=by
 intro as
 induction as with
 |nil=>intro i n t h;simp [bA] at h
 |cons x as ih=>
  intro i n t h;have other:(bA (i+1) as)[n]? =some t->2*i<=t.1:=fun h=>by have:=ih h;omega
  cases x with
  |val y=>
   cases y with
   |v g cs=>
    simp only [bA] at h;by_cases hn:n<(aV (2*i) 0 cs).length
    ·rw [Ze hn] at h;have:=(fL h).1;omega
    ·rw [Z3 (by omega)] at h;have:=ih h;omega
   |_=>exact other h
  |box cs=>exact other h
  |gbox cs=>exact other h
theorem oZ:∀ {as:List Arg} {i n n' :Nat} {t:Nat×Nat},(bA i as)[n]? =some t->(bA i as)[n']? =some t->n=n' :=by
 intro as
 induction as with
 |nil=>intro i n n' t h;simp [bA] at h
 |cons x as ih=>
  intro i n n' t h h';cases x with
  |val y=>
   cases y with
   |v g cs=>
    simp only [bA] at h h';by_cases hn:n<(aV (2*i) 0 cs).length <;>by_cases hn' :n' <(aV (2*i) 0 cs).length
    ·rw [Ze hn] at h;rw [Ze hn'] at h';exact vM h h'
    ·rw [Ze hn] at h;rw [Z3 (by omega)] at h';have:=(fL h).1;have:=oY h';omega
    ·rw [Z3 (by omega)] at h;rw [Ze hn'] at h';have:=(fL h').1;have:=oY h;omega
    ·rw [Z3 (by omega)] at h h';have:=ih h h';omega
   |_=>exact ih (i:=i+1) h h'
  |box cs=>exact ih (i:=i+1) h h'
  |gbox cs=>exact ih (i:=i+1) h h'
def cP(L:List aH)(Tg:List (Nat×Nat))(H:List Value)(l l' :Own):Prop:=
 ∃(n:Nat) (z:aH) (t:Nat×Nat) (v:Value),L[n]? =some z/\Tg[n]? =some t/\H[n]? =some v/\(∀m c,v≠ .slice none m c)/\∃q,l= .arr (.k z.1) z.2.1 (z.2.2.1++q)/\l' = .arr (.k t.1) t.2 q
def LentApart(L:List aH):Prop:=
 ∀(n n' :Nat) (z z' :aH) (q q' :List (Nat×Nat)),L[n]? =some z->L[n']? =some z' ->z.1=z'.1->z.2.1=z'.2.1->z.2.2.1++q=z'.2.2.1++q' ->n=n'
theorem xB{L:List aH}{Tg:List (Nat×Nat)}{H:List Value}(hL:LentApart L)(hT:∀(n n' :Nat) (t:Nat×Nat),Tg[n]? =some t->Tg[n']? =some t->n=n'):∃π ρ d,Pass π ρ d/\
 (∀l l',π l=some l' ↔cP L Tg H l l')/\(∀l' l,ρ l' =some l↔cP L Tg H l l' \/(∃c p,l= .arr (.h 0) c p/\l' = .arr (.h 0) c p)):=by
 have f1:∀l a b,cP L Tg H l a->cP L Tg H l b->a=b:=by
  rintro l a b ⟨n,z,t,v,h1,h2,h3,h4,q,rfl,rfl⟩ ⟨n',z',t',v',h1',h2',h3',h4',q',e,rfl⟩;injection e with e1 e2 e3;injection e1 with e1;obtain rfl:=hL n n' z z' q q' h1 h1' e1 e2 e3;rw [h1] at h1';cases h1';rw [h2] at h2';cases h2';rw [YR] at e3;rw [e3]
 have f2:∀a b l,cP L Tg H a l->cP L Tg H b l->a=b:=by
  rintro a b l ⟨n,z,t,v,h1,h2,h3,h4,q,rfl,rfl⟩ ⟨n',z',t',v',h1',h2',h3',h4',q',rfl,e⟩;injection e with e1 e2 e3;injection e1 with e1;subst e3;obtain rfl:=hT n n' t h2 (by rw [h2',XS e1 e2]);rw [h1] at h1';cases h1'
  rfl
 refine Pass.of_rel _ _ f1 f2 ?_ ?_ (fun _ _ h=> .inl h) ?_ ?_
 ·rintro l a b (h|⟨c,p,rfl,rfl⟩) (h' |⟨c',p',e,rfl⟩)
  ·exact f1 _ _ _ h h'
  ·subst e;obtain⟨n,z,t,v,h1,h2,h3,h4,q,e,_⟩:=h;cases e
  ·obtain⟨n,z,t,v,h1,h2,h3,h4,q,e,_⟩:=h';cases e
  ·cases e;rfl
 ·rintro a b l (h|⟨c,p,rfl,rfl⟩) (h' |⟨c',p',rfl,e⟩)
  ·exact f2 _ _ _ h h'
  ·subst e;obtain⟨n,z,t,v,h1,h2,h3,h4,q,_,e⟩:=h;cases e
  ·obtain⟨n,z,t,v,h1,h2,h3,h4,q,_,e⟩:=h';cases e
  ·cases e;rfl
 ·rintro l i (h|⟨c,p,rfl,e⟩)
  ·obtain⟨n,z,t,v,h1,h2,h3,h4,q,_,e⟩:=h;cases e
  ·cases e
 ·rintro s l (h|⟨c,p,e,rfl⟩)
  ·obtain⟨n,z,t,v,h1,h2,h3,h4,q,e,_⟩:=h;cases e
  ·cases e
end Go.Ab
end
section
namespace Go.Ab
variable [Inhabited Lb]
theorem rA{E' :Env}:∀ {ps:List (Nat×Nat)} {m n:Nat} {ys:List CV} {t:Nat×Nat} {y:CV},eZ E' m ps ys->ps[n]? =some t->ys[n]? =some y->
 ∃T zs,y= .sl (.lnt (m+n)) T zs/\VRc E' aJ (.k t.1) t.2 y (E'.hdr (m+n)):=by
 intro ps
 induction ps with
 |nil=>intro m n ys t y h h1;simp at h1
 |cons p ps ih=>
  intro m n ys t y h h1 h2;cases ys with
  |nil=>exact h.elim
  |cons y0 ys=>
   obtain⟨⟨T,zs,e⟩,g2,g3⟩:=h;cases n with
   |zero=>simp at h1 h2;subst h1 h2;exact⟨T,zs,e,g2⟩
   |succ n=>have:=ih g3 (by simpa using h1) (by simpa using h2);rwa [show m+1+n=m+(n+1) from by omega] at this
theorem pV{U:Ty}{y x x' :CV}{p:Prop}(h:kF U y x=some (x',p))(hp:p):∃f g xs zs,x= .sl f U xs/\y= .sl g U zs/\zs.length=xs.length/\x' = .sl f U zs:=by
 unfold kF at h;split at h
 ·rename_i fl T xs;split at h
  ·rename_i g V ys;split at h
   ·rename_i e;subst e;cases hc:decide (U=V) with
    |false=>rw [hc] at h;cases h
    |true=>
     rw [hc] at h;have hc:=of_decide_eq_true hc;subst hc;cases h;exact⟨fl,g,xs,ys,rfl,rfl,hp,rfl⟩
   ·cases h
  ·cases h
 ·cases h
theorem gZ{x:Nat}{r:List Nat}(h:aR (x::r)=true):(∀y∈r,y≠x)/\aR r=true:=by
 simp [aR] at h;exact⟨fun y hy e=>h.1 (e ▸ hy),h.2⟩
theorem kC:∀ {l:List Nat} {n n' x:Nat},aR l=true->l[n]? =some x->l[n']? =some x->n=n' :=by
 intro l
 induction l with
 |nil=>intro n n' x _ h;simp at h
 |cons y l ih=>
  intro n n' x h h1 h2;obtain⟨h3,h4⟩:=gZ h;cases n with
  |zero=>
   cases n' with
   |zero=>rfl
   |succ n' =>simp at h1 h2;subst h1;exact absurd rfl (h3 _ (Zs h2))
  |succ n=>
   cases n' with
   |zero=>simp at h1 h2;subst h2;exact absurd rfl (h3 _ (Zs h1))
   |succ n' =>exact Zd (· +1) (ih (n:=n) (n' :=n') (x:=x) h4 (by simpa using h1) (by simpa using h2))
theorem yP{k:Nat}:∀ {L:List aH} {ys cs cs' :List CV} {ps:List Prop},eI k L ys cs=some (cs',ps)->(∀p∈ps,p)->aR (L.map fun z=>z.2.1)=true->
 cs'.length=cs.length/\(∀(n:Nat) (z:aH),L[n]? =some z->z.1=k/\z.2.2.1=[])/\∀j:Nat,
  (∃(n:Nat) (T:Ty) (y:CV) (f g:Fl) (xs zs:List T.den),L[n]? =some (k,j,[],T)/\ys[n]? =some y/\y= .sl g T zs/\zs.length=xs.length/\cs[j]? =some (.sl f T xs)/\
    CV.mutable (.sl f T xs)=true/\cs'[j]? =some (.sl f T zs))\/(cs'[j]? =cs[j]? /\∀(n:Nat) (z:aH),L[n]? =some z->z.2.1≠j):=by
 intro L
 induction L with
 |nil=>
  intro ys cs cs' ps h _ _;cases ys with
  |nil=>simp [eI] at h;rw [<-h.1];exact⟨rfl,by simp,fun j=> .inr ⟨rfl,by simp⟩⟩
  |cons y ys=>simp [eI] at h
 |cons z L ih=>
  intro ys cs cs' ps h hps hd;obtain⟨k',c,p,U⟩:=z;cases p with
  |cons q p=>cases ys <;>simp [eI] at h
  |nil=>
   cases ys with
   |nil=>simp [eI] at h
   |cons y ys=>
    simp only [eI] at h;cases hk:k'.beq k with
    |false=>rw [hk] at h;cases h
    |true=>
     rw [hk] at h;obtain rfl:=Zl hk;simp only [jT] at h;split at h
     ·rename_i x hx;cases hm:x.mutable with
      |false=>rw [hm] at h;cases h
      |true=>
       rw [hm] at h;simp only [jT] at h;split at h
       ·rename_i x' p hx';split at h
        ·rename_i cs1 ps1 hrest;cases h;obtain⟨f,g,xs,zs,rfl,rfl,hl,rfl⟩:=pV hx' (hps p Zp);obtain⟨d1,d2⟩:=gZ hd;obtain⟨e1,e2,e3⟩:=ih hrest (fun q hq=>hps q (Zq _ hq)) d2;have hc:c<cs.length:=(Zt.1 hx).1;refine⟨by simpa using e1,fun n z hz=> ?_,fun j=> ?_⟩
         ·cases n with
          |zero=>simp at hz;subst hz;exact⟨rfl,rfl⟩
          |succ n=>exact e2 n z (by simpa using hz)
         ·by_cases hj:j=c
          ·subst hj;rcases e3 j with ⟨n,T,y,f',g',xs',zs',a1,_⟩|⟨a1,a2⟩
           ·exact absurd rfl (d1 j (Zk.2 ⟨_,Zs a1,rfl⟩))
           ·refine .inl ⟨0,U,_,f,g,xs,zs,rfl,rfl,rfl,hl,hx,hm,?_⟩;rw [a1,YZ hc]
          ·rcases e3 j with ⟨n,T,y,f',g',xs',zs',a1,a2,a3,a4,a5,a6⟩|⟨a1,a2⟩
           ·rw [Yd (Ne.symm hj)] at a5;exact .inl ⟨n+1,T,y,f',g',xs',zs',by simpa using a1,by simpa using a2,a3,a4,a5,a6⟩
           ·refine .inr ⟨by rw [a1,Yd (Ne.symm hj)],fun n z hz=> ?_⟩;cases n with
            |zero=>simp at hz;subst hz;exact Ne.symm hj
            |succ n=>exact a2 n z (by simpa using hz)
        ·cases h
       ·cases h
     ·cases h
theorem qB{k c i:Nat}:∀ {L:List aH} {ys cs cs' :List CV} {ps:List Prop},dL k c i L ys cs=some (cs',ps)->(∀p∈ps,p)->aR (L.map fun z=>(z.2.2.1.headD (0,0)).2)=true->
 cs'.length=cs.length/\(∀(n:Nat) (z:aH),L[n]? =some z->z.1=k/\z.2.1=c/\∃j,z.2.2.1=[(i,j)])/\∀j:Nat,
  (∃(n:Nat) (T:Ty) (y:CV) (f g:Fl) (xs zs:List T.den),L[n]? =some (k,c,[(i,j)],T)/\ys[n]? =some y/\y= .sl g T zs/\zs.length=xs.length/\cs[j]? =some (.sl f T xs)/\
    cs'[j]? =some (.sl f T zs))\/(cs'[j]? =cs[j]? /\∀(n:Nat) (z:aH),L[n]? =some z->z.2.2.1≠ [(i,j)]):=by
 intro L
 induction L with
 |nil=>
  intro ys cs cs' ps h _ _;cases ys with
  |nil=>simp [dL] at h;rw [<-h.1];exact⟨rfl,by simp,fun j=> .inr ⟨rfl,by simp⟩⟩
  |cons y ys=>simp [dL] at h
 |cons z L ih=>
  intro ys cs cs' ps h hps hd;obtain⟨k',c',p,U⟩:=z
  match p,h,hd with
  | [],h,_=>cases ys <;>simp [dL] at h
  |_::_::_,h,_=>cases ys <;>simp [dL] at h
  | [(i',j0)],h,hd=>
    cases ys with
    |nil=>simp [dL] at h
    |cons y ys=>
     simp only [dL] at h;cases hk:(k'.beq k&&c'.beq c) with
     |false=>rw [hk] at h;cases h
     |true=>
      rw [hk] at h;simp only [Zv] at hk;obtain rfl:=Zl hk.1;obtain rfl:=Zl hk.2;simp only [jT] at h;split at h
      ·rename_i x hx;split at h
       ·rename_i x' p hx';split at h
        ·rename_i cs1 ps1 hrest;cases h;have hii:i' =i:=hps _ Zp;subst hii;obtain⟨f,g,xs,zs,rfl,rfl,hl,rfl⟩:=pV hx' (hps p (Zq _ Zp));obtain⟨d1,d2⟩:=gZ hd;obtain⟨e1,e2,e3⟩:=ih hrest (fun q hq=>hps q (Zq _ (Zq _ hq))) d2;have hc:j0<cs.length:=(Zt.1 hx).1;refine⟨by simpa using e1,fun n z hz=> ?_,fun j=> ?_⟩
         ·cases n with
          |zero=>simp at hz;subst hz;exact⟨rfl,rfl,j0,rfl⟩
          |succ n=>exact e2 n z (by simpa using hz)
         ·by_cases hj:j=j0
          ·subst hj;rcases e3 j with ⟨n,T,y,f',g',xs',zs',a1,_⟩|⟨a1,a2⟩
           ·exact absurd rfl (d1 j (Zk.2 ⟨_,Zs a1,rfl⟩))
           ·refine .inl ⟨0,U,_,f,g,xs,zs,rfl,rfl,rfl,hl,hx,?_⟩;rw [a1,YZ hc]
          ·rcases e3 j with ⟨n,T,y,f',g',xs',zs',a1,a2,a3,a4,a5,a6⟩|⟨a1,a2⟩
           ·rw [Yd (Ne.symm hj)] at a5;exact .inl ⟨n+1,T,y,f',g',xs',zs',by simpa using a1,by simpa using a2,a3,a4,a5,a6⟩
           ·refine .inr ⟨by rw [a1,Yd (Ne.symm hj)],fun n z hz=> ?_⟩;cases n with
            |zero=>
             simp at hz;subst hz;intro e;simp at e;exact hj e.symm
            |succ n=>exact a2 n z (by simpa using hz)
        ·cases h
       ·cases h
      ·cases h
section
variable {E E' :Env} {π ρ d:Own->Option Own} {bx:Nat->Nat} {hdr:Nat->Value} {L:List aH} {Tg:List (Nat×Nat)} {H:List Value}
 (hp:Pass π ρ d) (hπ:∀l l',π l=some l' ↔cP L Tg H l l') (hρ:∀l' l,ρ l' =some l↔cP L Tg H l l' \/(∃c p,l= .arr (.h 0) c p/\l' = .arr (.h 0) c p))
 (hold:∀b,b<E.w.heap.size->(E.into π true bx hdr).ow b=none->E'.w.heap[b]? =E.w.heap[b]? /\E'.hw b=(E.into π true bx hdr).hw b/\E'.ow b=none) (he:EnvOk E)
include hp hπ hρ hold he
theorem lP{k c:Nat}{p:List (Nat×Nat)}(hn:∀l',¬cP L Tg H (.arr (.k k) c p) l'):fA E (E.back E' π ρ d) (.arr (.k k) c p) (.arr (.k k) c p):=by
 intro b hb;have hlt:b<E.w.heap.size:=by
  rcases ZG b E.w.heap.size with h1|h1
  ·exact h1
  ·rw [(he.new _ h1).1] at hb;cases hb
 have hpi:π (.arr (.k k) c p)=none:=by
  cases hq:π (.arr (.k k) c p) with
  |none=>rfl
  |some l=>exact absurd ((hπ _ _).1 hq) (hn l)
 have hf:E.frame π b:=⟨hlt,by rw [hb];exact hpi⟩;obtain⟨a1,a2,a3⟩:=hold _ hlt (by simp [Env.into,hb,hpi]);refine⟨?_,by simp [Env.back,hf],a1⟩;simp only [Env.back,Zw hf,hb,jS];rcases hp.drop (.arr (.k k) c p) with ⟨⟨l',hl'⟩,_⟩|⟨_,h2⟩
 ·rcases(hρ _ _).1 hl' with h|⟨c',p',h,_⟩
  ·exact absurd h (hn l')
  ·cases h
 ·exact h2
theorem vN(hL:LentApart L){n m:Nat}{z:aH}{t:Nat×Nat}{v vk:Value}{T:Ty}{xs ys:List T.den}(h1:L[n]? =some z)(h2:Tg[n]? =some t)(h3:H[n]? =some v)
 (hk:RdP E.w (fun q=>okF E (.k z.1) z.2.1 .own (z.2.2.1++q)) (fun q=>qF E (.k z.1) z.2.1 .own (z.2.2.1++q)) vk (.sl T.sz (xs.map T.toD)))
 (ha:Tip E (.arr (.k z.1) z.2.1 z.2.2.1) v T.sz) (hy:VRc E' aJ (.k t.1) t.2 (.sl (.lnt m) T ys) v) (hlen:ys.length=xs.length):
 RdP (E.back E' π ρ d).w (fun q=>okF (E.back E' π ρ d) (.k z.1) z.2.1 .own (z.2.2.1++q)) (fun q=>qF (E.back E' π ρ d) (.k z.1) z.2.1 .own (z.2.2.1++q)) vk (.sl T.sz (ys.map T.toD)):=by
 have hqk:Tip E (.arr (.k z.1) z.2.1 z.2.2.1) vk T.sz:=by have:=hk.top;rwa [Zb] at this
 obtain⟨adk,capk,ek,hck⟩:=RdP.shape hk;obtain⟨ada,capa,ea,hca⟩:=RdP.shape hy;rw [Zr] at ek ea hck hca;cases adk with
 |none=>
  subst ek;obtain⟨h0,hcap⟩:=hqk;have:ys=[]:=XU (by omega);subst this;rw [h0,hcap];exact RdP.nil none 0 T.sz ⟨rfl,rfl⟩
 |some adk=>
  cases ada with
  |none=>
   subst ea;obtain⟨h0,_⟩:=ha;have:ys=[]:=XU h0;subst this;have hxs:xs.length=0:=by rw [<-hlen];rfl
   subst ek
   have hm:=lP hp hπ hρ hold he (k:=z.1) (c:=z.2.1) (p:=z.2.2.1) (fun l' hl' =>by
    obtain⟨n',z',t',v',g1,g2,g3,g4,q,e,_⟩:=hl';injection e with e1 e2 e3;injection e1 with e1;obtain rfl:=hL n n' z z' [] q h1 g1 e1 e2 (by rw [Zb];exact e3);rw [h3] at g3;cases g3;exact g4 _ _ rfl)
   have ht:=Tip.moves hm hqk;rw [hxs] at ht ⊢;exact RdP.nil (some adk) capk T.sz (by show Tip _ _ _ _;rw [Zb];exact ht)
  |some ada=>
   have hv:vk=v:=by
    subst ek ea;obtain⟨bk,ok,fk⟩:=adk;obtain⟨ba,oa,fa⟩:=ada;have hsz:=Ty.sz_pos T;unfold Tip at hqk ha;split at hqk
    ·rename_i b1 n1 c1 e1;split at ha
     ·rename_i b2 n2 c2 e2;obtain⟨p1,p2,p3,cs1,ty1,lo1,hi1,p4,p5,p6⟩:=hqk;obtain⟨q1,q2,q3,cs2,ty2,lo2,hi2,q4,q5,q6⟩:=ha;have hb:=he.inj _ _ _ p1 q1;subst hb;rw [p4] at q4;cases q4;have hc:c1=c2:=XR hsz (p5.trans q5.symm);have hn:n1=n2:=XR hsz (p2.symm.trans q2);rw [e1,e2,hc,hn]
     ·rename_i e2;cases e2
     ·exact ha.elim
    ·rename_i e1;cases e1
    ·exact hqk.elim
   rw [hv]
   have hpass:∀q,ρ (.arr (.k t.1) t.2 q)=some (.arr (.k z.1) z.2.1 (z.2.2.1++q)):=fun q=>
    (hρ _ _).2 (.inl ⟨n,z,t,v,h1,h2,h3,(by intro m c e;rw [ea] at e;cases e),q,rfl,rfl⟩)
   exact RdP.mono hy (fun q b o ho=>⟨rfl,by rw [(cY (d:=d) hold ho.2 (hpass q)).2];exact ho.1,(cY hold ho.2 (hpass q)).1⟩) (fun q v sz ht=>Tip.back hold (hpass q) ht.1)
end
end Go.Ab
end
section
namespace Go.Ab
variable [Inhabited Lb]
theorem LentApart.top{L:List aH}(h2:aR (L.map fun z=>z.2.1)=true):LentApart L:=by
 intro n n' z z' q q' hz hz' _ e _;exact kC h2 (x:=z.2.1) (by rw [Zn,hz];rfl) (by rw [Zn,hz'];exact Zd some e.symm)
theorem LentApart.row{k c i:Nat}{L:List aH}(h1:∀(n:Nat) (z:aH),L[n]? =some z->z.1=k/\z.2.1=c/\∃j,z.2.2.1=[(i,j)])
 (h2:aR (L.map fun z=>(z.2.2.1.headD (0,0)).2)=true):LentApart L:=by
 intro n n' z z' q q' hz hz' _ _ e;obtain⟨_,_,j,hj⟩:=h1 n z hz;obtain⟨_,_,j',hj'⟩:=h1 n' z' hz';rw [hj,hj'] at e;simp at e;refine kC h2 (x:=j) (by rw [Zn,hz];simp [hj]) (by rw [Zn,hz'];simp [hj',e.1])
theorem vL{E:Env}{bxs:Nat->Prop}{pl:Pl}:∀ {cs:List CV} {vals:List Value} {m c0:Nat},VRs E bxs pl c0 cs vals->
 ∀(n:Nat) (z:aH) (v:Value),(aM m cs).2[n]? =some z->(cB cs vals)[n]? =some v->Tip E (.arr (.k z.1) z.2.1 z.2.2.1) v z.2.2.2.sz:=by
 intro cs
 induction cs with
 |nil=>intro vals m c0 _ n z v h;simp [aM] at h
 |cons x cs ih=>
  intro vals m c0 h n z v h1 h2;cases vals with
  |nil=>exact h.elim
  |cons w vals=>
   cases x with
   |sl f T xs=>
    cases f with
    |al k1 c1 p1=>
     cases n with
     |zero=>
      simp [aM,cB] at h1 h2;subst h1 h2;have hv:RdP E.w _ _ _ _:=h.1;have:=hv.top;simp only [qF,Zb] at this;exact this
     |succ n=>exact ih h.2 n z v (by simpa [aM] using h1) (by simpa [cB] using h2)
    |_=>exact ih h.2 n z v (by simpa [aM] using h1) (by simpa [cB] using h2)
   |_=>exact ih h.2 n z v (by simpa [aM] using h1) (by simpa [cB] using h2)
theorem vJ{E:Env}{bxs:Nat->Prop}:∀ {as:List Arg} {vs:List Value} {m i:Nat},as.length=vs.length->
 (∀(j:Nat) (x:Arg) (v:Value),as[j]? =some x->vs[j]? =some v->∃g cs,x= .val (.v g cs)/\VR1 E bxs (.h 1) 0 g cs v/\∀x∈cs,x.isBor=false)->
 (dR as vs).length=(aP m as).2.length/\(bA i (aP m as).1).length=(aP m as).2.length/\
 ∀(n:Nat) (z:aH) (v:Value),(aP m as).2[n]? =some z->(dR as vs)[n]? =some v->Tip E (.arr (.k z.1) z.2.1 z.2.2.1) v z.2.2.2.sz:=by
 intro as
 induction as with
 |nil=>intro vs m i h _;cases vs <;>simp_all [dR,aP,bA]
 |cons x as ih=>
  intro vs m i hl h;cases vs with
  |nil=>simp at hl
  |cons v vs=>
   obtain⟨g,cs,rfl,h1,h2⟩:=h 0 x v rfl rfl;obtain⟨h1,h3⟩:=dW.1 h1;have hvl:(cB cs (cellsOf g v)).length=(aM m cs).2.length:=oU (aS h1);obtain⟨i1,i2,i3⟩:=ih (vs:=vs) (m:=m+(aM m cs).2.length) (i:=i+1) (by simpa using hl) (fun j y w hy hw=>h (j+1) y w (by simpa using hy) (by simpa using hw));refine⟨by simp [dR,aP,hvl,i1],by simp [bA,aP,oV,i2],fun n z w hz hw=> ?_⟩;simp only [aP,dR] at hz hw;by_cases hn:n<(aM m cs).2.length
   ·rw [Ze hn] at hz;rw [Ze (by rw [hvl];exact hn)] at hw;exact vL h1 n z w hz hw
   ·rw [Z3 (by omega)] at hz;rw [Z3 (by omega),hvl] at hw;exact i3 _ z w hz hw
theorem kO:∀ {as:List Arg},bT as=false->∀(j:Nat) (x:Arg),as[j]? =some x->∃g cs,x= .val (.v g cs)/\∀y∈cs,y.isBor=false:=by
 intro as
 induction as with
 |nil=>intro _ j x h;simp at h
 |cons x as ih=>
  intro h j y hy;cases x with
  |box cs=>simp [bT] at h
  |gbox cs=>simp [bT] at h
  |val a=>
   cases a with
   |v g cs=>
    simp only [bT,ZR] at h;cases j with
    |zero=>
     simp at hy;subst hy;refine⟨g,cs,rfl,fun z hz=> ?_⟩;cases hb:z.isBor with
     |false=>rfl
     |true=>rw [Y8.2 ⟨z,hz,hb⟩] at h;exact absurd h.1 (by simp)
    |succ j=>exact ih h.2 j y (by simpa using hy)
   |_=>simp [bT] at h
section
variable {E E' :Env} {π ρ d:Own->Option Own} {bx:Nat->Nat} {hdr:Nat->Value} {L:List aH} {Tg:List (Nat×Nat)} {H:List Value}
 (hp:Pass π ρ d) (hπ:∀l l',π l=some l' ↔cP L Tg H l l') (hρ:∀l' l,ρ l' =some l↔cP L Tg H l l' \/(∃c p,l= .arr (.h 0) c p/\l' = .arr (.h 0) c p))
 (hold:∀b,b<E.w.heap.size->(E.into π true bx hdr).ow b=none->E'.w.heap[b]? =E.w.heap[b]? /\E'.hw b=(E.into π true bx hdr).hw b/\E'.ow b=none) (he:EnvOk E)
 (htips:∀(n:Nat) (z:aH) (v:Value),L[n]? =some z->H[n]? =some v->Tip E (.arr (.k z.1) z.2.1 z.2.2.1) v z.2.2.2.sz)
 (hHL:H.length=L.length) (hTL:Tg.length=L.length) {lents:List CV}
 (hlents:∀(n:Nat) (t:Nat×Nat) (y:CV) (v:Value),Tg[n]? =some t->lents[n]? =some y->H[n]? =some v->∃T zs,y= .sl (.lnt n) T zs/\VRc E' aJ (.k t.1) t.2 y v)
include hp hπ hρ hold he htips hHL hTL hlents
theorem oX(hL:LentApart L){n:Nat}{z:aH}{y:CV}{g:Fl}{vk:Value}{xs zs:List z.2.2.2.den}(h1:L[n]? =some z)(h2:lents[n]? =some y)(h3:y= .sl g z.2.2.2 zs)(h4:zs.length=xs.length)
 (hk:RdP E.w (fun q=>okF E (.k z.1) z.2.1 .own (z.2.2.1++q)) (fun q=>qF E (.k z.1) z.2.1 .own (z.2.2.1++q)) vk (.sl z.2.2.2.sz (xs.map z.2.2.2.toD))):
 RdP (E.back E' π ρ d).w (fun q=>okF (E.back E' π ρ d) (.k z.1) z.2.1 .own (z.2.2.1++q)) (fun q=>qF (E.back E' π ρ d) (.k z.1) z.2.1 .own (z.2.2.1++q)) vk (.sl z.2.2.2.sz (zs.map z.2.2.2.toD)):=by
 have hn:n<L.length:=(Zt.1 h1).1;have ht:=Zx (l:=Tg) (by omega:n<Tg.length);have hv:=Zx (l:=H) (by omega:n<H.length);obtain⟨T,zs',e,hy⟩:=hlents n _ y _ ht h2 hv;subst h3;cases e;exact vN hp hπ hρ hold he hL h1 ht hv hk (htips n z _ h1 hv) hy h4
theorem xQ{k c i:Nat}(hrow:∀(n:Nat) (z:aH),L[n]? =some z->z.1=k/\z.2.1=c/\∃j,z.2.2.1=[(i,j)])(hL:LentApart L)(hnd:aR (L.map fun z=>(z.2.2.1.headD (0,0)).2)=true)
 {T:Ty} {xs:List T.den} {x' :T.den} {row:List CV} {vk:Value} {ps:List Prop} (hr:dL k c i L lents (T.enc .own (xs.getD i T.dflt))=some (row,ps)) (hps:∀p∈ps,p) (hdec:T.dec row=some x')
 (hk:RdP E.w (fun q=>okF E (.k k) c .own ([]++q)) (fun q=>qF E (.k k) c .own ([]++q)) vk (.sl T.sz (xs.map T.toD))):
 RdP (E.back E' π ρ d).w (fun q=>okF (E.back E' π ρ d) (.k k) c .own ([]++q)) (fun q=>qF (E.back E' π ρ d) (.k k) c .own ([]++q)) vk (.sl T.sz ((xs.set i x').map T.toD)):=by
 have hm0:=lP hp hπ hρ hold he (k:=k) (c:=c) (p:=[]) (fun l' hl' =>by
  obtain⟨n',z',t',v',g1,g2,g3,g4,q,e,_⟩:=hl';obtain⟨_,_,j,hj⟩:=hrow n' z' g1;rw [hj] at e;injection e with e1 e2 e3;cases e3)
 have hmv:∀(x:Nat×Nat) (q:List (Nat×Nat)),(∀(n:Nat) (z:aH),L[n]? =some z->z.2.2.1≠ [x])->fA E (E.back E' π ρ d) (.arr (.k k) c (x::q)) (.arr (.k k) c (x::q)):=by
  intro x q hx;refine lP hp hπ hρ hold he (fun l' hl' => ?_);obtain⟨n',z',t',v',g1,g2,g3,g4,q',e,_⟩:=hl';obtain⟨_,_,j,hj⟩:=hrow n' z' g1;injection e with e1 e2 e3;rw [hj] at e3;simp at e3;exact hx n' z' g1 (by rw [hj,e3.1])
 have hsz:=Ty.sz_pos T;obtain⟨hlr,_,hget⟩:=qB hr hps hnd;rw [Ty.enc_length] at hlr;by_cases hxs:xs=[]
 ·subst hxs;have hq:=hk.top;simp only [Zb] at hq;obtain⟨ad,cap,rfl,hcap⟩:=RdP.shape hk;have ht:=Tip.moves hm0 hq;exact RdP.nil ad cap T.sz (by simp only [Zb];exact ht)
 have hne:xs.map T.toD≠ []:=by simpa using hxs
 obtain⟨b',o',cap,rfl,hcap,hlen,hq,u,hc,hkk⟩:=RdP.cells hk hne;simp only [Zb] at hq hc;have hq:Tip E (.arr (.k k) c []) (.slice (some ⟨b',o',none⟩) (xs.map T.toD).length cap) T.sz:=hq;have ho' :o' =0:=by
  match o',hq with
  |0,_=>rfl
  |_+1,hq=>exact hq.elim
 subst ho';have hqt:=Tip.moves hm0 hq;obtain⟨q1,q2,q3,cs,cty,lo,hi,q4,q5,q6⟩:=hq;obtain⟨m1,m2,m3⟩:=hm0 b' q1;have htd:=Ty.dec_toD T _ x' hdec;have hxa:∀(ha:i<xs.length),xs.getD i T.dflt=xs[i]:=fun ha=>by rw [ZW,Zx ha];rfl
 have hlen' :∀z∈(xs.set i x').map T.toD,z.length=T.sz:=by
  intro z hz;obtain⟨y,_,rfl⟩:=Zk.1 hz;exact Ty.toD_length T y
 rw [Zr] at hqt hcap;rw [Zr];refine eF (m3.trans q4) (by simp) hcap hlen' (by simp only [Zb];exact hqt) (fun o ho=> ?_) (fun i' j hi' hj=> ?_)
 ·simp only [Zb];refine⟨?_,hqt.1⟩;rw [hqt.2.1];exact ho
 ·have hi2:i' <xs.length:=by simpa using hi'
  have hi3:i' <(xs.map T.toD).length:=by simpa using hi2
  have e1:((xs.set i x').map T.toD)[i']=T.toD ((xs.set i x')[i']'(by simpa using hi2)):=by rw [Z7]
  have hjs:j<T.sz:=by rw [<-hlen' _ (Z4 hi')];exact hj
  obtain⟨hcell,_⟩:=hc i' j hi3 hjs;rw [Zj] at hcell;have hcs:cs[i' *T.sz+j]? =some (u i' j):=by simpa [World.cell?,q4] using hcell
  refine⟨u i' j,hcs,?_⟩;have hj2:j<((xs.map T.toD)[i']'hi3).length:=by rw [Z7,Ty.toD_length];exact hjs
  have hchild:=hkk i' j hi3 hj2
  have same:(∀(n:Nat) (z:aH),L[n]? =some z->z.2.2.1≠ [(i',j)])->((xs.set i x').map T.toD)[i'][j]? =((xs.map T.toD)[i']'hi3)[j]? ->
   RdP (E.back E' π ρ d).w (fun p=>okF (E.back E' π ρ d) (.k k) c .own ([]++(i',j)::p)) (fun p=>qF (E.back E' π ρ d) (.k k) c .own ([]++(i',j)::p)) (u i' j) (((xs.set i x').map T.toD)[i'][j]):=by
   intro h1 h2;have ed2:((xs.set i x').map T.toD)[i'][j]=((xs.map T.toD)[i']'hi3)[j]:=by
    rw [Zx hj2] at h2;exact(Zt.1 h2).2
   rw [ed2];exact eW (E:=E) (k:= .k k) (k' := .k k) (c:=c) (c' :=c) (p0:=[(i',j)]) (g:=fun q=>(i',j)::q) (fun q=>hmv _ _ h1) hchild
  by_cases hii:i' =i
  ·subst hii;have hrowD:((xs.set i' x').map T.toD)[i']=row.map CV.toD:=by rw [e1,YF,htd]
   have hold0:((xs.map T.toD)[i']'hi3)=(T.enc .own (xs.getD i' T.dflt)).map CV.toD:=by rw [Z7,Ty.enc_toD,hxa hi2]
   rcases hget j with ⟨n,U,y,f,g,ys1,zs,a1,a2,a3,a4,a5,a6⟩|⟨a1,a2⟩
   ·have d1:((xs.map T.toD)[i']'hi3)[j]=(CV.sl f U ys1).toD:=by
     have:((xs.map T.toD)[i']'hi3)[j]? =some (CV.sl f U ys1).toD:=by rw [hold0,Zn,a5];rfl
     exact(Zt.1 this).2
    have d2:((xs.set i' x').map T.toD)[i'][j]=(CV.sl f U zs).toD:=by
     have:((xs.set i' x').map T.toD)[i'][j]? =some (CV.sl f U zs).toD:=by rw [hrowD,Zn,a6];rfl
     exact(Zt.1 this).2
    rw [d2];rw [d1] at hchild;exact oX hp hπ hρ hold he htips hHL hTL hlents hL (z:=(k,c,[(i',j)],U)) (xs:=ys1) a1 a2 a3 a4 hchild
   ·exact same (fun n z hz e=>a2 n z hz e) (by rw [hrowD,hold0,Zn,Zn,a1])
  ·refine same (fun n z hz e=> ?_) (by rw [e1,Z7,Xb (Ne.symm hii)]);obtain⟨_,_,j',hj'⟩:=hrow n z hz;rw [hj'] at e;simp at e;exact hii e.1.symm
end
section
variable {C:Ctx} {σ:St} {a:Act} {E E' :Env} {u u' :Ups} {tt:TT} {o:Oper} {md:Md} {v:AV} {ob:List Prop}
theorem qN{f:Fl}{T:Ty}{xs:List T.den}{x:CV}{s:List Nat}{m:Bool}(h:x.stale s m= .sl f T xs):x= .sl f T xs:=by
 rcases CV.stale_eq (s:=s) (m:=m) x with e|⟨e,_⟩
 ·rw [e] at h;cases h
 ·rw [<-e,h]
theorem pB{E:Env}{bxs:Nat->Prop}{k c:Nat}{f:Fl}{T:Ty}{xs:List T.den}{v:Value}(hm:CV.mutable (.sl f T xs)=true)(hv:VRc E bxs (.k k) c (.sl f T xs) v):
 RdP E.w (fun q=>okF E (.k k) c .own ([]++q)) (fun q=>qF E (.k k) c .own ([]++q)) v (.sl T.sz (xs.map T.toD))/\∀(E2:Env) (bxs2:Nat->Prop) (zs:List T.den),E2.hdr=E.hdr->
  RdP E2.w (fun q=>okF E2 (.k k) c .own ([]++q)) (fun q=>qF E2 (.k k) c .own ([]++q)) v (.sl T.sz (zs.map T.toD))->VRc E2 bxs2 (.k k) c ((CV.sl f T zs).stale [aB] true) v:=by
 have hfl:f= .own\/∃n,f= .lnt n:=by cases f <;>simp [CV.mutable] at hm ⊢
 rcases hfl with rfl|⟨n,rfl⟩
 ·exact⟨hv,fun E2 bxs2 zs _ h=>h⟩
 ·refine⟨RdP.mono hv (fun q b o ho=>⟨rfl,ho⟩) (fun q v sz ht=>ht.1),fun E2 bxs2 zs hh h=> ?_⟩;have hq:v=E.hdr n:=(RdP.top hv).2 rfl;exact RdP.mono h.topq (fun q b o ho=>⟨rfl,ho⟩) (fun q v' sz ht=>⟨ht.1,fun hq0=>by rw [ht.2 hq0,hq,hh]⟩)
theorem nJ{w:World}(hi:Inv C (St.get (u++σ)) a.tmps E)(hw:E.w=w){vals:Array Value}{f:FuncId}{r:CallO}(hpl:r.plain=true)
 {as:List Arg} (hA:ArgsOk E (St.get (u++σ)) as [] vals.toList) (hrd:bT as=false)
 (h:Mr ((gW (aP 0 as).2 r.lents).bind fun ps=>M.pure (r.res,AbsCalls C.P f (aP 0 as).1 r::ps)) σ u=some ((v,ob),u')) (hob:∀q∈ob,q):Does C.P f vals w fun val w' =>Hand C (u' ++σ) a.tmps w' 0 v val:=by
 subst hw;obtain⟨hpr,hpo⟩:r.res.plain=true/\r.outs.all (·.all CV.plain)=true:=by simpa [CallO.plain] using hpl
 obtain⟨ps,u1,h1,h2⟩:=aC h;obtain⟨e,rfl⟩:=aE h2;cases e;have hcon:AbsCalls C.P f (aP 0 as).1 r:=hob _ Zp;have hps:∀p∈ps,p:=fun p hp=>hob p (Zq _ hp);generalize hLdef:(aP 0 as).2=L at h1;unfold gW at h1;split at h1
 case h_2=>exact(aD h1).elim
 rename_i z0 L';obtain⟨b,u2,h3,h4⟩:=aC h1;obtain⟨rfl,rfl⟩:=bN h3;split at h4
 case h_2=>exact(aD h4).elim
 rename_i g cs hg;obtain⟨⟨cs',ps'⟩,u3,h5,h6⟩:=aC h4;obtain⟨hnew,rfl⟩:=cX h5;obtain⟨_,u4,h7,h8⟩:=aC h6;obtain rfl:=bG h7;obtain⟨_,u5,h9,h10⟩:=aC h8;obtain rfl:=bG h9;obtain⟨e10,rfl⟩:=aE h10;subst e10;have hz0:(z0::L')[0]? =some z0:=rfl;generalize z0::L' =L at*;generalize hkk:z0.1=k at*;have hall:∀(j:Nat) (x:Arg) (v:Value),as[j]? =some x->(vals.toList)[j]? =some v->∃g cs,x= .val (.v g cs)/\VR1 E (aA (St.get (u3++σ))) (.h 1) 0 g cs v/\∀x∈cs,x.isBor=false:=by
  intro j x v hx hv;obtain⟨g,cs,rfl,hb⟩:=kO hrd j x hx;obtain⟨_,hvr⟩:=hA.val j _ v hx hv;exact⟨g,cs,rfl,hvr (.h 1),hb⟩
 obtain⟨hHL,hTL,htips⟩:=vJ (m:=0) (i:=0) hA.len hall;generalize hH:dR as (vals.toList)=H at*;generalize hT:bA 0 (aP 0 as).1=Tg at*;rw [hLdef] at hHL hTL htips;have hTinj:∀(n n' :Nat) (t:Nat×Nat),Tg[n]? =some t->Tg[n']? =some t->n=n' :=by rw [<-hT];exact fun n n' t=>oZ
 have hshape:LentApart L/\(∀(n:Nat) (z:aH),L[n]? =some z->z.1=k)/\cs'.length=cs.length/\∀(E2:Env) (π ρ d:Own->Option Own) (hdr:Nat->Value) (hp:Pass π ρ d) (hπ:∀l l',π l=some l' ↔cP L Tg H l l')
  (hρ:∀l' l,ρ l' =some l↔cP L Tg H l l' \/(∃c p,l= .arr (.h 0) c p/\l' = .arr (.h 0) c p))
  (hold:∀b,b<E.w.heap.size->(E.into π true E.bx hdr).ow b=none->E2.w.heap[b]? =E.w.heap[b]? /\E2.hw b=(E.into π true E.bx hdr).hw b/\E2.ow b=none)
  (hlents:∀(n:Nat) (t:Nat×Nat) (y:CV) (v:Value),Tg[n]? =some t->r.lents[n]? =some y->H[n]? =some v->∃T zs,y= .sl (.lnt n) T zs/\VRc E2 aJ (.k t.1) t.2 y v)
  (bxs' :Nat->Prop) (j:Nat) (x' :CV) (v:Value),cs'[j]? =some x' ->(∃x,cs[j]? =some x/\VRc E (aA (St.get (u3++σ))) (.k k) j x v)->
  VRc (E.back E2 π ρ d) bxs' (.k k) j (x'.stale [aB] true) v\/((∀(n:Nat) (z:aH),L[n]? =some z->z.2.1≠j)/\∃x,cs[j]? =some x/\x' =x.stale [k] false):=by
  unfold oW at hnew;split at hnew
  ·rename_i k0 c0 U L0;cases hnd:aR (((k0,c0,([]:List (Nat×Nat)),U)::L0).map fun z=>z.2.1) with
   |false=>rw [hnd] at hnew;cases hnew
   |true=>
    rw [hnd] at hnew;simp only [jT] at hnew;generalize hL0:(k0,c0,([]:List (Nat×Nat)),U)::L0=L at*;have hk0:k0=k:=by rw [<-hL0] at hz0;rw [<-hkk,<-Yz hz0]
    subst hk0;obtain⟨t1,t2,t3⟩:=yP hnew hps hnd;have hap:=LentApart.top hnd;refine⟨hap,fun n z hz=>(t2 n z hz).1,by simpa using t1,?_⟩;intro E2 π ρ d hdr hp hπ hρ hold hlents bxs' j x' v hx' hx;obtain⟨x,hx1,hx2⟩:=hx;rcases t3 j with ⟨n,T,y,f0,g0,xs,zs,a1,a2,a3,a4,a5,a6,a7⟩|⟨a1,a2⟩
    ·rw [a7] at hx';cases hx';rw [Zn,hx1] at a5;have a5:=qN (Yz a5);subst a5;obtain⟨m1,m2⟩:=pB a6 hx2;exact .inl (m2 _ bxs' zs rfl (oX hp hπ hρ hold hi.env htips hHL hTL hlents hap (z:=(k0,j,[],T)) a1 a2 a3 a4 m1))
    ·rw [a1,Zn,hx1] at hx';cases hx';exact .inr ⟨a2,x,hx1,rfl⟩
  ·rename_i k0 c0 i0 j0 U L0;cases hnd:aR (((k0,c0,[(i0,j0)],U)::L0).map fun z=>(z.2.2.1.headD (0,0)).2) with
   |false=>rw [hnd] at hnew;cases hnew
   |true=>
    rw [hnd] at hnew;simp only [jT] at hnew;generalize hL0:(k0,c0,[(i0,j0)],U)::L0=L at*;have hk0:k0=k:=by rw [<-hL0] at hz0;rw [<-hkk,<-Yz hz0]
    subst hk0;split at hnew
    ·rename_i f0 T xs hcell;cases hm:CV.mutable (.sl f0 T xs) with
     |false=>rw [hm] at hnew;cases hnew
     |true=>
      rw [hm] at hnew;simp only [jT] at hnew;split at hnew
      ·rename_i row ps2 hrow;split at hnew
       ·rename_i x1 hdec;cases hnew;obtain⟨t1,t2,t3⟩:=qB hrow hps hnd;have hap:=LentApart.row t2 hnd;refine⟨hap,fun n z hz=>(t2 n z hz).1,by simp,?_⟩;intro E2 π ρ d hdr hp hπ hρ hold hlents bxs' j x' v hx' hx;obtain⟨x,hx1,hx2⟩:=hx;by_cases hj:j=c0
        ·subst hj;rw [Zn,hx1] at hcell;have hcell:=qN (Yz hcell);subst hcell;rw [YZ (by simpa using(Zt.1 hx1).1)] at hx';cases hx';obtain⟨m1,m2⟩:=pB hm hx2;exact .inl (m2 _ bxs' _ rfl (xQ hp hπ hρ hold hi.env htips hHL hTL hlents t2 hap hnd hrow hps hdec m1))
        ·rw [Yd (Ne.symm hj),Zn,hx1] at hx';cases hx';exact .inr ⟨fun n z hz e=>hj (e.symm.trans (t2 n z hz).2.1),x,hx1,rfl⟩
       ·cases hnew
      ·cases hnew
    ·cases hnew
  ·cases hnew
 obtain⟨hap,hLk,hlen',hcells⟩:=hshape;obtain⟨π,ρ,d,hp,hπ,hρ⟩:=xB (H:=H) hap hTinj;have hargs:ArgsAt (E.into π true E.bx (fun n=>H.getD n undef)) 0 (aP 0 as).1 vals.toList:=by
  refine vH hi.env hA.len hall (fun n z t h1 h2 h3 q=> ?_) (fun n v hv=> ?_)
  ·rw [hLdef] at h1;rw [hT] at h2;have hn:n<H.length:=by rw [hHL];exact(Zt.1 h1).1
   refine(hπ _ _).2 ⟨n,z,t,H[n],h1,h2,Zx hn,fun m c' e=> ?_,q,rfl,rfl⟩;refine h3 m c' ?_;rw [Zj,ZW,Zx hn];exact e
  ·rw [hH] at hv;rw [Zj,ZW,hv];rfl
 refine(hcon (E.into π true E.bx (fun n=>H.getD n undef)) _ (eT hp hi.env) (eS hi.bas) hargs).mono fun val w' hr=> ?_;obtain⟨E',rfl,hx⟩:=hr;have hold:=hx.old;have hlents:∀(n:Nat) (t:Nat×Nat) (y:CV) (v:Value),Tg[n]? =some t->r.lents[n]? =some y->H[n]? =some v->∃T zs,y= .sl (.lnt n) T zs/\VRc E' aJ (.k t.1) t.2 y v:=by
  intro n t y v h1 h2 h3;rw [<-hT] at h1;obtain⟨T,zs,e,hy⟩:=rA hx.lents h1 h2;rw [Zj] at e hy;have:E'.hdr n=v:=by
   rw [hx.hdr];show H.getD n undef=v;rw [ZW,h3];rfl
  rw [this] at hy;exact⟨T,zs,e,hy⟩
 have hst:=fC (mu:=True) hp hi.env hold (fun hm=>absurd trivial hm);have hbk:=fB hp hi.env hx.env hx.size;have hdk:∀pl c,dkC ρ pl c->pl= .h 0\/(pl= .k k/\∃(n:Nat) (z:aH),L[n]? =some z/\z.2.1=c):=by
  rintro pl c ⟨p,l',h⟩;rcases(hρ _ _).1 h with ⟨n,z,t,v,h1,h2,h3,h4,q,e,_⟩|⟨c',p',h,_⟩
  ·injection e with e1 e2 e3;exact .inr ⟨by rw [e1,hLk n z h1],n,z,h1,e2.symm⟩
  ·cases h;exact .inl rfl
 have hdb:∀s',¬dbC ρ s' :=by
  rintro s' ⟨l',h⟩;rcases(hρ _ _).1 h with ⟨n,z,t,v,h1,h2,h3,h4,q,e,_⟩|⟨c',p',h,_⟩
  ·cases e
  ·cases h
 have key:∀(bxs' :Nat->Prop) (vals:List Value),(∀s,aA (St.get (u3++σ)) s->bxs' s/\(E.back E' π ρ d).bx s=E.bx s)->VRs E (aA (St.get (u3++σ))) (.k k) 0 cs vals->
  VRs (E.back E' π ρ d) bxs' (.k k) 0 (cs'.map (CV.stale [aB] true)) vals:=by
  intro bxs' vals hbx hv;have hvl:=aS hv;refine cC (by simp [hlen',hvl]) fun j z y hz hy=> ?_;rw [Zn,Z8] at hz;obtain⟨x',hx',rfl⟩:=hz;have hjl:j<cs.length:=by rw [<-hlen'];exact(Zt.1 hx').1
  have hvj:=aZ hv (Zx hjl) hy;rw [Zj] at hvj ⊢;rcases hcells E' π ρ d _ hp hπ hρ hold hlents bxs' j x' y hx' ⟨_,Zx hjl,hvj⟩ with h|⟨h1,x,hx1,rfl⟩
  ·exact h
  ·rw [Zx hjl] at hx1;cases hx1;rw [CV.stale_stale (s:=[aB,k]) (m:=true) _ (fun q=>by simp [YO]) rfl];refine CW.vr hst hbx (CW.stale (fun _ hd=> ?_) (fun k' c' hd=> ?_) (fun _=>rfl)) hvj
   ·rcases hdk _ _ hd with hd|⟨_,n,z,hz,e⟩
    ·cases hd
    ·exact h1 n z hz e
   ·rcases hdk _ _ hd with hd|⟨hd,_⟩
    ·cases hd
    ·cases hd;simp
 have hG:∀q,St.get (((aB,.none)::(k,.v g cs')::u3)++σ) q=
  if aB=q then .none else if k=q then .v g (cs'.map (CV.stale [aB] true)) else((St.get (u3++σ) q).mapC (CV.stale [aB,k] true)):=by
  intro q;show St.get ((aB,_)::((k,_)::(u3++σ))) q=_;rw [St.get_cons];split
  ·rfl
  ·rw [St.get_cons];split
   ·rfl
   ·rw [AV.mapC_comp]
    congr 1
    funext z
    exact CV.stale_stale z (fun q=>by simp [YO]) (by simp)
 have hbx:∀s,aA (St.get (u3++σ)) s->aA (St.get (((aB,.none)::(k,.v g cs')::u3)++σ)) s/\(E.back E' π ρ d).bx s=E.bx s:=by
  intro s hs;refine⟨?_,rfl⟩;obtain⟨ys,hys⟩:=hs;unfold aA;rw [hG,Zf (by unfold aB;omega)];split
  ·rename_i e;rw [e,hys] at hg;cases hg;exact⟨_,rfl⟩
  ·rw [hys];exact⟨_,rfl⟩
 have cw:∀(pl:Pl) (j:Nat) (z:CV),pl≠ .h 0->pl≠ .k k->CW (dkC ρ) True pl j (z.stale [aB,k] true) z:=by
  intro pl j z h1 h2;refine CW.stale (fun _ hd=> ?_) (fun k' c' hd=> ?_) (fun _=>rfl)
  ·rcases hdk _ _ hd with h|⟨h,_⟩
   ·exact h1 h
   ·exact h2 h
  ·rcases hdk _ _ hd with h|⟨h,_⟩
   ·cases h
   ·cases h;simp
 have hres:=iG (E:=E) (π:=π) (hide:=true) (bx:=E.bx) (hdr:=fun n=>H.getD n undef) (d:=d) (bxs:=aA (St.get (((aB,.none)::(k,.v g cs')::u3)++σ))) hold hpr (fun c p=>(hρ _ _).2 (.inr ⟨c,p,rfl,rfl⟩)) (hx.res.vr (fN hpr));simp only [jT] at hres;refine⟨E.back E' π ρ d,rfl,hi.step hst hx.os hx.tape hx.output hx.size (fun b hlt h0=> ?_) hbk.new hbk.inj hbk.boxhw rfl hbx (fun t=> ?_) (fun s cs2 hs=> ?_),hres⟩
 ·have h2:=(hi.old b hlt h0).2.2;have hlt2:b<E.w.heap.size:=ZC hlt hi.size;obtain⟨a1,a2,a3⟩:=hold b hlt2 (by simp [Env.into,h2]);have hf:E.frame π b:=⟨hlt2,by rw [h2];rfl⟩;exact⟨a1,by simp [Env.back,hf],by simp [Env.back,hf,h2]⟩
 ·rw [hG];by_cases hm:aB=2*t
  ·rw [Zw hm];exact .inl trivial
  ·rw [Zf hm];by_cases hk:k=2*t
   ·rw [Zw hk];refine .inl ?_;have ht:=hi.tmp t;rw [<-hk,hg] at ht;rw [<-hk];cases g with
    |true=>
     obtain⟨vv,e,hvv⟩:=ht;exact⟨vv,e,key _ _ hbx hvv⟩
    |false=>exact key _ _ hbx ht
   ·rw [Zf hk];exact .inr ⟨AWk.map (fun j z=>cw _ _ _ (by simp) (by simp;omega)) _,rfl⟩
 ·rw [hG,Zf (by unfold aB;omega)] at hs;by_cases hk:k=2*s+1
  ·rw [Zw hk] at hs;injection hs with hs1 hs2;subst hs1;have hbr:=hi.box s cs (by rw [<-hk];exact hg);obtain⟨r1,vals,ety,r2,r3⟩:=hbr;obtain⟨b1,b2,b3⟩:=hst.box s r1 (hdb s);refine .inl ⟨by rw [b1];exact b2,vals,ety,by rw [b1,b3];exact r2,?_⟩;rw [<-hs2,<-hk];rw [<-hk] at r3;exact key _ _ hbx r3
  ·rw [Zf hk] at hs;cases hq:St.get (u3++σ) (2*s+1) with
   |v g' cs0=>
    rw [hq] at hs;injection hs with hs1 hs2;subst hs1 hs2;exact .inr ⟨hdb s,cs0,rfl,CWs.map (fun j z=>cw _ _ _ (by simp) (by simp;omega)) _ _⟩
   |tup xs=>rw [hq] at hs;cases hs
   |none=>rw [hq] at hs;cases hs
end
end Go.Ab
end
section
namespace Go.Ab
variable [Inhabited Lb]
section
variable {C:Ctx} {σ:St} {a:Act} {E E' :Env} {u u' :Ups} {tt:TT}
def CArgs(E:Env)(G:Nat->AV):List Arg->List (Option Nat)->List Value->Prop
 | [],[],[]=>True
 | .val x::as,none::ks,v::vs=>((∃g cs,x= .v g cs)/\∀pl,VR E (aA G) pl x v)/\CArgs E G as ks vs
 | .box cs::as,some s::ks,v::vs=>(v= .pointer (some ⟨E.bx s,0,none⟩)/\G (2*s+1)= .v true cs)/\CArgs E G as ks vs
 |_,_,_=>False
theorem CArgs.app{G:Nat->AV}{as2:List Arg}{ks2:List (Option Nat)}{vs2:List Value}(h2:CArgs E G as2 ks2 vs2):∀ {as:List Arg} {ks:List (Option Nat)} {vs:List Value},CArgs E G as ks vs->
 CArgs E G (as++as2) (ks++ks2) (vs++vs2):=by
 intro as
 induction as with
 |nil=>intro ks vs h;cases ks <;>cases vs <;>first |exact h2|exact h.elim
 |cons x as ih=>
  intro ks vs h;cases ks with
  |nil=>cases x <;>exact h.elim
  |cons k ks=>
   cases vs with
   |nil=>cases x <;>cases k <;>exact h.elim
   |cons v vs=>cases x <;>cases k <;>first |exact⟨h.1,ih h.2⟩|exact h.elim
theorem CArgs.len{G:Nat->AV}:∀ {as:List Arg} {ks:List (Option Nat)} {vs:List Value},CArgs E G as ks vs->as.length=vs.length:=by
 intro as
 induction as with
 |nil=>intro ks vs h;cases ks <;>cases vs <;>first |rfl|exact h.elim
 |cons x as ih=>
  intro ks vs h;cases ks with
  |nil=>cases x <;>exact h.elim
  |cons k ks=>
   cases vs with
   |nil=>cases x <;>cases k <;>exact h.elim
   |cons v vs=>cases x <;>cases k <;>first |exact Zd (· +1) (ih h.2) |exact h.elim
theorem lA(hi:Inv C (St.get (u++σ)) a.tmps E):∀(xs:List Operand) (tys:List TypeId) (r:List Arg×List (Option Nat)) (u' :Ups),
 Mr (gM tt xs tys) σ u=some (r,u')->u' =u/\CArgs E (St.get (u++σ)) r.1 r.2 (xs.map a.eval):=by
 intro xs
 induction xs with
 |nil=>
  intro tys r u' h;obtain⟨rfl,rfl⟩:=aE h;exact⟨rfl,trivial⟩
 |cons x xs ih=>
  intro tys r u' h;obtain⟨p,u1,h1,h2⟩:=aC h;obtain⟨rfl,hp⟩:=ih _ _ _ h1;obtain⟨b,u2,h3,h4⟩:=aC h2;obtain⟨rfl,hb⟩:=d8 hi h3;split at h4
  ·rename_i s;obtain⟨cs,u3,h5,h6⟩:=aC h4;obtain⟨hg,rfl⟩:=fD h5;obtain⟨rfl,rfl⟩:=aE h6;exact⟨rfl,⟨(hb (.h 0)).1.1,hg⟩,hp⟩
  ·obtain⟨rfl,rfl⟩:=aE h4;exact⟨rfl,⟨⟨_,_,rfl⟩,hb⟩,hp⟩
  ·exact(aD h4).elim
theorem sT:∀(ss:List Nat) (r:List Arg×List (Option Nat)) (u' :Ups),
 Mr (kX ss) σ u=some (r,u')->u' =u/\CArgs E (St.get (u++σ)) r.1 r.2 (ss.map fun s=>Value.pointer (some ⟨E.bx s,0,none⟩)):=by
 intro ss
 induction ss with
 |nil=>
  intro r u' h;obtain⟨rfl,rfl⟩:=aE h;exact⟨rfl,trivial⟩
 |cons s ss ih=>
  intro r u' h;obtain⟨p,u1,h1,h2⟩:=aC h;obtain⟨rfl,hp⟩:=ih _ _ h1;obtain⟨cs,u3,h5,h6⟩:=aC h2;obtain⟨hg,rfl⟩:=fD h5;obtain⟨rfl,rfl⟩:=aE h6;exact⟨rfl,⟨rfl,hg⟩,hp⟩
def iJ(G:Nat->AV):List Nat->List Arg->Prop
 | [],[]=>True
 |s::ss,.gbox cs::as=>G (2*s+1)= .v true cs/\iJ G ss as
 |_,_=>False
theorem uW:∀(ss:List Nat) (r:List Arg) (u' :Ups),Mr (lK ss) σ u=some (r,u')->u' =u/\iJ (St.get (u++σ)) ss r:=by
 intro ss
 induction ss with
 |nil=>
  intro r u' h;obtain⟨rfl,rfl⟩:=aE h;exact⟨rfl,trivial⟩
 |cons s ss ih=>
  intro r u' h;obtain⟨p,u1,h1,h2⟩:=aC h;obtain⟨rfl,hp⟩:=ih _ _ h1;obtain⟨cs,u3,h5,h6⟩:=aC h2;obtain⟨hg,rfl⟩:=fD h5;obtain⟨rfl,rfl⟩:=aE h6;exact⟨rfl,hg,hp⟩
theorem d7{α:Type}:∀ {L:List (Nat×α)} {q:Nat} {v:α},aK L q=some v->(q,v)∈L:=by
 intro L
 induction L with
 |nil=>intro q v h;cases h
 |cons x L ih=>
  intro q v h;obtain⟨k,y⟩:=x;simp only [aK] at h;cases hk:k.beq q with
  |true=>rw [hk] at h;cases h;rw [Zl hk];exact Zp
  |false=>rw [hk] at h;exact Zq _ (ih h)
theorem lT{α:Type}:∀ {L:List (Nat×α)} {q:Nat},aK L q=none->∀v,(q,v) ∉ L:=by
 intro L
 induction L with
 |nil=>intro q _ v h;cases h
 |cons x L ih=>
  intro q h v hm;obtain⟨k,y⟩:=x;simp only [aK] at h;cases hk:k.beq q with
  |true=>rw [hk] at h;cases h
  |false=>
   rw [hk] at h;rcases Zo.1 hm with e|hm
   ·cases e;simp at hk
   ·exact ih h v hm
theorem xL{L:List (Nat×Nat)}{f g:Nat->Value}(hL:∀s i,aK L s=some i->f s=g i):∀ {ss is:List Nat},eC L ss=some is->ss.map f=is.map g:=by
 intro ss
 induction ss with
 |nil=>intro is h;cases h;rfl
 |cons s ss ih=>
  intro is h;simp only [eC] at h;split at h
  ·rename_i i is' h1 h2;cases h;simp [hL _ _ h1,ih h2]
  ·cases h
theorem xM{L:List (Nat×Nat)}:∀ {ss is:List Nat},eC L ss=some is->∀i∈is,∃s,aK L s=some i:=by
 intro ss
 induction ss with
 |nil=>intro is h;cases h;simp
 |cons s ss ih=>
  intro is h i hi;simp only [eC] at h;split at h
  ·rename_i i0 is' h1 h2;cases h;rcases Zo.1 hi with rfl|hi
   ·exact⟨s,h1⟩
   ·exact ih h2 i hi
  ·cases h
theorem kG{L:List (Nat×Nat)}{bxs bxs' :Nat->Prop}{pl pl' :Pl}{c c' :Nat}{x:CV}{v:Value}(hL:∀s i,aK L s=some i->E'.bx i=E.bx s/\bxs' i)(hh:E'.hdr=E.hdr)(hx:x.isClo=true)(hv:VRc E bxs pl c x v):
 VRc E' bxs' pl' c' (x.ren L) v:=by
 cases x with
 |clo k ss=>
  cases hr:eC L ss with
  |none=>
   have e:(CV.clo k ss).ren L= .undef:=by simp only [CV.ren,hr]
   rw [e];exact hv.one
  |some is=>
   have e:(CV.clo k ss).ren L= .clo k is:=by simp only [CV.ren,hr]
   rw [e];refine⟨?_,fun i hi=> ?_⟩
   ·rw [hv.1,xL (f:=fun s=>Value.pointer (some ⟨E.bx s,0,none⟩)) (g:=fun s=>Value.pointer (some ⟨E'.bx s,0,none⟩)) (fun s i h=>by rw [(hL s i h).1]) hr]
   ·obtain⟨s,hs⟩:=xM hr i hi;exact(hL s i hs).2
 |swp sf n h s=>
  cases hr:aK L s with
  |none=>
   have e:(CV.swp sf n h s).ren L= .undef:=by simp only [CV.ren,hr]
   rw [e];exact hv.one
  |some i=>
   have e:(CV.swp sf n h s).ren L= .swp sf n h i:=by simp only [CV.ren,hr]
   rw [e];exact⟨hv.1,fun ad l cap he=>by rw [hh] at he ⊢;exact hv.2 ad l cap he⟩
 |_=>cases hx
theorem yM{π:Own->Option Own}{bx:Nat->Nat}{hdr:Nat->Value}(he:EnvOk E){bxs:Nat->Prop}{pl pl' :Pl}{c c' :Nat}{x:CV}{v:Value}(hb:x.isBorAl=false)(hv:VRc E bxs pl c x v):
 VRc (E.into π true bx hdr) aJ pl' c' x.toRo v:=by
 cases x with
 |sl f T xs=>
  cases f with
  |ro=>exact aU he (.ro T xs) hv
  |own=>
   cases xs with
   |nil=>exact RdP.nilRo hv
   |cons y ys=>exact hv.one
  |tip=>exact hv.one
  |lnt n=>exact hv.one
  |bor=>cases hb
  |al k c p=>cases hb
 |ptr s off=>exact hv.one
 |clo k ss=>exact hv.one
 |swp sf n h0 s=>exact hv.one
 |eptr f T x off=>exact hv.one
 |eref k c p i T x off=>exact hv.one
 |apd k c p T xs=>exact hv.one
 |_=>exact aU he (.same _ trivial) hv
theorem yL{π:Own->Option Own}{bx:Nat->Nat}(he:EnvOk E){bxs:Nat->Prop}{pl pl' :Pl}{c:Nat}{x:CV}{v:Value}{L:List (Nat×Nat)}(hL:∀s i,aK L s=some i->bx i=E.bx s)
 (hb:x.isBorAl=false) (ho:∀p,π (.arr pl c p)=some (.arr pl' c p)) (hv:VRc E bxs pl c x v):VRc (E.into π true bx E.hdr) aJ pl' c (x.toBxC L) v:=by
 unfold CV.toBxC;cases hc:x.isClo with
 |true=>exact kG (fun s i h=>⟨hL s i h,trivial⟩) rfl hc hv
 |false=>
  cases x with
  |sl f T xs=>
   cases f with
   |ro=>exact aU he (.ro T xs) hv
   |own=>exact aU he (.own T xs ho) hv
   |tip=>exact aU he (.tip T xs ho) hv
   |lnt n=>
    refine RdP.mono hv (fun p b o hk=>⟨rfl,?_⟩) (fun p v sz ht=>⟨Tip.into (ho p) ht.1,ht.2⟩);exact⟨by simp [Env.into,hk.2,ho p,hk.1],by simp [Env.into,hk.2,ho p]⟩
   |bor=>cases hb
   |al k c p=>cases hb
  |ptr s off=>exact hv.one
  |clo k ss=>cases hc
  |swp sf n h0 s=>cases hc
  |eptr f T x off=>exact hv.one
  |eref k c p i T x off=>exact hv.one
  |apd k c p T xs=>exact hv.one
  |_=>exact aU he (.same _ trivial) hv
theorem nB{cs:List CV}(h:cs.any CV.isBorAl=false){x:CV}(hx:x∈cs):x.isBorAl=false:=by
 cases hb:x.isBorAl with
 |false=>rfl
 |true=>rw [Y8.2 ⟨x,hx,hb⟩] at h;cases h
def iK(E:Env)(π:Own->Option Own)(bx:Nat->Nat)(s i:Nat):Prop:=
 bx i=E.bx s/\π (.box s)=some (.box i)/\∀c p,π (.arr (.k (2*s+1)) c p)=some (.arr (.k (2*i+1)) c p)
theorem nG(hi:Inv C (St.get (u++σ)) a.tmps E){π:Own->Option Own}{bx:Nat->Nat}{L:List (Nat×Nat)}(hL:∀s i,aK L s=some i->bx i=E.bx s){s i:Nat}{cs:List CV}(h:iK E π bx s i)
 (hg:St.get (u++σ) (2*s+1)= .v true cs) (hb:cs.any CV.isBorAl=false):bM (E.into π true bx E.hdr) i ((E.into π true bx E.hdr).bx i) (cs.map (CV.toBxC L)):=by
 obtain⟨h1,vals,ty,h2,h3⟩:=hi.box s cs hg;obtain⟨p0,p1,p2⟩:=h;have hbb:(E.into π true bx E.hdr).bx i=E.bx s:=p0;refine⟨by rw [hbb];simp [Env.into,h1,p1],vals,ty,by rw [hbb];exact h2,?_⟩;refine cC (by rw [Zr];exact aS h3) fun j x v hx hv=> ?_;rw [Zn,Z8] at hx;obtain⟨y,hy,rfl⟩:=hx;exact yL hi.env hL (nB hb (Zs hy)) (fun p=>p2 _ p) (aZ h3 hy hv)
theorem sV(hi:Inv C (St.get (u++σ)) a.tmps E){π:Own->Option Own}{bx:Nat->Nat}{L:List (Nat×Nat)}(hL:∀s i,aK L s=some i->bx i=E.bx s):
 ∀ {as:List Arg} {ks:List (Option Nat)} {vs:List Value} {i:Nat},CArgs E (St.get (u++σ)) as ks vs->aL as=false->(∀s j,(s,j)∈dP i ks->iK E π bx s j)->
 ArgsAt (E.into π true bx E.hdr) i (as.map (Arg.toC L)) vs:=by
 intro as
 induction as with
 |nil=>intro ks vs i h _ _;cases ks <;>cases vs <;>first |trivial|exact h.elim
 |cons x as ih=>
  intro ks vs i h hb hh;cases ks with
  |nil=>cases x <;>exact h.elim
  |cons k ks=>
   cases vs with
   |nil=>cases x <;>cases k <;>exact h.elim
   |cons v vs=>
    cases x with
    |val y=>
     cases k with
     |some s=>exact h.elim
     |none=>
      obtain⟨⟨⟨g,cs,rfl⟩,hv⟩,ht⟩:=h;simp only [aL,ZR] at hb;refine⟨?_,ih ht hb.2 hh⟩;show VR _ aJ (.k (2*i)) ((AV.v g cs).mapC (CV.toRoC L)) v;refine VR.imp (fun j x v hx hv=> ?_) (hv (.k (2*i)));have hx:x∈cs:=hx;unfold CV.toRoC;cases hc:x.isClo with
      |true=>exact kG (fun s i h=>⟨hL s i h,trivial⟩) rfl hc hv
      |false=>exact yM hi.env (nB hb.1 hx) hv
    |box cs=>
     cases k with
     |none=>exact h.elim
     |some s=>
      obtain⟨⟨rfl,hg⟩,ht⟩:=h;simp only [aL,ZR] at hb;have hs:=hh s i Zp;exact⟨⟨by rw [show(E.into π true bx E.hdr).bx i=E.bx s from hs.1],nG hi hL hs hg hb.1⟩,ih ht hb.2 fun s j hm=>hh s j (Zq _ hm)⟩
    |gbox cs=>cases k <;>exact h.elim
theorem uO(hi:Inv C (St.get (u++σ)) a.tmps E){π:Own->Option Own}{bx:Nat->Nat}{L:List (Nat×Nat)}(hL:∀s i,aK L s=some i->bx i=E.bx s):
 ∀ {as:List Arg} {ss:List Nat} {i:Nat},iJ (St.get (u++σ)) ss as->aL as=false->(∀s j,(s,j)∈fJ i ss->iK E π bx s j)->
 ArgsAt (E.into π true bx E.hdr) i (as.map (Arg.toC L)) []:=by
 intro as
 induction as with
 |nil=>intro ss i h _ _;trivial
 |cons x as ih=>
  intro ss i h hb hh;cases ss with
  |nil=>exact h.elim
  |cons s ss=>
   cases x with
   |val y=>exact h.elim
   |box y=>exact h.elim
   |gbox cs=>
    obtain⟨hg,ht⟩:=h;simp only [aL,ZR] at hb;exact⟨nG hi hL (hh s _ Zp) hg hb.1,ih ht hb.2 fun s j hm=>hh s j (Zq _ hm)⟩
theorem ArgsAt.app{E:Env}{gs:List Arg}:∀ {as:List Arg} {vs:List Value} {i:Nat},ArgsAt E i as vs->as.length=vs.length->ArgsAt E (i+as.length) gs []->ArgsAt E i (as++gs) vs:=by
 intro as
 induction as with
 |nil=>intro vs i h hl hg;cases vs with
  |nil=>exact hg
  |cons v vs=>cases hl
 |cons x as ih=>
  intro vs i h hl hg;cases vs with
  |nil=>cases hl
  |cons v vs=>
   have hg' :ArgsAt E (i+1+as.length) gs []:=by
    have e:i+1+as.length=i+(x::as).length:=by simp;omega
    rw [e];exact hg
   cases x with
   |val y=>exact⟨h.1,ih h.2 (by simpa using hl) hg'⟩
   |box y=>exact⟨h.1,ih h.2 (by simpa using hl) hg'⟩
   |gbox y=>exact h.1.elim
theorem rU{bs:List Arg}:∀ {as:List Arg},aL (as++bs)=false->aL as=false/\aL bs=false:=by
 intro as
 induction as with
 |nil=>intro h;exact⟨rfl,h⟩
 |cons x as ih=>
  intro h;cases x with
  |val y=>
   cases y with
   |v g cs=>
    simp only [jO,aL,ZR] at h ⊢;exact⟨⟨h.1,(ih h.2).1⟩,(ih h.2).2⟩
   |_=>cases h
  |box cs=>
   simp only [jO,aL,ZR] at h ⊢;exact⟨⟨h.1,(ih h.2).1⟩,(ih h.2).2⟩
  |gbox cs=>
   simp only [jO,aL,ZR] at h ⊢;exact⟨⟨h.1,(ih h.2).1⟩,(ih h.2).2⟩
theorem sG{bs:List Arg}:∀ {as:List Arg} {i:Nat},aF i (as++bs)=aF i as++aF (i+as.length) bs:=by
 intro as
 induction as with
 |nil=>intro i;rfl
 |cons x as ih=>
  intro i;have e:i+1+as.length=i+(x::as).length:=by simp;omega
  cases x <;>simp only [jO,aF] <;>rw [ih,e] <;>rfl
theorem sH{G:Nat->AV}{L:List (Nat×Nat)}:∀ {as:List Arg} {ks:List (Option Nat)} {vs:List Value} {i:Nat},CArgs E G as ks vs->aF i (as.map (Arg.toC L))=(dP i ks).map (·.2):=by
 intro as
 induction as with
 |nil=>intro ks vs i h;cases ks <;>cases vs <;>first |rfl|exact h.elim
 |cons x as ih=>
  intro ks vs i h;cases ks with
  |nil=>cases x <;>exact h.elim
  |cons k ks=>
   cases vs with
   |nil=>cases x <;>cases k <;>exact h.elim
   |cons v vs=>
    cases x <;>cases k <;>first |exact h.elim|exact ih h.2|(simp only [ZX,Arg.toC,aF,dP];rw [ih h.2])
theorem sI{G:Nat->AV}{L:List (Nat×Nat)}:∀ {as:List Arg} {ss:List Nat} {i:Nat},iJ G ss as->aF i (as.map (Arg.toC L))=(fJ i ss).map (·.2):=by
 intro as
 induction as with
 |nil=>intro ss i h;cases ss with
  |nil=>rfl
  |cons=>exact h.elim
 |cons x as ih=>
  intro ss i h;cases ss with
  |nil=>exact h.elim
  |cons s ss=>
   cases x with
   |val y=>exact h.elim
   |box y=>exact h.elim
   |gbox cs=>simp only [ZX,Arg.toC,aF,fJ];rw [ih h.2]
theorem rI{E E' :Env}:∀ {as:List Arg} {k:Nat} {outs:List (List CV)},cR E E' k as outs->outs.length=(aF k as).length/\
 ∀(n s:Nat) (o:List CV),(aF k as)[n]? =some s->outs[n]? =some o->bM E' s (E.bx s) o:=by
 intro as
 induction as with
 |nil=>intro k outs h;cases outs with
  |nil=>exact⟨rfl,by simp [aF]⟩
  |cons=>exact h.elim
 |cons x as ih=>
  intro k outs h
  have cons:∀ {s:Nat} {o:List CV} {os:List (List CV)},bM E' s (E.bx s) o->cR E E' (k+1) as os->(o::os).length=(s::aF (k+1) as).length/\
   ∀(n s' :Nat) (o' :List CV),(s::aF (k+1) as)[n]? =some s' ->(o::os)[n]? =some o' ->bM E' s' (E.bx s') o' :=by
   intro s o os h1 h2;obtain⟨i1,i2⟩:=ih h2;refine⟨by simp [i1],fun n s' o' hs ho=> ?_⟩;cases n with
   |zero=>simp at hs ho;subst hs ho;exact h1
   |succ n=>exact i2 n s' o' (by simpa using hs) (by simpa using ho)
  cases x with
  |val y=>exact ih (k:=k+1) h
  |box cs=>
   cases outs with
   |nil=>exact h.elim
   |cons o os=>exact cons h.1 h.2
  |gbox cs=>
   cases outs with
   |nil=>exact h.elim
   |cons o os=>exact cons h.1 h.2
def eJ(L:List (Nat×Nat))(l l' :Own):Prop:=
 ∃s i,(s,i)∈L/\((l= .box s/\l' = .box i)\/∃c p,l= .arr (.k (2*s+1)) c p/\l' = .arr (.k (2*i+1)) c p)
theorem xA{L:List (Nat×Nat)}(h1:∀s i i',(s,i)∈L->(s,i')∈L->i=i')(h2:∀s s' i,(s,i)∈L->(s',i)∈L->s=s'):∃π ρ d,Pass π ρ d/\
 (∀l l',π l=some l' ↔eJ L l l')/\(∀l' l,ρ l' =some l↔eJ L l l' \/(∃c p,l= .arr (.h 0) c p/\l' = .arr (.h 0) c p)):=by
 have f1:∀l a b,eJ L l a->eJ L l b->a=b:=by
  rintro l a b ⟨s,i,hm,⟨rfl,rfl⟩|⟨c,p,rfl,rfl⟩⟩ ⟨s',i',hm',⟨e,rfl⟩|⟨c',p',e,rfl⟩⟩
  ·cases e;rw [h1 _ _ _ hm hm']
  ·cases e
  ·cases e
  ·injection e with e1 e2 e3;injection e1 with e1;obtain rfl:s=s' :=by omega
   rw [h1 _ _ _ hm hm',e2,e3]
 have f2:∀a b l,eJ L a l->eJ L b l->a=b:=by
  rintro a b l ⟨s,i,hm,⟨rfl,rfl⟩|⟨c,p,rfl,rfl⟩⟩ ⟨s',i',hm',⟨rfl,e⟩|⟨c',p',rfl,e⟩⟩
  ·cases e;rw [h2 _ _ _ hm hm']
  ·cases e
  ·cases e
  ·injection e with e1 e2 e3;injection e1 with e1;obtain rfl:i=i' :=by omega
   rw [h2 _ _ _ hm hm',e2,e3]
 refine Pass.of_rel _ _ f1 f2 ?_ ?_ (fun _ _ h=> .inl h) ?_ ?_
 ·rintro l a b (h|⟨c,p,rfl,rfl⟩) (h' |⟨c',p',e,rfl⟩)
  ·exact f1 _ _ _ h h'
  ·subst e;obtain⟨s,i,_,⟨e,_⟩|⟨c,p,e,_⟩⟩:=h <;>cases e
  ·obtain⟨s,i,_,⟨e,_⟩|⟨c,p,e,_⟩⟩:=h' <;>cases e
  ·cases e;rfl
 ·rintro a b l (h|⟨c,p,rfl,rfl⟩) (h' |⟨c',p',rfl,e⟩)
  ·exact f2 _ _ _ h h'
  ·subst e;obtain⟨s,i,_,⟨_,e⟩|⟨c,p,_,e⟩⟩:=h <;>cases e
  ·obtain⟨s,i,_,⟨_,e⟩|⟨c,p,_,e⟩⟩:=h' <;>cases e
  ·cases e;rfl
 ·rintro l i (⟨s,i',_,⟨rfl,_⟩|⟨c,p,rfl,e⟩⟩|⟨c,p,rfl,e⟩)
  ·exact⟨s,rfl⟩
  ·cases e
  ·cases e
 ·rintro s l (⟨s',i,_,⟨_,rfl⟩|⟨c,p,e,rfl⟩⟩|⟨c,p,e,rfl⟩)
  ·exact⟨i,rfl⟩
  ·cases e
  ·cases e
def Imm(v:AV):Prop:=∀s m,v.mapC (CV.stale s m)=v
theorem Imm.of{cs:List CV}(h:∀x∈cs,x= .undef\/x.plainC=true):Imm (.v true cs):=by
 intro s m;show AV.v true _=_
 congr 1
 conv=>rhs;rw [<-Xp cs]
 refine ZO fun x hx=> ?_;rcases h x hx with rfl|h
 ·unfold CV.stale;cases (CV.onKey s .undef||(m&&CV.isBor .undef)) <;>rfl
 ·cases x with
  |sl f T xs=>cases f <;>first |(cases h;done) |(simp [CV.stale,CV.onKey,CV.isBor])
  |eptr f T x off=>cases h
  |eref=>cases h
  |apd=>cases h
  |_=>simp [CV.stale,CV.onKey,CV.isBor]
theorem xF{S:St}:∀ {Z:List (Nat×AV)},(∀z∈Z,Imm z.2/\z.1≠aB)->∀q,St.get (Z++S) q=match aK Z q with
 |some v=>v
 |none=>(St.get S q).mapC (CV.stale (Z.map (·.1)) false):=by
 intro Z
 induction Z with
 |nil=>intro _ q;exact(AV.mapC_id CV.stale_nil _).symm
 |cons z Z ih=>
  intro hz q;obtain⟨k,v⟩:=z;have hk:=(hz _ Zp).2;have hkb:k.beq aB=false:=by
   cases h:k.beq aB with
   |false=>rfl
   |true=>exact absurd (Zl h) hk
  show St.get ((k,v)::(Z++S)) q=_;rw [St.get_cons,ih (fun z h=>hz z (Zq _ h))];simp only [aK];by_cases hq:k=q
  ·subst hq;simp
  ·have hqb:k.beq q=false:=by
    cases h:k.beq q with
    |false=>rfl
    |true=>exact absurd (Zl h) hq
   rw [Zf hq,hqb,jF,hkb];cases hl:aK Z q with
   |some w=>exact(hz _ (Zq _ (d7 hl))).1 _ _
   |none=>
    dsimp only;rw [AV.mapC_comp];exact Zd (fun f=>(St.get S q).mapC f) (funext fun z=>CV.stale_stale z (fun q=>by simp only [ZX,YK,List.contains_nil,Ya];exact YO _ _) rfl)
variable {π ρ d:Own->Option Own} {bx:Nat->Nat}
theorem sC{L' :List (Nat×Nat)}{bxs:Nat->Prop}{s i j:Nat}{x:CV}{v:Value}(hold:∀b,b<E.w.heap.size->(E.into π true bx E.hdr).ow b=none->E'.w.heap[b]? =E.w.heap[b]? /\E'.hw b=(E.into π true bx E.hdr).hw b/\E'.ow b=none)
 (hh:E'.hdr=E.hdr) (hL' :∀i s,aK L' i=some s->E.bx s=E'.bx i/\bxs s) (hx:x.plainC=true) (hr:∀p,ρ (.arr (.k (2*i+1)) j p)=some (.arr (.k (2*s+1)) j p)) (hv:VRc E' aJ (.k (2*i+1)) j x v):
 VRc (E.back E' π ρ d) bxs (.k (2*s+1)) j (x.ren L') v:=by
 have pl:x.plain=true->x.isClo=false->VRc (E.back E' π ρ d) bxs (.k (2*s+1)) j (x.ren L') v:=by
  intro hp hc;have:=gJ (E:=E) (E' :=E') (π:=π) (ρ:=ρ) (d:=d) (hide:=true) (bx:=bx) (hdr:=E.hdr) (bxs:=bxs) hold hp hr hv;have e:x.ren L' =x:=by cases x <;>first |rfl|cases hc
  rw [e];exact this
 cases x with
 |sl f T xs=>
  cases f with
  |lnt n=>
   refine RdP.mono hv (fun p b o ho=>⟨rfl,by rw [(cY (d:=d) hold ho.2 (hr p)).2];exact ho.1,(cY hold ho.2 (hr p)).1⟩) (fun p v sz ht=>⟨Tip.back hold (hr p) ht.1,fun hp=> ?_⟩);rw [ht.2 hp,hh];rfl
  |ro=>exact pl rfl rfl
  |own=>exact pl rfl rfl
  |tip=>exact pl rfl rfl
  |_=>cases hx
 |clo k ss=>exact kG (x:= .clo k ss) (E:=E') (E' :=E.back E' π ρ d) (bxs:=aJ) (pl:= .k (2*i+1)) (c:=j) (fun i s h=>hL' i s h) (hh.symm) rfl hv
 |swp sf n h s=>exact kG (x:= .swp sf n h s) (E:=E') (E' :=E.back E' π ρ d) (bxs:=aJ) (pl:= .k (2*i+1)) (c:=j) (fun i s h=>hL' i s h) (hh.symm) rfl hv
 |int k n=>exact pl rfl rfl
 |bool b=>exact pl rfl rfl
 |str s=>exact pl rfl rfl
 |val s=>exact pl rfl rfl
 |_=>cases hx
theorem sO(hi:Inv C (St.get (u++σ)) a.tmps E){L L' :List (Nat×Nat)}(hp:Pass π ρ d)
 (hρ:∀l' l,ρ l' =some l↔eJ L l l' \/(∃c p,l= .arr (.h 0) c p/\l' = .arr (.h 0) c p)) {as:List Arg} {r:CallO} {v:Value} {Z:List (Nat×AV)}
 (hx:ExitR (E.into π true bx E.hdr) E' as r v) (hpl:r.res.plain=true) (hZi:∀z∈Z,Imm z.2/\z.1≠aB) (hZk:∀k,k∈Z.map (·.1)↔∃s i,(s,i)∈L/\k=2*s+1)
 (hZ:∀q av,(q,av)∈Z->∃s i o,(s,i)∈L/\q=2*s+1/\av= .v true (o.map (CV.ren L'))/\bM E' i (E.bx s) o/\o.all CV.plainC=true)
 (hL' :∀i s,aK L' i=some s->(s,i)∈L) (hbi:∀s i,(s,i)∈L->E'.bx i=E.bx s):
 Hand C (((aB,.none)::(Z++u))++σ) a.tmps E'.w 0 r.res v:=by
 have hold:=hx.old;have hst:=fC (mu:=True) hp hi.env hold (fun hm=>absurd trivial hm);have hbk:=fB hp hi.env hx.env hx.size;have hdk:∀pl c,dkC ρ pl c->pl= .h 0\/∃s i,(s,i)∈L/\pl= .k (2*s+1):=by
  rintro pl c ⟨p,l',h⟩;rcases(hρ _ _).1 h with ⟨s,i,hm,⟨e,_⟩|⟨c',p',e,_⟩⟩|⟨c',p',h,_⟩
  ·cases e
  ·cases e;exact .inr ⟨s,i,hm,rfl⟩
  ·cases h;exact .inl rfl
 have hdb:∀s',dbC ρ s' ->∃i,(s',i)∈L:=by
  rintro s' ⟨l',h⟩;rcases(hρ _ _).1 h with ⟨s,i,hm,⟨e,_⟩|⟨c',p',e,_⟩⟩|⟨c',p',h,_⟩
  ·cases e;exact⟨i,hm⟩
  ·cases e
  ·cases h
 have hG:∀q,St.get (((aB,.none)::(Z++u))++σ) q=if aB=q then .none else match aK Z q with
  |some v=>v
  |none=>(St.get (u++σ) q).mapC (CV.stale (aB::Z.map (·.1)) true):=by
  intro q;show St.get ((aB,_)::((Z++u)++σ)) q=_;rw [St.get_cons,Zc,xF hZi];split
  ·rfl
  ·have hbeq:aB.beq aB=true:=by unfold aB;rfl
   rw [hbeq];cases hl:aK Z q with
   |some w=>exact(hZi _ (d7 hl)).1 _ _
   |none=>
    dsimp only;rw [AV.mapC_comp];exact Zd (fun f=>(St.get (u++σ) q).mapC f) (funext fun z=>CV.stale_stale z (fun q=>by simp only [ZX,YK,List.contains_nil,Ya];exact YO _ _) rfl)
 have hbxs:∀s',aA (St.get (u++σ)) s' ->aA (St.get (((aB,.none)::(Z++u))++σ)) s' /\(E.back E' π ρ d).bx s' =E.bx s' :=by
  intro s' hs;refine⟨?_,rfl⟩;obtain⟨ys,hys⟩:=hs;unfold aA;rw [hG,Zf (by unfold aB;omega)];cases hl:aK Z (2*s' +1) with
  |some w=>
   obtain⟨s,i,o,_,_,rfl,_⟩:=hZ _ _ (d7 hl);exact⟨_,rfl⟩
  |none=>dsimp only;rw [hys];exact⟨_,rfl⟩
 have hboxL:∀s i,(s,i)∈L->aA (St.get (((aB,.none)::(Z++u))++σ)) s:=by
  intro s i hm;unfold aA;rw [hG,Zf (by unfold aB;omega)];cases hl:aK Z (2*s+1) with
  |some w=>
   obtain⟨s,i,o,_,_,rfl,_⟩:=hZ _ _ (d7 hl);exact⟨_,rfl⟩
  |none=>
   have:2*s+1∈Z.map (·.1):=(hZk _).2 ⟨s,i,hm,rfl⟩;obtain⟨z,hz,e⟩:=Zk.1 this;exact absurd (by rw [<-e];exact hz) (lT hl z.2)
 have cw:∀(q j:Nat) (z:CV),(∀s i,(s,i)∈L->q≠2*s+1)->CW (dkC ρ) True (.k q) j (z.stale (aB::Z.map (·.1)) true) z:=by
  intro q j z h2;refine CW.stale (fun _ hd=> ?_) (fun k' c' hd=> ?_) (fun _=>rfl)
  ·rcases hdk _ _ hd with h|⟨s,i,hm,h⟩
   ·cases h
   ·cases h;exact h2 s i hm rfl
  ·rcases hdk _ _ hd with h|⟨s,i,hm,h⟩
   ·cases h
   ·cases h;exact Zq _ ((hZk _).2 ⟨s,i,hm,rfl⟩)
 have hres:VR (E.back E' π ρ d) (aA (St.get (((aB,.none)::(Z++u))++σ))) (.h 0) r.res v:=
  iG (E:=E) (π:=π) (hide:=true) (bx:=bx) (hdr:=E.hdr) (d:=d) hold hpl (fun c p=>(hρ _ _).2 (.inr ⟨c,p,rfl,rfl⟩)) (hx.res.vr (fN hpl))
 have hzn:∀q,(∀s i,(s,i)∈L->q≠2*s+1)->aK Z q=none:=by
  intro q hq;cases hl:aK Z q with
  |none=>rfl
  |some w=>
   obtain⟨s,i,o,hm,e,_⟩:=hZ _ _ (d7 hl);exact absurd e (hq s i hm)
 refine⟨E.back E' π ρ d,rfl,hi.step hst hx.os hx.tape hx.output hx.size (fun b hlt h0=> ?_) hbk.new hbk.inj hbk.boxhw rfl hbxs
  (fun t=> .inr ⟨?_,rfl⟩) (fun s' cs' hs=> ?_),hres⟩
 ·have h2:=(hi.old b hlt h0).2.2;have hlt2:b<E.w.heap.size:=ZC hlt hi.size;obtain⟨a1,a2,a3⟩:=hold b hlt2 (by simp [Env.into,h2]);have hf:E.frame π b:=⟨hlt2,by rw [h2];rfl⟩;exact⟨a1,by simp [Env.back,hf],by simp [Env.back,hf,h2]⟩
 ·rw [hG];split
  ·trivial
  ·rw [hzn _ (fun s i _=>by omega)];exact AWk.map (fun c z=>cw _ c z (fun s i _=>by omega)) _
 ·rw [hG,Zf (by unfold aB;omega)] at hs;cases hl:aK Z (2*s' +1) with
  |some w=>
   rw [hl] at hs;obtain⟨s,i,o,hm,e,rfl,⟨h1,vals,ty,h2,h3⟩,ho⟩:=hZ _ _ (d7 hl);obtain rfl:s' =s:=by omega
   injection hs with _ hs;subst hs;refine .inl ⟨(cY hold h1 ((hρ _ _).2 (.inl ⟨s',i,hm,.inl ⟨rfl,rfl⟩⟩))).1,vals,ty,h2,?_⟩;refine cC (by rw [Zr];exact aS h3) fun j x y hx' hy=> ?_;rw [Zn,Z8] at hx';obtain⟨x0,hx0,rfl⟩:=hx';have hvj:=aZ h3 hx0 hy;rw [Zj] at hvj ⊢;exact sC hold hx.hdr (fun i s h=>⟨(hbi s i (hL' i s h)).symm,hboxL s i (hL' i s h)⟩) (Zu.1 ho x0 (Zs hx0)) (fun p=>(hρ _ _).2 (.inl ⟨s',i,hm,.inr ⟨_,p,rfl,rfl⟩⟩)) hvj
  |none=>
   rw [hl] at hs;dsimp only at hs;have hne:∀s i,(s,i)∈L->2*s' +1≠2*s+1:=by
    intro s i hm e;have:2*s+1∈Z.map (·.1):=(hZk _).2 ⟨s,i,hm,rfl⟩;obtain⟨z,hz,e2⟩:=Zk.1 this;exact absurd (by rw [e,<-e2];exact hz) (lT hl z.2)
   cases hq:St.get (u++σ) (2*s' +1) with
   |v g' cs0=>
    rw [hq] at hs;injection hs with hs1 hs2;subst hs1 hs2;refine .inr ⟨fun h=> ?_,cs0,rfl,CWs.map (fun c z=>cw _ c z hne) _ _⟩;obtain⟨i,hm⟩:=hdb _ h;exact hne s' i hm rfl
   |tup xs=>rw [hq] at hs;cases hs
   |none=>rw [hq] at hs;cases hs
theorem xH{L:List (Nat×Nat)}:∀ {ss:List Nat} {os:List (List CV)} {u u' :Ups},Mr (mF L ss os) σ u=some ((),u')->ss.length=os.length/\u' =(ss.zip os).map (fun x=>(2*x.1+1,AV.v true (x.2.map (CV.ren L))))++u:=by
 intro ss
 induction ss with
 |nil=>
  intro os u u' h;cases os with
  |nil=>obtain⟨_,rfl⟩:=aE h;exact⟨rfl,rfl⟩
  |cons o os=>exact(aD h).elim
 |cons s ss ih=>
  intro os u u' h;cases os with
  |nil=>exact(aD h).elim
  |cons o os=>
   obtain⟨_,u1,h1,h2⟩:=aC h;obtain⟨i1,rfl⟩:=ih h1;obtain rfl:=bG h2;exact⟨by simp [i1],rfl⟩
theorem xN{L:List (Nat×Nat)}{x:CV}(h:x.plainC=true):x.ren L= .undef\/(x.ren L).plainC=true:=by
 cases x with
 |clo k ss=>
  cases hr:eC L ss with
  |none=>exact .inl (by simp only [CV.ren,hr])
  |some is=>exact .inr (by simp only [CV.ren,hr];rfl)
 |swp sf n h s=>
  cases hr:aK L s with
  |none=>exact .inl (by simp only [CV.ren,hr])
  |some i=>exact .inr (by simp only [CV.ren,hr];rfl)
 |_=>exact .inr h
theorem wP{L:List (Nat×Nat)}(h:aR (L.map (·.1))=true){s i i' :Nat}(h1:(s,i)∈L)(h2:(s,i')∈L):i=i' :=by
 obtain⟨n,hn⟩:=Yp.1 h1;obtain⟨m,hm⟩:=Yp.1 h2;have:=kC h (n:=n) (n' :=m) (x:=s) (by rw [Zn,hn];rfl) (by rw [Zn,hm];rfl);subst this;rw [hn] at hm;cases hm;rfl
theorem pL{L:List (Nat×Nat)}(h:aR (L.map (·.2))=true){s s' i:Nat}(h1:(s,i)∈L)(h2:(s',i)∈L):s=s' :=by
 obtain⟨n,hn⟩:=Yp.1 h1;obtain⟨m,hm⟩:=Yp.1 h2;have:=kC h (n:=n) (n' :=m) (x:=i) (by rw [Zn,hn];rfl) (by rw [Zn,hm];rfl);subst this;rw [hn] at hm;cases hm;rfl
theorem nQ{w:World}{v:AV}{ob:List Prop}(hi:Inv C (St.get (u++σ)) a.tmps E)(hw:E.w=w){f:FuncId}{r:CallO}{as:List Arg}{ks:List (Option Nat)}{vals:Array Value}
 (hA:CArgs E (St.get (u++σ)) as ks vals.toList) (h:Mr (i7 (AbsCalls C.P) f r as ks) σ u=some ((v,ob),u')) (hob:∀q∈ob,q):
 Does C.P f vals w fun val w' =>Hand C (u' ++σ) a.tmps w' 0 v val:=by
 subst hw;unfold i7 at h;have hLd:dP 0 ks++fJ as.length (jQ as ks)=lOf as ks:=rfl;generalize lOf as ks=L at h hLd;generalize jQ as ks=gs at h hLd;obtain⟨ga,u1,h1,h2⟩:=aC h;obtain⟨rfl,hga⟩:=uW _ _ _ h1;cases hc:(aL (as++ga)|| !(r.res.plain&&r.outs.all (·.all CV.plainC)&&aR L.unzip.1&&aR L.unzip.2)) with
 |true=>rw [hc] at h2;exact(aD h2).elim
 |false=>
 rw [hc,jF] at h2;rw [ZR] at hc;obtain⟨hb,hc⟩:=hc;have hc:(r.res.plain&&r.outs.all (·.all CV.plainC)&&aR L.unzip.1&&aR L.unzip.2)=true:=by simpa using hc
 simp only [Zv] at hc;obtain⟨⟨⟨hpl,hpo⟩,hd1⟩,hd2⟩:=hc;have u1:L.unzip.1=L.map (·.1):=by simp
 have u2:L.unzip.2=L.map (·.2):=by simp
 rw [u1] at hd1 h2;rw [u2] at hd2;obtain⟨hb1,hb2⟩:=rU hb;obtain⟨_,u3,h3,h4⟩:=aC h2;obtain⟨hlen,rfl⟩:=xH h3;obtain⟨_,u4,h5,h6⟩:=aC h4;obtain rfl:=bG h5;obtain⟨e,rfl⟩:=aE h6;cases e;have hcon:AbsCalls C.P f ((as++ga).map (Arg.toC L)) ⟨r.res,r.outs,[]⟩:=hob _ (Zh.2 rfl);obtain⟨π,ρ,d,hp,hπ,hρ⟩:=xA (L:=L) (fun s i i' =>wP hd1) (fun s s' i=>pL hd2)
 let bx:Nat->Nat:=fun i=>match aK (eQ L) i with
  |some s=>E.bx s
  |none=>0
 have hflip:∀i s,aK (eQ L) i=some s->(s,i)∈L:=by
  intro i s h;have:=d7 h;unfold eQ at this;obtain⟨z,hz,e⟩:=Zk.1 this;cases e;exact hz
 have hbx:∀s i,(s,i)∈L->bx i=E.bx s:=by
  intro s i hm;show(match aK (eQ L) i with |some s=>E.bx s|none=>0)=_;cases hl:aK (eQ L) i with
  |none=>
   refine absurd ?_ (lT hl s);exact Zk.2 ⟨(s,i),hm,rfl⟩
  |some s' =>
   dsimp only;rw [pL hd2 (hflip i s' hl) hm]
 have hLb:∀s i,aK L s=some i->bx i=E.bx s:=fun s i h=>hbx s i (d7 h);have hands:∀s i,(s,i)∈L->iK E π bx s i:=fun s i hm=>⟨hbx s i hm,(hπ _ _).2 ⟨s,i,hm,.inl ⟨rfl,rfl⟩⟩,fun c p=>(hπ _ _).2 ⟨s,i,hm,.inr ⟨c,p,rfl,rfl⟩⟩⟩;have hargs:ArgsAt (E.into π true bx E.hdr) 0 ((as++ga).map (Arg.toC L)) vals.toList:=by
  rw [YD];refine ArgsAt.app (sV hi hLb hA hb1 fun s j hm=>hands s j (by rw [<-hLd];exact ZH _ hm)) (by rw [Zr];exact hA.len) ?_;rw [Zr,Zj];exact uO hi hLb hga hb2 fun s j hm=>hands s j (by rw [<-hLd];exact Yj _ hm)
 have hidx:aF 0 ((as++ga).map (Arg.toC L))=L.map (·.2):=by
  rw [YD,sG,sH hA,sI hga,Zr,Zj,<-YD,hLd]
 refine(hcon (E.into π true bx E.hdr) _ (eT hp hi.env) (eS hi.bas) hargs).mono fun val w' hr=> ?_;obtain⟨E',rfl,hx⟩:=hr;obtain⟨o1,o2⟩:=rI hx.outs;have hbi:∀s i,(s,i)∈L->E'.bx i=E.bx s:=by
  intro s i hm;rw [hx.bx i (by rw [hidx];exact Zk.2 ⟨_,hm,rfl⟩)];exact hbx s i hm
 have hol:r.outs.length=L.length:=by
  have:r.outs.length=(aF 0 ((as++ga).map (Arg.toC L))).length:=o1;rw [this,hidx,Zr]
 have hzip:∀s o,(s,o)∈(L.map (·.1)).zip r.outs->∃i,(s,i)∈L/\bM E' i (E.bx s) o/\o.all CV.plainC=true:=by
  intro s o hm;obtain⟨n,hn⟩:=Yp.1 hm;rw [Xs] at hn;obtain⟨n1,n2⟩:=hn;rw [Zn,Z8] at n1;obtain⟨⟨s',i⟩,n1,rfl⟩:=n1;have:=o2 n i o (by rw [hidx,Zn,n1];rfl) n2;have hm' :=Zs n1;have e:(E.into π true bx E.hdr).bx i=E.bx s' :=hbx s' i hm';rw [e] at this;exact⟨i,hm',this,Zu.1 hpo o (Zs n2)⟩
 refine sO (L:=L) (L' :=eQ L) (r:=⟨r.res,r.outs,[]⟩) hi hp hρ hx hpl (fun z hz=> ?_) (fun k=> ?_) (fun q av hm=> ?_) hflip hbi
 ·obtain⟨⟨s,o⟩,hm,rfl⟩:=Zk.1 hz;obtain⟨i,_,_,ho⟩:=hzip s o hm;refine⟨Imm.of fun x hx=> ?_,by unfold aB;show 2*s+1≠_;omega⟩;obtain⟨y,hy,rfl⟩:=Zk.1 hx;exact xN (Zu.1 ho y hy)
 ·rw [Yb];constructor
  ·intro h;obtain⟨⟨s,o⟩,hm,rfl⟩:=Zk.1 h;obtain⟨i,hi',_⟩:=hzip s o hm;exact⟨s,i,hi',rfl⟩
  ·rintro ⟨s,i,hm,rfl⟩;obtain⟨n,hn⟩:=Yp.1 hm;have hnl:n<r.outs.length:=by rw [hol];exact(Zt.1 hn).1
   refine Zk.2 ⟨(s,r.outs[n]),Yp.2 ⟨n,?_⟩,rfl⟩;rw [Xs];exact⟨by rw [Zn,hn];rfl,Zx hnl⟩
 ·obtain⟨⟨s,o⟩,hm',e⟩:=Zk.1 hm;cases e;obtain⟨i,h1,h2,h3⟩:=hzip s o hm';exact⟨s,i,o,h1,rfl,rfl,h2,h3⟩
theorem n9{P:Program}{ρ:Operand->Value}{o:Oper}{w:World}{c:Call}{t:Nat}{k:FuncId}{caps:Array Value}(h:o.op= .call c)(hc:c.callee= .value (.tmp t))(hv:ρ (.tmp t)= .func (.func k) #[] caps):
 (execOp ρ o).run P w=(callFunc k (c.args.map ρ++caps)).run P w:=by
 unfold execOp;rw [h];show((resolve ρ c o.type >>= fun d=>invoke d.target d.args):Sem Next).run P w=_;simp only [resolve,hc,hv,Deferred.ofValue,Sem.run_bind,Sem.run_pure,Result.andThen_ok,invoke,Array.empty_append]
theorem CArgs.get{G:Nat->AV}:∀ {as:List Arg} {ks:List (Option Nat)} {vs:List Value},CArgs E G as ks vs->∀(j:Nat) (x:AV) (v:Value),as[j]? =some (.val x)->vs[j]? =some v->(∃g cs,x= .v g cs)/\∀pl,VR E (aA G) pl x v:=by
 intro as
 induction as with
 |nil=>intro ks vs h j x v hj;simp at hj
 |cons y as ih=>
  intro ks vs h j x v hj hv;cases ks with
  |nil=>cases y <;>exact h.elim
  |cons k ks=>
   cases vs with
   |nil=>cases y <;>cases k <;>exact h.elim
   |cons v0 vs=>
    cases j with
    |zero=>
     simp at hj hv;subst hj hv;cases k with
     |none=>exact h.1
     |some s=>exact h.elim
    |succ j=>cases y <;>cases k <;>first |exact ih h.2 j x v (by simpa using hj) (by simpa using hv) |exact h.elim
theorem rW{bs:List Arg}(hb:bT bs=false):∀ {as:List Arg},bT as=false->bT (as++bs)=false:=by
 intro as
 induction as with
 |nil=>intro _;exact hb
 |cons x as ih=>
  intro h;cases x with
  |val y=>
   cases y with
   |v g cs=>
    simp only [jO,bT,ZR] at h ⊢;exact⟨h.1,ih h.2⟩
   |_=>cases h
  |box cs=>cases h
  |gbox cs=>cases h
variable {o:Oper}
theorem yE{w:World}{v:AV}{ob:List Prop}(hi:Inv C (St.get ([]++σ)) a.tmps E)(hw:E.w=w){c:Call}{t:Nat}{r:CallO}(ho:o.op= .call c)(hc:c.callee= .value (.tmp t))
 (h:Mr (mP tt (AbsCalls C.P) c t r) σ []=some ((v,ob),u)) (hob:∀q∈ob,q):
 ∃f vals,(∀w,(execOp a.eval o).run C.P w=(callFunc f vals).run C.P w)/\Does C.P f vals w fun val w' =>Hand C (u++σ) a.tmps w' 0 v val:=by
 subst hw;unfold mP at h;obtain⟨b,u1,h1,h2⟩:=aC h;obtain⟨rfl,rfl⟩:=bN h1;have ht:=hi.tmp t;split at h2
 ·rename_i k ss hg;rw [hg] at ht;have htv:a.tmps.getD t undef= .func (.func k) #[] (ss.map fun s=>Value.pointer (some ⟨E.bx s,0,none⟩)).toArray:=ht.1.1;obtain⟨p,u2,h3,h4⟩:=aC h2;obtain⟨rfl,hA⟩:=lA hi _ _ _ _ h3;obtain⟨q,u3,h5,h6⟩:=aC h4;obtain⟨rfl,hB⟩:=sT (E:=E) _ _ _ h5;refine⟨k,c.args.map a.eval++(ss.map fun s=>Value.pointer (some ⟨E.bx s,0,none⟩)).toArray,fun w=>n9 ho hc htv,?_⟩;refine nQ hi rfl ?_ h6 hob;rw [Array.toList_append,dI];exact CArgs.app hB hA
 ·rename_i sf n h0 s hg;rw [hg] at ht;obtain⟨⟨htone,h0one⟩,htv⟩:=ht.1;obtain⟨hpl,h2⟩:=aQ h2;obtain⟨p,u2,h3,h4⟩:=aC h2;obtain⟨rfl,hA⟩:=lA hi _ _ _ _ h3;obtain⟨cs,u3,h5,h6⟩:=aC h4;obtain⟨hgb,rfl⟩:=fD h5;split at h6
  case h_2=>exact(aD h6).elim
  rename_i m T xs rest;obtain⟨hcd,h6'⟩:=aQ h6;clear h6;rw [Zv] at hcd;obtain⟨hmn,hrd⟩:=hcd;obtain rfl:=Zl hmn;have hrd:bT p.1=false:=by simpa using hrd
  unfold qT at h6';obtain⟨ps,u4,h7,h8⟩:=aC h6';obtain⟨e,rfl⟩:=aE h8;cases e;have h2x:2<=xs.length:=hob _ (Zq _ Zp);obtain⟨b1,vals,ty,b2,b3⟩:=hi.box s _ hgb;cases hvl:vals.toList with
  |nil=>rw [hvl] at b3;exact b3.elim
  |cons v0 vr=>
   rw [hvl] at b3;have hv0:VRc E (aA (St.get ([]++σ))) (.k (2*s+1)) 0 (.sl (.lnt m) T xs) v0:=b3.1;have hq:v0=E.hdr m:=(RdP.top hv0).2 rfl;obtain⟨ad,cap,hsh,_⟩:=RdP.shape hv0;rw [Zr] at hsh;have htv:=htv ad xs.length cap (by rw [<-hq];exact hsh) h2x;refine⟨sf,c.args.map a.eval++ #[E.hdr m,h0],fun w=>n9 ho hc htv,?_⟩;have hrd2:bT (p.1++ [.val (.v false [.sl (.al (2*s+1) 0 []) T xs]),.val (.v false [.val h0])])=false:=rW rfl hrd;have hlen:p.1.length=(c.args.map a.eval).toList.length:=by rw [dI];exact hA.len
   have hAl:VRc E (aA (St.get ([]++σ))) (.h 0) 0 (.sl (.al (2*s+1) 0 []) T xs) (E.hdr m):=by
    rw [<-hq];exact RdP.mono hv0 (fun p b o ho=>⟨rfl,ho⟩) (fun p v sz ht=>ht.1)
   have hok:ArgsOk E (St.get ([]++σ)) (p.1++ [.val (.v false [.sl (.al (2*s+1) 0 []) T xs]),.val (.v false [.val h0])]) [] (c.args.map a.eval++ #[E.hdr m,h0]).toList:=by
    have nobox:∀(j:Nat) (cs:List CV),(p.1++ [.val (.v false [.sl (.al (2*s+1) 0 []) T xs]),.val (.v false [.val h0])])[j]? ≠some (.box cs):=by
     intro j cs hj;obtain⟨g,cs',e,_⟩:=kO hrd2 j _ hj;cases e
    refine⟨by simp [hlen],fun j x v hj hv=> ?_,fun j cs v hj _=>absurd hj (nobox j cs),fun j j' cs cs' hj _=>absurd hj (nobox j cs),fun s hs=>(by cases hs),fun j cs hj=> ?_⟩
    ·rw [Array.toList_append] at hv;by_cases hjl:j<p.1.length
     ·rw [Ze hjl] at hj;rw [Ze (by rw [<-hlen];exact hjl)] at hv;rw [dI] at hv;exact hA.get j x v hj hv
     ·rw [Z3 (by omega)] at hj hv;rw [<-hlen] at hv;generalize j - p.1.length=n at hj hv
      match n,hj,hv with
      |0,hj,hv=>
       cases hj;cases hv;exact⟨⟨_,_,rfl⟩,fun pl=>⟨hAl,trivial⟩⟩
      |1,hj,hv=>
       cases hj;cases hv;exact⟨⟨_,_,rfl⟩,fun pl=>⟨⟨rfl,h0one⟩,trivial⟩⟩
      |n+2,hj,hv=>simp at hj
    ·obtain⟨g,cs',e,_⟩:=kO hrd2 j _ hj;cases e
   have hpl' :(⟨r.res,[],r.lents⟩:CallO).plain=true:=by
    unfold CallO.plain at hpl ⊢;rw [Zv] at hpl;simp [hpl.1]
   have hfin:Mr ((gW (aP 0 (p.1++ [.val (.v false [.sl (.al (2*s+1) 0 []) T xs]),.val (.v false [.val h0])])).2 r.lents).bind fun ps=>M.pure (r.res,AbsCalls C.P sf (aP 0 (p.1++ [.val (.v false [.sl (.al (2*s+1) 0 []) T xs]),.val (.v false [.val h0])])).1 ⟨r.res,[],r.lents⟩::ps)) σ []=
    some ((r.res,AbsCalls C.P sf (aP 0 (p.1++ [.val (.v false [.sl (.al (2*s+1) 0 []) T xs]),.val (.v false [.val h0])])).1 ⟨r.res,[],r.lents⟩::ps),u):=by
    rw [mU,h7];rfl
   exact nJ (r:=⟨r.res,[],r.lents⟩) hi rfl hpl' hok hrd2 hfin (fun q hq=>by
    rcases Zo.1 hq with e|hq
    ·exact hob _ (by rw [e];exact Zp)
    ·exact hob _ (Zq _ (Zq _ hq)))
 ·exact(aD h2).elim
end
end Go.Ab
end
section
namespace Go.Ab
variable [Inhabited Lb]
def dY:Own->Option Own
 | .arr (.h 0) _ _=>none
 |l=>some l
theorem gP:RhoOk dY (fun pl _=>pl= .h 0) where
 box:=fun _=>rfl
 id:=fun pl c p h=>by
  unfold dY;split
  ·rename_i e;cases e;exact absurd rfl h
  ·rfl
 inj:=fun l1 l2 l h1 h2=>by
  have:∀l1,dY l1=some l->l1=l:=by
   intro l1 h;unfold dY at h;split at h
   ·cases h
   ·cases h;rfl
  rw [this _ h1,this _ h2]
 arr:=fun k c p s h=>by
  unfold dY at h;split at h
  ·cases h
  ·cases h
section
variable {C:Ctx} {σ:St} {a:Act} {E:Env} {u u' :Ups} {tt:TT} {o:Oper} {md:Md×Bool} {v:AV} {ob:List Prop}
theorem Hand.frz{tmps:Array Value}{w:World}{v:AV}{val:Value}(h:Hand C σ tmps w 0 v val):Hand C σ tmps w 0 (v.mapC CV.fz) val:=by
 obtain⟨E,rfl,hi,hv⟩:=h
 have cw:∀(pl:Pl) (c:Nat) (x:CV),pl≠ .h 0->CW (fun pl _=>pl= .h 0) False pl c x x:=fun pl c x hp=>
  .inr ⟨rfl,fun _ hd=>hp hd,fun k' c' _ hd=>(by cases hd),fun _ h=>h⟩
 have aw:∀(pl:Pl) (x:AV),pl≠ .h 0->AWk (fun pl _=>pl= .h 0) False pl x x:=by
  intro pl x h;have:=AWk.map (dk:=fun pl _=>pl= .h 0) (mu:=False) (pl:=pl) (f:=id) (fun c z=>cw pl c z h) x
  rwa [AV.mapC_id (f:=id) (fun _=>rfl)] at this
 refine⟨E.rel dY,rfl,hi.rel gP rfl (fun s h=>h) (fun t=> .inr ⟨aw _ _ (by simp),rfl⟩) (fun s cs' hs=> .inr ⟨cs',hs,?_⟩),?_⟩
 ·have:=CWs.map (dk:=fun pl _=>pl= .h 0) (mu:=False) (pl:= .k (2*s+1)) (f:=id) (fun c z=>cw _ c z (by simp)) cs' 0;simpa using this
 ·refine VR.imp (fun j x v _ hv=> ?_) hv;cases x with
  |sl f T xs=>
   cases f with
   |own=>exact RdP.mono hv (fun p b o ho=>⟨rfl,ho.1,by simp [Env.rel,ho.2,dY]⟩) (fun _ _ _ _=>trivial)
   |tip=>
    refine RdP.mono hv (fun p b o ho=>⟨rfl,ho.1,?_⟩) (fun _ _ _ _=>trivial);by_cases hp:p=[]
    ·simp [Env.rel,ho.2.1 hp,dY]
    ·simp [Env.rel,ho.2.2 hp]
   |al k1 c1 p1=>exact hv.rel (k' := .h 0) (c' :=j) gP (fun h=>by cases h) (fun k c h e=>by cases e)
   |ro=>exact hv.rel (k' := .h 0) (c' :=j) gP (fun h=>by cases h) (fun k c h e=>by cases e)
   |bor=>exact hv.rel (k' := .h 0) (c' :=j) gP (fun h=>by cases h) (fun k c h e=>by cases e)
   |lnt n=>exact hv.one
  |apd k1 c1 p1 T xs=>exact hv.one
  |_=>exact hv.rel (k' := .h 0) (c' :=j) gP (fun h=>by cases h) (fun k c h e=>by cases e)
theorem Hand.em{tmps:Array Value}{w:World}{v:AV}{val:Value}(h:Hand C σ tmps w 0 v val):Hand C σ tmps w 0 (v.mapC CV.em) val:=by
 obtain⟨E,rfl,hi,hv⟩:=h;refine⟨E,rfl,hi,VR.imp (fun j x v _ hv=> ?_) hv⟩;unfold CV.em;split
 ·rename_i T;obtain⟨ad,cap,rfl,_⟩:=RdP.shape hv;exact RdP.nil ad cap _ trivial
 ·exact hv
theorem Hand.sel{tmps:Array Value}{w:World}{v:AV}{val:Value}(o:Oper)(md:Md)(h:Hand C σ tmps w 0 v val):Hand C σ tmps w 0 (v.mapC (jJ o md)) val:=by
 cases md with
 |take=>
  unfold jJ;cases cT o
  ·exact h.frz
  ·exact h.em
 |_=>exact h.frz
end
end Go.Ab
end
section
namespace Go.Ab
variable [Inhabited Lb]
structure DecOk (σ:St) (dc:List (Nat×Bool)):Prop where
 dec:∀y∈dc,∀b,σ.get (2*y.1)= .v false [.bool b]->b=y.2
section
variable {C:Ctx} {σ:St} {a:Act} {E:Env} {u u' :Ups} {tt:TT} {o:Oper} {md:Md×Bool} {v:AV} {ob:List Prop}
theorem DecOk.toDec{dc:List (Nat×Bool)}(h:DecOk σ dc):Dec σ dc:=by
 intro t lit b hd hg;have:∀l:List (Nat×Bool),fE l t=some lit->(t,lit)∈l:=by
  intro l
  induction l with
  |nil=>intro h;cases h
  |cons y l ih=>
   obtain⟨k,c⟩:=y;intro h;simp only [fE] at h;cases e:k.beq t with
   |true=>
    rw [e] at h;obtain rfl:=Zl e;cases h;exact Zp
   |false=>rw [e] at h;exact Zq _ (ih h)
 exact h.dec _ (this _ hd) b hg
theorem uR(σ:St)(q:Nat):∀(u:Ups) (s:List Nat) (m:Bool),(∀x∈u,x.1≠q)->∃s' m',St.getS (u++σ) q s m=St.getS σ q s' m' :=by
 intro u
 induction u with
 |nil=>intro s m _;exact⟨s,m,rfl⟩
 |cons x u ih=>
  intro s m h;obtain⟨k,v⟩:=x;have hk:k.beq q=false:=by
   cases e:k.beq q with
   |false=>rfl
   |true=>exact absurd (Zl e) (h _ Zp)
  simp only [jO,St.getS,hk,jF];exact ih _ _ fun y hy=>h y (Zq _ hy)
theorem jP{b:Bool}{q:Nat}{u:Ups}(h:∀x∈u,x.1≠q)(hg:St.get (u++σ) q= .v false [.bool b]):σ.get q= .v false [.bool b]:=by
 obtain⟨s',m',e⟩:=uR σ q u [] false h;rw [St.get,e,St.getS_get] at hg;cases ha:σ.get q with
 |v g cs=>
  rw [ha] at hg;injection hg with h1 h2;subst h1;cases cs with
  |nil=>cases h2
  |cons c cs=>
   cases cs with
   |cons _ _=>simp at h2
   |nil=>
    simp only [ZX,Ys,Y6,and_true] at h2;rcases CV.stale_eq (s:=s') (m:=m') c with e|⟨e,_⟩
    ·rw [e] at h2;cases h2
    ·rw [e] at h2;rw [h2]
 |tup xs=>rw [ha] at hg;cases hg
 |none=>rw [ha] at hg;cases hg
theorem DecOk.app{dc:List (Nat×Bool)}(h:DecOk σ dc)(hu:u.all (fun x=>dc.all fun y=> !(x.1.beq (2*y.1)))=true):DecOk (u++σ) dc:=by
 refine⟨fun y hy b hg=>h.dec y hy b (jP (fun x hx e=> ?_) hg)⟩;have h1:=Zu.1 (Zu.1 hu x hx) y hy;rw [e] at h1;simp at h1
def Out(C:Ctx)(σ:St)(dc:List (Nat×Bool))(a:Act)(w:World):Prop:=R C σ a w/\DecOk σ dc
theorem mG{d:Nat}{w:World}{v:AV}{val:Value}(hd0:a.defers=[])(h:Hand C (u++σ) a.tmps w 0 v val)(hd:d<C.nt):
 R C (((2*d,v.mapC (CV.stale [2*d] false))::u)++σ) (a.put (some d) val) w:=by
 obtain⟨E,rfl,hi,hv⟩:=h;obtain⟨E',e1,_,_,e4⟩:=hi.put hv (d:=d) (by rw [hi.nt];exact hd);exact⟨hd0,E',e1,e4⟩
theorem wQ{w:World}{v:AV}{val:Value}(hd0:a.defers=[])(h:Hand C (u++σ) a.tmps w 0 v val):R C (u++σ) (a.put none val) w:=by
 obtain⟨E,rfl,hi,_⟩:=h;exact⟨hd0,E,rfl,hi⟩
theorem wU{nt:Nat}{gs:List Nat}{dc dc' :List (Nat×Bool)}{r r' :RS}{owed:List Prop}{blk:Ups}(hnt:C.nt=nt)
 (h:dD nt gs o dc r (some (v,owed),u)=some (dc',r',blk)) (hd0:a.defers=[]) (hdec:DecOk r.σ dc) (hob:∀p∈r'.ob,p):
 (∀p∈owed,p)/\∀val w,Hand C (u++r.σ) a.tmps w 0 v val->Out C r'.σ dc' (a.put o.dst val) w:=by
 simp only [dD] at h;cases hu:(u.all fun x=>dc.all fun y=> !(x.1.beq (2*y.1))) with
 |false=>rw [hu] at h;cases h
 |true=>
  rw [hu] at h;simp only [jT] at h;split at h
  ·rename_i d hdst;cases hc:(d.blt nt&&dc.all fun y=> !(d.beq y.1)) with
   |false=>rw [hc] at h;cases h
   |true=>
    rw [hc] at h;simp only [jT] at h;rw [Zv] at hc;have hdn:d<C.nt:=by rw [hnt];simpa [XQ] using hc.1
    have hne:∀y∈dc,d≠y.1:=fun y hy e=>by
     have:=Zu.1 hc.2 y hy;rw [e] at this;simp at this
    have hdec' :∀x,DecOk (((2*d,x)::u)++r.σ) dc:=fun x=>by
     have h1:=hdec.app hu;refine⟨fun y hy b hg=>h1.dec y hy b (jP (u:=[(2*d,x)]) (fun z hz e=> ?_) hg)⟩;simp at hz;subst hz;exact hne y hy (XM (by decide:0<2) e)
    cases hgs:gs.contains d with
    |false=>
     rw [hgs] at h;cases h;refine⟨fun p hp=>hob p (by simp [hp]),fun val w hv=>⟨?_,hdec' _⟩⟩;rw [hdst];exact mG hd0 hv hdn
    |true=>
     rw [hgs] at h;simp only [jT] at h;split at h
     ·rename_i b lit bs hbs;cases h;refine⟨fun p hp=>hob p (by simp [hp]),fun val w hv=>⟨?_,?_⟩⟩
      ·rw [hdst];exact mG hd0 hv hdn
      ·have hlit:b=lit:=hob _ Zp;refine⟨fun y hy b' hg=> ?_⟩;rcases Zo.1 hy with e|hy
       ·subst e;have:St.get (((2*d,(AV.v false [CV.bool b]).mapC (CV.stale [2*d] false))::u)++r.σ) (2*d)= .v false [.bool b]:=by
         show St.get ((2*d,_)::(u++r.σ)) (2*d)=_;rw [St.get_cons,Zw rfl];rfl
        rw [this] at hg;cases hg;exact hlit
       ·exact(hdec' _).dec y hy b' hg
     ·cases h
  ·rename_i hdst;cases h;refine⟨fun p hp=>hob p (by simp [hp]),fun val w hv=>⟨?_,hdec.app hu⟩⟩;rw [hdst];exact wQ hd0 hv
end
section
variable {C:Ctx} {σ:St} {a:Act} {u u' :Ups} {tt:TT} {o:Oper} {md:Md×Bool} {v:AV} {ob:List Prop} {dc dc' :List (Nat×Bool)} {orc:Option CallO} {Q:Exit->Act->World->Prop}
theorem sS{w:World}{E:Env}{m:Md}(hi:Inv C (St.get ([]++σ)) a.tmps E)(hw:E.w=w)(hc:cT o=true)(h:Mr (iA tt (AbsCalls C.P) m o dc orc) σ []=some ((v,ob),u))(hob:∀p∈ob,p):
 ∃f vals,(∀w,(execOp a.eval o).run C.P w=(callFunc f vals).run C.P w)/\Does C.P f vals w fun val w' =>Hand C (u++σ) a.tmps w' 0 v val:=by
 unfold cT at hc;split at hc
 ·rename_i c ho;split at hc
  ·rename_i x hcal;unfold iA at h;rw [ho] at h;simp only at h;split at h <;>rename_i hcf
   ·rw [hcal] at hcf;cases hcf
   ·rw [hcal] at hcf;cases hcf
   ·rw [hcal] at hcf;cases hcf
   ·rw [hcal] at hcf;cases hcf
   case h_7=>exact(aD h).elim
   case h_6=>
    rename_i t;split at h
    case h_2=>exact(aD h).elim
    rename_i r;exact yE hi hw ho hcf h hob
   rename_i f;split at h
   case h_2=>exact(aD h).elim
   rename_i r
   have ex:∀ {v' :AV} {u' :Ups},gF C (u' ++σ) a w c f v' ->∃f vals,(∀w,(execOp a.eval o).run C.P w=(callFunc f vals).run C.P w)/\Does C.P f vals w fun val w' =>Hand C (u' ++σ) a.tmps w' 0 v' val:=
    fun h=>⟨f,c.args.map a.eval,fun w=>n4 ho hcf rfl,h⟩
   split at h
   ·unfold nP at h;obtain⟨p,u2,h3,h4⟩:=aC h;obtain⟨rfl,hA⟩:=lA hi _ _ _ _ h3;refine⟨f,c.args.map a.eval,fun w=>n4 ho hcf rfl,nQ hi hw ?_ h4 hob⟩;rw [dI];exact hA
   split at h
   ·rename_i cs hn;obtain⟨hcall⟩:Nonempty (gF C (u++σ) a w c f v):=⟨wM hi hw hn h hob⟩;exact ex hcall
   unfold nH at h;by_cases hmt:m= .take
   ·subst hmt;exact ex (wB hi hw h hob)
   replace h:Mr (kW tt (AbsCalls C.P) m c f r) σ []=some ((v,ob),u):=by
    cases m with
    |take=>exact absurd rfl hmt
    |_=>exact h
   unfold kW at h;cases hpl:r.plain with
   |false=>rw [hpl] at h;exact(aD h).elim
   |true=>
    rw [hpl] at h;simp only [jT] at h;obtain⟨p,u1,h1,h2⟩:=aC h;obtain⟨rfl,hA⟩:=iT hi _ _ _ _ h1;refine ex ?_;cases m with
    |ref=>
     simp only at h2;cases hE:(aP 0 p.1).2.isEmpty with
     |true=>
      rw [hE] at h2;exact iU hi hw hpl hA h2 hob
     |false=>
     rw [hE] at h2;simp only [jF] at h2;split at h2
     ·rename_i hks houts;obtain⟨hr1,h3⟩:bT p.1=false/\_:=by
       cases hr:bT p.1 with
       |true=>rw [hr] at h2;exact(aD h2).elim
       |false=>rw [hr] at h2;exact⟨rfl,h2⟩
      rw [hks,<-dI] at hA;exact nJ hi hw hpl hA hr1 h3 hob
     ·exact(aD h2).elim
    |cp=>exact iU hi hw hpl hA h2 hob
    |take=>exact iU hi hw hpl hA h2 hob
  ·cases hc
 ·cases hc
theorem qY{P:Program}{ops:Array Oper}{i:Nat}{K:Act->World->Prop}{w:World}(hi:ops[i]? =some o)(hw:Region.wanted o (yielded ops a.tmps)=true)(h:o.wp P a w K Q):wpOp P ops Q i K a w:=by
 unfold wpOp;rw [hi];simp only [hw,ZB];exact .inl h
theorem qO{ops:Array Oper}{nt:Nat}{ms:List (Nat×Md×Bool)}{gs:List Nat}{i:Nat}{g:Option (Nat×Bool)}{r r' :RS}{e:Option Eff×Ups}{blk:Ups}{w:World}{K:Act->World->Prop}{k:Nat}
 (htt:aO C.P tt) (hi:ops[i]? =some o) (hg:eR ops o=some (g.map fun x=>(x.1,x.2))) (hm:(opM tt (AbsCalls C.P) (cJ ms k) o g dc (dK o r) []).run r.σ.get=some e)
 (hput:dD nt gs o dc r e=some (dc',r',blk)) (hR:R C r.σ a w) (hnt:C.nt=nt) (hdec:DecOk r.σ dc) (hob:∀p∈r'.ob,p) (hK:∀a' w',Out C r'.σ dc' a' w' ->K a' w'):wpOp C.P ops Q i K a w:=by
 have hg:eR ops o=some g:=by
  rw [hg];cases g <;>rfl
 obtain⟨hd0,E,rfl,hinv⟩:=hR;have hrun:Mr (opM tt (AbsCalls C.P) (cJ ms k) o g dc (dK o r)) r.σ []=some e:=hm;have wanted:∀(eff:Eff) (u:Ups),Mr (mC tt (AbsCalls C.P) (cJ ms k) o dc (dK o r)) r.σ []=some (eff,u)->e=(some eff,u)->o.wp C.P a E.w K Q:=by
  intro eff u h1 he;subst he;obtain⟨v,owed⟩:=eff;obtain⟨⟨v0,ob0⟩,u1,h2,h3⟩:=aC h1;obtain⟨e3,rfl⟩:=aE h3;cases e3;obtain⟨how,hout⟩:=wU (a:=a) hnt hput hd0 hdec hob;have hfz:∀val w,Hand C (u++r.σ) a.tmps w 0 v0 val->Hand C (u++r.σ) a.tmps w 0 (cond (cJ ms k).2 (v0.mapC (jJ o (cJ ms k).1)) v0) val:=by
   intro val w h;cases (cJ ms k).2 with
   |true=>exact h.sel o _
   |false=>exact h
  cases hc:cT o with
  |false=>
   rcases wW htt hinv rfl hdec.toDec hc h2 how with ⟨val,w',h4,h5⟩|⟨w',h4,h5⟩
   ·unfold Oper.wp;rw [h4];exact hK _ _ (hout _ _ (hfz _ _ h5))
   ·unfold Oper.wp;rw [h4];exact hK _ _ (hout _ _ (hfz _ _ h5))
  |true=>
   obtain⟨f,vals,hex,hcd⟩:=sS hinv rfl hc h2 how;unfold Oper.wp;rw [hex];rcases hcd with ⟨val,w',h4,h5⟩|⟨h4,h5⟩
   ·rw [h4];exact hK _ _ (hout _ _ (hfz _ _ h5))
   ·rw [h4];refine Calls.mono h5 fun e w'' he=> ?_;cases e with
    |returned val=>exact hK _ _ (hout _ _ (hfz _ _ he))
    |panicked ch=>exact he.elim
    |outgrown=>exact he.elim
 unfold opM at hrun;cases hgd:o.guard with
 |none=>
  have:g=none:=by unfold eR at hg;rw [hgd] at hg;cases hg;rfl
  subst this;obtain⟨eff,u,h1,h2⟩:=aC hrun;obtain⟨e1,e2⟩:=aE h2;exact qY hi (by simp [Region.wanted,hgd]) (wanted eff u h1 (by rw [<-e1,<-e2]))
 |some jw=>
  obtain⟨j,want⟩:=jw;have:∃t,(ops[j]?).bind (·.dst)=some t/\g=some (t,want):=by
   unfold eR at hg;rw [hgd] at hg;simp only at hg;split at hg
   ·rename_i t ht;cases hg;exact⟨t,ht,rfl⟩
   ·cases hg
  obtain⟨t,ht,rfl⟩:=this;simp only at hrun;obtain⟨x,u1,h1,h2⟩:=aC hrun;obtain⟨rfl,rfl⟩:=bN h1;have hvt:=hinv.tmp t;have notw:Region.wanted o (yielded ops a.tmps)=false->e=(none,[])->wpOp C.P ops Q i K a E.w:=by
   intro hw he;subst he;unfold wpOp;rw [hi];simp only [hw];refine hK _ _ ?_;simp only [dD] at hput;split at hput
   ·rename_i d hdst;cases hc:(d.blt nt&&dc.all fun y=> !(d.beq y.1)) with
    |false=>rw [hc] at hput;cases hput
    |true=>
     rw [hc] at hput;cases hput;rw [Zv] at hc;have hdn:d<C.nt:=by rw [hnt];simpa [XQ] using hc.1
     rw [hdst];refine⟨?_,⟨fun y hy b hgb=>hdec.dec y hy b (jP (u:=[(2*d,.tup [])]) (fun z hz e=> ?_) hgb)⟩⟩
     ·exact mG (u:=[]) (v:= .tup []) hd0 ⟨E,rfl,hinv, #[],rfl,trivial⟩ hdn
     ·simp at hz;subst hz;have:=Zu.1 hc.2 y hy;rw [show d=y.1 from XM (by decide:0<2) e] at this;simp at this
   ·rename_i hdst;cases hput;rw [hdst];exact⟨⟨hd0,E,rfl,hinv⟩,hdec⟩
  split at h2
  ·rename_i b hb;have hb:r.σ.get (2*t)= .v false [.bool b]:=hb;rw [hb] at hvt;have hvt:a.tmps.getD t undef= .bool b:=hvt.1;have hy:yielded ops a.tmps j=some b:=by
    unfold yielded;rw [ht];simp only [jS];have:a.tmps[t]? =some (.bool b):=by
     rw [Yv] at hvt;cases hq:a.tmps[t]? with
     |none=>rw [hq] at hvt;cases hvt
     |some x=>rw [hq] at hvt;exact Zd some hvt
    rw [this]
   split at h2
   ·rename_i b' hdb;have hbb:b=b' :=hdec.toDec _ _ _ hdb hb;subst hbb;cases hw:(b==want) with
    |true=>
     rw [hw] at h2;simp only [jT] at h2;obtain⟨eff,u,h3,h4⟩:=aC h2;obtain⟨e1,e2⟩:=aE h4;refine qY hi ?_ (wanted eff u h3 (by rw [<-e1,<-e2]));simp only [Region.wanted,hgd,hy];simp at hw;simp [hw]
    |false=>
     rw [hw] at h2;simp only [jF] at h2;obtain⟨e1,e2⟩:=aE h2;refine notw ?_ (by rw [<-e1,<-e2]);simp only [Region.wanted,hgd,hy];simp at hw;simp [hw]
   ·exact(aD h2).elim
  ·rename_i hb;have hb:r.σ.get (2*t)= .tup []:=hb;rw [hb] at hvt;obtain⟨vs,hvs,hvl⟩:=hvt;obtain⟨e1,e2⟩:=aE h2;refine notw ?_ (by rw [<-e1,<-e2]);have hy:yielded ops a.tmps j=none:=by
    unfold yielded;rw [ht];simp only [jS];rw [Yv] at hvs;cases hq:a.tmps[t]? with
    |none=>rfl
    |some x=>
     rw [hq] at hvs;have:x= .tuple vs:=hvs;rw [this]
   simp [Region.wanted,hgd,hy]
  ·exact(aD h2).elim
end
end Go.Ab
end
section
namespace Go.Ab
variable [Inhabited Lb]
def aI(b:Ups):List Nat:=b.map (·.1)
def cQ(ks:List Nat)(S:St):Prop:=∀x∈S,x.2.mute ks=true
theorem pC{ks:List Nat}{c:CV}{s:List Nat}{m m' :Bool}(h:(!(c.onKey ks||(ks.contains aB&&c.isBor)))=true){k' :List Nat}(hk:∀k∈k',k∈ks)(hm:m' =true->m=true\/aB∈ks):
 c.stale (s++k') (m||m')=c.stale s m:=by
 have h1:c.onKey ks=false:=by cases hc:c.onKey ks <;>simp_all
 have h2:aB∈ks->c.isBor=false:=by
  intro hm;have:ks.contains aB=true:=ZZ.2 hm;rw [this] at h;cases hb:c.isBor <;>simp_all
 have h3:c.onKey (s++k')=c.onKey s:=by
  have key:∀k,c.onKey ks=false->(ks.contains k=false\/∀s,c.onKey s=s.contains k->True):=fun _ _=> .inr fun _ _=>trivial;cases c with
  |sl f T xs=>
   cases f with
   |al k c p=>
    simp only [CV.onKey] at h1 ⊢;have hn:k ∉ k' :=fun hk' =>by
     have:=hk k hk';rw [ZZ.2 this] at h1;cases h1
    rw [YV];simp [hn]
   |_=>rfl
  |eref k c p i T x off=>
   simp only [CV.onKey] at h1 ⊢;have hn:k ∉ k' :=fun hk' =>by
    have:=hk k hk';rw [ZZ.2 this] at h1;cases h1
   rw [YV];simp [hn]
  |apd k c p T xs=>
   simp only [CV.onKey] at h1 ⊢;have hn:k ∉ k' :=fun hk' =>by
    have:=hk k hk';rw [ZZ.2 this] at h1;cases h1
   rw [YV];simp [hn]
  |_=>rfl
 unfold CV.stale;rw [h3];cases m with
 |true=>simp
 |false=>
  cases m' with
  |false=>rfl
  |true=>
   rcases hm rfl with h|h
   ·cases h
   ·simp [h2 h]
theorem wG{ks:List Nat}{a:AV}{s k' :List Nat}{m m' :Bool}(h:a.mute ks=true)(hk:∀k∈k',k∈ks)(hm:m' =true->m=true\/aB∈ks):
 a.mapC (CV.stale (s++k') (m||m'))=a.mapC (CV.stale s m):=by
 cases a with
 |none=>rfl
 |v g cs=>
  simp only [AV.mapC,AV.v.injEq,true_and];exact ZO fun c hc=>pC (Zu.1 h c hc) hk hm
 |tup xs=>
  simp only [AV.mapC,AV.tup.injEq];refine ZO fun x hx=> ?_;simp only [YT,true_and];exact ZO fun c hc=>pC (Zu.1 (Zu.1 h x hx) c hc) hk hm
theorem jK(S:St)(q:Nat):∀(b:Ups) (s:List Nat) (m:Bool),
 (q∈aI b->∀S',St.getS (b++S) q s m=St.getS (b++S') q s m)/\
 (q ∉ aI b->∃s' m',(∀k,k∈s' ↔k∈aI b\/k∈s)/\(m' =true↔aB∈aI b\/m=true)/\St.getS (b++S) q s m=St.getS S q s' m'):=by
 intro b
 induction b with
 |nil=>intro s m;exact⟨fun h=>absurd h (by simp [aI]),fun _=>⟨s,m,by simp [aI],by simp [aI],rfl⟩⟩
 |cons x b ih=>
  intro s m;obtain⟨k,v⟩:=x;cases hk:k.beq q with
  |true=>
   obtain rfl:=Zl hk;refine⟨fun _ S' =>by simp [St.getS],fun h=>absurd (by simp [aI]) h⟩
  |false=>
   have hne:q≠k:=fun e=>by rw [e] at hk;simp at hk
   obtain⟨i1,i2⟩:=ih (k::s) (m||k.beq aB);refine⟨fun h S' => ?_,fun h=> ?_⟩
   ·simp only [jO,St.getS,hk,jF];exact i1 (by simpa [aI,hne] using h) S'
   ·obtain⟨s',m',h1,h2,h3⟩:=i2 (fun h' =>h (by simp [aI] at h' ⊢;exact .inr h'));refine⟨s',m',fun k' => ?_,?_,?_⟩
    ·rw [h1];simp only [aI,ZX,Zo];constructor
     ·rintro (h|h|h)
      ·exact .inl (.inr h)
      ·exact .inl (.inl h)
      ·exact .inr h
     ·rintro ((h|h) |h)
      ·exact .inr (.inl h)
      ·exact .inl h
      ·exact .inr (.inr h)
    ·rw [h2];simp only [aI,ZX,Zo,YW];have:k.beq aB=true↔aB=k:=⟨fun h=>(Zl h).symm,fun h=>by rw [h];exact X5 k⟩;rw [this];constructor
     ·rintro (h|h|h)
      ·exact .inl (.inr h)
      ·exact .inr h
      ·exact .inl (.inl h)
     ·rintro ((h|h) |h)
      ·exact .inr (.inr h)
      ·exact .inl h
      ·exact .inr (.inl h)
    ·simp only [jO,St.getS,hk,jF];exact h3
theorem lJ{b:Ups}{S S' :St}{q:Nat}(h:q∈aI b):St.get (b++S) q=St.get (b++S') q:=(jK S q b [] false).1 h S'
theorem qM{s s' :List Nat}{m:Bool}(h:∀k,k∈s↔k∈s')(c:CV):c.stale s m=c.stale s' m:=by
 have:c.onKey s=c.onKey s' :=by
  have hk:∀k,s.contains k=s'.contains k:=fun k=>by rw [YV,ZZ,ZZ];exact h k
  cases c with
  |sl f T xs=>cases f <;>first |rfl|exact hk _
  |eref k c p i T x off=>exact hk _
  |apd k c p T xs=>exact hk _
  |_=>rfl
 unfold CV.stale;rw [this]
theorem uU{ks:List Nat}{S:St}(h:cQ ks S)(q:Nat):(S.get q).mute ks=true:=by
 have key:∀(S:St) (s:List Nat) (m:Bool),cQ ks S->(St.getS S q s m).mute ks=true:=by
  intro S
  induction S with
  |nil=>intros;rfl
  |cons x S ih=>
   intro s m h;obtain⟨k,v⟩:=x;simp only [St.getS];cases k.beq q with
   |false=>exact ih _ _ fun y hy=>h y (Zq _ hy)
   |true=>
    have hv:=h _ Zp;have cell:∀c:CV,(!(c.onKey ks||(ks.contains aB&&c.isBor)))=true->(!((c.stale s m).onKey ks||(ks.contains aB&&(c.stale s m).isBor)))=true:=by
     intro c hc;rcases CV.stale_eq (s:=s) (m:=m) c with e|⟨e,_⟩
     ·rw [e];simp [CV.onKey,CV.isBor]
     ·rw [e];exact hc
    simp only [jT];cases v with
    |none=>rfl
    |v g cs=>
     refine Zu.2 fun c hc=> ?_;obtain⟨c0,h0,rfl⟩:=Zk.1 hc;exact cell _ (Zu.1 hv c0 h0)
    |tup xs=>
     refine Zu.2 fun x hx=>Zu.2 fun c hc=> ?_;obtain⟨x0,hx0,rfl⟩:=Zk.1 hx;obtain⟨c0,h0,rfl⟩:=Zk.1 hc;exact cell _ (Zu.1 (Zu.1 hv x0 hx0) c0 h0)
 exact key S [] false h
theorem fI{b:Ups}{S:St}{q:Nat}{ks:List Nat}(h:q ∉ aI b)(hm:cQ ks S)(hk:∀k∈aI b,k∈ks):St.get (b++S) q=S.get q:=by
 obtain⟨s',m',h1,h2,h3⟩:=(jK S q b [] false).2 h;rw [St.get,h3,St.getS_get];have h4:(S.get q).mapC (CV.stale s' m')=(S.get q).mapC (CV.stale ([]++aI b) (false||m')):=by
  congr 1
  funext c
  exact qM (fun k=>by rw [h1];simp) c
 rw [h4,wG (uU hm q) hk (fun hm' =>by
  rcases h2.1 hm' with h|h
  ·exact .inr (hk _ h)
  ·cases h)]
 exact AV.mapC_id CV.stale_nil _
theorem lI{A:Ups}{S S' :St}{q:Nat}(h:S.get q=S'.get q):St.get (A++S) q=St.get (A++S') q:=by
 by_cases hq:q∈aI A
 ·exact lJ hq
 ·obtain⟨s',m',h1,h2,h3⟩:=(jK S q A [] false).2 hq;obtain⟨s2,m2,g1,g2,g3⟩:=(jK S' q A [] false).2 hq;rw [St.get,St.get,h3,g3,St.getS_get,St.getS_get,h];have hm:m' =m2:=by rw [YV,h2,g2]
  subst hm
  congr 1
  funext c
  exact qM (fun k=>by rw [h1,g1]) c
theorem uV{x y:Ups}{S:St}(hd:∀k∈aI x,k ∉ aI y)(hx:cQ (aI y) x)(hy:cQ (aI x) y)(hSx:cQ (aI x) S)(hSy:cQ (aI y) S)(q:Nat):
 St.get (x++(y++S)) q=St.get (y++(x++S)) q:=by
 have app:∀ {ks:List Nat} {a b:St},cQ ks a->cQ ks b->cQ ks (a++b):=fun ha hb z hz=>by
  rcases Za.1 hz with h|h
  ·exact ha z h
  ·exact hb z h
 by_cases h1:q∈aI x
 ·rw [lJ h1 (S' :=S),fI (hd q h1) (app hx hSy) (fun _ h=>h)]
 ·rw [fI h1 (app hy hSx) (fun _ h=>h)];by_cases h2:q∈aI y
  ·exact lJ h2
  ·rw [fI h2 hSy (fun _ h=>h),fI h2 (app hx hSy) (fun _ h=>h),fI h1 hSx (fun _ h=>h)]
end Go.Ab
end
section
namespace Go.Ab
variable [Inhabited Lb]
def flat(blk:Nat->Ups)(ord:List Nat):Ups:=(ord.map blk).flatten
theorem dH(blk:Nat->Ups)(i:Nat)(ord:List Nat):flat blk (i::ord)=blk i++flat blk ord:=by simp [flat]
theorem uJ(blk:Nat->Ups)(x y:List Nat):flat blk (x++y)=flat blk x++flat blk y:=by simp [flat]
def Closed(ah:Nat->List Nat):List Nat->Prop
 | []=>True
 |i::rest=>(∀j∈ah i,j∈rest)/\i ∉ rest/\Closed ah rest
def Opn(n:Nat)(ah:Nat->List Nat)(j:Nat):Prop:=∃i,i<n/\i≠j/\i ∉ ah j/\j ∉ ah i
structure Commutes (n:Nat) (ah:Nat->List Nat) (blk:Nat->Ups) (rd:Nat->List Nat) (S:St):Prop where
 lt:∀i j,j∈ah i->j<i
 keys:∀i j,i<n->j<n->i≠j->i ∉ ah j->j ∉ ah i->∀k∈aI (blk i),k ∉ aI (blk j)
 reads:∀i j,i<n->j<n->i≠j->i ∉ ah j->j ∉ ah i->∀k∈rd i,k ∉ aI (blk j)
 mute:∀i j,i<n->j<n->i≠j->Opn n ah j->cQ (aI (blk j)) (blk i)
 base:∀j,j<n->Opn n ah j->cQ (aI (blk j)) S
section
variable {n:Nat} {ah:Nat->List Nat} {blk:Nat->Ups} {rd:Nat->List Nat} {S:St} (hc:Commutes n ah blk rd S)
include hc
theorem Commutes.mute_flat{j:Nat}(hj:j<n)(ho:Opn n ah j){ord:List Nat}(h:∀i∈ord,i<n/\i≠j):cQ (aI (blk j)) (flat blk ord++S):=by
 induction ord with
 |nil=>simpa [flat] using hc.base j hj ho
 |cons i ord ih=>
  rw [dH,Zc];intro z hz;rcases Za.1 hz with h1|h1
  ·exact hc.mute i j (h i Zp).1 hj (h i Zp).2 ho z h1
  ·exact ih (fun j hj=>h j (Zq _ hj)) z h1
omit hc in
theorem Closed.pair{ord:List Nat}(h:Closed ah ord):ord.Pairwise (fun x y=>x ∉ ah y)/\ord.Nodup/\∀i∈ord,∀j∈ah i,j∈ord:=by
 induction ord with
 |nil=>simp
 |cons i ord ih=>
  obtain⟨h1,h2,h3⟩:=h;obtain⟨i1,i2,i3⟩:=ih h3;refine⟨ZS.2 ⟨fun y hy hi=>h2 (i3 y hy i hi),i1⟩,Yn.2 ⟨h2,i2⟩,fun x hx j hj=> ?_⟩;rcases Zo.1 hx with rfl|hx
  ·exact Zq _ (h1 j hj)
  ·exact Zq _ (i3 x hx j hj)
theorem Commutes.filter{i k:Nat}(hi:i<n)(hk:k∈rd i):∀ {ord:List Nat},ord.Nodup->(∀j∈ord,j<n/\j≠i/\i ∉ ah j)->
 St.get (flat blk ord++S) k=St.get (flat blk (ord.filter fun j=>(ah i).contains j)++S) k:=by
 intro ord
 induction ord with
 |nil=>intro _ _;rfl
 |cons j ord ih=>
  intro hnd h;obtain⟨nd1,nd2⟩:=Yn.1 hnd;have h' :=fun j hj=>h j (Zq _ hj);obtain⟨h1,h2,h3⟩:=h j Zp;rw [dH,Zc];cases hj:(ah i).contains j with
  |true=>
   rw [List.filter_cons_of_pos (by exact hj),dH,Zc];exact lI (ih nd2 h')
  |false=>
   rw [List.filter_cons_of_neg (by rw [hj];decide)];have hn:j ∉ ah i:=fun hm=>by rw [ZZ.2 hm] at hj;cases hj
   rw [fI (ks:=aI (blk j)) (hc.reads i j hi h1 (Ne.symm h2) h3 hn k hk) (hc.mute_flat h1 ⟨i,hi,Ne.symm h2,h3,hn⟩ fun x hx=>⟨(h' x hx).1,fun e=>nd1 (e ▸ hx)⟩) (fun _ h=>h)];exact ih nd2 h'
theorem Commutes.front{x:Nat}(hx:x<n):∀ {Y1 Y2:List Nat},(Y1++x::Y2).Nodup->(∀y∈Y1,y<n/\y≠x/\y ∉ ah x/\x ∉ ah y)->(∀y∈Y2,y<n)->∀q,
 St.get (flat blk (Y1++x::Y2)++S) q=St.get (flat blk (x::(Y1++Y2))++S) q:=by
 intro Y1
 induction Y1 with
 |nil=>intro Y2 _ _ _ q;rfl
 |cons y Y1 ih=>
  intro Y2 hnd h h2 q;obtain⟨nd1,nd2⟩:=Yn.1 hnd;obtain⟨_,nd3,nd4⟩:=Yq.1 nd2;have nd5:=(Yn.1 nd3).1;obtain⟨a1,a2,a3,a4⟩:=h y Zp;have h' :=fun z hz=>h z (Zq _ hz);have e1:St.get (flat blk (y::Y1++x::Y2)++S) q=St.get (blk y++(flat blk (x::(Y1++Y2))++S)) q:=by
   rw [jO,dH,Zc];exact lI (ih nd2 h' h2 q)
  have hin:∀z∈Y1++Y2,z<n/\z≠y/\z≠x:=fun z hz=>by
   rcases Za.1 hz with h3|h3
   ·exact⟨(h' z h3).1,fun e=>nd1 (e ▸ ZH _ h3),(h' z h3).2.1⟩
   ·exact⟨h2 z h3,fun e=>nd1 (e ▸ Yj _ (Zq _ h3)),fun e=>nd5 (e ▸ h3)⟩
  have oy:Opn n ah y:=⟨x,hx,Ne.symm a2,a4,a3⟩;have ox:Opn n ah x:=⟨y,a1,a2,a3,a4⟩
  rw [e1,dH,Zc,uV (hc.keys y x a1 hx a2 a3 a4) (hc.mute y x a1 hx a2 ox) (hc.mute x y hx a1 (Ne.symm a2) oy)
   (hc.mute_flat a1 oy fun z hz=>⟨(hin z hz).1,(hin z hz).2.1⟩) (hc.mute_flat hx ox fun z hz=>⟨(hin z hz).1,(hin z hz).2.2⟩)]
  rw [jO,dH,dH,Zc,Zc]
theorem Commutes.perm:∀ {X Y:List Nat},X.Pairwise (fun x y=>x ∉ ah y)->Y.Pairwise (fun x y=>x ∉ ah y)->X.Nodup->Y.Nodup->(∀j,j∈X↔j∈Y)->(∀j∈X,j<n)->∀q,
 St.get (flat blk X++S) q=St.get (flat blk Y++S) q:=by
 intro X
 induction X with
 |nil=>
  intro Y _ _ _ _ h _ q;have:Y=[]:=XW.2 fun j hj=>by have:=(h j).2 hj;cases this
  rw [this]
 |cons x X ih=>
  intro Y hX hY nX nY h hn q;obtain⟨Y1,Y2,rfl⟩:=List.append_of_mem ((h x).1 Zp);obtain⟨p1,p2⟩:=ZS.1 hX;obtain⟨n1,n2⟩:=Yn.1 nX;obtain⟨q1,q2,q3⟩:=List.pairwise_append.1 hY;obtain⟨q4,q5⟩:=ZS.1 q2;obtain⟨m1,m2,m3⟩:=Yq.1 nY;obtain⟨m4,m5⟩:=Yn.1 m2;have hmem:∀j,j∈X↔j∈Y1++Y2:=by
   intro j;have:=h j;simp only [Zo,Za] at this ⊢;constructor
   ·intro hj;rcases this.1 (.inr hj) with h1|h1|h1
    ·exact .inl h1
    ·subst h1;exact absurd hj n1
    ·exact .inr h1
   ·intro hj;have hjx:j≠x:=by
     rintro rfl;rcases hj with hj|hj
     ·exact m3 j hj j Zp rfl
     ·exact m4 hj
    rcases this.2 (hj.imp id .inr) with h1|h1
    ·exact absurd h1 hjx
    ·exact h1
  have hY1:∀y∈Y1,y<n/\y≠x/\y ∉ ah x/\x ∉ ah y:=by
   intro y hy;have hyX:=(hmem y).2 (ZH _ hy);exact⟨hn y (Zq _ hyX),fun e=>m3 y hy x Zp e,q3 y hy x Zp,p1 y hyX⟩
  have hY2:∀y∈Y2,y<n:=fun y hy=>hn y (Zq _ ((hmem y).2 (Yj _ hy)));rw [hc.front (hn x Zp) nY hY1 hY2 q,dH,dH,Zc,Zc];refine lI (ih p2 ?_ n2 ?_ hmem (fun j hj=>hn j (Zq _ hj)) q)
  ·exact List.pairwise_append.2 ⟨q1,q5,fun a ha b hb=>q3 a ha b (Zq _ hb)⟩
  ·exact Yq.2 ⟨m1,m5,fun a ha b hb=>m3 a ha b (Zq _ hb)⟩
theorem Commutes.read{i k:Nat}(hi:i<n)(hk:k∈rd i){X Y:List Nat}(hX:Closed ah X)(hY:Closed ah Y)(bX:∀j∈X,j<n)(bY:∀j∈Y,j<n)(iX:i ∉ X)(iY:i ∉ Y)
 (aX:∀j∈ah i,j∈X) (aY:∀j∈ah i,j∈Y):St.get (flat blk X++S) k=St.get (flat blk Y++S) k:=by
 have f:∀ {X:List Nat},Closed ah X->(∀j∈X,j<n)->i ∉ X->∀j∈X,j<n/\j≠i/\i ∉ ah j:=by
  intro X hX bX iX j hj;exact⟨bX j hj,fun e=>iX (e ▸ hj),fun h=>iX (hX.pair.2.2 j hj i h)⟩
 rw [hc.filter hi hk hX.pair.2.1 (f hX bX iX),hc.filter hi hk hY.pair.2.1 (f hY bY iY)];refine hc.perm (hX.pair.1.sublist YA) (hY.pair.1.sublist YA) (hX.pair.2.1.sublist YA) (hY.pair.2.1.sublist YA) (fun j=> ?_) (fun j hj=>bX j (YX.1 hj).1) k;simp only [YX,ZZ];exact⟨fun h=>⟨aY j h.2,h.2⟩,fun h=>⟨aX j h.2,h.2⟩⟩
theorem Commutes.std(m:Nat):Closed ah (List.range m).reverse:=by
 induction m with
 |zero=>trivial
 |succ m ih=>
  rw [List.range_succ,List.reverse_append];refine⟨fun j hj=> ?_,?_,ih⟩
  ·have:=hc.lt m j hj;simp;exact this
  ·simp
end
end Go.Ab
end
section
namespace Go.Ab
variable [Inhabited Lb]
theorem RT.run_congr{α:Type}{g g' :Nat->AV}:∀t:RT α,(∀k∈t.log g,g' k=g k)->t.run g' =t.run g
 | .ret _,_=>rfl
 | .fail,_=>rfl
 | .rd k f,h=>by
   have h1:=h k Zp;simp only [RT.run,h1];exact RT.run_congr (f (g k)) fun k' hk=>h k' (Zq _ hk)
theorem m9:∀(ops:List Oper) (ps:List (List Nat)),∃s,cD ops ps=ps++s
 | [],ps=>⟨[],by simp [cD]⟩
 |o::r,ps=>by
  obtain⟨s,h⟩:=m9 r (ps++ [(List.range ps.length).filter fun j=>o.after.toList.any fun e=>Region.binds .any e&&(e.on.beq j||((ps[e.on]?).getD []).contains j)]);exact⟨_,by rw [cD,h,Zc]⟩
theorem m8:∀(ops:List Oper) (ps:List (List Nat)),(cD ops ps).length=ps.length+ops.length
 | [],ps=>by simp [cD]
 |o::r,ps=>by rw [cD,m8];simp;omega
theorem mZ:∀(ops:List Oper) (ps:List (List Nat)) (m:Nat) (o:Oper),ops[m]? =some o->∃ps' s,cD ops ps=ps' ++s/\ps'.length=ps.length+m/\
 (cD ops ps)[ps.length+m]? =some ((List.range ps'.length).filter fun j=>o.after.toList.any fun e=>Region.binds .any e&&(e.on.beq j||((ps'[e.on]?).getD []).contains j))
 | [],ps,m,o,h=>by simp at h
 |o' ::r,ps,0,o,h=>by
  simp at h;subst h;obtain⟨s,hs⟩:=m9 r (ps++ [(List.range ps.length).filter fun j=>o'.after.toList.any fun e=>Region.binds .any e&&(e.on.beq j||((ps[e.on]?).getD []).contains j)]);refine⟨ps,_,by rw [cD,hs,Zc],rfl,?_⟩;rw [cD,hs,Nat.add_zero,Ze (by simp),Z3 (Zi _),XH]
  rfl
 |o' ::r,ps,m+1,o,h=>by
  obtain⟨ps',s,h1,h2,h3⟩:=mZ r (ps++ [(List.range ps.length).filter fun j=>o'.after.toList.any fun e=>Region.binds .any e&&(e.on.beq j||((ps[e.on]?).getD []).contains j)]) m o (by simpa using h);refine⟨ps',s,by rw [cD];exact h1,by rw [h2];simp;omega,?_⟩;rw [cD,<-h3]
  congr 1
  simp;omega
def ahd(ops:Array Oper)(i:Nat):List Nat:=((bQ ops.toList)[i]?).getD []
theorem mY{ops:Array Oper}{i j:Nat}(h:j∈ahd ops i):j<i/\∃o,ops[i]? =some o/\∃e∈o.after.toList,Region.binds .any e=true/\(e.on=j\/j∈ahd ops e.on):=by
 unfold ahd at h;cases hi:ops.toList[i]? with
 |none=>
  have hl:ops.toList.length<=i:=Xr.1 hi;have:(bQ ops.toList)[i]? =none:=Xr.2 (by rw [bQ,m8];simpa using hl);rw [this] at h;cases h
 |some o=>
  obtain⟨ps',s,h1,h2,h3⟩:=mZ ops.toList [] i o hi;simp only [jN,Zj] at h2 h3;rw [bQ,h3] at h;simp only [jG,YX,Yf,Y8,Zv,YW] at h;obtain⟨hj,e,he,hb,hd⟩:=h;refine⟨by rw [h2] at hj;exact hj,o,by rw [ZY] at hi;exact hi,e,he,hb,?_⟩;rcases hd with hd|hd
  ·exact .inl (Zl hd)
  ·refine .inr ?_;rw [ZZ] at hd;have hlt:e.on<ps'.length:=by
    rcases ZG e.on ps'.length with h|h
    ·exact h
    ·rw [Xr.2 h] at hd;cases hd
   unfold ahd bQ;rw [h1,Ze hlt];exact hd
theorem iB{nt:Nat}{gs:List Nat}{o:Oper}{dc dc' :List (Nat×Bool)}{r r' :RS}{e:Option Eff×Ups}{blk:Ups}(h:dD nt gs o dc r e=some (dc',r',blk)):
 r'.σ=blk++r.σ/\(∀σ2,dD nt gs o dc ⟨σ2,r.bs,r.cs,r.ob⟩ e=some (dc',⟨blk++σ2,r'.bs,r'.cs,r'.ob⟩,blk))/\(∀p∈r.ob,p∈r'.ob)/\
 (∀y∈dc'.take (dc'.length - dc.length),o.dst=some y.1/\gs.contains y.1=true)/\(∀d,o.dst=some d->2*d∈aI blk):=by
 obtain⟨eff,ups⟩:=e;cases eff with
 |none=>
  simp only [dD] at h ⊢;split at h
  ·rename_i d hd;cases hc:(d.blt nt&&dc.all fun y=> !(d.beq y.1)) with
   |false=>rw [hc] at h;cases h
   |true=>
    rw [hc] at h;simp only [jT] at h;cases h;exact⟨rfl,fun σ2=>by simp,fun p hp=>hp,by simp,fun d' hd' =>by rw [hd] at hd';cases hd';simp [aI]⟩
  ·rename_i hd;cases h;exact⟨rfl,fun σ2=>by simp,fun p hp=>hp,by simp,fun d' hd' =>by rw [hd] at hd';cases hd'⟩
 |some eff=>
  obtain⟨v,owed⟩:=eff;simp only [dD] at h ⊢;cases hu:(ups.all fun x=>dc.all fun y=> !(x.1.beq (2*y.1))) with
  |false=>rw [hu] at h;cases h
  |true=>
   rw [hu] at h;simp only [jT] at h ⊢;split at h
   ·rename_i d hd;cases hc:(d.blt nt&&dc.all fun y=> !(d.beq y.1)) with
    |false=>rw [hc] at h;cases h
    |true=>
     rw [hc] at h;simp only [jT] at h;cases hg:gs.contains d with
     |false=>
      rw [hg] at h;cases h;exact⟨rfl,fun σ2=>by simp,fun p hp=>by simp [hp],by simp,fun d' hd' =>by rw [hd] at hd';cases hd';simp [aI]⟩
     |true=>
      rw [hg] at h;simp only [jT] at h;split at h
      ·rename_i b lit bs hbs;cases h;refine⟨rfl,fun σ2=>by simp [hbs],fun p hp=>by simp [hp],fun y hy=> ?_,fun d' hd' =>by rw [hd] at hd';cases hd';simp [aI]⟩;have:y=(d,lit):=by
        rw [jC,Yu] at hy;simpa using hy
       subst this;exact⟨hd,hg⟩
      ·cases h
   ·rename_i hd;cases h;exact⟨rfl,fun σ2=>by simp,fun p hp=>by simp [hp],by simp,fun d' hd' =>by rw [hd] at hd';cases hd'⟩
section
variable {C:Ctx} {a:Act} {tt:TT} {Q:Exit->Act->World->Prop} {nt:Nat} {ms:List (Nat×Md×Bool)} {ops:Array Oper} {gs:List Nat}
theorem pZ:∀ {l:List Oper} {i:Nat} {dc:List (Nat×Bool)} {r r' :RS} {con:FuncId->List Arg->CallO->Prop},eB tt con nt ms ops gs l i dc r=some r' ->∀p∈r.ob,p∈r'.ob:=by
 intro l
 induction l with
 |nil=>intro i dc r r' con h;simp [eB] at h;subst h;exact fun p hp=>hp
 |cons o l ih=>
  intro i dc r r' con h;simp only [eB] at h;split at h
  ·split at h
   ·split at h
    ·rename_i q hq;obtain⟨dc',r1,blk⟩:=q;exact fun p hp=>ih h p ((iB hq).2.2.1 p hp)
    ·cases h
   ·cases h
  ·cases h
theorem xE(htt:aO C.P tt)(hnt:C.nt=nt):∀ {l:List Oper} {i:Nat} {dc:List (Nat×Bool)} {r r' :RS} {a:Act} {w:World},eB tt (AbsCalls C.P) nt ms ops gs l i dc r=some r' ->l=ops.toList.drop i->
 R C r.σ a w->DecOk r.σ dc->(∀p∈r'.ob,p)->(∀a' w',R C r'.σ a' w' ->Q .normal a' w')->wpOps C.P ops Q (List.range' i l.length) a w:=by
 intro l
 induction l with
 |nil=>
  intro i dc r r' a w h _ hR _ _ hQ;simp [eB] at h;subst h;exact hQ _ _ hR
 |cons o l ih=>
  intro i dc r r' a w h hl hR hdec hob hQ;simp only [eB] at h;split at h
  ·rename_i g hg;split at h
   ·rename_i e he;split at h
    ·rename_i q hq;obtain⟨dc',r1,blk⟩:=q;have hio:ops[i]? =some o:=by
      have:(ops.toList.drop i)[0]? =some o:=by rw [<-hl];rfl
      simpa using this
     have hl' :l=ops.toList.drop (i+1):=by
      rw [<-XO,<-hl];rfl
     rw [jC,List.range'_succ,wpOps_cons];refine qO (r:=r) (r' :=r1) htt hio (g:=g) (by rw [hg];cases g <;>rfl) he hq hR hnt hdec (fun p hp=>hob p (pZ h p hp)) fun a' w' hout=> ?_;exact ih h hl' hout.1 hout.2 hob hQ
    ·cases h
   ·cases h
  ·cases h
end
end Go.Ab
end
section
namespace Go.Ab
variable [Inhabited Lb]
theorem oJ(f:Nat->Ups)(m:Nat):flat f (List.range (m+1)).reverse=flat (fun j=>f (j+1)) (List.range m).reverse++f 0:=by
 rw [List.range_succ_eq_map,List.reverse_cons,uJ]
 congr 1
 ·unfold flat;rw [<-List.map_reverse,Yb]
  rfl
 ·simp [flat]
def bO(lg:List Log)(j:Nat):Ups:=(bZ lg j).2.1
section
variable {tt:TT} {nt:Nat} {ms:List (Nat×Md×Bool)} {ops:Array Oper} {gs:List Nat} {ah:List (List Nat)} {con:FuncId->List Arg->CallO->Prop}
theorem pY:∀ {l:List Oper} {i:Nat} {dc:List (Nat×Bool)} {r r' :RS} {lg:List Log},fR tt con nt ms ops gs ah l i dc r=some (r',lg)->
 lg.length=l.length/\(∀p∈r.ob,p∈r'.ob)/\r'.σ=flat (bO lg) (List.range l.length).reverse++r.σ/\
 ∀m,m<l.length->∃(o:Oper) (g:Option (Nat×Bool)) (dcm:List (Nat×Bool)) (rm:RS) (e:Option Eff×Ups) (q:List (Nat×Bool)×RS×Ups),l[m]? =some o/\eR ops o=some g/\
  (opM tt con (cJ ms (i+m)) o g (cS ops ((ah[i+m]?).getD []) dcm) (dK o rm) []).run rm.σ.get=some e/\dD nt gs o (cS ops ((ah[i+m]?).getD []) dcm) rm e=some q/\
  rm.σ=flat (bO lg) (List.range m).reverse++r.σ/\
  bZ lg m=((opM tt con (cJ ms (i+m)) o g (cS ops ((ah[i+m]?).getD []) dcm) (dK o rm) []).log rm.σ.get,q.2.2,q.1.take (q.1.length - (cS ops ((ah[i+m]?).getD []) dcm).length))/\
  (∀p∈q.2.1.ob,p∈r'.ob)/\(∀y∈dcm,y∈dc\/∃m',m' <m/\y∈(bZ lg m').2.2):=by
 intro l
 induction l with
 |nil=>
  intro i dc r r' lg h;simp only [fR] at h;cases h;exact⟨rfl,fun p hp=>hp,by simp [flat],fun m hm=>by simp at hm⟩
 |cons o l ih=>
  intro i dc r r' lg h;simp only [fR] at h;split at h
  ·rename_i g hg;split at h
   ·rename_i e he;split at h
    ·rename_i q hq;split at h
     ·rename_i r1 lg1 hrest;cases h;obtain⟨i1,i2,i3,i4⟩:=ih hrest;obtain⟨dc',r2,blk⟩:=q;have hs:=iB hq;refine⟨by simp [i1],fun p hp=>i2 p (hs.2.2.1 p hp),?_,fun m hm=> ?_⟩
      ·rw [jC,oJ,i3];show flat (bO lg1) _++r2.σ=_;rw [hs.1,Zc]
       rfl
      ·cases m with
       |zero=>exact⟨o,g,dc,r,e,(dc',r2,blk),rfl,hg,he,hq,by simp [flat],rfl,i2,fun y hy=> .inl hy⟩
       |succ m=>
        obtain⟨o1,g1,dcm,rm,e1,q1,j1,j2,j3,j4,j5,j6,j7,j8⟩:=i4 m (by simpa using hm);have hi:i+1+m=i+(m+1):=by omega
        rw [hi] at j3 j4 j6;refine⟨o1,g1,dcm,rm,e1,q1,by simpa using j1,j2,j3,j4,?_,j6,j7,fun y hy=> ?_⟩
        ·rw [oJ,j5];show flat (bO lg1) _++r2.σ=_;rw [hs.1,Zc]
         rfl
        ·rcases j8 y hy with h|⟨m',h1,h2⟩
         ·rcases Za.1 h with h|h
          ·exact .inr ⟨0,Nat.succ_pos m,h⟩
          ·exact .inl h
         ·exact .inr ⟨m' +1,by omega,h2⟩
     ·cases h
    ·cases h
   ·cases h
  ·cases h
end
theorem R.drew{C:Ctx}{σ:St}{a:Act}{w w' :World}(h:R C σ a w)(h1:w'.heap=w.heap)(h2:w'.os=w.os)(h3:w'.tape=w.tape)(h4:w'.output=w.output):R C σ a w' :=by
 obtain⟨hd,E,rfl,hi⟩:=h
 have hst:Step E { E with w:=w' } (fun _ _=>False) (fun _=>False) False:= {
  ro:=fun b hb=>⟨fun _=>hb,fun o ho=>⟨aT (by rw [h1]) o,ho⟩⟩
  own:=fun b k c p hb _=>⟨hb,rfl,by show w'.heap[b]? =_;rw [h1]⟩
  bor:=fun _ b o ho=>⟨aT (by rw [h1]) o,ho⟩
  box:=fun s hs _=>⟨rfl,hs,by show w'.heap[_]? =_;rw [h1]⟩
  hdr:=rfl }
 have cw:∀(pl:Pl) (c:Nat) (x:CV),CW (fun _ _=>False) False pl c x x:=fun pl c x=> .inr ⟨rfl,fun _ h=>h,fun _ _ _ h=>h,fun _ h=>h⟩
 refine⟨hd,{ E with w:=w' },rfl,hi.step hst h2 h3 h4 (by show _<=w'.heap.size;rw [h1];exact Zi _) (fun b hlt h0=>⟨by show w'.heap[b]? =_;rw [h1],rfl,(hi.old b hlt h0).2.2⟩)
  (fun b hb=>hi.new b (by have:w'.heap.size<=b:=hb;rwa [h1] at this)) hi.inj hi.boxhw rfl (fun s hs=>⟨hs,rfl⟩) (fun t=> .inr ⟨?_,rfl⟩) (fun s cs' hs=> .inr ⟨fun h=>h,cs',hs,?_⟩)⟩
 ·have:=AWk.map (dk:=fun _ _=>False) (mu:=False) (pl:= .k (2*t)) (f:=id) (fun c z=>cw _ c z) (σ.get (2*t))
  rwa [AV.mapC_id (f:=id) (fun _=>rfl)] at this
 ·have:=CWs.map (dk:=fun _ _=>False) (mu:=False) (pl:= .k (2*s+1)) (f:=id) (fun c z=>cw _ c z) cs' 0;simpa using this
theorem R.congr{C:Ctx}{σ σ' :St}{a:Act}{w:World}(h:∀q,σ.get q=σ'.get q)(hR:R C σ a w):R C σ' a w:=by
 have:σ.get=σ'.get:=funext h;unfold R at hR ⊢
 rwa [<-this]
theorem iP{x y:Log}(h:kP x y=true):(∀k∈x.keys,k ∉ y.keys)/\(∀k∈x.1,k ∉ y.keys)/\(∀k∈y.1,k ∉ x.keys):=by
 have d:∀ {xs ys:List Nat},i8 xs ys=true->∀k∈xs,k ∉ ys:=by
  intro xs ys h k hk hy;have:=Zu.1 h k hk;rw [ZZ.2 hy] at this;cases this
 simp only [kP,Zv] at h;exact⟨d h.1.1,d h.1.2,d h.2⟩
theorem mA:∀(n:Nat) (l:List Nat),l.Nodup->(∀x∈l,x<n)->l.length<=n
 |0,l,_,h=>by
  cases l with
  |nil=>simp
  |cons x l=>exact absurd (h x Zp) (YY x)
 |n+1,l,hn,h=>by
  by_cases hm:n∈l
  ·obtain⟨a,b,rfl⟩:=List.append_of_mem hm;obtain⟨m1,m2,m3⟩:=Yq.1 hn;obtain⟨m4,m5⟩:=Yn.1 m2;have:=mA n (a++b) (Yq.2 ⟨m1,m5,fun x hx y hy=>m3 x hx y (Zq _ hy)⟩) fun x hx=>by
    have h1:x<n+1:=h x (by
     rcases Za.1 hx with hx|hx
     ·exact ZH _ hx
     ·exact Yj _ (Zq _ hx))
    have h2:x≠n:=by
     rintro rfl;rcases Za.1 hx with hx|hx
     ·exact m3 x hx x Zp rfl
     ·exact m4 hx
    omega
   simp at this ⊢;omega
  ·have:=mA n l hn fun x hx=>by
    have h1:=h x hx;have h2:x≠n:=by rintro rfl;exact hm hx
    omega
   omega
theorem uQ{listed:Array Bool}{i:Nat}{d:Bool}(h:i<listed.size):(listed.setIfInBounds i true).getD i d=true:=by
 simp [Array.getD,h]
section
variable {C:Ctx} {tt:TT} {Q:Exit->Act->World->Prop} {nt:Nat} {ms:List (Nat×Md×Bool)} {ops:Array Oper} {gs:List Nat}
omit [Inhabited Lb] in
theorem wF{ks ks' :List Nat}(hk:∀k∈ks',k∈ks){a:AV}(h:a.mute ks=true):a.mute ks' =true:=by
 have cell:∀c:CV,(!(c.onKey ks||(ks.contains aB&&c.isBor)))=true->(!(c.onKey ks' ||(ks'.contains aB&&c.isBor)))=true:=by
  intro c hc;have con:∀k,ks'.contains k=true->ks.contains k=true:=fun k h=>ZZ.2 (hk k (ZZ.1 h));simp only [ZD,ZR] at hc ⊢;refine⟨?_,?_⟩
  ·cases h2:c.onKey ks' with
   |false=>rfl
   |true=>
    exfalso;have:c.onKey ks=true:=by
     cases c with
     |sl f T xs=>cases f <;>first |exact con _ h2|cases h2
     |eref k c p i T x off=>exact con _ h2
     |apd k c p T xs=>exact con _ h2
     |_=>cases h2
    rw [this] at hc;cases hc.1
  ·cases h2:(ks'.contains aB&&c.isBor) with
   |false=>rfl
   |true=>
    rw [Zv] at h2;have:=hc.2;rw [con _ h2.1,h2.2] at this;cases this
 cases a with
 |none=>rfl
 |v g cs=>exact Zu.2 fun c hc=>cell c (Zu.1 h c hc)
 |tup xs=>exact Zu.2 fun x hx=>Zu.2 fun c hc=>cell c (Zu.1 (Zu.1 h x hx) c hc)
theorem tJ{lg:List Log}{σ:St}(h:fF ops gs lg σ=true):Commutes ops.size (ahd ops) (bO lg) (fun i=>(bZ lg i).1) σ:=by
 simp only [fF,Zv] at h;obtain⟨⟨⟨⟨h1,h2⟩,h3⟩,h4⟩,h5⟩:=h;have hp:∀i j,i<j->j<ops.size->i ∉ ahd ops j->(i,j)∈fQ (bQ ops.toList) ops.size:=by
  intro i j hij hj hn;refine YP.2 ⟨j,Yf.2 hj,Zk.2 ⟨i,YX.2 ⟨Yf.2 hij,?_⟩,rfl⟩⟩;cases hc:(((bQ ops.toList)[j]?).getD []).contains i with
  |false=>rfl
  |true=>exact absurd (ZZ.1 hc) hn
 have hpair:∀i j,i<ops.size->j<ops.size->i≠j->i ∉ ahd ops j->j ∉ ahd ops i->((i,j)∈fQ (bQ ops.toList) ops.size\/(j,i)∈fQ (bQ ops.toList) ops.size):=by
  intro i j hi hj hne h1 h2;rcases Nat.lt_or_gt_of_ne hne with h|h
  ·exact .inl (hp i j h hj h1)
  ·exact .inr (hp j i h hi h2)
 have hopn:∀j,j<ops.size->Opn ops.size (ahd ops) j->j∈pO (fQ (bQ ops.toList) ops.size):=by
  rintro j hj ⟨i,hi,hne,a1,a2⟩;rcases hpair i j hi hj hne a1 a2 with hm|hm
  ·exact YP.2 ⟨_,hm,by simp⟩
  ·exact YP.2 ⟨_,hm,by simp⟩
 have hkeys:∀j,j<ops.size->Opn ops.size (ahd ops) j->∀k∈aI (bO lg j),k∈pP lg (fQ (bQ ops.toList) ops.size):=by
  rintro j hj ⟨i,hi,hne,a1,a2⟩ k hk;rcases hpair i j hi hj hne a1 a2 with hm|hm
  ·exact YP.2 ⟨_,hm,Yj _ hk⟩
  ·exact YP.2 ⟨_,hm,ZH _ hk⟩
 refine⟨fun i j h=>(mY h).1,fun i j hi hj hne a1 a2 k hk=> ?_,fun i j hi hj hne a1 a2 k hk=> ?_,fun i j hi hj hne ho x hx=> ?_,fun j hj ho x hx=>wF (hkeys j hj ho) (Zu.1 h2 x hx)⟩
 ·rcases hpair i j hi hj hne a1 a2 with hm|hm
  ·exact(iP (Zu.1 h1 _ hm)).1 k hk
  ·exact fun hk' =>(iP (Zu.1 h1 _ hm)).1 k hk' hk
 ·rcases hpair i j hi hj hne a1 a2 with hm|hm
  ·exact(iP (Zu.1 h1 _ hm)).2.1 k hk
  ·exact(iP (Zu.1 h1 _ hm)).2.2 k hk
 ·have g1:=Zu.1 h3 i (Yf.2 hi);have g2:=Zu.1 g1 j (hopn j hj ho);rw [YW] at g2;rcases g2 with g2|g2
  ·exact absurd (Zl g2) hne
  ·exact Zu.1 g2 x hx
theorem tK(htt:aO C.P tt)(hnt:C.nt=nt){r r' :RS}{lg:List Log}{a:Act}{w:World}(h:fR tt (AbsCalls C.P) nt ms ops gs (bQ ops.toList) ops.toList 0 [] r=some (r',lg))
 (hok:fF ops gs lg r.σ=true) (hR:R C r.σ a w) (hob:∀p∈r'.ob,p) (hQ:∀a' w',R C r'.σ a' w' ->Q .normal a' w'):
 wpAny C.P .any ops Q ops.size (Array.replicate ops.size false) a w:=by
 have hc:=tJ hok;obtain⟨s1,s2,s3,s4⟩:=pY h;simp only [Array.length_toList,Zj] at s1 s3 s4;simp only [fF,Zv] at hok;obtain⟨⟨_,hedge⟩,huniq⟩:=hok;have hedge:∀(i:Nat) (o:Oper),ops[i]? =some o->∀e∈o.after.toList,Region.binds .any e=true->e.on<i:=by
  intro i o hi e he hb;have hm:(o,i)∈ops.toList.zipIdx:=by
   rw [List.mem_zipIdx_iff_getElem?];simpa using hi
  have h1:=Zu.1 hedge (o,i) hm;rw [Array.all_eq_true_iff_forall_mem] at h1;have h2:=h1 e (by simpa using he);simp only [hb,jU,ZE] at h2;exact XQ.mp h2
 have huniq:∀(i j d:Nat) (o:Oper),ops[i]? =some o->o.dst=some d->gs.contains d=true->j<ops.size->i≠j->2*d ∉ aI (bO lg j):=by
  intro i j d o hi hd hg hj hne hm;have hin:i<ops.size:=(Zg.1 hi).1;have h1:=Zu.1 huniq i (Yf.2 hin);simp only [hi,jS,hd,hg,jT] at h1;have h2:=Zu.1 h1 j (Yf.2 hj);rw [YW] at h2;rcases h2 with h2|h2
  ·exact hne (Zl h2)
  ·have:(bZ lg j).keys.contains (2*d)=true:=ZZ.2 hm;rw [this] at h2;cases h2
 have main:∀(fuel:Nat) (listed:Array Bool) (ord:List Nat) (a:Act) (w:World),listed.size=ops.size->Closed (ahd ops) ord->(∀i,i∈ord↔i<ops.size/\listed.getD i true=true)->ord.length+fuel=ops.size->
  R C (flat (bO lg) ord++r.σ) a w->(∀j∈ord,∀y∈(bZ lg j).2.2,∀b,St.get (flat (bO lg) ord++r.σ) (2*y.1)= .v false [.bool b]->b=y.2)->wpAny C.P .any ops Q fuel listed a w:=by
  have done:∀(listed:Array Bool) (ord:List Nat) (a:Act) (w:World),listed.size=ops.size->Closed (ahd ops) ord->(∀i,i∈ord↔i<ops.size/\listed.getD i true=true)->R C (flat (bO lg) ord++r.σ) a w->
   (∀i,i<ops.size->i∈ord)->Q .normal a w:=by
   intro listed ord a w hsz hcl hm hR hall;refine hQ a w (R.congr (fun q=> ?_) hR);rw [s3];refine hc.perm hcl.pair.1 (hc.std ops.size).pair.1 hcl.pair.2.1 (hc.std ops.size).pair.2.1 (fun j=> ?_) (fun j hj=>((hm j).1 hj).1) q;simp only [Xm,Yf];exact⟨fun hj=>((hm j).1 hj).1,hall j⟩
  have rdy:∀(listed:Array Bool) (ord:List Nat),listed.size=ops.size->Closed (ahd ops) ord->(∀i,i∈ord↔i<ops.size/\listed.getD i true=true)->Region.ready .any ops listed=[]->∀i,i<ops.size->i∈ord:=by
   intro listed ord hsz hcl hm hr i
   induction i using Nat.strongRecOn with
   |_ i ih=>
    intro hi;refine YM fun hn=> ?_;have hio:=Xq hi;have:i∈Region.ready .any ops listed:=by
     refine mem_ready.2 ⟨?_,_,hio,fun e he hb=> ?_⟩
     ·cases hl:listed.getD i true with
      |false=>rfl
      |true=>exact absurd ((hm i).2 ⟨hi,hl⟩) hn
     ·have hlt:=hedge i _ hio e (by simpa using he) hb;have h1:=((hm e.on).1 (ih e.on hlt (by omega))).2;have hs:e.on<listed.size:=by omega
      simpa [Array.getD,hs] using h1
    rw [hr] at this;cases this
  intro fuel
  induction fuel with
  |zero=>
   intro listed ord a w hsz hcl hm hlen hR hdec;have hall:∀i,i<ops.size->i∈ord:=by
    intro i hi;refine YM fun hn=> ?_;have hnd:(i::ord).Nodup:=Yn.2 ⟨hn,hcl.pair.2.1⟩;have:=mA ops.size (i::ord) hnd fun j hj=>by
     rcases Zo.1 hj with rfl|hj
     ·exact hi
     ·exact((hm j).1 hj).1
    simp at this;omega
   refine⟨?_,done listed ord a w hsz hcl hm hR hall⟩;rw [XW];intro i hi;obtain⟨h0,o,ho,_⟩:=mem_ready.1 hi;have:=((hm i).1 (hall i (Zg.1 ho).1)).2;rw [h0] at this;cases this
  |succ fuel ih=>
   intro listed ord a w hsz hcl hm hlen hR hdec;refine⟨fun hr=>done listed ord a w hsz hcl hm hR (rdy listed ord hsz hcl hm hr),fun i hi=> ?_⟩;obtain⟨h0,o',ho',hedges⟩:=mem_ready.1 hi;have hin:i<ops.size:=(Zg.1 ho').1;have hni:i ∉ ord:=fun h=>by have:=((hm i).1 h).2;rw [h0] at this;cases this
   have hord:∀j∈ord,j<ops.size:=fun j hj=>((hm j).1 hj).1;have hah:∀j∈ahd ops i,j∈ord:=by
    intro j hj;obtain⟨_,o2,ho2,e,he,hb,hd⟩:=mY hj;rw [ho'] at ho2;cases ho2;have hlt:=hedge i _ ho' e he hb;have hl:=hedges e (by simpa using he) hb;have hs:e.on<listed.size:=by omega
    have he2:e.on∈ord:=(hm e.on).2 ⟨by omega,by simpa [Array.getD,hs] using hl⟩;rcases hd with rfl|hd
    ·exact he2
    ·exact hcl.pair.2.2 _ he2 _ hd
   obtain⟨o,g,dcm,rm,e,q,j1,j2,j3,j4,j5,j6,j7,j8⟩:=s4 i hin
   have hoo:ops[i]? =some o:=by rw [<-ZY];exact j1
   obtain⟨dc',r2,blk⟩:=q;obtain⟨p1,p2,p3,p4,p5⟩:=iB j4;have hblk:bO lg i=blk:=by unfold bO;rw [j6]
   have hown:(bZ lg i).2.2=dc'.take (dc'.length - (cS ops (((bQ ops.toList)[i]?).getD []) dcm).length):=by rw [j6]
   have hrd:(bZ lg i).1=(opM tt (AbsCalls C.P) (cJ ms i) o g (cS ops (((bQ ops.toList)[i]?).getD []) dcm) (dK o rm) []).log rm.σ.get:=by rw [j6]
   have who:∀j,j<ops.size->∀y∈(bZ lg j).2.2,∃oj,ops[j]? =some oj/\oj.dst=some y.1/\gs.contains y.1=true:=by
    intro j hj y hy;obtain⟨oj,gj,dcj,rj,ej,qj,k1,k2,k3,k4,k5,k6,k7,k8⟩:=s4 j hj;obtain⟨dcj',rj2,blkj⟩:=qj;rw [k6] at hy;obtain⟨h1,h2⟩:=(iB k4).2.2.2.1 y hy;exact⟨oj,by rw [<-ZY];exact k1,h1,h2⟩
   have hwrites:∀j oj d,ops[j]? =some oj->oj.dst=some d->2*d∈aI (bO lg j):=by
    intro j oj d hj hd;obtain⟨oj',gj,dcj,rj,ej,qj,k1,k2,k3,k4,k5,k6,k7,k8⟩:=s4 j (Zg.1 hj).1;obtain⟨dcj',rj2,blkj⟩:=qj;have:oj' =oj:=by
     have h1:ops[j]? =some oj' :=by rw [<-ZY];exact k1
     rw [hj] at h1;exact(Yz h1).symm
    subst this;have:=(iB k4).2.2.2.2 d hd;unfold bO;rw [k6];exact this
   have hdecF:DecOk (flat (bO lg) ord++r.σ) (cS ops (((bQ ops.toList)[i]?).getD []) dcm):=by
    refine⟨fun y hy b hb=> ?_⟩;obtain⟨hy1,hy2⟩:=YX.1 hy;obtain⟨j,hj,hjd⟩:=Y8.1 hy2;have hjo:=hah j hj;cases hoj:ops[j]? with
    |none=>rw [hoj] at hjd;cases hjd
    |some oj=>
     rw [hoj] at hjd;simp only [jS] at hjd;cases hd:oj.dst with
     |none=>rw [hd] at hjd;cases hjd
     |some dd=>
      rw [hd] at hjd;simp only at hjd;have hjd:=Zl hjd;subst hjd;rcases j8 y hy1 with h|⟨m',hm',hym⟩
      ·cases h
      ·obtain⟨om,hom,homd,hgm⟩:=who m' (by omega) y hym;have:m' =j:=by
        refine YM fun hne=> ?_;exact huniq m' j y.1 om hom homd hgm (hord j hjo) hne (hwrites j oj y.1 hoj hd)
       subst this;exact hdec m' hjo y hym b hb
   have hrun:(opM tt (AbsCalls C.P) (cJ ms i) o g (cS ops (((bQ ops.toList)[i]?).getD []) dcm) (dK o rm) []).run (St.get (flat (bO lg) ord++r.σ))=some e:=by
    rw [<-j3];refine RT.run_congr _ fun k hk=> ?_;rw [j5];refine hc.read hin (by rw [hrd];exact hk) hcl (hc.std i) hord (fun j hj=> ?_) hni (by simp) hah (fun j hj=> ?_)
    ·simp at hj;omega
    ·simp;exact hc.lt i j hj
   refine qO (r:=⟨flat (bO lg) ord++r.σ,rm.bs,rm.cs,rm.ob⟩) htt hoo (g:=g) (by rw [j2];cases g <;>rfl) hrun (p2 _) hR hnt hdecF (fun p hp=>hob p (j7 p hp)) fun a' w' hout=> ?_;have hsz2:(listed.setIfInBounds i true).size=ops.size:=by simpa using hsz
   have hil:i<listed.size:=by omega
   have hfl:flat (bO lg) (i::ord)++r.σ=blk++(flat (bO lg) ord++r.σ):=by rw [dH,hblk,Zc]
   refine ih _ (i::ord) a' w' hsz2 ⟨hah,hni,hcl⟩ (fun j=> ?_) (by simp;omega) (by rw [hfl];exact hout.1) (fun j hj y hy b hb=> ?_)
   ·by_cases hji:j=i
    ·subst hji;simp [hin,uQ hil]
    ·rw [getD_set_ne _ (Ne.symm hji),<-hm j];simp [hji]
   ·rw [hfl] at hb;rcases Zo.1 hj with rfl|hj
    ·exact hout.2.dec y (ZI (by rw [<-hown];exact hy)) b hb
    ·obtain⟨oj,hoj,hdj,hgj⟩:=who j (hord j hj) y hy;have hne:j≠i:=fun e=>hni (e ▸ hj);refine hdec j hj y hy b (jP (u:=blk) (fun x hx e=> ?_) hb);refine huniq j i y.1 oj hoj hdj hgj hin hne ?_;rw [hblk];exact Zk.2 ⟨x,hx,e⟩
 refine main ops.size _ [] a w (by simp) trivial (fun i=> ?_) (by simp) (by simpa [flat] using hR) (by simp);constructor
 ·intro h;cases h
 ·rintro ⟨h1,h2⟩;simp [Array.getD,h1] at h2
end
end Go.Ab
end
section
namespace Go.Ab
variable [Inhabited Lb]
def kH(tmps:Array Value):ResultVar->Sem Value
 | .tmp t=>pure (tmps.getD t undef)
 | .cell a t=>do loadVar t (<-asAddr (tmps.getD a undef))
theorem vZ{P:Program}{w:World}{α β:Type}{f:α->Sem β}:∀ {l:List α} {vs:List β},l.length=vs.length->(∀(i:Nat) (x:α) (v:β),l[i]? =some x->vs[i]? =some v->(f x).run P w= .ok v w)->(l.mapM f).run P w= .ok vs w:=by
 intro l
 induction l with
 |nil=>
  intro vs h _;cases vs with
  |nil=>rfl
  |cons v vs=>simp at h
 |cons x l ih=>
  intro vs h hv;cases vs with
  |nil=>simp at h
  |cons v vs=>
   have h1:=hv 0 x v rfl rfl;have h2:=ih (vs:=vs) (by simpa using h) fun i y u hy hu=>hv (i+1) y u (by simpa using hy) (by simpa using hu);rw [List.mapM_cons,Sem.run_bind,h1];simp only [Result.andThen_ok];rw [Sem.run_bind,h2]
   rfl
def mR:List Value->Value
 | [v]=>v
 |vs=> .tuple vs.toArray
theorem qA{P:Program}{w:World}{fn:Func}{rs:List ResultVar}{tmps:Array Value}{vs:List Value}(h:fn.results.toList=rs)(hl:rs.length=vs.length)
 (hv:∀(i:Nat) (x:ResultVar) (v:Value),rs[i]? =some x->vs[i]? =some v->(kH tmps x).run P w= .ok v w):
 (results fn tmps).run P w= .ok (mR vs) w:=by
 have e:fn.results=rs.toArray:=by rw [<-h]
 have:(results fn tmps)=(do
  let vs <-fn.results.mapM (kH tmps)
  pure (if h:vs.size=1 then vs[0] else .tuple vs)):=by
  unfold results
  congr 1
 rw [this,Sem.run_bind,e,Array.mapM_eq_mapM_toList,map_eq_pure_bind,Sem.run_bind,vZ hl hv];simp only [Result.andThen_ok,Sem.run_pure]
 match vs with
 | []=>rfl
 | [v]=>rfl
 |a::b::c=>rfl
def eD:Nat->List (Nat×Bool×List CV)->Own->Own->Prop
 |_,[],_,_=>False
 |off,x::xs,l,l' =>(∃c p,c<x.2.2.length/\l= .arr (.k x.1) c p/\l' = .arr (.h 0) (off+c) p)\/eD (off+x.2.2.length) xs l l'
theorem bS:∀ {xs:List (Nat×Bool×List CV)} {off:Nat} {l l' :Own},eD off xs l l' ->∃q c p c',q∈xs.map (fun x=>x.1)/\l= .arr (.k q) c p/\l' = .arr (.h 0) c' p/\off<=c'
 | [],_,_,_,h=>h.elim
 |x::xs,off,l,l',h=>by
  rcases h with ⟨c,p,h1,rfl,rfl⟩|h
  ·exact⟨x.1,c,p,_,by simp,rfl,rfl,Yi _ _⟩
  ·obtain⟨q,c,p,c',h1,h2,h3,h4⟩:=bS h;exact⟨q,c,p,c',by simp at h1 ⊢;exact .inr h1,h2,h3,by omega⟩
theorem p7:∀ {xs:List (Nat×Bool×List CV)} {off:Nat} {l a b:Own},aR (xs.map fun x=>x.1)=true->eD off xs l a->eD off xs l b->a=b
 | [],_,_,_,_,_,h,_=>h.elim
 |x::xs,off,l,a,b,hn,ha,hb=>by
  obtain⟨n1,n2⟩:=gZ hn;rcases ha with ⟨c,p,h1,rfl,rfl⟩|ha <;>rcases hb with ⟨c',p',h1',e,rfl⟩|hb
  ·cases e;rfl
  ·obtain⟨q,c',p',c2,h2,e,_⟩:=bS hb;cases e;exact absurd rfl (n1 _ h2)
  ·obtain⟨q,c2,p2,c3,h2,e2,_⟩:=bS ha;rw [e] at e2;cases e2;exact absurd rfl (n1 _ h2)
  ·exact p7 n2 ha hb
theorem p8:∀ {xs:List (Nat×Bool×List CV)} {off:Nat} {l a b:Own},eD off xs a l->eD off xs b l->a=b
 | [],_,_,_,_,h,_=>h.elim
 |x::xs,off,l,a,b,ha,hb=>by
  rcases ha with ⟨c,p,h1,rfl,rfl⟩|ha <;>rcases hb with ⟨c',p',h1',rfl,e⟩|hb
  ·injection e with _ e1 e2;have:c=c' :=by omega
   subst this e2
   rfl
  ·obtain⟨q,c',p',c2,h2,_,e,h3⟩:=bS hb;injection e with _ e1 e2;omega
  ·obtain⟨q,c2,p2,c3,h2,_,e2,h3⟩:=bS ha;rw [e2] at e;injection e with _ e1 e2;omega
  ·exact p8 ha hb
theorem nR{l:List Nat}{x:Nat}:l.contains x=true↔x∈l:=ZZ
theorem pK:∀ {x y:List Nat},aR (x++y)=true->aR x=true/\aR y=true/\∀a∈x,a ∉ y
 | [],y,h=>⟨rfl,h,by simp⟩
 |a::x,y,h=>by
  obtain⟨h1,h2⟩:=gZ (x:=a) (r:=x++y) h;obtain⟨i1,i2,i3⟩:=pK h2;refine⟨?_,i2,fun b hb=> ?_⟩
  ·simp only [aR,Zv,ZD];refine⟨?_,i1⟩;cases hc:x.contains a with
   |false=>rfl
   |true=>exact absurd rfl (h1 a (ZH _ (nR.1 hc)))
  ·rcases Zo.1 hb with rfl|hb
   ·exact fun hy=>h1 b (Yj _ hy) rfl
   ·exact i3 b hb
section
variable {C:Ctx} {σ:St} {tmps:Array Value} {E:Env} {tt:TT}
theorem gO{E' :Env}{φ:Own->Option Own}(hw:E'.w=E.w)(hhw:E'.hw=E.hw)(how:∀b,E'.ow b=(E.ow b).bind φ){bxs:Nat->Prop}{pl pl' :Pl}{c c' :Nat}{x:CV}{v:Value}(hx:x.plain=true)
 (hm:∀p,φ (.arr pl c p)=some (.arr pl' c' p)) (hv:VRc E bxs pl c x v):VRc E' aJ pl' c' x v:=by
 have tip:∀ {p:List (Nat×Nat)} {v:Value} {sz:Nat},Tip E (.arr pl c p) v sz->Tip E' (.arr pl' c' p) v sz:=by
  intro p v sz ht;unfold Tip at ht ⊢;split at ht
  ·obtain⟨h1,h2,h3,h4⟩:=ht;exact⟨by rw [how,h1];exact hm p,by rw [hhw];exact h2,h3,by rw [hw];exact h4⟩
  ·exact ht
  ·exact ht.elim
 cases x with
 |sl f T xs=>
  cases f with
  |ro=>
   exact RdP.mono (w' :=E'.w) hv (fun p b o ho=>⟨by rw [hw],by rw [hhw];exact ho.1,by rw [how,ho.2];rfl⟩) (fun _ _ _ _=>trivial)
  |own=>exact RdP.mono (w' :=E'.w) hv (fun p b o ho=>⟨by rw [hw],by rw [hhw];exact ho.1,by rw [how,ho.2];exact hm p⟩) (fun p v sz ht=>tip ht)
  |tip=>
   refine RdP.mono (w' :=E'.w) hv (fun p b o ho=>⟨by rw [hw],by rw [hhw];exact ho.1,fun hp=> ?_,fun hp=> ?_⟩) (fun p v sz ht hp=>tip (ht hp))
   ·rw [how,ho.2.1 hp];exact hm p
   ·rw [how,ho.2.2 hp];rfl
  |_=>cases hx
 |int k n=>exact hv
 |bool b=>exact hv
 |str s=>exact hv
 |val s=>exact hv
 |_=>cases hx
theorem oE{E' :Env}{φ:Own->Option Own}(hw:E'.w=E.w)(hhw:E'.hw=E.hw)(hh:E'.hdr=E.hdr)(how:∀b,E'.ow b=(E.ow b).bind φ){bxs:Nat->Prop}{pl pl' :Pl}{c c' n:Nat}{T:Ty}{xs:List T.den}{v:Value}
 (hm:∀p,φ (.arr pl c p)=some (.arr pl' c' p)) (hv:VRc E bxs pl c (.sl (.lnt n) T xs) v):VRc E' aJ pl' c' (.sl (.lnt n) T xs) (E'.hdr n):=by
 have hq:v=E.hdr n:=(RdP.top hv).2 rfl;rw [hh,<-hq];refine RdP.mono (w' :=E'.w) hv (fun p b o ho=>⟨by rw [hw],by rw [hhw];exact ho.1,by rw [how,ho.2];exact hm p⟩) (fun p v sz ht=>⟨?_,fun hp=>by rw [hh];exact ht.2 hp⟩);have ht:=ht.1;unfold Tip at ht ⊢;split at ht
 ·obtain⟨h1,h2,h3,h4⟩:=ht;exact⟨by rw [how,h1];exact hm p,by rw [hhw];exact h2,h3,by rw [hw];exact h4⟩
 ·exact ht
 ·exact ht.elim
theorem uH{E' :Env}{φ:Own->Option Own}(hw:E'.w=E.w)(hhw:E'.hw=E.hw)(hbx:E'.bx=E.bx)(hh:E'.hdr=E.hdr)(how:∀b,E'.ow b=(E.ow b).bind φ){bxs:Nat->Prop}{pl pl' :Pl}{c c' :Nat}{x:CV}{v:Value}(hx:x.plainC=true)
 (hm:∀p,φ (.arr pl c p)=some (.arr pl' c' p)) (hv:VRc E bxs pl c x v):VRc E' aJ pl' c' x v:=by
 cases x with
 |sl f T xs=>
  cases f with
  |lnt n=>
   have hq:v=E.hdr n:=(RdP.top hv).2 rfl;have:=oE hw hhw hh how (c' :=c') hm hv;rw [hh,<-hq] at this;exact this
  |ro=>exact gO hw hhw how (x:= .sl .ro T xs) rfl hm hv
  |own=>exact gO hw hhw how (x:= .sl .own T xs) rfl hm hv
  |tip=>exact gO hw hhw how (x:= .sl .tip T xs) rfl hm hv
  |_=>cases hx
 |clo k ss=>exact⟨by rw [hbx];exact hv.1,fun _ _=>trivial⟩
 |swp sf n h s=>exact⟨hv.1,fun ad l cap he=>by rw [hh] at he ⊢;exact hv.2 ad l cap he⟩
 |int k n=>exact hv
 |bool b=>exact hv
 |str s=>exact hv
 |val s=>exact hv
 |_=>cases hx
theorem rN{bxs:Nat->Prop}{pl:Pl}{c:Nat}{g:Bool}{cs:List CV}{vs:List Value}(h:VRs E bxs pl c cs vs)(hg:g=false->cs.length=1):VR1 E bxs pl c g cs (fM g vs):=by
 cases g with
 |true=>exact⟨vs.toArray,rfl,by simpa using h⟩
 |false=>
  have hl:=aS h;have:=hg rfl
  match cs,vs,h,hl with
  | [x],[v],h,_=>exact h
  | [],_,_,_=>simp at this
  |_::_::_,_,_,_=>simp at this
  | [x],[],_,hl=>simp at hl
  | [x],_::_::_,_,hl=>simp at hl
theorem xO(htt:aO C.P tt)(hi:Inv C σ.get tmps E):∀ {rs:List ResultVar} {xs:List (Nat×Bool×List CV)},eX tt σ rs=some xs->
 ∃vs:List Value,rs.length=vs.length/\xs.length=vs.length/\(∀(i:Nat) (x:ResultVar) (v:Value),rs[i]? =some x->vs[i]? =some v->(kH tmps x).run C.P E.w= .ok v E.w)/\
  (∀(i:Nat) (x:Nat×Bool×List CV) (v:Value),xs[i]? =some x->vs[i]? =some v->VR1 E (aA σ.get) (.k x.1) 0 x.2.1 x.2.2 v):=by
 intro rs
 induction rs with
 |nil=>intro xs h;simp [eX] at h;subst h;exact⟨[],rfl,rfl,by simp,by simp⟩
 |cons r rs ih=>
  intro xs h;cases r with
  |tmp t=>
   simp only [eX] at h;split at h
   ·rename_i g cs ys hg hys;cases h;obtain⟨vs,i1,i2,i3,i4⟩:=ih hys;have ht:=hi.tmp t;rw [hg] at ht;refine⟨tmps.getD t undef::vs,by simp [i1],by simp [i2],fun i x v hx hv=> ?_,fun i x v hx hv=> ?_⟩
    ·cases i with
     |zero=>simp only [List.getElem?_cons_zero,ZL] at hx hv;subst hx hv;rfl
     |succ i=>exact i3 i x v (by simpa using hx) (by simpa using hv)
    ·cases i with
     |zero=>simp only [List.getElem?_cons_zero,ZL] at hx hv;subst hx hv;exact ht
     |succ i=>exact i4 i x v (by simpa using hx) (by simpa using hv)
   ·cases h
  |cell a t=>
   simp only [eX] at h;split at h
   ·rename_i s i ys hg hti hys;split at h
    ·rename_i cs hcs;cases hl:cs.length.beq i.sz with
     |false=>rw [hl] at h;cases h
     |true=>
      rw [hl] at h;cases h;obtain⟨vs,i1,i2,i3,i4⟩:=ih hys;have ht:=hi.tmp a;rw [hg] at ht;obtain⟨ht,_⟩:=ht.1;obtain⟨b1,vals,ty,b2,b3⟩:=hi.box s cs hcs;have hlen:=aS b3;have hl:=Zl hl
      have hrun:=mK (P:=C.P) (w:=E.w) (htt t i hti) (b:=E.bx s) (off:=0) (vs:=vals.toList) (by rw [<-hlen];exact hl) (fun j v hv=>by
       rw [Zj];simp only [World.cell?,b2];simpa using hv)
      have hg1:i.agg=false->cs.length=1:=by
       intro hag;obtain⟨ti,d,h1,h2,h3,h4,h5,_⟩:=(htt t i hti).info;rw [hl];exact h5 hag
      refine⟨fM i.agg vals.toList::vs,by simp [i1],by simp [i2],fun j x v hx hv=> ?_,fun j x v hx hv=> ?_⟩
      ·cases j with
       |zero=>
        simp only [List.getElem?_cons_zero,ZL] at hx hv;subst hx hv;rw [<-hrun];simp only [kH,ht,asAddr,Instr.loadAt,Instr.sureAddr,Sem.run_bind,Sem.run_pure,Result.andThen_ok]
       |succ j=>exact i3 j x v (by simpa using hx) (by simpa using hv)
      ·cases j with
       |zero=>simp only [List.getElem?_cons_zero,ZL] at hx hv;subst hx hv;exact rN b3 hg1
       |succ j=>exact i4 j x v (by simpa using hx) (by simpa using hv)
    ·cases h
   ·cases h
end
end Go.Ab
end
section
namespace Go.Ab
variable [Inhabited Lb]
theorem rB{E' :Env}:∀ {ps:List (Nat×Nat)} {m:Nat} {ys:List CV},ps.length=ys.length->(∀(n:Nat) (t:Nat×Nat) (y:CV),ps[n]? =some t->ys[n]? =some y->
 (∃T xs,y= .sl (.lnt (m+n)) T xs)/\VRc E' aJ (.k t.1) t.2 y (E'.hdr (m+n)))->eZ E' m ps ys:=by
 intro ps
 induction ps with
 |nil=>intro m ys h _;cases ys <;>simp_all [eZ]
 |cons p ps ih=>
  intro m ys h hh;cases ys with
  |nil=>simp at h
  |cons y ys=>
   obtain⟨h1,h2⟩:=hh 0 p y rfl rfl;exact⟨h1,h2,ih (by simpa using h) fun n t z hz hy=>by rw [show m+1+n=m+(n+1) from by omega];exact hh (n+1) t z (by simpa using hz) (by simpa using hy)⟩
theorem wX{σ:St}:∀ {ss:List Nat} {outs:List (List CV)},iD σ ss=some outs->outs.length=ss.length/\∀(n s:Nat) (o:List CV),ss[n]? =some s->outs[n]? =some o->σ.get (2*s+1)= .v true o:=by
 intro ss
 induction ss with
 |nil=>intro outs h;simp [iD] at h;subst h;exact⟨rfl,by simp⟩
 |cons s ss ih=>
  intro outs h;simp only [iD] at h;split at h
  ·rename_i cs o hg ho;cases h;obtain⟨i1,i2⟩:=ih ho;refine⟨by simp [i1],fun n s' o' hs hn=> ?_⟩;cases n with
   |zero=>simp at hs hn;subst hs hn;exact hg
   |succ n=>exact i2 n s' o' (by simpa using hs) (by simpa using hn)
  ·cases h
theorem vQ{σ:St}:∀ {ps:List (Nat×Nat)} {m:Nat} {ls:List CV},gX σ m ps=some ls->ls.length=ps.length/\∀(n:Nat) (p:Nat×Nat) (y:CV),ps[n]? =some p->ls[n]? =some y->
 ∃g cs T xs,σ.get p.1= .v g cs/\cs[p.2]? =some y/\y= .sl (.lnt (m+n)) T xs/\(g=true\/p.1 % 2=0):=by
 intro ps
 induction ps with
 |nil=>intro m ls h;simp [gX] at h;subst h;exact⟨rfl,by simp⟩
 |cons p ps ih=>
  intro m ls h;obtain⟨k,c⟩:=p;simp only [gX] at h;split at h
  ·rename_i g cs o hg ho;split at h
   ·rename_i m' T xs hc;cases hb:(m'.beq m&&(g||(k % 2).beq 0)) with
    |false=>rw [hb] at h;cases h
    |true=>
     rw [hb] at h;cases h;rw [Zv,YW] at hb;obtain rfl:=Zl hb.1;obtain⟨i1,i2⟩:=ih ho;refine⟨by simp [i1],fun n p y hp hy=> ?_⟩;cases n with
     |zero=>simp at hp hy;subst hp hy;exact⟨g,cs,T,xs,hg,hc,rfl,hb.2.imp id fun h=>Zl h⟩
     |succ n=>have:=i2 n p y (by simpa using hp) (by simpa using hy);rwa [show m' +1+n=m' +(n+1) from by omega] at this
   ·cases h
  ·cases h
structure Final (C:Ctx) (E E' :Env) (ext:List Nat) (tg:List (Nat×Nat)) (m:Nat) (ro:CallO) (v:Value):Prop where
 w:E'.w=E.w
 hw:E'.hw=E.hw
 bx:E'.bx=E.bx
 hdr:E'.hdr=E.hdr
 ow:∀b,E.ow b=none->E'.ow b=none
 env:EnvOk E'
 res:ResAt E' m ro.res v
 outs:∀(n s:Nat) (o:List CV),ext[n]? =some s->ro.outs[n]? =some o->bM E' s (E.bx s) o
 outl:ro.outs.length=ext.length
 lents:eZ E' 0 tg ro.lents
section
variable {C:Ctx} {σ:St} {tmps:Array Value} {E:Env} {tt:TT}
theorem uI{E' :Env}{φ:Own->Option Own}(hw:E'.w=E.w)(hhw:E'.hw=E.hw)(how:∀b,E'.ow b=(E.ow b).bind φ){bxs:Nat->Prop}:
 ∀ {xs:List (Nat×Bool×List CV)} {vs:List Value} {off:Nat},xs.length=vs.length->(∀(i:Nat) (x:Nat×Bool×List CV) (v:Value),xs[i]? =some x->vs[i]? =some v->VR1 E bxs (.k x.1) 0 x.2.1 x.2.2 v)->
   (∀l l',eD off xs l l' ->φ l=some l')->(xs.all fun x=>x.2.2.all CV.plain)=true->VRt E' aJ (.h 0) off (xs.map fun x=>x.2) vs:=by
 intro xs
 induction xs with
 |nil=>intro vs off h _ _ _;cases vs <;>simp_all [VRt]
 |cons x xs ih=>
  intro vs off hl hv hφ hp;cases vs with
  |nil=>simp at hl
  |cons v vs=>
   rw [List.all_cons,Zv] at hp;refine⟨?_,ih (by simpa using hl) (fun i y w hy hw=>hv (i+1) y w (by simpa using hy) (by simpa using hw)) (fun l l' h=>hφ l l' (.inr h)) hp.2⟩;obtain⟨h1,h2⟩:=dW.1 (hv 0 x v rfl rfl);refine dW.2 ⟨cC (aS h1) fun j y w hy hw2=> ?_,h2⟩;have:=aZ h1 hy hw2;rw [Zj] at this;exact gO hw hhw how (Zu.1 hp.1 y (Zs hy)) (fun p=>hφ _ _ (.inl ⟨j,p,(Zt.1 hy).1,rfl,rfl⟩)) this
theorem uF(htt:aO C.P tt)(hi:Inv C σ.get tmps E){I:Info}{bs:List Bool}{cs:List CallO}{ob:List Prop}{res:Res}(h:fH tt I ⟨σ,bs,cs,ob⟩=some res){fn:Func}(hfn:fn.results.toList=I.results)
 {tg:List (Nat×Nat)} (htl:tg.length=I.lnt.length) (hti:∀(n n' :Nat) (t:Nat×Nat),tg[n]? =some t->tg[n']? =some t->n=n') (hte:∀(n:Nat) (t:Nat×Nat),tg[n]? =some t->∃i,t.1=2*i) (m:Nat):
 ∃ro v E',res= .done ro ob.reverse/\(results fn tmps).run C.P E.w= .ok v E.w/\Final C E E' I.ext tg m ro v:=by
 unfold fH at h;split at h
 case h_2=>cases h
 rename_i xs outs ls hbs hcs hres houts hls;cases hc:(aR (eO xs I.ext)&&I.lnt.all (fun p=> !(eO xs I.ext).contains p.1)&&xs.all (fun x=>x.2.2.all CV.plain)&&outs.all (fun o=>o.all CV.plainC)) with
 |false=>dsimp only at h;rw [hc] at h;cases h
 |true=>
  dsimp only at h;rw [hc] at h;cases h;simp only [Zv] at hc;obtain⟨⟨⟨c1,c2⟩,c3⟩,c4⟩:=hc;dsimp only at hres houts hls;obtain⟨d1,d2,d3⟩:=pK (x:=xs.map fun x=>x.1) (y:=I.ext.map fun s=>2*s+1) c1;have c2:∀p∈I.lnt,p.1 ∉ xs.map (fun x=>x.1)/\p.1 ∉ I.ext.map (fun s=>2*s+1):=by
   intro p hp;have h1:=Zu.1 c2 p hp;have h2:p.1 ∉ eO xs I.ext:=fun hm=>by rw [nR.2 hm] at h1;cases h1
   exact⟨fun hm=>h2 (ZH _ hm),fun hm=>h2 (Yj _ hm)⟩
  obtain⟨vs,i1,i2,i3,i4⟩:=xO htt hi hres;obtain⟨o1,o2⟩:=wX houts;obtain⟨l1,l2⟩:=vQ hls
  let S:Own->Own->Prop:=fun l l' =>eD 0 xs l l' \/(∃s∈I.ext,(l= .box s/\l' = .box s)\/∃c p,l= .arr (.k (2*s+1)) c p/\l' = .arr (.k (2*s+1)) c p)\/
   (∃(n:Nat) (q t:Nat×Nat) (p:List (Nat×Nat)),I.lnt[n]? =some q/\tg[n]? =some t/\l= .arr (.k q.1) q.2 p/\l' = .arr (.k t.1) t.2 p)
  have hlsrc:∀(n n' :Nat) (q:Nat×Nat),I.lnt[n]? =some q->I.lnt[n']? =some q->n=n' :=by
   intro n n' q hn hn';have b1:n<ls.length:=by rw [l1];exact(Zt.1 hn).1
   have b2:n' <ls.length:=by rw [l1];exact(Zt.1 hn').1
   obtain⟨g,cs,T,ys,e1,e2,e3,_⟩:=l2 n q _ hn (Zx b1);obtain⟨g',cs',T',ys',e1',e2',e3',_⟩:=l2 n' q _ hn' (Zx b2);rw [e1] at e1';cases e1';rw [e2] at e2';have e4:=Yz e2';rw [e3,e3'] at e4;injection e4 with e5;injection e5 with e5;omega
  have f1:∀l a b,S l a->S l b->a=b:=by
   rintro l a b (h|⟨s,hs,⟨rfl,rfl⟩|⟨c,p,rfl,rfl⟩⟩|⟨n,q,t,p,h1,h2,rfl,rfl⟩) (h' |⟨s',hs',⟨e,rfl⟩|⟨c',p',e,rfl⟩⟩|⟨n',q',t',p',h1',h2',e,rfl⟩)
   ·exact p7 d1 h h'
   ·obtain⟨k,c,p,c',h1,h2,_⟩:=bS h;rw [h2] at e;cases e
   ·obtain⟨k,c,p,c',h1,h2,_⟩:=bS h;rw [h2] at e;cases e;exact absurd (Zk.2 ⟨s',hs',rfl⟩) (d3 _ h1)
   ·obtain⟨k,c,p,c',h1,h2,_⟩:=bS h;rw [h2] at e;cases e;exact absurd h1 (c2 _ (Zs h1')).1
   ·obtain⟨k,c,p,c',h1,h2,_⟩:=bS h';cases h2
   ·exact e.symm ▸ rfl
   ·cases e
   ·cases e
   ·obtain⟨k,c,p,c',h1,h2,_⟩:=bS h';cases h2;exact absurd (Zk.2 ⟨s,hs,rfl⟩) (d3 _ h1)
   ·cases e
   ·exact e
   ·injection e with e1 e2 e3;injection e1 with e1;exact absurd (Zk.2 ⟨s,hs,e1⟩) (c2 _ (Zs h1')).2
   ·obtain⟨k,c,p,c',h3,h4,_⟩:=bS h';injection h4 with e1;injection e1 with e1;rw [<-e1] at h3;exact absurd h3 (c2 _ (Zs h1)).1
   ·cases e
   ·injection e with e1 e2 e3;injection e1 with e1;exact absurd (Zk.2 ⟨s',hs',e1.symm⟩) (c2 _ (Zs h1)).2
   ·injection e with e1 e2 e3;injection e1 with e1;have:q=q' :=XS e1 e2;subst this;obtain rfl:=hlsrc n n' q h1 h1';rw [h2] at h2';cases h2';rw [e3]
  have f2:∀a b l,S a l->S b l->a=b:=by
   rintro a b l (h|⟨s,hs,⟨rfl,rfl⟩|⟨c,p,rfl,rfl⟩⟩|⟨n,q,t,p,h1,h2,rfl,rfl⟩) (h' |⟨s',hs',⟨rfl,e⟩|⟨c',p',rfl,e⟩⟩|⟨n',q',t',p',h1',h2',rfl,e⟩)
   ·exact p8 h h'
   ·obtain⟨k,c,p,c',h1,_,h2,_⟩:=bS h;rw [h2] at e;cases e
   ·obtain⟨k,c,p,c',h1,_,h2,_⟩:=bS h;rw [h2] at e;cases e
   ·obtain⟨k,c,p,c',h1,_,h2,_⟩:=bS h;rw [h2] at e;cases e
   ·obtain⟨k,c,p,c',h1,_,h2,_⟩:=bS h';cases h2
   ·exact e
   ·cases e
   ·cases e
   ·obtain⟨k,c,p,c',h1,_,h2,_⟩:=bS h';cases h2
   ·cases e
   ·exact e
   ·injection e with e1 e2 e3;injection e1 with e1;obtain⟨i,hi⟩:=hte n' t' h2';omega
   ·obtain⟨k,c,p,c',h3,_,h4,_⟩:=bS h';cases h4
   ·cases e
   ·injection e with e1 e2 e3;injection e1 with e1;obtain⟨i,hi⟩:=hte n t h2;omega
   ·injection e with e1 e2 e3;injection e1 with e1;have:t=t' :=XS e1 e2;subst this;obtain rfl:=hti n n' t h2 h2';rw [h1] at h1';cases h1';rw [e3]
  obtain⟨φ,hφ⟩:=iC S f1;generalize hE:({ E with ow:=fun b=>(E.ow b).bind φ }:Env)=E';have e1:E'.w=E.w:=by rw [<-hE]
  have e2:E'.hw=E.hw:=by rw [<-hE]
  have e3:E'.bx=E.bx:=by rw [<-hE]
  have e4:E'.hdr=E.hdr:=by rw [<-hE]
  have e5:∀b,E'.ow b=(E.ow b).bind φ:=by rw [<-hE];exact fun _=>rfl
  refine⟨⟨iF xs,outs,ls⟩,mR vs,E',rfl,qA hfn i1 i3,⟨e1,e2,e3,e4,fun b hb=>by rw [e5,hb];rfl,?_,?_,fun n s o hs ho=> ?_,o1,?_⟩⟩
  ·refine⟨fun b hb=> ?_,fun b b' l h1 h2=> ?_,fun b s hb=> ?_⟩
   ·rw [e1] at hb;have:=hi.new b hb;exact⟨by rw [e5,this.1];rfl,by rw [e2];exact this.2⟩
   ·rw [e5,Zm] at h1 h2;obtain⟨m1,a1,b1⟩:=h1;obtain⟨m2,a2,b2⟩:=h2;have:=f2 _ _ _ ((hφ _ _).1 b1) ((hφ _ _).1 b2);subst this;exact hi.inj _ _ _ a1 a2
   ·rw [e5,Zm] at hb;obtain⟨m1,a1,b1⟩:=hb;rw [e2];rcases(hφ _ _).1 b1 with h|⟨s',hs',⟨rfl,_⟩|⟨c,p,_,e⟩⟩|⟨n,q,t,p,_,_,_,e⟩
    ·obtain⟨k,c,p,c',h1,_,h2,_⟩:=bS h;cases h2
    ·exact hi.boxhw b _ a1
    ·cases e
    ·cases e
  ·have hpl:(iF xs).plain=true:=by
    match xs,c3 with
    | [],_=>rfl
    | [x],c3=>simpa [iF,AV.plain] using c3
    |x::y::xs,c3=>simp only [iF,AV.plain,List.all_map];exact c3
   refine .of ?_ (fN hpl);have key:=uI e1 e2 e5 (xs:=xs) (vs:=vs) (off:=0) i2 i4 (fun l l' h=>(hφ _ _).2 (.inl h)) c3
   match xs,vs,i2,key with
   | [],[],_,_=>exact⟨_,rfl,trivial⟩
   | [x],[v],_,key=>exact key.1
   |x::y::xs,v::w::vs,_,key=>exact⟨_,rfl,key⟩
  ·have hg:=o2 n s o hs ho;obtain⟨b1,vals,ty,b2,b3⟩:=hi.box s o hg;have hsm:s∈I.ext:=Zs hs;refine⟨by rw [e5,b1];exact(hφ _ _).2 (.inr (.inl ⟨s,hsm,.inl ⟨rfl,rfl⟩⟩)),vals,ty,by rw [e1];exact b2,?_⟩;refine cC (aS b3) fun j x v hx hv=> ?_;exact uH e1 e2 e3 e4 e5 (Zu.1 (Zu.1 c4 o (Zs ho)) x (Zs hx)) (fun p=>(hφ _ _).2 (.inr (.inl ⟨s,hsm,.inr ⟨_,p,rfl,rfl⟩⟩))) (aZ b3 hx hv)
  ·refine rB (by rw [htl,l1]) fun n t y ht hy=> ?_;have hn:n<I.lnt.length:=by rw [<-htl];exact(Zt.1 ht).1
   obtain⟨g,cs,T,ys,g1,g2,g3,g4⟩:=l2 n _ y (Zx hn) hy;subst g3;refine⟨⟨T,ys,rfl⟩,?_⟩;have hpass:∀p,φ (.arr (.k I.lnt[n].1) I.lnt[n].2 p)=some (.arr (.k t.1) t.2 p):=fun p=>(hφ _ _).2 (.inr (.inr ⟨n,_,t,p,Zx hn,ht,rfl,rfl⟩));have hcell:∃v,VRc E (aA σ.get) (.k I.lnt[n].1) I.lnt[n].2 (.sl (.lnt (0+n)) T ys) v:=by
    rcases Nat.mod_two_eq_zero_or_one I.lnt[n].1 with hq|hq
    ·obtain⟨q,hq⟩:∃q,I.lnt[n].1=2*q:=⟨I.lnt[n].1 / 2,by omega⟩;have ht:=hi.tmp q;rw [<-hq,g1] at ht;obtain⟨h1,_⟩:=dW.1 ht;have hl:=aS h1;have hlt:I.lnt[n].2<(cellsOf g (tmps.getD q undef)).length:=by rw [<-hl];exact(Zt.1 g2).1
     have:=aZ h1 g2 (Zx hlt);rw [Zj] at this;exact⟨_,this⟩
    ·obtain⟨q,hq⟩:∃q,I.lnt[n].1=2*q+1:=⟨I.lnt[n].1 / 2,by omega⟩;have hgt:g=true:=g4.resolve_right (by omega);subst hgt;obtain⟨b1,vals,ty,b2,b3⟩:=hi.box q cs (by rw [<-hq];exact g1);have hl:=aS b3;have hlt:I.lnt[n].2<vals.toList.length:=by rw [<-hl];exact(Zt.1 g2).1
     have:=aZ b3 g2 (Zx hlt);rw [Zj,<-hq] at this;exact⟨_,this⟩
   obtain⟨v,hv⟩:=hcell;exact oE e1 e2 e4 e5 hpass hv
theorem uG(hi:Inv C σ.get tmps E){I:Info}{cs:List CV}(h:jH I σ=some cs){fn:Func}(hfn:fn.results.toList=I.results){tg:List (Nat×Nat)}(htl:tg.length=I.lnt.length)(m:Nat):
 ∃v E',(results fn tmps).run C.P E.w= .ok v E.w/\Final C E E' I.ext tg m ⟨.tup [(false,[.ptr 0 0]),(true,cs)],[],[]⟩ v:=by
 unfold jH at h;split at h
 case h_2=>cases h
 rename_i t hr he hl;split at h
 case h_2=>cases h
 rename_i s hg;split at h
 case h_2=>cases h
 rename_i cs0 hb;cases hpl:cs0.all CV.plain with
 |false=>rw [hpl] at h;cases h
 |true=>
  rw [hpl] at h;cases h;have ht:=hi.tmp t;rw [hg] at ht;obtain⟨ht,_⟩:=ht.1;obtain⟨b1,vals,ty,b2,b3⟩:=hi.box s cs hb
  let S:Own->Own->Prop:=fun l l' =>(l= .box s/\l' = .box m)\/∃c p,l= .arr (.k (2*s+1)) c p/\l' = .arr (.k (2*m+1)) c p
  obtain⟨φ,hφ⟩:=iC S (by
   rintro l a b (⟨rfl,rfl⟩|⟨c,p,rfl,rfl⟩) (⟨h,rfl⟩|⟨c',p',h,rfl⟩) <;>first |rfl|(cases h;rfl) |cases h)
  have f2:∀a b l,S a l->S b l->a=b:=by
   rintro a b l (⟨rfl,rfl⟩|⟨c,p,rfl,rfl⟩) (⟨rfl,h⟩|⟨c',p',rfl,h⟩) <;>first |rfl|(cases h;rfl) |cases h
  generalize hE:({ E with ow:=fun b=>(E.ow b).bind φ }:Env)=E';have e1:E'.w=E.w:=by rw [<-hE]
  have e2:E'.hw=E.hw:=by rw [<-hE]
  have e3:E'.bx=E.bx:=by rw [<-hE]
  have e4:E'.hdr=E.hdr:=by rw [<-hE]
  have e5:∀b,E'.ow b=(E.ow b).bind φ:=by rw [<-hE];exact fun _=>rfl
  refine⟨mR [tmps.getD t undef],E',qA (rs:=[.tmp t]) (hfn.trans hr) rfl (fun i x v hx hv=> ?_),⟨e1,e2,e3,e4,fun b hb=>by rw [e5,hb];rfl,?_,?_,fun n s o hs ho=> ?_,by rw [he];rfl,?_⟩⟩
  ·cases i with
   |zero=>simp only [List.getElem?_cons_zero,ZL] at hx hv;subst hx hv;rfl
   |succ i=>simp at hx
  ·refine⟨fun b hb=> ?_,fun b b' l h1 h2=> ?_,fun b s hb=> ?_⟩
   ·rw [e1] at hb;have:=hi.new b hb;exact⟨by rw [e5,this.1];rfl,by rw [e2];exact this.2⟩
   ·rw [e5,Zm] at h1 h2;obtain⟨m1,a1,b1⟩:=h1;obtain⟨m2,a2,b2⟩:=h2;have:=f2 _ _ _ ((hφ _ _).1 b1) ((hφ _ _).1 b2);subst this;exact hi.inj _ _ _ a1 a2
   ·rw [e5,Zm] at hb;obtain⟨m1,a1,b1⟩:=hb;rw [e2];rcases(hφ _ _).1 b1 with ⟨rfl,_⟩|⟨c,p,_,e⟩
    ·exact hi.boxhw b _ a1
    ·cases e
  ·refine⟨E.bx s,ht,by rw [e5,b1];exact(hφ _ _).2 (.inl ⟨rfl,rfl⟩),vals,ty,by rw [e1];exact b2,cC (aS b3) fun j x v hx hv=> ?_⟩;exact gO e1 e2 e5 (Zu.1 hpl x (Zs hx)) (fun p=>(hφ _ _).2 (.inr ⟨_,p,rfl,rfl⟩)) (aZ b3 hx hv)
  ·simp at ho
  ·rw [hl] at htl;cases tg with
   |nil=>trivial
   |cons t ts=>simp at htl
end
end Go.Ab
end
section
namespace Go.Ab
variable [Inhabited Lb]
theorem p9(σ:St):∀(ks:List Nat) (q:Nat),St.get (σ.restrict ks) q= .none\/∃s m,St.get (σ.restrict ks) q=(σ.get q).mapC (CV.stale s m):=by
 intro ks
 induction ks with
 |nil=>intro q;exact .inl rfl
 |cons k r ih=>
  intro q;have step:∀v,v=σ.get k->St.get ((k,v)::σ.restrict r) q= .none\/∃s m,St.get ((k,v)::σ.restrict r) q=(σ.get q).mapC (CV.stale s m):=by
   intro v hv;rw [St.get_cons];by_cases h:k=q
   ·subst h;rw [Zw rfl,hv];exact .inr ⟨[],false,(AV.mapC_id CV.stale_nil _).symm⟩
   ·rw [Zf h];rcases ih q with h1|⟨s,m,h1⟩
    ·exact .inl (by rw [h1];rfl)
    ·refine .inr ⟨s++ [k],m||k.beq aB,?_⟩;rw [h1,AV.mapC_comp]
     congr 1
     funext c
     exact CV.stale_stale c (fun q=>by simp) rfl
  simp only [St.restrict];split
  ·exact ih q
  ·rename_i g cs h;exact step _ h.symm
  ·rename_i xs h;exact step _ h.symm
theorem xG{σ:St}{c:CV}{s:List Nat}{m:Bool}(h:c.ptrOk σ=true):(c.stale s m).ptrOk σ=true:=by
 rcases CV.stale_eq (s:=s) (m:=m) c with e|⟨e,_⟩
 ·rw [e];rfl
 ·rw [e];exact h
theorem zAb{σ:St}:∀ {S:St},St.wf σ S=true->∀q,∀x,(St.get S q).mem x->x.ptrOk σ=true:=by
 have key:∀ {S:St},St.wf σ S=true->∀(q:Nat) (s:List Nat) (m:Bool) (x:CV),(St.getS S q s m).mem x->x.ptrOk σ=true:=by
  intro S
  induction S with
  |nil=>intro _ q s m x h;exact h.elim
  |cons z S ih=>
   intro h q s m x hx;obtain⟨k,v⟩:=z;have hS:St.wf σ S=true:=by
    cases v <;>simp only [St.wf,Zv] at h
    ·exact h.2
    ·exact h.2
    ·exact h
   simp only [St.getS] at hx;cases hk:k.beq q with
   |false=>rw [hk] at hx;exact ih hS _ _ _ x hx
   |true=>
    rw [hk] at hx;obtain⟨y,hy,rfl⟩:=AV.mem_mapC hx;refine xG ?_;cases v with
    |none=>exact hy.elim
    |v g cs=>simp only [St.wf,Zv] at h;exact Zu.1 h.1 y hy
    |tup xs=>
     simp only [St.wf,Zv] at h;obtain⟨z,hz,hy⟩:=hy;exact Zu.1 (Zu.1 h.1 z hz) y hy
 exact fun {S} h q x hx=>key (S:=S) h q [] false x hx
theorem lN{σ:St}{s:Nat}(h:fK σ s=true):aA σ.get s:=by
 unfold fK at h;split at h
 ·rename_i cs hg;exact⟨cs,hg⟩
 ·cases h
theorem AV.mem_map{f:CV->CV}{a:AV}{x:CV}(h:a.mem x):(a.mapC f).mem (f x):=by
 cases a with
 |none=>exact h.elim
 |v g cs=>exact Zk.2 ⟨x,h,rfl⟩
 |tup xs=>obtain⟨y,hy,hx⟩:=h;exact⟨(y.1,y.2.map f),Zk.2 ⟨y,hy,rfl⟩,Zk.2 ⟨x,hx,rfl⟩⟩
theorem VRc.rebox{E:Env}{bxs bxs' :Nat->Prop}{pl:Pl}{c:Nat}{x:CV}{v:Value}(h:∀s off,x= .ptr s off->bxs' s)(h' :∀k ss,x= .clo k ss->∀s∈ss,bxs' s)(hv:VRc E bxs pl c x v):VRc E bxs' pl c x v:=by
 cases x with
 |ptr s off=>exact⟨hv.1,h s off rfl⟩
 |clo k ss=>exact⟨hv.1,h' k ss rfl⟩
 |_=>exact hv
theorem lO{C:Ctx}{σ σ' :St}{a:Act}{w:World}{ext ks:List Nat}(h:gU ext σ ks=some σ')(he:∀s b,C.ext s=some b->s∈ext)(hR:R C σ a w):R C σ' a w:=by
 unfold gU at h;cases hc:(St.wf (σ.restrict ks) (σ.restrict ks)&&ext.all (fK (σ.restrict ks))) with
 |false=>rw [hc] at h;cases h
 |true=>
  rw [hc] at h;cases h;rw [Zv] at hc;obtain⟨h1,h2⟩:=hc;obtain⟨hd,E,rfl,hi⟩:=hR;have hp:=zAb h1;have one:∀ {pl:Pl} {j:Nat} {x:CV} {s:List Nat} {m:Bool} {v:Value},(x.stale s m).ptrOk (σ.restrict ks)=true->VRc E (aA σ.get) pl j x v->VRc E (aA (St.get (σ.restrict ks))) pl j (x.stale s m) v:=by
   intro pl j x s m v hx hv;rcases CV.stale_eq (s:=s) (m:=m) x with e|⟨e,_⟩
   ·rw [e];exact hv.one
   ·rw [e] at hx ⊢;exact hv.rebox (fun s off hs=>by subst hs;exact lN hx) fun k ss hs s hm=>by subst hs;exact lN (Zu.1 hx s hm)
  refine⟨hd,E,rfl,⟨hi.os,hi.tape,hi.output,hi.size,hi.hdr,hi.old,hi.new,hi.inj,hi.boxhw,hi.nt,fun t=> ?_,fun s cs hg=> ?_,fun s b hs=> ?_,hi.base⟩⟩
  ·have ht:=hi.tmp t;have hq:=hp (2*t);rcases p9 σ ks (2*t) with h0|⟨s,m,h0⟩
   ·rw [h0];trivial
   ·rw [h0] at hq ⊢;exact VR.imp (fun j x v hx hv=>one (hq _ (AV.mem_map hx)) hv) ht
  ·have hq:=hp (2*s+1);rcases p9 σ ks (2*s+1) with h0|⟨s1,m,h0⟩
   ·rw [h0] at hg;cases hg
   ·rw [h0] at hg hq;cases hg0:σ.get (2*s+1) with
    |none=>rw [hg0] at hg;cases hg
    |tup xs=>rw [hg0] at hg;cases hg
    |v g cs0=>
     rw [hg0] at hg hq;injection hg with e1 e2;subst e1 e2;obtain⟨b1,vals,ty,b2,b3⟩:=hi.box s cs0 hg0;exact⟨b1,vals,ty,b2,VRs.imp (fun j x v hx hv=>one (hq _ (Zk.2 ⟨x,hx,rfl⟩)) hv) b3⟩
  ·exact⟨lN (Zu.1 h2 s (he s b hs)),(hi.ext s b hs).2⟩
theorem sW(b:Bool)(c:CV)(s:List Nat)(m:Bool):(c.stale s m).cast b=(c.cast b).stale s m:=by
 have key:∀c:CV,c.onKey s=(c.cast b).onKey s/\c.isBor=(c.cast b).isBor\/c.cast b= .undef:=by
  intro c;cases c with
  |sl f T xs=>cases f <;>cases b <;>first |exact .inl ⟨rfl,rfl⟩|exact .inr rfl
  |_=>exact .inl ⟨rfl,rfl⟩
 rcases key c with ⟨h1,h2⟩|h
 ·unfold CV.stale;rw [<-h1,<-h2];cases (c.onKey s||m&&c.isBor) <;>rfl
 ·rw [h];rcases CV.stale_eq (s:=s) (m:=m) c with e|⟨e,_⟩
  ·rw [e];simp [CV.cast,CV.stale,CV.onKey,CV.isBor]
  ·rw [e,h];simp [CV.stale,CV.onKey,CV.isBor]
theorem pI(c:CV)(s:List Nat)(m:Bool):(c.stale s m).noAl=c.noAl.stale s m:=by
 have key:∀c:CV,c.noAl=c\/c.noAl= .undef:=by
  intro c;cases c with
  |sl f T xs=>cases f <;>first |exact .inl rfl|exact .inr rfl
  |eref k c p i T x off=>exact .inr rfl
  |apd k c p T xs=>exact .inr rfl
  |_=>exact .inl rfl
 rcases key c with h|h
 ·rcases CV.stale_eq (s:=s) (m:=m) c with e|⟨e,_⟩
  ·rw [e,h,e];rfl
  ·rw [e,h,e]
 ·rcases CV.stale_eq (s:=s) (m:=m) c with e|⟨e,_⟩
  ·rw [e,h];simp [CV.noAl,CV.stale,CV.onKey,CV.isBor]
  ·rw [e,h];simp [CV.stale,CV.onKey,CV.isBor]
theorem castAt_map{f:CV->CV}{b:Bool}(hf:∀c,(f c).cast b=f (c.cast b)):∀(c:Nat) (cs:List CV),castAt b c (cs.map f)=(castAt b c cs).map f
 |0,[]=>rfl
 |_+1,[]=>rfl
 |0,x::r=>by simp [castAt,hf]
 |c+1,x::r=>by simp [castAt,castAt_map hf c r]
theorem AV.castAt_map{f:CV->CV}{b:Bool}(hf:∀c,(f c).cast b=f (c.cast b))(c:Nat)(a:AV):(a.mapC f).castAt c b=(a.castAt c b).mapC f:=by
 cases a with
 |v g cs=>simp only [AV.castAt,AV.mapC];rw [Ab.castAt_map hf]
 |_=>rfl
theorem uS{k c:Nat}{b:Bool}:∀(σ:St) (q:Nat) (s:List Nat) (m:Bool),St.getS (σ.map fun x=>(x.1,(cond (x.1.beq k) (x.2.castAt c b) x.2).mapC CV.noAl)) q s m=
 (if k=q then(St.getS σ q s m).castAt c b else St.getS σ q s m).mapC CV.noAl:=by
 intro σ
 induction σ with
 |nil=>intro q s m;simp only [Ys,St.getS];split <;>rfl
 |cons x σ ih=>
  intro q s m;obtain⟨k',v⟩:=x;rw [ZX];simp only [St.getS];cases hq:k'.beq q with
  |false=>simp only [jF];exact ih q _ _
  |true=>
   obtain rfl:=Zl hq;simp only [jT];by_cases hk:k=k'
   ·subst hk;simp only [X5,jT,ZB];rw [AV.castAt_map (fun c=>sW b c s m),AV.mapC_comp,AV.mapC_comp]
    congr 1
    funext x
    exact(pI x s m).symm
   ·have:k'.beq k=false:=by
     cases h:k'.beq k with
     |false=>rfl
     |true=>exact absurd (Zl h).symm hk
    simp only [this,jF,Zf hk];rw [AV.mapC_comp,AV.mapC_comp]
    congr 1
    funext x
    exact(pI x s m).symm
def bC(k c:Nat)(b:Bool):Own->Option Own
 | .arr (.k k') c' p=>if k' =k/\c' =c/\(b=true\/p≠ []) then none else some (.arr (.k k') c' p)
 |l=>some l
theorem iW(k c:Nat)(b:Bool):RhoOk (bC k c b) (fun pl c' =>pl= .k k/\c' =c) where
 box:=fun _=>rfl
 id:=fun pl c' p h=>by
  cases pl with
  |k n=>
   have hn:¬(n=k/\c' =c/\(b=true\/p≠ [])):=fun e=>h ⟨by rw [e.1],e.2.1⟩;simp only [bC,Zf hn]
  |h n=>rfl
 inj:=fun l1 l2 l h1 h2=>by
  have:∀l1,bC k c b l1=some l->l1=l:=by
   intro l1 h;unfold bC at h;split at h
   ·split at h
    ·cases h
    ·cases h;rfl
   ·cases h;rfl
  rw [this _ h1,this _ h2]
 arr:=fun k' c' p s h=>by
  unfold bC at h;split at h
  ·split at h
   ·cases h
   ·cases h
  ·cases h
theorem nL{b:Bool}:∀ {c:Nat} {cs:List CV} {j:Nat} {x:CV},(castAt b c cs)[j]? =some x->∃y,cs[j]? =some y/\x=if j=c then y.cast b else y
 |0,[],j,x,h=>by simp [castAt] at h
 |_+1,[],j,x,h=>by simp [castAt] at h
 |0,y::r,j,x,h=>by
  cases j with
  |zero=>simp [castAt] at h;exact⟨y,rfl,by simp [h]⟩
  |succ j=>simp [castAt] at h;exact⟨x,by simpa using h,by simp⟩
 |c+1,y::r,j,x,h=>by
  cases j with
  |zero=>simp [castAt] at h;exact⟨y,rfl,by simp [h]⟩
  |succ j=>
   simp only [castAt,List.getElem?_cons_succ] at h;obtain⟨z,h1,h2⟩:=nL h;exact⟨z,by simpa using h1,by rw [h2];simp⟩
theorem nM{b:Bool}:∀ {c:Nat} {cs:List CV},(castAt b c cs).length=cs.length
 |0,[]=>rfl
 |_+1,[]=>rfl
 |0,y::r=>rfl
 |c+1,y::r=>by simp [castAt,nM]
theorem kY{E:Env}{bxs:Nat->Prop}{k c j:Nat}{b:Bool}{pl:Pl}{x:CV}{v:Value}(hp:¬(pl= .k k/\j=c))(hv:VRc E bxs pl j x v):VRc (E.rel (bC k c b)) bxs pl j x.noAl v:=by
 have hv:VRc E bxs pl j x.noAl v:=by
  cases x with
  |sl f T xs=>cases f <;>first |exact hv|exact hv.one
  |eref k1 c1 p1 i T y off=>exact hv.one
  |apd k1 c1 p1 T y=>exact hv.one
  |_=>exact hv
 exact hv.rel (iW k c b) (fun _ p=>(iW k c b).id _ _ p hp) (fun k1 c1 hs=>absurd hs (kB x k1 c1))
theorem sX{E:Env}{bxs:Nat->Prop}{k c:Nat}{b:Bool}{x:CV}{v:Value}(hv:VRc E bxs (.k k) c x v):VRc (E.rel (bC k c b)) bxs (.k k) c (x.cast b).noAl v:=by
 cases x with
 |sl f T xs=>
  cases f with
  |own=>
   cases b with
   |true=>exact RdP.mono hv (fun p b o ho=>⟨rfl,ho.1,by simp [Env.rel,ho.2,bC]⟩) (fun _ _ _ _=>trivial)
   |false=>
    refine RdP.mono hv (fun p b o ho=>⟨rfl,ho.1,fun hp=> ?_,fun hp=> ?_⟩) (fun p v sz ht hp=> ?_)
    ·subst hp;simp [Env.rel,ho.2,bC]
    ·simp [Env.rel,ho.2,bC,hp]
    ·subst hp;exact Tip.rel (by simp [bC]) ht
  |tip=>
   cases b with
   |true=>
    refine RdP.mono hv (fun p b o ho=>⟨rfl,ho.1,?_⟩) (fun _ _ _ _=>trivial);by_cases hp:p=[]
    ·simp [Env.rel,ho.2.1 hp,bC]
    ·simp [Env.rel,ho.2.2 hp]
   |false=>
    refine RdP.mono hv (fun p b o ho=>⟨rfl,ho.1,fun hp=> ?_,fun hp=> ?_⟩) (fun p v sz ht hp=> ?_)
    ·subst hp;simp [Env.rel,ho.2.1 rfl,bC]
    ·simp [Env.rel,ho.2.2 hp]
    ·subst hp;exact Tip.rel (by simp [bC]) (ht rfl)
  |ro=>exact RdP.mono hv (fun p b o ho=>⟨rfl,ho.1,by simp [Env.rel,ho.2]⟩) (fun _ _ _ _=>trivial)
  |bor=>exact hv
  |lnt n=>exact hv.one
  |al k1 c1 p1=>exact hv.one
 |eptr f T x off=>
  exact VRc.rel (x:= .eptr f T x off) (iW k c b) (fun h=>by cases h) (fun k1 c1 hs=>hs.elim) hv
 |eref k1 c1 p1 i T x off=>exact hv.one
 |apd k1 c1 p1 T y=>exact hv.one
 |_=>exact hv
theorem nO{E:Env}{bxs:Nat->Prop}{k c:Nat}{b:Bool}{cs:List CV}{vs:List Value}(hv:VRs E bxs (.k k) 0 cs vs):VRs (E.rel (bC k c b)) bxs (.k k) 0 ((castAt b c cs).map CV.noAl) vs:=by
 refine cC (by rw [Zr,nM];exact aS hv) fun j x v hx hvj=> ?_;rw [Zn,Z8] at hx;obtain⟨x,hx,rfl⟩:=hx;obtain⟨y,hy,rfl⟩:=nL hx;have h1:=aZ hv hy hvj;rw [Zj] at h1 ⊢;by_cases hj:j=c
 ·subst hj;rw [Zw rfl];exact sX h1
 ·rw [Zf hj];exact kY (fun h=>hj h.2) h1
theorem nN{C:Ctx}{a:Act}{w:World}:∀ {zs:List (Nat×Nat×Bool)} {σ:St},R C σ a w->R C (iZ zs σ) a w:=by
 intro zs
 induction zs with
 |nil=>intro σ h;exact h
 |cons z zs ih=>
  intro σ h;obtain⟨k,c,b⟩:=z;refine ih ?_;obtain⟨hd,E,rfl,hi⟩:=h;have hG:∀q,St.get (σ.map fun x=>(x.1,(cond (x.1.beq k) (x.2.castAt c b) x.2).mapC CV.noAl)) q=(if k=q then(σ.get q).castAt c b else σ.get q).mapC CV.noAl:=fun q=>uS σ q [] false;obtain⟨σ',hσ⟩:∃σ' :St,σ' =σ.map fun x=>(x.1,(cond (x.1.beq k) (x.2.castAt c b) x.2).mapC CV.noAl):=⟨_,rfl⟩;rw [<-hσ] at hG;have hbx:∀s,aA σ.get s->aA σ'.get s:=by
   rintro s ⟨cs,hs⟩;unfold aA;rw [hG,hs];split
   ·exact⟨_,rfl⟩
   ·exact⟨_,rfl⟩
  have re:∀ {pl:Pl} {j:Nat} {x:CV} {v:Value},VRc (E.rel (bC k c b)) (aA σ.get) pl j x v->VRc (E.rel (bC k c b)) (aA σ'.get) pl j x v:=fun h=>h.rebox (fun s off e=>by subst e;exact hbx s h.2) fun k ss e s hm=>by subst e;exact hbx s (h.2 s hm)
  have res:∀ {pl:Pl} {j:Nat} {xs:List CV} {vs:List Value},VRs (E.rel (bC k c b)) (aA σ.get) pl j xs vs->VRs (E.rel (bC k c b)) (aA σ'.get) pl j xs vs:=fun h=>by
   have:=VRs.imp (f:=id) (fun j x v _ hv=>re hv) h;simpa using this
  show R C (σ.map fun x=>(x.1,(cond (x.1.beq k) (x.2.castAt c b) x.2).mapC CV.noAl)) a E.w;rw [<-hσ];refine⟨hd,E.rel (bC k c b),rfl,hi.rel (iW k c b) rfl hbx (fun t=> .inl ?_) (fun s cs' hs=> .inl ?_)⟩
  ·have ht:=hi.tmp t;rw [hG];by_cases hk:k=2*t
   ·rw [Zw hk];cases hg:σ.get (2*t) with
    |none=>trivial
    |v g cs=>
     rw [hg,<-hk] at ht;obtain⟨h1,h2⟩:=dW.1 ht;rw [<-hk];exact dW.2 ⟨res (nO h1),h2⟩
    |tup xs=>trivial
   ·rw [Zf hk];exact VR.imp (fun j x v _ hv=>re (kY (fun h=>hk (by injection h.1 with h1;exact h1.symm)) hv)) ht
  ·rw [hG] at hs;cases hg:σ.get (2*s+1) with
   |none=>rw [hg] at hs;split at hs <;>cases hs
   |tup xs=>rw [hg] at hs;split at hs <;>cases hs
   |v g cs=>
    rw [hg] at hs;by_cases hk:k=2*s+1
    ·rw [Zw hk] at hs;cases hs;obtain⟨b1,vals,ty,b2,b3⟩:=hi.box s cs hg;rw [<-hk] at b3;exact⟨by simp [Env.rel,b1,bC],vals,ty,b2,by rw [<-hk];exact res (nO b3)⟩
    ·rw [Zf hk] at hs;cases hs;obtain⟨b1,vals,ty,b2,b3⟩:=hi.box s cs hg;exact⟨by simp [Env.rel,b1,bC],vals,ty,b2,VRs.imp (fun j x v _ hv=>re (kY (fun h=>hk (by injection h.1 with h1;exact h1.symm)) hv)) b3⟩
def kM(C:Ctx)(fn:Func)(I:Info)(ro:CallO)(a:Act)(w:World):Prop:=
 a.defers=[]/\∀tg:List (Nat×Nat),tg.length=I.lnt.length->(∀(n n' :Nat) (t:Nat×Nat),tg[n]? =some t->tg[n']? =some t->n=n')->(∀(n:Nat) (t:Nat×Nat),tg[n]? =some t->∃i,t.1=2*i)->∀m:Nat,
  ∃v E E',E.w=w/\(∃σ:St,Inv C σ.get a.tmps E)/\(results fn a.tmps).run C.P w= .ok v w/\Final C E E' I.ext tg m ro v
def hD:Res->List Prop
 | .stop _ _ ob=>ob
 | .done _ ob=>ob
def Says(C:Ctx)(fn:Func)(I:Info)(b:Frame)(cs:List Frame)(m:Machine):Res->Prop
 | .stop stk σ _=>∃a w,R C σ a w/\Steps C.P m (lone (b.at a stk) cs w)
 | .done ro _=>∃a w todo,kM C fn I ro a w/\Steps C.P m (lone { b.at a todo with mode:= .returning } cs w)
theorem Says.of_steps{C:Ctx}{fn:Func}{I:Info}{b:Frame}{cs:List Frame}{m m' :Machine}{res:Res}(h:Steps C.P m m')(hs:Says C fn I b cs m' res):Says C fn I b cs m res:=by
 cases res with
 |stop stk σ ob=>obtain⟨a,w,h1,h2⟩:=hs;exact⟨a,w,h1,h.trans h2⟩
 |done ro ob=>obtain⟨a,w,todo,h1,h2⟩:=hs;exact⟨a,w,todo,h1,h.trans h2⟩
section
variable {C:Ctx} {tt:TT} {I:Info} {fn:Func}
theorem uE{r:RS}{res:Res}(h:fH tt I r=some res):∃ro,res= .done ro r.ob.reverse:=by
 unfold fH at h;split at h
 ·rename_i xs outs ls h1 h2 h3 h4 h5;cases hc:(aR (eO xs I.ext)&&I.lnt.all (fun p=> !(eO xs I.ext).contains p.1)&&xs.all (fun x=>x.2.2.all CV.plain)&&outs.all (fun o=>o.all CV.plainC)) with
  |false=>rw [hc] at h;cases h
  |true=>rw [hc] at h;cases h;exact⟨_,rfl⟩
 ·cases h
theorem oD{r:RS}{res:Res}(h:lH tt I r=some res):(∃ro,res= .done ro r.ob.reverse)/\((∃cs,jH I r.σ=some cs/\res= .done ⟨.tup [(false,[.ptr 0 0]),(true,cs)],[],[]⟩ r.ob.reverse)\/fH tt I r=some res):=by
 unfold lH at h;split at h
 ·rename_i cs hc;split at h
  ·cases h;exact⟨⟨_,rfl⟩,.inl ⟨cs,hc,rfl⟩⟩
  ·cases h
 ·exact⟨uE h,.inr h⟩
theorem oF{r:RS}{res:Res}(h:fin tt I r=some res):∀p∈r.ob,p∈hD res:=by
 obtain⟨ro,rfl⟩:=(oD h).1;exact fun p hp=>Xm.2 hp
theorem oG(htt:aO C.P tt)(hfn:fn.results.toList=I.results){r:RS}{res:Res}(h:fin tt I r=some res){a:Act}{w:World}(hR:R C r.σ a w):∃ro ob,res= .done ro ob/\kM C fn I ro a w:=by
 obtain⟨σ,bs,cs,ob⟩:=r;obtain⟨⟨ro,e0⟩,hh⟩:=oD h;refine⟨ro,_,e0,hR.1,fun tg h1 h2 h3 m=> ?_⟩;obtain⟨hd,E,rfl,hi⟩:=nN (zs:=I.fcast) hR;rcases hh with ⟨cs',hc,e⟩|hh
 ·obtain⟨v,E',h4,h5⟩:=uG hi hc hfn h1 m;rw [e0] at e;cases e;exact⟨v,E,E',rfl,⟨_,hi⟩,h4,h5⟩
 ·obtain⟨ro',v,E',e,h4,h5⟩:=uF htt hi hh hfn h1 h2 h3 m;rw [e0] at e;cases e;exact⟨v,E,E',rfl,⟨_,hi⟩,h4,h5⟩
theorem qI(htt:aO C.P tt)(hfn:fn.results.toList=I.results)(hnt:C.nt=I.nt)(hext:∀s b,C.ext s=some b->s∈I.ext)(hmix:C.P.follows .mixedOrders=true):∀(n:Nat) (first:Bool) (stk:List Item) (r:RS) (res:Res),
 run tt (AbsCalls C.P) I n first stk r=some res->(∀p∈r.ob,p∈hD res)/\((∀p∈hD res,p)->∀a w,R C r.σ a w->∀(b:Frame) (cs:List Frame),Says C fn I b cs (lone (b.at a stk) cs w) res):=by
 intro n
 induction n with
 |zero=>intro first stk r res h;cases h
 |succ n ih=>
  intro first stk r res h
  cases stk with
  |nil=>
   refine⟨oF h,fun hob a w hR b cs=> ?_⟩;obtain⟨ro,ob,rfl,hd⟩:=oG htt hfn h hR;exact⟨a,w,[],hd,.one step_end⟩
  |cons it k=>
   cases it with
   |code c=>
    cases c with
    |skip=>
     obtain⟨h1,h2⟩:=ih _ _ _ _ h;exact⟨h1,fun hob a w hR b cs=>(h2 hob a w hR b cs).of_steps (.one step_skip)⟩
    |seq x y=>
     obtain⟨h1,h2⟩:=ih _ _ _ _ h;exact⟨h1,fun hob a w hR b cs=>(h2 hob a w hR b cs).of_steps (.one step_seq)⟩
    |block id x=>
     obtain⟨h1,h2⟩:=ih _ _ _ _ h;exact⟨h1,fun hob a w hR b cs=>(h2 hob a w hR b cs).of_steps (.one step_block)⟩
    |loop x=>
     obtain⟨h1,h2⟩:=ih _ _ _ _ h;exact⟨h1,fun hob a w hR b cs=>(h2 hob a w hR b cs).of_steps (.one step_loop)⟩
    |exit id=>
     simp only [run] at h;split at h
     ·rename_i k' hk;obtain⟨h1,h2⟩:=ih _ _ _ _ h;exact⟨h1,fun hob a w hR b cs=>(h2 hob a w hR b cs).of_steps (.one (step_exit hk))⟩
     ·cases h
    |ret=>
     refine⟨oF h,fun hob a w hR b cs=> ?_⟩;obtain⟨ro,ob,rfl,hd⟩:=oG htt hfn h hR;exact⟨a,w,_,hd,.one step_ret⟩
    |cond x c1 c2=>
     simp only [run] at h;split at h
     ·rename_i v u lit bs hv hbs;obtain⟨h1,h2⟩:=ih _ _ _ _ h;refine⟨fun p hp=>h1 p (Zq _ hp),fun hob a w hR b cs=> ?_⟩;have hlit:v=lit:=hob _ (h1 _ Zp);obtain⟨hd,E,rfl,hi⟩:=hR;obtain⟨_,hx⟩:=bD (σ:=r.σ) (u:=[]) (a:=a) hi (show Mr (opc tt 0 x) r.σ []=_ from hv);have hev:a.eval x= .bool v:=hx (.h 0) 0;have hcode:(if v=true then c1 else c2)=cond lit c1 c2:=by subst hlit;cases v <;>rfl
      refine(h2 hob a E.w ⟨hd,E,rfl,hi⟩ b cs).of_steps ?_;rw [<-hcode];exact .one (step_cond hev)
     ·cases h
    |region id ops draw=>
     simp only [run] at h;split at h
     ·rename_i ks hks;split at h
      ·split at h
       ·rename_i σ' hσ;cases h;exact⟨fun p hp=>Xm.2 hp,fun hob a w hR b cs=>⟨a,w,nN (lO hσ hext hR),.refl _ _⟩⟩
       ·cases h
      ·cases h
     ·cases draw with
      |false=>
       simp only [jF] at h;split at h
       ·rename_i r1 hr;split at h
        ·rename_i σ' hσ;obtain⟨h1,h2⟩:=ih _ _ _ _ h;have hob1:∀p∈r1.ob,p∈hD res:=h1;refine⟨fun p hp=>hob1 p (pZ hr p hp),fun hob a w hR b cs=> ?_⟩;have hwp:(Code.region id ops false).wp C.P (fun e a' w' =>e= .normal/\R C r1.σ a' w') a w:=by
          refine wp_region ?_;rw [List.range_eq_range'];have:=xE (Q:=fun e a' w' =>e= .normal/\R C r1.σ a' w') htt hnt hr (by simp) hR ⟨by simp⟩ (fun p hp=>hob p (hob1 p hp)) (fun a' w' h=>⟨rfl,h⟩)
          rwa [Array.length_toList] at this
         obtain⟨e,a',w',⟨rfl,hR'⟩,harr⟩:=hwp b k cs;exact(h2 hob a' w' (lO hσ hext hR') b cs).of_steps harr
        ·cases h
       ·cases h
      |true=>
       simp only [jT] at h;split at h
       ·rename_i r1 lg hr;cases hok:fF ops (jR ops) lg r.σ with
        |false=>rw [hok] at h;cases h
        |true=>
         rw [hok] at h;simp only [jT] at h;split at h
         ·rename_i σ' hσ;obtain⟨h1,h2⟩:=ih _ _ _ _ h;have hob1:∀p∈r1.ob,p∈hD res:=h1;refine⟨fun p hp=>hob1 p ((pY hr).2.1 p hp),fun hob a w hR b cs=> ?_⟩;have hwp:(Code.region id ops true).wp C.P (fun e a' w' =>e= .normal/\R C r1.σ a' w') a w:=by
           refine wp_region_any hmix ?_;exact tK (Q:=fun e a' w' =>e= .normal/\R C r1.σ a' w') htt hnt hr hok (R.drew hR rfl rfl rfl rfl) (fun p hp=>hob p (hob1 p hp)) (fun a' w' h=>⟨rfl,h⟩)
          obtain⟨e,a',w',⟨rfl,hR'⟩,harr⟩:=hwp b k cs;exact(h2 hob a' w' (lO hσ hext hR') b cs).of_steps harr
         ·cases h
       ·cases h
    |_=>simp only [run] at h;cases h
   |inBlock id=>
    obtain⟨h1,h2⟩:=ih _ _ _ _ h;exact⟨h1,fun hob a w hR b cs=>(h2 hob a w hR b cs).of_steps (.one step_inBlock)⟩
   |inLoop x=>
    obtain⟨h1,h2⟩:=ih _ _ _ _ h;exact⟨h1,fun hob a w hR b cs=>(h2 hob a w hR b cs).of_steps (.one step_inLoop)⟩
   |_=>simp only [run] at h;cases h
end
end Go.Ab
end
