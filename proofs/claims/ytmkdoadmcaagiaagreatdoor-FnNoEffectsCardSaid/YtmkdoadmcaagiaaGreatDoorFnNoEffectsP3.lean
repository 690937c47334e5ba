/- The statement FnNoEffects holds: plain functions, certificates, laws. Conditions: none. -/
import Derived.Test.YtmkdoadmcaagiaaGreatDoorL1
import Derived.Test.YtmkdoadmcaagiaaGreatDoorFnNoEffectsP2
set_option linter.all false
open Go.IntKind (i64)
section
namespace Go.Ab
abbrev Sem:=Mch->List Bnd->Val×Mch
def zV:Val:= .mk 0 0 0 [] [] [] []
def Mch.rds(m:Mch)(l:List Rea):Mch:= .mk m.tape m.w m.cell m.version l m.steps m.over
def Ar(r x:Rea):Rea:=bif x.kind==r.kind then(bif x.n==r.n then(bif x.text==r.text then .mk r.kind r.n (IntKind.i64.wrap (r.time+1)) r.text r.result else r) else r) else r
def Ch(m:Mch)(r:Rea):Val:=bif(BZ r m.tape).2 then(BZ r m.tape).1 else DS m.w m.cell m.version r
def CI(m:Mch)(r0:Rea):Val×Mch:=
 let r:=m.reads.foldl Ar r0
 (Ch m r,m.rds (m.reads++ [.mk r.kind r.n r.time r.text (Ch m r)]))
def A1(g:Bool):List Sem->Mch->List Bnd->List Val×Mch
 | [],m,_=>([],m)
 |f::fs,m,sc=>bif !g&&m.over then([],m) else((f m sc).1::(A1 g fs (f m sc).2 sc).1,(A1 g fs (f m sc).2 sc).2)
def A5(t:Str)(f:Sem):List Val->Mch->List Bnd->List Val×Mch
 | [],m,_=>([],m)
 |x::xs,m,sc=>bif(f m (sc++ [⟨t,x⟩])).2.over then([],(f m (sc++ [⟨t,x⟩])).2) else((f m (sc++ [⟨t,x⟩])).1::(A5 t f xs (f m (sc++ [⟨t,x⟩])).2 sc).1,(A5 t f xs (f m (sc++ [⟨t,x⟩])).2 sc).2)
def CS(t:Str)(r:List Val×Mch):Val×Mch:=
 bif r.2.over then(zV,r.2) else bif !(C5 t) then((BY t r.1).1,r.2) else
 let a:=r.1.getD 0 Dv
 bif decide ((r.1.length:Int)>0)&&a.kind==6 then(a,r.2) else
 bif t== [99,108,111,99,107] then CI r.2 ⟨1,0,0,[],zV⟩ else
 bif t== [99,104,97,110,99,101]&&a.kind==1 then CI r.2 ⟨2,a.n,0,[],zV⟩ else
 bif t== [102,105,108,101]&&a.kind==2 then CI r.2 ⟨3,0,0,a.text,zV⟩ else(AO 4,r.2)
def Ad:Sem:=fun m _=>(zV,m)
def Bz(r:Val×Mch)(k:Val×Mch):Val×Mch:=bif r.2.over then r else bif r.1.kind==6 then r else k
def An(g:Bool)(k n:Int)(t:Str)(fs:List Sem)(m:Mch)(sc:List Bnd):Val×Mch:=
 bif k==1 then(AX n,m) else bif k==2 then(.mk 2 0 0 t [] [] [],m) else bif k==3 then(D5 sc.reverse t,m) else
 bif k==4 then(bif !g&&(A1 g fs m sc).2.over then zV else BP (A1 g fs m sc).1,(A1 g fs m sc).2) else
 bif k==5 then CS t (A1 g fs m sc) else
 bif k==6 then(bif !g&&(A1 g fs m sc).2.over then zV else(Bh n ((A1 g fs m sc).1.getD 0 Dv) ((A1 g fs m sc).1.getD 1 Dv)).1,(A1 g fs m sc).2) else
 bif k==7 then(fs.getD 1 Ad) ((fs.getD 0 Ad) m sc).2 (sc++ [⟨t,((fs.getD 0 Ad) m sc).1⟩]) else
 bif k==8 then Bz ((fs.getD 0 Ad) m sc) (bif((fs.getD 0 Ad) m sc).1.kind==1&&((fs.getD 0 Ad) m sc).1.n != 0 then(fs.getD 1 Ad) ((fs.getD 0 Ad) m sc).2 sc else(fs.getD 2 Ad) ((fs.getD 0 Ad) m sc).2 sc) else
 Bz ((fs.getD 0 Ad) m sc) (bif((fs.getD 0 Ad) m sc).1.kind != 3 then(AO 4,((fs.getD 0 Ad) m sc).2) else
  (bif(A5 t (fs.getD 1 Ad) ((fs.getD 0 Ad) m sc).1.list ((fs.getD 0 Ad) m sc).2 sc).2.over then zV else BP (A5 t (fs.getD 1 Ad) ((fs.getD 0 Ad) m sc).1.list ((fs.getD 0 Ad) m sc).2 sc).1,
   (A5 t (fs.getD 1 Ad) ((fs.getD 0 Ad) m sc).1.list ((fs.getD 0 Ad) m sc).2 sc).2))
def Mch.halt(m:Mch):Mch:= .mk m.tape m.w m.cell m.version m.reads m.steps true
def Mch.tick(m:Mch):Mch:= .mk m.tape m.w m.cell m.version m.reads (IntKind.i64.wrap (m.steps+1)) m.over
def CO(g:Bool)(k n:Int)(t:Str)(fs:List Sem):Sem:=fun m sc=>bif m.over then(zV,m.halt) else bif m.steps==200 then(zV,m.halt) else An g k n t fs m.tick sc
mutual
def evG(g:Bool):Exp->Sem
 | .mk k n t a=>CO g k n t (LQ g a)
def LQ(g:Bool):List Exp->List Sem
 | []=> []
 |x::l=>evG g x::LQ g l
end
theorem xDT(g:Bool)(l:List Exp):LQ g l=l.map (evG g):=by
 induction l with
 |nil=>rfl
 |cons x l ih=>simp [LQ,ih]
theorem Ew(g:Bool)(k n:Int)(t:Str)(a:List Exp):evG g (.mk k n t a)=CO g k n t (a.map (evG g)):=by simp [evG,xDT]
theorem Mch.halt_of{m:Mch}(h:m.over=true):m.halt=m:=by cases m;cases h;rfl
structure Keep (I:Val->Prop):Prop where
 fit:∀ {v},I v->v.Fit 1048576
 zero:I zV
 num:∀ {n},I64 n->I (AX n)
 text:∀ {t:Str},t.length<=1048576->I (.mk 2 0 0 t [] [] [])
 err:∀ {c},1<=c->c<=8->I (AO c)
 call:∀ {t l},l.length<=1048576->(∀x∈l,I x)->I (BY t l).1
 build:∀ {l},l.length<=1048576->(∀x∈l,I x)->I (BP l)
 app:∀ {n a b},I a->I b->I (Bh n a b).1
 el:∀ {v x},I v->x∈v.list->I x
structure Mok (I:Val->Prop) (c:Nat) (m:Mch):Prop where
 tape:m.tape.length<=1048576
 tapeI:∀x∈m.tape,I x.result
 files:m.w.files.length<=1048576
 lo:0<=m.steps
 hi:m.steps<=200
 rd:(m.reads.length:Int)+c<=m.steps
 ov:m.over=true->m.steps=200
 rdI:∀x∈m.reads,I x.result/\x.Fit 1048576
def Sok(I:Val->Prop)(n:Nat)(sc:List Bnd):Prop:=sc.length+n<=2000000/\∀b∈sc,I b.value/\b.name.length<=1048576
end Go.Ab
end
section
namespace Go.Ab
variable {I:Val->Prop} {c:Nat}
theorem At{P:Val->Prop}{b:Bool}{x y:Val}(h1:b=true->P x)(h2:P y):P (bif b then x else y):=by grind
theorem xDN(hI:Keep I)(w:Wld)(c v:Int)(r:Rea):I (DS w c v r):=by
 have e:=fun c=>hI.err (c:=c)
 have hn:∀n,AY n=true->I (AX n):=fun n h=>hI.num (by
  simp only [AY,Zu,ZU] at h;exact⟨by omega,by omega⟩)
 refine At (fun _=>At (hn _) (e 4 (by omega) (by omega))) (At (fun _=>At (fun h=> ?_) (e 5 (by omega) (by omega))) (At (fun _=>At (fun _=>At (hn _) (e 4 (by omega) (by omega))) (e 1 (by omega) (by omega))) (e 4 (by omega) (by omega))));simp only [Zu,ZU] at h;have:=Int.tmod_lt_of_pos (DF w.seed c v r.time) (by omega:0<r.n);have:=Int.lt_tmod_of_pos (DF w.seed c v r.time) (by omega:0<r.n);exact hI.num ⟨by omega,by omega⟩
theorem Qo(hI:Keep I){m:Mch}(hm:Mok I c m)(r:Rea):I (Ch m r):=by
 have:∀l:List Rea,(∀x∈l,I x.result)->(BZ r l).2=true->I (BZ r l).1:=by
  intro l
  induction l <;>grind [BZ]
 have:=this m.tape hm.tapeI
 grind [xDN,Ch]
theorem Qp(hI:Keep I){m:Mch}(hm:Mok I c m)(r0:Rea):Big fun N=>DB N m r0=some (CI m r0)/\E6 N m r0=some (CI m r0):=by
 have hv:=Qo hI hm (m.reads.foldl Ar r0);have hrd:m.reads.length<=200:=by have:=hm.rd;have:=hm.hi;omega
 have htl:=hm.tape;refine(((Big.list (l:=m.tape) fun x hx=>(DL (hI.fit (hm.tapeI x hx)) (by omega)).and (FG (hI.fit (hm.tapeI x hx)) (by omega))).and (FG (hI.fit hv) (by omega))).and (Ap 1048577)).imp fun N ⟨⟨hc,hcv⟩,hN⟩=> ?_;have f1:=fun r=>xIY (N:=N) (b:=r) (fun x hx=>(hc x hx).1) (by omega) (by omega);have f2:=fun r=>xEU (N:=N) (b:=r) (fun x hx=>(hc x hx).2) (by omega) (by omega);have fe:=fun r=>xDO (N:=N) (w:=m.w) (c:=m.cell) (v:=m.version) (r:=r) hm.files (by have:=hm.files;omega);have hlim:m.reads.length+1<=Lim:=by grind [Lim]
 have st:∀i x l (s:Rea),m.reads.drop i=x::l->(Ar s x::l).tail=l->((x::l).foldl Ar s=l.foldl Ar (Ar s x)):=fun _ _ _ _ _ _=>rfl;refine⟨?_,?_⟩
 ·have:=A3 (L:=fun n i (s:Rea)=>EF N n m.reads m.reads.length i m s zV) m.reads (fun _ _=>CI m r0) (fun i s=>(m.reads.drop i).foldl Ar s=m.reads.foldl Ar r0)
   (fun n s hs=>by
     rw [List.drop_length] at hs;have hs:s=m.reads.foldl Ar r0:=hs;subst hs;simp only [EF,Zd,Z9,jF,f2,jS,Val.re_eq,List.length_singleton,Zt hlim,(fe _).1];cases h:(BZ (m.reads.foldl Ar r0) m.tape).2
     ·have e:DS m.w m.cell m.version (m.reads.foldl Ar r0)=Ch m (m.reads.foldl Ar r0):=by grind [Ch]
      simp only [jV,jT,e,hcv,jS];rfl
     ·have e:(BZ (m.reads.foldl Ar r0) m.tape).1=Ch m (m.reads.foldl Ar r0):=by grind [Ch]
      simp only [jU,jF,e,hcv,jS];rfl)
   (fun i x l s hd hi hxi hs=>by
     have hi' :(i:Int)<(m.reads.length:Int):=by omega
     rw [hd] at hs;refine .inl ⟨Ar s x,?_,rfl,fun n=> ?_⟩
     ·rw [<-ZC,hd];grind
     grind [EF,jI,AL,Ar]) N 0 r0 rfl (by omega) (by omega)
  exact this
 ·have:=A3 (L:=fun n i (s:Rea)=>E7 N n i m s zV) m.reads (fun _ _=>CI m r0) (fun i s=>(m.reads.drop i).foldl Ar s=m.reads.foldl Ar r0)
   (fun n s hs=>by
     rw [List.drop_length] at hs;have hs:s=m.reads.foldl Ar r0:=hs;subst hs;simp only [E7,Zd,Z9,jF,f1,jS,Val.re_eq,List.length_singleton,Zt hlim,(fe _).2];cases h:(BZ (m.reads.foldl Ar r0) m.tape).2
     ·have e:DS m.w m.cell m.version (m.reads.foldl Ar r0)=Ch m (m.reads.foldl Ar r0):=by grind [Ch]
      simp only [jV,jT,e];rfl
     ·have e:(BZ (m.reads.foldl Ar r0) m.tape).1=Ch m (m.reads.foldl Ar r0):=by grind [Ch]
      simp only [jU,jF,e];rfl)
   (fun i x l s hd hi hxi hs=>by
     have hi' :(i:Int)<(m.reads.length:Int):=by omega
     rw [hd] at hs;refine .inl ⟨Ar s x,?_,rfl,fun n=> ?_⟩
     ·rw [<-ZC,hd];grind
     grind [E7,jI,AL,Ar]) N 0 r0 rfl (by omega) (by omega)
  exact this
def Fs(r:Rea):Prop:=I64 r.kind/\I64 r.n/\I64 r.time/\r.text.length<=1048576
theorem xKT{r:Rea}(h:Fs r)(x:Rea):Fs (Ar r x):=by
 grind [Ey,Ar,Fs]
theorem xBe:∀(l:List Rea) {r:Rea},Fs r->Fs (l.foldl Ar r)
 | [],_,h=>h
 |x::l,_,h=>xBe l (xKT h x)
theorem No(hI:Keep I){m:Mch}(hm:Mok I (c+1) m){r:Rea}(hr:Fs r):I (CI m r).1/\Mok I c (CI m r).2:=
 have h:=xBe m.reads hr;have hv:=Qo hI hm (m.reads.foldl Ar r)
 ⟨hv,⟨hm.tape,hm.tapeI,hm.files,hm.lo,hm.hi,by have:=hm.rd;show((m.reads++ [_]).length:Int)+c<=m.steps;grind,hm.ov,fun x hx=>by
   have hx:x∈m.reads++ [_]:=hx;rcases Zf.1 hx with h' |h'
   ·exact hm.rdI x h'
   ·rw [Zo.1 h'];exact⟨hv,h.1,h.2.1,h.2.2.1,h.2.2.2,hI.fit hv⟩⟩⟩
theorem Mok.less{m:Mch}(hm:Mok I (c+1) m):Mok I c m:=⟨hm.tape,hm.tapeI,hm.files,hm.lo,hm.hi,by have:=hm.rd;omega,hm.ov,hm.rdI⟩
theorem Mok.tick{m:Mch}(hm:Mok I c m)(h:m.over=false)(h2:m.steps≠200):Mok I (c+1) m.tick:=by
 have h1:=hm.rd;have h3:=hm.lo;have h4:=hm.hi;have e:m.tick.steps=m.steps+1:=Af (by omega) (by omega);exact⟨hm.tape,hm.tapeI,hm.files,by omega,by omega,by show(m.reads.length:Int)+_<=_;omega,fun h5=>absurd (h.symm.trans h5) (by simp),hm.rdI⟩
theorem Mok.halt{m:Mch}(hm:Mok I c m)(h:m.over=true\/m.steps=200):Mok I c m.halt:=
 ⟨hm.tape,hm.tapeI,hm.files,hm.lo,hm.hi,hm.rd,fun _=>h.elim hm.ov id,hm.rdI⟩
def KeepS(I:Val->Prop)(n:Nat)(f:Sem):Prop:=∀c m sc,Mok I c m->Sok I n sc->I (f m sc).1/\Mok I c (f m sc).2
theorem Sok.le{n k:Nat}{sc:List Bnd}(h:Sok I n sc)(hk:k<=n):Sok I k sc:=⟨by have:=h.1;omega,h.2⟩
theorem Sok.snoc{n:Nat}{sc:List Bnd}(h:Sok I (n+1) sc){t:Str}{v:Val}(ht:t.length<=1048576)(hv:I v):Sok I n (sc++ [⟨t,v⟩]):=
 ⟨by have:=h.1;grind,fun b hb=>by
   rcases Zf.1 hb with hb|hb
   ·exact h.2 b hb
   grind⟩
theorem IX{n:Nat}{g:Bool}{sc:List Bnd}:∀ {fs:List Sem} {m:Mch},(∀f∈fs,KeepS I n f)->Mok I c m->Sok I n sc->
 (∀v∈(A1 g fs m sc).1,I v)/\Mok I c (A1 g fs m sc).2/\(A1 g fs m sc).1.length<=fs.length/\((g=true\/(A1 g fs m sc).2.over=false)->(A1 g fs m sc).1.length=fs.length)
 | [],m,_,hm,_=>by grind [A1]
 |f::fs,m,hf,hm,hs=>by
  have h1:=hf f (by simp) c m sc hm hs;have h2:=IX (g:=g) (fs:=fs) (fun f h=>hf f (by grind)) h1.2 hs
  grind [A1]
theorem S8{n:Nat}{t:Str}{f:Sem}{sc:List Bnd}(ht:t.length<=1048576)(hf:KeepS I n f):∀ {xs:List Val} {m:Mch},(∀x∈xs,I x)->Mok I c m->Sok I (n+1) sc->
 (∀v∈(A5 t f xs m sc).1,I v)/\Mok I c (A5 t f xs m sc).2/\(A5 t f xs m sc).1.length<=xs.length
 | [],m,_,hm,_=>by grind [A5]
 |x::xs,m,hx,hm,hs=>by
  have h1:=hf c m _ hm (hs.snoc (t:=t) ht (hx x (by simp)));have h2:=S8 ht hf (xs:=xs) (fun f h=>hx f (by grind)) h1.2 hs
  grind [A5]
theorem xDv(hI:Keep I){t:Str}{r:List Val×Mch}(h1:∀v∈r.1,I v)(h2:r.1.length<=1048576)(hm:Mok I (c+1) r.2):I (CS t r).1/\Mok I c (CS t r).2:=by
 have e1:=No hI hm (r:=⟨1,0,0,[],zV⟩) (by simp [Fs,I64]);have:=hm.less;have:=hI.call (t:=t) h2 h1;have:=hI.zero;have:=hI.err (c:=4) (by omega) (by omega);have ef:∀a:Val,I a->(I (CI r.2 ⟨2,a.n,0,[],zV⟩).1/\Mok I c (CI r.2 ⟨2,a.n,0,[],zV⟩).2)/\(I (CI r.2 ⟨3,0,0,a.text,zV⟩).1/\Mok I c (CI r.2 ⟨3,0,0,a.text,zV⟩).2):=fun a ha=>by
  have hf:=Val.fit_iff.1 (hI.fit ha);exact⟨No hI hm ⟨by simp [I64],hf.2.1,by simp [I64],by simp⟩,No hI hm ⟨by simp [I64],by simp [I64],by simp [I64],hf.2.2.2.1⟩⟩
 have hd:I (r.1.getD 0 Dv):=by
  rw [Z4];cases h:r.1[0]? with
  |none=>exact hI.zero
  |some x=>grind [List.mem_of_getElem?]
 have ef:=ef _ hd;simp only [CS];cases r.2.over <;>cases C5 t <;>cases h0:decide ((r.1.length:Int)>0) <;>grind
end Go.Ab
end
section
namespace Go.Ab
variable {I:Val->Prop} {c:Nat}
theorem L4{n:Nat}{fs:List Sem}(hI:Keep I)(hf:∀f∈fs,KeepS I n f)(i:Nat):KeepS I n (fs.getD i Ad):=by
 rw [Z4];cases h:fs[i]? with
 |none=>exact fun c m sc hm hs=>⟨hI.zero,hm⟩
 |some f=>grind
theorem Tm(hI:Keep I){t:Str}:∀ {l:List Bnd},(∀b∈l,I b.value)->I (D5 l t)
 | [],_=>hI.err (c:=1) (by omega) (by omega)
 |b::l,h=>by
  have:=Tm hI (t:=t) (l:=l) fun b hb=>h b (by grind)
  grind [D5]
theorem xHb(hI:Keep I){n:Nat}{g:Bool}{k j:Int}{t:Str}{fs:List Sem}{m:Mch}{sc:List Bnd}(hj:I64 j)(ht:t.length<=1048576)(hf:∀f∈fs,KeepS I n f)(hl:fs.length<=1048576)
 (hm:Mok I (c+1) m) (hs:Sok I (n+1) sc):I (An g k j t fs m sc).1/\Mok I c (An g k j t fs m sc).2:=by
 have hs0:Sok I n sc:=hs.le (by omega);obtain⟨q1,q2,q3,_⟩:=IX (g:=g) hf hm hs0;have q4:=xDv hI (t:=t) q1 (by omega) q2;have g0:=L4 hI hf 0 _ _ _ hm hs0;have g1:=fun m sc hm hs=>L4 hI hf 1 (c+1) m sc hm hs;have g2:=fun m sc hm hs=>L4 hI hf 2 (c+1) m sc hm hs;have gd:∀i,I ((A1 g fs m sc).1.getD i Dv):=fun i=>by
  rw [Z4];cases h:(A1 g fs m sc).1[i]? with
  |none=>exact hI.zero
  |some f=>grind
 have gb:=hI.build (l:=(A1 g fs m sc).1) (by omega) q1;have ga:=hI.app (n:=j) (gd 0) (gd 1);have gl:=Tm hI (t:=t) (l:=sc.reverse) fun b hb=>(hs.2 b (by grind)).1;have gn:=hI.num hj;have gt:=hI.text ht;have gz:=hI.zero;have ge:=hI.err (c:=4) (by omega) (by omega);obtain⟨w1,w2,w3⟩:=S8 ht (L4 hI hf 1) (xs:=((fs.getD 0 Ad) m sc).1.list) (fun x hx=>hI.el g0.1 hx) g0.2 hs;have w4:=hI.build (l:=(A5 t (fs.getD 1 Ad) ((fs.getD 0 Ad) m sc).1.list ((fs.getD 0 Ad) m sc).2 sc).1) (by have:=(Val.fit_iff.1 (hI.fit g0.1)).2.2.2.2.1.1;omega) w1;have m0:=hm.less;have m1:=g0.2.less;have m2:=q2.less;have m3:=w2.less;have h1:=g1 _ _ g0.2 hs0;have h1' :=h1.2.less;have h2:=g2 _ _ g0.2 hs0;have h2' :=h2.2.less;have h3:=g1 _ _ g0.2 (hs.snoc (t:=t) ht g0.1);have h3' :=h3.2.less;unfold An;cases k==1
 ·cases k==2
  ·cases k==3
   ·cases k==4
    ·cases k==5
     ·cases k==6
      ·cases k==7
       ·cases k==8
        ·simp only [jF,Bz]
         grind
        ·simp only [jF,jT,Bz]
         grind
       grind
      ·simp only [jF,jT]
       grind
     grind
    ·simp only [jF,jT]
     grind
   grind
  grind
 grind
theorem LR(hI:Keep I)(g:Bool):∀e:Exp,e.Fit 1048576->KeepS I (e.nest+1) (evG g e):=by
 refine Exp.ind fun k n t a ih h c m sc hm hs=> ?_;obtain⟨h1,h2,h3,h4⟩:=Exp.fit_iff.1 h;rw [Ew,CO];rw [Exp.nest_eq] at hs;have hz:=hI.zero;cases ho:m.over
 ·cases h2:m.steps==200
  ·exact xHb hI (n:=Exp.nests a+1) ‹_› h3 (fun f hf=>by
    obtain⟨x,hx,rfl⟩:=Zk.1 hf;have:=Gc hx;exact fun c m sc hm hs=>ih x hx (h4.2 x hx) c m sc hm (hs.le (by omega))) (by rw [Zm];exact h4.1) (hm.tick ho (by grind)) hs
  ·exact⟨hz,hm.halt (.inr (by grind))⟩
 ·exact⟨hz,hm.halt (.inl ho)⟩
end Go.Ab
end
section
namespace Go.Ab
variable {I:Val->Prop} {c:Nat}
abbrev fI(N d:Nat):=BJ N d
def Er(I:Val->Prop)(n:Nat)(x:Exp):Prop:=∀c m sc,Mok I c m->Sok I n sc->Big2 fun N d=>(fI N d).c10 m x sc=some (evG true x m sc)
theorem KH{α:Type}{l:List α}{x:α}(h:l.length<=2000000):l.length+ [x].length<=Lim:=by grind [Lim]
theorem U7{a:List Exp}{sc:List Bnd}{n:Nat}(hs:Sok I n sc)(ha:a.length<=1048576)(hk:∀x∈a,KeepS I n (evG true x))(hx:∀x∈a,Er I n x):
 ∀(l:List Exp) (i:Nat) (acc:List Val) (m:Mch),a.drop i=l->acc.length=i->i<=a.length->Mok I c m->Big3 fun N d n=>ID N (fI N d).c8 (fI N d).c9 (fI N d).c10 (fI N d).c11 n sc acc a a.length i m=
  some (acc++(A1 true (l.map (evG true)) m sc).1,(A1 true (l.map (evG true)) m sc).2)
 | [],i,acc,m,hd,hi,hl,hm=>by
   grind [List.drop_eq_nil_iff,Big3.succ,Big3.of,ID,A1]
 |x::l,i,acc,m,hd,hi,hl,hm=>by
  have hxi:a[i]? =some x:=by grind [List.head?_drop]
  have hm' :=Zy hxi;have hlt:=(Zs.1 hxi).1;have hi' :(i:Int)<(a.length:Int):=by omega
  have hk:=hk x hm' c m sc hm hs;refine Big3.succ (((hx x hm' c m sc hm hs).three.and (U7 hs ha ‹_› hx l (i+1) (acc++ [(evG true x m sc).1]) _ (by rw [<-ZC,hd];rfl) (by grind) hlt hk.2)).imp fun N d n ⟨h1,h2⟩=> ?_)
  grind [ID,Val.re_eq,AL,KH,A1]
theorem Tn(hI:Keep I){sc:List Bnd}{n:Nat}{e:Exp}{y:Exp}{xs:List Val}(hs:Sok I (n+1) sc)(ht:e.text.length<=1048576)(he:e.args[1]? =some y)(ha:xs.length<=1048576)(hk:KeepS I n (evG true y))(hx:Er I n y)(hxs:∀x∈xs,I x)(b6:Val):
 ∀(l:List Val) (i:Nat) (acc:List Val) (m:Mch),xs.drop i=l->acc.length=i->i<=xs.length->(∀v∈acc,I v)->m.over=false->Mok I c m->Big3 fun N d n=>FJ N (fI N d).c8 (fI N d).c9 (fI N d).c10 (fI N d).c11 n sc acc xs xs.length i m e b6=
  some (bif(A5 e.text (evG true y) l m sc).2.over then zV else BP (acc++(A5 e.text (evG true y) l m sc).1),(A5 e.text (evG true y) l m sc).2)
 | [],i,acc,m,hd,hi,hl,hv,ho,hm=>by
   have:i=xs.length:=by grind [List.drop_eq_nil_iff]
   refine Big3.succ (((LK (K:=1048576) (by omega) (l:=acc) ⟨by omega,fun v h=>hI.fit (hv v h)⟩).two.three).imp fun N d n h=> ?_)
   grind [FJ,A5]
 |x::l,i,acc,m,hd,hi,hl,hv,ho,hm=>by
  have hxi:xs[i]? =some x:=by grind [List.head?_drop]
  have hm' :=Zy hxi;have hlt:=(Zs.1 hxi).1;have hi' :(i:Int)<(xs.length:Int):=by omega
  have h1:=(Zs.1 he).1;have hs' :=hs.snoc (t:=e.text) ht (hxs x hm');have hk' :=hk c m _ hm hs';have hb:=LJ (K:=2000000) (xs:=sc) (s:=e.text) (v:=x) ⟨by have:=hs.1;omega,fun b hb=>⟨by show b.name.length<=_;have:=(hs.2 b hb).2;omega,Val.fit_mono (by omega) (hI.fit (hs.2 b hb).1)⟩⟩ (Val.fit_mono (by omega) (hI.fit (hxs x hm'))) (by omega);cases hov:(evG true y m (sc++ [⟨e.text,x⟩])).2.over
  ·refine Big3.succ (((hb.two.and (hx c m _ hm hs')).three.and (Tn hI hs ht he ha hk hx hxs b6 l (i+1) (acc++ [(evG true y m (sc++ [⟨e.text,x⟩])).1]) _ (by rw [<-ZC,hd];rfl) (by grind) hlt (by grind) hov hk'.2)).imp fun N d n ⟨⟨h2,h3⟩,h4⟩=> ?_);simp only [FJ,Zz hi',jT,jI,AR hxi,h2.2,h3,show Int.toNat 1=1 from rfl,AR he,jS,Val.re_eq,AL hlt (by omega:xs.length<=_),Zt (KH (by omega:acc.length<=2000000)),hov,jF]
   grind [A5]
  ·refine Big3.succ ((hb.two.and (hx c m _ hm hs')).three.imp fun N d n ⟨h2,h3⟩=> ?_);simp only [FJ,Zz hi',jT,jI,AR hxi,h2.2,h3,show Int.toNat 1=1 from rfl,AR he,jS,Val.re_eq,Zt (KH (by omega:acc.length<=2000000)),hov];rw [Zt (by omega),Zt (by omega)];simp [A5,hov];rfl
theorem LP(s:Str):C5 s=(s== [99,108,111,99,107]||(s== [99,104,97,110,99,101]||s== [102,105,108,101])):=by
 grind [C5,D1]
theorem Qn(N:Nat)(s:Str):D1 N s=some (C5 s):=by
 grind [LP,D1]
theorem Qq{t:Str}{l:List Val}(h:C5 t=true)(hl:(l.length:Int)=BC t):(t=[99,108,111,99,107]/\l=[])\/∃x,l=[x]/\(t=[99,104,97,110,99,101]\/t=[102,105,108,101]):=by
 rw [LP] at h;simp only [Yv,beq_iff_eq] at h;rcases h with h|h|h <;>subst h
 ·exact .inl ⟨rfl,Z3.1 (by rw [show BC [99,108,111,99,107]=0 by kernel_rfl] at hl;omega)⟩
 ·rw [show BC [99,104,97,110,99,101]=1 by kernel_rfl] at hl
  grind [G6]
 ·rw [show BC [102,105,108,101]=1 by kernel_rfl] at hl
  grind [G6]
theorem xDZ{N:Nat}{q0:Mch->List Exp->List Bnd->Option (List Val×Mch)}{q1 q2 q3:Mch->Exp->List Bnd->Option (Val×Mch)}{m:Mch}{e:Exp}{sc:List Bnd}{r:List Val×Mch}(h0:q0 m e.args sc=some r)
 (hl:r.2.over=false->(r.1.length:Int)=BC e.text) (hc:DX N e.text r.1=some (BY e.text r.1)) (he:∀x∈ [Rea.mk 1 0 0 [] zV,.mk 2 (r.1.getD 0 Dv).n 0 [] zV,.mk 3 0 0 (r.1.getD 0 Dv).text zV],DB N r.2 x=some (CI r.2 x)):
 MF N q0 q1 q2 q3 m e sc=some (CS e.text r):=by
 simp only [Zh,Z6,or_false,forall_eq_or_imp,forall_eq] at he;obtain⟨e1,e2,e3⟩:=he;unfold MF CS;simp only [h0,jS,Qn];cases ho:r.2.over
 ·cases hb:C5 e.text
  ·grind
  ·obtain⟨l,m2⟩:=r;rcases Qq hb (hl ho) with ⟨h1,h2⟩|⟨x,h2,h1⟩
   ·have h2:l=[]:=h2;subst h2;rw [h1];simp only [jF,jU];exact(Zl (fun z=>Option.bind z fun r3=>some (r3.1,r3.2)) e1)
   ·have h2:l=[x]:=h2;subst h2;have k1:∀b:Bool,(b&&x.kind==6)=(b&&x.kind==6):=fun _=>rfl;rcases h1 with h1|h1 <;>rw [h1] <;>simp only [jF,jU]
    ·cases h6:x.kind==6
     ·cases h7:x.kind==1
      ·simp [h6,h7];rfl
      ·simp [h6,h7];exact(Zl (fun z=>Option.bind z fun r3=>some (r3.1,r3.2)) e2)
     grind
    ·cases h6:x.kind==6
     ·cases h7:x.kind==2
      ·simp [h6,h7];rfl
      ·simp [h6,h7];exact(Zl (fun z=>Option.bind z fun r3=>some (r3.1,r3.2)) e3)
     grind
 ·rfl
end Go.Ab
end
section
namespace Go.Ab
variable {I:Val->Prop} {c:Nat}
theorem KeepS.le{n k:Nat}{f:Sem}(h:KeepS I n f)(hk:n<=k):KeepS I k f:=fun c m sc hm hs=>h c m sc hm (hs.le hk)
theorem Tt{k n:Int}{t:Str}{l:Nat}(h:KJ El Ce BC k n t l=true):
 k=1\/k=2\/k=3\/k=4\/(k=5/\(l:Int)=BC t)\/(k=6/\l=2)\/(k=7/\l=2)\/(k=8/\l=3)\/(k=9/\l=2):=by
 grind [KJ]
theorem IK{α:Type}{l:List α}(h:l.length=2):∃a b,l=[a,b]:=by
 match l,h with
 | [a,b],_=>grind
theorem Tq{α:Type}{l:List α}(h:l.length=3):∃a b c,l=[a,b,c]:=by
 match l,h with
 | [a,b,c],_=>grind
theorem KV(hI:Keep I){n:Nat}{sc:List Bnd}(hs:Sok I n sc):Aj 2000000 (Bnd.Fit 2000000) sc:=
 ⟨by have:=hs.1;omega,fun b hb=>⟨by show b.name.length<=_;have:=(hs.2 b hb).2;omega,Val.fit_mono (by omega) (hI.fit (hs.2 b hb).1)⟩⟩
theorem Ua(hI:Keep I){a:List Exp}{n:Nat}{m:Mch}{sc:List Bnd}(ha:a.length<=1048576)(hk:∀x∈a,KeepS I n (evG true x))(hx:∀x∈a,Er I n x)(hm:Mok I c m)(hs:Sok I n sc):
 Big2 fun N d=>(fI N d).c8 m a sc=some (A1 true (a.map (evG true)) m sc):=
 Big2.succ ((U7 hs ha hk hx a 0 [] m rfl rfl (by omega) hm).inner.imp fun N d h=>h)
theorem xD1(hI:Keep I){e:Exp}{n:Nat}{m:Mch}{sc:List Bnd}(ha:e.args.length<=1048576)(hk:∀x∈e.args,KeepS I n (evG true x))(hx:∀x∈e.args,Er I n x)(hm:Mok I c m)(hs:Sok I n sc)(hl:(e.args.length:Int)=BC e.text):
 Big2 fun N d=>(fI N d).c9 m e sc=some (CS e.text (A1 true (e.args.map (evG true)) m sc)):=by
 obtain⟨q1,q2,q3,q4⟩:=IX (g:=true) (fs:=e.args.map (evG true)) (fun f hf=>by grind) hm hs;rw [Zm] at q3 q4;refine Big2.succ ((((Ua hI ha hk hx hm hs).and (Qf (s:=e.text) (l:=(A1 true (e.args.map (evG true)) m sc).1) ⟨by omega,fun v hv=>hI.fit (q1 v hv)⟩).two).and (Big.list (l:=[Rea.mk 1 0 0 [] zV,.mk 2 ((A1 true (e.args.map (evG true)) m sc).1.getD 0 Dv).n 0 [] zV,.mk 3 0 0 ((A1 true (e.args.map (evG true)) m sc).1.getD 0 Dv).text zV]) fun x _=>Qp hI q2 x).two).imp fun N d ⟨⟨h1,h2⟩,h3⟩=> ?_);exact xDZ (q1:=(fI N d).c9) (q2:=(fI N d).c10) (q3:=(fI N d).c11) h1 (fun _=>by grind) h2.1 fun x hx=>(h3 x hx).1
theorem xGY(hI:Keep I){k j:Int}{t:Str}{x y:Exp}{n:Nat}{m:Mch}{sc:List Bnd}(ht:t.length<=1048576)(hkx:KeepS I n (evG true x))(hky:KeepS I n (evG true y))(hsx:Er I n x)(hsy:Er I n y)(hm:Mok I c m)(hs:Sok I (n+1) sc):
 Big2 fun N d=>(fI N d).c11 m (.mk 9 j t [x,y]) sc=some (An true 9 j t [evG true x,evG true y] m sc):=by
 have hs0:Sok I n sc:=hs.le (by omega);have h0:=hkx c m sc hm hs0;have hv:=(Val.fit_iff.1 (hI.fit h0.1)).2.2.2.2.1.1
 have key:∀N d:Nat,(fI N d).c10 m x sc=some (evG true x m sc)->
  (∀ho:(evG true x m sc).2.over=false,FJ N (fI N d).c8 (fI N d).c9 (fI N d).c10 (fI N d).c11 N sc [] (evG true x m sc).1.list ((evG true x m sc).1.list.length:Nat) 0 (evG true x m sc).2 (.mk 9 j t [x,y]) zV=
    some (bif(A5 t (evG true y) (evG true x m sc).1.list (evG true x m sc).2 sc).2.over then zV else BP (A5 t (evG true y) (evG true x m sc).1.list (evG true x m sc).2 sc).1,(A5 t (evG true y) (evG true x m sc).1.list (evG true x m sc).2 sc).2))->
  MG N (fI N d).c8 (fI N d).c9 (fI N d).c10 (fI N d).c11 m (.mk 9 j t [x,y]) sc=some (An true 9 j t [evG true x,evG true y] m sc):=fun N d h1 h2=>by
  unfold MG;rw [Zt (by simp [ea]),show(Exp.mk 9 j t [x,y]).args.getD (Int.toNat 0) Dx=x from rfl,h1];show _=some (Bz (evG true x m sc) (bif(evG true x m sc).1.kind != 3 then(AO 4,(evG true x m sc).2) else(bif(A5 t (evG true y) (evG true x m sc).1.list (evG true x m sc).2 sc).2.over then zV else BP (A5 t (evG true y) (evG true x m sc).1.list (evG true x m sc).2 sc).1,(A5 t (evG true y) (evG true x m sc).1.list (evG true x m sc).2 sc).2)));simp only [jS,Bz];cases ho:(evG true x m sc).2.over
  ·cases h6:(evG true x m sc).1.kind==6
   ·cases h3:(evG true x m sc).1.kind != 3
    ·exact h2 ho
    ·rfl
   ·rfl
  ·rfl
 cases ho:(evG true x m sc).2.over
 ·exact Big2.succ (((hsx c m sc hm hs0).and (Tn hI (e:= .mk 9 j t [x,y]) hs ht rfl hv hky hsy (fun z hz=>hI.el h0.1 hz) zV _ 0 [] _ rfl rfl (by omega) (by simp) ho h0.2).inner).imp fun N d ⟨h1,h2⟩=>key N d h1 fun _=>h2)
 ·exact Big2.succ ((hsx c m sc hm hs0).imp fun N d h1=>key N d h1 fun h=>absurd (ho.symm.trans h) (by simp))
theorem xIe(hI:Keep I):∀e:Exp,e.Fit 1048576->okE e=true->Er I (e.nest+1) e:=by
 refine Exp.ind fun k n t a ih h hok c m sc hm hs=> ?_;obtain⟨h1,h2,h3,h4⟩:=Exp.fit_iff.1 h;rw [Od,Zu] at hok;rw [Exp.nest_eq] at hs;have hs:Sok I (Exp.nests a+1+1) sc:=hs;have hs0:Sok I (Exp.nests a+1) sc:=hs.le (by omega);have hk:∀x∈a,KeepS I (Exp.nests a+1) (evG true x):=fun x hx=>(LR hI true x (h4.2 x hx)).le (by have:=Gc hx;omega);have hx:∀x∈a,Er I (Exp.nests a+1) x:=fun x hx c m sc hm hs=>ih x hx (h4.2 x hx) (Zx.1 hok.1 x hx) c m sc hm (hs.le (by have:=Gc hx;omega));have ht:t.length<=1048576:=h3;rw [Ew];refine Big2.succ ?_;show Big2 fun N d=>Bx N (fI N d).c8 (fI N d).c9 (fI N d).c10 (fI N d).c11 m (.mk k n t a) sc=some (CO true k n t (a.map (evG true)) m sc);cases hov:m.over
 ·cases h200:m.steps==200
  ·have hm1:=hm.tick hov (by grind);have e1:∀N q0 q1 q2 q3,Bx N q0 q1 q2 q3 m (.mk k n t a) sc=Bx N q0 q1 q2 q3 (.mk m.tape m.w m.cell m.version m.reads m.steps false) (.mk k n t a) sc:=fun _ _ _ _ _=>by rw [<-hov]
   have e2:m.tick= .mk m.tape m.w m.cell m.version m.reads (IntKind.i64.wrap (m.steps+1)) false:=by rw [<-hov];rfl
   have e3:CO true k n t (a.map (evG true)) m sc=An true k n t (a.map (evG true)) m.tick sc:=by grind [CO]
   simp only [e1,e3];have hall:=Ua (a:=a) hI h4.1 hk hx hm1 hs0;obtain⟨q1,q2,q3,q4⟩:=IX (g:=true) (fs:=a.map (evG true)) (fun f hf=>by grind) hm1 hs0;rw [Zm] at q3 q4;have hal:a.length<=1048576:=h4.1;rcases Tt hok.2 with rfl|rfl|rfl|rfl|⟨rfl,hl⟩|⟨rfl,hl⟩|⟨rfl,hl⟩|⟨rfl,hl⟩|⟨rfl,hl⟩
   ·exact Big2.of fun N d=>by simp [Bx,h200,An,Ax,e2,ek,en];rfl
   ·grind [Big2.of,Bx,An,Ju,ek,et]
   ·exact(xAi (s:=t) (KV hI hs) (by omega)).two.imp fun N d h=>by grind [Bx,An,ek,et]
   ·rw [e2] at hall q1 q2 q3;exact(hall.and (LK (K:=1048576) (by omega) (l:=(A1 true (a.map (evG true)) _ sc).1) ⟨by omega,fun v hv=>hI.fit (q1 v hv)⟩).two).imp fun N d ⟨h1,h2⟩=>by grind [Bx,An,ek,ea]
   ·have:=xD1 hI (e:= .mk 5 n t a) hal hk hx hm1 hs0 hl;rw [e2] at this;exact this.imp fun N d h1=>by grind [Bx,An,ek,ea,et]
   ·rw [e2] at hall q1 q2 q3 q4;obtain⟨x,y,e⟩:=IK (l:=(A1 true (a.map (evG true)) (.mk m.tape m.w m.cell m.version m.reads (IntKind.i64.wrap (m.steps+1)) false) sc).1) ((q4 (.inl rfl)).trans hl);have fx:=hI.fit (q1 x (by grind));have fy:=hI.fit (q1 y (by grind));refine(hall.and (QJ (op:=n) fx fy).two).imp fun N d ⟨h1,h2⟩=> ?_;have ha2:(Bh n x y).2=true->(Bh n x y).1.list=[]/\(Bh n x y).1.columns=[]/\(Bh n x y).1.rows=[]:=fun h=>by
     grind [FM,Bh]
    have h3:=h2.1;simp only [Bx,h200,An,h1,e2,ek,ea,en,jS,jF,Int.reduceBEq,jT,e,jC,jN,jU,ZY]
    grind [CU]
   ·obtain⟨x,y,rfl⟩:=IK hl;have k0:=hk x (by simp) _ _ _ hm1 hs0;have hb:=LJ (K:=2000000) (xs:=sc) (s:=t) (v:=(evG true x m.tick sc).1) (KV hI hs) (Val.fit_mono (by omega) (hI.fit k0.1)) (by omega);have b0:=hx x (by simp) _ _ _ hm1 hs0;have b1:=hx y (by simp) _ _ _ k0.2 (hs.snoc (t:=t) ht k0.1);rw [e2] at b0 b1 hb;exact(hb.two.and (b0.and b1)).imp fun N d ⟨h1,h2,h3⟩=>by simp [Bx,h200,An,h1,h2,h3,e2,ek,ea,et]
   ·obtain⟨x,y,z,rfl⟩:=Tq hl;have k0:=hk x (by simp) _ _ _ hm1 hs0;have b0:=hx x (by simp) _ _ _ hm1 hs0;have b1:=hx y (by simp) _ _ _ k0.2 hs0;have b2:=hx z (by simp) _ _ _ k0.2 hs0;rw [e2] at b0 b1 b2;refine(b0.and (b1.and b2)).imp fun N d ⟨h1,h2,h3⟩=> ?_;simp [Bx,h200,An,h1,h2,h3,e2,ek,ea,Bz,OH]
    grind
   ·obtain⟨x,y,rfl⟩:=IK hl;have:=xGY hI (k:=9) (j:=n) ht (hk x (by simp)) (hk y (by simp)) (hx x (by simp)) (hx y (by simp)) hm1 hs;rw [e2] at this;exact this.imp fun N d h1=>by grind [Bx,ek]
  ·exact Big2.of fun N d=>by simp [Bx,CO,hov,h200];exact⟨rfl,rfl⟩
 ·exact Big2.of fun N d=>by simp [Bx,CO,hov];exact⟨rfl,rfl⟩
end Go.Ab
end
section
namespace Go.Ab
variable {I:Val->Prop} {c:Nat}
abbrev fS(N d:Nat):=BL N d
def Es(I:Val->Prop)(n:Nat)(x:Exp):Prop:=∀c m sc,Mok I c m->Sok I n sc->Big2 fun N d=>(fS N d).c4 m x sc=some (evG false x m sc)
theorem U8{a:List Exp}{sc:List Bnd}{n:Nat}(hs:Sok I n sc)(ha:a.length<=1048576)(hk:∀x∈a,KeepS I n (evG false x))(hx:∀x∈a,Es I n x):
 ∀(l:List Exp) (i:Nat) (acc:List Val) (m:Mch),a.drop i=l->acc.length<=i->i<=a.length->Mok I c m->Big3 fun N d n=>HO N (fS N d).c2 (fS N d).c3 (fS N d).c4 (fS N d).c5 n a sc acc i m=
  some (acc++(A1 false (l.map (evG false)) m sc).1,(A1 false (l.map (evG false)) m sc).2)
 | [],i,acc,m,hd,hi,hl,hm=>by
   grind [List.drop_eq_nil_iff,Big3.succ,Big3.of,HO,A1]
 |x::l,i,acc,m,hd,hi,hl,hm=>by
  have hxi:a[i]? =some x:=by grind [List.head?_drop]
  have hm' :=Zy hxi;have hlt:=(Zs.1 hxi).1;have hi' :(i:Int)<(a.length:Int):=by omega
  have hk:=hk x hm' c m sc hm hs;cases hov:m.over
  ·refine Big3.succ (((hx x hm' c m sc hm hs).three.and (U8 hs ha ‹_› hx l (i+1) (acc++ [(evG false x m sc).1]) _ (by rw [<-ZC,hd];rfl) (by grind) hlt hk.2)).imp fun N d n ⟨h1,h2⟩=> ?_)
   grind [HO,Val.re_eq,AL,KH,A1]
  grind [Big3.succ,Big3.of,HO,A1]
theorem xGX{N n:Nat}{q0:Mch->List Exp->List Bnd->Option (List Val×Mch)}{q1 q2 q3:Mch->Exp->List Bnd->Option (Val×Mch)}{sc:List Bnd}{acc:List Val}{i:Int}{m:Mch}{e:Exp}{v b6:Val}(h:m.over=true):
 DM N q0 q1 q2 q3 (n+1) sc acc i m e b6 v=some (zV,m):=by
 rw [DM,h];cases decide (i<(v.list.length:Int)) <;>rfl
theorem To(hI:Keep I){sc:List Bnd}{n:Nat}{e:Exp}{y:Exp}{v:Val}(hs:Sok I (n+1) sc)(ht:e.text.length<=1048576)(he:e.args[1]? =some y)(ha:v.list.length<=1048576)(hk:KeepS I n (evG false y))(hx:Es I n y)(hxs:∀x∈v.list,I x)(b6:Val):
 ∀(l:List Val) (i:Nat) (acc:List Val) (m:Mch),v.list.drop i=l->acc.length=i->i<=v.list.length->(∀v∈acc,I v)->m.over=false->Mok I c m->Big3 fun N d n=>DM N (fS N d).c2 (fS N d).c3 (fS N d).c4 (fS N d).c5 n sc acc i m e b6 v=
  some (bif(A5 e.text (evG false y) l m sc).2.over then zV else BP (acc++(A5 e.text (evG false y) l m sc).1),(A5 e.text (evG false y) l m sc).2)
 | [],i,acc,m,hd,hi,hl,hv,ho,hm=>by
   have:i=v.list.length:=by grind [List.drop_eq_nil_iff]
   refine Big3.succ (((LK (K:=1048576) (by omega) (l:=acc) ⟨by omega,fun v h=>hI.fit (hv v h)⟩).two.three).imp fun N d n h=> ?_)
   grind [DM,A5]
 |x::l,i,acc,m,hd,hi,hl,hv,ho,hm=>by
  have hxi:v.list[i]? =some x:=by grind [List.head?_drop]
  have hm' :=Zy hxi;have hlt:=(Zs.1 hxi).1;have hi' :(i:Int)<(v.list.length:Int):=by omega
  have h1:=(Zs.1 he).1;have hs' :=hs.snoc (t:=e.text) ht (hxs x hm');have hk' :=hk c m _ hm hs';have hb:=LJ (K:=2000000) (s:=e.text) (v:=x) (KV hI hs) (Val.fit_mono (by omega) (hI.fit (hxs x hm'))) (by omega)
  have st:∀N d n:Nat,K6 N sc e.text x=some (sc++ [⟨e.text,x⟩])->(fS N d).c4 m y (sc++ [⟨e.text,x⟩])=some (evG false y m (sc++ [⟨e.text,x⟩]))->
   DM N (fS N d).c2 (fS N d).c3 (fS N d).c4 (fS N d).c5 (n+1) sc acc i m e b6 v=DM N (fS N d).c2 (fS N d).c3 (fS N d).c4 (fS N d).c5 n sc (acc++ [(evG false y m (sc++ [⟨e.text,x⟩])).1]) ((i+1:Nat):Int) (evG false y m (sc++ [⟨e.text,x⟩])).2 e b6 v:=fun N d n h2 h3=>by
   grind [DM,Int.toNat,Val.re_eq,AL,KH]
  cases hov:(evG false y m (sc++ [⟨e.text,x⟩])).2.over
  ·refine Big3.succ (((hb.two.and (hx c m _ hm hs')).three.and (To hI hs ht he ha hk hx hxs b6 l (i+1) (acc++ [(evG false y m (sc++ [⟨e.text,x⟩])).1]) _ (by rw [<-ZC,hd];rfl) (by grind) hlt (by grind) hov hk'.2)).imp fun N d n ⟨⟨h2,h3⟩,h4⟩=> ?_)
   grind [A5]
  ·refine Big3.succ (Big3.succ ((hb.two.and (hx c m _ hm hs')).three.imp fun N d n ⟨h2,h3⟩=> ?_))
   grind [xGX,A5]
theorem xDM:Big fun N=>∀s,HD N (.mk 5 0 s [])=some (C5 s):=
 ⟨2,fun N hN s=>by
   obtain⟨k,rfl⟩:∃k,N=k+1:=⟨N - 1,by omega⟩
   grind [LP,HD,F3,Mf,ek,et,De,ea]⟩
theorem xD0{N:Nat}{q0:Mch->List Exp->List Bnd->Option (List Val×Mch)}{q1 q2 q3:Mch->Exp->List Bnd->Option (Val×Mch)}{m:Mch}{e:Exp}{sc:List Bnd}{r:List Val×Mch}(h0:q0 m e.args sc=some r)
 (hl:r.2.over=false->(r.1.length:Int)=BC e.text) (hc:Dc N e.text r.1=some (BY e.text r.1).1) (he:∀x∈ [Rea.mk 1 0 0 [] zV,.mk 2 (r.1.getD 0 Dv).n 0 [] zV,.mk 3 0 0 (r.1.getD 0 Dv).text zV],E6 N r.2 x=some (CI r.2 x)) (hb:HD N (.mk 5 0 e.text [])=some (C5 e.text)):
 Mz N q0 q1 q2 q3 m e sc=some (CS e.text r):=by
 simp only [Zh,Z6,or_false,forall_eq_or_imp,forall_eq] at he;obtain⟨e1,e2,e3⟩:=he;unfold Mz CS;simp only [h0,jS,hb];cases ho:r.2.over
 ·cases hb:C5 e.text
  ·grind
  ·obtain⟨l,m2⟩:=r;rcases Qq hb (hl ho) with ⟨h1,h2⟩|⟨x,h2,h1⟩
   ·have h2:l=[]:=h2;subst h2;rw [h1];simp only [jF,jU];exact(Zl (fun z=>Option.bind z fun r3=>some (r3.1,r3.2)) e1)
   ·have h2:l=[x]:=h2;subst h2;rcases h1 with h1|h1 <;>rw [h1] <;>simp only [jF,jU]
    ·cases h6:x.kind==6
     ·cases h7:x.kind==1
      ·simp [h6,h7];rfl
      ·simp [h6,h7];exact(Zl (fun z=>Option.bind z fun r3=>some (r3.1,r3.2)) e2)
     grind
    ·cases h6:x.kind==6
     ·cases h7:x.kind==2
      ·simp [h6,h7];rfl
      ·simp [h6,h7];exact(Zl (fun z=>Option.bind z fun r3=>some (r3.1,r3.2)) e3)
     grind
 ·rfl
theorem Ub(hI:Keep I){a:List Exp}{n:Nat}{m:Mch}{sc:List Bnd}(ha:a.length<=1048576)(hk:∀x∈a,KeepS I n (evG false x))(hx:∀x∈a,Es I n x)(hm:Mok I c m)(hs:Sok I n sc):
 Big2 fun N d=>(fS N d).c2 m a sc=some (A1 false (a.map (evG false)) m sc):=
 Big2.succ ((U8 hs ha hk hx a 0 [] m rfl (by simp) (by omega) hm).inner.imp fun N d h=>h)
theorem xD2(hI:Keep I){e:Exp}{n:Nat}{m:Mch}{sc:List Bnd}(ha:e.args.length<=1048576)(hk:∀x∈e.args,KeepS I n (evG false x))(hx:∀x∈e.args,Es I n x)(hm:Mok I c m)(hs:Sok I n sc)(hl:(e.args.length:Int)=BC e.text):
 Big2 fun N d=>(fS N d).c3 m e sc=some (CS e.text (A1 false (e.args.map (evG false)) m sc)):=by
 obtain⟨q1,q2,q3,q4⟩:=IX (g:=false) (fs:=e.args.map (evG false)) (fun f hf=>by grind) hm hs;rw [Zm] at q3 q4;refine Big2.succ (((((Ub hI ha hk hx hm hs).and (Qf (s:=e.text) (l:=(A1 false (e.args.map (evG false)) m sc).1) ⟨by omega,fun v hv=>hI.fit (q1 v hv)⟩).two).and (Big.list (l:=[Rea.mk 1 0 0 [] zV,.mk 2 ((A1 false (e.args.map (evG false)) m sc).1.getD 0 Dv).n 0 [] zV,.mk 3 0 0 ((A1 false (e.args.map (evG false)) m sc).1.getD 0 Dv).text zV]) fun x _=>Qp hI q2 x).two).and xDM.two).imp fun N d ⟨⟨⟨h1,h2⟩,h3⟩,h4⟩=> ?_);exact xD0 (q1:=(fS N d).c3) (q2:=(fS N d).c4) (q3:=(fS N d).c5) h1 (fun ho=>by grind) h2.2 (fun x hx=>(h3 x hx).2) (h4 _)
theorem xGZ(hI:Keep I){k j:Int}{t:Str}{x y:Exp}{n:Nat}{m:Mch}{sc:List Bnd}(ht:t.length<=1048576)(hkx:KeepS I n (evG false x))(hky:KeepS I n (evG false y))(hsx:Es I n x)(hsy:Es I n y)(hm:Mok I c m)(hs:Sok I (n+1) sc):
 Big2 fun N d=>(fS N d).c5 m (.mk 9 j t [x,y]) sc=some (An false 9 j t [evG false x,evG false y] m sc):=by
 have hs0:Sok I n sc:=hs.le (by omega);have h0:=hkx c m sc hm hs0;have hv:=(Val.fit_iff.1 (hI.fit h0.1)).2.2.2.2.1.1
 have key:∀N d:Nat,(fS N d).c4 m x sc=some (evG false x m sc)->
  (∀ho:(evG false x m sc).2.over=false,DM N (fS N d).c2 (fS N d).c3 (fS N d).c4 (fS N d).c5 N sc [] 0 (evG false x m sc).2 (.mk 9 j t [x,y]) zV (evG false x m sc).1=
    some (bif(A5 t (evG false y) (evG false x m sc).1.list (evG false x m sc).2 sc).2.over then zV else BP (A5 t (evG false y) (evG false x m sc).1.list (evG false x m sc).2 sc).1,(A5 t (evG false y) (evG false x m sc).1.list (evG false x m sc).2 sc).2))->
  NB N (fS N d).c2 (fS N d).c3 (fS N d).c4 (fS N d).c5 m (.mk 9 j t [x,y]) sc=some (An false 9 j t [evG false x,evG false y] m sc):=fun N d h1 h2=>by
  unfold NB;rw [Zt (by simp [ea]),show(Exp.mk 9 j t [x,y]).args.getD (Int.toNat 0) Dx=x from rfl,h1];show _=some (Bz (evG false x m sc) (bif(evG false x m sc).1.kind != 3 then(AO 4,(evG false x m sc).2) else(bif(A5 t (evG false y) (evG false x m sc).1.list (evG false x m sc).2 sc).2.over then zV else BP (A5 t (evG false y) (evG false x m sc).1.list (evG false x m sc).2 sc).1,(A5 t (evG false y) (evG false x m sc).1.list (evG false x m sc).2 sc).2)));simp only [jS,Bz];cases ho:(evG false x m sc).2.over
  ·cases h6:(evG false x m sc).1.kind==6
   ·cases h3:(evG false x m sc).1.kind != 3
    ·exact h2 ho
    ·rfl
   ·rfl
  ·rfl
 cases ho:(evG false x m sc).2.over
 ·exact Big2.succ (((hsx c m sc hm hs0).and (To hI (e:= .mk 9 j t [x,y]) hs ht rfl hv hky hsy (fun z hz=>hI.el h0.1 hz) zV _ 0 [] _ rfl rfl (by omega) (by simp) ho h0.2).inner).imp fun N d ⟨h1,h2⟩=>key N d h1 fun _=>h2)
 ·exact Big2.succ ((hsx c m sc hm hs0).imp fun N d h1=>key N d h1 fun h=>absurd (ho.symm.trans h) (by simp))
theorem xIf(hI:Keep I):∀e:Exp,e.Fit 1048576->okE e=true->Es I (e.nest+1) e:=by
 refine Exp.ind fun k n t a ih h hok c m sc hm hs=> ?_;obtain⟨h1,h2,h3,h4⟩:=Exp.fit_iff.1 h;rw [Od,Zu] at hok;rw [Exp.nest_eq] at hs;have hs:Sok I (Exp.nests a+1+1) sc:=hs;have hs0:Sok I (Exp.nests a+1) sc:=hs.le (by omega);have hk:∀x∈a,KeepS I (Exp.nests a+1) (evG false x):=fun x hx=>(LR hI false x (h4.2 x hx)).le (by have:=Gc hx;omega);have hx:∀x∈a,Es I (Exp.nests a+1) x:=fun x hx c m sc hm hs=>ih x hx (h4.2 x hx) (Zx.1 hok.1 x hx) c m sc hm (hs.le (by have:=Gc hx;omega));have ht:t.length<=1048576:=h3;rw [Ew];refine Big2.succ ?_;show Big2 fun N d=>Bq N (fS N d).c2 (fS N d).c3 (fS N d).c4 (fS N d).c5 m (.mk k n t a) sc=some (CO false k n t (a.map (evG false)) m sc);cases hov:m.over
 ·cases h200:m.steps==200
  ·have hm1:=hm.tick hov (by grind);have e1:∀N q0 q1 q2 q3,Bq N q0 q1 q2 q3 m (.mk k n t a) sc=Bq N q0 q1 q2 q3 (.mk m.tape m.w m.cell m.version m.reads m.steps false) (.mk k n t a) sc:=fun _ _ _ _ _=>by rw [<-hov]
   have e2:m.tick= .mk m.tape m.w m.cell m.version m.reads (IntKind.i64.wrap (m.steps+1)) false:=by rw [<-hov];rfl
   have e3:CO false k n t (a.map (evG false)) m sc=An false k n t (a.map (evG false)) m.tick sc:=by grind [CO]
   simp only [e1,e3];have hall:=Ub (a:=a) hI h4.1 hk hx hm1 hs0;obtain⟨q1,q2,q3,q4⟩:=IX (g:=false) (fs:=a.map (evG false)) (fun f hf=>by grind) hm1 hs0;rw [Zm] at q3 q4;have hal:a.length<=1048576:=h4.1;rcases Tt hok.2 with rfl|rfl|rfl|rfl|⟨rfl,hl⟩|⟨rfl,hl⟩|⟨rfl,hl⟩|⟨rfl,hl⟩|⟨rfl,hl⟩
   ·exact Big2.of fun N d=>by simp [Bq,h200,An,A6,e2,ek,en];rfl
   ·grind [Big2.of,Bq,An,Df,ek,et]
   ·exact(xAi (s:=t) (KV hI hs) (by omega)).two.imp fun N d h=>by grind [Bq,An,ek,et]
   ·rw [e2] at hall q1 q2 q3;exact(hall.and (LK (K:=1048576) (by omega) (l:=(A1 false (a.map (evG false)) _ sc).1) ⟨by omega,fun v hv=>hI.fit (q1 v hv)⟩).two).imp fun N d ⟨h1,h2⟩=>by
     simp [Bq,h200,An,h1,e2,ek,ea];cases (A1 false (a.map (evG false)) _ sc).2.over
     ·grind
     ·rfl
   ·have:=xD2 hI (e:= .mk 5 n t a) hal hk hx hm1 hs0 hl;rw [e2] at this;exact this.imp fun N d h1=>by grind [Bq,An,ek,ea,et]
   ·rw [e2] at hall q1 q2 q3 q4;cases ho:(A1 false (a.map (evG false)) (.mk m.tape m.w m.cell m.version m.reads (IntKind.i64.wrap (m.steps+1)) false) sc).2.over
    ·obtain⟨x,y,e⟩:=IK (l:=(A1 false (a.map (evG false)) (.mk m.tape m.w m.cell m.version m.reads (IntKind.i64.wrap (m.steps+1)) false) sc).1) ((q4 (.inr ho)).trans hl);exact(hall.and (QJ (op:=n) (hI.fit (q1 x (by grind))) (hI.fit (q1 y (by grind)))).two).imp fun N d ⟨h1,h2⟩=>by grind [Bq,An,ek,ea,en]
    ·exact hall.imp fun N d h1=>by simp [Bq,h200,An,h1,e2,ek,ea,en,ho];rfl
   ·obtain⟨x,y,rfl⟩:=IK hl;have k0:=hk x (by simp) _ _ _ hm1 hs0;have hb:=LJ (K:=2000000) (xs:=sc) (s:=t) (v:=(evG false x m.tick sc).1) (KV hI hs) (Val.fit_mono (by omega) (hI.fit k0.1)) (by omega);have b0:=hx x (by simp) _ _ _ hm1 hs0;have b1:=hx y (by simp) _ _ _ k0.2 (hs.snoc (t:=t) ht k0.1);rw [e2] at b0 b1 hb;refine(hb.two.and (b0.and b1)).imp fun N d ⟨h1,h2,h3⟩=> ?_;simp [Bq,h200,An,h1,h2,h3,e2,ek,ea,et];cases ho:(evG false x _ sc).2.over
    ·rfl
    ·obtain⟨k,n',t',l⟩:=y;rw [Ew,CO,ho,jT,Mch.halt_of ho];rfl
   ·obtain⟨x,y,z,rfl⟩:=Tq hl;have k0:=hk x (by simp) _ _ _ hm1 hs0;have b0:=hx x (by simp) _ _ _ hm1 hs0;have b1:=hx y (by simp) _ _ _ k0.2 hs0;have b2:=hx z (by simp) _ _ _ k0.2 hs0;rw [e2] at b0 b1 b2;refine(b0.and (b1.and b2)).imp fun N d ⟨h1,h2,h3⟩=> ?_;simp [Bq,h200,An,h1,h2,h3,e2,ek,ea,Bz,PJ]
    grind
   ·obtain⟨x,y,rfl⟩:=IK hl;have:=xGZ hI (k:=9) (j:=n) ht (hk x (by simp)) (hk y (by simp)) (hx x (by simp)) (hx y (by simp)) hm1 hs;rw [e2] at this;exact this.imp fun N d h1=>by grind [Bq,ek]
  ·exact Big2.of fun N d=>by simp [Bq,CO,hov,h200];exact⟨rfl,rfl⟩
 ·exact Big2.of fun N d=>by simp [Bq,CO,hov];exact⟨rfl,rfl⟩
end Go.Ab
end
section
namespace Go.Ab
variable {I:Val->Prop} {c:Nat}
theorem Qu(g:Bool){m:Mch}(h:m.over=true)(e:Exp)(sc:List Bnd):evG g e m sc=(zV,m):=by
 obtain⟨k,n,t,l⟩:=e;rw [Ew,CO,h,jT,Mch.halt_of h]
theorem Ov{m:Mch}(h:m.over=true)(g:Bool)(sc:List Bnd):∀l:List Exp,(A1 g (l.map (evG g)) m sc).2=m
 | []=>rfl
 |x::l=>by
  have:=Ov h g sc l
  grind [A1,Qu]
def Ag{α:Type}(p q:α×Mch):Prop:=p.2=q.2/\(q.2.over=false->p.1=q.1)
theorem Ag.rfl{α:Type}{p:α×Mch}:Ag p p:=⟨_root_.rfl,fun _=>_root_.rfl⟩
theorem U9:∀ {l:List Exp} {m:Mch} {sc:List Bnd},(∀x∈l,∀m sc,Ag (evG true x m sc) (evG false x m sc))->Ag (A1 true (l.map (evG true)) m sc) (A1 false (l.map (evG false)) m sc)
 | [],m,sc,_=> .rfl
 |x::l,m,sc,h=>by
  have h1:=h x (by simp) m sc;have h2:=U9 (l:=l) (m:=(evG false x m sc).2) (sc:=sc) fun y hy=>h y (by grind);cases ho:m.over
  ·simp only [ZX,A1,ho,jU,ZY,jF,jV,ZV,h1.1];refine⟨h2.1,fun hf=> ?_⟩;cases hx:(evG false x m sc).2.over
   ·rw [h1.2 hx,h2.2 hf]
   grind [Ov]
  grind [Ag,Ov]
theorem S7{t:Str}{f f' :Sem}{sc:List Bnd}(h:∀m sc,Ag (f m sc) (f' m sc)):∀(xs:List Val) (m:Mch),A5 t f xs m sc=A5 t f' xs m sc\/((A5 t f xs m sc).2=(A5 t f' xs m sc).2/\(A5 t f' xs m sc).2.over=true)
 | [],m=> .inl _root_.rfl
 |x::xs,m=>by
  have h1:=h m (sc++ [⟨t,x⟩]);have h2:=S7 (t:=t) (sc:=sc) h xs (f' m (sc++ [⟨t,x⟩])).2;simp only [A5,h1.1];cases ho:(f' m (sc++ [⟨t,x⟩])).2.over
  ·have:=h1.2 ho
   grind
  grind
theorem Tp{p q k k' :Val×Mch}(h:Ag p q)(hk:q.2.over=false->Ag k k'):Ag (Bz p k) (Bz q k'):=by
 obtain⟨v,m⟩:=p;obtain⟨v',m'⟩:=q;obtain⟨h1,h2⟩:=h;simp only at h1 h2;subst h1;simp only [Bz];cases ho:m.over
 ·have:=h2 ho;subst this;cases v.kind==6
  ·grind
  ·exact .rfl
 ·exact⟨_root_.rfl,fun hf=>absurd (ho.symm.trans hf) (by simp)⟩
theorem xDu{t:Str}{p q:List Val×Mch}(h:Ag p q):Ag (CS t p) (CS t q):=by
 obtain⟨v,m⟩:=p;obtain⟨v',m'⟩:=q;obtain⟨h1,h2⟩:=h;simp only at h1 h2;subst h1;cases ho:m.over
 ·have:=h2 ho;subst this;exact .rfl
 ·simp only [CS,ho];exact .rfl
theorem Cx{α:Type}{b:Bool}{p q p' q' :α×Mch}(h:Ag p q)(h' :Ag p' q'):Ag (bif b then p else p') (bif b then q else q'):=by
 grind
theorem Sb{p q:List Val×Mch}{f g:List Val->Bool->Val}(h:Ag p q)(hf:∀l,f l true=g l true\/True)(h2:∀l,f l false=g l false):Ag (f p.1 p.2.over,p.2) (g q.1 q.2.over,q.2):=by
 obtain⟨h1,h3⟩:=h;refine⟨h1,fun ho=> ?_⟩
 grind
theorem xDU:∀(e:Exp) (m:Mch) (sc:List Bnd),Ag (evG true e m sc) (evG false e m sc):=by
 refine Exp.ind fun k n t a ih m sc=> ?_;rw [Ew,Ew];have hs:=U9 (sc:=sc) (m:=m.tick) ih;have hd:∀i m sc,Ag ((a.map (evG true)).getD i Ad m sc) ((a.map (evG false)).getD i Ad m sc):=fun i m sc=>by
  rw [Z4,Z4,Ze,Ze];cases h:a[i]? with
  |none=>exact .rfl
  |some x=>exact ih x (Zy h) m sc
 have ov:∀g m sc,m.over=true->(a.map (evG g)).getD 1 Ad m sc=(zV,m):=fun g m sc ho=>by
  rw [Z4,Ze];cases h:a[1]? with
  |none=>rfl
  |some x=>exact Qu g ho x sc
 have h0:=hd 0 m.tick sc;have h1:=fun m sc=>hd 1 m sc;have h2:=fun m sc=>hd 2 m sc;refine Cx .rfl (Cx .rfl ?_);generalize m.tick=m1 at*;unfold An;generalize A1 true (a.map (evG true)) m1 sc=p at*;generalize A1 false (a.map (evG false)) m1 sc=q at*;have o1:=ov true;have o2:=ov false;generalize (a.map (evG true)).getD 0 Ad m1 sc=p0 at*;generalize (a.map (evG false)).getD 0 Ad m1 sc=q0 at*;generalize (a.map (evG true)).getD 1 Ad=f1 at*;generalize (a.map (evG false)).getD 1 Ad=g1 at*;generalize (a.map (evG true)).getD 2 Ad=f2 at*;generalize (a.map (evG false)).getD 2 Ad=g2 at*
 refine Cx .rfl (Cx .rfl (Cx .rfl (Cx (Sb (f:=fun l o=>bif !true&&o then zV else BP l) (g:=fun l o=>bif !false&&o then zV else BP l) hs (fun _=> .inr trivial) fun _=>rfl) (Cx (xDu hs)
  (Cx (Sb (f:=fun l o=>bif !true&&o then zV else(Bh n (l.getD 0 Dv) (l.getD 1 Dv)).1) (g:=fun l o=>bif !false&&o then zV else(Bh n (l.getD 0 Dv) (l.getD 1 Dv)).1) hs (fun _=> .inr trivial) fun _=>rfl) (Cx ?_ (Cx ?_ ?_)))))))
 ·rw [h0.1];cases ho:q0.2.over
  ·rw [h0.2 ho];grind
  grind
 ·refine Tp h0 fun ho=> ?_;rw [h0.1,h0.2 ho]
  grind
 ·refine Tp h0 fun ho=> ?_;rw [h0.1,h0.2 ho];refine Cx .rfl ?_;rcases S7 (t:=t) (sc:=sc) h1 q0.1.list q0.2 with h|h
  ·rw [h];exact .rfl
  ·rw [h.1,h.2];exact .rfl
def CB(e:Exp)(sc:List Bnd)(tape:List Rea)(w:Wld)(ce ve:Int):Outc:=
 bif Fk e then
  let r:=evG false e (.mk tape w ce ve [] 0 false) sc
  .mk (bif r.2.over then AO 6 else r.1) r.2.reads r.2.steps
 else .mk (AO 4) [] 0
theorem xA4{tape:List Rea}{w:Wld}{ce ve:Int}(h1:tape.length<=1048576)(h2:∀x∈tape,I x.result)(h3:w.files.length<=1048576):Mok I 0 (.mk tape w ce ve [] 0 false):=
 ⟨h1,h2,h3,by simp,by simp,by simp,by simp,by simp⟩
theorem UI(hI:Keep I){e:Exp}(he:e.Fit 1048576){sc:List Bnd}(hsc:Sok I (e.nest+1) sc){tape:List Rea}{w:Wld}{ce ve:Int}(h1:tape.length<=1048576)(h2:∀x∈tape,I x.result)(h3:w.files.length<=1048576):
 I (CB e sc tape w ce ve).value/\(∀x∈(CB e sc tape w ce ve).reads,I x.result/\x.Fit 1048576)/\(CB e sc tape w ce ve).reads.length<=200/\I64 (CB e sc tape w ce ve).steps:=by
 have e6:=hI.err (c:=6) (by omega) (by omega);have e4:=hI.err (c:=4) (by omega) (by omega);obtain⟨k1,k2⟩:=LR hI false e he 0 _ sc (xA4 (ce:=ce) (ve:=ve) h1 h2 h3) hsc;have:=k2.rd;have:=k2.hi;have:=k2.lo;unfold CB;cases Fk e
 ·exact⟨e4,by simp,by simp,⟨by simp,by simp⟩⟩
 ·refine⟨?_,k2.rdI,by grind,⟨by grind,by grind⟩⟩
  grind
theorem Qv(hI:Keep I){e:Exp}(he:e.Fit 1048576)(hz:e.size<=1048576){sc:List Bnd}(hsc:Sok I (e.nest+1) sc){tape:List Rea}{w:Wld}{ce ve:Int}(h1:tape.length<=1048576)(h2:∀x∈tape,I x.result)(h3:w.files.length<=1048576):
 Big fun N=>Hr N e sc tape w ce ve=some (CB e sc tape w ce ve)/\K9 N e sc tape w ce ve=some (CB e sc tape w ce ve):=by
 have hm:=xA4 (ce:=ce) (ve:=ve) h1 h2 h3;have hv:=Pq (K:=1048576) (by omega) he hz;obtain⟨o1,o2,o3,o4⟩:=UI (ce:=ce) (ve:=ve) hI he hsc h1 h2 h3;cases hva:Fk e
 ·exact hv.imp fun N ⟨h1,h2⟩=>by grind [Hr,K9,CB,AJ,AK,AO]
 ·have hok:okE e=true:=by grind [Fk]
  obtain⟨a1,a2⟩:=xDU e (.mk tape w ce ve [] 0 false) sc;have k2:=(LR hI false e he 0 _ sc hm hsc).2;have eo:CB e sc tape w ce ve= .mk (bif(evG false e (.mk tape w ce ve [] 0 false) sc).2.over then AO 6 else(evG false e (.mk tape w ce ve [] 0 false) sc).1) (evG false e (.mk tape w ce ve [] 0 false) sc).2.reads (evG false e (.mk tape w ce ve [] 0 false) sc).2.steps:=by grind [CB]
  rw [eo] at o1 o2 o3 ⊢;refine(((hv.and ((xIe hI e he hok 0 _ sc hm hsc).diag.and (xIf hI e he hok 0 _ sc hm hsc).diag)).and ((FG (hI.fit o1) (by omega)).and (DL (hI.fit o1) (by omega)))).and ((Big.list fun x hx=>DL (hI.fit (o2 x hx).1) (by omega)).and (Ap 300))).imp fun N ⟨⟨⟨⟨v1,v2⟩,s1,s2⟩,c1,c2⟩,c3,hN⟩=> ?_;have s1:OV N (.mk tape w ce ve [] 0 false) e sc=_:=s1;have s2:PZ N (.mk tape w ce ve [] 0 false) e sc=_:=s2;have o3:(evG false e (.mk tape w ce ve [] 0 false) sc).2.reads.length<=200:=o3;have hr:=xJg (N:=N) (xs:=(evG false e (.mk tape w ce ve [] 0 false) sc).2.reads) c3 (by omega) (by omega);have hst:=k2.ov;refine⟨?_,?_⟩
  ·simp only [Hr,Ld,v1,hva,jS,jU,jF,s1,a1];cases ho:(evG false e (.mk tape w ce ve [] 0 false) sc).2.over
   ·grind
   ·rw [ho] at c1;exact(Zl (fun z=>Option.bind z fun r4=>some (Outc.mk r4 _ _)) c1)
  ·simp only [K9,PF,v2,hva,jS,jU,jF,s2,hr];cases ho:(evG false e (.mk tape w ce ve [] 0 false) sc).2.over
   ·grind
   ·rw [hst ho];rfl
end Go.Ab
end
section
namespace Go.Ab
mutual
def Bl:Exp->Bool
 | .mk k _ t a=>(k==5&&C5 t)||L5 a
def L5:List Exp->Bool
 | []=>false
 |x::l=>Bl x||L5 l
end
theorem xEA(l:List Exp):L5 l=l.any Bl:=by
 induction l with
 |nil=>rfl
 |cons x l ih=>grind [L5]
theorem Sh(k n:Int)(t:Str)(a:List Exp):Bl (.mk k n t a)=((k==5&&C5 t)||a.any Bl):=by simp [Bl,xEA]
theorem xEB{K:Nat}(hK:K<=1048576):∀e:Exp,e.Fit K->Big2 fun N d=>GJ N d e=some (Bl e)/\F3 N d e=some (Bl e):=by
 refine Exp.ind fun k n t a ih h=> ?_;obtain⟨h1,h2,h3,h4⟩:=Exp.fit_iff.1 h;refine Big2.succ ?_;refine((Big2.list fun x hx=>ih x hx (h4.2 x hx)).and (Ap (K+30)).two).imp fun N d ⟨hx,hn⟩=> ?_;have hl:a.length<=K:=h4.1;rw [Sh]
 have l1:=A3 (σ:=Unit) (L:=fun m i _=>Dt N (GJ N d) m a a.length i) a (fun l _=>l.any Bl) (fun _ _=>True) (fun m _ _=>by simp [Dt])
  (fun i x l s hd hi hxi _=>by
    have hi' :(i:Int)<(a.length:Int):=by omega
    have hm:=(hx x (Zy hxi)).1;cases hb:Bl x
    ·refine .inl ⟨(),trivial,by grind,fun m=> ?_⟩
     grind [Dt,jI,AL]
    grind [Dt,jI]) N 0 () trivial (by omega) (by omega)
 have l2:=A3 (σ:=Unit) (L:=fun m i _=>De N (F3 N d) m i (.mk k n t a)) a (fun l _=>l.any Bl) (fun _ _=>True) (fun m _ _=>by simp [De,ea])
  (fun i x l s hd hi hxi _=>by
    have hi' :(i:Int)<((Exp.mk k n t a).args.length:Int):=by show(i:Int)<(a.length:Int);omega
    have hxi2:(Exp.mk k n t a).args[i]? =some x:=hxi;have hm:=(hx x (Zy hxi)).2;have hc:(0:Int)<=(i:Int)/\(i:Int)<((Exp.mk k n t a).args.length:Int):=⟨by omega,hi'⟩;cases hb:Bl x
    ·refine .inl ⟨(),trivial,by grind,fun m=> ?_⟩
     grind [De,jI,AL]
    grind [De]) N 0 () trivial (by omega) (by omega)
 rw [Yr] at l1 l2;have l1:Dt N (GJ N d) N a (a.length:Int) 0=some (a.any Bl):=l1;have l2:De N (F3 N d) N 0 (.mk k n t a)=some (a.any Bl):=l2;refine⟨?_,?_⟩
 ·grind [GJ,OF,ek,et,ea,Qn]
 ·simp only [F3,Mf,ek,et,l2,LP]
  grind
structure Tw {α:Type} (m m' :Mch) (p q:α×Mch):Prop where
 val:p.1=q.1
 over:p.2.over=q.2.over
 steps:p.2.steps=q.2.steps
 rd:p.2.reads=m.reads
 rd' :q.2.reads=m'.reads
def TwS(f:Sem):Prop:=∀m m' sc,m.over=m'.over->m.steps=m'.steps->Tw m m' (f m sc) (f m' sc)
theorem Uc{g:Bool}{sc:List Bnd}:∀ {fs:List Sem} {m m' :Mch},(∀f∈fs,TwS f)->m.over=m'.over->m.steps=m'.steps->Tw m m' (A1 g fs m sc) (A1 g fs m' sc)
 | [],m,m',_,h1,h2=>⟨rfl,h1,h2,rfl,rfl⟩
 |f::fs,m,m',h,h1,h2=>by
  have a:=h f (by simp) m m' sc h1 h2;have b:=Uc (g:=g) (sc:=sc) (fs:=fs) (fun f hf=>h f (by grind)) a.over a.steps;simp only [A1,<-h1];cases !g&&m.over
  ·exact⟨by simp [a.val,b.val],b.over,b.steps,b.rd.trans a.rd,b.rd'.trans a.rd'⟩
  ·exact⟨rfl,h1,h2,rfl,rfl⟩
theorem S9{t:Str}{f:Sem}{sc:List Bnd}(h:TwS f):∀ {xs:List Val} {m m' :Mch},m.over=m'.over->m.steps=m'.steps->Tw m m' (A5 t f xs m sc) (A5 t f xs m' sc)
 | [],m,m',h1,h2=>⟨rfl,h1,h2,rfl,rfl⟩
 |x::xs,m,m',h1,h2=>by
  have a:=h m m' (sc++ [⟨t,x⟩]) h1 h2;have b:=S9 (t:=t) (sc:=sc) h (xs:=xs) a.over a.steps;simp only [A5,<-a.over];cases (f m (sc++ [⟨t,x⟩])).2.over
  ·exact⟨by simp [a.val,b.val],b.over,b.steps,b.rd.trans a.rd,b.rd'.trans a.rd'⟩
  ·exact⟨rfl,a.over,a.steps,a.rd,a.rd'⟩
theorem Tw.fn{α β:Type}{m m' :Mch}{p q:α×Mch}(h:Tw m m' p q)(f:α->Bool->β):Tw m m' (f p.1 p.2.over,p.2) (f q.1 q.2.over,q.2):=
 ⟨by simp [h.val,h.over],h.over,h.steps,h.rd,h.rd'⟩
theorem Tw.then{α β:Type}{m m' :Mch}{p q:α×Mch}{k l:β×Mch}(h:Tw m m' p q)(h' :Tw p.2 q.2 k l):Tw m m' k l:=⟨h'.val,h'.over,h'.steps,h'.rd.trans h.rd,h'.rd'.trans h.rd'⟩
theorem Tw.bif{α:Type}{m m' :Mch}{b:Bool}{p q p' q' :α×Mch}(h:Tw m m' p q)(h' :Tw m m' p' q'):Tw m m' (bif b then p else p') (bif b then q else q'):=by
 grind
theorem Tw.loop{m m' :Mch}{p q k l:Val×Mch}(h:Tw m m' p q)(h' :Tw m m' k l):Tw m m' (Bz p k) (Bz q l):=by
 simp only [Bz,<-h.over,<-h.val]
 grind
theorem xDV(g:Bool):∀e:Exp,Bl e=false->TwS (evG g e):=by
 refine Exp.ind fun k n t a ih h m m' sc h1 h2=> ?_;rw [Sh,ZL] at h;have hf:∀f∈a.map (evG g),TwS f:=fun f hf=>by
  grind
 have hd:∀i,TwS ((a.map (evG g)).getD i Ad):=fun i=>by
  rw [Z4];cases hx:(a.map (evG g))[i]? with
  |none=>exact fun m m' sc h1 h2=>⟨rfl,h1,h2,rfl,rfl⟩
  |some f=>grind
 have pt:∀ {v:Val},Tw m m' (v,m.tick) (v,m'.tick):=⟨rfl,h1,by grind [Mch.tick],rfl,rfl⟩;have tk:m.tick.steps=m'.tick.steps:=by grind [Mch.tick]
 have ph:Tw m m' (zV,m.halt) (zV,m'.halt):=⟨rfl,rfl,h2,rfl,rfl⟩;rw [Ew];show Tw m m' (bif m.over then(zV,m.halt) else bif m.steps==200 then(zV,m.halt) else An g k n t (a.map (evG g)) m.tick sc) (bif m'.over then(zV,m'.halt) else bif m'.steps==200 then(zV,m'.halt) else An g k n t (a.map (evG g)) m'.tick sc);rw [<-h1,<-h2];refine .bif ph (.bif ph ?_);have up:∀ {p q:Val×Mch},Tw m.tick m'.tick p q->Tw m m' p q:=fun h=>⟨h.val,h.over,h.steps,h.rd,h.rd'⟩;have hs:=Uc (g:=g) (sc:=sc) (m:=m.tick) (m' :=m'.tick) hf h1 tk;have h0:=hd 0 m.tick m'.tick sc h1 tk;refine up ?_;unfold An;refine .bif ⟨rfl,h1,tk,rfl,rfl⟩ (.bif ⟨rfl,h1,tk,rfl,rfl⟩ (.bif ⟨rfl,h1,tk,rfl,rfl⟩ (.bif (hs.fn fun l o=>bif !g&&o then zV else BP l) ?_)));cases h5:k==5
 ·simp only [jF];refine .bif (hs.fn fun l o=>bif !g&&o then zV else(Bh n (l.getD 0 Dv) (l.getD 1 Dv)).1) (.bif ?_ (.bif (.loop h0 ?_) (.loop h0 ?_)))
  ·rw [<-h0.val];exact h0.then (hd 1 _ _ _ h0.over h0.steps)
  ·rw [<-h0.val];exact .bif (h0.then (hd 1 _ _ _ h0.over h0.steps)) (h0.then (hd 2 _ _ _ h0.over h0.steps))
  ·rw [<-h0.val];exact .bif (h0.fn fun _ _=>AO 4) ((h0.then (S9 (hd 1) h0.over h0.steps)).fn fun l o=>bif o then zV else BP l)
 ·have he:C5 t=false:=by grind
  simp only [jT,CS,he,jV];rw [<-hs.over,<-hs.val];exact .bif ⟨rfl,hs.over,hs.steps,hs.rd,hs.rd'⟩ ⟨rfl,hs.over,hs.steps,hs.rd,hs.rd'⟩
theorem Nk:∀(l:List Val) (m:Int),m<=Au l m/\∀x∈l,x.dep<=Au l m
 | [],m=>by simp [Au]
 |x::l,m=>by
  have:=Nk l (if x.dep>m then x.dep else m)
  grind [Au]
theorem xDH(v:Val):1<=v.dep:=by
 have:=(Nk v.list 0).1
 grind [DR]
theorem Ej{α:Type}{f:α->Nat}{b:Nat}:∀ {l:List α},(∀x∈l,f x<=b)->(l.map f).sum<=l.length*b
 | [],_=>by simp
 |x::l,h=>by
  have h1:=h x (by simp);have h2:=Ej (l:=l) fun y hy=>h y (by grind)
  grind [Nat.succ_mul]
theorem J3{v:Val}(h:AP v=true):I64 v.kind/\I64 v.n/\I64 v.step/\v.text.length<=20/\
 ((v.list=[]/\v.columns=[]/\v.rows=[])\/(v.kind=5/\v.list=[]/\Aw v.columns v.rows=true)\/(v.columns=[]/\v.rows=[]/\v.list.length<=8/\∀x∈v.list,BQ x=true/\AP x=true)):=by
 rw [BN] at h;by_cases h1:v.kind=1
 ·simp [h1,AY] at h;exact⟨⟨by omega,by omega⟩,⟨by omega,by omega⟩,⟨by omega,by omega⟩,by grind,.inl ⟨B8 h.1,B8 h.2.1,B8 h.2.2.1⟩⟩
 by_cases h2:v.kind=2
 ·simp [h2,El] at h;exact⟨⟨by omega,by omega⟩,⟨by omega,by omega⟩,⟨by omega,by omega⟩,by omega,.inl ⟨B8 h.1,B8 h.2.1,B8 h.2.2.1⟩⟩
 by_cases h4:v.kind=4
 ·simp [h4,AY] at h;exact⟨⟨by omega,by omega⟩,⟨by omega,by omega⟩,⟨by omega,by omega⟩,by grind,.inl ⟨B8 h.1,B8 h.2.1,B8 h.2.2.1⟩⟩
 by_cases h6:v.kind=6
 ·simp [h6] at h;exact⟨⟨by omega,by omega⟩,⟨by omega,by omega⟩,⟨by omega,by omega⟩,by grind,.inl ⟨B8 h.1,B8 h.2.1,B8 h.2.2.1⟩⟩
 by_cases h5:v.kind=5
 ·simp [h5] at h;exact⟨⟨by omega,by omega⟩,⟨by omega,by omega⟩,⟨by omega,by omega⟩,by grind,.inr (.inl ⟨h5,B8 h.1,h.2.2.2.2⟩)⟩
 by_cases h3:v.kind=3
 ·simp [h3,Fn] at h;refine⟨⟨by omega,by omega⟩,⟨by omega,by omega⟩,⟨by omega,by omega⟩,by grind,.inr (.inr ⟨B8 (by grind),B8 (by grind),by grind,fun x hx=> ?_⟩)⟩
  grind
 grind
theorem xBj:∀v:Val,AP v=true->v.kind≠5->(v.dep<=1->v.size<=28)/\(v.dep<=2->v.size<=252)/\(v.dep<=3->v.size<=2044):=by
 refine Val.ind fun k n s t l c r ih h h5=> ?_;obtain⟨_,_,_,ht,hc⟩:=J3 h;have ht:t.length<=20:=ht;rw [Val.size_eq,DR];have hd:=(Nk l 0).2;rcases hc with ⟨e1,e2,e3⟩|⟨e,_⟩|⟨e1,e2,e3,e4⟩
 ·grind
 ·grind
 ·have e1:c=[]:=e1;have e2:r=[]:=e2;subst e1 e2;have e3:l.length<=8:=e3;have e4:∀x∈l,BQ x=true/\AP x=true:=e4;have hk:∀x∈l,x.kind≠5:=fun x hx h=>by grind [BQ]
  simp only [vt,vl,vc,vr,jN,ZB,List.sum_nil];refine⟨fun h=> ?_,fun h=> ?_,fun h=> ?_⟩
  ·have:(l.map Val.size).sum<=l.length*0:=Ej fun x hx=>by have:=hd x hx;have:=xDH x;omega
   omega
  ·have:(l.map Val.size).sum<=l.length*28:=Ej fun x hx=>(ih x hx (e4 x hx).2 (hk x hx)).1 (by grind);omega
  ·have:(l.map Val.size).sum<=l.length*252:=Ej fun x hx=>(ih x hx (e4 x hx).2 (hk x hx)).2.1 (by grind);omega
theorem xIk{l:List Org}(h:SO l):l.Nodup:=h.imp fun hab e=>by grind [Of]
def InW(W:List Org)(o:Org):Prop:=o∈W/\Org.Fit o
theorem xK2{W:List Org}(hW:W.length<=1048576):∀v:Val,AP v=true->(∀r∈v.rows,∀o∈r.frm,InW W o)->v.Fit 1048576/\OIn (InW W) v/\v.size<=16777216:=by
 refine Val.ind fun k n s t l c r ih h ho=> ?_;have ho:∀x∈r,∀o∈x.frm,InW W o:=ho;obtain⟨h1,h2,h3,h4,hc⟩:=J3 h;have h4:t.length<=20:=h4;by_cases h5:k=5
 ·subst h5;have tt:=H9 h rfl;have hl:l=[]:=by
   rcases hc with ⟨e,_⟩|⟨_,e,_⟩|⟨e1,_⟩
   ·exact e
   ·exact e
   grind [Cw]
  subst hl;have tt:Aw c r=true:=tt;obtain⟨⟨⟨c1,c2,c3⟩,c4⟩,r1,r2⟩:=Cw.1 tt;have hn:∀x∈c,x.length<=8:=fun x hx=>by
   grind [Ce]
  have hr:∀x∈r,x.frm.length<=1048576/\x.cells.length<=4:=fun x hx=>⟨by
   have:=O9 (xIk (QK (r2 x hx).2.2)) fun o h=>(ho x hx o h).1;omega,by grind⟩
  refine⟨Val.fit_iff.2 ⟨h1,h2,h3,by show t.length<=_;omega,⟨by grind,by simp [vl]⟩,⟨by show c.length<=_;omega,fun x hx=>by show x.length<=_;have:=hn x hx;omega⟩,⟨by show r.length<=_;omega,fun x hx=>⟨⟨by have:=(hr x hx).2;omega,fun z hz=> ?_⟩,(hr x hx).1,fun o h=>(ho x hx o h).2⟩⟩⟩,.mk (by simp [vl]) ho,?_⟩
  ·have:=(r2 x hx).2.1 z hz;simp only [AY,Zu,ZU] at this;exact⟨by omega,by omega⟩
  ·rw [Val.size_eq];simp only [vt,vl,vc,vr,jN,ZB,List.sum_nil];have s1:(c.map List.length).sum<=c.length*8:=Ej hn;have s2:(r.map Rowd.size).sum<=r.length*1048580:=Ej fun x hx=>by grind [Rowd.size]
   omega
 ·have hs:=xBj _ h h5;have hd:=Pp _ h;have hs:=hs.2.2 hd;have hcr:c=[]/\r=[]/\l.length<=8/\∀x∈l,BQ x=true/\AP x=true:=by
   rcases hc with ⟨e1,e2,e3⟩|⟨e,_⟩|e
   ·have e1:l=[]:=e1;subst e1;exact⟨e2,e3,by simp,by simp⟩
   ·exact absurd e h5
   ·exact e
  obtain⟨rfl,rfl,h8,hx⟩:=hcr;have hrow:∀x∈l,x.rows=[]:=fun x hm=>by
   grind [J3,BQ]
  have hi:=fun x hm=>ih x hm (hx x hm).2 (by grind);exact⟨Val.fit_iff.2 ⟨h1,h2,h3,by show t.length<=_;omega,⟨by grind,fun x hm=>(hi x hm).1⟩,⟨by simp [vc],by simp [vc]⟩,⟨by simp [vr],by simp [vr]⟩⟩,.mk (fun x hm=>(hi x hm).2.1) ho,by omega⟩
end Go.Ab
end
section
namespace Go.Ab
variable {P:Org->Prop}
def RIn(P:Org->Prop)(v:Val):Prop:=∀r∈v.rows,∀o∈r.frm,P o
theorem CC{v:Val}(h:v.rows=[]):RIn P v:=fun r hr=>by grind
theorem Aq{b:Bool}{x y:Val}(h1:RIn P x)(h2:RIn P y):RIn P (bif b then x else y):=by grind
theorem Ai{b:Bool}{x y:Val×Bool}(h1:RIn P x.1)(h2:RIn P y.1):RIn P (bif b then x else y).1:=by grind
theorem MO(l:List Val):RIn P (opG l).1:=CC FM.2.2.1
theorem EN(ks:List Int)(l:List Val):RIn P (AU ks l).1:=by
 unfold AU;cases (opG l).2.1
 ·cases kb l ks <;>exact CC rfl
 grind [MO]
theorem Oq(n v:Val):RIn P (Al n v).1:=by
 unfold Al;cases (opG [n,v]).2.1
 ·exact CC rfl
 grind [MO]
theorem xDx(n:Int):RIn P (C4 n):=by unfold C4;exact Aq (CC rfl) (CC rfl)
theorem xA7:∀(l:List Val) (n:Int),RIn P (CE l n)
 | [],n=>CC rfl
 |x::l,n=>by
  unfold CE;exact Aq (CC rfl) (Aq (CC rfl) (xA7 l _))
theorem Ob{n v:Val}(h:OIn P v):RIn P (Ay n v):=by
 refine Aq (CC rfl) (Aq ?_ (xDx _));rw [Z4];cases hx:v.list[n.n.toNat]? with
 |none=>exact CC rfl
 |some x=>exact(h.el (Zy hx)).row
theorem xBb{v:Val}(h:OIn P v):∀(m:Nat) (i:Int) (acc:List Val),RIn P (DP v m i acc)
 |0,i,acc=>CC rfl
 |m+1,i,acc=>Aq (Ob h) (xBb h m _ _)
theorem xGp{i k:Nat}{ts:List Rowd}(h2:∀r∈ts,∀o∈r.frm,P o):∀ {rs:List Rowd},(∀r∈rs,∀o∈r.frm,P o)->∀r∈jrs i k ts rs,∀o∈r.frm,P o:=by
 have hj:∀ {r:Rowd} {l:List Rowd},(∀o∈r.frm,P o)->(∀r∈l,∀o∈r.frm,P o)->∀x∈jr i k r l,∀o∈x.frm,P o:=by
  intro r l h1 h2
  induction l with
  |nil=>simp [jr]
  |cons t l ih=>
   have:=ih fun r hr=>h2 r (by grind);have ht:=h2 t (by simp);simp only [jr];cases r.cells.getD i Di==t.cells.getD k Di
   ·grind
   ·intro x hx;rcases Zh.1 hx with rfl|hx
    ·intro o ho;rcases MM.1 ho with h|h
     all_goals grind
    grind
 intro rs h1
 induction rs with
 |nil=>simp [jrs]
 |cons r rs ih=>
  intro x hx;rcases Zf.1 hx with h|h
  all_goals grind
theorem xDs{s:Str}{l:List Val}(h:∀x∈l,OIn P x):RIn P (BY s l).1:=by
 have hg:∀i,OIn P (l.getD i Dv):=fun i=>by
  rw [Z4];cases hx:l[i]? with
  |none=>exact .mk (by intro x hx;cases hx) (by intro x hx;cases hx)
  |some x=>grind
 have e:∀c:Int,RIn P (AO c):=fun c=>CC rfl;have m:∀ {k n s:Int} {t:Str} {q:List Val} {c:List Str},RIn P (.mk k n s t q c []):=CC rfl;unfold BY cas;refine Ai (e 4) ?_
 refine Ai (Ai (MO _) (Aq (CC rfl) (Aq (CC rfl) (e _)))) (Ai (Ai (MO _) (Ai (e _) (xA7 _ _))) (Ai (Ai (EN _ _) (CC rfl)) (Ai (Ai (Oq _ _) ?_) (Ai (Ai (Oq _ _) ?_) (Ai (Ai (Oq _ _) (Ob (hg _)))
  (Ai (Ai (EN _ _) ?_) (Ai (Ai (EN _ _) (Ai (e _) (Ai (e _) m))) (Ai (Ai (EN _ _) ?_) (Ai (Ai (EN _ _) (Ai (e _) ?_)) (Ai (Ai (EN _ _) ?_) (Ai (Ai (EN _ _) ?_) (Ai (Ai (EN _ _) ?_) (Ai (Ai (EN _ _) m) (e 4))))))))))))))
 ·exact Aq (e _) (Aq m (xBb (hg 1) _ _ _))
 ·exact Aq (e _) (Aq m (Aq (Ob (hg 1)) m))
 ·refine Aq ?_ (e _);intro r hr;simp only [vr] at hr;obtain⟨q,hq,rfl⟩:=Zk.1 hr;exact(hg 1).row q hq
 ·refine Aq (e _) (Aq ?_ (e _));intro r hr o ho;simp only [vr,jM] at hr;obtain⟨q,hq,rfl⟩:=Zk.1 hr;cases ho
 ·exact fun r hr=>(hg 2).row r (Ym.1 hr).1
 ·unfold Cy;refine Aq (e _) (Aq (e _) (Aq (e _) ?_));split
  ·intro r hr o ho;simp only [vr,vG] at hr;obtain⟨x,hx,rfl⟩:=Zk.1 hr;obtain⟨q,hq,_,h⟩:=UX _ ho;exact(hg 2).row q hq o h
  grind
 ·unfold EL EK;exact Aq (e _) (Aq (e _) (Aq (e _) (Aq (e _) (Aq (e _) (xGp (hg 2).row (hg 1).row)))))
 ·refine Aq (e _) (Aq (e _) (Aq (e _) (Aq (e _) (Aq (e _) ?_))));unfold J9;refine Aq ?_ (e _);intro r hr;simp only [vr] at hr;obtain⟨q,hq,rfl⟩:=Zk.1 hr;exact(hg 3).row q hq
def VIn(Z:Nat)(W:List Org)(v:Val):Prop:=v.Fit 1048576/\OIn (InW W) v/\v.size<=Z
theorem EJ{Z:Nat}{W:List Org}{v:Val}(h:Flat v):VIn Z W v:=by
 obtain⟨h1,h2,h3,h4,_⟩:=id h;refine⟨h.fit _,.mk (by grind) (by grind),?_⟩
 grind [Val.size_eq]
theorem T5{Z:Nat}(hZ:16777216<=Z){W:List Org}{l:List Val}(h8:l.length<=16)(h:∀x∈l,VIn Z W x)(hv:∀x∈l,AP x=true/\x.kind≠5):VIn Z W (.mk 3 0 0 [] l [] []):=by
 refine⟨Val.fit_iff.2 ⟨⟨by simp [vk],by simp [vk]⟩,⟨by simp [vn],by simp [vn]⟩,⟨by simp [vs],by simp [vs]⟩,Zg _,⟨by show l.length<=_;omega,fun x hx=>(h x hx).1⟩,⟨by simp [vc],by simp [vc]⟩,⟨by simp [vr],by simp [vr]⟩⟩,.mk (fun x hx=>(h x hx).2.1) (by simp [vr]),?_⟩;rw [Val.size_eq];simp only [vt,vl,vc,vr,jN,ZB,List.sum_nil];have:(l.map Val.size).sum<=l.length*2044:=Ej fun x hx=>(xBj x (hv x hx).1 (hv x hx).2).2.2 (Pp x (hv x hx).1);omega
theorem Qr{v:Val}(h:BQ v=true):v.kind≠5:=fun e=>by grind [BQ]
theorem xBi{v:Val}(h:AP v=true)(h5:v.kind≠5):v.list.length<=8/\∀x∈v.list,AP x=true/\x.kind≠5:=by
 grind [J3,Qr]
theorem T4{Z:Nat}{W:List Org}{v x:Val}(h:VIn Z W v)(hx:x∈v.list):VIn Z W x:=
 ⟨(Val.fit_iff.1 h.1).2.2.2.2.1.2 x hx,h.2.1.el hx,by have h3:=h.2.2;grind [Val.size_eq,MV]⟩
theorem T6{Z:Nat}(hZ:16777216<=Z){W:List Org}{t:Str}(h:t.length<=1048576):VIn Z W (.mk 2 0 0 t [] [] []):=
 ⟨Val.fit_iff.2 ⟨⟨by simp [vk],by simp [vk]⟩,⟨by simp [vn],by simp [vn]⟩,⟨by simp [vs],by simp [vs]⟩,h,⟨by simp [vl],by simp [vl]⟩,⟨by simp [vc],by simp [vc]⟩,⟨by simp [vr],by simp [vr]⟩⟩,.mk (by simp [vl]) (by simp [vr]),by grind [Val.size_eq,vt,vl,vc,vr]⟩
theorem xGr{Z:Nat}(hZ:16777216<=Z){W:List Org}(hW:W.length<=1048576):Keep (VIn Z W) where
 fit h:=h.1
 zero:=EJ (L2 ⟨by omega,by omega⟩ ⟨by omega,by omega⟩ ⟨by omega,by omega⟩)
 num h:=EJ (L3 h)
 text h:=T6 hZ h
 err h1 h2:=EJ (Hj ⟨by omega,by omega⟩)
 call {t l} hl h:=have f:=xK2 hW _ (xDt t l) (xDs fun x hx=>(h x hx).2.1);⟨f.1,f.2.1,by omega⟩
 build {l} hl h:=by
  have hf:=EJ (Z:=Z) (W:=W) (Jf (K:=1048576) fun x hx=>(h x hx).1);have e:=fun c h1 h2=>EJ (Z:=Z) (W:=W) (Hj (c:=c) ⟨h1,h2⟩);unfold BP;cases h0:(opG l).2.1
  ·cases h1:l.all BQ
   ·grind
   ·by_cases h2:(l.length:Int)>8
    ·grind
    ·rw [Zw h2];have:=T5 hZ (l:=l) (by omega) h fun x hx=>⟨FN h0 x hx,Qr (Zx.1 h1 x hx)⟩
     grind
  grind
 app {n a b} ha hb:=by
  have hf:=EJ (Z:=Z) (W:=W) (Jf (K:=1048576) (l:=[a,b]) fun x hx=>by rcases Zh.1 hx with rfl|hx;exact ha.1;rw [Zo.1 hx];exact hb.1);have e:=fun c h1 h2=>EJ (Z:=Z) (W:=W) (Hj (c:=c) ⟨h1,h2⟩);have ck:=fun n=>EJ (Z:=Z) (W:=W) (xDX n);have tr:∀t,VIn Z W (J0 t):=fun t=>by cases t <;>exact EJ (L3 ⟨by omega,by omega⟩)
  unfold Bh;cases h0:(opG [a,b]).2.1
  ·have va:=FN h0 a (by simp);have vb:=FN h0 b (by simp);have ta:=(J3 va).2.2.2.1;have tb:=(J3 vb).2.2.2.1;have tx:VIn Z W (.mk 2 0 0 (a.text++b.text) [] [] []):=T6 hZ (by grind);have e4:=e 4 (by omega) (by omega);have e6:=e 6 (by omega) (by omega);show VIn Z W (opV n a b);unfold opV Hc KG
   refine At (fun _=>At (fun _=>At (fun _=>ck _) e4) (At (fun _=>At (fun _=>At (fun _=>e6) tx) e4) (At (fun k3=>At (fun j3=>At (fun _=>e6) ?_) e4) e4)))
    (At (fun _=>At (fun _=>At (fun _=>tr _) e4) (At (fun _=>At (fun _=>tr _) e4) e4)) (At (fun _=>tr _) (At (fun _=>At (fun _=>At (fun _=>ck _) e4) e4) (At (fun _=>At (fun _=>At (fun _=>ck _) e4) e4) e4))))
   have fa:=xBi va (fun h=>by grind);have fb:=xBi vb (fun h=>by grind);have el:∀ {v x:Val},VIn Z W v->x∈v.list->VIn Z W x:=T4;exact T5 hZ (by grind) (fun x hx=>(Zf.1 hx).elim (el ha) (el hb)) fun x hx=>(Zf.1 hx).elim (fa.2 x) (fb.2 x)
  grind
 el h hx:=T4 h hx
mutual
def Val.og:Val->List Org
 | .mk _ _ _ _ l _ r=>Val.ogs l++r.flatMap Rowd.frm
def Val.ogs:List Val->List Org
 | []=> []
 |x::l=>Val.og x++Val.ogs l
end
theorem UA(l:List Val):Val.ogs l=l.flatMap Val.og:=by
 induction l with
 |nil=>rfl
 |cons x l ih=>grind [Val.ogs]
theorem Nv{α β:Type}{f:α->List β}{g:α->Nat}:∀ {l:List α},(∀x∈l,(f x).length<=g x)->(l.flatMap f).length<=(l.map g).sum
 | [],_=>by simp
 |x::l,h=>by
  have:=h x (by simp);have:=Nv (l:=l) fun y hy=>h y (by grind)
  grind
theorem xHk{W:List Org}:∀v:Val,v.Fit 1048576->(∀o∈v.og,o∈W)->OIn (InW W) v:=by
 refine Val.ind fun k n s t l c r ih hf h=> ?_;obtain⟨_,_,_,_,h5,_,h7⟩:=Val.fit_iff.1 hf;simp only [Val.og,UA,Zf,ZJ] at h;exact .mk (fun x hx=>ih x hx (h5.2 x hx) fun o ho=>h o (.inl ⟨x,hx,ho⟩)) fun x hx o ho=>⟨h o (.inr ⟨x,hx,ho⟩),(h7.2 x hx).2.2 o ho⟩
end Go.Ab
end
section
namespace Go.Ab
theorem GA{K:Nat}{k n:Int}{t:Str}{a:List Exp}(hk:I64 k)(hn:I64 n)(ht:t.length<=K)(ha:a.length<=K)(hx:∀x∈a,x.Fit K):(Exp.mk k n t a).Fit K:=
 Exp.fit_iff.2 ⟨hk,hn,ht,ha,hx⟩
theorem FR(k n:Int)(t:Str)(a:List Exp):(Exp.mk k n t a).size=t.length+(a.length+(a.map Exp.size).sum):=Exp.size_eq _
theorem GB{x:Int}(h:0<=x/\x<=1000):I64 x:=by grind [I64]
abbrev e0:Exp:= .mk 0 0 [] []
theorem sOp(N:Nat)(k:Int)(a b:Exp):Dg N k a b=some (.mk 6 k [] [a,b]):=by grind [Dg,Exp.re_eq]
def E2{α:Type}(o:Nat->Nat->Option α)(Q:α->Prop):Prop:=∃r,Q r/\Big2 fun N d=>o N d=some r
section
variable {α β:Type} {P:α->Prop} {Q:β->Prop}
theorem E2.mk' {a:α}(h:P a):E2 (fun _ _=>some a) P:=⟨a,h,.of fun _ _=>rfl⟩
theorem E2.bnd{o:Nat->Nat->Option α}{f:Nat->Nat->α->Option β}(h:E2 o P)(hf:∀a,P a->E2 (fun N d=>f N d a) Q):E2 (fun N d=>Option.bind (o N d) (f N d)) Q:=by
 obtain⟨a,ha,e⟩:=h;obtain⟨b,hb,e'⟩:=hf a ha;exact⟨b,hb,(e.and e').imp fun N d ⟨h1,h2⟩=>by grind⟩
theorem E2.cnd{b:Bool}{p q:Nat->Nat->Option α}(h1:b=true->E2 p P)(h2:b=false->E2 q P):E2 (fun N d=>bif b then p N d else q N d) P:=by
 cases b
 all_goals grind
theorem E2.chk{p:Prop} [Decidable p]{o:Nat->Nat->Option α}(hp:p)(h:E2 o P):E2 (fun N d=>if p then o N d else none) P:=by
 simp_all
theorem E2.succ{o:Nat->Nat->Option α}(h:E2 (fun N d=>o N (d+1)) P):E2 o P:=by
 obtain⟨a,ha,e⟩:=h;exact⟨a,ha,e.succ⟩
theorem E2.ofU{B:Nat}{o:Nat->Option α}(h:U (fun N=>B<N) o P):E2 (fun N _=>o N) P:=by
 obtain⟨a,ha,e⟩:=h;exact⟨a,ha,B+1,fun N n h _=>e N (by omega)⟩
theorem E2.ofBig{o:Nat->Option α}{a:α}(h:Big fun N=>o N=some a)(ha:P a):E2 (fun N _=>o N) P:=⟨a,ha,h.two⟩
theorem E2.diag{o:Nat->Nat->Option α}(h:E2 o P):∃r,P r/\Big fun N=>o N N=some r:=by
 obtain⟨a,ha,e⟩:=h;exact⟨a,ha,e.diag⟩
end
theorem CQ{c:Cur}{n:Int}(h:CurOk c)(hn:0<n):E2 (fun N _=>AT N c n) (Dr fun v=>0<=v/\v<n):= .ofU (B:=0) (Ao id h hn)
theorem Gd{c:Cur}{n:Int}(h:CurOk c):E2 (fun N _=>BM N c n) (Dr fun _=>True):= .ofU (B:=0) (D6 id h)
theorem Gg{c:Cur}{l:List Str}(h:CurOk c)(hl:0<l.length):E2 (fun N _=>Be N c l) (Dr fun v=>v∈l):= .ofU (B:=0) (Gh id h hl)
def EDr(s:Nat)(e:Exp):Prop:=e.Fit 1000/\e.size<=s
theorem EDr.mono{s s' :Nat}{e:Exp}(h:EDr s e)(hs:s<=s'):EDr s' e:=⟨h.1,ZT h.2 hs⟩
def sizes(a:List Exp):Nat:=(a.map Exp.size).sum
theorem Fz{k n:Int}{t:Str}{a:List Exp}{s:Nat}(hk:0<=k/\k<=1000)(hn:0<=n/\n<=1000)(ht:t.length<=8)(ha:a.length<=1000)(hx:∀x∈a,x.Fit 1000)(hs:t.length+(a.length+sizes a)<=s):EDr s (.mk k n t a):=
 ⟨GA (GB hk) (GB hn) (by omega) ha hx,by rw [FR];exact hs⟩
theorem CT{k n:Int}{t:Str}(hk:0<=k/\k<=1000)(hn:0<=n/\n<=1000)(ht:t.length<=8):EDr 8 (.mk k n t []):=Fz hk hn ht (by simp) (fun x hx=>by grind) (by grind [sizes])
theorem xBs{p:Exp->Prop}{a:Exp}(h:p a):∀x∈ [a],p x:=fun x hx=>by
 grind
theorem QG{p:Exp->Prop}{a b:Exp}(h:p a)(h' :p b):∀x∈ [a,b],p x:=fun x hx=>by
 grind
theorem xBt{p:Exp->Prop}{a b c:Exp}(h:p a)(h' :p b)(h'' :p c):∀x∈ [a,b,c],p x:=fun x hx=>by
 grind
theorem Jb{k:Int}{t:Str}{a:Exp}{s:Nat}(hk:0<=k/\k<=1000)(ht:t.length<=8)(h:EDr s a):EDr (s+9) (.mk k 0 t [a]):=
 Fz hk (by omega) ht (by simp) (xBs h.1) (by have:=h.2;grind [sizes])
theorem CH{k n:Int}{t:Str}{a b:Exp}{s s' :Nat}(hk:0<=k/\k<=1000)(hn:0<=n/\n<=1000)(ht:t.length<=8)(h:EDr s a)(h' :EDr s' b):EDr (s+s' +10) (.mk k n t [a,b]):=
 Fz hk hn ht (by simp) (QG h.1 h'.1) (by have:=h.2;have:=h'.2;grind [sizes])
theorem Nn{k:Int}{t:Str}{a b c:Exp}{s s' s'' :Nat}(hk:0<=k/\k<=1000)(ht:t.length<=8)(h:EDr s a)(h' :EDr s' b)(h'' :EDr s'' c):EDr (s+s' +s'' +11) (.mk k 0 t [a,b,c]):=
 Fz hk (by omega) ht (by simp) (xBt h.1 h'.1 h''.1) (by have:=h.2;have:=h'.2;have:=h''.2;grind [sizes])
def Nms(k:Nat)(l:List Str):Prop:=0<l.length/\l.length+2*k<=100/\∀s∈l,s.length<=8
theorem KF{c:Cur}(h:CurOk c){k:Nat}{l:List Str}(hl:Nms k l):U (fun N:Nat=>1000<N) (fun N=>Iy N c l) (Dr (EDr 8)):=by
 refine .bnd (Ao id h (by decide)) fun a ha=> ?_
 have num:∀b:Int×Cur,(0<=b.1/\b.1<6)->CurOk b.2->U (fun N:Nat=>1000<N) (fun N=>Option.bind (BU N b.1) fun r3=>some (r3,b.2)) (Dr (EDr 8)):=fun b h1 h2=>
  .mk' ⟨CT (k:=1) (n:=b.1) (t:=[]) (by omega) (by omega) (by simp),h2⟩
 refine .cnd (fun _=> .bnd (Gh id ha.2 (by decide)) fun b hb=> .mk' ⟨CT (by omega) (by omega) ?_,hb.2⟩)
  (fun _=> .cnd (fun _=> .bnd (Ao id ha.2 (by decide)) fun b hb=>num b hb.1 hb.2) (fun _=> .cnd (fun _=> .bnd (Ao id ha.2 (by decide)) fun b hb=>num b hb.1 hb.2) (fun _=> .bnd (Gh id ha.2 hl.1) fun b hb=> .mk' ⟨CT (k:=3) (n:=0) (by omega) (by omega) (hl.2.2 _ hb.1),hb.2⟩)))
 have:=hb.1
 grind
def LDr(i:Nat)(l:List Exp):Prop:=l.length=i/\(∀x∈l,EDr 20 x)
theorem Ox{s:Nat}:∀ {l:List Exp},(∀x∈l,EDr s x)->sizes l<=s*l.length
 | [],_=>by simp [sizes]
 |x::l,h=>by
  have h1:=(h x Zp).2;have h2:=Ox fun y hy=>h y (Zr _ hy)
  grind [sizes,Nat.mul_add]
theorem LDr.app{i:Nat}{l:List Exp}{x:Exp}(h:LDr i l)(hx:EDr 20 x):LDr (i+1) (l++ [x]):=by
 refine⟨by rw [jA,h.1];rfl,fun y hy=> ?_⟩;rcases Zf.1 hy with hy|hy
 ·exact h.2 y hy
 grind
theorem LDr.edr{i:Nat}{l:List Exp}(h:LDr i l)(hi:i<=4):EDr 100 (.mk 4 0 [] l):=by
 have h1:=Ox h.2;have h2:=h.1;exact Fz (by omega) (by omega) (by simp) (by omega) (fun x hx=>(h.2 x hx).1) (by grind)
theorem KI{c:Cur}(h:CurOk c){k:Nat}{l:List Str}(hl:Nms k l):U (fun N:Nat=>1000<N) (fun N=>E0 N c l) (Dr (EDr 100)):=by
 refine .bnd (Ao id h (by decide)) fun a ha=> ?_;obtain⟨n,hn⟩:=Co ha.1.1;have hn2:n<4:=by have:=ha.1.2;omega
 rw [hn];refine Cj (σ:=List Exp×Cur) (L:=fun N m i st=>HL N m l n i st.2 (Exp.mk 0 0 [] []) (Exp.mk 4 0 [] st.1)) (B:=1000) n (fun i st=>LDr i st.1/\CurOk st.2) (by omega) (fun st hs=> ?_) (fun i st hi hs ih=> ?_) ([],a.2) ⟨⟨rfl,fun x hx=>by grind⟩,ha.2⟩
 ·simp only [HL,Zd,Z9,jF];exact .mk' ⟨hs.1.edr (by omega),hs.2⟩
 ·have hlen:=hs.1.1;simp only [HL,BU,Zz (show(i:Int)<(n:Int) by omega),jT,AL hi (by omega:n<=_),jS,Exp.re_eq,ek,en,et,ea];refine .bnd (Ao _ hs.2 (by decide)) fun b hb=> .chk (by grind [Lim]) (.bnd (D6 _ hb.2) fun d hd=> .cnd (fun _=> ?_) (fun _=>ih (st.1++ [_],d.2) ⟨hs.1.app ?_,hd.2⟩))
  ·refine .bnd ((KF hd.2 hl).pre (fun x:Nat×Nat=>x.1) fun x hx=>hx.1) fun e he=> .chk (by grind) (ih ((st.1++ [_]).set i e.1,e.2) ⟨⟨by grind,fun y hy=> ?_⟩,he.2⟩);rcases Yf hy with hy|hy
   ·rcases Zf.1 hy with hy|hy
    ·exact hs.1.2 y hy
    ·rw [Zo.1 hy];have:=hb.1;exact(CT (by omega) (by omega) (by simp)).mono (by omega)
   ·rw [hy];exact he.1.mono (by omega)
  ·have:=hb.1;exact(CT (by omega) (by omega) (by simp)).mono (by omega)
theorem Pj{c:Cur}(h:CurOk c):U (fun N:Nat=>1000<N) (fun N=>Kk N c) (Dr (EDr 150)):=by
 refine .bnd (Ao id h (by decide)) fun a ha=> ?_;obtain⟨n,hn⟩:=Co ha.1.1;have hn2:n<4:=by have:=ha.1.2;omega
 rw [hn];have z8:∀ {m:Int},0<=m/\m<=1000->EDr 0 (Exp.mk 1 m [] []):=fun hm=>Fz (by omega) hm (by simp) (by simp) (fun x hx=>by grind) (by simp [sizes]);refine Cj (σ:=List Exp×Cur) (L:=fun N m i st=>JD N m n i st.2 (Exp.mk 0 0 [] []) (Exp.mk 4 0 [] st.1)) (B:=1000) n (fun i st=>LDr i st.1/\CurOk st.2) (by omega) (fun st hs=> ?_) (fun i st hi hs ih=> ?_) ([],a.2) ⟨⟨rfl,fun x hx=>by grind⟩,ha.2⟩
 ·simp only [JD,BK,Zd,Z9,jF,jS,Exp.re_eq];refine .mk' ⟨(CH (by omega) (by omega) (by decide) (CT (k:=2) (n:=0) (by omega) (by omega) (by decide)) (hs.1.edr (by omega))).mono (by omega),hs.2⟩
 ·have hlen:=hs.1.1;simp only [JD,BU,Zz (show(i:Int)<(n:Int) by omega),jT,AL hi (by omega:n<=_),jS,Exp.re_eq,ek,en,et,ea];refine .bnd (Ao _ hs.2 (by decide)) fun b hb=> .bnd (Ao _ hb.2 (by decide)) fun d hd=> .chk (by grind [Lim]) (ih (st.1++ [_],d.2) ⟨hs.1.app ?_,hd.2⟩);have h1:=hb.1;have h2:=hd.1;exact(CH (by omega) (by omega) (by simp) (z8 (by omega)) (z8 (by omega))).mono (by omega)
theorem IQ{c:Cur}(h:CurOk c){a b:Exp}{s:Nat}(ha:EDr s a)(hb:EDr s b):E2 (fun N _=>Fe N c a b) (Dr (EDr s)):=
 .bnd (Gd h) fun r hr=> .cnd (fun _=> .mk' ⟨ha,hr.2⟩) (fun _=> .mk' ⟨hb,hr.2⟩)
theorem Ng{c:Cur}(h:CurOk c):E2 (fun N _=>Ki N c) (Dr (EDr 8)):=by
 refine .bnd (Gg h (by decide)) fun b hb=> .mk' ⟨CT (by omega) (by omega) ?_,hb.2⟩;have:=hb.1
 grind
def CR(k:Nat):Nat:=400*4 ^ k
theorem xBz(k:Nat):CR (k+1)=4*CR k:=by grind [CR]
theorem QO(k:Nat):400<=CR k:=by
 grind [CR]
theorem xG0:∀(k:Nat) (c:Cur) (l:List Str),k<=10->CurOk c->Nms k l->E2 (fun N d=>E4 N d c l (k:Int)) (Dr (EDr (CR k))):=by
 intro k
 induction k with
 |zero=>
  intro c l _ hc hl;refine .succ ?_;show E2 (fun N d=>JB N (E4 N d) c l ((0:Nat):Int)) _;unfold JB;refine .cnd (fun _=> .bnd (.ofU (KF hc hl)) fun a ha=> .mk' ⟨ha.1.mono (by grind [QO]),ha.2⟩) (fun h=>by grind)
 |succ k ih=>
  intro c l hk hc hl;have b1:=xBz k;have b0:=QO k;have hl' :Nms k l:=⟨hl.1,by have:=hl.2.1;omega,hl.2.2⟩;refine .succ ?_;show E2 (fun N d=>JB N (E4 N d) c l ((k+1:Nat):Int)) _;have wk:IntKind.i64.wrap (((k+1:Nat):Int) - 1)=(k:Int):=by grind [Af]
  have hrec:∀(c:Cur) (l:List Str),CurOk c->Nms k l->E2 (fun N d=>E4 N d c l (k:Int)) (Dr (EDr (CR k))):=fun c l=>ih c l (by omega);unfold JB;simp only [wk,sOp,BK,BU,jS,Exp.re_eq];have leaf8:∀ {m:Int},0<=m/\m<=1000->EDr 8 (Exp.mk 1 m [] []):=fun hm=>CT (by omega) hm (by simp);refine .cnd (fun _=> .bnd (.ofU (KF hc hl)) fun a ha=> .mk' ⟨ha.1.mono (by omega),ha.2⟩) (fun _=> .bnd (CQ hc (by decide)) fun a ha=> ?_)
  have op2:E2 (fun N d=>Option.bind (AT N a.2 5) fun r2=>Option.bind (E4 N d r2.2 l (k:Int)) fun r3=>Option.bind (E4 N d r3.2 l (k:Int)) fun r4=>some (Exp.mk 6 (IntKind.i64.wrap (1+r2.1)) [] [r3.1,r4.1],r4.2)) (Dr (EDr (CR (k+1)))):=
   .bnd (CQ ha.2 (by decide)) fun b hb=> .bnd (hrec _ _ hb.2 hl') fun x hx=> .bnd (hrec _ _ hx.2 hl') fun y hy=> .mk' ⟨(CH (by omega) (by
     have h1:=hb.1
     grind [Af]) (by simp) hx.1 hy.1).mono (by omega),hy.2⟩
  have nm3:∀v:Str,v∈ [[117],[118],List.getD l (Int.toNat 0) Ds]->v.length<=8:=fun v hv=>by
   simp only [Zh,Z6,or_false] at hv;rcases hv with e|e|e
   ·grind
   ·grind
   ·rw [e];obtain⟨s,r,rfl⟩:∃s r,l=s::r:=by
     cases l with
     |nil=>exact absurd hl.1 (by simp)
     |cons s r=>grind
    exact hl.2.2 s Zp
  have hpos:(0:Int)<=0/\(0:Int)<(List.length l):=⟨by omega,by have:=hl.1;omega⟩;refine .cnd (fun _=>op2) (fun _=> .cnd (fun _=>op2) (fun _=> .cnd (fun _=> ?_) (fun _=> .cnd (fun _=> ?_) (fun _=> .cnd (fun _=> ?_) (fun _=> .cnd (fun _=> ?_) (fun _=> .cnd (fun _=> ?_) (fun _=> .cnd (fun _=> ?_) (fun _=> .cnd (fun _=> ?_) (fun _=> .cnd (fun _=> ?_) (fun _=> .cnd (fun _=> ?_) (fun _=> .cnd (fun _=> ?_) (fun _=> ?_))))))))))))
  ·refine .chk hpos (.bnd (Gg ha.2 (by simp)) fun b hb=> .bnd (hrec _ _ hb.2 hl') fun x hx=> .chk (by have:=hl.2.1;grind [Lim]) (.bnd (hrec _ _ hx.2 ⟨by simp,by have:=hl.2.1;grind,fun s hs=> ?_⟩) fun y hy=> .mk' ⟨(CH (by omega) (by omega) (nm3 _ hb.1) hx.1 hy.1).mono (by omega),hy.2⟩));rcases Zf.1 hs with hs|hs
   ·rw [Zo.1 hs];exact nm3 _ hb.1
   ·exact hl.2.2 s hs
  ·exact .bnd (hrec _ _ ha.2 hl') fun x hx=> .bnd (hrec _ _ hx.2 hl') fun y hy=> .bnd (hrec _ _ hy.2 hl') fun z hz=> .mk' ⟨(Nn (by omega) (by simp) hx.1 hy.1 hz.1).mono (by omega),hz.2⟩
  ·refine .chk hpos (.bnd (Gg ha.2 (by simp)) fun b hb=> .bnd (.ofU (KI hb.2 hl)) fun x hx=> .chk (by have:=hl.2.1;grind [Lim]) (.bnd (hrec _ _ hx.2 ⟨by simp,by have:=hl.2.1;grind,fun s hs=> ?_⟩) fun y hy=> .mk' ⟨(CH (by omega) (by omega) (nm3 _ hb.1) hx.1 hy.1).mono (by omega),hy.2⟩));rcases Zf.1 hs with hs|hs
   ·simp only [Zh,Z6,or_false] at hs;rcases hs with rfl|rfl <;>exact nm3 _ hb.1
   ·exact hl.2.2 s hs
  ·exact .bnd (.ofU (KI ha.2 hl)) fun x hx=> .mk' ⟨hx.1.mono (by omega),hx.2⟩
  ·refine .bnd (Gg ha.2 (by decide)) fun b hb=> .bnd (.ofU (KI hb.2 hl)) fun x hx=> .bnd (hrec _ _ hx.2 hl') fun y hy=> .bnd (IQ hy.2 (hx.1.mono (by omega:100<=CR k)) hy.1) fun z hz=> .mk' ⟨(Jb (by omega) ?_ hz.1).mono (by omega),hz.2⟩;have:=hb.1
   grind
  ·refine .bnd (Gg ha.2 (by decide)) fun b hb=> .bnd (CQ hb.2 (by decide)) fun d hd=> .bnd (.ofU (KI hd.2 hl)) fun x hx=> .bnd (CQ hx.2 (by decide)) fun f hf=> .bnd (CQ hf.2 (by decide)) fun g hg=> ?_;have h1:=hd.1;have h2:=hf.1;have h3:=hg.1;refine .bnd (IQ hg.2 hx.1 ((CH (by omega) (by omega) (by decide) (leaf8 (by omega)) (leaf8 (by omega))).mono (by omega))) fun z hz=> .mk' ⟨(CH (by omega) (by omega) ?_ (leaf8 (by omega)) hz.1).mono (by omega),hz.2⟩;have:=hb.1
   grind
  ·refine .bnd (Ng ha.2) fun b hb=> .bnd (CQ hb.2 (by decide)) fun d hd=> .bnd (.ofU (Pj hd.2)) fun x hx=> .bnd (hrec _ _ hx.2 hl') fun y hy=> .bnd (IQ hy.2 (hx.1.mono (by omega:150<=CR k)) hy.1) fun z hz=> ?_;have h1:=hd.1;exact .mk' ⟨(Nn (by omega) (by decide) hb.1 (leaf8 (by omega)) hz.1).mono (by omega),hz.2⟩
  ·exact .bnd (Ng ha.2) fun b hb=> .bnd (Ng hb.2) fun d hd=> .bnd (.ofU (Pj hd.2)) fun x hx=> .bnd (hrec _ _ hx.2 hl') fun y hy=> .bnd (IQ hy.2 (hx.1.mono (by omega:150<=CR k)) hy.1) fun z hz=> .mk' ⟨(Nn (by omega) (by decide) hb.1 hd.1 hz.1).mono (by omega),hz.2⟩
  ·exact .bnd (.ofU (Pj ha.2)) fun x hx=> .bnd (hrec _ _ hx.2 hl') fun y hy=> .bnd (IQ hy.2 (hx.1.mono (by omega:150<=CR k)) hy.1) fun z hz=> .mk' ⟨(Jb (by omega) (by decide) hz.1).mono (by omega),hz.2⟩
  ·refine .bnd (CQ ha.2 (by decide)) fun b hb=> ?_;have h1:=hb.1;exact .mk' ⟨(Jb (by omega) (by decide) (leaf8 (by grind [Af]))).mono (by omega),hb.2⟩
  ·refine .bnd (Gg ha.2 (by decide)) fun b hb=> .bnd (IQ hb.2 (s:=400) ((CT (k:=5) (n:=0) (by omega) (by omega) (by decide)).mono (by omega)) ((Jb (by omega) (by decide) (CT (k:=2) (n:=0) (t:=b.1) (by omega) (by omega) ?_)).mono (by omega))) fun z hz=> .mk' ⟨hz.1.mono (by omega),hz.2⟩;have:=hb.1
   grind
theorem Tu:Nms 10 [[97],[98],[99]]:=⟨by decide,by decide,fun s hs=>by
 grind⟩
theorem Qm{c:Cur}(h:CurOk c):E2 (fun N _=>Ms N c) (Dr (EDr 110000)):=by
 refine .bnd (CQ h (by decide)) fun a ha=> ?_;obtain⟨n,hn⟩:=Co ha.1.1;have hn2:n<4:=by have:=ha.1.2;omega
 have wn:IntKind.i64.wrap (1+a.1)=((n+1:Nat):Int):=by grind [Af]
 rw [wn];obtain⟨r,hr,hb⟩:=(xG0 (n+1) a.2 [[97],[98],[99]] (by omega) ha.2 ⟨by decide,by grind,Tu.2.2⟩).diag;have hsz:CR (n+1)<=102400:=by
  grind [CR,Nat]
 have hr1:=hr.1.mono hsz;refine .bnd (.ofBig (o:=fun N=>PU N a.2 [[97],[98],[99]] ((n+1:Nat):Int)) hb (P:=fun x=>x=r) rfl) fun x hx=> ?_;subst hx;refine .bnd (.ofBig ((Pq (K:=1000) (by omega) hr1.1 (by have:=hr1.2;omega)).imp fun N h=>h.2) (P:=fun _=>True) trivial) fun v _=> .cnd (fun _=> .bnd (.ofU (KF hr.2 Tu)) fun y hy=> .mk' ⟨hy.1.mono (by omega),hy.2⟩) (fun _=> .mk' ⟨hr1.mono (by omega),hr.2⟩)
theorem xG7{a:List Int}(h:a.length<=1048576):E2 (fun N _=>JI N a) CurOk:= .ofU (B:=1048576) (xG8 id h fun x hx=>hx)
theorem Exp.fit_mono{K M:Nat}(h:K<=M){e:Exp}(he:e.Fit K):e.Fit M:=fun d hd=>(he d hd).mono h
def BdE(s:Nat)(e:Exp):Prop:=e.Fit 5000/\e.size<=s
def Et:Nat->Nat->Exp->Exp
 |0,_,e=>e
 |m+1,i,e=>Et m (i+1) (.mk 6 1 [] [e,.mk 1 (i:Int) [] []])
theorem xBx:∀(m i s:Nat) (e:Exp),i+m=7->BdE s e->BdE (s+20*m) (Et m i e):=by
 intro m
 induction m with
 |zero=>intro i s e hi he;exact he
 |succ m ih=>
  intro i s e hi he;have hnum:BdE 8 (.mk 1 (i:Int) [] []):=⟨GA (GB (by omega)) (GB (by omega)) (Zg _) (Zg _) (fun x hx=>by grind),by grind [FR]⟩;have hnew:BdE (s+20) (.mk 6 1 [] [e,.mk 1 (i:Int) [] []]):=by
   refine⟨GA (GB (by omega)) (GB (by omega)) (Zg _) (by simp) (QG he.1 hnum.1),?_⟩;rw [FR];have h1:=he.2;have h2:=hnum.2
   grind
  grind [Et]
theorem xBw{N:Nat}{c:Cur}{b2:Exp}:∀(m i n:Nat) (e:Exp),i+m=7->m<n->HK N n (i:Int) c b2 e=some (Et m i e,c):=by
 intro m
 induction m with
 |zero=>
  intro i n e hi hn;obtain⟨n,rfl⟩:∃k,n=k+1:=⟨n - 1,by omega⟩
  grind [HK,Et]
 |succ m ih=>
  intro i n e hi hn;obtain⟨n,rfl⟩:∃k,n=k+1:=⟨n - 1,by omega⟩;have w:IntKind.i64.wrap ((i:Int)+1)=((i+1:Nat):Int):=by grind [Af]
  simp only [HK,Zz (by omega:(i:Int)<7),jT,BU,Dg,jS,Exp.re_eq,w,Et];exact ih (i+1) n _ (by omega) (by omega)
theorem QN{c:Cur}(h:CurOk c):E2 (fun N _=>Mq N c) (Dr (BdE 120000)):=by
 refine .bnd (Qm h) fun a ha=> ?_;obtain⟨⟨e,c1⟩,hc⟩:∃x:Exp×Cur,x=a:=⟨a,rfl⟩;subst hc;obtain⟨⟨he,hsz⟩,hc1⟩:=ha;have hsz:e.size<=110000:=hsz;have he:e.Fit 1000:=he;have hc1:CurOk c1:=hc1;obtain⟨k,n,t,zs⟩:=e;obtain⟨g1,g2,g3,g4⟩:=Exp.fit_iff.1 he;have g1:I64 k:=g1;have g2:I64 n:=g2;have g3:t.length<=1000:=g3;have g5:zs.length<=1000:=g4.1;have g6:∀x∈zs,x.Fit 5000:=fun x hx=>Exp.fit_mono (by omega) (g4.2 x hx);rw [FR] at hsz;have ht:t.length<=5000:=by omega
 have ha:zs.length<=5000:=by omega
 have hs0:t.length+(zs.length+(zs.map Exp.size).sum)<=120000:=by omega
 refine .bnd (CQ hc1 (by decide)) fun b hb=> ?_;refine .cnd (fun _=> ?_) fun _=> .cnd (fun _=> ?_) fun _=> .cnd (fun _=> ?_) fun _=> .cnd (fun _=> ?_) fun _=> .cnd (fun _=> ?_) fun _=> ?_
 ·refine .bnd (CQ hb.2 (by decide)) fun d hd=> .mk' ⟨⟨GA (GB ⟨hd.1.1,by have:=hd.1.2;omega⟩) g2 ht ha g6,?_⟩,hd.2⟩;rw [FR];exact hs0
 ·refine .bnd (.ofU (KF hb.2 (k:=10) (l:=[[97]]) ⟨by decide,by decide,fun s hs=>by grind⟩)) fun d hd=> ?_;have hd1:EDr 8 d.1:=hd.1;refine .chk ?_ (.mk' ⟨⟨?_,?_⟩,hd.2⟩)
  ·show zs.length+1<=Lim
   grind [Lim]
  ·refine GA g1 g2 ht ?_ fun x hx=> ?_
   ·show(zs++ [Exp.re d.1]).length<=5000
    grind
   ·have hx:x∈zs++ [Exp.re d.1]:=hx;rcases Zf.1 hx with hx|hx
    ·grind
    ·rw [Zo.1 hx,Exp.re_eq];exact Exp.fit_mono (by omega) hd1.1
  ·rw [FR];show t.length+((zs++ [Exp.re d.1]).length+((zs++ [Exp.re d.1]).map Exp.size).sum)<=120000;have h8:=hd1.2
   grind [Exp.re_eq]
 ·refine .bnd (Gg hb.2 (by decide)) fun d hd=> .mk' ⟨⟨?_,?_⟩,hd.2⟩
  ·refine GA g1 g2 ?_ ha g6;have hm:d.1∈ [[108,101,116],[115,117,109],([]:Str),[120]]:=hd.1
   grind
  ·rw [FR];have hm:d.1∈ [[108,101,116],[115,117,109],([]:Str),[120]]:=hd.1;have:d.1.length<=3:=by
    grind
   show d.1.length+(zs.length+(zs.map Exp.size).sum)<=120000;omega
 ·refine .bnd (o:=fun N _=>Ff N b.2 [-1,7,1000000001]) (P:=Dr fun v=>I64 v) ?_ fun d hd=> .mk' ⟨⟨GA g1 hd.1 ht ha g6,?_⟩,hd.2⟩
  ·refine .bnd (CQ hb.2 (by decide)) fun d hd=> ?_;obtain⟨⟨d1,d2⟩,d3⟩:=hd;have d2:d.1<3:=d2;refine .chk ⟨d1,d2⟩ (.mk' ⟨?_,d3⟩)
   grind [I64]
  ·rw [FR];exact hs0
 ·have hb0:BdE 110000 (.mk k n t zs):=⟨Exp.fit_mono (by omega) he,by grind⟩;have h1:=xBx 7 0 110000 _ rfl hb0;have h2:Big fun N=>HK N N 0 b.2 (.mk 0 0 [] []) (.mk k n t zs)=some (Et 7 0 (.mk k n t zs),b.2):=(Ap 8).imp fun N hN=>xBw (N:=N) (c:=b.2) (b2:= .mk 0 0 [] []) 7 0 N _ rfl (by omega);have h3:(Et 7 0 (.mk k n t zs)).size<=120000:=by have:=h1.2;omega
  exact .ofBig h2 ⟨⟨h1.1,h3⟩,hb.2⟩
 ·exact .mk' ⟨⟨Exp.fit_mono (by omega) he,by grind⟩,hb.2⟩
def TDr(x:Rea):Prop:=∃n,I64 n/\x.result= .mk 1 n 0 [] [] [] []
theorem xHO{ι:Type}{S:ι->Prop}{c:Cur}(g:ι->Nat)(h:CurOk c):U S (fun x=>PX (g x) c) (Dr fun _=>True):=
 .bnd (Ao g h (by decide)) fun a ha=> .bnd (Ao g ha.2 (by decide)) fun b hb=> .bnd (Gh g hb.2 (by decide)) fun d hd=> .bnd (Ao g hd.2 (by decide)) fun e he=> .mk' ⟨trivial,he.2⟩
theorem xKQ{c:Cur}(h:CurOk c):U (fun N:Nat=>1000<N) (fun N=>HQ N c) (Dr fun l=>l.length<=4/\∀x∈l,TDr x):=by
 refine .bnd (Ao id h (by decide)) fun a ha=> ?_;obtain⟨n,hn⟩:=Co ha.1.1;have hn2:n<4:=by have:=ha.1.2;omega
 rw [hn];refine Cj (σ:=List Rea×Cur) (L:=fun N m i st=>Fa N m st.1 n i st.2) (B:=1000) n (fun i st=>(st.1.length<=i/\∀x∈st.1,TDr x)/\CurOk st.2) (by omega) (fun st hs=> ?_) (fun i st hi hs ih=> ?_) ([],a.2) ⟨⟨Zn _,by simp⟩,ha.2⟩
 ·simp only [Fa,Zd,Z9,jF];exact .mk' ⟨⟨by grind,hs.1.2⟩,hs.2⟩
 ·have hlen:∀b:Rea,st.1.length+List.length [b]<=Lim:=fun b=>by
   grind [Lim]
  simp only [Fa,A6,Zz (show(i:Int)<(n:Int) by omega),jT,AL hi (by omega:n<=_),jS,Val.re_eq];exact .bnd (xHO _ hs.2) fun b hb=> .cnd (fun _=> .cnd (fun _=> .chk (hlen _) (ih (_,b.2) ⟨EP (K:=0) hs.1 ⟨_,Ey _,rfl⟩,hb.2⟩)) fun _=> .chk (hlen _) (ih (_,b.2) ⟨EP (K:=0) hs.1 ⟨_,Ey _,rfl⟩,hb.2⟩)) fun _=> .chk (hlen _) (ih (_,b.2) ⟨EP (K:=0) hs.1 ⟨_,Ey _,rfl⟩,hb.2⟩)
theorem Qx{c:Cur}{w:Wld}(h:CurOk c)(hw:w.files.length<=0):U (fun N:Nat=>1000<N) (fun N=>E5 N N [[102],[103],[104]] (List.length [[102],[103],[(104:UInt8)]]:Int) 0 c (Wld.mk 0 0 []) w) (Dr fun w=>w.files.length<=3):=by
 refine Cj (σ:=Cur×Wld) (L:=fun N m i st=>E5 N m [[102],[103],[104]] (List.length [[102],[103],[(104:UInt8)]]:Int) i st.1 (Wld.mk 0 0 []) st.2) (B:=1000) 3 (fun i st=>st.2.files.length<=i/\CurOk st.1) (by omega) (fun st hs=> ?_) (fun i st hi hs ih=> ?_) (c,w) ⟨hw,h⟩
 ·simp only [E5];exact .mk' hs
 ·have hi' :(i:Int)<(List.length [[102],[103],[(104:UInt8)]]:Int):=by grind
  simp only [E5,Zz hi',jT,AL hi (by omega:3<=_)];have h1:=hs.1;refine .chk ⟨by omega,hi'⟩ (.bnd (D6 _ hs.2) fun a ha=> .cnd (fun _=> .bnd (Ao _ ha.2 (by decide)) fun b hb=> .chk ?_ (ih (b.2,Wld.mk st.2.clock st.2.seed (st.2.files++ [⟨_,_⟩])) ⟨?_,hb.2⟩)) fun _=>ih (a.2,st.2) ⟨Nat.le_succ_of_le h1,ha.2⟩)
  all_goals grind [Lim]
theorem xLb{c:Cur}(h:CurOk c):U (fun N:Nat=>1000<N) (fun N=>HM N c) (Dr fun w=>w.files.length<=3):=
 .bnd (Ao id h (by decide)) fun a ha=> .bnd (Ao id ha.2 (by decide)) fun b hb=> .bnd (D6 id hb.2) fun d hd=> .cnd (fun _=> .bnd (Ao id hd.2 (by decide)) fun e he=>Qx he.2 (Zg _)) fun _=>Qx hd.2 (Zg _)
theorem xBh {e:Exp}{s:Nat}(h:EDr s e)(hs:s<=1000000):E2 (fun N _=>Cr N e) (fun _=>True):=
 .ofBig ((Pq (K:=1000) (by omega) h.1 (by have:=h.2;omega)).imp fun N h=>h.2) trivial
theorem LM{s:Nat}:EDr (s+8) (.mk 5 0 [99,108,111,99,107] []):=(CT (by omega) (by omega) (by decide)).mono (by omega)
theorem Qy{c:Cur}{e:Exp}{b:Bool}(h:CurOk c)(he:EDr 110100 e):E2 (fun N _=>bif b then Option.bind (E0 N c [[97]]) fun r10=>Option.bind (Cr N (Exp.mk 9 0 [117] [r10.1,e])) fun r11=>bif !r11 then some (Exp.mk 5 0 [99,108,111,99,107] [],r10.2) else some (Exp.mk 9 0 [117] [r10.1,e],r10.2)
 else Option.bind (Cr N e) fun r=>bif !r then some (Exp.mk 5 0 [99,108,111,99,107] [],c) else some (e,c)) (Dr (EDr 111000)):=by
 refine .cnd (fun _=> .bnd (.ofU (KI h (k:=10) (l:=[[97]]) ⟨by decide,by decide,fun s hs=>by grind⟩)) fun a ha=> ?_) fun _=> .bnd (xBh he (by omega)) fun v _=> .cnd (fun _=> .mk' ⟨LM,h⟩) fun _=> .mk' ⟨he.mono (by omega),h⟩;have h9:EDr 110210 (Exp.mk 9 0 [117] [a.1,e]):=CH (by omega) (by omega) (by decide) ha.1 he;exact .bnd (xBh h9 (by omega)) fun v _=> .cnd (fun _=> .mk' ⟨LM,ha.2⟩) fun _=> .mk' ⟨h9.mono (by omega),ha.2⟩
theorem xDP{c:Cur}(h:CurOk c):E2 (fun N _=>NA N c) (Dr (EDr 111000)):=by
 simp only [NA,sOp,BK,BU,jS,Exp.re_eq];refine .bnd (Qm h) fun a ha=> .bnd (Gd ha.2) fun b hb=> .cnd (fun _=> .bnd (CQ hb.2 (by decide)) fun d hd=> .bnd (Gd hd.2) fun f hf=>Qy hf.2 ?_) fun _=> .bnd (Gd hb.2) fun f hf=>Qy hf.2 (ha.1.mono (by omega));have h1:=hd.1;exact(CH (by omega) (by omega) (by simp) (LM (s:=0)) (CH (by omega) (by omega) (by simp) (Jb (by omega) (by decide) (CT (k:=1) (n:=d.1) (t:=[]) (by omega) (by omega) (by simp))) ha.1)).mono (by omega)
theorem xGW{c:Cur}(h:CurOk c):E2 (fun N _=>P0 N c) (Dr (EDr 111000)):=by
 refine .ofU (B:=1000) (.bnd (Ao id h (by decide)) fun a ha=> ?_);obtain⟨n,hn⟩:=Co ha.1.1;have hn2:n<4:=by have:=ha.1.2;omega
 have w:IntKind.i64.wrap (5+a.1)=((n+5:Nat):Int):=by grind [Af]
 rw [w];refine Cj (σ:=List Exp×Cur) (L:=fun N m i st=>JF N m ((n+5:Nat):Int) i st.2 (Exp.mk 0 0 [] []) (Exp.mk 4 0 [] st.1)) (B:=1000) (n+5) (fun i st=>LDr i st.1/\CurOk st.2) (by omega) (fun st hs=> ?_) (fun i st hi hs ih=> ?_) ([],a.2) ⟨⟨rfl,fun x hx=>by grind⟩,ha.2⟩
 ·simp only [JF,P1,sOp,BK,Kj,Zd,Z9,jF,jS,Exp.re_eq];have h1:=Ox hs.1.2;have h2:=hs.1.1;have hL:EDr 200 (.mk 4 0 [] st.1):=Fz (by omega) (by omega) (by simp) (by omega) (fun x hx=>(hs.1.2 x hx).1) (by grind);have nm:∀ {t:Str},t.length<=8->EDr 8 (.mk 3 0 t []):=fun ht=>CT (by omega) (by omega) ht;refine .bnd (D6 _ hs.2) fun b hb=> .cnd (fun _=> .mk' ⟨?_,hb.2⟩) fun _=> .mk' ⟨?_,hb.2⟩
  ·exact(CH (by omega) (by omega) (by decide) hL (CH (by omega) (by omega) (by decide) hL (CH (by omega) (by omega) (by decide) (nm (by decide)) (nm (by decide))))).mono (by omega)
  ·exact(CH (by omega) (by omega) (by decide) hL (CH (by omega) (by omega) (by decide) hL (LM (s:=0)))).mono (by omega)
 ·have hlen:=hs.1.1;simp only [JF,BU,Zz (show(i:Int)<((n+5:Nat):Int) by omega),jT,AL hi (by omega:n+5<=_),jS,Exp.re_eq,ek,en,et,ea];exact .chk (by grind [Lim]) (ih (st.1++ [_],st.2) ⟨hs.1.app ((CT (by omega) (by omega) (by simp)).mono (by omega)),hs.2⟩)
def N4(r:Exp×List Bnd×List Rea×Wld×Int×Int):Prop:=BdE 120000 r.1/\(r.2.1.length<=64/\∀b∈r.2.1,BDr b)/\(r.2.2.1.length<=4/\∀x∈r.2.2.1,TDr x)/\r.2.2.2.1.files.length<=3
theorem MR{c:Cur}{e:Exp}(h:CurOk c)(he:BdE 120000 e):E2 (fun N _=>Option.bind (F9 N c) fun r6=>Option.bind (HQ N r6.2) fun r7=>Option.bind (HM N r7.2) fun r8=>Option.bind (AT N r8.2 9) fun r9=>Option.bind (AT N r9.2 5) fun r10=>
 some (e,r6.1,r7.1,r8.1,(IntKind.i64.wrap (1+r9.1)),(IntKind.i64.wrap (1+r10.1)))) N4:=
 .bnd (.ofU (xGv h)) fun a ha=> .bnd (.ofU (xKQ ha.2)) fun b hb=> .bnd (.ofU (xLb hb.2)) fun d hd=> .bnd (CQ hd.2 (by decide)) fun f hf=> .bnd (CQ hf.2 (by decide)) fun g hg=> .mk' ⟨he,ha.1,hb.1,hd.1⟩
theorem EDr.bd{e:Exp}(h:EDr 111000 e):BdE 120000 e:=⟨Exp.fit_mono (by omega) h.1,ZT h.2 (by omega)⟩
theorem xDL{a:List Int}(h:a.length<=1048576):∃r,N4 r/\Big fun N=>Ma N a=some r:=by
 have:E2 (fun N _=>Ma N a) N4:= .bnd (xG7 h) fun c hc=> .bnd (xDP hc) fun e he=> .bnd (Gd he.2) fun b hb=> .cnd
  (fun _=> .bnd (xGW hb.2) fun l hl=> .bnd (Gd hl.2) fun d hd=> .cnd (fun _=> .bnd (QN hd.2) fun f hf=>MR hf.2 hf.1) fun _=>MR hd.2 hl.1.bd)
  fun _=> .bnd (Gd hb.2) fun d hd=> .cnd (fun _=> .bnd (QN hd.2) fun f hf=>MR hf.2 hf.1) fun _=>MR hd.2 he.1.bd
 exact this.diag
theorem xHm:∀v:Val,OIn (fun _=>False) v->v.og=[]:=by
 refine Val.ind fun k n s t l c r ih h=> ?_;have h1:l.flatMap Val.og=[]:=List.flatMap_eq_nil_iff.2 fun x hx=>ih x hx (h.el hx);have h2:r.flatMap Rowd.frm=[]:=List.flatMap_eq_nil_iff.2 fun x hx=>Yp.2 (h.row x hx)
 grind [Val.og,UA]
theorem xHl{v:Val}(h:v.Fit 64)(hl:Lo v):v.og.length<=4096:=by
 rcases hl with hl|hl
 ·obtain⟨k,n,s,t,l,c,r⟩:=v;obtain rfl:l=[]:=hl;obtain⟨_,_,_,_,_,_,h7⟩:=Val.fit_iff.1 h;have h1:=Nv (f:=Rowd.frm) (g:=fun _=>64) (l:=r) fun x hx=>(h7.2 x hx).2.1;have h2:(r.map fun _=>64).sum<=r.length*64:=Ej fun x hx=>Zn _;have h3:r.length<=64:=h7.1
  grind [Val.og,Val.ogs]
 grind [xHm]
theorem xHa{e:Exp}(h:Bl e=false)(sc:List Bnd)(tp:List Rea)(w:Wld)(ce ve:Int):
 (CB e sc [] ⟨0,0,[]⟩ 1 1).value=(CB e sc tp w ce ve).value/\(CB e sc [] ⟨0,0,[]⟩ 1 1).steps=(CB e sc tp w ce ve).steps/\(CB e sc tp w ce ve).reads=[]:=by
 have t:=xDV false e h (.mk tp w ce ve [] 0 false) (.mk [] ⟨0,0,[]⟩ 1 1 [] 0 false) sc rfl rfl;unfold CB;cases Fk e
 ·grind
 ·exact⟨by simp [t.val,t.over],t.steps.symm,t.rd⟩
theorem xGG(a0:List Int)(f0:∀z∈ [CV.sl .ro .byte a0],DFit z.toD):∃N,ML N a0=some true:=by
 by_cases hb:(a0.length:Int)>1048576
 ·exact⟨0,by grind [ML,KE]⟩
 obtain⟨⟨e,sc,tp,w,ce,ve⟩,⟨⟨h1,h2⟩,⟨h3,h4⟩,⟨h5,h6⟩,h7⟩,hd⟩:=xDL (a:=a0) (by omega);dsimp only at h1 h2 h3 h4 h5 h6 h7
 let W:=sc.flatMap fun b=>b.value.og
 have hW:W.length<=1048576:=by
  have e1:=Nv (f:=fun b:Bnd=>b.value.og) (g:=fun _=>4096) (l:=sc) fun x hx=>xHl (h4 x hx).1.2 (h4 x hx).2.2;have e2:(sc.map fun _=>4096).sum<=sc.length*4096:=Ej fun x hx=>Zn _
  grind
 let Z:=16777216+(sc.map fun b=>b.value.size).sum
 have hI:=xGr (Z:=Z) (YW _ _) hW;have he:e.Fit 1048576:=Exp.fit_mono (by omega) h1;have hn:=Exp.nest_le e;have hc:=Exp.cnt_le e
 have hsc:Sok (VIn Z W) (e.nest+1) sc:=⟨by omega,fun b hb' =>by
  have hv:b.value.Fit 1048576:=Val.fit_mono (by omega) (h4 b hb').1.2;refine⟨⟨hv,xHk _ hv fun o ho=>ZJ.2 ⟨b,hb',ho⟩,?_⟩,ZT (h4 b hb').2.1 (by omega)⟩
  grind [MV]⟩
 have ht:∀x∈tp,VIn Z W x.result:=fun x hx=>by
  obtain⟨n,hn,hr⟩:=h6 x hx;rw [hr];exact hI.num hn
 have ev1:=Qv (ce:=ce) (ve:=ve) hI he (by omega) hsc (by omega:tp.length<=1048576) ht (by omega:w.files.length<=1048576);have ev2:=Qv (tape:=[]) (w:=⟨0,0,[]⟩) (ce:=1) (ve:=1) hI he (by omega) hsc (by simp) (by simp) (by simp);obtain⟨o1,_⟩:=UI (ce:=ce) (ve:=ve) hI he hsc (by omega:tp.length<=1048576) ht (by omega:w.files.length<=1048576);refine(((hd.and ev1).and (ev2.and (xIF (K:=1048576) (by omega) o1.1))).and (xEB (K:=1048576) (by omega) e he).diag).imp (fun N ⟨⟨⟨d,v1,v2⟩,⟨w1,w2⟩,q⟩,x1,x2⟩=> ?_) |>.get;have x1:Lg N e=some (Bl e):=x1;have x2:HD N e=some (Bl e):=x2;have hB:KE N a0=some false:=by grind [KE]
 unfold ML;simp only [hB,d,v1,v2,w1,q,x1,x2,jS,jF,Yc,jU]
 grind [xHa]
end Go.Ab
end
section
namespace Go.Proofs.YtmkdoadmcaagiaaGreatDoor
open Go.Ab Go.ChangeShapes Go.WideShapes Go.ChangeAt Go.RowKit
theorem own:ownKnob Tryz.prog.godebug=none:=by kernel_rfl
theorem xGF:laidOutB Tryz.prog=true:=by kernel_rfl
theorem xGu:iF Tryz.prog [(5,.byte)]=true:=by kernel_rfl
set_option maxRecDepth 100000 in
theorem fnNoEffects_lifted(os:Os)(started:os.Started)(H:Type)(enc:TypeId×Value->H):
 ReturnsInHanded {} Tryz.checked os 3 .any (fun w args=>(Rows.fnNoEffectsSpec.pre enc Tryz.prog Tryz.f3 Rows.fnNoEffectsRow.domain false w args/\laidMetH Tryz.prog Rows.fnNoEffectsRow.laid w)/\sizedMet enc Tryz.prog Tryz.f3 (OpenSpec.ofChange Rows.fnNoEffectsSpec) false w args)
  (Rows.fnNoEffectsSpec.post enc Tryz.prog Tryz.f3 false true false false):=by
 refine returnsInHanded_of_change_and (C:=Tryz.checked) (X:=fun w _=>laidMetH Tryz.prog Rows.fnNoEffectsRow.laid w) (fun _ _ _ hh h=>h.of_heap hh) own started (by kernel_rfl) Tryz.func3
  (ChangeSpec.witness_shaped (enc:=enc) (C:=Tryz.checked) (os:=os) (X:=fun w _=>laidMetH Tryz.prog Rows.fnNoEffectsRow.laid w) false (World.laidAll Tryz.prog os Rows.fnNoEffectsRow.laid) #[.slice none 0 0] 8 (World.laidAll_os _ _ _)
    (World.shaped_of_ZipB (by kernel_rfl) (by kernel_rfl)) (by kernel_rfl) (by kernel_rfl) (by kernel_rfl)
    (by rw [MakeChecks.laidMetH_plain _ _ _ (by kernel_rfl)];exact laidMet_laidAll _ (by kernel_rfl) (by kernel_rfl))) ?_
 intro W base args ds gs before hval0 hW hcnd _ hL _
 letI:Inhabited Lb:=⟨⟨[]⟩⟩
 have hval:∀(j:Nat) t v,Tryz.f3.params[j]? =some t->args[j]? =some v->Value.okWide Tryz.prog W .any base t v:=hval0;have hW' :=hW;obtain⟨p,q,hA0,hV,rfl,hfz,hnd⟩:=hW;have hA:DataW.TrodAll enc Tryz.prog W 0 (fun _=>true) true Tryz.f3.params.toList args.toList ds p:=hA0;rw [Tryz.params3] at hA hval;obtain⟨v0,vs0,d0,ds0,p0,q0,hargs,rfl,rfl,h0,r0⟩:=trodAll_cons hA;obtain⟨rfl,rfl,rfl⟩:=trodAll_nil r0;obtain rfl:args= #[v0]:=by cases args;simp_all
 obtain⟨rfl,rfl⟩:=trodVars_none hV;have lt0:∀x∈p0,x.block<W.heap.size:=by obtain⟨m,hm⟩:=h0;exact DataW.trod_lt m _ _ _ hm
 obtain⟨z0,e0,f0,vr0⟩:=AI xGu (g:=false) (t:=22) (ns:=[.inr .byte]) (by kernel_rfl) (hval 0 22 v0 rfl rfl) h0;obtain⟨x0_0,_,rfl,e0_0⟩:=AreOf.sl_inv e0;obtain rfl:=e0_0.nil_inv;obtain⟨N,hF⟩:=xGG x0_0 f0;clear hA0 hval0;refine(zT T.fk3 (T.laws_FnNoEffects_ok hF) (W:=W) (args:= #[v0]) ⟨vr0 _,trivial⟩ (fun x hx=>by cases hx)).mono fun e W' ⟨he,bel⟩=> ?_;subst he;exact⟨_,rfl,_,_,_,[],_,[],hW',trodAll_mk1 (shut_bool Tryz.underlying4 _),(trodAll_cons_mk (Below.trod xGF (by kernel_rfl) (of_decide_eq_true (by kernel_rfl)) h0 bel lt0) trodAll_mk0),rfl,bel.frame _,fun h=>by cases h⟩
set_option maxHeartbeats 4000000 in
theorem fnNoEffects_closed:joinedFacts Tryz.pinned.checked.prog 3 Tryz.f3 Rows.fnNoEffectsSpec Rows.fnNoEffectsRow=true:=by
 unfold joinedFacts
 repeat refine Bool.and_eq_true_iff.2 ⟨?_,by as_aux_lemma=>kernel_rfl⟩
 as_aux_lemma=>kernel_rfl
set_option maxHeartbeats 4000000 in
theorem fnNoEffects_proved:Rows.FnNoEffectsSaid:=
 OpenClaim.holds_of_wide 3 Tryz.f3 rfl rfl rfl rfl rfl rfl rfl ⟨rfl,rfl,rfl,rfl,rfl⟩ rfl rfl rfl rfl rfl (by as_aux_lemma=>kernel_rfl) Tryz.func3 fnNoEffects_closed
  (of_decide_eq_true (by as_aux_lemma=>kernel_rfl)) (by as_aux_lemma=>unfold Func.isWrapper;first |(rw [Zt (by decide +kernel)];kernel_rfl) |(rw [Za (by decide +kernel)];exact⟨rfl,rfl⟩))
  (fun os started H enc _=>fnNoEffects_lifted os started H enc)
set_option maxHeartbeats 4000000 in
theorem fnNoEffects_card:Rows.FnNoEffectsCardSaid:=
 Claim7.holds_tied_plain_at .later [] Rows.fnNoEffectsCard.laidKinds true Rows.fnNoEffectsCard.stood.harness Rows.fnNoEffectsCard.stood.looks fnNoEffects_proved (fun _ h=>by cases h) (by as_aux_lemma=>kernel_rfl) (fun _ h=>by cases h) fnNoEffects_row_tie rfl ⟨rfl,rfl⟩ (by as_aux_lemma=>kernel_rfl) rfl
  (fun f fn hf hfn=>by
    obtain rfl:f=3:=Yb ((show Tryz.prog.funcNamed Rows.fnNoEffectsRow.func=some 3 by kernel_rfl).symm.trans hf) |>.symm;obtain rfl:fn=Tryz.f3:=(Yb (Tryz.func3.symm.trans hfn)).symm
    exact⟨by as_aux_lemma=>kernel_rfl,fun j t ht=>by
     rw [Tryz.params3] at ht;have hm:t∈ [22]:=by simpa using Array.mem_of_getElem? ht
     have hall:([22].all fun u=> !Tryz.prog.wantsStandIn u)=true:=by as_aux_lemma=>kernel_rfl
     exact(show Tryz.prog.wantsStandIn t=false by simpa using Zx.1 hall t hm)⟩)
  (by as_aux_lemma=>kernel_rfl)
end Go.Proofs.YtmkdoadmcaagiaaGreatDoor
end
