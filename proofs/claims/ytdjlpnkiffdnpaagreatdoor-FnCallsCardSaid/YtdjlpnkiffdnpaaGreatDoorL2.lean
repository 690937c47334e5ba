/- A layer over the machine of the kit: an evaluator over plain data that is sound. Conditions: none. -/
import Derived.Test.YtdjlpnkiffdnpaaGreatDoorL1
set_option linter.all false
section
namespace Go.Ab
variable [Inhabited Lb]
structure FnOk (P:Program) (f:FuncId) (fn:Func) (I:Info):Prop where
 get:P.funcs[f]? =some fn
 body:fn.body=some I.body
 nt:fn.ntmps=I.nt
 res:fn.results.toList=I.results
 name:(fn.name== "runtime.NumGoroutine")=false
def Reach(P:Program)(fn:Func)(I:Info)(stk:List Item)(σ:St)(ro:CallO):Prop:=
 ∀C:Ctx,C.P=P->C.nt=I.nt->(∀s b,C.ext s=some b->s∈I.ext)->∀a w,R C σ a w->∀(b:Frame) (cs:List Frame),
  ∃a' w' todo,kM C fn I ro a' w' /\Steps P (lone (b.at a stk) cs w) (lone { b.at a' todo with mode:= .returning } cs w')
section
variable {P:Program} {tt:TT} {f:FuncId} {fn:Func} {I:Info}
theorem Reach.done(htt:aO P tt)(hmix:P.follows .mixedOrders=true)(hf:FnOk P f fn I){n:Nat}{first:Bool}{stk:List Item}{σ:St}{bs:List Bool}{cs:List CallO}{ro:CallO}{ob:List Prop}
 (h:run tt (AbsCalls P) I n first stk ⟨σ,bs,cs,[]⟩=some (.done ro ob)) (hob:∀p∈ob,p):Reach P fn I stk σ ro:=by
 intro C hP hnt hext a w hR b cs;subst hP;exact(qI htt hf.res hnt hext hmix n first stk _ _ h).2 hob a w hR b cs
theorem Reach.stop(htt:aO P tt)(hmix:P.follows .mixedOrders=true)(hf:FnOk P f fn I){n:Nat}{first:Bool}{stk stk' :List Item}{σ σ' :St}{bs:List Bool}{cs:List CallO}{ro:CallO}{ob:List Prop}
 (h:run tt (AbsCalls P) I n first stk ⟨σ,bs,cs,[]⟩=some (.stop stk' σ' ob)) (hob:∀p∈ob,p) (hr:Reach P fn I stk' σ' ro):Reach P fn I stk σ ro:=by
 intro C hP hnt hext a w hR b cs;have hr:=hr C hP hnt hext;subst hP;obtain⟨a1,w1,h1,h2⟩:=(qI htt hf.res hnt hext hmix n first stk _ _ h).2 hob a w hR b cs;obtain⟨a',w',todo,h3,h4⟩:=hr a1 w1 h1 b cs;exact⟨a',w',todo,h3,h2.trans h4⟩
def aW:Nat->List Arg->St
 |_,[]=> []
 |i,.val a::as=>(2*i,a)::aW (i+1) as
 |i,.box cs::as=>(2*i,.v false [.ptr i 0])::(2*i+1,.v true cs)::aW (i+1) as
 |i,.gbox cs::as=>(2*gi i+1,.v true cs)::aW (i+1) as
theorem sJ:∀ {as:List Arg} {i s:Nat},s∈aF i as↔∃(j:Nat) (cs:List CV),(s=i+j/\as[j]? =some (.box cs))\/(s=gi (i+j)/\as[j]? =some (.gbox cs)):=by
 intro as
 induction as with
 |nil=>intro i s;simp [aF]
 |cons x as ih=>
  intro i s
  have up:(∃(j:Nat) (cs:List CV),(s=i+1+j/\as[j]? =some (.box cs))\/(s=gi (i+1+j)/\as[j]? =some (.gbox cs)))->
   ∃(j:Nat) (cs:List CV),(s=i+j/\(x::as)[j]? =some (.box cs))\/(s=gi (i+j)/\(x::as)[j]? =some (.gbox cs)):=by
   rintro ⟨j,cs,⟨rfl,h⟩|⟨rfl,h⟩⟩
   ·exact⟨j+1,cs,.inl ⟨by omega,by simpa using h⟩⟩
   ·exact⟨j+1,cs,.inr ⟨by rw [show i+1+j=i+(j+1) from by omega],by simpa using h⟩⟩
  have down:∀ {j:Nat} {cs:List CV},(s=i+(j+1)/\(x::as)[j+1]? =some (.box cs))\/(s=gi (i+(j+1))/\(x::as)[j+1]? =some (.gbox cs))->
   ∃(j:Nat) (cs:List CV),(s=i+1+j/\as[j]? =some (.box cs))\/(s=gi (i+1+j)/\as[j]? =some (.gbox cs)):=by
   rintro j cs (⟨rfl,h⟩|⟨rfl,h⟩)
   ·exact⟨j,cs,.inl ⟨by omega,by simpa using h⟩⟩
   ·exact⟨j,cs,.inr ⟨by rw [show i+1+j=i+(j+1) from by omega],by simpa using h⟩⟩
  cases x with
  |val a=>
   rw [aF,ih];constructor
   ·exact up
   ·rintro ⟨j,cs,h⟩;cases j with
    |zero=>simp at h
    |succ j=>exact down h
  |box cs0=>
   rw [aF,Zo,ih];constructor
   ·rintro (rfl|h)
    ·exact⟨0,cs0,.inl ⟨rfl,rfl⟩⟩
    ·exact up h
   ·rintro ⟨j,cs,h⟩;cases j with
    |zero=>
     rcases h with h|h
     ·exact .inl h.1
     ·simp at h
    |succ j=>exact .inr (down h)
  |gbox cs0=>
   rw [aF,Zo,ih];constructor
   ·rintro (rfl|h)
    ·exact⟨0,cs0,.inr ⟨rfl,rfl⟩⟩
    ·exact up h
   ·rintro ⟨j,cs,h⟩;cases j with
    |zero=>
     rcases h with h|h
     ·simp at h
     ·exact .inl h.1
    |succ j=>exact .inr (down h)
theorem rJ{E E' :Env}:∀ {as:List Arg} {k:Nat} {outs:List (List CV)},outs.length=(aF k as).length->
 (∀(n s:Nat) (o:List CV),(aF k as)[n]? =some s->outs[n]? =some o->bM E' s (E.bx s) o)->cR E E' k as outs:=by
 intro as
 induction as with
 |nil=>intro k outs h _;cases outs <;>simp_all [cR,aF]
 |cons x as ih=>
  intro k outs h hh;cases x with
  |val a=>exact ih (k:=k+1) h hh
  |box cs=>
   cases outs with
   |nil=>simp [aF] at h
   |cons o os=>exact⟨hh 0 k o rfl rfl,ih (k:=k+1) (by simpa [aF] using h) fun n s o' h1 h2=>hh (n+1) s o' (by simpa [aF] using h1) (by simpa using h2)⟩
  |gbox cs=>
   cases outs with
   |nil=>simp [aF] at h
   |cons o os=>exact⟨hh 0 _ o rfl rfl,ih (k:=k+1) (by simpa [aF] using h) fun n s o' h1 h2=>hh (n+1) s o' (by simpa [aF] using h1) (by simpa using h2)⟩
theorem vO:∀ {as:List Arg} {i n:Nat} {t:Nat×Nat},(bA i as)[n]? =some t->∃q,t.1=2*q:=by
 intro as
 induction as with
 |nil=>intro i n t h;simp [bA] at h
 |cons x as ih=>
  intro i n t h;cases x with
  |val y=>
   cases y with
   |v g cs=>
    simp only [bA] at h;by_cases hn:n<(aV (2*i) 0 cs).length
    ·rw [Ze hn] at h;exact⟨i,(fL h).1⟩
    ·rw [Z3 (by omega)] at h;exact ih h
   |_=>exact ih (i:=i+1) h
  |box cs=>exact ih (i:=i+1) h
  |gbox cs=>exact ih (i:=i+1) h
theorem nW:∀ {as:List Arg} {i:Nat} (q:Nat),St.get (aW i as) q= .none\/∃(j:Nat) (s:List Nat) (m:Bool),
 (∃a,as[j]? =some (.val a)/\q=2*(i+j)/\St.get (aW i as) q=a.mapC (CV.stale s m))\/
 (∃cs,as[j]? =some (.box cs)/\q=2*(i+j)/\St.get (aW i as) q= .v false [.ptr (i+j) 0])\/
 (∃cs,as[j]? =some (.box cs)/\q=2*(i+j)+1/\St.get (aW i as) q= .v true (cs.map (CV.stale s m)))\/
 (∃cs,as[j]? =some (.gbox cs)/\q=2*gi (i+j)+1/\St.get (aW i as) q= .v true (cs.map (CV.stale s m))):=by
 intro as
 induction as with
 |nil=>intro i q;exact .inl rfl
 |cons x as ih=>
  intro i q
  have tail:∀(k:Nat) (v:AV) (S:St),(St.get S q= .none\/∃(j:Nat) (s:List Nat) (m:Bool),
   (∃a,(x::as)[j]? =some (.val a)/\q=2*(i+j)/\St.get S q=a.mapC (CV.stale s m))\/
   (∃cs,(x::as)[j]? =some (.box cs)/\q=2*(i+j)/\St.get S q= .v false [.ptr (i+j) 0])\/
   (∃cs,(x::as)[j]? =some (.box cs)/\q=2*(i+j)+1/\St.get S q= .v true (cs.map (CV.stale s m)))\/
   (∃cs,(x::as)[j]? =some (.gbox cs)/\q=2*gi (i+j)+1/\St.get S q= .v true (cs.map (CV.stale s m))))->k≠q->
   (St.get ((k,v)::S) q= .none\/∃(j:Nat) (s:List Nat) (m:Bool),
   (∃a,(x::as)[j]? =some (.val a)/\q=2*(i+j)/\St.get ((k,v)::S) q=a.mapC (CV.stale s m))\/
   (∃cs,(x::as)[j]? =some (.box cs)/\q=2*(i+j)/\St.get ((k,v)::S) q= .v false [.ptr (i+j) 0])\/
   (∃cs,(x::as)[j]? =some (.box cs)/\q=2*(i+j)+1/\St.get ((k,v)::S) q= .v true (cs.map (CV.stale s m)))\/
   (∃cs,(x::as)[j]? =some (.gbox cs)/\q=2*gi (i+j)+1/\St.get ((k,v)::S) q= .v true (cs.map (CV.stale s m)))):=by
   intro k v S h hk;rw [St.get_cons,Zf hk];have comp:∀(s:List Nat) (m:Bool) (c:CV),(c.stale s m).stale [k] (k.beq aB)=c.stale (s++ [k]) (m||k.beq aB):=fun s m c=>CV.stale_stale c (fun q=>by simp) rfl;rcases h with h|⟨j,s,m,⟨a,h1,h2,h3⟩|⟨cs,h1,h2,h3⟩|⟨cs,h1,h2,h3⟩|⟨cs,h1,h2,h3⟩⟩
   ·exact .inl (by rw [h];rfl)
   ·refine .inr ⟨j,s++ [k],m||k.beq aB,.inl ⟨a,h1,h2,?_⟩⟩;rw [h3,AV.mapC_comp];congr 1;funext c;exact comp s m c
   ·refine .inr ⟨j,[],false,.inr (.inl ⟨cs,h1,h2,?_⟩)⟩;rw [h3];simp [AV.mapC,CV.stale,CV.onKey,CV.isBor]
   ·refine .inr ⟨j,s++ [k],m||k.beq aB,.inr (.inr (.inl ⟨cs,h1,h2,?_⟩))⟩;rw [h3];simp only [AV.mapC,Yb];congr 1;exact ZO fun c _=>comp s m c
   ·refine .inr ⟨j,s++ [k],m||k.beq aB,.inr (.inr (.inr ⟨cs,h1,h2,?_⟩))⟩;rw [h3];simp only [AV.mapC,Yb];congr 1;exact ZO fun c _=>comp s m c
  have sub:St.get (aW (i+1) as) q= .none\/∃(j:Nat) (s:List Nat) (m:Bool),
   (∃a,(x::as)[j]? =some (.val a)/\q=2*(i+j)/\St.get (aW (i+1) as) q=a.mapC (CV.stale s m))\/
   (∃cs,(x::as)[j]? =some (.box cs)/\q=2*(i+j)/\St.get (aW (i+1) as) q= .v false [.ptr (i+j) 0])\/
   (∃cs,(x::as)[j]? =some (.box cs)/\q=2*(i+j)+1/\St.get (aW (i+1) as) q= .v true (cs.map (CV.stale s m)))\/
   (∃cs,(x::as)[j]? =some (.gbox cs)/\q=2*gi (i+j)+1/\St.get (aW (i+1) as) q= .v true (cs.map (CV.stale s m))):=by
   rcases ih (i:=i+1) q with h|⟨j,s,m,h⟩
   ·exact .inl h
   ·refine .inr ⟨j+1,s,m,?_⟩;rw [show i+1+j=i+(j+1) from by omega] at h;simpa using h
  cases x with
  |val a=>
   rw [aW];by_cases hk:2*i=q
   ·refine .inr ⟨0,[],false,.inl ⟨a,rfl,hk.symm,?_⟩⟩;rw [St.get_cons,Zw hk];exact(AV.mapC_id CV.stale_nil a).symm
   ·exact tail _ _ _ sub hk
  |box cs=>
   rw [aW];by_cases hk:2*i=q
   ·refine .inr ⟨0,[],false,.inr (.inl ⟨cs,rfl,hk.symm,?_⟩)⟩;rw [St.get_cons,Zw hk];rfl
   ·by_cases hk2:2*i+1=q
    ·refine .inr ⟨0,[2*i],(2*i).beq aB,.inr (.inr (.inl ⟨cs,rfl,hk2.symm,?_⟩))⟩;rw [St.get_cons,Zf hk,St.get_cons,Zw hk2];rfl
    ·exact tail _ _ _ (tail _ _ _ sub hk2) hk
  |gbox cs=>
   rw [aW];by_cases hk2:2*gi i+1=q
   ·refine .inr ⟨0,[],false,.inr (.inr (.inr ⟨cs,rfl,hk2.symm,?_⟩))⟩;rw [St.get_cons,Zw hk2];exact(AV.mapC_id CV.stale_nil (.v true cs)).symm
   ·exact tail _ _ _ sub hk2
theorem q7{E:Env}:∀ {as:List Arg} {vs:List Value} {i:Nat},ArgsAt E i as vs->vs.length<=as.length/\∀(j:Nat) (x:Arg),as[j]? =some x->
 (∃cs,x= .gbox cs/\vs.length<=j/\bM E (gi (i+j)) (E.bx (gi (i+j))) cs)\/∃v,vs[j]? =some v/\iI E (i+j) x v:=by
 intro as
 induction as with
 |nil=>intro vs i h;cases vs <;>simp_all [ArgsAt]
 |cons x as ih=>
  intro vs i h;cases vs with
  |nil=>
   cases x with
   |val a=>exact h.elim
   |box cs=>exact h.elim
   |gbox cs=>
    obtain⟨h0,h1⟩:=h;obtain⟨i1,i2⟩:=ih h1;refine⟨Z9 _,fun j y hy=> ?_⟩;cases j with
    |zero=>simp at hy;subst hy;exact .inl ⟨cs,rfl,Z9 _,h0⟩
    |succ j=>
     have:=i2 j y (by simpa using hy);rw [show i+1+j=i+(j+1) from by omega] at this;rcases this with ⟨cs,rfl,_,hb⟩|⟨v,hv,_⟩
     ·exact .inl ⟨cs,rfl,Z9 _,hb⟩
     ·simp at hv
  |cons v vs=>
   have h:iI E i x v/\ArgsAt E (i+1) as vs:=by cases x <;>exact h
   obtain⟨i1,i2⟩:=ih h.2;refine⟨by simp [i1],fun j y hy=> ?_⟩;cases j with
   |zero=>simp at hy;subst hy;exact .inr ⟨v,rfl,h.1⟩
   |succ j=>
    have:=i2 j y (by simpa using hy);rw [show i+1+j=i+(j+1) from by omega] at this;rcases this with ⟨cs,rfl,h1,hb⟩|⟨w,h1,h2⟩
    ·exact .inl ⟨cs,rfl,by simpa using h1,hb⟩
    ·exact .inr ⟨w,by simpa using h1,h2⟩
def CV.refOk(bs:List Nat):CV->Bool
 | .ptr _ _=>false
 | .clo _ ss=>ss.all fun s=>bs.contains s
 |_=>true
def Arg.refOk(bs:List Nat):Arg->Bool
 | .val (.v _ cs)=>cs.all (CV.refOk bs)
 | .val .none=>true
 | .val (.tup _)=>false
 | .box cs=>cs.all (CV.refOk bs)
 | .gbox cs=>cs.all (CV.refOk bs)
def sB(as:List Arg):Bool:=as.all (Arg.refOk (aF 0 as))
theorem AbsCalls.of_reach(hf:FnOk P f fn I){as:List Arg}{ro:CallO}(hwf:sB as=true)(hext:I.ext=aF 0 as)(hlen:(bA 0 as).length=I.lnt.length)(hn:as.length<=I.nt)(h:Reach P fn I [.code I.body] (aW 0 as) ro):
 AbsCalls P f as ro:=by
 intro E args hE hB hA;obtain⟨g1,g2⟩:=q7 hA;have hbody:fn.body.isNone=false:=by rw [hf.body];rfl
 refine .inr ⟨?_,?_⟩
 ·unfold callFunc;simp only [Sem.run_bind,run_program,Result.andThen_ok,hf.get,hf.name,hbody]
  rfl
 ·intro cs
  let b:Frame:= { (default:Frame) with fn:=f,kind:= .normal }
  have henter:Frame.enter P f args .normal=b.at { tmps:=args++Array.replicate (fn.ntmps - args.size) undef,defers:=[] } [.code I.body]:=by
   simp [Frame.enter,Frame.at,hf.get,hf.body,b]
  let C:Ctx:=⟨P,E.w.heap.size,E.w,E.hw,E.ow,E.hdr,I.nt,fun s=>if s∈aF 0 as then some (E.bx s) else none⟩
  have hsz:args.size<=as.length:=by rw [<-Array.length_toList];exact g1
  have htm:∀j,(args++Array.replicate (fn.ntmps - args.size) undef).getD j undef=args.getD j undef:=by
   intro j;simp only [Yv];by_cases hj:j<args.size
   ·rw [XN hj]
   ·rw [Array.getElem?_append_right (by omega),Yr (by omega:args.size<=j)];rw [Array.getElem?_replicate];split <;>rfl
  have hbx:∀s,s∈aF 0 as->aA (St.get (aW 0 as)) s:=by
   have push:∀(k:Nat) (v:AV) (S:St) (q:Nat),k≠q->(∃cs',St.get S q= .v true cs')->∃cs',St.get ((k,v)::S) q= .v true cs' :=by
    rintro k v S q hk ⟨cs',h⟩;rw [St.get_cons,Zf hk,h];exact⟨_,rfl⟩
   have key:∀ {as:List Arg} {i s:Nat},s∈aF i as->∃cs',St.get (aW i as) (2*s+1)= .v true cs' :=by
    intro as
    induction as with
    |nil=>intro i s h;cases h
    |cons x as ih=>
     intro i s h;cases x with
     |val a=>rw [aW];exact push _ _ _ _ (by omega) (ih h)
     |box cs=>
      rw [aW];refine push _ _ _ _ (by omega) ?_;by_cases e:2*i+1=2*s+1
      ·rw [St.get_cons,Zw e];exact⟨_,rfl⟩
      ·rcases Zo.1 h with rfl|h
       ·exact absurd rfl e
       ·exact push _ _ _ _ e (ih h)
     |gbox cs=>
      rw [aW];by_cases e:2*gi i+1=2*s+1
      ·rw [St.get_cons,Zw e];exact⟨_,rfl⟩
      ·rcases Zo.1 h with rfl|h
       ·exact absurd rfl e
       ·exact push _ _ _ _ e (ih h)
   exact fun s hs=>key hs
  have hcell:∀ {pl:Pl} {j:Nat} {x:CV} {v:Value},x.refOk (aF 0 as)=true->VRc E aJ pl j x v->VRc E (aA (St.get (aW 0 as))) pl j x v:=fun {pl j x v} hx hv=>
   hv.rebox (fun s off e=>by subst e;cases hx) fun k ss e s hm=>by subst e;exact hbx s (ZZ.1 (Zu.1 hx s hm))
  have hR:R C (aW 0 as) { tmps:=args++Array.replicate (fn.ntmps - args.size) undef,defers:=[] } E.w:=by
   refine⟨rfl,E,rfl,⟨rfl,rfl,rfl,Zi _,rfl,fun b hb h0=>⟨rfl,rfl,h0⟩,hE.new,hE.inj,hE.boxhw,?_,fun t=> ?_,fun s cs' hg=> ?_,fun s b hs=> ?_,hB⟩⟩
   ·show(args++Array.replicate (fn.ntmps - args.size) undef).size=I.nt;rw [Array.size_append,Array.size_replicate,hf.nt];omega
   ·have h0:=htm t;show VR E _ _ _ ((args++Array.replicate (fn.ntmps - args.size) undef).getD t undef);rw [h0];rcases nW (as:=as) (i:=0) (2*t) with hg|⟨j,s,m,⟨a,h1,h2,h3⟩|⟨cs,h1,h2,h3⟩|⟨cs,h1,h2,h3⟩|⟨cs,h1,h2,h3⟩⟩
    ·rw [hg];trivial
    ·have hjt:t=j:=by omega
     subst hjt;rw [h3];obtain⟨cs',e,_⟩|⟨v,hv,hav⟩:=g2 t _ h1
     ·cases e
     have:args.getD t undef=v:=by
      rw [Yv,<-ZY,hv];rfl
     rw [this];rw [Zj] at hav;have hwa:=Zu.1 hwf _ (Zs h1);refine VR.imp (fun j x v hm hv=> ?_) hav;rcases CV.stale_eq (s:=s) (m:=m) x with e|⟨e,_⟩
     ·rw [e];exact hv.one
     ·rw [e];refine hcell ?_ hv;cases a with
      |v g cs=>exact Zu.1 hwa x hm
      |tup xs=>cases hwa
      |none=>exact hm.elim
    ·have hjt:t=j:=by omega
     subst hjt;rw [h3];obtain⟨cs',e,_⟩|⟨v,hv,hav⟩:=g2 t _ h1
     ·cases e
     have:args.getD t undef=v:=by
      rw [Yv,<-ZY,hv];rfl
     rw [this];rw [Zj] at hav ⊢;exact⟨⟨hav.1,hbx t (sJ.2 ⟨t,cs,.inl ⟨by omega,h1⟩⟩)⟩,trivial⟩
    ·omega
    ·omega
   ·rcases nW (as:=as) (i:=0) (2*s+1) with hg0|⟨j,s1,m,⟨a,h1,h2,h3⟩|⟨cs,h1,h2,h3⟩|⟨cs,h1,h2,h3⟩|⟨cs,h1,h2,h3⟩⟩
    ·rw [hg0] at hg;cases hg
    ·omega
    ·omega
    ·have hjt:s=j:=by omega
     subst hjt;rw [h3] at hg;cases hg;obtain⟨cs',e,_⟩|⟨v,hv,hav⟩:=g2 s _ h1
     ·cases e
     rw [Zj] at hav;obtain⟨_,b1,vals,ty,b2,b3⟩:=hav;have hwa:=Zu.1 hwf _ (Zs h1);refine⟨b1,vals,ty,b2,VRs.imp (fun j x v hm hv=> ?_) b3⟩;rcases CV.stale_eq (s:=s1) (m:=m) x with e|⟨e,_⟩
     ·rw [e];exact hv.one
     ·rw [e];exact hcell (Zu.1 hwa x hm) hv
    ·have hjt:s=gi (0+j):=by omega
     rw [h3] at hg;cases hg;obtain⟨cs',e,_,hb⟩|⟨v,hv,hav⟩:=g2 j _ h1
     ·cases e;rw [<-hjt] at hb;obtain⟨b1,vals,ty,b2,b3⟩:=hb;have hwa:=Zu.1 hwf _ (Zs h1);refine⟨b1,vals,ty,b2,VRs.imp (fun j x v hm hv=> ?_) b3⟩;rcases CV.stale_eq (s:=s1) (m:=m) x with e|⟨e,_⟩
      ·rw [e];exact hv.one
      ·rw [e];exact hcell (Zu.1 hwa x hm) hv
     ·exact hav.elim
   ·have hs:(if s∈aF 0 as then some (E.bx s) else none)=some b:=hs;split at hs
    ·rename_i hm;cases hs;exact⟨hbx s hm,rfl⟩
    ·cases hs
  obtain⟨a',w',todo,⟨hd,hdone⟩,hsteps⟩:=h C rfl rfl (fun s b hs=>by
   have hs:(if s∈aF 0 as then some (E.bx s) else none)=some b:=hs;split at hs
   ·rename_i hm;rw [hext];exact hm
   ·cases hs) _ _ hR b cs
  obtain⟨v,Ef,E',rfl,⟨σf,hif⟩,hres,hfin⟩:=hdone (bA 0 as) hlen (fun n n' t=>oZ) (fun n t=>vO) as.length;refine⟨.returned v,Ef.w,{ b.at a' todo with mode:= .returning },⟨E',hfin.w,?_⟩,?_,rfl,⟨rfl,hd,rfl,fn,hf.get,hres⟩⟩
  ·refine⟨by rw [hfin.w];exact hif.os,by rw [hfin.w];exact hif.tape,by rw [hfin.w];exact hif.output,by rw [hfin.w];exact hif.size,by rw [hfin.hdr];exact hif.hdr,fun b hb h0=> ?_,hfin.env,hfin.res,?_,hfin.lents,fun s hs=>by
    have he:C.ext s=some (E.bx s):=by show(if s∈aF 0 as then some (E.bx s) else none)=_;rw [Zw hs]
    rw [hfin.bx];exact(hif.ext s _ he).2⟩
   ·obtain⟨a1,a2,a3⟩:=hif.old b hb h0;exact⟨by rw [hfin.w];exact a1,by rw [hfin.hw];exact a2,hfin.ow b a3⟩
   ·have hl:=hfin.outl;have ho:=hfin.outs;rw [hext] at hl ho;refine rJ hl fun n s o h1 h2=> ?_;have hm:s∈aF 0 as:=Zs h1;have he:C.ext s=some (E.bx s):=by show(if s∈aF 0 as then some (E.bx s) else none)=_;rw [Zw hm]
    rw [<-(hif.ext s _ he).2];exact ho n s o h1 h2
  ·rw [henter];exact hsteps
end
end Go.Ab
end
section
namespace Go.Ab
variable [Inhabited Lb]
def cL(P:Program):Nat->List Field->List CV->Bool
 |_,[],[]=>true
 |o,f::fs,.int k _::z=>(f.name != "_")&&f.offset.beq o&&(match P.underlying f.type with |some (.int k')=>decide (k=k') |_=>false)&&cL P (o+1) fs z
 |o,f::fs,.str _::z=>(f.name != "_")&&f.offset.beq o&&(match P.underlying f.type with |some .string=>true|_=>false)&&cL P (o+1) fs z
 |o,f::fs,.bool _::z=>(f.name != "_")&&f.offset.beq o&&(match P.underlying f.type with |some .bool=>true|_=>false)&&cL P (o+1) fs z
 |_,_,_=>false
def mM(P:Program)(t:TypeId)(z:Option (List CV)):Bool:=match P.underlying t,z with
 |some (.struct fs),some z=>cL P 0 fs.toList z&& !P.stoodInHeld t&& !P.eqGuardType P.depth t
 |_,_=>false
theorem s7{k k' :IntKind}{n m:Int}{as bs:List CV}{r:Bool}(h:bR (.int k n::as) (.int k' m::bs)=some r):
 (as=[]/\bs=[]/\r=(n==m))\/∃y,bR as bs=some y/\r=((n==m)&&y):=by
 unfold bR at h;split at h <;>simp_all;rcases h with ⟨h1,rfl⟩|⟨h1,rfl⟩
 ·exact .inr (.inl ⟨h1,rfl⟩)
 ·exact .inr (.inr ⟨h1,rfl⟩)
theorem s8{n m:Str}{as bs:List CV}{r:Bool}(h:bR (.str n::as) (.str m::bs)=some r):
 (as=[]/\bs=[]/\r=(n==m))\/∃y,bR as bs=some y/\r=((n==m)&&y):=by
 unfold bR at h;split at h <;>simp_all;rcases h with ⟨h1,rfl⟩|⟨h1,rfl⟩
 ·exact .inr (.inl ⟨h1,rfl⟩)
 ·exact .inr (.inr ⟨h1,rfl⟩)
theorem s0{n m:Bool}{as bs:List CV}{r:Bool}(h:bR (.bool n::as) (.bool m::bs)=some r):
 (as=[]/\bs=[]/\r=(n==m))\/∃y,bR as bs=some y/\r=((n==m)&&y):=by
 unfold bR at h;split at h <;>simp_all;rcases h with ⟨h1,rfl⟩|⟨h1,rfl⟩
 ·exact .inr (.inl ⟨h1,rfl⟩)
 ·exact .inr (.inr ⟨h1,rfl⟩)
section
variable {P:Program} {w:World} {E:Env} {bxs:Nat->Prop} {pl:Pl}
theorem qJ{e:TypeId}(he:P.plainKey e=true){xs:Array Value}{o:Nat}{v:Value}{vs:List Value}(hx:xs.toList.drop o=v::vs):(part e xs o).run P w= .ok v w:=by
 refine run_part_plain w he ?_;have:(xs.toList.drop o)[0]? =some v:=by rw [hx];rfl
 simpa using this
theorem nT{α:Type}{xs:List α}{o:Nat}{v:α}{vs:List α}(h:xs.drop o=v::vs):xs.drop (o+1)=vs:=by
 rw [<-XO,h];rfl
theorem tP(d:Nat){xs ys:Array Value}:∀ {fs:List Field} {z as bs:List CV} {o:Nat} {r:Bool} {us vs:List Value},cL P o fs z=true->bP z as=true->bP z bs=true->bR as bs=some r->
 xs.toList.drop o=us->ys.toList.drop o=vs->VRs E bxs pl o as us->VRs E bxs pl o bs vs->(Op.eqFields (d+1) xs ys fs).run P w= .ok r w:=by
 intro fs
 induction fs with
 |nil=>
  intro z as bs o r us vs h1 h2 h3 h4;cases z with
  |nil=>cases as <;>cases bs <;>simp_all [bP,bR]
  |cons z0 z=>simp [cL] at h1
 |cons f fs ih=>
  intro z as bs o r us vs h1 h2 h3 h4 hus hvs hA hB;have nilcase:∀ {z as bs:List CV},cL P (o+1) fs z=true->bP z as=true->as=[]->fs=[]:=by
   intro z as bs g1 g2 g3;subst g3;cases z with
   |nil=>cases fs <;>simp_all [cL]
   |cons z0 z=>cases z0 <;>simp [bP] at g2
  have go:∀ {t:TypeId} {u v:Value} {us' vs' :List Value} {x y:Bool} {z as bs:List CV},f.type=t->f.offset=o->f.name≠ "_" ->P.plainKey f.type=true->us=u::us' ->vs=v::vs' ->(Op.equalIn (d+1) f.type u v).run P w= .ok x w->
   cL P (o+1) fs z=true->bP z as=true->bP z bs=true->VRs E bxs pl (o+1) as us' ->VRs E bxs pl (o+1) bs vs' ->
   ((as=[]/\bs=[]/\r=x)\/∃y,bR as bs=some y/\r=(x&&y))->(Op.eqFields (d+1) xs ys (f::fs)).run P w= .ok r w:=by
   intro t u v us' vs' x y z as bs _ ho hn hp hu hv he g1 g2 g3 gA gB hr;subst hu hv;rw [Op.eqFields,Zw hn,ho];simp only [Sem.run_bind,qJ hp hus,qJ hp hvs,Result.andThen_ok,he];rcases hr with ⟨e1,_,e2⟩|⟨q,hq,rfl⟩
   ·obtain rfl:=nilcase (bs:=bs) g1 g2 e1;rw [e2];cases x <;>simp [Op.eqFields]
   ·cases x
    ·simp
    ·simp only [jU,Yg,if_false,ZN];exact ih g1 g2 g3 hq (nT hus) (nT hvs) gA gB
  cases z with
  |nil=>simp [cL] at h1
  |cons z0 z=>
   cases as with
   |nil=>cases z0 <;>simp [bP] at h2
   |cons a as=>
   cases bs with
   |nil=>cases z0 <;>simp [bP] at h3
   |cons b bs=>
   cases us with
   |nil=>exact hA.elim
   |cons u us=>
   cases vs with
   |nil=>exact hB.elim
   |cons v vs=>
   cases z0 with
   |int k n0=>
    simp only [cL,Zv,bne_iff_ne,ne_eq] at h1;obtain⟨⟨⟨g1,g2⟩,g3⟩,g4⟩:=h1;split at g3
    case h_2=>cases g3
    rename_i k' hu;have g3:=of_decide_eq_true g3;subst g3;cases a <;>simp [bP] at h2;cases b <;>simp [bP] at h3;rename_i ka na kb nb;obtain⟨rfl,h2⟩:=h2;obtain⟨rfl,h3⟩:=h3;obtain rfl:u= .int k na:=hA.1;obtain rfl:v= .int k nb:=hB.1;exact go (y:=true) rfl (Zl g2) g1 (by simp [Program.plainKey,hu]) rfl rfl (run_equalIn_int w d _ k k na nb hu) g4 h2 h3 hA.2 hB.2 (s7 h4)
   |str n0=>
    simp only [cL,Zv,bne_iff_ne,ne_eq] at h1;obtain⟨⟨⟨g1,g2⟩,g3⟩,g4⟩:=h1;split at g3
    case h_2=>cases g3
    rename_i hu;cases a <;>simp [bP] at h2;cases b <;>simp [bP] at h3;rename_i na nb;obtain⟨⟨ta,rfl,ha⟩,hA⟩:=hA;obtain⟨⟨tb,rfl,hb⟩,hB⟩:=hB;refine go (y:=true) rfl (Zl g2) g1 (by simp [Program.plainKey,hu]) rfl rfl (run_equalIn_string w d _ ta tb hu) g4 h2 h3 hA hB ?_;rw [ByteArray.toList_eq,ByteArray.toList_eq,ha,hb];exact s8 h4
   |bool n0=>
    simp only [cL,Zv,bne_iff_ne,ne_eq] at h1;obtain⟨⟨⟨g1,g2⟩,g3⟩,g4⟩:=h1;split at g3
    case h_2=>cases g3
    rename_i hu;cases a <;>simp [bP] at h2;cases b <;>simp [bP] at h3;rename_i na nb;obtain rfl:u= .bool na:=hA.1;obtain rfl:v= .bool nb:=hB.1;exact go (y:=true) rfl (Zl g2) g1 (by simp [Program.plainKey,hu]) rfl rfl (run_equalIn_bool' w d _ na nb hu) g4 h2 h3 hA.2 hB.2 (s0 h4)
   |_=>simp [cL] at h1
theorem xW{t:TypeId}{z:Option (List CV)}(h:mM P t z=true)(a b:Array Value)(w:World)(as bs:List CV)(r:Bool)(E:Env)(bxs:Nat->Prop)(pl:Pl)(hr:bR as bs=some r)
 (h1:fT z as=true) (h2:fT z bs=true) (hA:VRs E bxs pl 0 as a.toList) (hB:VRs E bxs pl 0 bs b.toList) (op:BinOp) (hop:op= .eql\/op= .neq) (x y:Operand):
 (do eqGuard op t x y (.agg a) (.agg b);binOp op t (.agg a) (.agg b):Sem Value).run P w= .ok (.bool (if op= .eql then r else !r)) w:=by
 unfold mM at h;split at h
 case h_2=>cases h
 rename_i fs z hu;simp only [Zv,ZD] at h;obtain⟨⟨g1,g2⟩,g3⟩:=h;have hf:P.fieldsOf t=fs:=by unfold Program.fieldsOf;rw [hu]
 have e:(Op.equalIn 10000 t (.agg a) (.agg b)).run P w= .ok r w:=by
  rw [run_equalIn_agg w 9999 t a b (by rw [hf];exact hu) g2,hf];exact tP 9998 g1 h1 h2 hr rfl rfl hA hB
 simp only [Sem.run_bind,run_eqGuard_agg w op t x y a b g3,Result.andThen_ok];rcases hop with rfl|rfl
 ·rw [run_eql_struct,e];rfl
 ·rw [run_neq_struct,e];rfl
end
end Go.Ab
end
section
namespace Go.Ab
variable [Inhabited Lb]
def dX(P:Program):List Field->List Nat->List Nat->Bool
 | [],[],[]=>true
 |fl::fs,p::ps,n::ns=>(match P.info? fl.type with
  |some j=>fl.offset.beq p&&j.size.beq n&& !(n.beq 0)
  |none=>false)&&dX P fs ps ns
 |_,_,_=>false
def mQ(P:Program)(t:TypeId)(i:TI):Bool:=
 match P.info? t,P.underlying t with
 |some ti,some d=>ti.size.beq i.sz&&((match d with | .struct _=>true| .array _ _=>true|_=>false)==i.agg)&&(i.agg||i.sz.beq 1)&&
  (match i.zero with
    |none=>true
    |some z=>match ti.zero with
     |some v=>bB z v.cells.toList
     |none=>false)&&
  (match d with
    | .struct fs=>dX P fs.toList i.offs i.fsz
    |_=>i.offs.isEmpty&& !(i.agg&&i.zero.isSome))&&
  (match i.elem with
    |none=>true
    |some (e,T)=>(match d with
     | .slice e' =>e'.beq e&&(match P.info? e with
       |some te=>te.size.beq T.sz&&Nat.blt 0 te.bytes&&te.bytes.ble 256&&(match te.zero with
        |some v=>bB (T.enc .own T.dflt) v.cells.toList
        |none=>false)
       |none=>false)&&(match T with
        | .byte=>(match P.underlying e with |some (.int .u8)=>true|_=>false)
        |_=>true)
     |_=>false))&&
  (match i.ik with
    |none=>true
    |some k=>match d with | .int k' =>decide (k' =k) |_=>false)&&
  (!i.isStr||match d with | .string=>true|_=>false)&&(!i.isBool||match d with | .bool=>true|_=>false)&&(!i.isFn||match d with | .func _ _ _=>true|_=>false)&&(!i.same||mM P t i.zero)
 |_,_=>false
theorem oC{P:Program}:∀ {fs:List Field} {ps ns:List Nat},dX P fs ps ns=true->ps.length=ns.length/\fs.mapM (fun f=>(P.info? f.type).map fun j=>(f.offset,j.size))=some (ps.zip ns)/\
 ∀(f p:Nat),ps[f]? =some p->∃(fl:Field) (tj:TypeInfo),fs[f]? =some fl/\fl.offset=p/\P.info? fl.type=some tj/\tj.size≠0/\ns[f]? =some tj.size:=by
 intro fs
 induction fs with
 |nil=>
  intro ps ns h;cases ps <;>cases ns <;>simp_all [dX]
 |cons fl fs ih=>
  intro ps ns h;cases ps with
  |nil=>simp [dX] at h
  |cons p ps=>
   cases ns with
   |nil=>simp [dX] at h
   |cons n ns=>
    simp only [dX,Zv] at h;obtain⟨h1,h2⟩:=h;obtain⟨i1,i2,i3⟩:=ih h2;split at h1
    ·rename_i j hj;simp only [Zv,ZD] at h1;obtain⟨⟨a1,a2⟩,a3⟩:=h1;obtain rfl:=Zl a1;obtain rfl:=Zl a2;refine⟨by simp [i1],by simp [List.mapM_cons,hj,i2],fun f p hp=> ?_⟩;cases f with
     |zero=>
      simp at hp;subst hp;refine⟨fl,j,rfl,rfl,hj,fun e=> ?_,rfl⟩;rw [e] at a3;simp at a3
     |succ f=>
      obtain⟨fl',tj,g1,g2,g3,g4,g5⟩:=i3 f p (by simpa using hp);exact⟨fl',tj,by simpa using g1,g2,g3,g4,by simpa using g5⟩
    ·cases h1
theorem yK{P:Program}{t:TypeId}{i:TI}(h:mQ P t i=true):TIok P t i:=by
 unfold mQ at h;split at h
 case h_2=>cases h
 rename_i ti d h1 h2;simp only [Zv] at h;obtain⟨⟨⟨⟨⟨⟨⟨⟨⟨⟨a1,a2⟩,a3⟩,a4⟩,a5⟩,a6⟩,a7⟩,a8⟩,a9⟩,a9f⟩,a10⟩:=h;have hfields:i.offs=[]/\¬(i.agg=true/\∃z,i.zero=some z)\/∃fs:Array Field,d= .struct fs/\dX P fs.toList i.offs i.fsz=true:=by
  split at a5
  ·exact .inr ⟨_,rfl,a5⟩
  ·rw [Zv] at a5;refine .inl ⟨by simpa using a5.1,fun⟨g1,z,g2⟩=> ?_⟩;have:=a5.2;rw [g1,g2] at this;cases this
 refine⟨⟨ti,d,h1,Zl a1,h2,by have:=eq_of_beq a2;cases d <;>exact this,fun hg=> ?_,fun z hz=> ?_⟩,?_,fun z hz hg=> ?_,fun e T he=> ?_,fun e he=> ?_,fun k hk=> ?_,fun hs=> ?_,fun hb=> ?_,fun hf=> ?_,fun hs=> ?_⟩
 ·rw [hg] at a3;exact Zl a3
 ·rw [hz] at a4;simp only at a4;split at a4
  ·rename_i v hv;exact⟨v,hv,a4⟩
  ·cases a4
 ·rcases hfields with ⟨h,_⟩|⟨fs,rfl,h⟩
  ·exact .inl h
  ·obtain⟨_,_,g⟩:=oC h;refine .inr ⟨fs,h2,fun f p hp=> ?_⟩;obtain⟨fl,tj,g1,g2,g3,g4,g5⟩:=g f p hp;exact⟨fl,tj,by rw [<-ZY];exact g1,g2,g3,g4,g5⟩
 ·rcases hfields with ⟨_,h⟩|⟨fs,rfl,h⟩
  ·exact absurd ⟨hg,z,hz⟩ h
  ·obtain⟨g0,g,_⟩:=oC h;refine⟨fs,_,h2,g,fun f p n hp hn=> ?_⟩;rw [Xs];exact⟨hp,hn⟩
 ·rw [he] at a6;simp only at a6;split at a6
  ·rename_i e';simp only [Zv] at a6;obtain⟨⟨b1,b2⟩,b3⟩:=a6;obtain rfl:=Zl b1;split at b2
   ·rename_i te hte;simp only [Zv] at b2;obtain⟨⟨⟨c1,c2⟩,c3⟩,c4⟩:=b2;split at c4
    ·rename_i v hv;exact⟨h2,te,v,hte,Zl c1,XQ.mp c2,Xg c3,hv,c4⟩
    ·cases c4
   ·cases b2
  ·cases a6
 ·rw [he] at a6;simp only at a6;split at a6
  ·simp only [Zv] at a6;obtain⟨_,b3⟩:=a6;split at b3
   ·assumption
   ·cases b3
  ·cases a6
 ·rw [hk] at a7;simp only at a7;split at a7
  ·rename_i k';have:=of_decide_eq_true a7;subst this;exact h2
  ·cases a7
 ·rw [hs] at a8;simp only [jU,ZE] at a8;split at a8
  ·exact h2
  ·cases a8
 ·rw [hb] at a9;simp only [jU,ZE] at a9;split at a9
  ·exact h2
  ·cases a9
 ·rw [hf] at a9f;simp only [jU,ZE] at a9f;split at a9f
  ·exact⟨_,_,_,h2⟩
  ·cases a9f
 ·rw [hs] at a10;exact xW (by simpa using a10)
def yR(P:Program)(tt:TT):Bool:=tt.all fun x=>mQ P x.1 x.2
theorem zAs{P:Program}{tt:TT}(h:yR P tt=true):aO P tt:=by
 intro t i hi;have key:∀tt:TT,tt.get t=some i->(t,i)∈tt:=by
  intro tt
  induction tt with
  |nil=>intro h;cases h
  |cons x r ih=>
   intro h;obtain⟨k,v⟩:=x;simp only [TT.get] at h;cases hk:k.beq t with
   |true=>
    rw [hk] at h;obtain rfl:=Zl hk;cases h;exact Zp
   |false=>rw [hk] at h;exact Zq _ (ih h)
 exact yK (Zu.1 h _ (key tt hi))
end Go.Ab
end
section
namespace Go.Ab
variable [Inhabited Lb]
theorem zAk{α:Type}{p:Prop} [Decidable p]{x:Option α}{r:α}(h:(if p then x else none)=some r):p/\x=some r:=by
 by_cases hp:p
 ·rw [Zw hp] at h;exact⟨hp,h⟩
 ·rw [Zf hp] at h;cases h
theorem zAf{α β:Type}{o:Option α}{f:α->Option β}{r:β}(h:Option.bind o f=some r):∃a,o=some a/\f a=some r:=Zm.1 h
theorem zAh{α:Type}{b:Bool}{x y:Option α}{r:α}(h:cond b x y=some r):(b=true/\x=some r)\/(b=false/\y=some r):=by
 cases b with
 |true=>exact .inl ⟨rfl,h⟩
 |false=>exact .inr ⟨rfl,h⟩
theorem zAo{x b:Bool}(h:x=b):(!x)= !b:=by rw [h]
theorem zAq{x b:Bool}(h:(!x)=b):x= !b:=by rw [<-h,Bool.not_not]
theorem zAi{x c d:Int}(h:(x==c)=true)(hcd:(c==d)=false):(x==d)=false:=by rw [eq_of_beq h];exact hcd
theorem zAp{p:Prop}{l:List Prop}(h:p)(t:∀q∈l,q):∀q∈p::l,q:=by
 intro q hq;rcases Zo.1 hq with rfl|hq
 ·exact h
 ·exact t q hq
end Go.Ab
end
section
namespace Go.Ab
variable [Inhabited Lb]
open Go.ChangeShapes Go.WideShapes Go.ChangeAt Go.RowKit
inductive CK where
 |int (k:IntKind) |bool|str|sl (e:TypeId)
def cU(P:Program):Nat->TypeId->Option (List CK)
 |0,_=>none
 |d+1,t=>match P.underlying t with
  |some (.int k)=>some [.int k]
  |some .bool=>some [.bool]
  |some .string=>some [.str]
  |some (.slice e)=>some [.sl e]
  |some (.struct fs)=>kindsFs (fun t=>cU P d t) fs.toList
  |_=>none
where kindsFs (f:TypeId->Option (List CK)):List Field->Option (List CK)
 | []=>some []
 |fl::fs=>match f fl.type,kindsFs f fs with
  |some a,some b=>some (a++b)
  |_,_=>none
def jX(P:Program)(f:TypeId->Option (List CK)):Nat->List Field->Bool
 |_,[]=>true
 |o,fl::fs=>match f fl.type with
  |some a=>fl.offset.beq o&&(P.cellsOf fl.type).beq a.length&&jX P f (o+a.length) fs
  |none=>false
def eU(P:Program):Nat->TypeId->Bool
 |0,_=>false
 |d+1,t=>match P.underlying t with
  |some (.struct fs)=>jX P (fun t=>cU P d t) 0 fs.toList&&fs.toList.all (fun fl=>eU P d fl.type)&&match cU.kindsFs (fun t=>cU P d t) fs.toList with
    |some ks=>(P.cellsOf t).beq ks.length
    |none=>false
  |some _=>(P.cellsOf t).beq 1
  |none=>false
def Ty.kinds:Ty->List (CK ⊕ Ty)
 | .int=> [.inl (.int .i64)]
 | .byte=> [.inl (.int .u8)]
 | .str=> [.inl .str]
 | .org=> [.inl (.int .i64),.inl (.int .i64)]
 | .row=> [.inr .int,.inr .org]
 | .val=> [.inl (.int .i64),.inl (.int .i64),.inl (.int .i64),.inl .str,.inr .val,.inr .str,.inr .row]
 | .exp=> [.inl (.int .i64),.inl (.int .i64),.inl .str,.inr .exp]
 | .fil=> [.inl .str,.inl (.int .i64)]
 | .tok=> [.inl (.int .i64),.inl (.int .i64),.inl (.int .i64),.inl .str]
 | .rea=> [.inl (.int .i64),.inl (.int .i64),.inl (.int .i64),.inl .str,.inl (.int .i64),.inl (.int .i64),.inl (.int .i64),.inl .str,.inr .val,.inr .str,.inr .row]
 | .bnd=> [.inl .str,.inl (.int .i64),.inl (.int .i64),.inl (.int .i64),.inl .str,.inr .val,.inr .str,.inr .row]
 | .cel=> [.inl (.int .i64),.inl (.int .i64),.inl (.int .i64),.inl .str,.inl .str,.inl (.int .i64)]
abbrev KT:=List (TypeId×Ty)
def KT.get:KT->TypeId->Option Ty
 | [],_=>none
 |(k,v)::r,q=>cond (k.beq q) (some v) (KT.get r q)
def CK.name(K:KT):CK->Option (CK ⊕ Ty)
 | .sl e=>(K.get e).map .inr
 |k=>some (.inl k)
def cK(K:KT):List CK->Option (List (CK ⊕ Ty))
 | []=>some []
 |k::ks=>match k.name K,cK K ks with
  |some a,some b=>some (a::b)
  |_,_=>none
def kZ:CK ⊕ Ty->CK ⊕ Ty->Bool
 | .inl (.int k),.inl (.int k')=>decide (k=k')
 | .inl .bool,.inl .bool=>true
 | .inl .str,.inl .str=>true
 | .inr T,.inr U=>decide (T=U)
 |_,_=>false
def gL:List (CK ⊕ Ty)->List (CK ⊕ Ty)->Bool
 | [],[]=>true
 |a::as,b::bs=>kZ a b&&gL as bs
 |_,_=>false
def gV(P:Program)(K:KT):Bool:=K.all fun x=>eU P 8 x.1&&(P.cellsOf x.1).beq x.2.sz&&match cU P 8 x.1 with
 |some ks=>match cK K ks with
  |some ns=>gL ns x.2.kinds
  |none=>false
 |none=>false
theorem tA{a b:CK ⊕ Ty}(h:kZ a b=true):a=b:=by
 unfold kZ at h;split at h <;>first |(have:=of_decide_eq_true h;subst this;rfl) |rfl|cases h
theorem k9:∀ {a b:List (CK ⊕ Ty)},gL a b=true->a=b
 | [],[],_=>rfl
 |a::as,b::bs,h=>by
  simp only [gL,Zv] at h;rw [tA h.1,k9 h.2]
theorem KT.mem{K:KT}{e:TypeId}{T:Ty}(h:K.get e=some T):(e,T)∈K:=by
 induction K with
 |nil=>cases h
 |cons x r ih=>
  obtain⟨k,v⟩:=x;simp only [KT.get] at h;cases hk:k.beq e with
  |true=>
   rw [hk] at h;obtain rfl:=Zl hk;cases h;exact Zp
  |false=>rw [hk] at h;exact Zq _ (ih h)
def CV.isOf:CV->CK ⊕ Ty->Prop
 | .int k _,.inl (.int k')=>k=k'
 | .bool _,.inl .bool=>True
 | .str _,.inl .str=>True
 | .sl .ro T _,.inr U=>T=U
 |_,_=>False
inductive AreOf:List CV->List (CK ⊕ Ty)->Prop where
 |nil:AreOf [] []
 |cons {c k cs ks} (h:CV.isOf c k) (t:AreOf cs ks):AreOf (c::cs) (k::ks)
theorem AreOf.app{a b:List CV}{x y:List (CK ⊕ Ty)}(h:AreOf a x)(h' :AreOf b y):AreOf (a++b) (x++y):=by
 induction h with
 |nil=>exact h'
 |cons h _ ih=>exact .cons h ih
theorem vD{c:CV}{k:IntKind}(h:c.isOf (.inl (.int k))):∃n,c= .int k n:=by
 cases c with
 |int k' n=>obtain rfl:k' =k:=h;exact⟨n,rfl⟩
 |sl f T xs=>cases f <;>exact h.elim
 |_=>exact h.elim
theorem vF{c:CV}(h:c.isOf (.inl .str)):∃s,c= .str s:=by
 cases c with
 |str b=>exact⟨b,rfl⟩
 |sl f T xs=>cases f <;>exact h.elim
 |_=>exact h.elim
theorem vE{c:CV}{T:Ty}(h:c.isOf (.inr T)):∃xs,c= .sl .ro T xs:=by
 cases c with
 |sl f U xs=>
  cases f with
  |ro=>obtain rfl:U=T:=h;exact⟨xs,rfl⟩
  |_=>exact h.elim
 |_=>exact h.elim
theorem AreOf.int_inv{cs:List CV}{k:IntKind}{ks:List (CK ⊕ Ty)}(h:AreOf cs (.inl (.int k)::ks)):∃n r,cs= .int k n::r/\AreOf r ks:=by
 cases h with |cons h t=>obtain⟨n,rfl⟩:=vD h;exact⟨n,_,rfl,t⟩
theorem AreOf.str_inv{cs:List CV}{ks:List (CK ⊕ Ty)}(h:AreOf cs (.inl .str::ks)):∃s r,cs= .str s::r/\AreOf r ks:=by
 cases h with |cons h t=>obtain⟨n,rfl⟩:=vF h;exact⟨n,_,rfl,t⟩
theorem AreOf.sl_inv{cs:List CV}{T:Ty}{ks:List (CK ⊕ Ty)}(h:AreOf cs (.inr T::ks)):∃xs r,cs= .sl .ro T xs::r/\AreOf r ks:=by
 cases h with |cons h t=>obtain⟨n,rfl⟩:=vE h;exact⟨n,_,rfl,t⟩
theorem AreOf.nil_inv{cs:List CV}(h:AreOf cs []):cs=[]:=by cases h;rfl
theorem AreOf.elem{T:Ty}{cs:List CV}(h:AreOf cs T.kinds):∃y:T.den,cs=T.enc .ro y:=by
 cases T with
 |int=>obtain⟨n,_,rfl,h1⟩:=AreOf.int_inv h;obtain rfl:=h1.nil_inv;exact⟨n,rfl⟩
 |byte=>obtain⟨n,_,rfl,h1⟩:=AreOf.int_inv h;obtain rfl:=h1.nil_inv;exact⟨n,rfl⟩
 |str=>obtain⟨n,_,rfl,h1⟩:=AreOf.str_inv h;obtain rfl:=h1.nil_inv;exact⟨n,rfl⟩
 |org=>obtain⟨a,_,rfl,h1⟩:=AreOf.int_inv h;obtain⟨b,_,rfl,h2⟩:=AreOf.int_inv h1;obtain rfl:=h2.nil_inv;exact⟨(⟨a,b⟩:Org),rfl⟩
 |row=>obtain⟨a,_,rfl,h1⟩:=AreOf.sl_inv h;obtain⟨b,_,rfl,h2⟩:=AreOf.sl_inv h1;obtain rfl:=h2.nil_inv;exact⟨(⟨a,b⟩:Rowd),rfl⟩
 |val=>
  obtain⟨a,_,rfl,h1⟩:=AreOf.int_inv h;obtain⟨b,_,rfl,h2⟩:=AreOf.int_inv h1;obtain⟨c,_,rfl,h3⟩:=AreOf.int_inv h2;obtain⟨d,_,rfl,h4⟩:=AreOf.str_inv h3;obtain⟨e,_,rfl,h5⟩:=AreOf.sl_inv h4;obtain⟨f,_,rfl,h6⟩:=AreOf.sl_inv h5;obtain⟨g,_,rfl,h7⟩:=AreOf.sl_inv h6;obtain rfl:=h7.nil_inv;exact⟨Val.mk a b c d e f g,rfl⟩
 |exp=>
  obtain⟨a,_,rfl,h1⟩:=AreOf.int_inv h;obtain⟨b,_,rfl,h2⟩:=AreOf.int_inv h1;obtain⟨d,_,rfl,h3⟩:=AreOf.str_inv h2;obtain⟨e,_,rfl,h4⟩:=AreOf.sl_inv h3;obtain rfl:=h4.nil_inv;exact⟨Exp.mk a b d e,rfl⟩
 |fil=>obtain⟨a,_,rfl,h1⟩:=AreOf.str_inv h;obtain⟨b,_,rfl,h2⟩:=AreOf.int_inv h1;obtain rfl:=h2.nil_inv;exact⟨(⟨a,b⟩:Fil),rfl⟩
 |tok=>
  obtain⟨a,_,rfl,h1⟩:=AreOf.int_inv h;obtain⟨b,_,rfl,h2⟩:=AreOf.int_inv h1;obtain⟨c,_,rfl,h3⟩:=AreOf.int_inv h2;obtain⟨d,_,rfl,h4⟩:=AreOf.str_inv h3;obtain rfl:=h4.nil_inv;exact⟨(⟨a,b,c,d⟩:Tok),rfl⟩
 |rea=>
  obtain⟨k,_,rfl,h1⟩:=AreOf.int_inv h;obtain⟨n,_,rfl,h2⟩:=AreOf.int_inv h1;obtain⟨m,_,rfl,h3⟩:=AreOf.int_inv h2;obtain⟨s,_,rfl,h4⟩:=AreOf.str_inv h3;obtain⟨a,_,rfl,h5⟩:=AreOf.int_inv h4;obtain⟨b,_,rfl,h6⟩:=AreOf.int_inv h5;obtain⟨c,_,rfl,h7⟩:=AreOf.int_inv h6;obtain⟨d,_,rfl,h8⟩:=AreOf.str_inv h7;obtain⟨e,_,rfl,h9⟩:=AreOf.sl_inv h8;obtain⟨f,_,rfl,h10⟩:=AreOf.sl_inv h9;obtain⟨g,_,rfl,h11⟩:=AreOf.sl_inv h10;obtain rfl:=h11.nil_inv;exact⟨(⟨k,n,m,s,Val.mk a b c d e f g⟩:Rea),rfl⟩
 |bnd=>
  obtain⟨s,_,rfl,h1⟩:=AreOf.str_inv h;obtain⟨a,_,rfl,h2⟩:=AreOf.int_inv h1;obtain⟨b,_,rfl,h3⟩:=AreOf.int_inv h2;obtain⟨c,_,rfl,h4⟩:=AreOf.int_inv h3;obtain⟨d,_,rfl,h5⟩:=AreOf.str_inv h4;obtain⟨e,_,rfl,h6⟩:=AreOf.sl_inv h5;obtain⟨f,_,rfl,h7⟩:=AreOf.sl_inv h6;obtain⟨g,_,rfl,h8⟩:=AreOf.sl_inv h7;obtain rfl:=h8.nil_inv;exact⟨(⟨s,Val.mk a b c d e f g⟩:Bnd),rfl⟩
 |cel=>
  obtain⟨a,_,rfl,h1⟩:=AreOf.int_inv h;obtain⟨b,_,rfl,h2⟩:=AreOf.int_inv h1;obtain⟨c,_,rfl,h3⟩:=AreOf.int_inv h2;obtain⟨d,_,rfl,h4⟩:=AreOf.str_inv h3;obtain⟨e,_,rfl,h5⟩:=AreOf.str_inv h4;obtain⟨f,_,rfl,h6⟩:=AreOf.int_inv h5;obtain rfl:=h6.nil_inv;exact⟨(⟨a,b,c,d,e,f⟩:Cel),rfl⟩
def eL(W:World)(b:Nat):Nat:=match W.heap[b]? with |some (.cells cs _ _)=>cs.size|_=>0
def c7(W:World):Env:= { w:=W,hw:=eL W,ow:=fun _=>none,bx:=fun _=>0,hdr:=fun _=>undef }
theorem tO(W:World):EnvOk (c7 W):=by
 refine⟨fun b hb=>⟨rfl,?_⟩,(by intro b b' l h;cases h),(by intro b s h;cases h)⟩;show eL W b=0;unfold eL;have:W.heap[b]? =none:=Yr hb;rw [this]
theorem sZ{W:World}{b o:Nat}{v:Value}(h:W.cell? ⟨b,o,none⟩=some v):o<eL W b:=by
 unfold World.cell? at h;unfold eL;cases hb:W.heap[b]? with
 |none=>rw [hb] at h;simp at h
 |some x=>
  cases x with
  |cells cs t fr=>
   rw [hb] at h;simp at h;obtain⟨hlt,_⟩:=Zg.1 h;exact hlt
  |_=>rw [hb] at h;simp at h
inductive DFit:D->Prop where
 |int {k n} (h:(Lit.int k n).wf=true):DFit (.int k n)
 |bool (b):DFit (.bool b)
 |str {s:Str} (h:s.length<=maxLen):DFit (.str s)
 |sl {sz rows} (h:rows.length<=maxLen) (hr:∀r∈rows,∀x∈r,DFit x):DFit (.sl sz rows)
section
variable {H:Type} {enc:TypeId×Value->H} {P:Program} {W:World} {base:Nat} {spare:Nat->Bool} {held:Bool} {K:KT}
def kN(enc:TypeId×Value->H)(P:Program)(W:World)(base:Nat)(spare:Nat->Bool)(held:Bool)(K:KT)(n:Nat):Prop:=
 ∀(e:TypeId) (T:Ty),K.get e=some T->∀(m:Nat) (cs:List Value) (x:DataW H×List MemPlace),m<n->DataW.trod enc P W base spare held m e cs=some x->
  ∃y:T.den,(∀d∈T.toD y,DFit d)/\∀pl c,VRs (c7 W) aJ pl c (T.enc .ro y) cs
theorem yD(hK:gV P K=true){n:Nat}(ih:kN enc P W base spare held K n){t e:TypeId}{T:Ty}(ht:P.underlying t=some (.slice e))(hT:K.get e=some T){cs:List Value}{x:DataW H×List MemPlace}{m:Nat}(hm:m<=n)
 (h:DataW.trod enc P W base spare held m t cs=some x):∃v xs,cs=[v]/\DFit (.sl T.sz (xs.map T.toD))/\∀pl c,VRc (c7 W) aJ pl c (.sl .ro T xs) v:=by
 have hsz:P.cellsOf e=T.sz:=by
  have:=Zu.1 hK _ (KT.mem hT);simp only [Zv] at this;exact Zl this.1.2
 rcases DataW.trod_slice ht h with ⟨rfl,_⟩|⟨a,len,cap,elems,rest,m',rfl,rfl,_,hb,hl,hcap,hel,hat,_⟩
 ·exact⟨_,[],rfl,.sl (Z9 _) (by simp),fun pl c=>RdP.nil none 0 T.sz trivial⟩
 ·
  have hex:∀i,i<len->∃(cs:List Value) (y:T.den),W.cells? base (a.add (i*T.sz)) T.sz=some cs/\(∀d∈T.toD y,DFit d)/\∀pl c,VRs (c7 W) aJ pl c (T.enc .ro y) cs:=by
   intro i hi;have h1:=hat i hi;rw [Zx (by omega),Zm] at h1;obtain⟨cs,h2,h3⟩:=h1;obtain⟨y,hy⟩:=ih e T hT m' cs _ (by omega) h3;rw [hsz] at h2;exact⟨cs,y,h2,hy⟩
  by_cases h0:len=0
  ·subst h0;exact⟨_,[],rfl,.sl (Z9 _) (by simp),fun pl c=>RdP.nil (some a) cap T.sz trivial⟩
  ·have hpos:=Ty.sz_pos T;have hspot:a.spot=none:=by
    obtain⟨cs,y,h2,_⟩:=hex 0 (by omega);rw [X8] at h2;unfold World.cells? at h2;split at h2
    ·have h3:=mapM_some_get h2 0 0 (by simp [hpos]);have:(a.add 0).add 0=a:=by simp [Addr.add]
     rw [this] at h3;have h4:∃v,W.cell? a=some v:=by
      cases hc:W.cell? a with
      |some v=>exact⟨v,rfl⟩
      |none=>
       rw [hc] at h3;have hlen:=mapM_some_length h2;rw [X1] at hlen;rw [Zx (by omega)] at h3;cases h3
     obtain⟨v,hv⟩:=h4;unfold World.cell? at hv;split at hv
     ·split at hv
      ·cases hv
      ·rename_i h;simpa using h
     ·cases hv
    ·cases h2
   obtain⟨ab,ao,asp⟩:=a;dsimp only at hspot;subst hspot
   let ys:List T.den:=(List.range len).map fun i=>if hi:i<len then(Classical.choose (YS (hex i hi))) else T.dflt
   have hysl:ys.length=len:=by simp [ys]
   have hys:∀i (hi:i<len),∃cs:List Value,W.cells? base ((⟨ab,ao,none⟩:Addr).add (i*T.sz)) T.sz=some cs/\(∀d∈T.toD (ys[i]'(by omega)),DFit d)/\∀pl c,VRs (c7 W) aJ pl c (T.enc .ro (ys[i]'(by omega))) cs:=by
    intro i hi;have hsp:=YS (YS (hex i hi));refine⟨Classical.choose (hex i hi),hsp.1,?_⟩;have:ys[i]'(by omega)=Classical.choose (YS (hex i hi)):=by simp [ys,hi]
    rw [this];exact hsp.2
   refine⟨_,ys,rfl,.sl (by rw [Zr,hysl];omega) (fun r hr x hx=> ?_),fun pl c=> ?_⟩
   ·obtain⟨y,hy,rfl⟩:=Zk.1 hr;obtain⟨i,hi,rfl⟩:=List.getElem_of_mem hy;obtain⟨_,_,h2,_⟩:=hys i (by omega);exact h2 x hx
   have hcell:∀i j,i<len->j<T.sz->∃v,W.cell? ⟨ab,ao+i*T.sz+j,none⟩=some v/\∀(hi:i<len),∃x:CV,(T.enc .ro (ys[i]'(by omega)))[j]? =some x/\VRc (c7 W) aJ pl c x v:=by
    intro i j hi hj;obtain⟨cs,h1,_,h2⟩:=hys i hi;unfold World.cells? at h1;split at h1
    ·have h3:=mapM_some_get h1 j j (by simp [hj]);have hlen:=mapM_some_length h1;rw [X1] at hlen;have ha:((⟨ab,ao,none⟩:Addr).add (i*T.sz)).add j=⟨ab,ao+i*T.sz+j,none⟩:=by rw [dF,dF]
     rw [ha,Zx (by omega)] at h3;refine⟨_,h3,fun _=> ?_⟩;have hl2:j<(T.enc .ro (ys[i]'(by omega))).length:=by rw [Ty.enc_length];exact hj
     refine⟨_,Zx hl2,?_⟩;have hv:=aZ (h2 pl 0) (Zx hl2) (Zx (by omega:j<cs.length));have hown:((T.enc .ro (ys[i]'(by omega)))[j]).owning=false:=by
      rcases fG .ro T _ _ (Z4 hl2) with ⟨k,n,e⟩|⟨s,e⟩|⟨U,zs,e⟩ <;>rw [e] <;>try rfl
     exact VRc.any hown hv
    ·cases h1
   show RdP W _ _ _ (.sl T.sz (ys.map T.toD));refine RdP.sl ab ao len cap T.sz (ys.map T.toD) (fun i j=>(W.cell? ⟨ab,ao+i*T.sz+j,none⟩).getD undef) (by simp [hysl]) hl (fun r hr=> ?_) trivial (fun i j hi hj=> ?_) (fun i j hi hj=> ?_)
   ·obtain⟨y,_,rfl⟩:=Zk.1 hr;exact Ty.toD_length T y
   ·obtain⟨v,hv,_⟩:=hcell i j hi hj;rw [hv];exact⟨rfl,sZ hv,rfl⟩
   ·have hi2:i<len:=by simpa [hysl] using hi
    have hj2:j<T.sz:=by rw [Z7,Ty.toD_length] at hj;exact hj
    obtain⟨v,hv,hx⟩:=hcell i j hi2 hj2;obtain⟨x,hx1,hx2⟩:=hx hi2;rw [hv];have e:((ys.map T.toD)[i]'hi)[j]=x.toD:=by
     have:((ys.map T.toD)[i]'hi)[j]? =some x.toD:=by
      rw [Z7,<-Ty.enc_toD .ro,Zn,hx1];rfl
     exact(Zt.1 this).2
    rw [e];rcases fG .ro T _ _ (Zs hx1) with ⟨k,n,rfl⟩|⟨s,rfl⟩|⟨U,zs,rfl⟩
    ·obtain rfl:v=_:=hx2;exact .int k n
    ·obtain⟨t,rfl,rfl⟩:=hx2;exact .str t
    ·have hro:∃g,CV.sl g U zs= .sl .ro U zs/\True:=⟨.ro,rfl,trivial⟩;exact RdP.mono hx2 (fun p b o ho=>⟨rfl,ho⟩) (fun _ _ _ _=>trivial)
theorem pF:∀ {a b:List CK} {ns:List (CK ⊕ Ty)},cK K (a++b)=some ns->∃na nb,ns=na++nb/\cK K a=some na/\cK K b=some nb
 | [],b,ns,h=>⟨[],ns,rfl,rfl,h⟩
 |k::a,b,ns,h=>by
  simp only [jO,cK] at h;split at h
  ·rename_i x r hx hr;obtain⟨na,nb,rfl,h1,h2⟩:=pF hr;cases h;exact⟨x::na,nb,rfl,by simp only [cK,hx,h1],h2⟩
  ·cases h
theorem kA{k:CK}{ns:List (CK ⊕ Ty)}(h:cK K [k]=some ns):∃n,k.name K=some n/\ns=[n]:=by
 simp only [cK] at h;split at h
 ·rename_i x r hx hr;cases hr;cases h;exact⟨x,hx,rfl⟩
 ·cases h
def Rds(W:World)(ns:List (CK ⊕ Ty))(cs:List Value):Prop:=
 ∃zs:List CV,AreOf zs ns/\(∀z∈zs,DFit z.toD)/\∀pl c,VRs (c7 W) aJ pl c zs cs
theorem Rds.one{n:CK ⊕ Ty}{z:CV}{v:Value}(h:z.isOf n)(hf:DFit z.toD)(hv:∀pl c,VRc (c7 W) aJ pl c z v):Rds W [n] [v]:=
 ⟨[z],.cons h .nil,by simpa using hf,fun pl c=>⟨hv pl c,trivial⟩⟩
theorem Rds.app{a b:List (CK ⊕ Ty)}{cs ds:List Value}(h:Rds W a cs)(h' :Rds W b ds):Rds W (a++b) (cs++ds):=by
 obtain⟨x,h1,h2,h3⟩:=h;obtain⟨y,g1,g2,g3⟩:=h';exact⟨x++y,h1.app g1,fun z hz=>(Za.1 hz).elim (h2 z) (g2 z),fun pl c=>rL (h3 pl c) (g3 pl _)⟩
theorem oN{f:TypeId->Option (List CK)}{ok:TypeId->List Value->Prop}{cs:List Value}(hok:∀t ks ns ds,f t=some ks->cK K ks=some ns->ok t ds->Rds W ns ds):
 ∀(fl:List Field) (o:Nat) (ks:List CK) (ns:List (CK ⊕ Ty)),jX P f o fl=true->cU.kindsFs f fl=some ks->cK K ks=some ns->(∀fd∈fl,ok fd.type ((cs.drop fd.offset).take (P.cellsOf fd.type)))->o+ks.length=cs.length->Rds W ns (cs.drop o)
 | [],o,ks,ns,_,hk,hn,_,hl=>by
   cases hk;cases hn;rw [List.drop_of_length_le (by simp at hl;omega)];exact⟨[],.nil,by simp,fun _ _=>trivial⟩
 |fd::fl,o,ks,ns,hlaid,hk,hn,hall,hl=>by
  simp only [cU.kindsFs] at hk;simp only [jX] at hlaid;split at hk
  ·rename_i a b ha hb;cases hk;rw [ha] at hlaid;simp only [Zv] at hlaid;obtain⟨⟨h1,h2⟩,h3⟩:=hlaid;have h1:=Zl h1;have h2:=Zl h2;obtain⟨na,nb,rfl,hna,hnb⟩:=pF hn;have hhd:=hok _ _ _ _ ha hna (hall fd Zp);have htl:=oN hok fl (o+a.length) b nb h3 hb hnb (fun x hx=>hall x (Zq _ hx)) (by rw [jA] at hl;omega);rw [h1,h2] at hhd;have:=hhd.app htl
   rwa [<-XO,List.take_append_drop] at this
  ·cases hk
theorem oS(hK:gV P K=true){n:Nat}(ih:kN enc P W base spare held K n):∀(d:Nat) (t:TypeId) (ks:List CK) (ns:List (CK ⊕ Ty)) (cs:List Value) (x:DataW H×List MemPlace) (m:Nat),m<=n->
 cU P d t=some ks->eU P d t=true->cK K ks=some ns->DataW.trod enc P W base spare held m t cs=some x->Rds W ns cs:=by
 intro d
 induction d with
 |zero=>intro t ks ns cs x m _ h;cases h
 |succ d ihd=>
  intro t ks ns cs x m hm hk hlaid hn h;simp only [cU] at hk;split at hk
  ·rename_i k hu;cases hk;obtain⟨_,hnm,rfl⟩:=kA hn;cases hnm;obtain⟨v,rfl,_,hwf⟩:=DataW.trod_int hu h;exact Rds.one (z:= .int k v) rfl (.int hwf) (fun _ _=>rfl)
  ·rename_i hu;cases hk;obtain⟨_,hnm,rfl⟩:=kA hn;cases hnm;obtain⟨v,rfl,_⟩:=DataW.trod_bool hu h;exact Rds.one (z:= .bool v) trivial (.bool v) (fun _ _=>rfl)
  ·rename_i hu;cases hk;obtain⟨_,hnm,rfl⟩:=kA hn;cases hnm;obtain⟨v,rfl,_,hl⟩:=DataW.trod_string hu h;exact Rds.one (z:= .str v.data.toList) trivial (.str (by simpa using hl)) (fun _ _=>⟨v,rfl,rfl⟩)
  ·rename_i e hu;cases hk;obtain⟨q,hnm,rfl⟩:=kA hn;simp only [CK.name,Z8] at hnm;obtain⟨T,hT,rfl⟩:=hnm;obtain⟨v,xs,rfl,hf,hv⟩:=yD hK ih hu hT hm h;exact Rds.one (z:= .sl .ro T xs) rfl hf hv
  ·rename_i fs hu;simp only [eU,hu,Zv,Zu] at hlaid;obtain⟨⟨hl1,hl2⟩,hl3⟩:=hlaid;rw [hk] at hl3;have hl3:=Zl hl3;obtain⟨xs,m',rfl,_,hlen,hxl,hf⟩:=DataW.trod_struct hu h
   have:=oN (P:=P) (W:=W) (K:=K) (f:=fun t=>cU P d t) (cs:=cs)
    (ok:=fun t ds=>eU P d t=true/\∃y,DataW.trod enc P W base spare held m' t ds=some y)
    (fun t ks ns ds h1 h2 ⟨h3,y,h4⟩=>ihd t ks ns ds y m' (by omega) h1 h3 h2 h4) fs.toList 0 ks ns hl1 hk hn
    (fun fd hfd=>by
      refine⟨hl2 fd hfd,?_⟩;obtain⟨i,hi,rfl⟩:=List.getElem_of_mem hfd;have hi' :i<fs.size:=by simpa using hi
      have:=hf i (fs.toList[i]) (by simp [hi']);exact⟨_,this.trans (Zx (by omega))⟩) (by omega)
   simpa using this
  ·cases hk
theorem nV(hK:gV P K=true):∀n,kN enc P W base spare held K n
 |0=>fun e T hT m cs x hm=>absurd hm (by omega)
 |n+1=>fun e T hT m cs x hm h=>by
  have h1:=Zu.1 hK _ (KT.mem hT);simp only [Zv] at h1;obtain⟨⟨hlaid,_⟩,h1⟩:=h1;split at h1
  ·rename_i ks hks;split at h1
   ·rename_i ns hns;have:=k9 h1;subst this;obtain⟨zs,h2,h3,h4⟩:=oS hK (nV hK n) 8 e ks _ cs x m (by omega) hks hlaid hns h;obtain⟨y,rfl⟩:=h2.elem;refine⟨y,fun d hd=> ?_,h4⟩;rw [<-Ty.enc_toD .ro] at hd;obtain⟨z,hz,rfl⟩:=Zk.1 hd;exact h3 z hz
   ·cases h1
  ·cases h1
theorem reads(hK:gV P K=true){t:TypeId}{ks:List CK}{ns:List (CK ⊕ Ty)}{v:Value}{d:DataW H}{ps:List MemPlace}(hk:cU P 8 t=some ks)(hl:eU P 8 t=true)(hn:cK K ks=some ns)
 (h:DataW.Trod enc P W base spare held t v d ps):Rds W ns v.cells.toList:=by
 obtain⟨m,h⟩:=h;exact oS hK (nV hK m) 8 t ks ns _ _ m (Zi _) hk hl hn h
end
end Go.Ab
end
section
namespace Go.Ab
variable [Inhabited Lb]
open Go.ChangeShapes Go.WideShapes Go.ChangeAt Go.RowKit
def gC(P:Program)(t:TypeId):Bool:=match P.underlying t with |some (.struct _)=>true|_=>false
def qW(P:Program)(K:KT)(g:Bool)(t:TypeId)(ns:List (CK ⊕ Ty)):Bool:=
 eU P 8 t&&(gC P t==g)&&match cU P 8 t with
  |some ks=>match cK K ks with
   |some ms=>gL ms ns
   |none=>false
  |none=>false
section
variable {H:Type} {enc:TypeId×Value->H} {P:Program} {W:World} {base b0:Nat} {spare:Nat->Bool} {held:Bool} {K:KT} {r:Go.Reach}
theorem zAu(hK:gV P K=true){g:Bool}{t:TypeId}{ns:List (CK ⊕ Ty)}(hT:qW P K g t ns=true){v:Value}{d:DataW H}{ps:List MemPlace}
 (hw:Value.okWide P W r b0 t v) (h:DataW.Trod enc P W base spare held t v d ps):
 ∃zs:List CV,AreOf zs ns/\(∀z∈zs,DFit z.toD)/\∀pl,VR (c7 W) aJ pl (.v g zs) v:=by
 unfold qW at hT;simp only [Zv,beq_iff_eq] at hT;obtain⟨⟨hl,hg⟩,hT⟩:=hT;split at hT
 ·rename_i ks hks;split at hT
  ·rename_i ms hms;obtain rfl:=k9 hT;obtain⟨zs,h1,h2,h3⟩:=reads hK hks hl hms h;refine⟨zs,h1,h2,fun pl=> ?_⟩;simp only [cU] at hks;split at hks
   ·rename_i k hu;obtain⟨n,rfl⟩:=okWide_int hu hw;obtain rfl:false=g:=by simpa [gC,hu] using hg
    exact h3 pl 0
   ·rename_i hu;obtain⟨n,rfl⟩:=okWide_bool hu hw;obtain rfl:false=g:=by simpa [gC,hu] using hg
    exact h3 pl 0
   ·rename_i hu;obtain⟨n,rfl⟩:=okWide_string hu hw;obtain rfl:false=g:=by simpa [gC,hu] using hg
    exact h3 pl 0
   ·rename_i e hu;obtain⟨a,l,c,rfl⟩:=okWide_slice hu hw;obtain rfl:false=g:=by simpa [gC,hu] using hg
    exact h3 pl 0
   ·rename_i fs hu;obtain⟨cs,rfl,_⟩:=okWide_struct hu hw;obtain rfl:true=g:=by simpa [gC,hu] using hg
    exact⟨cs,rfl,h3 pl 0⟩
   ·cases hks
  ·cases hT
 ·cases hT
theorem sD(h:∀x∈jW,W.heap[x.1]? =some x.2):eY (c7 W):=fun x hx=>by
 have h:=h x hx;refine⟨?_,rfl,h,?_⟩
 ·exact(Zg.1 h).1
 ·show eL W x.1=_;unfold eL mB;rw [h];cases x.2 <;>rfl
theorem zAg{f:FuncId}{fn:Func}{I:Info}(hf:FnOk P f fn I){as:List Arg}{o:List (List CV)}{l:List CV}(h:AbsCalls P f as ⟨.v false [.bool true],o,l⟩){args:Array Value}(ha:ArgsAt (c7 W) 0 as args.toList)(hL:∀x∈jW,W.heap[x.1]? =some x.2):
 Calls P f args W fun e w' =>e= .returned (.bool true)/\Below W.heap.size W w' :=by
 rcases h (c7 W) args (tO W) (sD hL) ha with ⟨v,w',h1,_⟩|⟨_,h2⟩
 ·exfalso;have hbody:fn.body.isNone=false:=by rw [hf.body];rfl
  unfold callFunc at h1;simp only [Sem.run_bind,run_program,Result.andThen_ok,hf.get,hf.name,hbody] at h1;cases h1
 ·refine h2.mono fun e w' he=> ?_;cases e with
  |returned v=>
   obtain⟨E',rfl,hx⟩:=he;have hv:v= .bool true:=(hx.res.vr rfl).1;exact⟨by rw [hv],⟨hx.os,hx.tape,hx.output,hx.size,fun k hk=>(hx.old k hk rfl).1⟩⟩
  |_=>exact he.elim
end
end Go.Ab
end
section
namespace Go.Ab
def Val.re(v:Val):Val:= .mk v.kind v.n v.step v.text v.list v.columns v.rows
theorem Val.re_eq(v:Val):v.re=v:=v.eta
structure Cur where
 b:List Int
 i:Int
 h:Int
end Go.Ab
end
section
namespace Go.Ab
def qL(s sep:Str):Option (List Str):=if sep.length=1 then if s.length<4294967281 then some (Lib.split s sep) else none else none
def nF(n:Int):Option Int:=if 0<=n/\n<=18446744073709551615 then some (Lib.bitLen n.toNat:Int) else none
def qS(i j:Int)(xs:List Org):Option (List Org):=if 0<=i/\i<xs.length/\0<=j/\j<xs.length then some (Sort.swp xs.toArray i.toNat j.toNat).toList else none
def olt(a b:Org):Bool:=bif decide (a.cell<b.cell) then true else bif(a.cell==b.cell) then decide (a.row<b.row) else false
def tH(acc:List Org)(o:Org):List Org:=if acc.contains o then acc else acc++ [o]
def ded(os:List Org):List Org:=os.foldl tH []
def qX(a b:List Org):List Org:=(ded (a++b)).mergeSort fun x y=> !olt y x
def zAt(a b:List Org):Option (List Org):=if a.length+b.length<=1000000000000 then some (qX a b) else none
end Go.Ab
end
section
namespace Go.Ab
def gQ(i:Nat)(r:Rowd):Int:=r.cells.getD i 0
def uM(i:Nat)(rs:List Rowd):List Int:=rs.foldl (fun ks r=>if gQ i r∈ks then ks else ks++ [gQ i r]) []
def oP(i k:Nat)(rs:List Rowd)(x:Int):Int:=rs.foldl (fun s r=>if gQ i r=x then IntKind.i64.wrap (s+gQ k r) else s) 0
def uL(i:Nat)(rs:List Rowd)(x:Int):List Org:=rs.foldl (fun f r=>if gQ i r=x then qX f r.frm else f) []
def oO(i:Nat)(rs:List Rowd):List Int:=(uM i rs).mergeSort fun x y=>decide (x<=y)
def wR(n:Int):Bool:=decide (-1000000000<=n)&&decide (n<=1000000000)
def uN(i k:Nat)(rs:List Rowd):List Rowd:=(oO i rs).map fun x=>⟨[x,oP i k rs x],uL i rs x⟩
def xP(i k:Nat)(r:Rowd):Bool:=decide (i<r.cells.length)&&decide (k<r.cells.length)&&decide (r.frm.length<=100000000)
def zAj(i k:Int)(a b t:Val):Option (Val×Bool):=
 if 0<=i/\0<=k/\t.rows.all (xP i.toNat k.toNat)=true/\t.rows.length<=1000 then
  some (if(oO i.toNat t.rows).all (fun x=>wR (oP i.toNat k.toNat t.rows x))=true then Val.mk 5 0 0 [] [] [a.text,b.text] (uN i.toNat k.toNat t.rows) else Val.mk 6 5 0 [] [] [] [],false)
 else none
end Go.Ab
end
section
namespace Go.Ab
variable [Inhabited Lb]
theorem AbsCalls.of_enter{P:Program}{f:FuncId}{as:List Arg}{r:CallO}(hf:∀args w,(callFunc f args).run P w= .ok (.enter f args) w)
 (h:∀(E:Env) (args:Array Value),EnvOk E->eY E->ArgsAt E 0 as args.toList->Calls P f args E.w fun e w' =>∃v E',e= .returned v/\E'.w=w' /\ExitR E E' as r v):AbsCalls P f as r:=
 fun E args hE hB hA=> .inr ⟨hf args E.w,(h E args hE hB hA).mono (by rintro e w' ⟨v,E',rfl,hw,hx⟩;exact⟨E',hw,hx⟩)⟩
theorem ExitR.below{E:Env}(hE:EnvOk E){w' :World}(hb:Go.RowKit.Below E.w.heap.size E.w w'){as:List Arg}{a:AV}{v:Value}(ho:cR E { E with w:=w' } 0 as [])(hl:bA 0 as=[])
 (hr:ResAt { E with w:=w' } as.length a v):ExitR E { E with w:=w' } as ⟨a,[],[]⟩ v where
 os:=hb.os
 tape:=hb.tape
 output:=hb.output
 size:=hb.size
 hdr:=rfl
 old:=fun b hlt h0=>⟨hb.block b hlt,rfl,h0⟩
 env:=⟨fun b h=>hE.new b (ZF hb.size h),hE.inj,hE.boxhw⟩
 res:=hr
 outs:=ho
 lents:=by rw [hl];trivial
 bx:=fun _ _=>rfl
theorem ExitR.newRow{E:Env}(hE:EnvOk E){w' :World}{cells:Array Value}{ty:TypeId}(hg:Grown E.w w' cells ty (0,0)){as:List Arg}{T:Ty}{xs:List T.den}{n:Nat}
 (ho:∀E',cR E E' 0 as []) (hl:bA 0 as=[]) (hn:xs.length=n) (hsz:cells.size=n*T.sz)
 (hk:∀i j (hi:i<(xs.map T.toD).length) (hj:j<(xs.map T.toD)[i].length),∃u,cells[i*T.sz+j]? =some u/\∀w ok q,RdP w ok q u ((xs.map T.toD)[i][j])):
 ∃E',E'.w=w' /\ExitR E E' as ⟨.v false [.sl .own T xs],[],[]⟩ (.slice (some ⟨E.w.heap.size,0,none⟩) n n):=by
 have h0:=hE.new E.w.heap.size (Zi _);refine⟨{ w:=w',hw:=fun b=>if b=E.w.heap.size then n*T.sz else E.hw b,ow:=fun b=>if b=E.w.heap.size then some (.arr (.h 0) 0 []) else(E.ow b).bind (fun l=>if l= .arr (.h 0) 0 [] then none else some l),bx:=E.bx,hdr:=E.hdr },rfl,?_⟩;refine { os:=hg.os,tape:=hg.tape,output:=hg.output,size:=by show _<=w'.heap.size;rw [hg.size];omega,hdr:=rfl,old:=fun b hlt h1=> ?_,env:=⟨fun b hb=> ?_,fun b b' l g1 g2=> ?_,fun b s h=> ?_⟩,res:= ?_,outs:=ho _,lents:=by rw [hl];trivial,bx:=fun _ _=>rfl }
 ·have e:b≠E.w.heap.size:=by omega
  exact⟨hg.old b e,by simp [e],by simp [e,h1]⟩
 ·have hb:w'.heap.size<=b:=hb;rw [hg.size] at hb;have e:b≠E.w.heap.size:=by omega
  have:=hE.new b (by omega);exact⟨by simp [e,this.1],by simp [e,this.2]⟩
 ·simp only at g1 g2;split at g1 <;>split at g2
  ·rename_i e1 e2;rw [e1,e2]
  ·cases g1;simp only [Zm] at g2;obtain⟨l2,_,c2⟩:=g2;split at c2
   ·cases c2
   ·rename_i hne;cases c2;exact absurd rfl hne
  ·cases g2;simp only [Zm] at g1;obtain⟨l2,_,c2⟩:=g1;split at c2
   ·cases c2
   ·rename_i hne;cases c2;exact absurd rfl hne
  ·simp only [Zm] at g1 g2;obtain⟨l1,a1,c1⟩:=g1;obtain⟨l2,a2,c2⟩:=g2;split at c1
   ·cases c1
   split at c2
   ·cases c2
   cases c1;cases c2;exact hE.inj _ _ _ a1 a2
 ·simp only at h ⊢;split at h
  ·cases h
  ·rename_i e;rw [Zf e];simp only [Zm] at h;obtain⟨l,a1,c1⟩:=h;split at c1
   ·cases c1
   ·cases c1;exact hE.boxhw b s a1
 ·refine⟨?_,trivial⟩;refine eF (cs:=cells) (ty:=ty) (fr:=(0,0)) hg.new (by simpa using hn) (Zi _) (by intro r hr;obtain⟨x,_,rfl⟩:=Zk.1 hr;exact T.toD_length x) ?_ (fun o hlt=> ?_) (fun i j hi hj=> ?_)
  ·refine⟨by simp,by simp,Zi _,cells,ty,0,0,hg.new,hsz.symm,fun o h1 h2=>by omega⟩
  ·exact⟨by simpa using hlt,by simp⟩
  ·obtain⟨u,h1,h2⟩:=hk i j hi hj;exact⟨u,h1,h2 _ _ _⟩
theorem zAm{P:Program}{f:FuncId}{ty:TypeId}(hf:∀args w,(callFunc f args).run P w= .ok (.enter f args) w)
 (hc:∀(s:ByteArray) (c:UInt8) (w:World),s.size<4294967281->Calls P f #[.string s,.string ⟨#[c]⟩] w fun e w' =>
   e= .returned (.slice (some ⟨w.heap.size,0,none⟩) (Lib.countB s ⟨#[c]⟩+1) (Lib.countB s ⟨#[c]⟩+1))/\w' =w.alloc (.cells ((Lib.splitB ⟨#[c]⟩ 0 (Lib.countB s ⟨#[c]⟩) s).map Value.string).toArray ty))
 {s sep:Str} {r:List Str} (h:qL s sep=some r):AbsCalls P f [.val (.v false [.str s]),.val (.v false [.str sep])] ⟨.v false [.sl .own .str r],[],[]⟩:=by
 unfold qL at h;split at h
 case isFalse=>cases h
 rename_i h1;split at h
 case isFalse=>cases h
 rename_i h2;cases h;refine AbsCalls.of_enter hf fun E args hE _ hA=> ?_;obtain⟨c,rfl⟩:∃c,sep=[c]:=List.length_eq_one_iff.1 h1
 match args,hA with
 |⟨[v1,v2]⟩,hA=>
  obtain⟨⟨⟨t,rfl,rfl⟩,_⟩,⟨⟨t2,rfl,ht2⟩,_⟩,_⟩:=hA;obtain rfl:t2=⟨#[c]⟩:=by
   cases t2 with
   |mk d=>cases d with
    |mk l=>change l=[c] at ht2;subst ht2;rfl
  have hsz:t.size<4294967281:=h2;refine(hc t c E.w hsz).mono ?_;rintro e w' ⟨rfl,rfl⟩;have hlen:=Lib.splitB_all ⟨#[c]⟩ (Zi 1) 0 _ t rfl;have hd:=Lib.splitB_data ⟨#[c]⟩ 0 (Lib.countB t ⟨#[c]⟩) t;generalize hL:Lib.splitB ⟨#[c]⟩ 0 (Lib.countB t ⟨#[c]⟩) t=L at hlen hd;have hd' :Lib.split t.data.toList [c]=L.map (·.data.toList):=hd.symm
  obtain⟨E',hw,hx⟩:=ExitR.newRow (T:= .str) (xs:=L.map (·.data.toList)) (n:=Lib.countB t ⟨#[c]⟩+1) hE (Grown.alloc E.w (L.map Value.string).toArray ty) (as:=[.val (.v false [.str t.data.toList]),.val (.v false [.str [c]])]) (fun _=>trivial) rfl
   (by rw [Zr,hlen]) (by simp [hlen,Ty.sz]) (fun i j hi hj=>by
     simp only [Z7,Ty.toD,List.length_singleton] at hj ⊢;obtain rfl:j=0:=by omega
     simp only [Zr] at hi;refine⟨.string L[i],by simp [Ty.sz,hi],fun w ok q=> .str _⟩)
  rw [hd'];exact⟨_,E',rfl,hw,hx⟩
 |⟨[]⟩,hA=>exact hA.elim
 |⟨[_]⟩,hA=>exact hA.2.elim
 |⟨_::_::_::_⟩,hA=>exact hA.2.2.elim
end Go.Ab
end
section
namespace Go.Ab
open Go.Lib Go.Extern
variable [Inhabited Lb]
theorem zAl{P:Program}{f:FuncId}(hf:∀args w,(callFunc f args).run P w= .ok (.enter f args) w)
 (hc:∀(x:Int) (w:World),0<=x->x<=18446744073709551615->Calls P f #[.int .u64 x] w fun e w' =>e= .returned (.int .i64 (Lib.bitLen x.toNat))/\w' =w)
 {x r:Int} (h:nF x=some r):AbsCalls P f [.val (.v false [.int .u64 x])] ⟨.v false [.int .i64 r],[],[]⟩:=by
 unfold nF at h;split at h
 case isFalse=>cases h
 rename_i hx;cases h;refine AbsCalls.of_enter hf fun E args hE hB hA=> ?_
 match args,hA with
 |⟨[v1]⟩,hA=>
  obtain⟨⟨hv1,_⟩,_⟩:=hA;obtain rfl:v1= .int .u64 x:=hv1;refine(hc x E.w hx.1 hx.2).mono ?_;rintro e w' ⟨rfl,rfl⟩;exact⟨_,_,rfl,rfl,ExitR.below hE (Go.RowKit.Below.refl _ _) trivial rfl ⟨rfl,trivial⟩⟩
 |⟨[]⟩,hA=>exact hA.elim
 |⟨_::_::_⟩,hA=>exact hA.2.elim
def bH(o:Org):List Value:=[.int .i64 o.cell,.int .i64 o.row]
theorem yI{xs:List Org}{i j:Nat}(hi:i<xs.length)(hj:j<xs.length){m:Nat}(hm:m<(Sort.swp xs.toArray i j).toList.length):
 (Sort.swp xs.toArray i j).toList[m]=if m=j then xs[i] else if m=i then xs[j] else xs[m]'(by simpa [Sort.swp] using hm):=by
 simp only [Sort.swp,Array.toList_setIfInBounds,List.getElem_set,X2,hi,hj,getElem!_pos,List.getElem_toArray];by_cases h1:j=m
 ·subst h1;simp
 ·by_cases h2:i=m
  ·subst h2;simp [h1,Ne.symm h1]
  ·simp [h1,h2,Ne.symm h1,Ne.symm h2]
theorem zAn{P:Program}{f:FuncId}(hc:∀args w,(callFunc f args).run P w=((ReflectliteSwapper.swap false args).run P w).andThen fun v w' => .ok (.value v) w')
 (e:TypeId) (ie:TypeInfo) (hie:P.info? e=some ie) (hsz:ie.size=2) (hagg:∀w,(isAgg e).run P w= .ok true w) {i j:Int} {xs ys:List Org} (h:qS i j xs=some ys):
 AbsCalls P f [.val (.v false [.int .i64 i]),.val (.v false [.int .i64 j]),.val (.v false [.sl (.lnt 0) .org xs]),.val (.v false [.val (typeHandle P e)])] ⟨.tup [],[],[.sl (.lnt 0) .org ys]⟩:=by
 unfold qS at h;split at h
 case isFalse=>cases h
 rename_i hij;cases h;obtain⟨hi0,hi1,hj0,hj1⟩:=hij;obtain⟨i,rfl⟩:=XI hi0;obtain⟨j,rfl⟩:=XI hj0;have hi:i<xs.length:=by omega
 have hj:j<xs.length:=by omega
 simp only [jI];intro E args hE hB hA
 match args,hA with
 |⟨[v1,v2,v3,v4]⟩,hA=>
  obtain⟨⟨hv1,_⟩,⟨hv2,_⟩,⟨hv3,_⟩,⟨hv4,_⟩,_⟩:=hA;obtain rfl:v1= .int .i64 i:=hv1;obtain rfl:v2= .int .i64 j:=hv2;obtain rfl:v4=typeHandle P e:=hv4.1;have hv:RdP E.w (okF E (.k 4) 0 (.lnt 0)) (qF E (.k 4) 0 (.lnt 0)) v3 (.sl 2 (xs.map Ty.org.toD)):=hv3;have hh:v3=E.hdr 0:=(RdP.top hv).2 rfl;have hx:xs≠ []:=by rintro rfl;simp at hi
  obtain⟨b,off,cap,rfl,hcap,hrl,hq,u,hcl,hk⟩:=RdP.cells hv (by simpa using hx);have htip:=hq.1
  match off,htip with
  |off+1,htip=>exact htip.elim
  |0,htip=>
  obtain⟨t1,t2,t3,cs,ty,lo,hi',t4,t5,t6⟩:=htip;rw [Zr] at t2 t3 hcap;have hcell:∀m (hm:m<xs.length) k (hk2:k<2),E.w.cell? ⟨b,m*2+k,none⟩=some ((bH xs[m])[k]'hk2):=by
   intro m hm k hk2;have g1:=(hcl m k (by simpa using hm) hk2).1;have hr:((xs.map Ty.org.toD)[m]'(by simpa using hm))=Ty.org.toD xs[m]:=by rw [Z7]
   have g2:=hk m k (by simpa using hm) (by rw [hr];exact hk2);rw [Zj] at g1;rw [g1];simp only [hr] at g2
   match k,hk2,g2 with
   |0,_,g2=>generalize u m 0=x at g2;simp only [Ty.toD,List.getElem_cons_zero] at g2;cases g2;rfl
   |1,_,g2=>generalize u m 1=x at g2;simp only [Ty.toD,List.getElem_cons_succ,List.getElem_cons_zero] at g2;cases g2;rfl
  have hfz:∀o,o<xs.length*2->E.w.frozen? ⟨b,o,none⟩=false:=by
   intro o ho;simp only [World.frozen?,t4];cases hd:(decide (lo<=o)&&decide (o<hi')) with
   |false=>rfl
   |true=>
    rw [Zv] at hd;have:=t6 o (of_decide_eq_true hd.1) (of_decide_eq_true hd.2);omega
  have ho:∀x:Org,∀v∈bH x,v.oneCell' =true:=by
   intro x v hv;simp only [bH,Zo,Z2,or_false] at hv;rcases hv with rfl|rfl <;>rfl
  have hl2:∀x:Org,(bH x).length=2:=fun _=>rfl;have hget:∀(m:Nat) (hm:m<xs.length) (k:Nat) (v:Value),(bH xs[m])[k]? =some v->E.w.cell? ⟨b,0+m*ie.size+k,none⟩=some v:=by
   intro m hm k v hv;obtain⟨hk2,rfl⟩:=Zt.1 hv;rw [hsz,Zj];exact hcell m hm k hk2
  have hrun:=run_swap_cells (P:=P) false e ie hie hagg b 0 xs.length cap i j hi hj (bH xs[i]) (bH xs[j]) (by rw [hsz];rfl) (by rw [hsz];rfl) (ho _) (ho _) E.w
   (hget i hi) (hget j hj) (fun k hk=>hfz _ (by rw [hsz] at hk ⊢;omega)) (fun k hk=>hfz _ (by rw [hsz] at hk ⊢;omega))
  rw [hsz] at hrun;have hv0:Value.slice (some ⟨b,0,none⟩) (xs.map Ty.org.toD).length cap= .slice (some ⟨b,0,none⟩) xs.length cap:=by rw [Zr]
  rw [hv0] at hh;refine .inl ⟨.tuple #[],(E.w.setCells b (0+i*2) (bH xs[j])).setCells b (0+j*2) (bH xs[i]),?_,?_⟩
  ·rw [hc];show(Sem.run P (ReflectliteSwapper.swap false #[.int .i64 i,.int .i64 j,.slice (some ⟨b,0,none⟩) (xs.map Ty.org.toD).length cap,typeHandle P e]) E.w).andThen _=_;rw [hv0];rw [hrun];rfl
  obtain⟨cs1,a1,a2,a3⟩:=dM b (bH xs[j]) (0+i*2) E.w t4;obtain⟨cs2,b1,b2,b3⟩:=dM b (bH xs[i]) (0+j*2) (E.w.setCells b (0+i*2) (bH xs[j])) a1;generalize hW:(E.w.setCells b (0+i*2) (bH xs[j])).setCells b (0+j*2) (bH xs[i])=W at b1;have hsize:W.heap.size=E.w.heap.size:=by rw [<-hW,dB,dB]
  obtain⟨o1,o2,o3⟩:=dN b (bH xs[i]) (0+j*2) (E.w.setCells b (0+i*2) (bH xs[j]));obtain⟨p1,p2,p3⟩:=dN b (bH xs[j]) (0+i*2) E.w;have hold:∀b',b' ≠b->W.heap[b']? =E.w.heap[b']? :=fun b' hne=>by rw [<-hW,cW b b' hne,cW b b' hne]
  refine⟨{ E with w:=W },rfl,?_⟩;have hyl:(Sort.swp xs.toArray i j).toList.length=xs.length:=by simp [Sort.swp]
  refine { os:=by show W.os=_;rw [<-hW,o1,p1],tape:=by show W.tape=_;rw [<-hW,o2,p2],output:=by show W.output=_;rw [<-hW,o3,p3],size:=by show _<=W.heap.size;rw [hsize];exact Zi _,hdr:=rfl,
           old:=fun b' hb' h=>⟨hold b' (fun e=>by rw [e,t1] at h;cases h),rfl,h⟩,env:=⟨fun b' h=>hE.new b' (by have h:W.heap.size<=b' :=h;rw [hsize] at h;exact h),hE.inj,hE.boxhw⟩,res:=⟨#[],rfl,trivial⟩,outs:=trivial,lents:=⟨⟨.org,_,rfl⟩,?_,trivial⟩,bx:=fun _ _=>rfl }
  show RdP W _ _ (E.hdr 0) (.sl 2 ((Sort.swp xs.toArray i j).toList.map Ty.org.toD));rw [<-hh];have hfin:∀m (hm:m<xs.length) k (hk2:k<2),W.cell? ⟨b,0+m*2+k,none⟩=some ((bH ((Sort.swp xs.toArray i j).toList[m]'(by rw [hyl];exact hm)))[k]'hk2):=by
   intro m hm k hk2;have hsome:∀(q:Nat) (hq:q<xs.length) (k:Nat),k<2->(E.w.cell? ⟨b,0+q*2+k,none⟩).isSome=true:=fun q hq k hk=>by
    rw [Zj,hcell q hq k hk];rfl
   rw [yI hi hj,<-hW];by_cases h1:m=j
   ·subst h1;simp only [ZB];exact World.cell?_setCells_in b (bH xs[i]) (0+m*2) _ (fun k hk=>isSome_setCells _ _ _ _ _ (hsome m hm k hk)) k hk2
   ·rw [World.cell?_setCells_out b _ _ _ _ (fun _ _=>by simp only [hl2];omega)];simp only [h1,if_false];by_cases h2:m=i
    ·subst h2;simp only [ZB];exact World.cell?_setCells_in b (bH xs[j]) (0+m*2) _ (fun k hk=>hsome m hm k hk) k hk2
    ·rw [World.cell?_setCells_out b _ _ _ _ (fun _ _=>by simp only [hl2];omega)];simp only [h2,if_false];rw [Zj];exact hcell m hm k hk2
  refine .sl b 0 xs.length cap 2 _ (fun m k=>if h:m<xs.length/\k<2 then(bH ((Sort.swp xs.toArray i j).toList[m]'(by rw [hyl];exact h.1)))[k]'h.2 else .bool false) (by simp [hyl]) hcap (fun r hr=> ?_) ⟨?_,fun _=>hh⟩ (fun m k hm hk2=> ?_) (fun m k hm hk2=> ?_)
  ·obtain⟨y,_,rfl⟩:=Zk.1 hr;exact Ty.toD_length .org y
  ·refine⟨t1,t2,t3,cs2,ty,lo,hi',b1,?_,t6⟩;rw [b2,a2];exact t5
  ·refine⟨?_,?_⟩
   ·rw [dif_pos ⟨hm,hk2⟩];exact hfin m hm k hk2
   ·refine⟨?_,t1⟩;show _<E.hw b;rw [t2];have:Ty.sz .org=2:=rfl;omega
  ·have hm' :m<xs.length:=by simpa [hyl] using hm
   have hr:((Sort.swp xs.toArray i j).toList.map Ty.org.toD)[m]=Ty.org.toD ((Sort.swp xs.toArray i j).toList[m]'(by rw [hyl];exact hm')):=by rw [Z7]
   have hk2' :k<2:=by rw [hr] at hk2;exact hk2
   rw [dif_pos ⟨hm',hk2'⟩];simp only [hr]
   match k,hk2' with
   |0,_=>exact .int .i64 _
   |1,_=>exact .int .i64 _
 |⟨[]⟩,hA=>exact hA.elim
 |⟨[_]⟩,hA=>exact hA.2.elim
 |⟨[_,_]⟩,hA=>exact hA.2.2.elim
 |⟨[_,_,_]⟩,hA=>exact hA.2.2.2.elim
 |⟨_::_::_::_::_::_⟩,hA=>exact hA.2.2.2.2.elim
end Go.Ab
end
