/- A layer over the machine of the kit: an evaluator over plain data that is sound. Conditions: none. -/
import Derived.Test.YtchkdijelkdpaaaGreatL1
set_option linter.all false
section
namespace Go.Ab
variable [Inhabited Lb]
theorem zC4(σ:St):∀(ks:List Nat) (q:Nat),St.get (σ.restrict ks) q= .none\/∃s m,St.get (σ.restrict ks) q=(σ.get q).mapC (CV.stale s m):=by
 intro ks
 induction ks with
 |nil=>intro q;exact .inl rfl
 |cons k r ih=>
  intro q;have step:∀v,v=σ.get k->St.get ((k,v)::σ.restrict r) q= .none\/∃s m,St.get ((k,v)::σ.restrict r) q=(σ.get q).mapC (CV.stale s m):=by
   intro v hv;rw [St.get_cons];by_cases h:k=q
   ·subst h;rw [if_pos rfl,hv];exact .inr ⟨[],false,(AV.mapC_id CV.stale_nil _).symm⟩
   ·rw [if_neg h];rcases ih q with h1|⟨s,m,h1⟩
    ·exact .inl (by rw [h1];rfl)
    ·refine .inr ⟨s++ [k],m||k.beq zAe,?_⟩;rw [h1,AV.mapC_comp]
     congr 1
     funext c
     exact CV.stale_stale c (fun q=>by simp) rfl
  simp only [St.restrict];split
  ·exact ih q
  ·rename_i g cs h;exact step _ h.symm
  ·rename_i xs h;exact step _ h.symm
theorem zFy{σ:St}{c:CV}{s:List Nat}{m:Bool}(h:c.ptrOk σ=true):(c.stale s m).ptrOk σ=true:=by
 rcases CV.stale_eq (s:=s) (m:=m) c with e|⟨e,_⟩
 ·rw [e];rfl
 ·rw [e];exact h
theorem zJf{σ:St}:∀ {S:St},St.wf σ S=true->∀q,∀x,(St.get S q).mem x->x.ptrOk σ=true:=by
 have key:∀ {S:St},St.wf σ S=true->∀(q:Nat) (s:List Nat) (m:Bool) (x:CV),(St.getS S q s m).mem x->x.ptrOk σ=true:=by
  intro S
  induction S with
  |nil=>intro _ q s m x h;exact h.elim
  |cons z S ih=>
   intro h q s m x hx;obtain⟨k,v⟩:=z;have hS:St.wf σ S=true:=by
    cases v <;>simp only [St.wf,Bool.and_eq_true] at h
    ·exact h.2
    ·exact h.2
    ·exact h
   simp only [St.getS] at hx;cases hk:k.beq q with
   |false=>rw [hk] at hx;exact ih hS _ _ _ x hx
   |true=>
    rw [hk] at hx;obtain⟨y,hy,rfl⟩:=AV.mem_mapC hx;refine zFy ?_;cases v with
    |none=>exact hy.elim
    |v g cs=>simp only [St.wf,Bool.and_eq_true] at h;exact List.all_eq_true.1 h.1 y hy
    |tup xs=>
     simp only [St.wf,Bool.and_eq_true] at h;obtain⟨z,hz,hy⟩:=hy;exact List.all_eq_true.1 (List.all_eq_true.1 h.1 z hz) y hy
 exact fun {S} h q x hx=>key (S:=S) h q [] false x hx
theorem zCl{σ:St}{s:Nat}(h:zCJ σ s=true):zAd σ.get s:=by
 unfold zCJ at h;split at h
 ·rename_i cs hg;exact⟨cs,hg⟩
 ·cases h
theorem AV.mem_map{f:CV->CV}{a:AV}{x:CV}(h:a.mem x):(a.mapC f).mem (f x):=by
 cases a with
 |none=>exact h.elim
 |v g cs=>exact List.mem_map.2 ⟨x,h,rfl⟩
 |tup xs=>obtain⟨y,hy,hx⟩:=h;exact⟨(y.1,y.2.map f),List.mem_map.2 ⟨y,hy,rfl⟩,List.mem_map.2 ⟨x,hx,rfl⟩⟩
theorem VRc.rebox{E:Env}{bxs bxs' :Nat->Prop}{pl:Pl}{c:Nat}{x:CV}{v:Value}(h:∀s off,x= .ptr s off->bxs' s)(h' :∀k ss,x= .clo k ss->∀s∈ss,bxs' s)(hv:VRc E bxs pl c x v):VRc E bxs' pl c x v:=by
 cases x with
 |ptr s off=>exact⟨hv.1,h s off rfl⟩
 |clo k ss=>exact⟨hv.1,h' k ss rfl⟩
 |_=>exact hv
theorem zEd{C:Ctx}{σ σ' :St}{a:Act}{w:World}{ext ks:List Nat}(h:zEI ext σ ks=some σ')(he:∀s b,C.ext s=some b->s∈ext)(hR:R C σ a w):R C σ' a w:=by
 unfold zEI at h;cases hc:(St.wf (σ.restrict ks) (σ.restrict ks)&&ext.all (zCJ (σ.restrict ks))) with
 |false=>rw [hc] at h;cases h
 |true=>
  rw [hc] at h;cases h;rw [Bool.and_eq_true] at hc;obtain⟨h1,h2⟩:=hc;obtain⟨hd,E,rfl,hi⟩:=hR;have hp:=zJf h1;have one:∀ {pl:Pl} {j:Nat} {x:CV} {s:List Nat} {m:Bool} {v:Value},(x.stale s m).ptrOk (σ.restrict ks)=true->VRc E (zAd σ.get) pl j x v->VRc E (zAd (St.get (σ.restrict ks))) pl j (x.stale s m) v:=by
   intro pl j x s m v hx hv;rcases CV.stale_eq (s:=s) (m:=m) x with e|⟨e,_⟩
   ·rw [e];exact hv.one
   ·rw [e] at hx ⊢;exact hv.rebox (fun s off hs=>by subst hs;exact zCl hx) fun k ss hs s hm=>by subst hs;exact zCl (List.all_eq_true.1 hx s hm)
  refine⟨hd,E,rfl,⟨hi.os,hi.tape,hi.output,hi.size,hi.hdr,hi.old,hi.new,hi.inj,hi.boxhw,hi.nt,fun t=> ?_,fun s cs hg=> ?_,fun s b hs=> ?_,hi.base⟩⟩
  ·have ht:=hi.tmp t;have hq:=hp (2*t);rcases zC4 σ ks (2*t) with h0|⟨s,m,h0⟩
   ·rw [h0];trivial
   ·rw [h0] at hq ⊢;exact VR.imp (fun j x v hx hv=>one (hq _ (AV.mem_map hx)) hv) ht
  ·have hq:=hp (2*s+1);rcases zC4 σ ks (2*s+1) with h0|⟨s1,m,h0⟩
   ·rw [h0] at hg;cases hg
   ·rw [h0] at hg hq;cases hg0:σ.get (2*s+1) with
    |none=>rw [hg0] at hg;cases hg
    |tup xs=>rw [hg0] at hg;cases hg
    |v g cs0=>
     rw [hg0] at hg hq;injection hg with e1 e2;subst e1 e2;obtain⟨b1,vals,ty,b2,b3⟩:=hi.box s cs0 hg0;exact⟨b1,vals,ty,b2,VRs.imp (fun j x v hx hv=>one (hq _ (List.mem_map.2 ⟨x,hx,rfl⟩)) hv) b3⟩
  ·exact⟨zCl (List.all_eq_true.1 h2 s (he s b hs)),(hi.ext s b hs).2⟩
theorem zGg(b:Bool)(c:CV)(s:List Nat)(m:Bool):(c.stale s m).cast b=(c.cast b).stale s m:=by
 have key:∀c:CV,c.onKey s=(c.cast b).onKey s/\c.isBor=(c.cast b).isBor\/c.cast b= .undef:=by
  intro c;cases c with
  |sl f T xs=>cases f <;>cases b <;>first |exact .inl ⟨rfl,rfl⟩|exact .inr rfl
  |_=>exact .inl ⟨rfl,rfl⟩
 rcases key c with ⟨h1,h2⟩|h
 ·unfold CV.stale;rw [<-h1,<-h2];cases (c.onKey s||m&&c.isBor) <;>rfl
 ·rw [h];rcases CV.stale_eq (s:=s) (m:=m) c with e|⟨e,_⟩
  ·rw [e];simp [CV.cast,CV.stale,CV.onKey,CV.isBor]
  ·rw [e,h];simp [CV.stale,CV.onKey,CV.isBor]
theorem zD2(c:CV)(s:List Nat)(m:Bool):(c.stale s m).noAl=c.noAl.stale s m:=by
 have key:∀c:CV,c.noAl=c\/c.noAl= .undef:=by
  intro c;cases c with
  |sl f T xs=>cases f <;>first |exact .inl rfl|exact .inr rfl
  |eref k c p i T x off=>exact .inr rfl
  |apd k c p T xs=>exact .inr rfl
  |_=>exact .inl rfl
 rcases key c with h|h
 ·rcases CV.stale_eq (s:=s) (m:=m) c with e|⟨e,_⟩
  ·rw [e,h,e];rfl
  ·rw [e,h,e]
 ·rcases CV.stale_eq (s:=s) (m:=m) c with e|⟨e,_⟩
  ·rw [e,h];simp [CV.noAl,CV.stale,CV.onKey,CV.isBor]
  ·rw [e,h];simp [CV.stale,CV.onKey,CV.isBor]
theorem castAt_map{f:CV->CV}{b:Bool}(hf:∀c,(f c).cast b=f (c.cast b)):∀(c:Nat) (cs:List CV),castAt b c (cs.map f)=(castAt b c cs).map f
 |0,[]=>rfl
 |_+1,[]=>rfl
 |0,x::r=>by simp [castAt,hf]
 |c+1,x::r=>by simp [castAt,castAt_map hf c r]
theorem AV.castAt_map{f:CV->CV}{b:Bool}(hf:∀c,(f c).cast b=f (c.cast b))(c:Nat)(a:AV):(a.mapC f).castAt c b=(a.castAt c b).mapC f:=by
 cases a with
 |v g cs=>simp only [AV.castAt,AV.mapC];rw [Ab.castAt_map hf]
 |_=>rfl
theorem zG5{k c:Nat}{b:Bool}:∀(σ:St) (q:Nat) (s:List Nat) (m:Bool),St.getS (σ.map fun x=>(x.1,(cond (x.1.beq k) (x.2.castAt c b) x.2).mapC CV.noAl)) q s m=
 (if k=q then(St.getS σ q s m).castAt c b else St.getS σ q s m).mapC CV.noAl:=by
 intro σ
 induction σ with
 |nil=>intro q s m;simp only [List.map_nil,St.getS];split <;>rfl
 |cons x σ ih=>
  intro q s m;obtain⟨k',v⟩:=x;rw [List.map_cons];simp only [St.getS];cases hq:k'.beq q with
  |false=>simp only [jF];exact ih q _ _
  |true=>
   obtain rfl:=Nat.eq_of_beq_eq_true hq;simp only [jT];by_cases hk:k=k'
   ·subst hk;simp only [Nat.beq_refl,cond_true,if_true];rw [AV.castAt_map (fun c=>zGg b c s m),AV.mapC_comp,AV.mapC_comp]
    congr 1
    funext x
    exact(zD2 x s m).symm
   ·have:k'.beq k=false:=by
     cases h:k'.beq k with
     |false=>rfl
     |true=>exact absurd (Nat.eq_of_beq_eq_true h).symm hk
    simp only [this,cond_false,if_neg hk];rw [AV.mapC_comp,AV.mapC_comp]
    congr 1
    funext x
    exact(zD2 x s m).symm
def zAD(k c:Nat)(b:Bool):Own->Option Own
 | .arr (.k k') c' p=>if k' =k/\c' =c/\(b=true\/p≠ []) then none else some (.arr (.k k') c' p)
 |l=>some l
theorem zB5(k c:Nat)(b:Bool):RhoOk (zAD k c b) (fun pl c' =>pl= .k k/\c' =c) where
 box:=fun _=>rfl
 id:=fun pl c' p h=>by
  cases pl with
  |k n=>
   have hn:¬(n=k/\c' =c/\(b=true\/p≠ [])):=fun e=>h ⟨by rw [e.1],e.2.1⟩;simp only [zAD,if_neg hn]
  |h n=>rfl
 inj:=fun l1 l2 l h1 h2=>by
  have:∀l1,zAD k c b l1=some l->l1=l:=by
   intro l1 h;unfold zAD at h;split at h
   ·split at h
    ·cases h
    ·cases h;rfl
   ·cases h;rfl
  rw [this _ h1,this _ h2]
 arr:=fun k' c' p s h=>by
  unfold zAD at h;split at h
  ·split at h
   ·cases h
   ·cases h
  ·cases h
theorem zDT{b:Bool}:∀ {c:Nat} {cs:List CV} {j:Nat} {x:CV},(castAt b c cs)[j]? =some x->∃y,cs[j]? =some y/\x=if j=c then y.cast b else y
 |0,[],j,x,h=>by simp [castAt] at h
 |_+1,[],j,x,h=>by simp [castAt] at h
 |0,y::r,j,x,h=>by
  cases j with
  |zero=>simp [castAt] at h;exact⟨y,rfl,by simp [h]⟩
  |succ j=>simp [castAt] at h;exact⟨x,by simpa using h,by simp⟩
 |c+1,y::r,j,x,h=>by
  cases j with
  |zero=>simp [castAt] at h;exact⟨y,rfl,by simp [h]⟩
  |succ j=>
   simp only [castAt,List.getElem?_cons_succ] at h;obtain⟨z,h1,h2⟩:=zDT h;exact⟨z,by simpa using h1,by rw [h2];simp⟩
theorem zDU{b:Bool}:∀ {c:Nat} {cs:List CV},(castAt b c cs).length=cs.length
 |0,[]=>rfl
 |_+1,[]=>rfl
 |0,y::r=>rfl
 |c+1,y::r=>by simp [castAt,zDU]
theorem zCC{E:Env}{bxs:Nat->Prop}{k c j:Nat}{b:Bool}{pl:Pl}{x:CV}{v:Value}(hp:¬(pl= .k k/\j=c))(hv:VRc E bxs pl j x v):VRc (E.rel (zAD k c b)) bxs pl j x.noAl v:=by
 have hv:VRc E bxs pl j x.noAl v:=by
  cases x with
  |sl f T xs=>cases f <;>first |exact hv|exact hv.one
  |eref k1 c1 p1 i T y off=>exact hv.one
  |apd k1 c1 p1 T y=>exact hv.one
  |_=>exact hv
 exact hv.rel (zB5 k c b) (fun _ p=>(zB5 k c b).id _ _ p hp) (fun k1 c1 hs=>absurd hs (zBK x k1 c1))
theorem zGW{E:Env}{bxs:Nat->Prop}{k c:Nat}{b:Bool}{x:CV}{v:Value}(hv:VRc E bxs (.k k) c x v):VRc (E.rel (zAD k c b)) bxs (.k k) c (x.cast b).noAl v:=by
 cases x with
 |sl f T xs=>
  cases f with
  |own=>
   cases b with
   |true=>exact RdP.mono hv (fun p b o ho=>⟨rfl,ho.1,by simp [Env.rel,ho.2,zAD]⟩) (fun _ _ _ _=>trivial)
   |false=>
    refine RdP.mono hv (fun p b o ho=>⟨rfl,ho.1,fun hp=> ?_,fun hp=> ?_⟩) (fun p v sz ht hp=> ?_)
    ·subst hp;simp [Env.rel,ho.2,zAD]
    ·simp [Env.rel,ho.2,zAD,hp]
    ·subst hp;exact Tip.rel (by simp [zAD]) ht
  |tip=>
   cases b with
   |true=>
    refine RdP.mono hv (fun p b o ho=>⟨rfl,ho.1,?_⟩) (fun _ _ _ _=>trivial);by_cases hp:p=[]
    ·simp [Env.rel,ho.2.1 hp,zAD]
    ·simp [Env.rel,ho.2.2 hp]
   |false=>
    refine RdP.mono hv (fun p b o ho=>⟨rfl,ho.1,fun hp=> ?_,fun hp=> ?_⟩) (fun p v sz ht hp=> ?_)
    ·subst hp;simp [Env.rel,ho.2.1 rfl,zAD]
    ·simp [Env.rel,ho.2.2 hp]
    ·subst hp;exact Tip.rel (by simp [zAD]) (ht rfl)
  |ro=>exact RdP.mono hv (fun p b o ho=>⟨rfl,ho.1,by simp [Env.rel,ho.2]⟩) (fun _ _ _ _=>trivial)
  |bor=>exact hv
  |lnt n=>exact hv.one
  |al k1 c1 p1=>exact hv.one
 |eptr f T x off=>
  exact VRc.rel (x:= .eptr f T x off) (zB5 k c b) (fun h=>by cases h) (fun k1 c1 hs=>hs.elim) hv
 |eref k1 c1 p1 i T x off=>exact hv.one
 |apd k1 c1 p1 T y=>exact hv.one
 |_=>exact hv
theorem zDV{E:Env}{bxs:Nat->Prop}{k c:Nat}{b:Bool}{cs:List CV}{vs:List Value}(hv:VRs E bxs (.k k) 0 cs vs):VRs (E.rel (zAD k c b)) bxs (.k k) 0 ((castAt b c cs).map CV.noAl) vs:=by
 refine zBg (by rw [List.length_map,zDU];exact zAh hv) fun j x v hx hvj=> ?_;rw [List.getElem?_map,Option.map_eq_some_iff] at hx;obtain⟨x,hx,rfl⟩:=hx;obtain⟨y,hy,rfl⟩:=zDT hx;have h1:=zAB hv hy hvj;rw [Nat.zero_add] at h1 ⊢;by_cases hj:j=c
 ·subst hj;rw [if_pos rfl];exact zGW h1
 ·rw [if_neg hj];exact zCC (fun h=>hj h.2) h1
theorem zFN{C:Ctx}{a:Act}{w:World}:∀ {zs:List (Nat×Nat×Bool)} {σ:St},R C σ a w->R C (zFM zs σ) a w:=by
 intro zs
 induction zs with
 |nil=>intro σ h;exact h
 |cons z zs ih=>
  intro σ h;obtain⟨k,c,b⟩:=z;refine ih ?_;obtain⟨hd,E,rfl,hi⟩:=h;have hG:∀q,St.get (σ.map fun x=>(x.1,(cond (x.1.beq k) (x.2.castAt c b) x.2).mapC CV.noAl)) q=(if k=q then(σ.get q).castAt c b else σ.get q).mapC CV.noAl:=fun q=>zG5 σ q [] false;obtain⟨σ',hσ⟩:∃σ' :St,σ' =σ.map fun x=>(x.1,(cond (x.1.beq k) (x.2.castAt c b) x.2).mapC CV.noAl):=⟨_,rfl⟩;rw [<-hσ] at hG;have hbx:∀s,zAd σ.get s->zAd σ'.get s:=by
   rintro s ⟨cs,hs⟩;unfold zAd;rw [hG,hs];split
   ·exact⟨_,rfl⟩
   ·exact⟨_,rfl⟩
  have re:∀ {pl:Pl} {j:Nat} {x:CV} {v:Value},VRc (E.rel (zAD k c b)) (zAd σ.get) pl j x v->VRc (E.rel (zAD k c b)) (zAd σ'.get) pl j x v:=fun h=>h.rebox (fun s off e=>by subst e;exact hbx s h.2) fun k ss e s hm=>by subst e;exact hbx s (h.2 s hm)
  have res:∀ {pl:Pl} {j:Nat} {xs:List CV} {vs:List Value},VRs (E.rel (zAD k c b)) (zAd σ.get) pl j xs vs->VRs (E.rel (zAD k c b)) (zAd σ'.get) pl j xs vs:=fun h=>by
   have:=VRs.imp (f:=id) (fun j x v _ hv=>re hv) h;simpa using this
  show R C (σ.map fun x=>(x.1,(cond (x.1.beq k) (x.2.castAt c b) x.2).mapC CV.noAl)) a E.w;rw [<-hσ];refine⟨hd,E.rel (zAD k c b),rfl,hi.rel (zB5 k c b) rfl hbx (fun t=> .inl ?_) (fun s cs' hs=> .inl ?_)⟩
  ·have ht:=hi.tmp t;rw [hG];by_cases hk:k=2*t
   ·rw [if_pos hk];cases hg:σ.get (2*t) with
    |none=>trivial
    |v g cs=>
     rw [hg,<-hk] at ht;obtain⟨h1,h2⟩:=zA4.1 ht;rw [<-hk];exact zA4.2 ⟨res (zDV h1),h2⟩
    |tup xs=>trivial
   ·rw [if_neg hk];exact VR.imp (fun j x v _ hv=>re (zCC (fun h=>hk (by injection h.1 with h1;exact h1.symm)) hv)) ht
  ·rw [hG] at hs;cases hg:σ.get (2*s+1) with
   |none=>rw [hg] at hs;split at hs <;>cases hs
   |tup xs=>rw [hg] at hs;split at hs <;>cases hs
   |v g cs=>
    rw [hg] at hs;by_cases hk:k=2*s+1
    ·rw [if_pos hk] at hs;cases hs;obtain⟨b1,vals,ty,b2,b3⟩:=hi.box s cs hg;rw [<-hk] at b3;exact⟨by simp [Env.rel,b1,zAD],vals,ty,b2,by rw [<-hk];exact res (zDV b3)⟩
    ·rw [if_neg hk] at hs;cases hs;obtain⟨b1,vals,ty,b2,b3⟩:=hi.box s cs hg;exact⟨by simp [Env.rel,b1,zAD],vals,ty,b2,VRs.imp (fun j x v _ hv=>re (zCC (fun h=>hk (by injection h.1 with h1;exact h1.symm)) hv)) b3⟩
def zGK(C:Ctx)(fn:Func)(I:Info)(ro:CallO)(a:Act)(w:World):Prop:=
 a.defers=[]/\∀tg:List (Nat×Nat),tg.length=I.lnt.length->(∀(n n' :Nat) (t:Nat×Nat),tg[n]? =some t->tg[n']? =some t->n=n')->(∀(n:Nat) (t:Nat×Nat),tg[n]? =some t->∃i,t.1=2*i)->∀m:Nat,
  ∃v E E',E.w=w/\(∃σ:St,Inv C σ.get a.tmps E)/\(results fn a.tmps).run C.P w= .ok v w/\Final C E E' I.ext tg m ro v
def obOf:Res->List Prop
 | .stop _ _ ob=>ob
 | .done _ ob=>ob
def Says(C:Ctx)(fn:Func)(I:Info)(b:Frame)(cs:List Frame)(m:Machine):Res->Prop
 | .stop stk σ _=>∃a w,R C σ a w/\Steps C.P m (lone (b.at a stk) cs w)
 | .done ro _=>∃a w todo,zGK C fn I ro a w/\Steps C.P m (lone { b.at a todo with mode:= .returning } cs w)
theorem Says.of_steps{C:Ctx}{fn:Func}{I:Info}{b:Frame}{cs:List Frame}{m m' :Machine}{res:Res}(h:Steps C.P m m')(hs:Says C fn I b cs m' res):Says C fn I b cs m res:=by
 cases res with
 |stop stk σ ob=>obtain⟨a,w,h1,h2⟩:=hs;exact⟨a,w,h1,h.trans h2⟩
 |done ro ob=>obtain⟨a,w,todo,h1,h2⟩:=hs;exact⟨a,w,todo,h1,h.trans h2⟩
section
variable {C:Ctx} {tt:TT} {I:Info} {fn:Func}
theorem zID{r:RS}{res:Res}(h:fin1 tt I r=some res):∃ro,res= .done ro r.ob.reverse:=by
 unfold fin1 at h;split at h
 ·rename_i xs outs ls h1 h2 h3 h4 h5;cases hc:(zAX (zCi xs I.ext)&&I.lnt.all (fun p=> !(zCi xs I.ext).contains p.1)&&xs.all (fun x=>x.2.2.all CV.plain)&&outs.all (fun o=>o.all CV.plainC)) with
  |false=>rw [hc] at h;cases h
  |true=>rw [hc] at h;cases h;exact⟨_,rfl⟩
 ·cases h
theorem zG0{r:RS}{res:Res}(h:finN tt I r=some res):(∃ro,res= .done ro r.ob.reverse)/\((∃cs,zFR I r.σ=some cs/\res= .done ⟨.tup [(false,[.ptr 0 0]),(true,cs)],[],[]⟩ r.ob.reverse)\/fin1 tt I r=some res):=by
 unfold finN at h;split at h
 ·rename_i cs hc;split at h
  ·cases h;exact⟨⟨_,rfl⟩,.inl ⟨cs,hc,rfl⟩⟩
  ·cases h
 ·exact⟨zID h,.inr h⟩
theorem zIo{r:RS}{res:Res}(h:fin tt I r=some res):∀p∈r.ob,p∈obOf res:=by
 obtain⟨ro,rfl⟩:=(zG0 h).1;exact fun p hp=>List.mem_reverse.2 hp
theorem zFS(htt:TTok C.P tt)(hfn:fn.results.toList=I.results){r:RS}{res:Res}(h:fin tt I r=some res){a:Act}{w:World}(hR:R C r.σ a w):∃ro ob,res= .done ro ob/\zGK C fn I ro a w:=by
 obtain⟨σ,bs,cs,ob⟩:=r;obtain⟨⟨ro,e0⟩,hh⟩:=zG0 h;refine⟨ro,_,e0,hR.1,fun tg h1 h2 h3 m=> ?_⟩;obtain⟨hd,E,rfl,hi⟩:=zFN (zs:=I.fcast) hR;rcases hh with ⟨cs',hc,e⟩|hh
 ·obtain⟨v,E',h4,h5⟩:=zG1 hi hc hfn h1 m;rw [e0] at e;cases e;exact⟨v,E,E',rfl,⟨_,hi⟩,h4,h5⟩
 ·obtain⟨ro',v,E',e,h4,h5⟩:=zIE htt hi hh hfn h1 h2 h3 m;rw [e0] at e;cases e;exact⟨v,E,E',rfl,⟨_,hi⟩,h4,h5⟩
theorem zIp(htt:TTok C.P tt)(hfn:fn.results.toList=I.results)(hnt:C.nt=I.nt)(hext:∀s b,C.ext s=some b->s∈I.ext)(hmix:C.P.follows .mixedOrders=true):∀(n:Nat) (first:Bool) (stk:List Item) (r:RS) (res:Res),
 run tt (AbsCalls C.P) I n first stk r=some res->(∀p∈r.ob,p∈obOf res)/\((∀p∈obOf res,p)->∀a w,R C r.σ a w->∀(b:Frame) (cs:List Frame),Says C fn I b cs (lone (b.at a stk) cs w) res):=by
 intro n
 induction n with
 |zero=>intro first stk r res h;cases h
 |succ n ih=>
  intro first stk r res h
  cases stk with
  |nil=>
   refine⟨zIo h,fun hob a w hR b cs=> ?_⟩;obtain⟨ro,ob,rfl,hd⟩:=zFS htt hfn h hR;exact⟨a,w,[],hd,.one step_end⟩
  |cons it k=>
   cases it with
   |code c=>
    cases c with
    |skip=>
     obtain⟨h1,h2⟩:=ih _ _ _ _ h;exact⟨h1,fun hob a w hR b cs=>(h2 hob a w hR b cs).of_steps (.one step_skip)⟩
    |seq x y=>
     obtain⟨h1,h2⟩:=ih _ _ _ _ h;exact⟨h1,fun hob a w hR b cs=>(h2 hob a w hR b cs).of_steps (.one step_seq)⟩
    |block id x=>
     obtain⟨h1,h2⟩:=ih _ _ _ _ h;exact⟨h1,fun hob a w hR b cs=>(h2 hob a w hR b cs).of_steps (.one step_block)⟩
    |loop x=>
     obtain⟨h1,h2⟩:=ih _ _ _ _ h;exact⟨h1,fun hob a w hR b cs=>(h2 hob a w hR b cs).of_steps (.one step_loop)⟩
    |exit id=>
     simp only [run] at h;split at h
     ·rename_i k' hk;obtain⟨h1,h2⟩:=ih _ _ _ _ h;exact⟨h1,fun hob a w hR b cs=>(h2 hob a w hR b cs).of_steps (.one (step_exit hk))⟩
     ·cases h
    |ret=>
     refine⟨zIo h,fun hob a w hR b cs=> ?_⟩;obtain⟨ro,ob,rfl,hd⟩:=zFS htt hfn h hR;exact⟨a,w,_,hd,.one step_ret⟩
    |cond x c1 c2=>
     simp only [run] at h;split at h
     ·rename_i v u lit bs hv hbs;obtain⟨h1,h2⟩:=ih _ _ _ _ h;refine⟨fun p hp=>h1 p (List.mem_cons_of_mem _ hp),fun hob a w hR b cs=> ?_⟩;have hlit:v=lit:=hob _ (h1 _ List.mem_cons_self);obtain⟨hd,E,rfl,hi⟩:=hR;obtain⟨_,hx⟩:=zAo (σ:=r.σ) (u:=[]) (a:=a) hi (show Mr (opc tt 0 x) r.σ []=_ from hv);have hev:a.eval x= .bool v:=hx (.h 0) 0;have hcode:(if v=true then c1 else c2)=cond lit c1 c2:=by subst hlit;cases v <;>rfl
      refine(h2 hob a E.w ⟨hd,E,rfl,hi⟩ b cs).of_steps ?_;rw [<-hcode];exact .one (step_cond hev)
     ·cases h
    |region id ops draw=>
     simp only [run] at h;split at h
     ·rename_i ks hks;split at h
      ·split at h
       ·rename_i σ' hσ;cases h;exact⟨fun p hp=>List.mem_reverse.2 hp,fun hob a w hR b cs=>⟨a,w,zFN (zEd hσ hext hR),.refl _ _⟩⟩
       ·cases h
      ·cases h
     ·cases draw with
      |false=>
       simp only [jF] at h;split at h
       ·rename_i r1 hr;split at h
        ·rename_i σ' hσ;obtain⟨h1,h2⟩:=ih _ _ _ _ h;have hob1:∀p∈r1.ob,p∈obOf res:=h1;refine⟨fun p hp=>hob1 p (zEV hr p hp),fun hob a w hR b cs=> ?_⟩;have hwp:(Code.region id ops false).wp C.P (fun e a' w' =>e= .normal/\R C r1.σ a' w') a w:=by
          refine wp_region ?_;rw [List.range_eq_range'];have:=zIg (Q:=fun e a' w' =>e= .normal/\R C r1.σ a' w') htt hnt hr (by simp) hR ⟨by simp⟩ (fun p hp=>hob p (hob1 p hp)) (fun a' w' h=>⟨rfl,h⟩)
          rwa [Array.length_toList] at this
         obtain⟨e,a',w',⟨rfl,hR'⟩,harr⟩:=hwp b k cs;exact(h2 hob a' w' (zEd hσ hext hR') b cs).of_steps harr
        ·cases h
       ·cases h
      |true=>
       simp only [jT] at h;split at h
       ·rename_i r1 lg hr;cases hok:zDW ops (zB9 ops) lg r.σ with
        |false=>rw [hok] at h;cases h
        |true=>
         rw [hok] at h;simp only [jT] at h;split at h
         ·rename_i σ' hσ;obtain⟨h1,h2⟩:=ih _ _ _ _ h;have hob1:∀p∈r1.ob,p∈obOf res:=h1;refine⟨fun p hp=>hob1 p ((zDD hr).2.1 p hp),fun hob a w hR b cs=> ?_⟩;have hwp:(Code.region id ops true).wp C.P (fun e a' w' =>e= .normal/\R C r1.σ a' w') a w:=by
           refine wp_region_any hmix ?_;exact zIA (Q:=fun e a' w' =>e= .normal/\R C r1.σ a' w') htt hnt hr hok (R.drew hR rfl rfl rfl rfl) (fun p hp=>hob p (hob1 p hp)) (fun a' w' h=>⟨rfl,h⟩)
          obtain⟨e,a',w',⟨rfl,hR'⟩,harr⟩:=hwp b k cs;exact(h2 hob a' w' (zEd hσ hext hR') b cs).of_steps harr
         ·cases h
       ·cases h
    |_=>simp only [run] at h;cases h
   |inBlock id=>
    obtain⟨h1,h2⟩:=ih _ _ _ _ h;exact⟨h1,fun hob a w hR b cs=>(h2 hob a w hR b cs).of_steps (.one step_inBlock)⟩
   |inLoop x=>
    obtain⟨h1,h2⟩:=ih _ _ _ _ h;exact⟨h1,fun hob a w hR b cs=>(h2 hob a w hR b cs).of_steps (.one step_inLoop)⟩
   |_=>simp only [run] at h;cases h
end
end Go.Ab
end
section
namespace Go.Ab
variable [Inhabited Lb]
structure FnOk (P:Program) (f:FuncId) (fn:Func) (I:Info):Prop where
 get:P.funcs[f]? =some fn
 body:fn.body=some I.body
 nt:fn.ntmps=I.nt
 res:fn.results.toList=I.results
 name:(fn.name== "runtime.NumGoroutine")=false
def Reach(P:Program)(fn:Func)(I:Info)(stk:List Item)(σ:St)(ro:CallO):Prop:=
 ∀C:Ctx,C.P=P->C.nt=I.nt->(∀s b,C.ext s=some b->s∈I.ext)->∀a w,R C σ a w->∀(b:Frame) (cs:List Frame),
  ∃a' w' todo,zGK C fn I ro a' w' /\Steps P (lone (b.at a stk) cs w) (lone { b.at a' todo with mode:= .returning } cs w')
section
variable {P:Program} {tt:TT} {f:FuncId} {fn:Func} {I:Info}
theorem Reach.done(htt:TTok P tt)(hmix:P.follows .mixedOrders=true)(hf:FnOk P f fn I){n:Nat}{first:Bool}{stk:List Item}{σ:St}{bs:List Bool}{cs:List CallO}{ro:CallO}{ob:List Prop}
 (h:run tt (AbsCalls P) I n first stk ⟨σ,bs,cs,[]⟩=some (.done ro ob)) (hob:∀p∈ob,p):Reach P fn I stk σ ro:=by
 intro C hP hnt hext a w hR b cs;subst hP;exact(zIp htt hf.res hnt hext hmix n first stk _ _ h).2 hob a w hR b cs
theorem Reach.stop(htt:TTok P tt)(hmix:P.follows .mixedOrders=true)(hf:FnOk P f fn I){n:Nat}{first:Bool}{stk stk' :List Item}{σ σ' :St}{bs:List Bool}{cs:List CallO}{ro:CallO}{ob:List Prop}
 (h:run tt (AbsCalls P) I n first stk ⟨σ,bs,cs,[]⟩=some (.stop stk' σ' ob)) (hob:∀p∈ob,p) (hr:Reach P fn I stk' σ' ro):Reach P fn I stk σ ro:=by
 intro C hP hnt hext a w hR b cs;have hr:=hr C hP hnt hext;subst hP;obtain⟨a1,w1,h1,h2⟩:=(zIp htt hf.res hnt hext hmix n first stk _ _ h).2 hob a w hR b cs;obtain⟨a',w',todo,h3,h4⟩:=hr a1 w1 h1 b cs;exact⟨a',w',todo,h3,h2.trans h4⟩
def zA9:Nat->List Arg->St
 |_,[]=> []
 |i,.val a::as=>(2*i,a)::zA9 (i+1) as
 |i,.box cs::as=>(2*i,.v false [.ptr i 0])::(2*i+1,.v true cs)::zA9 (i+1) as
 |i,.gbox cs::as=>(2*gi i+1,.v true cs)::zA9 (i+1) as
theorem zGd:∀ {as:List Arg} {i s:Nat},s∈zAp i as↔∃(j:Nat) (cs:List CV),(s=i+j/\as[j]? =some (.box cs))\/(s=gi (i+j)/\as[j]? =some (.gbox cs)):=by
 intro as
 induction as with
 |nil=>intro i s;simp [zAp]
 |cons x as ih=>
  intro i s
  have up:(∃(j:Nat) (cs:List CV),(s=i+1+j/\as[j]? =some (.box cs))\/(s=gi (i+1+j)/\as[j]? =some (.gbox cs)))->
   ∃(j:Nat) (cs:List CV),(s=i+j/\(x::as)[j]? =some (.box cs))\/(s=gi (i+j)/\(x::as)[j]? =some (.gbox cs)):=by
   rintro ⟨j,cs,⟨rfl,h⟩|⟨rfl,h⟩⟩
   ·exact⟨j+1,cs,.inl ⟨by omega,by simpa using h⟩⟩
   ·exact⟨j+1,cs,.inr ⟨by rw [show i+1+j=i+(j+1) from by omega],by simpa using h⟩⟩
  have down:∀ {j:Nat} {cs:List CV},(s=i+(j+1)/\(x::as)[j+1]? =some (.box cs))\/(s=gi (i+(j+1))/\(x::as)[j+1]? =some (.gbox cs))->
   ∃(j:Nat) (cs:List CV),(s=i+1+j/\as[j]? =some (.box cs))\/(s=gi (i+1+j)/\as[j]? =some (.gbox cs)):=by
   rintro j cs (⟨rfl,h⟩|⟨rfl,h⟩)
   ·exact⟨j,cs,.inl ⟨by omega,by simpa using h⟩⟩
   ·exact⟨j,cs,.inr ⟨by rw [show i+1+j=i+(j+1) from by omega],by simpa using h⟩⟩
  cases x with
  |val a=>
   rw [zAp,ih];constructor
   ·exact up
   ·rintro ⟨j,cs,h⟩;cases j with
    |zero=>simp at h
    |succ j=>exact down h
  |box cs0=>
   rw [zAp,List.mem_cons,ih];constructor
   ·rintro (rfl|h)
    ·exact⟨0,cs0,.inl ⟨rfl,rfl⟩⟩
    ·exact up h
   ·rintro ⟨j,cs,h⟩;cases j with
    |zero=>
     rcases h with h|h
     ·exact .inl h.1
     ·simp at h
    |succ j=>exact .inr (down h)
  |gbox cs0=>
   rw [zAp,List.mem_cons,ih];constructor
   ·rintro (rfl|h)
    ·exact⟨0,cs0,.inr ⟨rfl,rfl⟩⟩
    ·exact up h
   ·rintro ⟨j,cs,h⟩;cases j with
    |zero=>
     rcases h with h|h
     ·simp at h
     ·exact .inl h.1
    |succ j=>exact .inr (down h)
theorem zGM{E E' :Env}:∀ {as:List Arg} {k:Nat} {outs:List (List CV)},outs.length=(zAp k as).length->
 (∀(n s:Nat) (o:List CV),(zAp k as)[n]? =some s->outs[n]? =some o->zBr E' s (E.bx s) o)->zBM E E' k as outs:=by
 intro as
 induction as with
 |nil=>intro k outs h _;cases outs <;>simp_all [zBM,zAp]
 |cons x as ih=>
  intro k outs h hh;cases x with
  |val a=>exact ih (k:=k+1) h hh
  |box cs=>
   cases outs with
   |nil=>simp [zAp] at h
   |cons o os=>exact⟨hh 0 k o rfl rfl,ih (k:=k+1) (by simpa [zAp] using h) fun n s o' h1 h2=>hh (n+1) s o' (by simpa [zAp] using h1) (by simpa using h2)⟩
  |gbox cs=>
   cases outs with
   |nil=>simp [zAp] at h
   |cons o os=>exact⟨hh 0 _ o rfl rfl,ih (k:=k+1) (by simpa [zAp] using h) fun n s o' h1 h2=>hh (n+1) s o' (by simpa [zAp] using h1) (by simpa using h2)⟩
theorem zEM:∀ {as:List Arg} {i n:Nat} {t:Nat×Nat},(zAE i as)[n]? =some t->∃q,t.1=2*q:=by
 intro as
 induction as with
 |nil=>intro i n t h;simp [zAE] at h
 |cons x as ih=>
  intro i n t h;cases x with
  |val y=>
   cases y with
   |v g cs=>
    simp only [zAE] at h;by_cases hn:n<(zAk (2*i) 0 cs).length
    ·rw [List.getElem?_append_left hn] at h;exact⟨i,(zAV h).1⟩
    ·rw [List.getElem?_append_right (by omega)] at h;exact ih h
   |_=>exact ih (i:=i+1) h
  |box cs=>exact ih (i:=i+1) h
  |gbox cs=>exact ih (i:=i+1) h
theorem zEy:∀ {as:List Arg} {i:Nat} (q:Nat),St.get (zA9 i as) q= .none\/∃(j:Nat) (s:List Nat) (m:Bool),
 (∃a,as[j]? =some (.val a)/\q=2*(i+j)/\St.get (zA9 i as) q=a.mapC (CV.stale s m))\/
 (∃cs,as[j]? =some (.box cs)/\q=2*(i+j)/\St.get (zA9 i as) q= .v false [.ptr (i+j) 0])\/
 (∃cs,as[j]? =some (.box cs)/\q=2*(i+j)+1/\St.get (zA9 i as) q= .v true (cs.map (CV.stale s m)))\/
 (∃cs,as[j]? =some (.gbox cs)/\q=2*gi (i+j)+1/\St.get (zA9 i as) q= .v true (cs.map (CV.stale s m))):=by
 intro as
 induction as with
 |nil=>intro i q;exact .inl rfl
 |cons x as ih=>
  intro i q
  have tail:∀(k:Nat) (v:AV) (S:St),(St.get S q= .none\/∃(j:Nat) (s:List Nat) (m:Bool),
   (∃a,(x::as)[j]? =some (.val a)/\q=2*(i+j)/\St.get S q=a.mapC (CV.stale s m))\/
   (∃cs,(x::as)[j]? =some (.box cs)/\q=2*(i+j)/\St.get S q= .v false [.ptr (i+j) 0])\/
   (∃cs,(x::as)[j]? =some (.box cs)/\q=2*(i+j)+1/\St.get S q= .v true (cs.map (CV.stale s m)))\/
   (∃cs,(x::as)[j]? =some (.gbox cs)/\q=2*gi (i+j)+1/\St.get S q= .v true (cs.map (CV.stale s m))))->k≠q->
   (St.get ((k,v)::S) q= .none\/∃(j:Nat) (s:List Nat) (m:Bool),
   (∃a,(x::as)[j]? =some (.val a)/\q=2*(i+j)/\St.get ((k,v)::S) q=a.mapC (CV.stale s m))\/
   (∃cs,(x::as)[j]? =some (.box cs)/\q=2*(i+j)/\St.get ((k,v)::S) q= .v false [.ptr (i+j) 0])\/
   (∃cs,(x::as)[j]? =some (.box cs)/\q=2*(i+j)+1/\St.get ((k,v)::S) q= .v true (cs.map (CV.stale s m)))\/
   (∃cs,(x::as)[j]? =some (.gbox cs)/\q=2*gi (i+j)+1/\St.get ((k,v)::S) q= .v true (cs.map (CV.stale s m)))):=by
   intro k v S h hk;rw [St.get_cons,if_neg hk];have comp:∀(s:List Nat) (m:Bool) (c:CV),(c.stale s m).stale [k] (k.beq zAe)=c.stale (s++ [k]) (m||k.beq zAe):=fun s m c=>CV.stale_stale c (fun q=>by simp) rfl;rcases h with h|⟨j,s,m,⟨a,h1,h2,h3⟩|⟨cs,h1,h2,h3⟩|⟨cs,h1,h2,h3⟩|⟨cs,h1,h2,h3⟩⟩
   ·exact .inl (by rw [h];rfl)
   ·refine .inr ⟨j,s++ [k],m||k.beq zAe,.inl ⟨a,h1,h2,?_⟩⟩;rw [h3,AV.mapC_comp];congr 1;funext c;exact comp s m c
   ·refine .inr ⟨j,[],false,.inr (.inl ⟨cs,h1,h2,?_⟩)⟩;rw [h3];simp [AV.mapC,CV.stale,CV.onKey,CV.isBor]
   ·refine .inr ⟨j,s++ [k],m||k.beq zAe,.inr (.inr (.inl ⟨cs,h1,h2,?_⟩))⟩;rw [h3];simp only [AV.mapC,List.map_map];congr 1;exact List.map_congr_left fun c _=>comp s m c
   ·refine .inr ⟨j,s++ [k],m||k.beq zAe,.inr (.inr (.inr ⟨cs,h1,h2,?_⟩))⟩;rw [h3];simp only [AV.mapC,List.map_map];congr 1;exact List.map_congr_left fun c _=>comp s m c
  have sub:St.get (zA9 (i+1) as) q= .none\/∃(j:Nat) (s:List Nat) (m:Bool),
   (∃a,(x::as)[j]? =some (.val a)/\q=2*(i+j)/\St.get (zA9 (i+1) as) q=a.mapC (CV.stale s m))\/
   (∃cs,(x::as)[j]? =some (.box cs)/\q=2*(i+j)/\St.get (zA9 (i+1) as) q= .v false [.ptr (i+j) 0])\/
   (∃cs,(x::as)[j]? =some (.box cs)/\q=2*(i+j)+1/\St.get (zA9 (i+1) as) q= .v true (cs.map (CV.stale s m)))\/
   (∃cs,(x::as)[j]? =some (.gbox cs)/\q=2*gi (i+j)+1/\St.get (zA9 (i+1) as) q= .v true (cs.map (CV.stale s m))):=by
   rcases ih (i:=i+1) q with h|⟨j,s,m,h⟩
   ·exact .inl h
   ·refine .inr ⟨j+1,s,m,?_⟩;rw [show i+1+j=i+(j+1) from by omega] at h;simpa using h
  cases x with
  |val a=>
   rw [zA9];by_cases hk:2*i=q
   ·refine .inr ⟨0,[],false,.inl ⟨a,rfl,hk.symm,?_⟩⟩;rw [St.get_cons,if_pos hk];exact(AV.mapC_id CV.stale_nil a).symm
   ·exact tail _ _ _ sub hk
  |box cs=>
   rw [zA9];by_cases hk:2*i=q
   ·refine .inr ⟨0,[],false,.inr (.inl ⟨cs,rfl,hk.symm,?_⟩)⟩;rw [St.get_cons,if_pos hk];rfl
   ·by_cases hk2:2*i+1=q
    ·refine .inr ⟨0,[2*i],(2*i).beq zAe,.inr (.inr (.inl ⟨cs,rfl,hk2.symm,?_⟩))⟩;rw [St.get_cons,if_neg hk,St.get_cons,if_pos hk2];rfl
    ·exact tail _ _ _ (tail _ _ _ sub hk2) hk
  |gbox cs=>
   rw [zA9];by_cases hk2:2*gi i+1=q
   ·refine .inr ⟨0,[],false,.inr (.inr (.inr ⟨cs,rfl,hk2.symm,?_⟩))⟩;rw [St.get_cons,if_pos hk2];exact(AV.mapC_id CV.stale_nil (.v true cs)).symm
   ·exact tail _ _ _ sub hk2
theorem zF5{E:Env}:∀ {as:List Arg} {vs:List Value} {i:Nat},ArgsAt E i as vs->vs.length<=as.length/\∀(j:Nat) (x:Arg),as[j]? =some x->
 (∃cs,x= .gbox cs/\vs.length<=j/\zBr E (gi (i+j)) (E.bx (gi (i+j))) cs)\/∃v,vs[j]? =some v/\zHE E (i+j) x v:=by
 intro as
 induction as with
 |nil=>intro vs i h;cases vs <;>simp_all [ArgsAt]
 |cons x as ih=>
  intro vs i h;cases vs with
  |nil=>
   cases x with
   |val a=>exact h.elim
   |box cs=>exact h.elim
   |gbox cs=>
    obtain⟨h0,h1⟩:=h;obtain⟨i1,i2⟩:=ih h1;refine⟨Nat.zero_le _,fun j y hy=> ?_⟩;cases j with
    |zero=>simp at hy;subst hy;exact .inl ⟨cs,rfl,Nat.zero_le _,h0⟩
    |succ j=>
     have:=i2 j y (by simpa using hy);rw [show i+1+j=i+(j+1) from by omega] at this;rcases this with ⟨cs,rfl,_,hb⟩|⟨v,hv,_⟩
     ·exact .inl ⟨cs,rfl,Nat.zero_le _,hb⟩
     ·simp at hv
  |cons v vs=>
   have h:zHE E i x v/\ArgsAt E (i+1) as vs:=by cases x <;>exact h
   obtain⟨i1,i2⟩:=ih h.2;refine⟨by simp [i1],fun j y hy=> ?_⟩;cases j with
   |zero=>simp at hy;subst hy;exact .inr ⟨v,rfl,h.1⟩
   |succ j=>
    have:=i2 j y (by simpa using hy);rw [show i+1+j=i+(j+1) from by omega] at this;rcases this with ⟨cs,rfl,h1,hb⟩|⟨w,h1,h2⟩
    ·exact .inl ⟨cs,rfl,by simpa using h1,hb⟩
    ·exact .inr ⟨w,by simpa using h1,h2⟩
def CV.refOk(bs:List Nat):CV->Bool
 | .ptr _ _=>false
 | .clo _ ss=>ss.all fun s=>bs.contains s
 |_=>true
def Arg.refOk(bs:List Nat):Arg->Bool
 | .val (.v _ cs)=>cs.all (CV.refOk bs)
 | .val .none=>true
 | .val (.tup _)=>false
 | .box cs=>cs.all (CV.refOk bs)
 | .gbox cs=>cs.all (CV.refOk bs)
def zI1(as:List Arg):Bool:=as.all (Arg.refOk (zAp 0 as))
theorem AbsCalls.of_reach(hf:FnOk P f fn I){as:List Arg}{ro:CallO}(hwf:zI1 as=true)(hext:I.ext=zAp 0 as)(hlen:(zAE 0 as).length=I.lnt.length)(hn:as.length<=I.nt)(h:Reach P fn I [.code I.body] (zA9 0 as) ro):
 AbsCalls P f as ro:=by
 intro E args hE hB hA;obtain⟨g1,g2⟩:=zF5 hA;have hbody:fn.body.isNone=false:=by rw [hf.body];rfl
 refine .inr ⟨?_,?_⟩
 ·unfold callFunc;simp only [Sem.run_bind,run_program,Result.andThen_ok,hf.get,hf.name,hbody]
  rfl
 ·intro cs
  let b:Frame:= { (default:Frame) with fn:=f,kind:= .normal }
  have henter:Frame.enter P f args .normal=b.at { tmps:=args++Array.replicate (fn.ntmps - args.size) undef,defers:=[] } [.code I.body]:=by
   simp [Frame.enter,Frame.at,hf.get,hf.body,b]
  let C:Ctx:=⟨P,E.w.heap.size,E.w,E.hw,E.ow,E.hdr,I.nt,fun s=>if s∈zAp 0 as then some (E.bx s) else none⟩
  have hsz:args.size<=as.length:=by rw [<-Array.length_toList];exact g1
  have htm:∀j,(args++Array.replicate (fn.ntmps - args.size) undef).getD j undef=args.getD j undef:=by
   intro j;simp only [Array.getD_eq_getD_getElem?];by_cases hj:j<args.size
   ·rw [Array.getElem?_append_left hj]
   ·rw [Array.getElem?_append_right (by omega),Array.getElem?_eq_none (by omega:args.size<=j)];rw [Array.getElem?_replicate];split <;>rfl
  have hbx:∀s,s∈zAp 0 as->zAd (St.get (zA9 0 as)) s:=by
   have push:∀(k:Nat) (v:AV) (S:St) (q:Nat),k≠q->(∃cs',St.get S q= .v true cs')->∃cs',St.get ((k,v)::S) q= .v true cs' :=by
    rintro k v S q hk ⟨cs',h⟩;rw [St.get_cons,if_neg hk,h];exact⟨_,rfl⟩
   have key:∀ {as:List Arg} {i s:Nat},s∈zAp i as->∃cs',St.get (zA9 i as) (2*s+1)= .v true cs' :=by
    intro as
    induction as with
    |nil=>intro i s h;cases h
    |cons x as ih=>
     intro i s h;cases x with
     |val a=>rw [zA9];exact push _ _ _ _ (by omega) (ih h)
     |box cs=>
      rw [zA9];refine push _ _ _ _ (by omega) ?_;by_cases e:2*i+1=2*s+1
      ·rw [St.get_cons,if_pos e];exact⟨_,rfl⟩
      ·rcases List.mem_cons.1 h with rfl|h
       ·exact absurd rfl e
       ·exact push _ _ _ _ e (ih h)
     |gbox cs=>
      rw [zA9];by_cases e:2*gi i+1=2*s+1
      ·rw [St.get_cons,if_pos e];exact⟨_,rfl⟩
      ·rcases List.mem_cons.1 h with rfl|h
       ·exact absurd rfl e
       ·exact push _ _ _ _ e (ih h)
   exact fun s hs=>key hs
  have hcell:∀ {pl:Pl} {j:Nat} {x:CV} {v:Value},x.refOk (zAp 0 as)=true->VRc E zAI pl j x v->VRc E (zAd (St.get (zA9 0 as))) pl j x v:=fun {pl j x v} hx hv=>
   hv.rebox (fun s off e=>by subst e;cases hx) fun k ss e s hm=>by subst e;exact hbx s (List.contains_iff_mem.1 (List.all_eq_true.1 hx s hm))
  have hR:R C (zA9 0 as) { tmps:=args++Array.replicate (fn.ntmps - args.size) undef,defers:=[] } E.w:=by
   refine⟨rfl,E,rfl,⟨rfl,rfl,rfl,Nat.le_refl _,rfl,fun b hb h0=>⟨rfl,rfl,h0⟩,hE.new,hE.inj,hE.boxhw,?_,fun t=> ?_,fun s cs' hg=> ?_,fun s b hs=> ?_,hB⟩⟩
   ·show(args++Array.replicate (fn.ntmps - args.size) undef).size=I.nt;rw [Array.size_append,Array.size_replicate,hf.nt];omega
   ·have h0:=htm t;show VR E _ _ _ ((args++Array.replicate (fn.ntmps - args.size) undef).getD t undef);rw [h0];rcases zEy (as:=as) (i:=0) (2*t) with hg|⟨j,s,m,⟨a,h1,h2,h3⟩|⟨cs,h1,h2,h3⟩|⟨cs,h1,h2,h3⟩|⟨cs,h1,h2,h3⟩⟩
    ·rw [hg];trivial
    ·have hjt:t=j:=by omega
     subst hjt;rw [h3];obtain⟨cs',e,_⟩|⟨v,hv,hav⟩:=g2 t _ h1
     ·cases e
     have:args.getD t undef=v:=by
      rw [Array.getD_eq_getD_getElem?,<-Array.getElem?_toList,hv];rfl
     rw [this];rw [Nat.zero_add] at hav;have hwa:=List.all_eq_true.1 hwf _ (List.mem_of_getElem? h1);refine VR.imp (fun j x v hm hv=> ?_) hav;rcases CV.stale_eq (s:=s) (m:=m) x with e|⟨e,_⟩
     ·rw [e];exact hv.one
     ·rw [e];refine hcell ?_ hv;cases a with
      |v g cs=>exact List.all_eq_true.1 hwa x hm
      |tup xs=>cases hwa
      |none=>exact hm.elim
    ·have hjt:t=j:=by omega
     subst hjt;rw [h3];obtain⟨cs',e,_⟩|⟨v,hv,hav⟩:=g2 t _ h1
     ·cases e
     have:args.getD t undef=v:=by
      rw [Array.getD_eq_getD_getElem?,<-Array.getElem?_toList,hv];rfl
     rw [this];rw [Nat.zero_add] at hav ⊢;exact⟨⟨hav.1,hbx t (zGd.2 ⟨t,cs,.inl ⟨by omega,h1⟩⟩)⟩,trivial⟩
    ·omega
    ·omega
   ·rcases zEy (as:=as) (i:=0) (2*s+1) with hg0|⟨j,s1,m,⟨a,h1,h2,h3⟩|⟨cs,h1,h2,h3⟩|⟨cs,h1,h2,h3⟩|⟨cs,h1,h2,h3⟩⟩
    ·rw [hg0] at hg;cases hg
    ·omega
    ·omega
    ·have hjt:s=j:=by omega
     subst hjt;rw [h3] at hg;cases hg;obtain⟨cs',e,_⟩|⟨v,hv,hav⟩:=g2 s _ h1
     ·cases e
     rw [Nat.zero_add] at hav;obtain⟨_,b1,vals,ty,b2,b3⟩:=hav;have hwa:=List.all_eq_true.1 hwf _ (List.mem_of_getElem? h1);refine⟨b1,vals,ty,b2,VRs.imp (fun j x v hm hv=> ?_) b3⟩;rcases CV.stale_eq (s:=s1) (m:=m) x with e|⟨e,_⟩
     ·rw [e];exact hv.one
     ·rw [e];exact hcell (List.all_eq_true.1 hwa x hm) hv
    ·have hjt:s=gi (0+j):=by omega
     rw [h3] at hg;cases hg;obtain⟨cs',e,_,hb⟩|⟨v,hv,hav⟩:=g2 j _ h1
     ·cases e;rw [<-hjt] at hb;obtain⟨b1,vals,ty,b2,b3⟩:=hb;have hwa:=List.all_eq_true.1 hwf _ (List.mem_of_getElem? h1);refine⟨b1,vals,ty,b2,VRs.imp (fun j x v hm hv=> ?_) b3⟩;rcases CV.stale_eq (s:=s1) (m:=m) x with e|⟨e,_⟩
      ·rw [e];exact hv.one
      ·rw [e];exact hcell (List.all_eq_true.1 hwa x hm) hv
     ·exact hav.elim
   ·have hs:(if s∈zAp 0 as then some (E.bx s) else none)=some b:=hs;split at hs
    ·rename_i hm;cases hs;exact⟨hbx s hm,rfl⟩
    ·cases hs
  obtain⟨a',w',todo,⟨hd,hdone⟩,hsteps⟩:=h C rfl rfl (fun s b hs=>by
   have hs:(if s∈zAp 0 as then some (E.bx s) else none)=some b:=hs;split at hs
   ·rename_i hm;rw [hext];exact hm
   ·cases hs) _ _ hR b cs
  obtain⟨v,Ef,E',rfl,⟨σf,hif⟩,hres,hfin⟩:=hdone (zAE 0 as) hlen (fun n n' t=>zDr) (fun n t=>zEM) as.length;refine⟨.returned v,Ef.w,{ b.at a' todo with mode:= .returning },⟨E',hfin.w,?_⟩,?_,rfl,⟨rfl,hd,rfl,fn,hf.get,hres⟩⟩
  ·refine⟨by rw [hfin.w];exact hif.os,by rw [hfin.w];exact hif.tape,by rw [hfin.w];exact hif.output,by rw [hfin.w];exact hif.size,by rw [hfin.hdr];exact hif.hdr,fun b hb h0=> ?_,hfin.env,hfin.res,?_,hfin.lents,fun s hs=>by
    have he:C.ext s=some (E.bx s):=by show(if s∈zAp 0 as then some (E.bx s) else none)=_;rw [if_pos hs]
    rw [hfin.bx];exact(hif.ext s _ he).2⟩
   ·obtain⟨a1,a2,a3⟩:=hif.old b hb h0;exact⟨by rw [hfin.w];exact a1,by rw [hfin.hw];exact a2,hfin.ow b a3⟩
   ·have hl:=hfin.outl;have ho:=hfin.outs;rw [hext] at hl ho;refine zGM hl fun n s o h1 h2=> ?_;have hm:s∈zAp 0 as:=List.mem_of_getElem? h1;have he:C.ext s=some (E.bx s):=by show(if s∈zAp 0 as then some (E.bx s) else none)=_;rw [if_pos hm]
    rw [<-(hif.ext s _ he).2];exact ho n s o h1 h2
  ·rw [henter];exact hsteps
end
end Go.Ab
end
section
namespace Go.Ab
variable [Inhabited Lb]
def zBn(P:Program):Nat->List Field->List CV->Bool
 |_,[],[]=>true
 |o,f::fs,.int k _::z=>(f.name != "_")&&f.offset.beq o&&(match P.underlying f.type with |some (.int k')=>decide (k=k') |_=>false)&&zBn P (o+1) fs z
 |o,f::fs,.str _::z=>(f.name != "_")&&f.offset.beq o&&(match P.underlying f.type with |some .string=>true|_=>false)&&zBn P (o+1) fs z
 |o,f::fs,.bool _::z=>(f.name != "_")&&f.offset.beq o&&(match P.underlying f.type with |some .bool=>true|_=>false)&&zBn P (o+1) fs z
 |_,_,_=>false
def zFD(P:Program)(t:TypeId)(z:Option (List CV)):Bool:=match P.underlying t,z with
 |some (.struct fs),some z=>zBn P 0 fs.toList z&& !P.stoodInHeld t&& !P.eqGuardType P.depth t
 |_,_=>false
theorem zE6{k k' :IntKind}{n m:Int}{as bs:List CV}{r:Bool}(h:zAL (.int k n::as) (.int k' m::bs)=some r):
 (as=[]/\bs=[]/\r=(n==m))\/∃y,zAL as bs=some y/\r=((n==m)&&y):=by
 unfold zAL at h;split at h <;>simp_all;rcases h with ⟨h1,rfl⟩|⟨h1,rfl⟩
 ·exact .inr (.inl ⟨h1,rfl⟩)
 ·exact .inr (.inr ⟨h1,rfl⟩)
theorem zE7{n m:Str}{as bs:List CV}{r:Bool}(h:zAL (.str n::as) (.str m::bs)=some r):
 (as=[]/\bs=[]/\r=(n==m))\/∃y,zAL as bs=some y/\r=((n==m)&&y):=by
 unfold zAL at h;split at h <;>simp_all;rcases h with ⟨h1,rfl⟩|⟨h1,rfl⟩
 ·exact .inr (.inl ⟨h1,rfl⟩)
 ·exact .inr (.inr ⟨h1,rfl⟩)
theorem zEv{n m:Bool}{as bs:List CV}{r:Bool}(h:zAL (.bool n::as) (.bool m::bs)=some r):
 (as=[]/\bs=[]/\r=(n==m))\/∃y,zAL as bs=some y/\r=((n==m)&&y):=by
 unfold zAL at h;split at h <;>simp_all;rcases h with ⟨h1,rfl⟩|⟨h1,rfl⟩
 ·exact .inr (.inl ⟨h1,rfl⟩)
 ·exact .inr (.inr ⟨h1,rfl⟩)
section
variable {P:Program} {w:World} {E:Env} {bxs:Nat->Prop} {pl:Pl}
theorem zDH{e:TypeId}(he:P.plainKey e=true){xs:Array Value}{o:Nat}{v:Value}{vs:List Value}(hx:xs.toList.drop o=v::vs):(part e xs o).run P w= .ok v w:=by
 refine run_part_plain w he ?_;have:(xs.toList.drop o)[0]? =some v:=by rw [hx];rfl
 simpa using this
theorem zEx{α:Type}{xs:List α}{o:Nat}{v:α}{vs:List α}(h:xs.drop o=v::vs):xs.drop (o+1)=vs:=by
 rw [<-List.drop_drop,h];rfl
theorem zE9(d:Nat){xs ys:Array Value}:∀ {fs:List Field} {z as bs:List CV} {o:Nat} {r:Bool} {us vs:List Value},zBn P o fs z=true->zAJ z as=true->zAJ z bs=true->zAL as bs=some r->
 xs.toList.drop o=us->ys.toList.drop o=vs->VRs E bxs pl o as us->VRs E bxs pl o bs vs->(Op.eqFields (d+1) xs ys fs).run P w= .ok r w:=by
 intro fs
 induction fs with
 |nil=>
  intro z as bs o r us vs h1 h2 h3 h4;cases z with
  |nil=>cases as <;>cases bs <;>simp_all [zAJ,zAL]
  |cons z0 z=>simp [zBn] at h1
 |cons f fs ih=>
  intro z as bs o r us vs h1 h2 h3 h4 hus hvs hA hB;have nilcase:∀ {z as bs:List CV},zBn P (o+1) fs z=true->zAJ z as=true->as=[]->fs=[]:=by
   intro z as bs g1 g2 g3;subst g3;cases z with
   |nil=>cases fs <;>simp_all [zBn]
   |cons z0 z=>cases z0 <;>simp [zAJ] at g2
  have go:∀ {t:TypeId} {u v:Value} {us' vs' :List Value} {x y:Bool} {z as bs:List CV},f.type=t->f.offset=o->f.name≠ "_" ->P.plainKey f.type=true->us=u::us' ->vs=v::vs' ->(Op.equalIn (d+1) f.type u v).run P w= .ok x w->
   zBn P (o+1) fs z=true->zAJ z as=true->zAJ z bs=true->VRs E bxs pl (o+1) as us' ->VRs E bxs pl (o+1) bs vs' ->
   ((as=[]/\bs=[]/\r=x)\/∃y,zAL as bs=some y/\r=(x&&y))->(Op.eqFields (d+1) xs ys (f::fs)).run P w= .ok r w:=by
   intro t u v us' vs' x y z as bs _ ho hn hp hu hv he g1 g2 g3 gA gB hr;subst hu hv;rw [Op.eqFields,if_pos hn,ho];simp only [Sem.run_bind,zDH hp hus,zDH hp hvs,Result.andThen_ok,he];rcases hr with ⟨e1,_,e2⟩|⟨q,hq,rfl⟩
   ·obtain rfl:=nilcase (bs:=bs) g1 g2 e1;rw [e2];cases x <;>simp [Op.eqFields]
   ·cases x
    ·simp
    ·simp only [Bool.not_true,Bool.false_eq_true,if_false,Bool.true_and];exact ih g1 g2 g3 hq (zEx hus) (zEx hvs) gA gB
  cases z with
  |nil=>simp [zBn] at h1
  |cons z0 z=>
   cases as with
   |nil=>cases z0 <;>simp [zAJ] at h2
   |cons a as=>
   cases bs with
   |nil=>cases z0 <;>simp [zAJ] at h3
   |cons b bs=>
   cases us with
   |nil=>exact hA.elim
   |cons u us=>
   cases vs with
   |nil=>exact hB.elim
   |cons v vs=>
   cases z0 with
   |int k n0=>
    simp only [zBn,Bool.and_eq_true,bne_iff_ne,ne_eq] at h1;obtain⟨⟨⟨g1,g2⟩,g3⟩,g4⟩:=h1;split at g3
    case h_2=>cases g3
    rename_i k' hu;have g3:=of_decide_eq_true g3;subst g3;cases a <;>simp [zAJ] at h2;cases b <;>simp [zAJ] at h3;rename_i ka na kb nb;obtain⟨rfl,h2⟩:=h2;obtain⟨rfl,h3⟩:=h3;obtain rfl:u= .int k na:=hA.1;obtain rfl:v= .int k nb:=hB.1;exact go (y:=true) rfl (Nat.eq_of_beq_eq_true g2) g1 (by simp [Program.plainKey,hu]) rfl rfl (run_equalIn_int w d _ k k na nb hu) g4 h2 h3 hA.2 hB.2 (zE6 h4)
   |str n0=>
    simp only [zBn,Bool.and_eq_true,bne_iff_ne,ne_eq] at h1;obtain⟨⟨⟨g1,g2⟩,g3⟩,g4⟩:=h1;split at g3
    case h_2=>cases g3
    rename_i hu;cases a <;>simp [zAJ] at h2;cases b <;>simp [zAJ] at h3;rename_i na nb;obtain⟨⟨ta,rfl,ha⟩,hA⟩:=hA;obtain⟨⟨tb,rfl,hb⟩,hB⟩:=hB;refine go (y:=true) rfl (Nat.eq_of_beq_eq_true g2) g1 (by simp [Program.plainKey,hu]) rfl rfl (run_equalIn_string w d _ ta tb hu) g4 h2 h3 hA hB ?_;rw [ByteArray.toList_eq,ByteArray.toList_eq,ha,hb];exact zE7 h4
   |bool n0=>
    simp only [zBn,Bool.and_eq_true,bne_iff_ne,ne_eq] at h1;obtain⟨⟨⟨g1,g2⟩,g3⟩,g4⟩:=h1;split at g3
    case h_2=>cases g3
    rename_i hu;cases a <;>simp [zAJ] at h2;cases b <;>simp [zAJ] at h3;rename_i na nb;obtain rfl:u= .bool na:=hA.1;obtain rfl:v= .bool nb:=hB.1;exact go (y:=true) rfl (Nat.eq_of_beq_eq_true g2) g1 (by simp [Program.plainKey,hu]) rfl rfl (run_equalIn_bool' w d _ na nb hu) g4 h2 h3 hA.2 hB.2 (zEv h4)
   |_=>simp [zBn] at h1
theorem zGD{t:TypeId}{z:Option (List CV)}(h:zFD P t z=true)(a b:Array Value)(w:World)(as bs:List CV)(r:Bool)(E:Env)(bxs:Nat->Prop)(pl:Pl)(hr:zAL as bs=some r)
 (h1:zBB z as=true) (h2:zBB z bs=true) (hA:VRs E bxs pl 0 as a.toList) (hB:VRs E bxs pl 0 bs b.toList) (op:BinOp) (hop:op= .eql\/op= .neq) (x y:Operand):
 (do eqGuard op t x y (.agg a) (.agg b);binOp op t (.agg a) (.agg b):Sem Value).run P w= .ok (.bool (if op= .eql then r else !r)) w:=by
 unfold zFD at h;split at h
 case h_2=>cases h
 rename_i fs z hu;simp only [Bool.and_eq_true,Bool.not_eq_true'] at h;obtain⟨⟨g1,g2⟩,g3⟩:=h;have hf:P.fieldsOf t=fs:=by unfold Program.fieldsOf;rw [hu]
 have e:(Op.equalIn 10000 t (.agg a) (.agg b)).run P w= .ok r w:=by
  rw [run_equalIn_agg w 9999 t a b (by rw [hf];exact hu) g2,hf];exact zE9 9998 g1 h1 h2 hr rfl rfl hA hB
 simp only [Sem.run_bind,run_eqGuard_agg w op t x y a b g3,Result.andThen_ok];rcases hop with rfl|rfl
 ·rw [run_eql_struct,e];rfl
 ·rw [run_neq_struct,e];rfl
end
end Go.Ab
end
section
namespace Go.Ab
variable [Inhabited Lb]
def zBk(P:Program):List Field->List Nat->List Nat->Bool
 | [],[],[]=>true
 |fl::fs,p::ps,n::ns=>(match P.info? fl.type with
  |some j=>fl.offset.beq p&&j.size.beq n&& !(n.beq 0)
  |none=>false)&&zBk P fs ps ns
 |_,_,_=>false
def zIQ(P:Program)(t:TypeId)(i:TI):Bool:=
 match P.info? t,P.underlying t with
 |some ti,some d=>ti.size.beq i.sz&&((match d with | .struct _=>true| .array _ _=>true|_=>false)==i.agg)&&(i.agg||i.sz.beq 1)&&
  (match i.zero with
    |none=>true
    |some z=>match ti.zero with
     |some v=>zBe z v.cells.toList
     |none=>false)&&
  (match d with
    | .struct fs=>zBk P fs.toList i.offs i.fsz
    |_=>i.offs.isEmpty&& !(i.agg&&i.zero.isSome))&&
  (match i.elem with
    |none=>true
    |some (e,T)=>(match d with
     | .slice e' =>e'.beq e&&(match P.info? e with
       |some te=>te.size.beq T.sz&&Nat.blt 0 te.bytes&&te.bytes.ble 256&&(match te.zero with
        |some v=>zBe (T.enc .own T.dflt) v.cells.toList
        |none=>false)
       |none=>false)&&(match T with
        | .byte=>(match P.underlying e with |some (.int .u8)=>true|_=>false)
        |_=>true)
     |_=>false))&&
  (match i.ik with
    |none=>true
    |some k=>match d with | .int k' =>decide (k' =k) |_=>false)&&
  (!i.isStr||match d with | .string=>true|_=>false)&&(!i.isBool||match d with | .bool=>true|_=>false)&&(!i.isFn||match d with | .func _ _ _=>true|_=>false)&&(!i.same||zFD P t i.zero)
 |_,_=>false
theorem zCT{P:Program}:∀ {fs:List Field} {ps ns:List Nat},zBk P fs ps ns=true->ps.length=ns.length/\fs.mapM (fun f=>(P.info? f.type).map fun j=>(f.offset,j.size))=some (ps.zip ns)/\
 ∀(f p:Nat),ps[f]? =some p->∃(fl:Field) (tj:TypeInfo),fs[f]? =some fl/\fl.offset=p/\P.info? fl.type=some tj/\tj.size≠0/\ns[f]? =some tj.size:=by
 intro fs
 induction fs with
 |nil=>
  intro ps ns h;cases ps <;>cases ns <;>simp_all [zBk]
 |cons fl fs ih=>
  intro ps ns h;cases ps with
  |nil=>simp [zBk] at h
  |cons p ps=>
   cases ns with
   |nil=>simp [zBk] at h
   |cons n ns=>
    simp only [zBk,Bool.and_eq_true] at h;obtain⟨h1,h2⟩:=h;obtain⟨i1,i2,i3⟩:=ih h2;split at h1
    ·rename_i j hj;simp only [Bool.and_eq_true,Bool.not_eq_true'] at h1;obtain⟨⟨a1,a2⟩,a3⟩:=h1;obtain rfl:=Nat.eq_of_beq_eq_true a1;obtain rfl:=Nat.eq_of_beq_eq_true a2;refine⟨by simp [i1],by simp [List.mapM_cons,hj,i2],fun f p hp=> ?_⟩;cases f with
     |zero=>
      simp at hp;subst hp;refine⟨fl,j,rfl,rfl,hj,fun e=> ?_,rfl⟩;rw [e] at a3;simp at a3
     |succ f=>
      obtain⟨fl',tj,g1,g2,g3,g4,g5⟩:=i3 f p (by simpa using hp);exact⟨fl',tj,by simpa using g1,g2,g3,g4,by simpa using g5⟩
    ·cases h1
theorem zIk{P:Program}{t:TypeId}{i:TI}(h:zIQ P t i=true):TIok P t i:=by
 unfold zIQ at h;split at h
 case h_2=>cases h
 rename_i ti d h1 h2;simp only [Bool.and_eq_true] at h;obtain⟨⟨⟨⟨⟨⟨⟨⟨⟨⟨a1,a2⟩,a3⟩,a4⟩,a5⟩,a6⟩,a7⟩,a8⟩,a9⟩,a9f⟩,a10⟩:=h;have hfields:i.offs=[]/\¬(i.agg=true/\∃z,i.zero=some z)\/∃fs:Array Field,d= .struct fs/\zBk P fs.toList i.offs i.fsz=true:=by
  split at a5
  ·exact .inr ⟨_,rfl,a5⟩
  ·rw [Bool.and_eq_true] at a5;refine .inl ⟨by simpa using a5.1,fun⟨g1,z,g2⟩=> ?_⟩;have:=a5.2;rw [g1,g2] at this;cases this
 refine⟨⟨ti,d,h1,Nat.eq_of_beq_eq_true a1,h2,by have:=eq_of_beq a2;cases d <;>exact this,fun hg=> ?_,fun z hz=> ?_⟩,?_,fun z hz hg=> ?_,fun e T he=> ?_,fun e he=> ?_,fun k hk=> ?_,fun hs=> ?_,fun hb=> ?_,fun hf=> ?_,fun hs=> ?_⟩
 ·rw [hg] at a3;exact Nat.eq_of_beq_eq_true a3
 ·rw [hz] at a4;simp only at a4;split at a4
  ·rename_i v hv;exact⟨v,hv,a4⟩
  ·cases a4
 ·rcases hfields with ⟨h,_⟩|⟨fs,rfl,h⟩
  ·exact .inl h
  ·obtain⟨_,_,g⟩:=zCT h;refine .inr ⟨fs,h2,fun f p hp=> ?_⟩;obtain⟨fl,tj,g1,g2,g3,g4,g5⟩:=g f p hp;exact⟨fl,tj,by rw [<-Array.getElem?_toList];exact g1,g2,g3,g4,g5⟩
 ·rcases hfields with ⟨_,h⟩|⟨fs,rfl,h⟩
  ·exact absurd ⟨hg,z,hz⟩ h
  ·obtain⟨g0,g,_⟩:=zCT h;refine⟨fs,_,h2,g,fun f p n hp hn=> ?_⟩;rw [List.getElem?_zip_eq_some];exact⟨hp,hn⟩
 ·rw [he] at a6;simp only at a6;split at a6
  ·rename_i e';simp only [Bool.and_eq_true] at a6;obtain⟨⟨b1,b2⟩,b3⟩:=a6;obtain rfl:=Nat.eq_of_beq_eq_true b1;split at b2
   ·rename_i te hte;simp only [Bool.and_eq_true] at b2;obtain⟨⟨⟨c1,c2⟩,c3⟩,c4⟩:=b2;split at c4
    ·rename_i v hv;exact⟨h2,te,v,hte,Nat.eq_of_beq_eq_true c1,Nat.blt_eq.mp c2,Nat.le_of_ble_eq_true c3,hv,c4⟩
    ·cases c4
   ·cases b2
  ·cases a6
 ·rw [he] at a6;simp only at a6;split at a6
  ·simp only [Bool.and_eq_true] at a6;obtain⟨_,b3⟩:=a6;split at b3
   ·assumption
   ·cases b3
  ·cases a6
 ·rw [hk] at a7;simp only at a7;split at a7
  ·rename_i k';have:=of_decide_eq_true a7;subst this;exact h2
  ·cases a7
 ·rw [hs] at a8;simp only [Bool.not_true,Bool.false_or] at a8;split at a8
  ·exact h2
  ·cases a8
 ·rw [hb] at a9;simp only [Bool.not_true,Bool.false_or] at a9;split at a9
  ·exact h2
  ·cases a9
 ·rw [hf] at a9f;simp only [Bool.not_true,Bool.false_or] at a9f;split at a9f
  ·exact⟨_,_,_,h2⟩
  ·cases a9f
 ·rw [hs] at a10;exact zGD (by simpa using a10)
def zJs(P:Program)(tt:TT):Bool:=tt.all fun x=>zIQ P x.1 x.2
theorem zJl{P:Program}{tt:TT}(h:zJs P tt=true):TTok P tt:=by
 intro t i hi;have key:∀tt:TT,tt.get t=some i->(t,i)∈tt:=by
  intro tt
  induction tt with
  |nil=>intro h;cases h
  |cons x r ih=>
   intro h;obtain⟨k,v⟩:=x;simp only [TT.get] at h;cases hk:k.beq t with
   |true=>
    rw [hk] at h;obtain rfl:=Nat.eq_of_beq_eq_true hk;cases h;exact List.mem_cons_self
   |false=>rw [hk] at h;exact List.mem_cons_of_mem _ (ih h)
 exact zIk (List.all_eq_true.1 h _ (key tt hi))
end Go.Ab
end
section
namespace Go.Ab
variable [Inhabited Lb]
theorem zJo{α:Type}{p:Prop} [Decidable p]{x:Option α}{r:α}(h:(if p then x else none)=some r):p/\x=some r:=by
 by_cases hp:p
 ·rw [if_pos hp] at h;exact⟨hp,h⟩
 ·rw [if_neg hp] at h;cases h
theorem zJg{α β:Type}{o:Option α}{f:α->Option β}{r:β}(h:Option.bind o f=some r):∃a,o=some a/\f a=some r:=Option.bind_eq_some_iff.1 h
theorem zJi{α:Type}{b:Bool}{x y:Option α}{r:α}(h:cond b x y=some r):(b=true/\x=some r)\/(b=false/\y=some r):=by
 cases b with
 |true=>exact .inl ⟨rfl,h⟩
 |false=>exact .inr ⟨rfl,h⟩
theorem zJu{x b:Bool}(h:x=b):(!x)= !b:=by rw [h]
theorem zJv{x b:Bool}(h:(!x)=b):x= !b:=by rw [<-h,Bool.not_not]
theorem eq_ne{x c d:Int}(h:(x==c)=true)(hcd:(c==d)=false):(x==d)=false:=by rw [eq_of_beq h];exact hcd
theorem zJq:∀q∈([]:List Prop),q:=by simp
theorem zJk{p:Prop}{l:List Prop}(h:p)(t:∀q∈l,q):∀q∈p::l,q:=by
 intro q hq;rcases List.mem_cons.1 hq with rfl|hq
 ·exact h
 ·exact t q hq
end Go.Ab
end
section
namespace Go.Ab
variable [Inhabited Lb]
open Go.ChangeShapes Go.WideShapes Go.ChangeAt Go.RowKit
inductive CK where
 |int (k:IntKind) |bool|str|sl (e:TypeId)
def zA1(P:Program):Nat->TypeId->Option (List CK)
 |0,_=>none
 |d+1,t=>match P.underlying t with
  |some (.int k)=>some [.int k]
  |some .bool=>some [.bool]
  |some .string=>some [.str]
  |some (.slice e)=>some [.sl e]
  |some (.struct fs)=>kindsFs (fun t=>zA1 P d t) fs.toList
  |_=>none
where kindsFs (f:TypeId->Option (List CK)):List Field->Option (List CK)
 | []=>some []
 |fl::fs=>match f fl.type,kindsFs f fs with
  |some a,some b=>some (a++b)
  |_,_=>none
def zFV(P:Program)(f:TypeId->Option (List CK)):Nat->List Field->Bool
 |_,[]=>true
 |o,fl::fs=>match f fl.type with
  |some a=>fl.offset.beq o&&(P.cellsOf fl.type).beq a.length&&zFV P f (o+a.length) fs
  |none=>false
def zDp(P:Program):Nat->TypeId->Bool
 |0,_=>false
 |d+1,t=>match P.underlying t with
  |some (.struct fs)=>zFV P (fun t=>zA1 P d t) 0 fs.toList&&fs.toList.all (fun fl=>zDp P d fl.type)&&match zA1.kindsFs (fun t=>zA1 P d t) fs.toList with
    |some ks=>(P.cellsOf t).beq ks.length
    |none=>false
  |some _=>(P.cellsOf t).beq 1
  |none=>false
def Ty.kinds:Ty->List (CK ⊕ Ty)
 | .int=> [.inl (.int .i64)]
 | .byte=> [.inl (.int .u8)]
 | .str=> [.inl .str]
 | .org=> [.inl (.int .i64),.inl (.int .i64)]
 | .row=> [.inr .int,.inr .org]
 | .val=> [.inl (.int .i64),.inl (.int .i64),.inl (.int .i64),.inl .str,.inr .val,.inr .str,.inr .row]
 | .exp=> [.inl (.int .i64),.inl (.int .i64),.inl .str,.inr .exp]
 | .fil=> [.inl .str,.inl (.int .i64)]
 | .tok=> [.inl (.int .i64),.inl (.int .i64),.inl (.int .i64),.inl .str]
 | .rea=> [.inl (.int .i64),.inl (.int .i64),.inl (.int .i64),.inl .str,.inl (.int .i64),.inl (.int .i64),.inl (.int .i64),.inl .str,.inr .val,.inr .str,.inr .row]
 | .bnd=> [.inl .str,.inl (.int .i64),.inl (.int .i64),.inl (.int .i64),.inl .str,.inr .val,.inr .str,.inr .row]
 | .cel=> [.inl (.int .i64),.inl (.int .i64),.inl (.int .i64),.inl .str,.inl .str,.inl (.int .i64)]
abbrev KT:=List (TypeId×Ty)
def KT.get:KT->TypeId->Option Ty
 | [],_=>none
 |(k,v)::r,q=>cond (k.beq q) (some v) (KT.get r q)
def CK.name(K:KT):CK->Option (CK ⊕ Ty)
 | .sl e=>(K.get e).map .inr
 |k=>some (.inl k)
def zA0(K:KT):List CK->Option (List (CK ⊕ Ty))
 | []=>some []
 |k::ks=>match k.name K,zA0 K ks with
  |some a,some b=>some (a::b)
  |_,_=>none
def ckEq:CK ⊕ Ty->CK ⊕ Ty->Bool
 | .inl (.int k),.inl (.int k')=>decide (k=k')
 | .inl .bool,.inl .bool=>true
 | .inl .str,.inl .str=>true
 | .inr T,.inr U=>decide (T=U)
 |_,_=>false
def zGX:List (CK ⊕ Ty)->List (CK ⊕ Ty)->Bool
 | [],[]=>true
 |a::as,b::bs=>ckEq a b&&zGX as bs
 |_,_=>false
def zG8(P:Program)(K:KT):Bool:=K.all fun x=>zDp P 8 x.1&&(P.cellsOf x.1).beq x.2.sz&&match zA1 P 8 x.1 with
 |some ks=>match zA0 K ks with
  |some ns=>zGX ns x.2.kinds
  |none=>false
 |none=>false
theorem zIx{a b:CK ⊕ Ty}(h:ckEq a b=true):a=b:=by
 unfold ckEq at h;split at h <;>first |(have:=of_decide_eq_true h;subst this;rfl) |rfl|cases h
theorem zD9:∀ {a b:List (CK ⊕ Ty)},zGX a b=true->a=b
 | [],[],_=>rfl
 |a::as,b::bs,h=>by
  simp only [zGX,Bool.and_eq_true] at h;rw [zIx h.1,zD9 h.2]
theorem KT.mem{K:KT}{e:TypeId}{T:Ty}(h:K.get e=some T):(e,T)∈K:=by
 induction K with
 |nil=>cases h
 |cons x r ih=>
  obtain⟨k,v⟩:=x;simp only [KT.get] at h;cases hk:k.beq e with
  |true=>
   rw [hk] at h;obtain rfl:=Nat.eq_of_beq_eq_true hk;cases h;exact List.mem_cons_self
  |false=>rw [hk] at h;exact List.mem_cons_of_mem _ (ih h)
def CV.isOf:CV->CK ⊕ Ty->Prop
 | .int k _,.inl (.int k')=>k=k'
 | .bool _,.inl .bool=>True
 | .str _,.inl .str=>True
 | .sl .ro T _,.inr U=>T=U
 |_,_=>False
inductive AreOf:List CV->List (CK ⊕ Ty)->Prop where
 |nil:AreOf [] []
 |cons {c k cs ks} (h:CV.isOf c k) (t:AreOf cs ks):AreOf (c::cs) (k::ks)
theorem AreOf.app{a b:List CV}{x y:List (CK ⊕ Ty)}(h:AreOf a x)(h' :AreOf b y):AreOf (a++b) (x++y):=by
 induction h with
 |nil=>exact h'
 |cons h _ ih=>exact .cons h ih
theorem zH5{c:CV}{k:IntKind}(h:c.isOf (.inl (.int k))):∃n,c= .int k n:=by
 cases c with
 |int k' n=>obtain rfl:k' =k:=h;exact⟨n,rfl⟩
 |sl f T xs=>cases f <;>exact h.elim
 |_=>exact h.elim
theorem zH6{c:CV}(h:c.isOf (.inl .str)):∃s,c= .str s:=by
 cases c with
 |str b=>exact⟨b,rfl⟩
 |sl f T xs=>cases f <;>exact h.elim
 |_=>exact h.elim
theorem zII{c:CV}{T:Ty}(h:c.isOf (.inr T)):∃xs,c= .sl .ro T xs:=by
 cases c with
 |sl f U xs=>
  cases f with
  |ro=>obtain rfl:U=T:=h;exact⟨xs,rfl⟩
  |_=>exact h.elim
 |_=>exact h.elim
theorem AreOf.int_inv{cs:List CV}{k:IntKind}{ks:List (CK ⊕ Ty)}(h:AreOf cs (.inl (.int k)::ks)):∃n r,cs= .int k n::r/\AreOf r ks:=by
 cases h with |cons h t=>obtain⟨n,rfl⟩:=zH5 h;exact⟨n,_,rfl,t⟩
theorem AreOf.str_inv{cs:List CV}{ks:List (CK ⊕ Ty)}(h:AreOf cs (.inl .str::ks)):∃s r,cs= .str s::r/\AreOf r ks:=by
 cases h with |cons h t=>obtain⟨n,rfl⟩:=zH6 h;exact⟨n,_,rfl,t⟩
theorem AreOf.sl_inv{cs:List CV}{T:Ty}{ks:List (CK ⊕ Ty)}(h:AreOf cs (.inr T::ks)):∃xs r,cs= .sl .ro T xs::r/\AreOf r ks:=by
 cases h with |cons h t=>obtain⟨n,rfl⟩:=zII h;exact⟨n,_,rfl,t⟩
theorem AreOf.nil_inv{cs:List CV}(h:AreOf cs []):cs=[]:=by cases h;rfl
theorem AreOf.elem{T:Ty}{cs:List CV}(h:AreOf cs T.kinds):∃y:T.den,cs=T.enc .ro y:=by
 cases T with
 |int=>obtain⟨n,_,rfl,h1⟩:=AreOf.int_inv h;obtain rfl:=h1.nil_inv;exact⟨n,rfl⟩
 |byte=>obtain⟨n,_,rfl,h1⟩:=AreOf.int_inv h;obtain rfl:=h1.nil_inv;exact⟨n,rfl⟩
 |str=>obtain⟨n,_,rfl,h1⟩:=AreOf.str_inv h;obtain rfl:=h1.nil_inv;exact⟨n,rfl⟩
 |org=>obtain⟨a,_,rfl,h1⟩:=AreOf.int_inv h;obtain⟨b,_,rfl,h2⟩:=AreOf.int_inv h1;obtain rfl:=h2.nil_inv;exact⟨(⟨a,b⟩:Org),rfl⟩
 |row=>obtain⟨a,_,rfl,h1⟩:=AreOf.sl_inv h;obtain⟨b,_,rfl,h2⟩:=AreOf.sl_inv h1;obtain rfl:=h2.nil_inv;exact⟨(⟨a,b⟩:Rowd),rfl⟩
 |val=>
  obtain⟨a,_,rfl,h1⟩:=AreOf.int_inv h;obtain⟨b,_,rfl,h2⟩:=AreOf.int_inv h1;obtain⟨c,_,rfl,h3⟩:=AreOf.int_inv h2;obtain⟨d,_,rfl,h4⟩:=AreOf.str_inv h3;obtain⟨e,_,rfl,h5⟩:=AreOf.sl_inv h4;obtain⟨f,_,rfl,h6⟩:=AreOf.sl_inv h5;obtain⟨g,_,rfl,h7⟩:=AreOf.sl_inv h6;obtain rfl:=h7.nil_inv;exact⟨Val.mk a b c d e f g,rfl⟩
 |exp=>
  obtain⟨a,_,rfl,h1⟩:=AreOf.int_inv h;obtain⟨b,_,rfl,h2⟩:=AreOf.int_inv h1;obtain⟨d,_,rfl,h3⟩:=AreOf.str_inv h2;obtain⟨e,_,rfl,h4⟩:=AreOf.sl_inv h3;obtain rfl:=h4.nil_inv;exact⟨Exp.mk a b d e,rfl⟩
 |fil=>obtain⟨a,_,rfl,h1⟩:=AreOf.str_inv h;obtain⟨b,_,rfl,h2⟩:=AreOf.int_inv h1;obtain rfl:=h2.nil_inv;exact⟨(⟨a,b⟩:Fil),rfl⟩
 |tok=>
  obtain⟨a,_,rfl,h1⟩:=AreOf.int_inv h;obtain⟨b,_,rfl,h2⟩:=AreOf.int_inv h1;obtain⟨c,_,rfl,h3⟩:=AreOf.int_inv h2;obtain⟨d,_,rfl,h4⟩:=AreOf.str_inv h3;obtain rfl:=h4.nil_inv;exact⟨(⟨a,b,c,d⟩:Tok),rfl⟩
 |rea=>
  obtain⟨k,_,rfl,h1⟩:=AreOf.int_inv h;obtain⟨n,_,rfl,h2⟩:=AreOf.int_inv h1;obtain⟨m,_,rfl,h3⟩:=AreOf.int_inv h2;obtain⟨s,_,rfl,h4⟩:=AreOf.str_inv h3;obtain⟨a,_,rfl,h5⟩:=AreOf.int_inv h4;obtain⟨b,_,rfl,h6⟩:=AreOf.int_inv h5;obtain⟨c,_,rfl,h7⟩:=AreOf.int_inv h6;obtain⟨d,_,rfl,h8⟩:=AreOf.str_inv h7;obtain⟨e,_,rfl,h9⟩:=AreOf.sl_inv h8;obtain⟨f,_,rfl,h10⟩:=AreOf.sl_inv h9;obtain⟨g,_,rfl,h11⟩:=AreOf.sl_inv h10;obtain rfl:=h11.nil_inv;exact⟨(⟨k,n,m,s,Val.mk a b c d e f g⟩:Rea),rfl⟩
 |bnd=>
  obtain⟨s,_,rfl,h1⟩:=AreOf.str_inv h;obtain⟨a,_,rfl,h2⟩:=AreOf.int_inv h1;obtain⟨b,_,rfl,h3⟩:=AreOf.int_inv h2;obtain⟨c,_,rfl,h4⟩:=AreOf.int_inv h3;obtain⟨d,_,rfl,h5⟩:=AreOf.str_inv h4;obtain⟨e,_,rfl,h6⟩:=AreOf.sl_inv h5;obtain⟨f,_,rfl,h7⟩:=AreOf.sl_inv h6;obtain⟨g,_,rfl,h8⟩:=AreOf.sl_inv h7;obtain rfl:=h8.nil_inv;exact⟨(⟨s,Val.mk a b c d e f g⟩:Bnd),rfl⟩
 |cel=>
  obtain⟨a,_,rfl,h1⟩:=AreOf.int_inv h;obtain⟨b,_,rfl,h2⟩:=AreOf.int_inv h1;obtain⟨c,_,rfl,h3⟩:=AreOf.int_inv h2;obtain⟨d,_,rfl,h4⟩:=AreOf.str_inv h3;obtain⟨e,_,rfl,h5⟩:=AreOf.str_inv h4;obtain⟨f,_,rfl,h6⟩:=AreOf.int_inv h5;obtain rfl:=h6.nil_inv;exact⟨(⟨a,b,c,d,e,f⟩:Cel),rfl⟩
def zBb(W:World)(b:Nat):Nat:=match W.heap[b]? with |some (.cells cs _ _)=>cs.size|_=>0
def env0(W:World):Env:= { w:=W,hw:=zBb W,ow:=fun _=>none,bx:=fun _=>0,hdr:=fun _=>undef }
theorem zIC(W:World):EnvOk (env0 W):=by
 refine⟨fun b hb=>⟨rfl,?_⟩,(by intro b b' l h;cases h),(by intro b s h;cases h)⟩;show zBb W b=0;unfold zBb;have:W.heap[b]? =none:=Array.getElem?_eq_none hb;rw [this]
theorem zE5{W:World}{b o:Nat}{v:Value}(h:W.cell? ⟨b,o,none⟩=some v):o<zBb W b:=by
 unfold World.cell? at h;unfold zBb;cases hb:W.heap[b]? with
 |none=>rw [hb] at h;simp at h
 |some x=>
  cases x with
  |cells cs t fr=>
   rw [hb] at h;simp at h;obtain⟨hlt,_⟩:=Array.getElem?_eq_some_iff.1 h;exact hlt
  |_=>rw [hb] at h;simp at h
inductive DFit:D->Prop where
 |int {k n} (h:(Lit.int k n).wf=true):DFit (.int k n)
 |bool (b):DFit (.bool b)
 |str {s:Str} (h:s.length<=maxLen):DFit (.str s)
 |sl {sz rows} (h:rows.length<=maxLen) (hr:∀r∈rows,∀x∈r,DFit x):DFit (.sl sz rows)
section
variable {H:Type} {enc:TypeId×Value->H} {P:Program} {W:World} {base:Nat} {spare:Nat->Bool} {held:Bool} {K:KT}
def zEZ(enc:TypeId×Value->H)(P:Program)(W:World)(base:Nat)(spare:Nat->Bool)(held:Bool)(K:KT)(n:Nat):Prop:=
 ∀(e:TypeId) (T:Ty),K.get e=some T->∀(m:Nat) (cs:List Value) (x:DataW H×List MemPlace),m<n->DataW.trod enc P W base spare held m e cs=some x->
  ∃y:T.den,(∀d∈T.toD y,DFit d)/\∀pl c,VRs (env0 W) zAI pl c (T.enc .ro y) cs
theorem zFF(hK:zG8 P K=true){n:Nat}(ih:zEZ enc P W base spare held K n){t e:TypeId}{T:Ty}(ht:P.underlying t=some (.slice e))(hT:K.get e=some T){cs:List Value}{x:DataW H×List MemPlace}{m:Nat}(hm:m<=n)
 (h:DataW.trod enc P W base spare held m t cs=some x):∃v xs,cs=[v]/\DFit (.sl T.sz (xs.map T.toD))/\∀pl c,VRc (env0 W) zAI pl c (.sl .ro T xs) v:=by
 have hsz:P.cellsOf e=T.sz:=by
  have:=List.all_eq_true.1 hK _ (KT.mem hT);simp only [Bool.and_eq_true] at this;exact Nat.eq_of_beq_eq_true this.1.2
 rcases DataW.trod_slice ht h with ⟨rfl,_⟩|⟨a,len,cap,elems,rest,m',rfl,rfl,_,hb,hl,hcap,hel,hat,_⟩
 ·exact⟨_,[],rfl,.sl (Nat.zero_le _) (by simp),fun pl c=>RdP.nil none 0 T.sz trivial⟩
 ·
  have hex:∀i,i<len->∃(cs:List Value) (y:T.den),W.cells? base (a.add (i*T.sz)) T.sz=some cs/\(∀d∈T.toD y,DFit d)/\∀pl c,VRs (env0 W) zAI pl c (T.enc .ro y) cs:=by
   intro i hi;have h1:=hat i hi;rw [List.getElem?_eq_getElem (by omega),Option.bind_eq_some_iff] at h1;obtain⟨cs,h2,h3⟩:=h1;obtain⟨y,hy⟩:=ih e T hT m' cs _ (by omega) h3;rw [hsz] at h2;exact⟨cs,y,h2,hy⟩
  by_cases h0:len=0
  ·subst h0;exact⟨_,[],rfl,.sl (Nat.zero_le _) (by simp),fun pl c=>RdP.nil (some a) cap T.sz trivial⟩
  ·have hpos:=Ty.sz_pos T;have hspot:a.spot=none:=by
    obtain⟨cs,y,h2,_⟩:=hex 0 (by omega);rw [Nat.zero_mul] at h2;unfold World.cells? at h2;split at h2
    ·have h3:=mapM_some_get h2 0 0 (by simp [hpos]);have:(a.add 0).add 0=a:=by simp [Addr.add]
     rw [this] at h3;have h4:∃v,W.cell? a=some v:=by
      cases hc:W.cell? a with
      |some v=>exact⟨v,rfl⟩
      |none=>
       rw [hc] at h3;have hlen:=mapM_some_length h2;rw [List.length_range] at hlen;rw [List.getElem?_eq_getElem (by omega)] at h3;cases h3
     obtain⟨v,hv⟩:=h4;unfold World.cell? at hv;split at hv
     ·split at hv
      ·cases hv
      ·rename_i h;simpa using h
     ·cases hv
    ·cases h2
   obtain⟨ab,ao,asp⟩:=a;dsimp only at hspot;subst hspot
   let ys:List T.den:=(List.range len).map fun i=>if hi:i<len then(Classical.choose (Classical.choose_spec (hex i hi))) else T.dflt
   have hysl:ys.length=len:=by simp [ys]
   have hys:∀i (hi:i<len),∃cs:List Value,W.cells? base ((⟨ab,ao,none⟩:Addr).add (i*T.sz)) T.sz=some cs/\(∀d∈T.toD (ys[i]'(by omega)),DFit d)/\∀pl c,VRs (env0 W) zAI pl c (T.enc .ro (ys[i]'(by omega))) cs:=by
    intro i hi;have hsp:=Classical.choose_spec (Classical.choose_spec (hex i hi));refine⟨Classical.choose (hex i hi),hsp.1,?_⟩;have:ys[i]'(by omega)=Classical.choose (Classical.choose_spec (hex i hi)):=by simp [ys,hi]
    rw [this];exact hsp.2
   refine⟨_,ys,rfl,.sl (by rw [List.length_map,hysl];omega) (fun r hr x hx=> ?_),fun pl c=> ?_⟩
   ·obtain⟨y,hy,rfl⟩:=List.mem_map.1 hr;obtain⟨i,hi,rfl⟩:=List.getElem_of_mem hy;obtain⟨_,_,h2,_⟩:=hys i (by omega);exact h2 x hx
   have hcell:∀i j,i<len->j<T.sz->∃v,W.cell? ⟨ab,ao+i*T.sz+j,none⟩=some v/\∀(hi:i<len),∃x:CV,(T.enc .ro (ys[i]'(by omega)))[j]? =some x/\VRc (env0 W) zAI pl c x v:=by
    intro i j hi hj;obtain⟨cs,h1,_,h2⟩:=hys i hi;unfold World.cells? at h1;split at h1
    ·have h3:=mapM_some_get h1 j j (by simp [hj]);have hlen:=mapM_some_length h1;rw [List.length_range] at hlen;have ha:((⟨ab,ao,none⟩:Addr).add (i*T.sz)).add j=⟨ab,ao+i*T.sz+j,none⟩:=by rw [zA2,zA2]
     rw [ha,List.getElem?_eq_getElem (by omega)] at h3;refine⟨_,h3,fun _=> ?_⟩;have hl2:j<(T.enc .ro (ys[i]'(by omega))).length:=by rw [Ty.enc_length];exact hj
     refine⟨_,List.getElem?_eq_getElem hl2,?_⟩;have hv:=zAB (h2 pl 0) (List.getElem?_eq_getElem hl2) (List.getElem?_eq_getElem (by omega:j<cs.length));have hown:((T.enc .ro (ys[i]'(by omega)))[j]).owning=false:=by
      rcases zB6 .ro T _ _ (List.getElem_mem hl2) with ⟨k,n,e⟩|⟨s,e⟩|⟨U,zs,e⟩ <;>rw [e] <;>try rfl
     exact VRc.any hown hv
    ·cases h1
   show RdP W _ _ _ (.sl T.sz (ys.map T.toD));refine RdP.sl ab ao len cap T.sz (ys.map T.toD) (fun i j=>(W.cell? ⟨ab,ao+i*T.sz+j,none⟩).getD undef) (by simp [hysl]) hl (fun r hr=> ?_) trivial (fun i j hi hj=> ?_) (fun i j hi hj=> ?_)
   ·obtain⟨y,_,rfl⟩:=List.mem_map.1 hr;exact Ty.toD_length T y
   ·obtain⟨v,hv,_⟩:=hcell i j hi hj;rw [hv];exact⟨rfl,zE5 hv,rfl⟩
   ·have hi2:i<len:=by simpa [hysl] using hi
    have hj2:j<T.sz:=by rw [List.getElem_map,Ty.toD_length] at hj;exact hj
    obtain⟨v,hv,hx⟩:=hcell i j hi2 hj2;obtain⟨x,hx1,hx2⟩:=hx hi2;rw [hv];have e:((ys.map T.toD)[i]'hi)[j]=x.toD:=by
     have:((ys.map T.toD)[i]'hi)[j]? =some x.toD:=by
      rw [List.getElem_map,<-Ty.enc_toD .ro,List.getElem?_map,hx1];rfl
     exact(List.getElem?_eq_some_iff.1 this).2
    rw [e];rcases zB6 .ro T _ _ (List.mem_of_getElem? hx1) with ⟨k,n,rfl⟩|⟨s,rfl⟩|⟨U,zs,rfl⟩
    ·obtain rfl:v=_:=hx2;exact .int k n
    ·obtain⟨t,rfl,rfl⟩:=hx2;exact .str t
    ·have hro:∃g,CV.sl g U zs= .sl .ro U zs/\True:=⟨.ro,rfl,trivial⟩;exact RdP.mono hx2 (fun p b o ho=>⟨rfl,ho⟩) (fun _ _ _ _=>trivial)
theorem zDw:∀ {a b:List CK} {ns:List (CK ⊕ Ty)},zA0 K (a++b)=some ns->∃na nb,ns=na++nb/\zA0 K a=some na/\zA0 K b=some nb
 | [],b,ns,h=>⟨[],ns,rfl,rfl,h⟩
 |k::a,b,ns,h=>by
  simp only [List.cons_append,zA0] at h;split at h
  ·rename_i x r hx hr;obtain⟨na,nb,rfl,h1,h2⟩:=zDw hr;cases h;exact⟨x::na,nb,rfl,by simp only [zA0,hx,h1],h2⟩
  ·cases h
theorem zBJ{k:CK}{ns:List (CK ⊕ Ty)}(h:zA0 K [k]=some ns):∃n,k.name K=some n/\ns=[n]:=by
 simp only [zA0] at h;split at h
 ·rename_i x r hx hr;cases hr;cases h;exact⟨x,hx,rfl⟩
 ·cases h
def Rds(W:World)(ns:List (CK ⊕ Ty))(cs:List Value):Prop:=
 ∃zs:List CV,AreOf zs ns/\(∀z∈zs,DFit z.toD)/\∀pl c,VRs (env0 W) zAI pl c zs cs
theorem Rds.one{n:CK ⊕ Ty}{z:CV}{v:Value}(h:z.isOf n)(hf:DFit z.toD)(hv:∀pl c,VRc (env0 W) zAI pl c z v):Rds W [n] [v]:=
 ⟨[z],.cons h .nil,by simpa using hf,fun pl c=>⟨hv pl c,trivial⟩⟩
theorem Rds.app{a b:List (CK ⊕ Ty)}{cs ds:List Value}(h:Rds W a cs)(h' :Rds W b ds):Rds W (a++b) (cs++ds):=by
 obtain⟨x,h1,h2,h3⟩:=h;obtain⟨y,g1,g2,g3⟩:=h';exact⟨x++y,h1.app g1,fun z hz=>(List.mem_append.1 hz).elim (h2 z) (g2 z),fun pl c=>zF9 (h3 pl c) (g3 pl _)⟩
theorem zG4{f:TypeId->Option (List CK)}{ok:TypeId->List Value->Prop}{cs:List Value}(hok:∀t ks ns ds,f t=some ks->zA0 K ks=some ns->ok t ds->Rds W ns ds):
 ∀(fl:List Field) (o:Nat) (ks:List CK) (ns:List (CK ⊕ Ty)),zFV P f o fl=true->zA1.kindsFs f fl=some ks->zA0 K ks=some ns->(∀fd∈fl,ok fd.type ((cs.drop fd.offset).take (P.cellsOf fd.type)))->o+ks.length=cs.length->Rds W ns (cs.drop o)
 | [],o,ks,ns,_,hk,hn,_,hl=>by
   cases hk;cases hn;rw [List.drop_of_length_le (by simp at hl;omega)];exact⟨[],.nil,by simp,fun _ _=>trivial⟩
 |fd::fl,o,ks,ns,hlaid,hk,hn,hall,hl=>by
  simp only [zA1.kindsFs] at hk;simp only [zFV] at hlaid;split at hk
  ·rename_i a b ha hb;cases hk;rw [ha] at hlaid;simp only [Bool.and_eq_true] at hlaid;obtain⟨⟨h1,h2⟩,h3⟩:=hlaid;have h1:=Nat.eq_of_beq_eq_true h1;have h2:=Nat.eq_of_beq_eq_true h2;obtain⟨na,nb,rfl,hna,hnb⟩:=zDw hn;have hhd:=hok _ _ _ _ ha hna (hall fd List.mem_cons_self);have htl:=zG4 hok fl (o+a.length) b nb h3 hb hnb (fun x hx=>hall x (List.mem_cons_of_mem _ hx)) (by rw [jA] at hl;omega);rw [h1,h2] at hhd;have:=hhd.app htl
   rwa [<-List.drop_drop,List.take_append_drop] at this
  ·cases hk
theorem zDZ(hK:zG8 P K=true){n:Nat}(ih:zEZ enc P W base spare held K n):∀(d:Nat) (t:TypeId) (ks:List CK) (ns:List (CK ⊕ Ty)) (cs:List Value) (x:DataW H×List MemPlace) (m:Nat),m<=n->
 zA1 P d t=some ks->zDp P d t=true->zA0 K ks=some ns->DataW.trod enc P W base spare held m t cs=some x->Rds W ns cs:=by
 intro d
 induction d with
 |zero=>intro t ks ns cs x m _ h;cases h
 |succ d ihd=>
  intro t ks ns cs x m hm hk hlaid hn h;simp only [zA1] at hk;split at hk
  ·rename_i k hu;cases hk;obtain⟨_,hnm,rfl⟩:=zBJ hn;cases hnm;obtain⟨v,rfl,_,hwf⟩:=DataW.trod_int hu h;exact Rds.one (z:= .int k v) rfl (.int hwf) (fun _ _=>rfl)
  ·rename_i hu;cases hk;obtain⟨_,hnm,rfl⟩:=zBJ hn;cases hnm;obtain⟨v,rfl,_⟩:=DataW.trod_bool hu h;exact Rds.one (z:= .bool v) trivial (.bool v) (fun _ _=>rfl)
  ·rename_i hu;cases hk;obtain⟨_,hnm,rfl⟩:=zBJ hn;cases hnm;obtain⟨v,rfl,_,hl⟩:=DataW.trod_string hu h;exact Rds.one (z:= .str v.data.toList) trivial (.str (by simpa using hl)) (fun _ _=>⟨v,rfl,rfl⟩)
  ·rename_i e hu;cases hk;obtain⟨q,hnm,rfl⟩:=zBJ hn;simp only [CK.name,Option.map_eq_some_iff] at hnm;obtain⟨T,hT,rfl⟩:=hnm;obtain⟨v,xs,rfl,hf,hv⟩:=zFF hK ih hu hT hm h;exact Rds.one (z:= .sl .ro T xs) rfl hf hv
  ·rename_i fs hu;simp only [zDp,hu,Bool.and_eq_true,List.all_eq_true] at hlaid;obtain⟨⟨hl1,hl2⟩,hl3⟩:=hlaid;rw [hk] at hl3;have hl3:=Nat.eq_of_beq_eq_true hl3;obtain⟨xs,m',rfl,_,hlen,hxl,hf⟩:=DataW.trod_struct hu h
   have:=zG4 (P:=P) (W:=W) (K:=K) (f:=fun t=>zA1 P d t) (cs:=cs)
    (ok:=fun t ds=>zDp P d t=true/\∃y,DataW.trod enc P W base spare held m' t ds=some y)
    (fun t ks ns ds h1 h2 ⟨h3,y,h4⟩=>ihd t ks ns ds y m' (by omega) h1 h3 h2 h4) fs.toList 0 ks ns hl1 hk hn
    (fun fd hfd=>by
      refine⟨hl2 fd hfd,?_⟩;obtain⟨i,hi,rfl⟩:=List.getElem_of_mem hfd;have hi' :i<fs.size:=by simpa using hi
      have:=hf i (fs.toList[i]) (by simp [hi']);exact⟨_,this.trans (List.getElem?_eq_getElem (by omega))⟩) (by omega)
   simpa using this
  ·cases hk
theorem zFP(hK:zG8 P K=true):∀n,zEZ enc P W base spare held K n
 |0=>fun e T hT m cs x hm=>absurd hm (by omega)
 |n+1=>fun e T hT m cs x hm h=>by
  have h1:=List.all_eq_true.1 hK _ (KT.mem hT);simp only [Bool.and_eq_true] at h1;obtain⟨⟨hlaid,_⟩,h1⟩:=h1;split at h1
  ·rename_i ks hks;split at h1
   ·rename_i ns hns;have:=zD9 h1;subst this;obtain⟨zs,h2,h3,h4⟩:=zDZ hK (zFP hK n) 8 e ks _ cs x m (by omega) hks hlaid hns h;obtain⟨y,rfl⟩:=h2.elem;refine⟨y,fun d hd=> ?_,h4⟩;rw [<-Ty.enc_toD .ro] at hd;obtain⟨z,hz,rfl⟩:=List.mem_map.1 hd;exact h3 z hz
   ·cases h1
  ·cases h1
theorem reads(hK:zG8 P K=true){t:TypeId}{ks:List CK}{ns:List (CK ⊕ Ty)}{v:Value}{d:DataW H}{ps:List MemPlace}(hk:zA1 P 8 t=some ks)(hl:zDp P 8 t=true)(hn:zA0 K ks=some ns)
 (h:DataW.Trod enc P W base spare held t v d ps):Rds W ns v.cells.toList:=by
 obtain⟨m,h⟩:=h;exact zDZ hK (zFP hK m) 8 t ks ns _ _ m (Nat.le_refl _) hk hl hn h
end
end Go.Ab
end
section
namespace Go.Ab
variable [Inhabited Lb]
open Go.ChangeShapes Go.WideShapes Go.ChangeAt Go.RowKit
def zCQ(P:Program)(t:TypeId):Bool:=match P.underlying t with |some (.struct _)=>true|_=>false
def zJe(P:Program)(K:KT)(g:Bool)(t:TypeId)(ns:List (CK ⊕ Ty)):Bool:=
 zDp P 8 t&&(zCQ P t==g)&&match zA1 P 8 t with
  |some ks=>match zA0 K ks with
   |some ms=>zGX ms ns
   |none=>false
  |none=>false
section
variable {H:Type} {enc:TypeId×Value->H} {P:Program} {W:World} {base b0:Nat} {spare:Nat->Bool} {held:Bool} {K:KT} {r:Go.Reach}
theorem vr_of(hK:zG8 P K=true){g:Bool}{t:TypeId}{ns:List (CK ⊕ Ty)}(hT:zJe P K g t ns=true){v:Value}{d:DataW H}{ps:List MemPlace}
 (hw:Value.okWide P W r b0 t v) (h:DataW.Trod enc P W base spare held t v d ps):
 ∃zs:List CV,AreOf zs ns/\(∀z∈zs,DFit z.toD)/\∀pl,VR (env0 W) zAI pl (.v g zs) v:=by
 unfold zJe at hT;simp only [Bool.and_eq_true,beq_iff_eq] at hT;obtain⟨⟨hl,hg⟩,hT⟩:=hT;split at hT
 ·rename_i ks hks;split at hT
  ·rename_i ms hms;obtain rfl:=zD9 hT;obtain⟨zs,h1,h2,h3⟩:=reads hK hks hl hms h;refine⟨zs,h1,h2,fun pl=> ?_⟩;simp only [zA1] at hks;split at hks
   ·rename_i k hu;obtain⟨n,rfl⟩:=okWide_int hu hw;obtain rfl:false=g:=by simpa [zCQ,hu] using hg
    exact h3 pl 0
   ·rename_i hu;obtain⟨n,rfl⟩:=okWide_bool hu hw;obtain rfl:false=g:=by simpa [zCQ,hu] using hg
    exact h3 pl 0
   ·rename_i hu;obtain⟨n,rfl⟩:=okWide_string hu hw;obtain rfl:false=g:=by simpa [zCQ,hu] using hg
    exact h3 pl 0
   ·rename_i e hu;obtain⟨a,l,c,rfl⟩:=okWide_slice hu hw;obtain rfl:false=g:=by simpa [zCQ,hu] using hg
    exact h3 pl 0
   ·rename_i fs hu;obtain⟨cs,rfl,_⟩:=okWide_struct hu hw;obtain rfl:true=g:=by simpa [zCQ,hu] using hg
    exact⟨cs,rfl,h3 pl 0⟩
   ·cases hks
  ·cases hT
 ·cases hT
theorem zIu(h:∀x∈zH7,W.heap[x.1]? =some x.2):Base (env0 W):=fun x hx=>by
 have h:=h x hx;refine⟨?_,rfl,h,?_⟩
 ·exact(Array.getElem?_eq_some_iff.1 h).1
 ·show zBb W x.1=_;unfold zBb zFu;rw [h];cases x.2 <;>rfl
theorem zJh{f:FuncId}{fn:Func}{I:Info}(hf:FnOk P f fn I){as:List Arg}{o:List (List CV)}{l:List CV}(h:AbsCalls P f as ⟨.v false [.bool true],o,l⟩){args:Array Value}(ha:ArgsAt (env0 W) 0 as args.toList)(hL:∀x∈zH7,W.heap[x.1]? =some x.2):
 Calls P f args W fun e w' =>e= .returned (.bool true)/\Below W.heap.size W w' :=by
 rcases h (env0 W) args (zIC W) (zIu hL) ha with ⟨v,w',h1,_⟩|⟨_,h2⟩
 ·exfalso;have hbody:fn.body.isNone=false:=by rw [hf.body];rfl
  unfold callFunc at h1;simp only [Sem.run_bind,run_program,Result.andThen_ok,hf.get,hf.name,hbody] at h1;cases h1
 ·refine h2.mono fun e w' he=> ?_;cases e with
  |returned v=>
   obtain⟨E',rfl,hx⟩:=he;have hv:v= .bool true:=(hx.res.vr rfl).1;exact⟨by rw [hv],⟨hx.os,hx.tape,hx.output,hx.size,fun k hk=>(hx.old k hk rfl).1⟩⟩
  |_=>exact he.elim
end
end Go.Ab
end
section
namespace Go.Ab
def Val.re(v:Val):Val:= .mk v.kind v.n v.step v.text v.list v.columns v.rows
theorem Val.re_eq(v:Val):v.re=v:=v.eta
structure Cur where
 b:List Int
 i:Int
 h:Int
end Go.Ab
end
section
namespace Go.Ab
def zFJ(n:Int):Option Int:=if 0<=n/\n<=18446744073709551615 then some (Lib.bitLen n.toNat:Int) else none
def zJb(i j:Int)(xs:List Org):Option (List Org):=if 0<=i/\i<xs.length/\0<=j/\j<xs.length then some (Sort.swp xs.toArray i.toNat j.toNat).toList else none
def olt(a b:Org):Bool:=bif decide (a.cell<b.cell) then true else bif(a.cell==b.cell) then decide (a.row<b.row) else false
def zIz(acc:List Org)(o:Org):List Org:=if acc.contains o then acc else acc++ [o]
def ded(os:List Org):List Org:=os.foldl zIz []
def zIr(a b:List Org):List Org:=(ded (a++b)).mergeSort fun x y=> !olt y x
def zJw(a b:List Org):Option (List Org):=if a.length+b.length<=1000000000000 then some (zIr a b) else none
end Go.Ab
end
section
namespace Go.Ab
def gKey(i:Nat)(r:Rowd):Int:=r.cells.getD i 0
def zJm(i:Nat)(rs:List Rowd):List Int:=rs.foldl (fun ks r=>if gKey i r∈ks then ks else ks++ [gKey i r]) []
def gSum(i k:Nat)(rs:List Rowd)(x:Int):Int:=rs.foldl (fun s r=>if gKey i r=x then IntKind.i64.wrap (s+gKey k r) else s) 0
def gFrm(i:Nat)(rs:List Rowd)(x:Int):List Org:=rs.foldl (fun f r=>if gKey i r=x then zIr f r.frm else f) []
def zI6(i:Nat)(rs:List Rowd):List Int:=(zJm i rs).mergeSort fun x y=>decide (x<=y)
def numB(n:Int):Bool:=decide (-1000000000<=n)&&decide (n<=1000000000)
def zJn(i k:Nat)(rs:List Rowd):List Rowd:=(zI6 i rs).map fun x=>⟨[x,gSum i k rs x],gFrm i rs x⟩
def zJa(i k:Nat)(r:Rowd):Bool:=decide (i<r.cells.length)&&decide (k<r.cells.length)&&decide (r.frm.length<=100000000)
def zJt(i k:Int)(a b t:Val):Option (Val×Bool):=
 if 0<=i/\0<=k/\t.rows.all (zJa i.toNat k.toNat)=true/\t.rows.length<=1000 then
  some (if(zI6 i.toNat t.rows).all (fun x=>numB (gSum i.toNat k.toNat t.rows x))=true then Val.mk 5 0 0 [] [] [a.text,b.text] (zJn i.toNat k.toNat t.rows) else Val.mk 6 5 0 [] [] [] [],false)
 else none
end Go.Ab
end
section
namespace Go.Ab
variable [Inhabited Lb]
theorem AbsCalls.of_enter{P:Program}{f:FuncId}{as:List Arg}{r:CallO}(hf:∀args w,(callFunc f args).run P w= .ok (.enter f args) w)
 (h:∀(E:Env) (args:Array Value),EnvOk E->Base E->ArgsAt E 0 as args.toList->Calls P f args E.w fun e w' =>∃v E',e= .returned v/\E'.w=w' /\ExitR E E' as r v):AbsCalls P f as r:=
 fun E args hE hB hA=> .inr ⟨hf args E.w,(h E args hE hB hA).mono (by rintro e w' ⟨v,E',rfl,hw,hx⟩;exact⟨E',hw,hx⟩)⟩
theorem ExitR.below{E:Env}(hE:EnvOk E){w' :World}(hb:Go.RowKit.Below E.w.heap.size E.w w'){as:List Arg}{a:AV}{v:Value}(ho:zBM E { E with w:=w' } 0 as [])(hl:zAE 0 as=[])
 (hr:ResAt { E with w:=w' } as.length a v):ExitR E { E with w:=w' } as ⟨a,[],[]⟩ v where
 os:=hb.os
 tape:=hb.tape
 output:=hb.output
 size:=hb.size
 hdr:=rfl
 old:=fun b hlt h0=>⟨hb.block b hlt,rfl,h0⟩
 env:=⟨fun b h=>hE.new b (Nat.le_trans hb.size h),hE.inj,hE.boxhw⟩
 res:=hr
 outs:=ho
 lents:=by rw [hl];trivial
 bx:=fun _ _=>rfl
end Go.Ab
end
section
namespace Go.Ab
open Go.Lib Go.Extern
variable [Inhabited Lb]
theorem zIJ{P:Program}{f:FuncId}(hf:∀args w,(callFunc f args).run P w= .ok (.enter f args) w)
 (hc:∀(x:Int) (w:World),0<=x->x<=18446744073709551615->Calls P f #[.int .u64 x] w fun e w' =>e= .returned (.int .i64 (Lib.bitLen x.toNat))/\w' =w)
 {x r:Int} (h:zFJ x=some r):AbsCalls P f [.val (.v false [.int .u64 x])] ⟨.v false [.int .i64 r],[],[]⟩:=by
 unfold zFJ at h;split at h
 case isFalse=>cases h
 rename_i hx;cases h;refine AbsCalls.of_enter hf fun E args hE hB hA=> ?_
 match args,hA with
 |⟨[v1]⟩,hA=>
  obtain⟨⟨hv1,_⟩,_⟩:=hA;obtain rfl:v1= .int .u64 x:=hv1;refine(hc x E.w hx.1 hx.2).mono ?_;rintro e w' ⟨rfl,rfl⟩;exact⟨_,_,rfl,rfl,ExitR.below hE (Go.RowKit.Below.refl _ _) trivial rfl ⟨rfl,trivial⟩⟩
 |⟨[]⟩,hA=>exact hA.elim
 |⟨_::_::_⟩,hA=>exact hA.2.elim
def zAu(o:Org):List Value:=[.int .i64 o.cell,.int .i64 o.row]
theorem zJc{xs:List Org}{i j:Nat}(hi:i<xs.length)(hj:j<xs.length){m:Nat}(hm:m<(Sort.swp xs.toArray i j).toList.length):
 (Sort.swp xs.toArray i j).toList[m]=if m=j then xs[i] else if m=i then xs[j] else xs[m]'(by simpa [Sort.swp] using hm):=by
 simp only [Sort.swp,Array.toList_setIfInBounds,List.getElem_set,List.size_toArray,hi,hj,getElem!_pos,List.getElem_toArray];by_cases h1:j=m
 ·subst h1;simp
 ·by_cases h2:i=m
  ·subst h2;simp [h1,Ne.symm h1]
  ·simp [h1,h2,Ne.symm h1,Ne.symm h2]
theorem zJj{P:Program}{f:FuncId}(hc:∀args w,(callFunc f args).run P w=((ReflectliteSwapper.swap false args).run P w).andThen fun v w' => .ok (.value v) w')
 (e:TypeId) (ie:TypeInfo) (hie:P.info? e=some ie) (hsz:ie.size=2) (hagg:∀w,(isAgg e).run P w= .ok true w) {i j:Int} {xs ys:List Org} (h:zJb i j xs=some ys):
 AbsCalls P f [.val (.v false [.int .i64 i]),.val (.v false [.int .i64 j]),.val (.v false [.sl (.lnt 0) .org xs]),.val (.v false [.val (typeHandle P e)])] ⟨.tup [],[],[.sl (.lnt 0) .org ys]⟩:=by
 unfold zJb at h;split at h
 case isFalse=>cases h
 rename_i hij;cases h;obtain⟨hi0,hi1,hj0,hj1⟩:=hij;obtain⟨i,rfl⟩:=Int.eq_ofNat_of_zero_le hi0;obtain⟨j,rfl⟩:=Int.eq_ofNat_of_zero_le hj0;have hi:i<xs.length:=by omega
 have hj:j<xs.length:=by omega
 simp only [Int.toNat_natCast];intro E args hE hB hA
 match args,hA with
 |⟨[v1,v2,v3,v4]⟩,hA=>
  obtain⟨⟨hv1,_⟩,⟨hv2,_⟩,⟨hv3,_⟩,⟨hv4,_⟩,_⟩:=hA;obtain rfl:v1= .int .i64 i:=hv1;obtain rfl:v2= .int .i64 j:=hv2;obtain rfl:v4=typeHandle P e:=hv4.1;have hv:RdP E.w (okF E (.k 4) 0 (.lnt 0)) (qF E (.k 4) 0 (.lnt 0)) v3 (.sl 2 (xs.map Ty.org.toD)):=hv3;have hh:v3=E.hdr 0:=(RdP.top hv).2 rfl;have hx:xs≠ []:=by rintro rfl;simp at hi
  obtain⟨b,off,cap,rfl,hcap,hrl,hq,u,hcl,hk⟩:=RdP.cells hv (by simpa using hx);have htip:=hq.1
  match off,htip with
  |off+1,htip=>exact htip.elim
  |0,htip=>
  obtain⟨t1,t2,t3,cs,ty,lo,hi',t4,t5,t6⟩:=htip;rw [List.length_map] at t2 t3 hcap;have hcell:∀m (hm:m<xs.length) k (hk2:k<2),E.w.cell? ⟨b,m*2+k,none⟩=some ((zAu xs[m])[k]'hk2):=by
   intro m hm k hk2;have g1:=(hcl m k (by simpa using hm) hk2).1;have hr:((xs.map Ty.org.toD)[m]'(by simpa using hm))=Ty.org.toD xs[m]:=by rw [List.getElem_map]
   have g2:=hk m k (by simpa using hm) (by rw [hr];exact hk2);rw [Nat.zero_add] at g1;rw [g1];simp only [hr] at g2
   match k,hk2,g2 with
   |0,_,g2=>generalize u m 0=x at g2;simp only [Ty.toD,List.getElem_cons_zero] at g2;cases g2;rfl
   |1,_,g2=>generalize u m 1=x at g2;simp only [Ty.toD,List.getElem_cons_succ,List.getElem_cons_zero] at g2;cases g2;rfl
  have hfz:∀o,o<xs.length*2->E.w.frozen? ⟨b,o,none⟩=false:=by
   intro o ho;simp only [World.frozen?,t4];cases hd:(decide (lo<=o)&&decide (o<hi')) with
   |false=>rfl
   |true=>
    rw [Bool.and_eq_true] at hd;have:=t6 o (of_decide_eq_true hd.1) (of_decide_eq_true hd.2);omega
  have ho:∀x:Org,∀v∈zAu x,v.oneCell' =true:=by
   intro x v hv;simp only [zAu,List.mem_cons,List.not_mem_nil,or_false] at hv;rcases hv with rfl|rfl <;>rfl
  have hl2:∀x:Org,(zAu x).length=2:=fun _=>rfl;have hget:∀(m:Nat) (hm:m<xs.length) (k:Nat) (v:Value),(zAu xs[m])[k]? =some v->E.w.cell? ⟨b,0+m*ie.size+k,none⟩=some v:=by
   intro m hm k v hv;obtain⟨hk2,rfl⟩:=List.getElem?_eq_some_iff.1 hv;rw [hsz,Nat.zero_add];exact hcell m hm k hk2
  have hrun:=run_swap_cells (P:=P) false e ie hie hagg b 0 xs.length cap i j hi hj (zAu xs[i]) (zAu xs[j]) (by rw [hsz];rfl) (by rw [hsz];rfl) (ho _) (ho _) E.w
   (hget i hi) (hget j hj) (fun k hk=>hfz _ (by rw [hsz] at hk ⊢;omega)) (fun k hk=>hfz _ (by rw [hsz] at hk ⊢;omega))
  rw [hsz] at hrun;have hv0:Value.slice (some ⟨b,0,none⟩) (xs.map Ty.org.toD).length cap= .slice (some ⟨b,0,none⟩) xs.length cap:=by rw [List.length_map]
  rw [hv0] at hh;refine .inl ⟨.tuple #[],(E.w.setCells b (0+i*2) (zAu xs[j])).setCells b (0+j*2) (zAu xs[i]),?_,?_⟩
  ·rw [hc];show(Sem.run P (ReflectliteSwapper.swap false #[.int .i64 i,.int .i64 j,.slice (some ⟨b,0,none⟩) (xs.map Ty.org.toD).length cap,typeHandle P e]) E.w).andThen _=_;rw [hv0];rw [hrun];rfl
  obtain⟨cs1,a1,a2,a3⟩:=zAw b (zAu xs[j]) (0+i*2) E.w t4;obtain⟨cs2,b1,b2,b3⟩:=zAw b (zAu xs[i]) (0+j*2) (E.w.setCells b (0+i*2) (zAu xs[j])) a1;generalize hW:(E.w.setCells b (0+i*2) (zAu xs[j])).setCells b (0+j*2) (zAu xs[i])=W at b1;have hsize:W.heap.size=E.w.heap.size:=by rw [<-hW,zAr,zAr]
  obtain⟨o1,o2,o3⟩:=zAF b (zAu xs[i]) (0+j*2) (E.w.setCells b (0+i*2) (zAu xs[j]));obtain⟨p1,p2,p3⟩:=zAF b (zAu xs[j]) (0+i*2) E.w;have hold:∀b',b' ≠b->W.heap[b']? =E.w.heap[b']? :=fun b' hne=>by rw [<-hW,zAm b b' hne,zAm b b' hne]
  refine⟨{ E with w:=W },rfl,?_⟩;have hyl:(Sort.swp xs.toArray i j).toList.length=xs.length:=by simp [Sort.swp]
  refine { os:=by show W.os=_;rw [<-hW,o1,p1],tape:=by show W.tape=_;rw [<-hW,o2,p2],output:=by show W.output=_;rw [<-hW,o3,p3],size:=by show _<=W.heap.size;rw [hsize];exact Nat.le_refl _,hdr:=rfl,
           old:=fun b' hb' h=>⟨hold b' (fun e=>by rw [e,t1] at h;cases h),rfl,h⟩,env:=⟨fun b' h=>hE.new b' (by have h:W.heap.size<=b' :=h;rw [hsize] at h;exact h),hE.inj,hE.boxhw⟩,res:=⟨#[],rfl,trivial⟩,outs:=trivial,lents:=⟨⟨.org,_,rfl⟩,?_,trivial⟩,bx:=fun _ _=>rfl }
  show RdP W _ _ (E.hdr 0) (.sl 2 ((Sort.swp xs.toArray i j).toList.map Ty.org.toD));rw [<-hh];have hfin:∀m (hm:m<xs.length) k (hk2:k<2),W.cell? ⟨b,0+m*2+k,none⟩=some ((zAu ((Sort.swp xs.toArray i j).toList[m]'(by rw [hyl];exact hm)))[k]'hk2):=by
   intro m hm k hk2;have hsome:∀(q:Nat) (hq:q<xs.length) (k:Nat),k<2->(E.w.cell? ⟨b,0+q*2+k,none⟩).isSome=true:=fun q hq k hk=>by
    rw [Nat.zero_add,hcell q hq k hk];rfl
   rw [zJc hi hj,<-hW];by_cases h1:m=j
   ·subst h1;simp only [if_true];exact World.cell?_setCells_in b (zAu xs[i]) (0+m*2) _ (fun k hk=>isSome_setCells _ _ _ _ _ (hsome m hm k hk)) k hk2
   ·rw [World.cell?_setCells_out b _ _ _ _ (fun _ _=>by simp only [hl2];omega)];simp only [h1,if_false];by_cases h2:m=i
    ·subst h2;simp only [if_true];exact World.cell?_setCells_in b (zAu xs[j]) (0+m*2) _ (fun k hk=>hsome m hm k hk) k hk2
    ·rw [World.cell?_setCells_out b _ _ _ _ (fun _ _=>by simp only [hl2];omega)];simp only [h2,if_false];rw [Nat.zero_add];exact hcell m hm k hk2
  refine .sl b 0 xs.length cap 2 _ (fun m k=>if h:m<xs.length/\k<2 then(zAu ((Sort.swp xs.toArray i j).toList[m]'(by rw [hyl];exact h.1)))[k]'h.2 else .bool false) (by simp [hyl]) hcap (fun r hr=> ?_) ⟨?_,fun _=>hh⟩ (fun m k hm hk2=> ?_) (fun m k hm hk2=> ?_)
  ·obtain⟨y,_,rfl⟩:=List.mem_map.1 hr;exact Ty.toD_length .org y
  ·refine⟨t1,t2,t3,cs2,ty,lo,hi',b1,?_,t6⟩;rw [b2,a2];exact t5
  ·refine⟨?_,?_⟩
   ·rw [dif_pos ⟨hm,hk2⟩];exact hfin m hm k hk2
   ·refine⟨?_,t1⟩;show _<E.hw b;rw [t2];have:Ty.sz .org=2:=rfl;omega
  ·have hm' :m<xs.length:=by simpa [hyl] using hm
   have hr:((Sort.swp xs.toArray i j).toList.map Ty.org.toD)[m]=Ty.org.toD ((Sort.swp xs.toArray i j).toList[m]'(by rw [hyl];exact hm')):=by rw [List.getElem_map]
   have hk2' :k<2:=by rw [hr] at hk2;exact hk2
   rw [dif_pos ⟨hm',hk2'⟩];simp only [hr]
   match k,hk2' with
   |0,_=>exact .int .i64 _
   |1,_=>exact .int .i64 _
 |⟨[]⟩,hA=>exact hA.elim
 |⟨[_]⟩,hA=>exact hA.2.elim
 |⟨[_,_]⟩,hA=>exact hA.2.2.elim
 |⟨[_,_,_]⟩,hA=>exact hA.2.2.2.elim
 |⟨_::_::_::_::_::_⟩,hA=>exact hA.2.2.2.2.elim
end Go.Ab
end
