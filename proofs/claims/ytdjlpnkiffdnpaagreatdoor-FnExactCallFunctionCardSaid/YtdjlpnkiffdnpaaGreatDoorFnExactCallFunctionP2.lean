/- The statement FnExactCallFunction holds: plain functions, certificates, laws. Conditions: none. -/
import Derived.Test.YtdjlpnkiffdnpaaGreatDoorL2
import Derived.Test.YtdjlpnkiffdnpaaGreatDoorFnExactCallFunctionP1
set_option linter.all false
section
open Go.IntKind (i64)
namespace Go.Ab
theorem xPc{σ ρ:Type}{L:Nat->σ->Option ρ}(m:σ->Nat)(Inv:σ->Prop)(Post:ρ->Prop)
 (hstep:∀s,Inv s->(∃s',Inv s' /\m s' <m s/\∀n,L (n+1) s=L n s')\/(∃r,Post r/\∀n,L (n+1) s=some r)):
 ∀n s,Inv s->m s<n->∃r,Post r/\L n s=some r:=by
 intro n
 induction n with
 |zero=>intro s _ h;omega
 |succ n ih=>
  intro s hs hn;rcases hstep s hs with ⟨s',h1,h2,h3⟩|⟨r,h1,h2⟩
  ·obtain⟨r,h4,h5⟩:=ih s' h1 (by omega);exact⟨r,h4,by rw [h3];exact h5⟩
  ·exact⟨r,h1,h2 n⟩
theorem zG{α σ ρ:Type}{L:Nat->Int->σ->Option ρ}(x0:List α)(g:List α->σ->ρ)(Inv:Nat->σ->Prop)
 (hnil:∀n s,Inv x0.length s->L (n+1) (x0.length:Nat) s=some (g [] s))
 (hcons:∀i x l s,x0.drop i=x::l->i<x0.length->x0[i]? =some x->Inv i s->
   (∃s',Inv (i+1) s' /\g (x::l) s=g l s' /\∀n,L (n+1) (i:Nat) s=L n ((i+1:Nat):Int) s')\/(∀n,L (n+1) (i:Nat) s=some (g (x::l) s))):
 ∀n i s,Inv i s->i<=x0.length->x0.length<n+i->L n (i:Nat) s=some (g (x0.drop i) s):=by
 intro n
 induction n with
 |zero=>intro i s _ h1 h2;omega
 |succ n ih=>
  intro i s hs hi hn;cases hd:x0.drop i with
  |nil=>
   have:=An hd;obtain rfl:i=x0.length:=by omega
   exact hnil n s hs
  |cons x l=>
   obtain⟨h1,h2,h3⟩:=A0 hd;rcases hcons i x l s hd h1 h2 hs with ⟨s',h4,h5,h6⟩|h
   ·rw [h6,ih (i+1) s' h4 (by omega) (by omega),h3,h5]
   ·exact h n
theorem yR{α:Type}{xs:List α}{i:Nat}{x:α}(h:xs[i]? =some x)(d:α):xs.getD i d=x:=by simp [List.getD,h]
theorem yU{i:Nat}{len:Nat}(h:i<len)(hl:len<=9223372036854775807):i64.wrap ((i:Int)+1)=((i+1:Nat):Int):=by
 rw [zL (by omega) (by omega)];omega
def left(s:Nat)(l:Int):Int:=if(s:Int)<=l then l - s else -1
theorem Nx{s:Nat}{l:Int}(h:(s:Int)<=l):left s l=l - s:=by unfold left;rw [Zx h]
theorem H1{s:Nat}{l:Int}(h:¬(s:Int)<=l):left s l= -1:=by unfold left;rw [Zj h]
theorem GB{s b:Nat}{F:Option Int}{R:Int->Option Int}{l:Int}(hl:s<=9223372036854775807)(h0:0<=l)(h1:l<=1048576)
 (hF:F=bif decide (i64.wrap (l - (s:Int))<0) then some (-1) else R (i64.wrap (l - (s:Int))))
 (hR:∀m,0<=m->m<=1048576->R m=some (left b m)):F=some (left (s+b) l):=by
 rw [hF,zL (by omega) (by omega)];by_cases h:(s:Int)<=l
 ·rw [Zy (by omega),jF,hR _ (by omega) (by omega)];unfold left;split <;>split <;>first |rfl|omega|(congr 1;omega)
 ·rw [Zz (by omega),jT,H1 (by omega)]
theorem xAN{s:Nat}{l:Int}(hl:s<=9223372036854775807)(h0:0<=l)(h1:l<=1048576):
 (bif decide (i64.wrap (l - (s:Int))<0) then some (-1) else some (i64.wrap (l - (s:Int))))=some (left s l):=by
 rw [zL (by omega) (by omega)];unfold left;by_cases h:(s:Int)<=l
 ·rw [Zy (by omega),Zx h];rfl
 ·rw [Zz (by omega),Zj h];rfl
theorem KS{a b:Nat}{l:Int}{x:Option Int}{R:Int->Option Int}(h0:0<=l)(h1:l<=1048576)(h:x=some (left a l))(hR:∀m,0<=m->m<=1048576->R m=some (left b m)):
 (x.bind fun r1=>bif decide (r1<0) then(some (-1):Option Int) else R r1)=some (left (a+b) l):=by
 rw [h,jS];by_cases h:(a:Int)<=l
 ·rw [Nx h,Zy (by omega),jF,hR _ (by omega) (by omega)];unfold left;split <;>split <;>first |rfl|omega|(congr 1;omega)
 ·rw [H1 h,H1 (by omega)];rfl
theorem Ny{a:Nat}{l:Int}{x:Option Int}(h:x=some (left a l)):(x.bind fun r1=>bif decide (r1<0) then(some (-1):Option Int) else some r1)=some (left a l):=by
 rw [h,jS];unfold left;split
 ·rw [Zy (by omega)];rfl
 ·rfl
section
variable {α:Type} {d:α}
theorem KU{L:Nat->List α->Int->Int->Option Int}{sz:α->Int->Option Int}{size:α->Nat}{x0:List α}
 (hL:∀n x1 x5,L (n+1) x0 x1 x5=bif decide (x5<(x0.length:Int)) then(if(0:Int)<=x5/\x5<(x0.length:Int) then Option.bind (sz (x0.getD x5.toNat d) x1) fun r1=>bif decide (r1<0) then some (-1) else L n x0 r1 (i64.wrap (x5+1)) else none) else some x1)
 (hlen:x0.length<=9223372036854775807) (hsz:∀x∈x0,∀l,0<=l->l<=1048576->sz x l=some (left (size x) l)) {n:Nat} (hn:x0.length<n) {l:Int} (h0:0<=l) (h1:l<=1048576):
 L n x0 l 0=some (left (x0.map size).sum l):=by
 have key:=zG (L:=fun n i s=>L n x0 s i) x0 (fun l s=>left (l.map size).sum s) (fun _ s=>0<=s/\s<=1048576) (fun n s hs=>by
  have hs:0<=s/\s<=1048576:=hs;simp only [hL];simp [left];omega)
  (fun i x r s hd hi hx hs=>by
    have hs:0<=s/\s<=1048576:=hs;have hi' :(i:Int)<(x0.length:Int):=by omega
    have hm:x∈x0:=Zt hx;by_cases hle:(size x:Int)<=s
    ·refine .inl ⟨s - size x,by omega,?_,fun n=> ?_⟩
     ·simp only [Zb,List.sum_cons,left];split <;>split <;>omega
     ·simp only [hL,Zz hi',jT,jI,yR hx,hsz x hm s hs.1 hs.2,Nx hle,jS,yU hi hlen];rw [Zx (by omega),Zy (by omega),jF]
    ·refine .inr fun n=> ?_;simp only [hL,Zz hi',jT,jI,yR hx,hsz x hm s hs.1 hs.2,H1 hle,jS];rw [Zx (by omega),Zz (by omega),jT];simp only [Zb,List.sum_cons,left];rw [Zj (by omega)])
  n 0 l ⟨h0,h1⟩ (by omega) (by omega)
 simpa using key
theorem xOD{L:Nat->List α->Int->Int->Option Int}{sz:α->Int->Option Int}{size:α->Nat}{x0:List α}
 (hL:∀n x1 x5,L (n+1) x0 x1 x5=bif decide (x5<(x0.length:Int)) then(if(0:Int)<=x5/\x5<(x0.length:Int) then Option.bind (sz (x0.getD x5.toNat d) x1) fun r1=>bif decide (r1<0) then some (-1) else L n x0 r1 (i64.wrap (x5+1)) else none) else some x1)
 (hlen:x0.length<=9223372036854775807) (hsz:∀x∈x0,∀l,0<=l->l<=1048576->∃r,sz x l=some r/\((size x:Int)<=l->r=l - size x)/\(¬(size x:Int)<=l->r<0)) {n:Nat} (hn:x0.length<n) {l:Int} (h0:0<=l) (h1:l<=1048576):
 L n x0 l 0=some (left (x0.map size).sum l):=by
 have key:=zG (L:=fun n i s=>L n x0 s i) x0 (fun l s=>left (l.map size).sum s) (fun _ s=>0<=s/\s<=1048576) (fun n s hs=>by
  have hs:0<=s/\s<=1048576:=hs;simp only [hL];simp [left];omega)
  (fun i x r s hd hi hx hs=>by
    have hs:0<=s/\s<=1048576:=hs;have hi' :(i:Int)<(x0.length:Int):=by omega
    have hm:x∈x0:=Zt hx;obtain⟨q,hq,hq1,hq2⟩:=hsz x hm s hs.1 hs.2;by_cases hle:(size x:Int)<=s
    ·refine .inl ⟨s - size x,by omega,?_,fun n=> ?_⟩
     ·simp only [Zb,List.sum_cons,left];split <;>split <;>omega
     ·simp only [hL,Zz hi',jT,jI,yR hx,hq,hq1 hle,jS,yU hi hlen];rw [Zx (by omega),Zy (by omega),jF]
    ·refine .inr fun n=> ?_;simp only [hL,Zz hi',jT,jI,yR hx,hq,jS];have:=hq2 hle;rw [Zx (by omega),Zz (by omega),jT];simp only [Zb,List.sum_cons,left];rw [Zj (by omega)])
  n 0 l ⟨h0,h1⟩ (by omega) (by omega)
 simpa using key
theorem GG{L:Nat->List α->List α->Int->Option (List α)}{to:α->Option α}{re:α->α}{x0:List α}
 (hL:∀n x3 x4,L (n+1) x0 x3 x4=bif decide (x4<(x0.length:Int)) then(if(0:Int)<=x4/\x4<(x0.length:Int) then Option.bind (to (x0.getD x4.toNat d)) fun r1=>(if(0:Int)<=x4/\x4<(x3.length:Int) then L n x0 (x3.set x4.toNat (re r1)) (i64.wrap (x4+1)) else none) else none) else some x3)
 (hlen:x0.length<=9223372036854775807) (hto:∀x∈x0,∃y,to x=some y/\re y=x) {n:Nat} (hn:x0.length<n):
 L n x0 (List.replicate x0.length d) 0=some x0:=by
 have key:=zG (L:=fun n i s=>L n x0 s i) x0 (fun _ _=>x0) (fun i s=>s=x0.take i++List.replicate (x0.length - i) d) (fun n s hs=>by
  have hs:s=x0.take x0.length++List.replicate (x0.length - x0.length) d:=hs;simp only [hL];simp [hs])
  (fun i x r s hd hi hx hs=>by
    have hs:s=x0.take i++List.replicate (x0.length - i) d:=hs;have hi' :(i:Int)<(x0.length:Int):=by omega
    have hm:x∈x0:=Zt hx;obtain⟨y,h1,h2⟩:=hto x hm;have hsl:s.length=x0.length:=by rw [hs];simp;omega
    refine .inl ⟨s.set i x,?_,rfl,fun n=> ?_⟩
    ·show s.set i x=x0.take (i+1)++List.replicate (x0.length - (i+1)) d;rw [hs,List.set_append];have:(x0.take i).length=i:=by simp;omega
     rw [this,Zj (by omega),Xs,hx,Option.toList_some,Ze,Xo];rw [show x0.length - i=(x0.length - (i+1))+1 from by omega,List.replicate_succ,List.set_cons_zero]
     rfl
    ·simp only [hL,Zz hi',jT,jI,yR hx,h1,h2,jS,yU hi hlen,hsl];rw [Zx (by omega),Zx (by omega)])
  n 0 (List.replicate x0.length d) (by simp) (by omega) (by omega)
 exact key
theorem FK{L:Nat->Int->Option Bool}{x0:List α}(hend:∀n,L (n+1) (x0.length:Nat)=some true)
 (hcons:∀(i:Nat) x n,i<x0.length->x0[i]? =some x->x∈x0->L (n+1) (i:Nat)=L n ((i+1:Nat):Int)) {n:Nat} (hn:x0.length<n):L n 0=some true:=by
 have key:=zG (σ:=Unit) (L:=fun n i _=>L n i) x0 (fun _ _=>true) (fun _ _=>True) (fun n _ _=>hend n)
  (fun i x r s hd hi hx _=> .inl ⟨(),trivial,rfl,fun n=>hcons i x n hi hx (Zt hx)⟩) n 0 () trivial (by omega) (by omega)
 exact key
end
end Go.Ab
end
section
namespace Go.Ab
theorem vk(a b c:Int)(t:Str)(l:List Val)(k:List Str)(r:List Rowd):(Val.mk a b c t l k r).kind=a:=rfl
theorem vn(a b c:Int)(t:Str)(l:List Val)(k:List Str)(r:List Rowd):(Val.mk a b c t l k r).n=b:=rfl
theorem vs(a b c:Int)(t:Str)(l:List Val)(k:List Str)(r:List Rowd):(Val.mk a b c t l k r).step=c:=rfl
theorem vt(a b c:Int)(t:Str)(l:List Val)(k:List Str)(r:List Rowd):(Val.mk a b c t l k r).text=t:=rfl
theorem vl(a b c:Int)(t:Str)(l:List Val)(k:List Str)(r:List Rowd):(Val.mk a b c t l k r).list=l:=rfl
theorem vc(a b c:Int)(t:Str)(l:List Val)(k:List Str)(r:List Rowd):(Val.mk a b c t l k r).columns=k:=rfl
theorem vr(a b c:Int)(t:Str)(l:List Val)(k:List Str)(r:List Rowd):(Val.mk a b c t l k r).rows=r:=rfl
theorem ek(a b:Int)(t:Str)(l:List Exp):(Exp.mk a b t l).kind=a:=rfl
theorem en(a b:Int)(t:Str)(l:List Exp):(Exp.mk a b t l).n=b:=rfl
theorem ea(a b:Int)(t:Str)(l:List Exp):(Exp.mk a b t l).args=l:=rfl
def Rowd.size(r:Rowd):Nat:=r.cells.length+r.frm.length
mutual
def Val.size:Val->Nat
 | .mk _ _ _ t l c r=>t.length+(l.length+Val.sizes l)+(c.length+(c.map List.length).sum)+(r.length+(r.map Rowd.size).sum)
def Val.sizes:List Val->Nat
 | []=>0
 |x::r=>Val.size x+Val.sizes r
end
theorem Val.sizes_eq(l:List Val):Val.sizes l=(l.map Val.size).sum:=by
 induction l with
 |nil=>rfl
 |cons x l ih=>simp [Val.sizes,ih]
theorem Hf{α:Type}{f:α->Nat}{l:List α}{x:α}(h:x∈l):f x<=(l.map f).sum:=by
 induction l with
 |nil=>cases h
 |cons a l ih=>
  simp only [Zb,List.sum_cons];rcases Zl.1 h with rfl|h
  ·omega
  ·have:=ih h;omega
theorem Val.size_eq(e:Val):e.size=e.text.length+(e.list.length+(e.list.map Val.size).sum)+(e.columns.length+(e.columns.map List.length).sum)+(e.rows.length+(e.rows.map Rowd.size).sum):=by
 cases e;simp [Val.size,Val.sizes_eq,Val.text,Val.list,Val.columns,Val.rows]
theorem H3{α:Type}{K M:Nat}{p q:α->Prop}{f:α->Nat}{l:List α}(h:zE M p l)(hs:l.length+(l.map f).sum<=K)(hpq:∀x∈l,p x->f x<=K->q x):zE K q l:=
 ⟨by omega,fun x hx=>hpq x hx (h.2 x hx) (by have:=Hf (f:=f) hx;omega)⟩
theorem Rowd.fit_size{K M:Nat}{r:Rowd}(h:r.Fit M)(hs:r.size<=K):r.Fit K:=by
 unfold Rowd.size at hs;exact⟨⟨by omega,h.1.2⟩,⟨by omega,h.2.2⟩⟩
theorem Val.fit_size{K M:Nat}:∀e:Val,e.Fit M->e.size<=K->e.Fit K:=by
 refine Val.ind fun k n s t l c r ih h hs=> ?_;rw [Val.fit_iff] at h ⊢;obtain⟨h1,h2,h3,h4,h5,h6,h7⟩:=h;have hs:=hs;rw [Val.size_eq] at hs;exact⟨h1,h2,h3,show List.length _<=K from by omega,H3 h5 (by omega) fun x hx=>ih x hx,H3 (f:=List.length) h6 (by omega) fun x hx _ h=>h,H3 (f:=Rowd.size) h7 (by omega) fun x hx=>Rowd.fit_size⟩
theorem zM(n:Nat):Big fun N=>n<N:=⟨n+1,fun N h=>by omega⟩
end Go.Ab
end
section
namespace Go.Ab
theorem Fe{α:Type}{Lm:Nat->List α->Int->Int->Option (Int×List α)}{Lh:Nat->List α->Int->Int->Option Int}{c:α->Nat}{x0:List α}{k0 B:Int}{n:Nat}
 (hm:∀n xs k,xs.length=x0.length->Lm (n+1) xs k (xs.length:Nat)=some (k,xs)) (hh:∀n ys k,ys.length=x0.length->Lh (n+1) ys k (ys.length:Nat)=some k)
 (hx:∀x∈x0,∀k,k0<=k->k+c x<=B->∃y,(∀n xs (i:Nat),xs.length=x0.length->xs[i]? =some x->Lm (n+1) xs k i=Lm n (xs.set i y) (k+c x) ((i+1:Nat):Int))/\
   (∀n ys (i:Nat),ys.length=x0.length->ys[i]? =some y->Lh (n+1) ys k i=Lh n ys (k+c x) ((i+1:Nat):Int)))
 (hk:k0+(x0.map c).sum<=B) (hn:x0.length<n):∃ys,ys.length=x0.length/\Lm n x0 k0 0=some (k0+(x0.map c).sum,ys)/\Lh n ys k0 0=some (k0+(x0.map c).sum):=by
 have key:∀(l pre:List α) (k:Int) (n:Nat),pre.length+l.length=x0.length->(∀x∈l,x∈x0)->k0<=k->k+(l.map c).sum<=B->l.length<n->
  ∃ys,ys.length=l.length/\Lm n (pre++l) k (pre.length:Nat)=some (k+(l.map c).sum,pre++ys)/\∀pre' :List α,pre'.length=pre.length->Lh n (pre' ++ys) k (pre.length:Nat)=some (k+(l.map c).sum):=by
  intro l
  induction l with
  |nil=>
   intro pre k n hl hmem h0 hB hn;obtain⟨n,rfl⟩:∃m,n=m+1:=⟨n - 1,by simp at hn;omega⟩;refine⟨[],rfl,?_,fun pre' hp=> ?_⟩
   ·have:=hm n (pre++ []) k (by simpa using hl);simpa using this
   ·have:=hh n (pre' ++ []) k (by simp [hp];simpa using hl);simp only [Zd,hp] at this;simpa using this
  |cons x l ih=>
   intro pre k n hl hmem h0 hB hn;obtain⟨n,rfl⟩:∃m,n=m+1:=⟨n - 1,by simp at hn;omega⟩;simp only [Zb,List.sum_cons,jC] at hB hl hn;obtain⟨y,h1,h2⟩:=hx x (hmem x Zp) k h0 (by omega);obtain⟨ys,g1,g2,g3⟩:=ih (pre++ [y]) (k+c x) n (by simp;omega) (fun z hz=>hmem z (Zr _ hz)) (by omega) (by omega) (by omega);refine⟨y::ys,by simp [g1],?_,fun pre' hp=> ?_⟩
   ·rw [h1 n (pre++x::l) pre.length (by simp;omega) (by simp)];rw [List.set_append,Zj (by omega),Xo,List.set_cons_zero];have e:((pre.length+1:Nat):Int)=((pre++ [y]).length:Nat):=by simp
    rw [e,show pre++y::l=(pre++ [y])++l from by simp,g2];simp only [Zb,List.sum_cons,Ze,jO,jM]
    congr 2
    omega
   ·rw [h2 n (pre' ++y::ys) pre.length (by simp [hp,g1];omega) (by rw [<-hp];simp)];have e:((pre.length+1:Nat):Int)=((pre++ [y]).length:Nat):=by simp
    rw [e,show pre' ++y::ys=(pre' ++ [y])++ys from by simp,g3 (pre' ++ [y]) (by simp [hp])];simp only [Zb,List.sum_cons]
    congr 1
    omega
 obtain⟨ys,h1,h2,h3⟩:=key x0 [] k0 n (by simp) (fun x h=>h) (XY _) hk hn;exact⟨ys,h1,h2,by simpa using h3 [] rfl⟩
theorem IR{α:Type}{f g:α->Nat}{l:List α}{a:Nat}(h:∀x∈l,f x<=a+a*g x):(l.map f).sum<=a*(l.length+(l.map g).sum):=by
 induction l with
 |nil=>simp
 |cons x l ih=>
  have h1:=h x Zp;have h2:=ih fun y hy=>h y (Zr _ hy);simp only [Zb,List.sum_cons,jC,Nat.mul_add] at h2 ⊢;omega
theorem Ij{α:Type}{xs:List α}{i:Nat}(h:i<xs.length)(y d:α):(xs.set i y).getD i d=y:=by simp [List.getD,h]
end Go.Ab
end
section
namespace Go.Ab
def DL(c:UInt8):Bool:=decide ((c.toNat:Int)>=97)&&decide ((c.toNat:Int)<=122)
def Cm(c:UInt8):Bool:=decide ((c.toNat:Int)>=48)&&decide ((c.toNat:Int)<=57)
def Aa:List UInt8->Bool->Bool
 | [],_=>true
 |x::r,f=>(DL x||(!f&&Cm x))&&Aa r false
theorem xNL{N:Nat}{s:Str}(hl:s.length<=9223372036854775807)(hn:s.length<N):KH N s=some (Aa s true&&decide ((s.length:Int)>0)):=
 zG (L:=fun n i _=>BV N n s i) s (fun l f=>Aa l f&&decide ((s.length:Int)>0)) (fun i f=>f=(i==0)) (fun n _ _=>by simp [BV,Aa])
  (fun i x l f hd hi hx hf=>by
    have hi' :(i:Int)<(s.length:Int):=by omega
    have hi0:((i:Int)==0)=f:=by rw [hf];cases i <;>simp <;>omega
    by_cases h1:(DL x||(!f&&Cm x))=true
    ·refine .inl ⟨false,by simp,by simp [Aa,h1],fun n=> ?_⟩;simp only [BV,Zz hi',jT,jI,yR hx,yU hi hl,hi0];rw [Zx (by omega)];unfold DL Cm at h1
     by_cases c1:(x.toNat:Int)>=97 <;>by_cases c2:(x.toNat:Int)<=122 <;>by_cases c3:(x.toNat:Int)>=48 <;>by_cases c4:(x.toNat:Int)<=57 <;>cases f <;>
      simp only [c1,c2,c3,c4,decide_true,Z2,jT,jF,jU,jV,Ye,Y5,X4,YF,ZQ,ZF,ZJ,Yk] at h1 ⊢
    ·refine .inr fun n=> ?_;have h1:=Bool.eq_false_iff.2 h1;simp only [BV,Zz hi',jT,jI,yR hx,yU hi hl,hi0,Aa,h1,ZQ];rw [Zx (by omega)];unfold DL Cm at h1
     by_cases c1:(x.toNat:Int)>=97 <;>by_cases c2:(x.toNat:Int)<=122 <;>by_cases c3:(x.toNat:Int)>=48 <;>by_cases c4:(x.toNat:Int)<=57 <;>cases f <;>
      simp only [c1,c2,c3,c4,decide_true,Z2,jT,jF,jU,jV,Ye,Y5,X4,YF,ZQ,ZF,ZJ,Bool.true_eq_false] at h1 ⊢) N 0 true rfl (by omega) (by omega)
theorem DE(N:Nat)(a b c:Int):Bg N a b c=some (decide (b<=a)&&decide (a<=c)):=by
 unfold Bg;cases h:decide (b<=a) <;>simp
theorem Ew(N:Nat)(a b c:Int):D7 N a b c=some (decide (b<=a)&&decide (a<=c)):=by
 unfold D7;cases h:decide (b<=a)
 ·rfl
 ·rfl
theorem xIk{N:Nat}{s:Str}(hl:s.length<=9223372036854775807)(hn:s.length<N):JC N s=some (Aa s true&&(decide ((1:Int)<=s.length)&&decide ((s.length:Int)<=8))):=
 zG (L:=fun n i _=>Bc N n s i) s (fun l f=>Aa l f&&(decide ((1:Int)<=s.length)&&decide ((s.length:Int)<=8))) (fun i f=>f=(i==0)) (fun n _ _=>by simp [Bc,Aa,DE])
  (fun i x l f hd hi hx hf=>by
    have hi' :(i:Int)<(s.length:Int):=by omega
    have hi0:((i:Int)==0)=f:=by rw [hf];cases i <;>simp <;>omega
    have e1:decide ((x.toNat:Int)<48)= !decide ((x.toNat:Int)>=48):=by by_cases c:(x.toNat:Int)>=48 <;>simp [c] <;>omega
    have e2:decide ((x.toNat:Int)>57)= !decide ((x.toNat:Int)<=57):=by by_cases c:(x.toNat:Int)<=57 <;>simp [c] <;>omega
    by_cases h1:(DL x||(!f&&Cm x))=true
    ·refine .inl ⟨false,by simp,by simp [Aa,h1],fun n=> ?_⟩;simp only [Bc,Zz hi',jT,jI,yR hx,yU hi hl,hi0,e1,e2];rw [Zx (by omega)];unfold DL Cm at h1
     by_cases c1:(x.toNat:Int)>=97 <;>by_cases c2:(x.toNat:Int)<=122 <;>by_cases c3:(x.toNat:Int)>=48 <;>by_cases c4:(x.toNat:Int)<=57 <;>cases f <;>
      simp only [c1,c2,c3,c4,decide_true,Z2,jT,jF,jU,jV,Ye,Y5,X4,YF,ZQ,ZF,ZJ,Yk] at h1 ⊢
    ·refine .inr fun n=> ?_;have h1:=Bool.eq_false_iff.2 h1;simp only [Bc,Zz hi',jT,jI,yR hx,yU hi hl,hi0,e1,e2,Aa,h1,ZQ];rw [Zx (by omega)];unfold DL Cm at h1
     by_cases c1:(x.toNat:Int)>=97 <;>by_cases c2:(x.toNat:Int)<=122 <;>by_cases c3:(x.toNat:Int)>=48 <;>by_cases c4:(x.toNat:Int)<=57 <;>cases f <;>
      simp only [c1,c2,c3,c4,decide_true,Z2,jT,jF,jU,jV,Ye,Y5,X4,YF,ZQ,ZF,ZJ,Bool.true_eq_false] at h1 ⊢) N 0 true rfl (by omega) (by omega)
def E8:List Str:=[[108,101,116],[105,110],[105,102],[116,104,101,110],[101,108,115,101],[102,111,114],[100,111],[108,101,110],[115,117,109],[116,97,107,101],[115,107,105,112],[114,97,110,103,101],[110,116,104],[119,104,101,114,101],[107,101,101,112],[97,100,100],[103,114,111,117,112],[106,111,105,110],[99,111,108,117,109,110],[114,111,119,115],[99,108,111,99,107],[99,104,97,110,99,101],[102,105,108,101],[116,97,98,108,101]]
theorem xAs{N:Nat}{xs:List Str}{s:Str}(hl:xs.length<=9223372036854775807)(hn:xs.length<N):ID N xs s=some (xs.any (· ==s)):=
 zG (σ:=Unit) (L:=fun n i _=>D6 N n xs s i) xs (fun l _=>l.any (· ==s)) (fun _ _=>True) (fun n _ _=>by simp [D6])
  (fun i x l _ hd hi hx _=>by
    have hi' :(i:Int)<(xs.length:Int):=by omega
    cases h1:x==s
    ·refine .inl ⟨(),trivial,by simp [h1],fun n=> ?_⟩;simp only [D6,Zz hi',jT,jI,yR hx,h1,jF,yU hi hl];rw [Zx (by omega)]
    ·refine .inr fun n=> ?_;simp only [D6,Zz hi',jT,jI,yR hx,h1];rw [Zx (by omega)];simp [h1]) N 0 () trivial (by omega) (by omega)
def E7(s:Str):Bool:=E8.any (· ==s)
theorem xMG{N:Nat}{s:Str}(hn:24<N):Hw N s=some (E7 s):=by
 unfold Hw KG;rw [jS,show([[108,101,116],[105,110],[105,102],[116,104,101,110],[101,108,115,101],[102,111,114],[100,111],[108,101,110],[115,117,109],[116,97,107,101],[115,107,105,112],[114,97,110,103,101],[110,116,104],[119,104,101,114,101],[107,101,101,112],[97,100,100],[103,114,111,117,112],[106,111,105,110],[99,111,108,117,109,110],[114,111,119,115],[99,108,111,99,107],[99,104,97,110,99,101],[102,105,108,101],[116,97,98,108,101]]:List Str)=E8 from rfl,xAs (by decide) hn]
 rfl
theorem xGV(N:Nat)(s:Str):G8 N s=some (E7 s):=by
 by_cases h:s∈E8
 ·have h' :E7 s=true:=Yd.2 ⟨s,h,by simp⟩;rw [h'];simp only [E8,Zl,ZT,or_false] at h;rcases h with h|h|h|h|h|h|h|h|h|h|h|h|h|h|h|h|h|h|h|h|h|h|h|h <;>subst h <;>rfl
 ·have h' :E7 s=false:=by
   unfold E7;rw [List.any_eq_false];intro x hx hxs;exact h (by rw [<-eq_of_beq hxs];exact hx)
  rw [h'];have hne:∀x∈E8,(s==x)=false:=by
   intro x hx;cases hb:s==x
   ·rfl
   ·exact absurd (by rw [eq_of_beq hb];exact hx) h
  simp only [E8,Zl,ZT,or_false,forall_eq_or_imp,forall_eq] at hne;simp only [G8,Du,hne,jF,jS]
  rfl
def BI(s:Str):Bool:=Aa s true&&(decide ((1:Int)<=s.length)&&decide ((s.length:Int)<=8))&& !E7 s
theorem Mu{N:Nat}{s:Str}(hl:s.length<=9223372036854775807)(hn:s.length<N):Dy N s=some (BI s):=by
 unfold Dy BI;rw [xIk hl hn,jS];cases (Aa s true&&(decide ((1:Int)<=s.length)&&decide ((s.length:Int)<=8)))
 ·rfl
 ·rw [xGV];rfl
theorem xAd{N:Nat}{s:Str}(hl:s.length<=9223372036854775807)(hn:s.length<N)(hn2:24<N):Fs N s=some (BI s):=by
 unfold Fs BI;rw [xNL hl hn,jS,xMG hn2];have:decide ((s.length:Int)>0)=decide ((1:Int)<=s.length):=by by_cases c:(s.length:Int)>0 <;>simp [c] <;>omega
 rw [this];cases Aa s true <;>cases decide ((1:Int)<=s.length) <;>cases decide ((s.length:Int)<=8) <;>rfl
end Go.Ab
end
section
namespace Go.Ab
theorem guard{s:Nat}(h:¬left s 1048576<0):s<=1048576:=by unfold left at h;split at h <;>omega
end Go.Ab
end
section
open Go.IntKind (i64)
namespace Go.Ab
def zC(n:Int):Bool:=decide ((-1000000000:Int)<=n)&&decide (n<=1000000000)
theorem Bt(N:Nat)(n:Int):BW N n=some (zC n):=by simp [BW,Ew,zC]
theorem DA(N:Nat)(n:Int):BP N n=some (zC n):=by simp [BP,DE,zC]
theorem xPi{i len:Nat}(h0:i≠0)(h:i<len)(hl:len<=9223372036854775807):i64.wrap ((i:Int) - 1)=((i - 1:Nat):Int):=by
 rw [zL (by omega) (by omega)];omega
theorem OE{N:Nat}(hN:274877906944<N){k:Int}(h0:0<=k)(h1:k<=137438953472):∃t,CR N k=some t:=by
 unfold CR;cases decide (k<=0)
 ·rw [jF]
  obtain⟨r,_,hr⟩:=xPc (L:=fun n (s:Int×Str)=>EW N n s.1 s.2) (fun s=>s.1.toNat) (fun s=>0<=s.1/\(s.2.length:Int)+s.1<=137438953472) (fun _=>True) (fun s hs=>by
   obtain⟨x,t⟩:=s;obtain⟨g0,g1⟩:=hs;have g0:0<=x:=g0;have g1:(t.length:Int)+x<=137438953472:=g1;by_cases hx:x>0
   ·have hq:Int.tdiv x 10=x / 10:=Int.tdiv_eq_ediv_of_nonneg g0;refine .inl ⟨(i64.wrap (Int.tdiv x 10),(List.map (fun n=>UInt8.ofNat (Int.toNat n)) [(IntKind.u8.wrap ((i64.wrap (48+(Int.tmod x 10)))))])++t),?_,?_,fun n=> ?_⟩
    ·show 0<=i64.wrap (Int.tdiv x 10)/\_;rw [hq,zL (by omega) (by omega)];simp only [Zb,ZD,jO,jM,jC];omega
    ·show(i64.wrap (Int.tdiv x 10)).toNat<x.toNat;rw [hq,zL (by omega) (by omega)];omega
    ·simp only [EW,Zz hx,jT];rw [Zx (by simp only [Zb,ZD,jC,jN];unfold Lim;omega)]
   ·refine .inr ⟨[109]++t,trivial,fun n=> ?_⟩;simp only [EW,Zy hx,jF];rw [Zx (by simp only [jC,jN];unfold Lim;omega)]) N (k,[]) ⟨h0,by simpa using h1⟩ (by show k.toNat<N;omega)
  exact⟨r,hr⟩
 ·exact⟨_,rfl⟩
end Go.Ab
end
section
open Go.IntKind (i64)
namespace Go.Ab
theorem xOC{N:Nat}{x0:List Int}(h:x0.length<=9223372036854775807){l:Int}(h0:0<=l)(h1:l<=1048576):J0 N x0 l=some (left x0.length l):=xAN h h0 h1
theorem xOE{N:Nat}{x0:List Org}(h:x0.length<=9223372036854775807){l:Int}(h0:0<=l)(h1:l<=1048576):J2 N x0 l=some (left x0.length l):=xAN h h0 h1
theorem xOG{N:Nat}{r:Rowd}(h:r.Fit maxLen){l:Int}(h0:0<=l)(h1:l<=1048576):HL N r l=some (left r.size l):=
 KS h0 h1 (xOC h.1.1 h0 h1) fun m m0 m1=>Ny (xOE h.2.1 m0 m1)
theorem xOF{N:Nat}{x0:List Rowd}(h:zE maxLen (Rowd.Fit maxLen) x0)(hn:x0.length<N){l:Int}(h0:0<=l)(h1:l<=1048576):J3 N x0 l=some (left (x0.length+(x0.map Rowd.size).sum) l):=
 GB h.1 h0 h1 rfl fun m hm0 hm1=>KU (L:=fun n x0 x1 x5=>HM N n x0 x1 x5) (d:=Dr) (sz:=HL N) (fun _ _ _=>rfl) h.1 (fun x hx l h0 h1=>xOG (h.2 x hx) h0 h1) hn hm0 hm1
theorem xOH{N:Nat}{x0:List Str}(h:zE maxLen (Str.Fit maxLen) x0)(hn:x0.length<N){l:Int}(h0:0<=l)(h1:l<=1048576):J4 N x0 l=some (left (x0.length+(x0.map List.length).sum) l):=
 GB h.1 h0 h1 rfl fun m hm0 hm1=>xOD (L:=fun n x0 x1 x5=>HN N n x0 x1 x5) (d:=Ds) (sz:=fun s l=>some (i64.wrap (l - (List.length s:Int)))) (size:=List.length) (fun _ _ _=>rfl) h.1
  (fun x hx l h0 h1=>by
    have hx:x.length<=9223372036854775807:=h.2 x hx;exact⟨_,rfl,fun h=>by rw [zL (by omega) (by omega)],fun h=>by rw [zL (by omega) (by omega)];omega⟩) hn hm0 hm1
theorem xOI:∀v:Val,v.Fit maxLen->Big2 fun N d=>∀l,0<=l->l<=1048576->(A3 N d).c_laws_szValue v l=some (left v.size l):=by
 refine Val.ind fun k n s t a c r ih h=> ?_;obtain⟨h1,h2,h3,h4,h5,h6,h7⟩:=Val.fit_iff.1 h;refine Big2.succ (Big2.succ ?_);refine((Big2.list fun x hx=>ih x hx (h5.2 x hx)).and ((zM a.length).and ((zM c.length).and (zM r.length))).two).imp fun N d ⟨hx,hn,hc,hr⟩ l h0 l1=> ?_;have e:(Val.mk k n s t a c r).size=t.length+((a.length+(a.map Val.size).sum)+((c.length+(c.map List.length).sum)+(r.length+(r.map Rowd.size).sum))):=by rw [Val.size_eq];simp only [Val.text,Val.list,Val.columns,Val.rows];omega
 rw [e]
 exact GB h4 h0 l1 rfl fun m m0 m1=>KS m0 m1 (GB h5.1 m0 m1 rfl fun m m0 m1=>
  KU (L:=fun n x0 x1 x5=>Fb N (A3 N d).c_laws_szValue (A3 N d).c_laws_szValueS n x0 x1 x5) (d:=Dv) (sz:=(A3 N d).c_laws_szValue)
   (fun _ _ _=>rfl) h5.1 (fun x hxm l h0 h1=>hx x hxm l h0 h1) hn m0 m1) fun m m0 m1=>KS m0 m1 (xOH h6 hc m0 m1) fun m m0 m1=>Ny (xOF h7 hr m0 m1)
theorem xAO{x0:List Val}(h:zE maxLen (Val.Fit maxLen) x0):Big fun N=>∀l,0<=l->l<=1048576->J5 N x0 l=some (left (x0.length+(x0.map Val.size).sum) l):=by
 have key:Big2 fun N d=>∀l,0<=l->l<=1048576->(A3 N d).c_laws_szValueS x0 l=some (left (x0.length+(x0.map Val.size).sum) l):=by
  refine Big2.succ ?_;refine((Big2.list fun x hx=>xOI x (h.2 x hx)).and (zM x0.length).two).imp fun N d ⟨hx,hn⟩ l h0 l1=> ?_
  exact GB h.1 h0 l1 rfl fun m m0 m1=>
   KU (L:=fun n x0 x1 x5=>Fb N (A3 N d).c_laws_szValue (A3 N d).c_laws_szValueS n x0 x1 x5) (d:=Dv) (sz:=(A3 N d).c_laws_szValue)
    (fun _ _ _=>rfl) h.1 (fun x hxm l h0 h1=>hx x hxm l h0 h1) hn m0 m1
 exact key.diag
theorem xOR{N:Nat}{x0:List Int}(hl:x0.length<=1048576)(hn:x0.length<N):HP N x0=some x0:=by
 unfold HP;rw [Zx ⟨by omega,rfl,by unfold Lim;omega⟩];exact GG (L:=fun n x0 x3 x4=>HQ N n x0 x3 x4) (to:=some) (re:=fun r=>r) (fun _ _ _=>rfl) (by omega) (fun x hx=>⟨x,rfl,rfl⟩) hn
theorem xOV{N:Nat}{x0:List Str}(hl:x0.length<=1048576)(hn:x0.length<N):HV N x0=some x0:=by
 unfold HV;rw [Zx ⟨by omega,rfl,by unfold Lim;omega⟩];exact GG (L:=fun n x0 x3 x4=>HW N n x0 x3 x4) (to:=some) (re:=fun r=>r) (fun _ _ _=>rfl) (by omega) (fun x hx=>⟨x,rfl,rfl⟩) hn
theorem xOS{N:Nat}{x0:List Org}(hl:x0.length<=1048576)(hn:x0.length<N):HR N x0=some x0:=by
 unfold HR;rw [Zx ⟨by omega,rfl,by unfold Lim;omega⟩];exact GG (L:=fun n x0 x3 x4=>HS N n x0 x3 x4) (to:=J7 N) (re:=fun r=>r) (fun _ _ _=>rfl) (by omega) (fun x hx=>⟨x,rfl,rfl⟩) hn
theorem xOU{N:Nat}{r:Rowd}(h:r.Fit 1048576)(hN:1048576<N):Fc N r=some r:=by
 have h1:r.cells.length<=1048576:=h.1.1;have h2:r.frm.length<=1048576:=h.2.1;unfold Fc;rw [xOR h1 (by omega),xOS h2 (by omega)];rfl
theorem xOT{N:Nat}{x0:List Rowd}(h:zE 1048576 (Rowd.Fit 1048576) x0)(hN:1048576<N):HT N x0=some x0:=by
 have hl:x0.length<=1048576:=h.1;unfold HT;rw [Zx ⟨by omega,rfl,by unfold Lim;omega⟩];exact GG (L:=fun n x0 x3 x4=>HU N n x0 x3 x4) (to:=Fc N) (re:=fun r=>r) (fun _ _ _=>rfl) (by omega) (fun x hx=>⟨x,xOU (h.2 x hx) hN,rfl⟩) (by omega)
theorem xAS{N d:Nat}{a:List Val}(hl:a.length<=1048576)(hn:a.length<N)(hx:∀x∈a,(AL N d).c_laws_toValue x=some x):(AL N (d+1)).c_laws_toValueS a=some a:=by
 show HY N (AL N d).c_laws_toValue (AL N d).c_laws_toValueS a=_;unfold HY;rw [Zx ⟨by omega,rfl,by unfold Lim;omega⟩];exact GG (L:=fun n x0 x3 x4=>HX N (AL N d).c_laws_toValue (AL N d).c_laws_toValueS n x0 x3 x4) (to:=(AL N d).c_laws_toValue) (re:=Val.re) (fun _ _ _=>rfl) (by omega) (fun x hxm=>⟨x,hx x hxm,Val.re_eq x⟩) hn
theorem xOX:∀v:Val,v.Fit 1048576->Big2 fun N d=>(AL N d).c_laws_toValue v=some v:=by
 refine Val.ind fun k n s t a c r ih h=> ?_;obtain⟨h1,h2,h3,h4,h5,h6,h7⟩:=Val.fit_iff.1 h;refine Big2.succ (Big2.succ ?_);refine((Big2.list fun x hx=>ih x hx (h5.2 x hx)).and (zM 1048576).two).imp fun N d ⟨hx,hN⟩=> ?_;have hl:a.length<=1048576:=h5.1;have hc:c.length<=1048576:=h6.1;show H0 N (AL N (d+1)).c_laws_toValue (AL N (d+1)).c_laws_toValueS _=_;unfold H0;simp only [Val.list,Val.columns,Val.rows,xAS (N:=N) hl (by omega) hx,xOV (N:=N) hc (by omega),xOT (x0:=r) h7 hN,jS]
 rfl
theorem xOW{x0:List Val}(h:zE 1048576 (Val.Fit 1048576) x0):Big fun N=>CS N x0=some x0:=by
 have key:Big2 fun N d=>(AL N d).c_laws_toValueS x0=some x0:=
  Big2.succ (((Big2.list fun x hx=>xOX x (h.2 x hx)).and (zM x0.length).two).imp fun N d ⟨hx,hn⟩=>xAS h.1 hn hx)
 exact key.diag
theorem xEz{N:Nat}{x0:List Int}(hl:x0.length<=9223372036854775807)(hn:x0.length<N):Gv N x0 x0=some true:=by
 unfold Gv;rw [ZA,jF]
 exact FK (L:=fun n i=>EJ N n x0 x0 i) (fun n=>by simp [EJ]) (fun i x n hi hx hm=>by
  have hi' :(i:Int)<(x0.length:Int):=by omega
  simp only [EJ,Zz hi',jT,jI,yR hx,yU hi hl,ZA,jF];rw [Zx (by omega),Zx (by omega)]) hn
theorem xEE{N:Nat}{x0:List Str}(hl:x0.length<=9223372036854775807)(hn:x0.length<N):HA N x0 x0=some true:=by
 unfold HA;rw [ZA,jF]
 exact FK (L:=fun n i=>EM N n x0 x0 i) (fun n=>by simp [EM]) (fun i x n hi hx hm=>by
  have hi' :(i:Int)<(x0.length:Int):=by omega
  simp only [EM,Zz hi',jT,jI,yR hx,yU hi hl,Y6,jU,jF];rw [Zx (by omega),Zx (by omega)]) hn
theorem xEB(N:Nat)(f:Org):Gw N f f=some true:=by simp [Gw]
theorem xEA{N:Nat}{x0:List Org}(hl:x0.length<=9223372036854775807)(hn:x0.length<N):Gx N x0 x0=some true:=by
 unfold Gx;rw [ZA,jF]
 exact FK (L:=fun n i=>EK N n x0 x0 i) (fun n=>by simp [EK]) (fun i x n hi hx hm=>by
  have hi' :(i:Int)<(x0.length:Int):=by omega
  simp only [EK,Zz hi',jT,jI,yR hx,xEB,jS,yU hi hl,jU,jF];rw [Zx (by omega),Zx (by omega)]) hn
theorem xED{N K:Nat}{r:Rowd}(h:r.Fit K)(hK:K<=9223372036854775807)(hN:K<N):Gy N r r=some true:=by
 have h1:r.cells.length<=K:=h.1.1;have h2:r.frm.length<=K:=h.2.1;simp [Gy,xEz (by omega:r.cells.length<=_) (by omega:_<N),xEA (by omega:r.frm.length<=_) (by omega:_<N)]
theorem xEC{N K:Nat}{x0:List Rowd}(h:zE K (Rowd.Fit K) x0)(hK:K<=9223372036854775807)(hN:K<N):Gz N x0 x0=some true:=by
 have hl:x0.length<=K:=h.1;unfold Gz;rw [ZA,jF]
 exact FK (x0:=x0) (L:=fun n i=>EL N n x0 x0 i) (fun n=>by simp [EL]) (fun i x n hi hx hm=>by
  have hi' :(i:Int)<(x0.length:Int):=by omega
  simp only [EL,Zz hi',jT,jI,yR hx,xED (h.2 x hm) hK hN,jS,yU hi (by omega:x0.length<=_),jU,jF];rw [Zx (by omega),Zx (by omega)]) (by omega)
theorem LJ{N d:Nat}{a:List Val}(hl:a.length<=9223372036854775807)(hn:a.length<N)(hx:∀x∈a,(AK N d).c_laws_eqValue x x=some true):(AK N (d+1)).c_laws_eqValueS a a=some true:=by
 show HC N (AK N d).c_laws_eqValue (AK N d).c_laws_eqValueS a a=_;unfold HC;rw [ZA,jF]
 exact FK (L:=fun n i=>EN N (AK N d).c_laws_eqValue (AK N d).c_laws_eqValueS n a a i) (fun n=>by simp [EN]) (fun i x n hi hxi hm=>by
  have hi' :(i:Int)<(a.length:Int):=by omega
  simp only [EN,Zz hi',jT,jI,yR hxi,hx x hm,jS,yU hi (by omega:a.length<=_),jU,jF];rw [Zx (by omega),Zx (by omega)]) hn
theorem LK{K:Nat}(hK:K<=9223372036854775807):∀v:Val,v.Fit K->Big2 fun N d=>(AK N d).c_laws_eqValue v v=some true:=by
 refine Val.ind fun k n s t a c r ih h=> ?_;obtain⟨h1,h2,h3,h4,h5,h6,h7⟩:=Val.fit_iff.1 h;refine Big2.succ (Big2.succ ?_);refine((Big2.list fun x hx=>ih x hx (h5.2 x hx)).and (zM K).two).imp fun N d ⟨hx,hN⟩=> ?_;have hl:a.length<=K:=h5.1;have hc:c.length<=K:=h6.1;show HE N (AK N (d+1)).c_laws_eqValue (AK N (d+1)).c_laws_eqValueS _ _=_;unfold HE;simp only [Val.list,Val.columns,Val.rows,LJ (by omega:a.length<=_) (by omega:_<N) hx,xEE (by omega:c.length<=_) (by omega:_<N),xEC (x0:=r) h7 hK hN,jS,ZA,Y6,jU,jF]
theorem xEG{v:Val}{K:Nat}(h:v.Fit K)(hK:K<=9223372036854775807):Big fun N=>BQ N v v=some true:=(LK hK v h).diag
theorem xEF{x0:List Val}{K:Nat}(h:zE K (Val.Fit K) x0)(hK:K<=9223372036854775807):Big fun N=>HB N x0 x0=some true:=by
 have hl:x0.length<=K:=h.1
 have key:Big2 fun N d=>(AK N d).c_laws_eqValueS x0 x0=some true:=
  Big2.succ (((Big2.list fun x hx=>LK hK x (h.2 x hx)).and (zM x0.length).two).imp fun N d ⟨hx,hn⟩=>LJ (by omega) hn hx)
 exact key.diag
def zW{α:Type}(_:α):Nat:=1
def Af(_:Org):Nat:=2
def zQ(r:Rowd):Nat:=(r.cells.map zW).sum+(r.frm.map Af).sum
theorem Aw{α:Type}(xs:List α):(xs.map zW).sum=xs.length:=by
 induction xs with
 |nil=>rfl
 |cons x l ih=>simp only [Zb,List.sum_cons,ih,jC,zW];omega
theorem LC(xs:List Org):(xs.map Af).sum=2*xs.length:=by
 induction xs with
 |nil=>rfl
 |cons x l ih=>simp only [Zb,List.sum_cons,ih,jC,Af];omega
theorem xKA{N:Nat}(hN:274877906944<N){xs:List Int}{k:Int}(h0:0<=k)(h1:k+((xs.map zW).sum:Nat)<=137438953472):
 ∃ys,ys.length=xs.length/\JQ N xs k=some (k+((xs.map zW).sum:Nat),ys)/\JM N ys k=some (k+((xs.map zW).sum:Nat)):=by
 have hs:=Aw xs
 refine Fe (Lm:=fun n xs k i=>ES N n xs k i) (Lh:=fun n ys k i=>EO N n ys k i) (c:=zW) (fun n xs k hl=>by simp [ES]) (fun n ys k hl=>by simp [EO])
  (fun x hx k hk hB=> ?_) h1 (by omega)
 have hc:zW x=1:=rfl;rw [hc] at hB ⊢;refine⟨k,fun n xs' i hl hxi=> ?_,fun n ys i hl hyi=> ?_⟩
 ·have hi:=(Zv.1 hxi).1;have hi' :(i:Int)<(xs'.length:Int):=by omega
  simp only [ES,Zz hi',jT,jI,yU hi (by omega:xs'.length<=_),zL (x:=k+1) (by omega) (by omega)];rw [Zx (by omega)];rfl
 ·have hi:=(Zv.1 hyi).1;have hi' :(i:Int)<(ys.length:Int):=by omega
  simp only [EO,Zz hi',jT,jI,yR hyi,yU hi (by omega:ys.length<=_),zL (x:=k+1) (by omega) (by omega),ZA,jF];rw [Zx (by omega)];rfl
theorem OD{N:Nat}(hN:274877906944<N){xs:List Str}{k:Int}(h0:0<=k)(h1:k+((xs.map zW).sum:Nat)<=137438953472):
 ∃ys,ys.length=xs.length/\HI N xs k=some (k+((xs.map zW).sum:Nat),ys)/\F7 N ys k=some (k+((xs.map zW).sum:Nat)):=by
 have hs:=Aw xs
 refine Fe (Lm:=fun n xs k i=>EV N n xs k i) (Lh:=fun n ys k i=>DG N n ys k i) (c:=zW) (fun n xs k hl=>by simp [EV]) (fun n ys k hl=>by simp [DG])
  (fun x hx k hk hB=> ?_) h1 (by omega)
 have hc:zW x=1:=rfl;rw [hc] at hB ⊢;obtain⟨t,ht⟩:=OE hN (k:=k) (by omega) (by omega);refine⟨t,fun n xs' i hl hxi=> ?_,fun n ys i hl hyi=> ?_⟩
 ·have hi:=(Zv.1 hxi).1;have hi' :(i:Int)<(xs'.length:Int):=by omega
  simp only [EV,Zz hi',jT,jI,ht,jS,yU hi (by omega:xs'.length<=_),zL (x:=k+1) (by omega) (by omega)];rw [Zx (by omega)];rfl
 ·have hi:=(Zv.1 hyi).1;have hi' :(i:Int)<(ys.length:Int):=by omega
  simp only [DG,Zz hi',jT,jI,yR hyi,ht,jS,yU hi (by omega:ys.length<=_),zL (x:=k+1) (by omega) (by omega),Y6,jU,jF];rw [Zx (by omega)];rfl
theorem xKB{N:Nat}(hN:274877906944<N){xs:List Org}{k:Int}(h0:0<=k)(h1:k+((xs.map Af).sum:Nat)<=137438953472):
 ∃ys,ys.length=xs.length/\JR N xs k=some (k+((xs.map Af).sum:Nat),ys)/\JN N ys k=some (k+((xs.map Af).sum:Nat)):=by
 have hs:=LC xs
 refine Fe (Lm:=fun n xs k i=>ET N n xs k i) (Lh:=fun n ys k i=>EP N n ys k i) (c:=Af) (fun n xs k hl=>by simp [ET]) (fun n ys k hl=>by simp [EP])
  (fun x hx k hk hB=> ?_) h1 (by omega)
 have hc:Af x=2:=rfl;rw [hc] at hB ⊢;refine⟨⟨k,k+1⟩,fun n xs' i hl hxi=> ?_,fun n ys i hl hyi=> ?_⟩
 ·have hi:=(Zv.1 hxi).1;have hi' :(i:Int)<(xs'.length:Int):=by omega
  simp only [ET,Zz hi',jT,jI,yR hxi,XX,Ij hi,XM,yU hi (by omega:xs'.length<=_)];rw [Zx (by omega),Zx (by omega),zL (x:=k+1) (by omega) (by omega),zL (x:=k+1+1) (by omega) (by omega)]
  congr 1
  omega
 ·have hi:=(Zv.1 hyi).1;have hi' :(i:Int)<(ys.length:Int):=by omega
  simp only [EP,Zz hi',jT,jI,yR hyi,yU hi (by omega:ys.length<=_),zL (x:=k+1) (by omega) (by omega),zL (x:=k+1+1) (by omega) (by omega),ZA,jF];rw [Zx (by omega)]
  congr 1
  omega
theorem OC{N:Nat}(hN:274877906944<N){xs:List Rowd}{k:Int}(hlen:xs.length<=137438953472)(h0:0<=k)(h1:k+((xs.map zQ).sum:Nat)<=137438953472):
 ∃ys,ys.length=xs.length/\HH N xs k=some (k+((xs.map zQ).sum:Nat),ys)/\F6 N ys k=some (k+((xs.map zQ).sum:Nat)):=by
 refine Fe (Lm:=fun n xs k i=>EU N n xs k i) (Lh:=fun n ys k i=>DF N n ys k i) (c:=zQ) (fun n xs k hl=>by simp [EU]) (fun n ys k hl=>by simp [DF])
  (fun x hx k hk hB=> ?_) h1 (by omega)
 have hc:zQ x=(x.cells.map zW).sum+(x.frm.map Af).sum:=rfl;rw [hc] at hB ⊢;obtain⟨ya,a1,a2,a3⟩:=xKA hN (xs:=x.cells) (k:=k) (by omega) (by omega);obtain⟨yb,b1,b2,b3⟩:=xKB hN (xs:=x.frm) (k:=k+((x.cells.map zW).sum:Nat)) (by omega) (by omega);refine⟨⟨ya,yb⟩,fun n xs' i hl hxi=> ?_,fun n ys i hl hyi=> ?_⟩
 ·have hi:=(Zv.1 hxi).1;have hi' :(i:Int)<(xs'.length:Int):=by omega
  have hcd:(0:Int)<=(i:Int)/\(i:Int)<(xs'.length:Int):=by omega
  simp only [EU,Zz hi',jT,jI,yR hxi,XX,Ij hi,XM,yU hi (by omega:xs'.length<=_),Zx hcd,a2,b2,Zx a1,Zx b1,jS]
  congr 1
  omega
 ·have hi:=(Zv.1 hyi).1;have hi' :(i:Int)<(ys.length:Int):=by omega
  have hcd:(0:Int)<=(i:Int)/\(i:Int)<(ys.length:Int):=by omega
  simp only [DF,Zz hi',jT,jI,yR hyi,yU hi (by omega:ys.length<=_),Zx hcd,a3,b3,jS];rw [Zy (by omega),jF,Zy (by omega),jF]
  congr 1
  omega
mutual
def Val.cnt:Val->Nat
 | .mk _ _ _ _ l c r=>4+Val.cnts l+(c.map zW).sum+(r.map zQ).sum
def Val.cnts:List Val->Nat
 | []=>0
 |x::r=>Val.cnt x+Val.cnts r
end
theorem Val.cnts_eq(l:List Val):Val.cnts l=(l.map Val.cnt).sum:=by
 induction l with
 |nil=>rfl
 |cons x l ih=>simp [Val.cnts,ih]
theorem xEe(l:List Rowd):(l.map zQ).sum<=2*(l.length+(l.map Rowd.size).sum):=
 IR fun x _=>by simp only [zQ,Aw,LC,Rowd.size];omega
theorem Val.cnt_le:∀v:Val,v.cnt<=4+4*v.size:=by
 refine Val.ind fun k n s t l c r ih=> ?_;have h1:=IR (f:=Val.cnt) (g:=Val.size) (l:=l) (a:=4) fun x hx=>ih x hx;have h2:=xEe r;have h3:=Aw c;rw [Val.size_eq];simp only [Val.cnt,Val.cnts_eq,Val.text,Val.list,Val.columns,Val.rows,h3] at h1 h2 ⊢;omega
theorem xEm(l:List Val):l.length<=(l.map Val.cnt).sum:=by
 induction l with
 |nil=>simp
 |cons x l ih=>
  have:4<=x.cnt:=by cases x;simp only [Val.cnt];omega
  simp only [jC,Zb,List.sum_cons];omega
def FC(N d:Nat)(l:List Val):Prop:=∀k:Int,0<=k->k+((l.map Val.cnt).sum:Nat)<=137438953472->
    ∃ys,ys.length=l.length/\Fa N d l k=some (k+((l.map Val.cnt).sum:Nat),ys)/\EQ N d ys k=some (k+((l.map Val.cnt).sum:Nat))
theorem OG{N d:Nat}(hN:274877906944<N){l:List Val}(hr:∀x∈l,x.rows.length<=137438953472)(hx:∀x∈l,FC N d x.list):FC N (d+1) l:=by
 intro k h0 h1;have hlen:=xEm l
 refine Fe (Lm:=fun n xs k i=>EY N (Fa N d) n xs k i) (Lh:=fun n ys k i=>DH N (EQ N d) n ys k i) (c:=Val.cnt) (fun n xs k hl=>by simp [EY]) (fun n ys k hl=>by simp [DH])
  (fun x hxm k hk hB=> ?_) h1 (by omega)
 have hc:x.cnt=4+(x.list.map Val.cnt).sum+(x.columns.map zW).sum+(x.rows.map zQ).sum:=by cases x;simp only [Val.cnt,Val.cnts_eq,Val.list,Val.columns,Val.rows]
 rw [hc] at hB ⊢;obtain⟨t,ht⟩:=OE hN (k:=k+1+1+1) (by omega) (by omega);obtain⟨ya,a1,a2,a3⟩:=hx x hxm (k+1+1+1+1) (by omega) (by omega);obtain⟨yb,b1,b2,b3⟩:=OD hN (xs:=x.columns) (k:=k+1+1+1+1+((x.list.map Val.cnt).sum:Nat)) (by omega) (by omega);obtain⟨yc,c1,c2,c3⟩:=OC hN (xs:=x.rows) (k:=k+1+1+1+1+((x.list.map Val.cnt).sum:Nat)+((x.columns.map zW).sum:Nat)) (hr x hxm) (by omega) (by omega);have w1:i64.wrap (k+1)=k+1:=zL (by omega) (by omega);have w2:i64.wrap (k+1+1)=k+1+1:=zL (by omega) (by omega);have w3:i64.wrap (k+1+1+1)=k+1+1+1:=zL (by omega) (by omega);have w4:i64.wrap (k+1+1+1+1)=k+1+1+1+1:=zL (by omega) (by omega);refine⟨.mk k (k+1) (k+1+1) t ya yb yc,fun n xs' i hl hxi=> ?_,fun n ys i hl hyi=> ?_⟩
 ·have hi:=(Zv.1 hxi).1;have hi' :(i:Int)<(xs'.length:Int):=by omega
  have hcd:(0:Int)<=(i:Int)/\(i:Int)<(xs'.length:Int):=by omega
  simp only [EY,Zz hi',jT,jI,yR hxi,XX,Ij hi,XM,yU hi (by omega:xs'.length<=_),Zx hcd,w1,w2,w3,w4,ht,jS,
   vk,vn,vs,vt,vl,vc,vr,a2,b2,c2,Zx a1,Zx b1,Zx c1]
  congr 1
  omega
 ·have hi:=(Zv.1 hyi).1;have hi' :(i:Int)<(ys.length:Int):=by omega
  have hcd:(0:Int)<=(i:Int)/\(i:Int)<(ys.length:Int):=by omega
  simp only [DH,Zz hi',jT,jI,yR hyi,yU hi (by omega:ys.length<=_),Zx hcd,w1,w2,w3,w4,ht,jS,vk,vn,vs,vt,vl,vc,vr,a3,b3,c3,ZA,Y6,jU,jF];rw [Zy (by omega),jF,Zy (by omega),jF,Zy (by omega),jF]
  congr 1
  omega
theorem OF{K:Nat}(hK:K<=137438953472):∀v:Val,v.Fit K->Big2 fun N d=>FC N d v.list:=by
 refine Val.ind fun k n s t a c r ih h=> ?_;obtain⟨h1,h2,h3,h4,h5,h6,h7⟩:=Val.fit_iff.1 h;refine Big2.succ ?_;refine((Big2.list fun x hx=>ih x hx (h5.2 x hx)).and (zM 274877906944).two).imp fun N d ⟨hx,hN⟩=> ?_;exact OG hN (fun x hxm=>by have:=(Val.fit_iff.1 (h5.2 x hxm)).2.2.2.2.2.2.1;omega) hx
theorem xKD{K:Nat}(hK:K<=137438953472){v:Val}(h:v.Fit K):
 Big fun N=>∀k:Int,0<=k->k+(v.cnt:Nat)<=137438953472->∃k' xa xb xc,0<=k' /\k' <=k+(v.cnt:Nat)/\xa.length=v.list.length/\xb.length=v.columns.length/\xc.length=v.rows.length/\F9 N v k=some (k',xa,xb,xc)/\Aj N (Val.mk v.kind v.n v.step v.text xa xb xc) k=some k' :=by
 have hb:=(OF hK v h).diag;refine(hb.and (zM 274877906944)).imp fun N ⟨hm,hN⟩ k k0 kB=> ?_;have hc' :v.cnt=4+(v.list.map Val.cnt).sum+(v.columns.map zW).sum+(v.rows.map zQ).sum:=by cases v;simp only [Val.cnt,Val.cnts_eq,Val.list,Val.columns,Val.rows]
 obtain⟨ya,a1,a2,a3⟩:=hm k (by omega) (by omega);obtain⟨yb,b1,b2,b3⟩:=OD hN (xs:=v.columns) (k:=k+((v.list.map Val.cnt).sum:Nat)) (by omega) (by omega);obtain⟨yc,c1,c2,c3⟩:=OC hN (xs:=v.rows) (k:=k+((v.list.map Val.cnt).sum:Nat)+((v.columns.map zW).sum:Nat)) (by have:=(Val.fit_iff.1 h).2.2.2.2.2.2.1;omega) (by omega) (by omega);have a2' :EX N v.list k=_:=a2;have a3' :HF N ya k=_:=a3;refine⟨k+((v.list.map Val.cnt).sum:Nat)+((v.columns.map zW).sum:Nat)+((v.rows.map zQ).sum:Nat),ya,yb,yc,by omega,by omega,a1,b1,c1,?_,?_⟩
 ·simp only [F9,a2',jS,Zx a1,b2,Zx b1,c2,Zx c1]
 ·simp only [Aj,vl,vc,vr,a3',b3,c3,jS];rw [Zy (by omega),jF,Zy (by omega),jF,Zy (by omega),jF]
theorem xKE{K:Nat}(hK:K<=137438953472){v:Val}(h:v.Fit K)(hc:v.cnt<=100000000000):
 Big fun N=>∃k xa xb xc,0<=k/\xa.length=v.list.length/\xb.length=v.columns.length/\xc.length=v.rows.length/\F9 N v 1=some (k,xa,xb,xc)/\Aj N (Val.mk v.kind v.n v.step v.text xa xb xc) 1=some k:=
 (xKD hK h).imp fun N h=>by
   obtain⟨k',xa,xb,xc,h0,_,h2⟩:=h 1 (by omega) (by omega);exact⟨k',xa,xb,xc,h0,h2⟩
end Go.Ab
end
section
namespace Go.Ab
theorem KP{N K:Nat}{r:Rowd}(h:r.Fit K)(hK:K<=137438953472):Fz N r=some r:=by
 have h1:r.cells.length<=K:=h.1.1;have h2:r.frm.length<=K:=h.2.1;unfold Fz;rw [Zx (by unfold Lim;omega),Zx (by unfold Lim;omega)];rfl
theorem NJ{N K:Nat}{r:Rowd}(h:r.Fit K)(hK:K<=137438953472):Gl N r=some r:=KP (N:=N) h hK
theorem xNm{N K:Nat}{rc:Val->Option Val}{v z:Val}{k n s:Int}{t:Str}{l:List Val}{c:List Str}(h:zE K (Rowd.Fit K) v.rows)(hK:K<=137438953472)(hN:K<N):
 Da N rc N 0 v z (Val.mk k n s t l c [])=some (Val.mk k n s t l c v.rows):=by
 have hl:v.rows.length<=K:=h.1
 exact zG (L:=fun m i q=>Da N rc m i v z (Val.mk k n s t l c q)) v.rows (fun r q=>Val.mk k n s t l c (q++r)) (fun i q=>q.length=i) (fun m q hq=>by simp [Da])
  (fun i x r q hd hi hx hq=>by
    have hq:q.length=i:=hq;have hi' :(i:Int)<(v.rows.length:Int):=by omega
    refine .inl ⟨q++ [x],by simp [hq],by simp,fun m=> ?_⟩;simp only [Da,Zz hi',jT,jI,yR hx,KP (h.2 x (Zt hx)) hK,jS,yU hi (by omega:v.rows.length<=_),vk,vn,vs,vt,vl,vc,vr];rw [Zx (by omega),Zx (by simp only [jC,jN];unfold Lim;omega)]) N 0 [] rfl (by omega) (by omega)
theorem xNn{N d K:Nat}{v:Val}(h:v.Fit K)(hK:K<=137438953472)(hN:K<N)(hx:∀x∈v.list,Db N d x=some x):IJ N (Db N d) v=some v:=by
 obtain⟨h1,h2,h3,h4,h5,h6,h7⟩:=Val.fit_iff.1 h;have hl:v.list.length<=K:=h5.1;have hc:v.columns.length<=K:=h6.1;unfold IJ;rw [Zx (by unfold Lim;omega)]
 have key:=zG (L:=fun m i q=>Ey N (Db N d) m i v (Val.mk 0 0 0 [] [] [] []) (Val.mk v.kind v.n v.step v.text q ([]++v.columns) [])) v.list (fun l q=>Val.mk v.kind v.n v.step v.text (q++l) v.columns v.rows) (fun i q=>q.length=i)
  (fun m q hq=>by
    simp only [Ey,Z0,Z2,jF,Zd,jM];exact xNm h7 hK hN)
  (fun i x l q hd hi hxi hq=>by
    have hq:q.length=i:=hq;have hi' :(i:Int)<(v.list.length:Int):=by omega
    refine .inl ⟨q++ [x],by simp [hq],by simp,fun m=> ?_⟩;simp only [Ey,Zz hi',jT,jI,yR hxi,hx x (Zt hxi),jS,Val.re_eq,yU hi (by omega:v.list.length<=_),vk,vn,vs,vt,vl,vc,vr];rw [Zx (by omega),Zx (by simp only [jC,jN];unfold Lim;omega)]) N 0 [] rfl (by omega) (by omega)
 rw [Xy,jM,jM,Val.eta] at key;exact key
theorem xAq{K:Nat}(hK:K<=137438953472):∀v:Val,v.Fit K->Big2 fun N d=>Db N d v=some v:=by
 refine Val.ind fun k n s t a c r ih h=> ?_;have h5:=(Val.fit_iff.1 h).2.2.2.2.1;refine Big2.succ ?_;exact((Big2.list fun x hx=>ih x hx (h5.2 x hx)).and (zM K).two).imp fun N d ⟨hx,hN⟩=>xNn h hK hN hx
theorem xAr {K:Nat}{v:Val}(h:v.Fit K)(hK:K<=137438953472):Big fun N=>D9 N v=some v:=(xAq hK v h).diag
theorem xH7{N K:Nat}{rc:Val->Option Val}{rd:List Val->Option (List Val)}{z:Val}{k n s:Int}{t:Str}{l:List Val}{c:List Str}{rs:List Rowd}(h:zE K (Rowd.Fit K) rs)(hK:K<=137438953472)(hN:K<N):
 Cz N rc rd N rs rs.length 0 z (Val.mk k n s t l c [])=some (Val.mk k n s t l c rs):=by
 have hl:rs.length<=K:=h.1
 exact zG (L:=fun m i q=>Cz N rc rd m rs rs.length i z (Val.mk k n s t l c q)) rs (fun r q=>Val.mk k n s t l c (q++r)) (fun i q=>q.length=i) (fun m q hq=>by simp [Cz])
  (fun i x r q hd hi hx hq=>by
    have hq:q.length=i:=hq;have hi' :(i:Int)<(rs.length:Int):=by omega
    refine .inl ⟨q++ [x],by simp [hq],by simp,fun m=> ?_⟩;simp only [Cz,Zz hi',jT,jI,yR hx,NJ (h.2 x (Zt hx)) hK,jS,yU hi (by omega:rs.length<=_),vk,vn,vs,vt,vl,vc,vr];rw [Zx (by omega),Zx (by simp only [jC,jN];unfold Lim;omega)]) N 0 [] rfl (by omega) (by omega)
theorem NI{N d:Nat}{a:List Val}(hl:a.length<=137438953472)(hn:a.length<N)(hx:∀x∈a,(AC N d).c_impl_copyValue x=some x):(AC N (d+1)).c_impl_copyValues a=some a:=by
 show Gq N (AC N d).c_impl_copyValue (AC N d).c_impl_copyValues a=_;unfold Gq
 exact zG (L:=fun m i q=>ED N (AC N d).c_impl_copyValue (AC N d).c_impl_copyValues m q a a.length i) a (fun l q=>q++l) (fun i q=>q.length=i) (fun m q hq=>by simp [ED])
  (fun i x l q hd hi hxi hq=>by
    have hq:q.length=i:=hq;have hi' :(i:Int)<(a.length:Int):=by omega
    refine .inl ⟨q++ [x],by simp [hq],by simp,fun m=> ?_⟩;simp only [ED,Zz hi',jT,jI,yR hxi,hx x (Zt hxi),jS,Val.re_eq,yU hi (by omega:a.length<=_)];rw [Zx (by omega),Zx (by simp only [jC,jN];unfold Lim;omega)]) N 0 [] rfl (by omega) (by omega)
theorem xH9{N d K:Nat}{v:Val}(h:v.Fit K)(hK:K<=137438953472)(hN:K<N)(hx:(AC N d).c_impl_copyValues v.list=some v.list):(AC N (d+1)).c_impl_copyValue v=some v:=by
 obtain⟨h1,h2,h3,h4,h5,h6,h7⟩:=Val.fit_iff.1 h;have hc:v.columns.length<=K:=h6.1;show Gm N (AC N d).c_impl_copyValue (AC N d).c_impl_copyValues v=_;unfold Gm;rw [hx,jS,Zx (by unfold Lim;omega),xH7 h7 hK hN,jM,Val.eta]
theorem JB{K:Nat}(hK:K<=137438953472):∀v:Val,v.Fit K->Big2 fun N d=>(AC N d).c_impl_copyValue v=some v:=by
 refine Val.ind fun k n s t a c r ih h=> ?_;have h5:=(Val.fit_iff.1 h).2.2.2.2.1;have hl:a.length<=K:=h5.1;refine Big2.succ (Big2.succ ?_);exact((Big2.list fun x hx=>ih x hx (h5.2 x hx)).and (zM K).two).imp fun N d ⟨hx,hN⟩=>xH9 h hK hN (NI (a:=a) (by omega) (by omega) hx)
theorem xH8 {K:Nat}{v:Val}(h:v.Fit K)(hK:K<=137438953472):Big fun N=>Cy N v=some v:=(JB hK v h).diag
theorem NH{K:Nat}{a:List Val}(h:zE K (Val.Fit K) a)(hK:K<=137438953472):Big fun N=>Iz N a=some a:=by
 have hl:a.length<=K:=h.1
 have key:Big2 fun N d=>(AC N d).c_impl_copyValues a=some a:=
  Big2.succ (((Big2.list fun x hx=>JB hK x (h.2 x hx)).and (zM K).two).imp fun N d ⟨hx,hN⟩=>NI (by omega) (by omega) hx)
 exact key.diag
theorem Cg(v:Val):v.cnt=4+((v.list.map Val.cnt).sum+(v.columns.map zW).sum+(v.rows.map zQ).sum):=by
 cases v;simp only [Val.cnt,Val.cnts_eq,vl,vc,vr];omega
theorem y7{x:Int}(h1: -1000000<=x)(h2:x<=1000000):I64 x:=⟨by omega,by omega⟩
theorem CT{α:Type}{K:Nat}{p:α->Prop}:zE K p []:=⟨Z3 _,fun x hx=>by cases hx⟩
end Go.Ab
end
section
namespace Go.Ab
theorem Val.fit_mono{K M:Nat}(h:K<=M){v:Val}(hv:v.Fit K):v.Fit M:=fun d hd=>(hv d hd).mono h
end Go.Ab
end
section
open Go.IntKind (i64)
namespace Go.Ab
def AH{α:Type}(p:Nat->α->Bool):List α->Nat->Bool
 | [],_=>true
 |x::r,i=>p i x&&AH p r (i+1)
theorem CD{α:Type}{p:Nat->α->Bool}:∀ {l:List α} {i:Nat},AH p l i=true->∀(j:Nat) (x:α),l[j]? =some x->p (i+j) x=true
 | [],i,_,j,x,hj=>by simp at hj
 |y::r,i,h,j,x,hj=>by
  simp only [AH,Zs] at h;cases j with
  |zero=>simp at hj;subst hj;exact h.1
  |succ j=>
   have:=CD h.2 j x (by simpa using hj);rw [show i+(j+1)=i+1+j from by omega];exact this
theorem Ae{α:Type}{L:Nat->Int->Option Bool}{x0:List α}{p:Nat->α->Bool}{e:Option Bool}(hend:∀n,L (n+1) (x0.length:Nat)=e)
 (hcons:∀(i:Nat) x n,i<x0.length->x0[i]? =some x->x∈x0->L (n+1) (i:Nat)=bif p i x then L n ((i+1:Nat):Int) else some false) {n:Nat} (hn:x0.length<n):
 L n 0=bif AH p x0 0 then e else some false:=by
 have key:∀(m i:Nat),i<=x0.length->x0.length<m+i->L m (i:Nat)=bif AH p (x0.drop i) i then e else some false:=by
  intro m
  induction m with
  |zero=>intro i h1 h2;omega
  |succ m ih=>
   intro i h1 h2;cases hd:x0.drop i with
   |nil=>
    have:=An hd;obtain rfl:i=x0.length:=by omega
    rw [hend];rfl
   |cons x l=>
    obtain⟨g1,g2,g3⟩:=A0 hd;rw [hcons i x m g1 g2 (Zt g2),ih (i+1) (by omega) (by omega),g3];simp only [AH];cases p i x <;>rfl
 exact key n 0 (by omega) (by omega)
def xAR(c:UInt8):Bool:= !(decide ((c.toNat:Int)<32))&&(!(decide ((c.toNat:Int)>126))&& !((c.toNat:Int)==34))
def GF(s:Str):Bool:=AH (fun _=>xAR) s 0&&decide ((s.length:Int)<=20)
theorem BJ{a b:Bool}:(bif a then some b else some false)=some (a&&b):=by cases a <;>rfl
theorem xAf{N:Nat}{s:Str}(hl:s.length<=9223372036854775807)(hn:s.length<N):KB N s=some (GF s):=by
 rw [GF,<-BJ]
 exact Ae (L:=fun n i=>C7 N n s i) (fun n=>by simp [C7]) (fun i x n hi hx hm=>by
  have hi' :(i:Int)<(s.length:Int):=by omega
  simp only [C7,Zz hi',jT,jI,yR hx,yU hi hl,xAR];rw [Zx (by omega)];cases decide ((x.toNat:Int)<32) <;>cases decide ((x.toNat:Int)>126) <;>cases ((x.toNat:Int)==34) <;>rfl) hn
theorem xG1(N n:Nat)(s:Str)(i:Int):FSq N n s i=C7 N n s i:=by
 induction n generalizing i with
 |zero=>rfl
 |succ n ih=>simp only [FSq,C7,ih]
theorem xG2{N:Nat}{s:Str}(hl:s.length<=9223372036854775807)(hn:s.length<N):It N s=some (GF s):=(xG1 N N s 0).trans (xAf hl hn)
def yS:List Str->Str->Nat->Int
 | [],_,_=> -1
 |x::r,s,i=>bif x==s then(i:Int) else yS r s (i+1)
theorem G7{N:Nat}{xs:List Str}{s:Str}(hl:xs.length<=9223372036854775807)(hn:xs.length<N):FR N xs s=some (yS xs s 0):=
 zG (L:=fun n i _=>Cq N n s xs xs.length i) xs (fun l q=>yS l s q) (fun i q=>q=i) (fun n q _=>by simp [Cq,yS])
  (fun i x l q hd hi hx hq=>by
    have hi' :(i:Int)<(xs.length:Int):=by omega
    have hq:q=i:=hq;subst hq;cases h1:x==s
    ·refine .inl ⟨q+1,rfl,by simp only [yS,h1,jF],fun n=> ?_⟩;simp only [Cq,Zz hi',jT,jI,yR hx,h1,jF,yU hi hl];rw [Zx (by omega)]
    ·refine .inr fun n=> ?_;simp only [Cq,Zz hi',jT,jI,yR hx,h1];rw [Zx (by omega)];simp only [yS,h1,jT]) N 0 0 rfl (by omega) (by omega)
theorem Mh{s:Str}:∀ {xs:List Str} {j i:Nat},xs[i]? =some s->(yS xs s j==((j+i:Nat):Int))= !(xs.take i).any (· ==s)
 | [],j,i,h=>by simp at h
 |x::r,j,0,h=>by
  simp at h;subst h;simp [yS]
 |x::r,j,i+1,h=>by
  have h' :r[i]? =some s:=by simpa using h
  have ih:=Mh (j:=j+1) h';simp only [yS,List.take_succ_cons,List.any_cons];cases hx:x==s
  ·simp only [jF,ZJ];rw [<-ih,show j+(i+1)=j+1+i from by omega]
  ·simp only [jT,X5,jU];simp;omega
def Dk(xs:List Str)(i:Nat)(x:Str):Bool:= !(xs.take i).any (· ==x)
def AZ(xs:List Str):Bool:=AH (Dk xs) xs 0
theorem Hs{N:Nat}{xs:List Str}(hl:xs.length<=9223372036854775807)(hn:xs.length<N):Fr N xs=some (AZ xs):=by
 have:=Ae (L:=fun n i=>DV N n xs i) (x0:=xs) (p:=Dk xs) (e:=some true) (fun n=>by simp [DV]) (fun i x n hi hx hm=>by
  have hi' :(i:Int)<(xs.length:Int):=by omega
  simp only [DV,Zz hi',jT,jI,yR hx,yU hi hl,xAs (N:=N) (xs:=xs.take i) (by simp;omega) (by simp;omega),jS,Dk];rw [Zx (by omega),Zx (by omega)];cases (List.take i xs).any (· ==x) <;>rfl) hn
 show DV N N xs 0=_;rw [this,BJ,Ye];rfl
theorem Ik{N:Nat}{xs:List Str}(hl:xs.length<=9223372036854775807)(hn:xs.length<N):Dt N xs=some (AZ xs):=by
 have:=Ae (L:=fun n i=>Co N n xs xs xs.length i) (x0:=xs) (p:=Dk xs) (e:=some true) (fun n=>by simp [Co]) (fun i x n hi hx hm=>by
  have hi' :(i:Int)<(xs.length:Int):=by omega
  have e:=Mh (j:=0) hx;rw [Zi] at e;simp only [Co,Zz hi',jT,jI,yR hx,yU hi hl,G7 (N:=N) (xs:=xs) hl hn,jS,bne,e,Dk];rw [Zx (by omega)];cases (List.take i xs).any (· ==x) <;>rfl) hn
 show Co N N xs xs xs.length 0=_;rw [this,BJ,Ye];rfl
def AJ(c:List Str):Bool:=AH (fun _=>BI) c 0&&((decide ((1:Int)<=c.length)&&decide ((c.length:Int)<=4))&&AZ c)
theorem xAx{N K:Nat}{c:List Str}(h:zE K (Str.Fit K) c)(hK:24<=K/\K<=4611686018427387904)(hN:K<N):II N c=some (AJ c):=by
 have hl:c.length<=K:=h.1;rw [AJ,<-BJ]
 exact Ae (L:=fun n i=>Ex N n c i) (fun n=>by
  simp only [Ex,Z0,Z2,jF,Ew,jS,Hs (N:=N) (xs:=c) (by omega) (by omega)];rw [<-BJ]) (fun i x n hi hx hm=>by
  have hi' :(i:Int)<(c.length:Int):=by omega
  have hxl:x.length<=K:=h.2 x hm;simp only [Ex,Zz hi',jT,jI,yR hx,yU hi (by omega:c.length<=_),xAd (N:=N) (s:=x) (by omega) (by omega) (by omega),jS];rw [Zx (by omega)];cases BI x <;>rfl) (by omega)
theorem NF{N K:Nat}{c:List Str}(h:zE K (Str.Fit K) c)(hK:24<=K/\K<=4611686018427387904)(hN:K<N):FX N c=some (AJ c):=by
 have hl:c.length<=K:=h.1;rw [AJ,<-BJ]
 exact Ae (L:=fun n i=>EC N n c c c.length i) (fun n=>by
  simp only [EC,Z0,Z2,jF,DE,jS,Ik (N:=N) (xs:=c) (by omega) (by omega)];rw [<-BJ]) (fun i x n hi hx hm=>by
  have hi' :(i:Int)<(c.length:Int):=by omega
  have hxl:x.length<=K:=h.2 x hm;simp only [EC,Zz hi',jT,jI,yR hx,yU hi (by omega:c.length<=_),Mu (N:=N) (s:=x) (by omega) (by omega),jS];rw [Zx (by omega)];cases BI x <;>rfl) (by omega)
def CE(a b:Org):Bool:=decide (a.cell<b.cell)||((a.cell==b.cell)&&decide (a.row<b.row))
theorem KJ(N:Nat)(a b:Org):D8 N a b=some (CE a b):=by
 unfold D8 CE;cases decide (a.cell<b.cell) <;>cases (a.cell==b.cell) <;>rfl
theorem xIA(N:Nat)(a b:Org):EG N a b=some (CE a b):=KJ N a b
def FI(xs:List Org)(i:Nat)(x:Org):Bool:= !(decide (x.cell<0))&&(!(decide (x.row<0))&&(decide (i=0)||CE (xs.getD (i - 1) Do) x))
def Ci(xs:List Org):Bool:=AH (FI xs) xs 0
theorem Kg{xs:List Org}{i:Nat}{x:Org}{hi:i<xs.length}(hl:xs.length<=9223372036854775807){F:Option Bool}:
 (bif decide (x.cell<0) then some false else bif decide (x.row<0) then some false else bif decide ((i:Int)>0) then
   (if(0:Int)<=i64.wrap ((i:Int) - 1)/\i64.wrap ((i:Int) - 1)<(xs.length:Int) then(bif !(CE (xs.getD (Int.toNat (i64.wrap ((i:Int) - 1))) Do) x) then some false else F) else none) else F)=
 bif FI xs i x then F else some false:=by
 unfold FI;cases decide (x.cell<0)
 ·cases decide (x.row<0)
  ·by_cases h0:i=0
   ·subst h0;rfl
   ·rw [xPi h0 hi hl,jI,Zz (show(i:Int)>0 by omega),Zy h0];simp only [jT,jF,jV,ZF,ZJ];rw [Zx (by omega)];cases CE (xs.getD (i - 1) Do) x <;>rfl
  ·rfl
 ·rfl
theorem xNO{N:Nat}{xs:List Org}(hl:xs.length<=9223372036854775807)(hn:xs.length<N):KI N xs=some (Ci xs):=by
 have:=Ae (L:=fun n i=>Ca N n xs i) (x0:=xs) (p:=FI xs) (e:=some true) (fun n=>by simp [Ca]) (fun i x n hi hx hm=>by
  have hi' :(i:Int)<(xs.length:Int):=by omega
  rw [<-Kg (hi:=hi) hl];simp only [Ca,Zz hi',jT,jI,yR hx,yU hi hl,KJ,jS];rw [Zx (by omega)]) hn
 show Ca N N xs 0=_;rw [this,BJ,Ye];rfl
def CU(n:Nat)(_:Nat)(r:Rowd):Bool:=(r.cells.length==n)&&(AH (fun _=>zC) r.cells 0&&Ci r.frm)
def BX(c:List Str)(rs:List Rowd):Bool:=AJ c&&(decide (rs.length<=12)&&AH (CU c.length) rs 0)
theorem Nz(a b:Nat):(((a:Nat):Int) != ((b:Nat):Int))= !(a==b):=by
 by_cases h:a=b
 ·subst h;simp
 ·have:¬((a:Int)=(b:Int)):=by omega
  rw [bne,show((a:Int)==(b:Int))=false from ZX.2 this,show(a==b)=false from ZX.2 h]
theorem xN3{N:Nat}{k4:Int->Val->Option Bool}{x3:Int}{v:Val}{r:Rowd}(hl:r.cells.length<=9223372036854775807)(hn:r.cells.length<N):
 Dd N k4 N x3 0 v r=bif AH (fun _=>zC) r.cells 0 then k4 (i64.wrap (x3+1)) v else some false:=
 Ae (L:=fun n i=>Dd N k4 n x3 i v r) (fun n=>by simp [Dd]) (fun i x n hi hx hm=>by
  have hi' :(i:Int)<(r.cells.length:Int):=by omega
  simp only [Dd,Zz hi',jT,jI,yR hx,yU hi hl,Bt,jS];rw [Zx (by omega)];cases zC x <;>rfl) hn
theorem xN4{N K:Nat}{v:Val}(h:v.Fit K)(hK:24<=K/\K<=4611686018427387904)(hN:K<N):IK N v=some (BX v.columns v.rows):=by
 obtain⟨_,_,_,_,_,h6,h7⟩:=Val.fit_iff.1 h;have hl:v.rows.length<=K:=h7.1;unfold IK;rw [xAx h6 hK hN,jS,BX];cases hc:AJ v.columns
 ·rfl
 ·by_cases hr:v.rows.length<=12
  ·rw [Zy (by omega),Zz hr];simp only [jU,jF,ZF]
   have:=Ae (L:=fun n i=>De N n i v) (x0:=v.rows) (p:=CU v.columns.length) (e:=some true) (n:=N) (fun n=>by simp [De]) (fun i x n hi hx hm=>by
    have hi' :(i:Int)<(v.rows.length:Int):=by omega
    obtain⟨⟨g1,_⟩,⟨g2,_⟩⟩:=h7.2 x hm;simp only [De,Zz hi',jT,jI,yR hx,Nz,xNO (N:=N) (xs:=x.frm) (by omega) (by omega),jS,xN3 (N:=N) (r:=x) (by omega) (by omega),yU hi (by omega:v.rows.length<=_),CU];rw [Zx (by omega)];cases (x.cells.length==v.columns.length) <;>cases Ci x.frm <;>cases AH (fun _=>zC) x.cells 0 <;>rfl) (by omega)
   have this:De N N 0 v=_:=this;rw [this,BJ,Ye]
  ·rw [Zz (by omega),Zy hr];rfl
theorem xIg{N:Nat}{k4:List Rowd->Int->Int->Val->Option Bool}{x20:List Rowd}{x21 x22:Int}{v:Val}{r:Rowd}(hl:r.frm.length<=9223372036854775807)(hn:r.frm.length<N):
 CL N k4 N x20 x21 x22 r.frm r.frm.length 0 v r=bif Ci r.frm then k4 x20 x21 (i64.wrap (x22+1)) v else some false:=
 Ae (L:=fun n i=>CL N k4 n x20 x21 x22 r.frm r.frm.length i v r) (fun n=>by simp [CL]) (fun i x n hi hx hm=>by
  have hi' :(i:Int)<(r.frm.length:Int):=by omega
  rw [<-Kg (hi:=hi) hl];simp only [CL,Zz hi',jT,jI,yR hx,yU hi hl,xIA,jS];rw [Zx (by omega)]) hn
theorem xIh{N:Nat}{k4:List Rowd->Int->Int->Val->Option Bool}{x20:List Rowd}{x21 x22:Int}{v:Val}{r:Rowd}(hl:r.cells.length<=9223372036854775807)(hn:r.cells.length<N)(hl2:r.frm.length<=9223372036854775807)(hn2:r.frm.length<N):
 DD N k4 N x20 x21 x22 r.cells r.cells.length 0 v r=bif AH (fun _=>zC) r.cells 0 then(bif Ci r.frm then k4 x20 x21 (i64.wrap (x22+1)) v else some false) else some false:=
 Ae (L:=fun n i=>DD N k4 n x20 x21 x22 r.cells r.cells.length i v r) (fun n=>by simp only [DD,Z0,Z2,jF];exact xIg hl2 hn2) (fun i x n hi hx hm=>by
  have hi' :(i:Int)<(r.cells.length:Int):=by omega
  simp only [DD,Zz hi',jT,jI,yR hx,yU hi hl,DA,jS];rw [Zx (by omega)];cases zC x <;>rfl) hn
theorem xIi{N K:Nat}{v:Val}(h:v.Fit K)(hK:24<=K/\K<=4611686018427387904)(hN:K<N):FY N v=some (BX v.columns v.rows):=by
 obtain⟨_,_,_,_,_,h6,h7⟩:=Val.fit_iff.1 h;have hl:v.rows.length<=K:=h7.1;unfold FY;rw [NF h6 hK hN,jS,BX];cases hc:AJ v.columns
 ·rfl
 ·by_cases hr:v.rows.length<=12
  ·rw [Zy (by omega),Zz hr];simp only [jU,jF,ZF]
   have:=Ae (L:=fun n i=>DC N n v.rows v.rows.length i v) (x0:=v.rows) (p:=CU v.columns.length) (e:=some true) (n:=N) (fun n=>by simp [DC]) (fun i x n hi hx hm=>by
    have hi' :(i:Int)<(v.rows.length:Int):=by omega
    obtain⟨⟨g1,_⟩,⟨g2,_⟩⟩:=h7.2 x hm;simp only [DC,Zz hi',jT,jI,yR hx,Nz,xIh (N:=N) (r:=x) (by omega) (by omega) (by omega) (by omega),yU hi (by omega:v.rows.length<=_),CU];rw [Zx (by omega)];cases (x.cells.length==v.columns.length) <;>cases Ci x.frm <;>cases AH (fun _=>zC) x.cells 0 <;>rfl) (by omega)
   have this:DC N N v.rows v.rows.length 0 v=_:=this;rw [this,BJ,Ye]
  ·rw [Zz (by omega),Zy hr];rfl
end Go.Ab
end
section
namespace Go.Ab
mutual
def Val.dep:Val->Int
 | .mk _ _ _ _ l _ _=>Val.deps l 0+1
def Val.deps:List Val->Int->Int
 | [],m=>m
 |x::r,m=>Val.deps r (if x.dep>m then x.dep else m)
end
def zO:List Val->Int->Int
 | [],m=>m
 |x::r,m=>zO r (if x.dep>m then x.dep else m)
theorem Ib:∀(l:List Val) (m:Int),Val.deps l m=zO l m
 | [],m=>rfl
 |x::r,m=>by rw [Val.deps,Ib r];rfl
theorem FJ(v:Val):v.dep=zO v.list 0+1:=by cases v;simp only [Val.dep,Ib,vl]
theorem GP:∀ {l:List Val} {m:Int},m<=zO l m/\∀x∈l,x.dep<=zO l m
 | [],m=>⟨XY m,fun x hx=>by cases hx⟩
 |x::r,m=>by
  obtain⟨h1,h2⟩:=GP (l:=r) (m:=if x.dep>m then x.dep else m);show m<=zO r (if x.dep>m then x.dep else m)/\∀y∈x::r,y.dep<=zO r (if x.dep>m then x.dep else m);have h3:m<=(if x.dep>m then x.dep else m)/\x.dep<=(if x.dep>m then x.dep else m):=by split <;>omega
  refine⟨Int.le_trans h3.1 h1,fun y hy=> ?_⟩;rcases Zl.1 hy with rfl|hy
  ·exact Int.le_trans h3.2 h1
  ·exact h2 y hy
theorem LI{B:Int}:∀ {l:List Val} {m:Int},m<=B->(∀x∈l,x.dep<=B)->zO l m<=B
 | [],m,h,_=>h
 |x::r,m,h,hx=>by
  show zO r (if x.dep>m then x.dep else m)<=B;refine LI ?_ fun y hy=>hx y (Zr _ hy);have:=hx x Zp;split <;>omega
theorem xGM{N d:Nat}{v:Val}(hn:v.list.length<N)(hl:v.list.length<=9223372036854775807)(hB:v.dep<=1000000000)(hx:∀x∈v.list,Cp N d x=some x.dep):Cp N (d+1) v=some v.dep:=by
 have hd:=FJ v;have h0:=(GP (l:=v.list) (m:=0)).1;rw [hd]
 exact zG (L:=fun m i q=>Dx N (Cp N d) m q v.list v.list.length i) v.list (fun l q=>zO l q+1) (fun i q=>zO (v.list.drop i) q=zO v.list 0)
  (fun m q hq=>by
    have hq:zO (v.list.drop v.list.length) q=zO v.list 0:=hq;rw [Yl] at hq;have hq:q=zO v.list 0:=hq;simp only [Dx,Z0,Z2,jF];rw [zL (by omega) (by omega)];rfl)
  (fun i x l q hd' hi hxi hq=>by
    have hi' :(i:Int)<(v.list.length:Int):=by omega
    have hq:zO (v.list.drop i) q=zO v.list 0:=hq;refine .inl ⟨if x.dep>q then x.dep else q,?_,rfl,fun m=> ?_⟩
    ·show zO (v.list.drop (i+1)) _=_;rw [hd'] at hq;rw [(A0 hd').2.2,<-hq];rfl
    ·simp only [Dx,Zz hi',jT,jI,yR hxi,hx x (Zt hxi),jS,yU hi hl];rw [Zx (by omega)]) N 0 0 rfl (by omega) (by omega)
theorem xMx{N d:Nat}{v:Val}(hn:v.list.length<N)(hl:v.list.length<=9223372036854775807)(hB:v.dep<=1000000000)(hx:∀x∈v.list,DY N d x=some x.dep):DY N (d+1) v=some v.dep:=by
 have hd:=FJ v;have h0:=(GP (l:=v.list) (m:=0)).1;rw [hd]
 exact zG (L:=fun m i q=>Et N (DY N d) m q i v) v.list (fun l q=>zO l q+1) (fun i q=>zO (v.list.drop i) q=zO v.list 0)
  (fun m q hq=>by
    have hq:zO (v.list.drop v.list.length) q=zO v.list 0:=hq;rw [Yl] at hq;have hq:q=zO v.list 0:=hq;simp only [Et,Z0,Z2,jF];rw [zL (by omega) (by omega)];rfl)
  (fun i x l q hd' hi hxi hq=>by
    have hi' :(i:Int)<(v.list.length:Int):=by omega
    have hq:zO (v.list.drop i) q=zO v.list 0:=hq;have hm:IF N q x.dep=some (if x.dep>q then x.dep else q):=by
     unfold IF;by_cases h:q>x.dep
     ·rw [Zz h,Zj (by omega)];rfl
     ·rw [Zy h];by_cases h' :x.dep>q
      ·rw [Zx h'];rfl
      ·rw [Zj h',show x.dep=q by omega];rfl
    refine .inl ⟨if x.dep>q then x.dep else q,?_,rfl,fun m=> ?_⟩
    ·show zO (v.list.drop (i+1)) _=_;rw [hd'] at hq;rw [(A0 hd').2.2,<-hq];rfl
    ·simp only [Et,Zz hi',jT,jI,yR hxi,hx x (Zt hxi),jS,hm,yU hi hl];rw [Zx (by omega)]) N 0 0 rfl (by omega) (by omega)
theorem xEt{K:Nat}(hK:K<=4611686018427387904):∀v:Val,v.Fit K->v.dep<=1000000000->Big2 fun N d=>Cp N d v=some v.dep/\DY N d v=some v.dep:=by
 refine Val.ind fun k n s t a c r ih h hB=> ?_;have h5:=(Val.fit_iff.1 h).2.2.2.2.1;have hl:a.length<=K:=h5.1;refine Big2.succ ?_;have hx:∀x∈a,x.dep<=1000000000:=fun x hx=>by
  have:=(GP (l:=a) (m:=0)).2 x hx;have h2:=FJ (.mk k n s t a c r);rw [vl] at h2;omega
 refine((Big2.list fun x hxm=>ih x hxm (h5.2 x hxm) (hx x hxm)).and (zM K).two).imp fun N d ⟨hx,hN⟩=>⟨?_,?_⟩
 ·exact xGM (v:= .mk k n s t a c r) (by show a.length<N;omega) (by show a.length<=_;omega) hB fun x hxm=>(hx x hxm).1
 ·exact xMx (v:= .mk k n s t a c r) (by show a.length<N;omega) (by show a.length<=_;omega) hB fun x hxm=>(hx x hxm).2
def B1(v:Val):Bool:=(v.kind==1)||((v.kind==2)||(v.kind==3))
def emp{α:Type}(l:List α):Bool:=decide (l.length=0)
mutual
def y8:Val->Bool
 | .mk k n s t l c r=>
   bif k==1 then emp l&&(emp c&&(emp r&&((s==0)&&((t== [])&&zC n))))
   else bif k==2 then emp l&&(emp c&&(emp r&&((n==0)&&((s==0)&&GF t))))
   else bif k==4 then emp l&&(emp c&&(emp r&&((t== [])&&(zC n&&zC s))))
   else bif k==6 then emp l&&(emp c&&(emp r&&((s==0)&&((t== [])&&(decide (1<=n)&&decide (n<=8))))))
   else bif k==5 then emp l&&((n==0)&&((s==0)&&((t== [])&&BX c r)))
   else bif k==3 then Bz l&&((n==0)&&((s==0)&&((t== [])&&(emp c&&(emp r&&(decide (l.length<=8)&&decide (Val.deps l 0+1<=3)))))))
   else false
def Bz:List Val->Bool
 | []=>true
 |x::r=>(B1 x&&y8 x)&&Bz r
end
theorem IV:∀l:List Val,Bz l=l.all fun x=>B1 x&&y8 x
 | []=>rfl
 |x::r=>by simp only [Bz,List.all_cons,IV r]
theorem I2{α:Type}{f:α->Bool}:∀(l:List α) (i:Nat),AH (fun _=>f) l i=l.all f
 | [],_=>rfl
 |x::r,i=>by simp only [AH,List.all_cons,I2 r (i+1)]
theorem xO2:∀v:Val,y8 v=true->v.dep<=3:=by
 intro v;cases v with
 |mk k n s t l c r=>
  intro h;rw [FJ,vl];have hnil:emp l=true->zO l 0+1<=3:=fun h=>by
   have h:l.length=0:=of_decide_eq_true h;rw [Z1.1 h];show(0:Int)+1<=3;omega
  simp only [y8] at h;cases h1:(k==1)
  ·cases h2:(k==2)
   ·cases h3:(k==4)
    ·cases h4:(k==6)
     ·cases h5:(k==5)
      ·cases h6:(k==3)
       ·rw [h1,h2,h3,h4,h5,h6] at h;cases h
       ·rw [h1,h2,h3,h4,h5,h6] at h;simp only [jT,jF,Zs,ZU,Ib] at h;exact h.2.2.2.2.2.2.2
      ·rw [h1,h2,h3,h4,h5] at h;simp only [jT,jF,Zs] at h;exact hnil h.1
     ·rw [h1,h2,h3,h4] at h;simp only [jT,jF,Zs] at h;exact hnil h.1
    ·rw [h1,h2,h3] at h;simp only [jT,jF,Zs] at h;exact hnil h.1
   ·rw [h1,h2] at h;simp only [jT,jF,Zs] at h;exact hnil h.1
  ·rw [h1] at h;simp only [jT,jF,Zs] at h;exact hnil h.1
theorem Ja{α:Type}(l:List α):(((l.length:Nat):Int)==0)=emp l:=by
 unfold emp;by_cases h:l.length=0
 ·rw [h];rfl
 ·rw [Zy h];exact ZX.2 (by omega)
theorem xKs{α:Type}(l:List α):decide (((l.length:Nat):Int)>0)= !emp l:=by
 unfold emp;by_cases h:l.length=0
 ·rw [h];rfl
 ·rw [Zy h,Zz (by omega)];rfl
theorem xKt{α β:Type}{l:List α}{r:List β}(h1:l.length<=4611686018427387903)(h2:r.length<=4611686018427387903):decide (IntKind.i64.wrap (((l.length:Nat):Int)+((r.length:Nat):Int))>0)= !(emp l&&emp r):=by
 unfold emp;rw [zL (by omega) (by omega)];by_cases h:l.length=0 <;>by_cases h' :r.length=0
 ·rw [Zy (by omega),Zz h,Zz h'];rfl
 ·rw [Zz (by omega),Zz h,Zy h'];rfl
 ·rw [Zz (by omega),Zy h];rfl
 ·rw [Zz (by omega),Zy h];rfl
theorem xIJ{N d:Nat}{v:Val}(hl:v.list.length<=9223372036854775807)(hn:v.list.length<N)(hd:(∀x∈v.list,y8 x=true)->FQ N v=some v.dep)(hx:∀x∈v.list,Aq N d x=some (y8 x)):
 Ap N (Aq N d) N v.list v.list.length 0 v=some (Bz v.list&&((v.n==0)&&((v.step==0)&&((v.text== [])&&(emp v.columns&&(emp v.rows&&(decide (v.list.length<=8)&&decide (v.dep<=3)))))))):=by
 have h:=Ae (L:=fun n i=>Ap N (Aq N d) n v.list v.list.length i v) (x0:=v.list) (p:=fun _ x=>B1 x&&y8 x) (fun n=>by simp only [Ap,Z0,Z2,jF];rfl) (fun i x n hi hxi hm=>by
  have hi' :(i:Int)<(v.list.length:Int):=by omega
  simp only [Ap,Zz hi',jT,jI,yR hxi,yU hi hl,hx x hm,jS,B1,bne];rw [Zx (by omega)];cases (x.kind==1) <;>cases (x.kind==2) <;>cases (x.kind==3) <;>cases y8 x <;>rfl) hn
 have h:Ap N (Aq N d) N v.list v.list.length 0 v=_:=h;rw [h,I2,IV];cases hv:v.list.all fun x=>B1 x&&y8 x
 ·rfl
 ·rw [jT,Ja,Ja,show decide (((v.list.length:Nat):Int)<=8)=decide (v.list.length<=8) from by
   by_cases h:v.list.length<=8
   ·rw [Zz h,Zz (by omega)]
   ·rw [Zy h,Zy (by omega)]]
  rw [hd fun x hx=>by have:=Zu.1 hv x hx;rw [Zs] at this;exact this.2];simp only [jS,ZF];cases (v.n==0) <;>cases (v.step==0) <;>cases (v.text== []) <;>cases emp v.columns <;>cases emp v.rows <;>cases decide (v.list.length<=8) <;>rfl
theorem xOo{N d:Nat}{v:Val}(hl:v.list.length<=9223372036854775807)(hn:v.list.length<N)(hd:(∀x∈v.list,y8 x=true)->Hu N v=some v.dep)(hx:∀x∈v.list,(AB N d).c_spec_IsValidValue x=some (y8 x)):
 (AB N (d+1)).c_spec_l3List v=some (Bz v.list&&(decide (v.list.length<=8)&&decide (v.dep<=3))):=by
 show Cb N (AB N d).c_spec_IsValidValue (AB N d).c_spec_l3List N 0 v=_
 have h:=Ae (L:=fun n i=>Cb N (AB N d).c_spec_IsValidValue (AB N d).c_spec_l3List n i v) (x0:=v.list) (p:=fun _ x=>B1 x&&y8 x) (fun n=>by simp only [Cb,Z0,Z2,jF];rfl) (fun i x n hi hxi hm=>by
  have hi' :(i:Int)<(v.list.length:Int):=by omega
  simp only [Cb,KN,Zz hi',jT,jI,yR hxi,yU hi hl,hx x hm,jS,B1];rw [Zx (by omega)];cases (x.kind==1) <;>cases (x.kind==2) <;>cases (x.kind==3) <;>cases y8 x <;>rfl) hn
 have h:Cb N (AB N d).c_spec_IsValidValue (AB N d).c_spec_l3List N 0 v=_:=h;rw [h,I2,IV];cases hv:v.list.all fun x=>B1 x&&y8 x
 ·rfl
 ·rw [jT,show decide (((v.list.length:Nat):Int)<=8)=decide (v.list.length<=8) from by
   by_cases h:v.list.length<=8
   ·rw [Zz h,Zz (by omega)]
   ·rw [Zy h,Zy (by omega)]]
  rw [hd fun x hx=>by have:=Zu.1 hv x hx;rw [Zs] at this;exact this.2];simp only [jS,ZF];cases decide (v.list.length<=8) <;>rfl
theorem BZ(v:Val):y8 v=
 bif v.kind==1 then emp v.list&&(emp v.columns&&(emp v.rows&&((v.step==0)&&((v.text== [])&&zC v.n))))
 else bif v.kind==2 then emp v.list&&(emp v.columns&&(emp v.rows&&((v.n==0)&&((v.step==0)&&GF v.text))))
 else bif v.kind==4 then emp v.list&&(emp v.columns&&(emp v.rows&&((v.text== [])&&(zC v.n&&zC v.step))))
 else bif v.kind==6 then emp v.list&&(emp v.columns&&(emp v.rows&&((v.step==0)&&((v.text== [])&&(decide (1<=v.n)&&decide (v.n<=8))))))
 else bif v.kind==5 then emp v.list&&((v.n==0)&&((v.step==0)&&((v.text== [])&&BX v.columns v.rows)))
 else bif v.kind==3 then Bz v.list&&((v.n==0)&&((v.step==0)&&((v.text== [])&&(emp v.columns&&(emp v.rows&&(decide (v.list.length<=8)&&decide (v.dep<=3)))))))
 else false:=by
 cases v;simp only [y8,vk,vn,vs,vt,vl,vc,vr,Val.dep]
 rfl
theorem xO5{v:Val}(h:∀x∈v.list,y8 x=true):v.dep<=1000000000:=by
 rw [FJ];have:=LI (B:=3) (l:=v.list) (m:=0) (by omega) fun x hx=>xO2 x (h x hx);omega
theorem NR(k:Int):(k==1)=true/\(k==2)=false/\(k==3)=false/\(k==4)=false/\(k==5)=false/\(k==6)=false\/
 (k==1)=false/\(k==2)=true/\(k==3)=false/\(k==4)=false/\(k==5)=false/\(k==6)=false\/
 (k==1)=false/\(k==2)=false/\(k==3)=true/\(k==4)=false/\(k==5)=false/\(k==6)=false\/
 (k==1)=false/\(k==2)=false/\(k==3)=false/\(k==4)=true/\(k==5)=false/\(k==6)=false\/
 (k==1)=false/\(k==2)=false/\(k==3)=false/\(k==4)=false/\(k==5)=true/\(k==6)=false\/
 (k==1)=false/\(k==2)=false/\(k==3)=false/\(k==4)=false/\(k==5)=false/\(k==6)=true\/
 (k==1)=false/\(k==2)=false/\(k==3)=false/\(k==4)=false/\(k==5)=false/\(k==6)=false:=by
 simp only [beq_iff_eq,ZX,ne_eq];omega
theorem xHR{N d K:Nat}{v:Val}(h:v.Fit K)(hK:24<=K/\K<=4611686018427387903)(hN:K<N)(hd:(∀x∈v.list,y8 x=true)->FQ N v=some v.dep)(hx:∀x∈v.list,Aq N d x=some (y8 x)):
 Aq N (d+1) v=some (y8 v):=by
 obtain⟨h1,h2,h3,h4,h5,h6,h7⟩:=Val.fit_iff.1 h;have hl:v.list.length<=K:=h5.1;have ht:v.text.length<=K:=h4;have hb:=xIJ (d:=d) (by omega:v.list.length<=9223372036854775807) (by omega) hd hx;show G9 N (Aq N d) v=_;rw [BZ];simp only [G9,Ja,DA,DE,xG2 (N:=N) (s:=v.text) (by omega) (by omega),xIi h (by omega) hN,hb,jS]
 rcases NR v.kind with ⟨a1,a2,a3,a4,a5,a6⟩|⟨a1,a2,a3,a4,a5,a6⟩|⟨a1,a2,a3,a4,a5,a6⟩|⟨a1,a2,a3,a4,a5,a6⟩|⟨a1,a2,a3,a4,a5,a6⟩|⟨a1,a2,a3,a4,a5,a6⟩|⟨a1,a2,a3,a4,a5,a6⟩ <;>
  simp only [a1,a2,a3,a4,a5,a6,jT,jF]
 ·cases emp v.list <;>cases emp v.columns <;>cases emp v.rows <;>cases (v.step==0) <;>cases (v.text== []) <;>rfl
 ·cases emp v.list <;>cases emp v.columns <;>cases emp v.rows <;>cases (v.n==0) <;>cases (v.step==0) <;>rfl
 ·cases emp v.list <;>cases emp v.columns <;>rfl
 ·cases emp v.list <;>cases emp v.columns <;>cases emp v.rows <;>cases (v.text== []) <;>cases zC v.n <;>rfl
 ·cases emp v.list <;>cases emp v.columns <;>cases (v.n==0) <;>cases (v.step==0) <;>cases (v.text== []) <;>rfl
 ·cases emp v.list <;>cases emp v.columns <;>cases emp v.rows <;>cases (v.step==0) <;>cases (v.text== []) <;>rfl
 ·cases emp v.list <;>cases emp v.columns <;>rfl
theorem xNg{N d K:Nat}{v:Val}(h:v.Fit K)(hK:24<=K/\K<=4611686018427387903)(hN:K<N)(hb:(AB N d).c_spec_l3List v=some (Bz v.list&&(decide (v.list.length<=8)&&decide (v.dep<=3)))):
 (AB N (d+1)).c_spec_IsValidValue v=some (y8 v):=by
 obtain⟨h1,h2,h3,h4,h5,h6,h7⟩:=Val.fit_iff.1 h;have hc:v.columns.length<=K:=h6.1;have hr:v.rows.length<=K:=h7.1;have ht:v.text.length<=K:=h4;show Hx N (AB N d).c_spec_IsValidValue (AB N d).c_spec_l3List v=_;rw [BZ];simp only [Hx,xKs,xKt (l:=v.columns) (r:=v.rows) (by omega) (by omega),Bt,Ew,xAf (N:=N) (s:=v.text) (by omega) (by omega),xN4 h (by omega) hN,hb,jS,bne]
 rcases NR v.kind with ⟨a1,a2,a3,a4,a5,a6⟩|⟨a1,a2,a3,a4,a5,a6⟩|⟨a1,a2,a3,a4,a5,a6⟩|⟨a1,a2,a3,a4,a5,a6⟩|⟨a1,a2,a3,a4,a5,a6⟩|⟨a1,a2,a3,a4,a5,a6⟩|⟨a1,a2,a3,a4,a5,a6⟩ <;>
  simp only [a1,a2,a3,a4,a5,a6,jT,jF,jU,jV]
 ·cases emp v.list <;>cases emp v.columns <;>cases emp v.rows <;>cases (v.step==0) <;>cases (v.text== []) <;>rfl
 ·cases emp v.list <;>cases emp v.columns <;>cases emp v.rows <;>cases (v.n==0) <;>cases (v.step==0) <;>rfl
 ·cases emp v.columns <;>cases emp v.rows <;>cases (v.n==0) <;>cases (v.step==0) <;>cases (v.text== []) <;>cases Bz v.list <;>rfl
 ·cases emp v.list <;>cases emp v.columns <;>cases emp v.rows <;>cases (v.text== []) <;>cases zC v.n <;>rfl
 ·cases emp v.list <;>cases (v.n==0) <;>cases (v.step==0) <;>cases (v.text== []) <;>rfl
 ·cases emp v.list <;>cases emp v.columns <;>cases emp v.rows <;>cases (v.step==0) <;>cases (v.text== []) <;>rfl
 ·cases emp v.list <;>cases emp v.columns <;>cases emp v.rows <;>cases (v.step==0) <;>cases (v.text== []) <;>rfl
theorem xEu{K:Nat}(hK:K<=4611686018427387904){v:Val}(h:v.Fit K):Big fun N=>(∀x∈v.list,y8 x=true)->FQ N v=some v.dep/\Hu N v=some v.dep:=by
 by_cases hv:∀x∈v.list,y8 x=true
 ·exact(xEt hK v h (xO5 hv)).diag.imp fun N h _=>h
 ·exact .of fun N h=>absurd h hv
theorem Big2.up{p:Nat->Nat->Prop}(h:Big2 p):Big2 fun N d=>p N (d+1):=h.elim fun k hk=>⟨k,fun N d h1 h2=>hk N (d+1) h1 (by omega)⟩
theorem xO3{K:Nat}(hK:24<=K/\K<=4611686018427387903):∀v:Val,v.Fit K->Big2 fun N d=>Aq N d v=some (y8 v)/\(AB N d).c_spec_IsValidValue v=some (y8 v):=by
 refine Val.ind fun k n s t a c r ih h=> ?_;have h5:=(Val.fit_iff.1 h).2.2.2.2.1;have hl:a.length<=K:=h5.1;have hb:Big2 fun N d=>∀x∈a,Aq N d x=some (y8 x)/\(AB N d).c_spec_IsValidValue x=some (y8 x):=Big2.list fun x hx=>ih x hx (h5.2 x hx);refine Big2.succ (Big2.succ ?_);refine(hb.and (hb.up.and ((xEu (by omega) h).and (zM K)).two)).imp fun N d ⟨hx,hy,hd,hN⟩=>⟨?_,?_⟩
 ·exact xHR h hK hN (fun hv=>(hd hv).1) fun x hxm=>(hy x hxm).1
 ·exact xNg h hK hN (xOo (v:= .mk k n s t a c r) (by show a.length<=_;omega) (by show a.length<_;omega) (fun hv=>(hd hv).2) fun x hxm=>(hx x hxm).2)
theorem xO4{K:Nat}(hK:24<=K/\K<=4611686018427387903){v:Val}(h:v.Fit K):Big fun N=>Iu N v=some (y8 v)/\KC N v=some (y8 v):=(xO3 hK v h).diag
end Go.Ab
end
section
open Go.IntKind (i64)
namespace Go.Ab
def yX(c:Int):Val:= .mk 6 c 0 [] [] [] []
def y5(c:Int):Val:= .mk 1 c 0 [] [] [] []
def As:Val:= .mk 0 0 0 [] [] [] []
def opG:List Val->Val×Bool×Bool
 | []=>(As,false,false)
 |v::r=>bif !y8 v then(yX 4,true,false) else bif v.kind==6 then(v,true,true) else opG r
theorem Ic{α:Type}{l:List α}(h:emp l=true):l=[]:=Z1.1 (of_decide_eq_true h)
theorem LM{v:Val}(h:y8 v=true)(hk:(v.kind==6)=true):v=yX v.n:=by
 rw [BZ] at h;have hk' :=eq_of_beq hk;rw [hk'] at h;simp only [show((6:Int)==1)=false from rfl,show((6:Int)==2)=false from rfl,show((6:Int)==4)=false from rfl,show((6:Int)==6)=true from rfl,jT,jF,Zs] at h;obtain⟨h1,h2,h3,h4,h5,_⟩:=h;have e:=Val.eta v;rw [Ic h1,Ic h2,Ic h3,eq_of_beq h4,eq_of_beq h5,hk'] at e;exact e.symm
theorem Fg:∀ {l:List Val},(opG l).1.list=[]/\(opG l).1.columns=[]/\(opG l).1.rows=[]/\(opG l).1.text=[]/\(opG l).1.step=0
 | []=>⟨rfl,rfl,rfl,rfl,rfl⟩
 |v::r=>by
  simp only [opG];cases hv:y8 v
  ·exact⟨rfl,rfl,rfl,rfl,rfl⟩
  ·cases hk:(v.kind==6)
   ·exact Fg (l:=r)
   ·simp only [jU,jF,jT];rw [LM hv hk];exact⟨rfl,rfl,rfl,rfl,rfl⟩
theorem ON{K:Nat}:∀ {l:List Val},(∀x∈l,x.Fit K)->I64 (opG l).1.kind/\I64 (opG l).1.n
 | [],_=>⟨y7 (by show(-1000000:Int)<=0;omega) (by show(0:Int)<=1000000;omega),y7 (by show(-1000000:Int)<=0;omega) (by show(0:Int)<=1000000;omega)⟩
 |v::r,h=>by
  simp only [opG];cases hv:y8 v
  ·exact⟨y7 (by show(-1000000:Int)<=6;omega) (by show(6:Int)<=1000000;omega),y7 (by show(-1000000:Int)<=4;omega) (by show(4:Int)<=1000000;omega)⟩
  ·cases hk:(v.kind==6)
   ·exact ON fun x hx=>h x (Zr _ hx)
   ·have:=Val.fit_iff.1 (h v Zp);exact⟨this.1,this.2.1⟩
theorem A1{v:Val}(h1:v.list=[])(h2:v.columns=[])(h3:v.rows=[]):Val.mk v.kind v.n v.step v.text [] [] []=v:=by
 have e:=Val.eta v;rw [h1,h2,h3] at e;exact e
theorem H9{K:Nat}(hK:24<=K/\K<=4611686018427387903){l:List Val}(h:∀x∈l,x.Fit K)(hl:l.length<=K):Big fun N=>EF N l=some (opG l)/\Ez N l=some ((opG l).1,(opG l).2.1):=by
 refine((Big.list fun x hx=>xO4 hK (h x hx)).and (zM K)).imp fun N ⟨hv,hN⟩=>⟨?_,?_⟩
 ·exact zG (σ:=Unit) (L:=fun m i _=>CM N m l l.length i (Val.mk 0 0 0 [] [] [] [])) l (fun r _=>opG r) (fun _ _=>True) (fun m _ _=>by simp only [CM,Z0,Z2,jF];rfl)
   (fun i x r _ hd hi hx _=>by
     have hi' :(i:Int)<(l.length:Int):=by omega
     have hm:=Zt hx;cases h1:y8 x
     ·refine .inr fun m=> ?_;simp only [CM,Zz hi',jT,jI,yR hx,(hv x hm).1,h1,jS,jV,yT,opG];rw [Zx (by omega)];rfl
     ·cases h2:(x.kind==6)
      ·refine .inl ⟨(),trivial,by simp only [opG,h1,h2,jU,jF],fun m=> ?_⟩;simp only [CM,Zz hi',jT,jI,yR hx,(hv x hm).1,h1,h2,jS,jU,jF,yU hi (by omega:l.length<=_)];rw [Zx (by omega)]
      ·refine .inr fun m=> ?_;simp only [CM,Zz hi',jT,jI,yR hx,(hv x hm).1,h1,h2,jS,jU,jF,opG];rw [Zx (by omega)]) N 0 () trivial (by omega) (by omega)
 ·exact zG (σ:=Unit) (L:=fun m i _=>Cc N m l i (Val.mk 0 0 0 [] [] [] [])) l (fun r _=>((opG r).1,(opG r).2.1)) (fun _ _=>True) (fun m _ _=>by simp only [Cc,Z0,Z2,jF];rfl)
   (fun i x r _ hd hi hx _=>by
     have hi' :(i:Int)<(l.length:Int):=by omega
     have hm:=Zt hx;cases h1:y8 x
     ·refine .inr fun m=> ?_;simp only [Cc,Zz hi',jT,jI,yR hx,(hv x hm).2,h1,jS,jV,yV,opG];rw [Zx (by omega)];rfl
     ·cases h2:(x.kind==6)
      ·refine .inl ⟨(),trivial,by simp only [opG,h1,h2,jU,jF],fun m=> ?_⟩;simp only [Cc,Zz hi',jT,jI,yR hx,(hv x hm).2,h1,h2,jS,jU,jF,yU hi (by omega:l.length<=_)];rw [Zx (by omega)]
      ·refine .inr fun m=> ?_;simp only [Cc,Zz hi',jT,jI,yR hx,(hv x hm).2,h1,h2,jS,jU,jF,opG,yV];rw [Zx (by omega),LM h1 h2];rfl) N 0 () trivial (by omega) (by omega)
def Flat(v:Val):Prop:=v.list=[]/\v.columns=[]/\v.rows=[]/\v.text=[]/\I64 v.kind/\I64 v.n/\I64 v.step
theorem Flat.fit{v:Val}(h:Flat v)(K:Nat):v.Fit K:=by
 obtain⟨h1,h2,h3,h4,h5,h6,h7⟩:=h;refine Val.fit_iff.2 ⟨h5,h6,h7,?_,?_,?_,?_⟩
 ·rw [h4];exact Z3 _
 ·rw [h1];exact CT
 ·rw [h2];exact CT
 ·rw [h3];exact CT
theorem Flat.cnt{v:Val}(h:Flat v):v.cnt=4:=by
 rw [Cg,h.1,h.2.1,h.2.2.1];rfl
theorem GX{K:Nat}{l:List Val}(h:∀x∈l,x.Fit K):Flat (opG l).1:=by
 obtain⟨h1,h2,h3,h4,h5⟩:=Fg (l:=l);obtain⟨i1,i2⟩:=ON h;exact⟨h1,h2,h3,h4,i1,i2,by rw [h5];exact y7 (by omega) (by omega)⟩
theorem FN{k n s:Int}(h1:I64 k)(h2:I64 n)(h3:I64 s):Flat (.mk k n s [] [] [] []):=⟨rfl,rfl,rfl,rfl,h1,h2,h3⟩
theorem zX{c:Int}(h:I64 c):Flat (yX c):=FN (y7 (by omega) (by omega)) h (y7 (by omega) (by omega))
theorem Cn{c:Int}(h:I64 c):Flat (y5 c):=FN (y7 (by omega) (by omega)) h (y7 (by omega) (by omega))
theorem xKz{N:Nat}(hN:274877906944<N){v:Val}(k:Int):HK N v k=some k:=by
 obtain⟨n,rfl⟩:∃n,N=n+1:=⟨N - 1,by omega⟩;simp [HK,JW,JU,JS,JX,JV,JT]
theorem xGk{N:Nat}(hN:274877906944<N){a b c:Int}{t:Str}{k:Int}(hk:0<=k):Aj N (.mk a b c t [] [] []) k=some k:=by
 obtain⟨n,rfl⟩:∃n,N=n+1:=⟨N - 1,by omega⟩;have h:¬k<0:=by omega
 simp [Aj,vl,vc,vr,HF,EQ,JP,DH,F7,DG,F6,DF,Zy h]
def Ad:List Val->Int->Val
 | [],s=>y5 s
 |x::r,s=>bif x.kind != 1 then yX 4 else bif !zC (i64.wrap (s+x.n)) then yX 5 else Ad r (i64.wrap (s+x.n))
theorem xAM:∀ {l:List Val} {s:Int},I64 s->Flat (Ad l s)
 | [],s,h=>Cn h
 |x::r,s,h=>by
  simp only [Ad];cases (x.kind != 1)
  ·cases zC (i64.wrap (s+x.n))
   ·exact zX (y7 (by omega) (by omega))
   ·exact xAM (Mg _)
  ·exact zX (y7 (by omega) (by omega))
def Dg(v:Val):Val×Bool:=bif(opG [v]).2.1 then((opG [v]).1,(opG [v]).2.2) else bif v.kind != 3 then(yX 4,false) else(Ad v.list 0,false)
theorem Fh:∀ {l:List Val},(opG l).2.1=false->(opG l).2.2=false
 | [],_=>rfl
 |v::r,h=>by
  simp only [opG] at h ⊢;cases hv:y8 v
  ·rfl
  ·cases hk:(v.kind==6)
   ·rw [hv,hk] at h;exact Fh (l:=r) h
   ·rw [hv,hk] at h;cases h
theorem xOz{K:Nat}(hK:24<=K/\K<=4611686018427387903){v:Val}(h:v.Fit K):Big fun N=>Gi N v=some (Dg v)/\IB N v=some (Dg v).1:=by
 have hl:v.list.length<=K:=(Val.fit_iff.1 h).2.2.2.2.1.1;refine((H9 hK (l:=[v]) (fun x hx=>by rw [Zf] at hx;subst hx;exact h) (by simp;omega)).and (zM K)).imp fun N ⟨⟨ho1,ho2⟩,hN⟩=> ?_;obtain⟨e1,e2,e3,e4,e5⟩:=Fg (l:=[v])
 have i1:BN N N 0 v.list v.list.length 0 (Val.mk 0 0 0 [] [] [] [])=some (Ad v.list 0,false):=
  zG (L:=fun m i q=>BN N m q v.list v.list.length i (Val.mk 0 0 0 [] [] [] [])) v.list (fun r q=>(Ad r q,false)) (fun _ _=>True) (fun m q _=>by simp only [BN,Z0,Z2,jF];rfl)
   (fun i x r q hd hi hx _=>by
     have hi' :(i:Int)<(v.list.length:Int):=by omega
     cases h1:(x.kind != 1)
     ·cases h2:zC (i64.wrap (q+x.n))
      ·refine .inr fun m=> ?_;simp only [BN,Zz hi',jT,jF,jI,yR hx,h1,h2,DA,jS,jV,yT,Ad];rw [Zx (by omega)];rfl
      ·refine .inl ⟨i64.wrap (q+x.n),trivial,by simp only [Ad,h1,h2,jU,jF],fun m=> ?_⟩;simp only [BN,Zz hi',jT,jF,jI,yR hx,h1,h2,DA,jS,jU,yU hi (by omega:v.list.length<=_)];rw [Zx (by omega)]
     ·refine .inr fun m=> ?_;simp only [BN,Zz hi',jT,jI,yR hx,h1,jS,yT,Ad];rw [Zx (by omega)];rfl) N 0 0 trivial (by omega) (by omega)
 have i2:Bq N N 0 v (Val.mk 0 0 0 [] [] [] []) (y5 0)=some (Ad v.list 0):=
  zG (L:=fun m i q=>Bq N m i v (Val.mk 0 0 0 [] [] [] []) (y5 q)) v.list (fun r q=>Ad r q) (fun _ _=>True) (fun m q _=>by simp only [Bq,Z0,Z2,jF];rfl)
   (fun i x r q hd hi hx _=>by
     have hi' :(i:Int)<(v.list.length:Int):=by omega
     have hn:(y5 q).n=q:=rfl;cases h1:(x.kind != 1)
     ·cases h2:zC (i64.wrap (q+x.n))
      ·refine .inr fun m=> ?_;simp only [Bq,hn,Zz hi',jT,jF,jI,yR hx,h1,h2,DW,Bt,jS,jV,yV,Ad];rw [Zx (by omega)];rfl
      ·refine .inl ⟨i64.wrap (q+x.n),trivial,by simp only [Ad,h1,h2,jU,jF],fun m=> ?_⟩;simp only [Bq,hn,Zz hi',jT,jF,jI,yR hx,h1,h2,DW,Bt,AT,jS,jU,yU hi (by omega:v.list.length<=_)];rw [Zx (by omega)];rfl
     ·refine .inr fun m=> ?_;simp only [Bq,Zz hi',jT,jI,yR hx,h1,jS,yV,Ad];rw [Zx (by omega)];rfl) N 0 0 trivial (by omega) (by omega)
 have hz:Val.mk 1 0 0 [] [] [] []=y5 0:=rfl;refine⟨?_,?_⟩
 ·simp only [Gi,Val.re_eq,ho1,jS,e1,e2,e3,jE,ZE,A1 e1 e2 e3,i1,yT,Dg];cases h1:(opG [v]).2.1
  ·rw [Fh h1];cases (v.kind != 3) <;>rfl
  ·cases (opG [v]).2.2 <;>rfl
 ·simp only [IB,Val.re_eq,ho2,jS,yV,AT,hz,i2,Dg];cases h1:(opG [v]).2.1
  ·cases (v.kind != 3) <;>rfl
  ·rfl
theorem xOx{K:Nat}{v:Val}(h:v.Fit K):Flat (Dg v).1:=by
 unfold Dg;cases (opG [v]).2.1
 ·cases (v.kind != 3)
  ·exact xAM (y7 (by omega) (by omega))
  ·exact zX (y7 (by omega) (by omega))
 ·exact GX (K:=K) (l:=[v]) fun x hx=>by rw [Zf] at hx;subst hx;exact h
end Go.Ab
end
section
namespace Go.Ab
def kb:List Val->List Int->Bool
 | [],_=>false
 |_::_,[]=>false
 |x::r,k::ks=>(x.kind != k)||kb r ks
def yW(ks:List Int)(vs:List Val):Val×Bool×Bool:=bif(opG vs).2.1 then opG vs else bif kb vs ks then(yX 4,true,false) else(As,false,false)
theorem xFL:Flat As:=FN (y7 (by omega) (by omega)) (y7 (by omega) (by omega)) (y7 (by omega) (by omega))
theorem Ay{K:Nat}{ks:List Int}{l:List Val}(h:∀x∈l,x.Fit K):Flat (yW ks l).1:=by
 unfold yW;cases (opG l).2.1
 ·cases kb l ks
  ·exact xFL
  ·exact zX (y7 (by omega) (by omega))
 ·exact GX h
theorem Bi{K:Nat}(hK:24<=K/\K<=4611686018427387903){vs:List Val}{ks:List Int}(h:∀x∈vs,x.Fit K)(hl:vs.length<=K)(hks:ks.length=vs.length):Big fun N=>Ah N ks vs=some (yW ks vs)/\Av N vs ks=some ((yW ks vs).1,(yW ks vs).2.1):=by
 refine((H9 hK h hl).and (zM K)).imp fun N ⟨⟨ho1,ho2⟩,hN⟩=> ?_
 have i1:Bd N N ks vs vs.length 0 (Val.mk 0 0 0 [] [] [] [])=some (bif kb vs ks then(yX 4,true,false) else(As,false,false)):=
  zG (L:=fun m i q=>Bd N m ks vs vs.length i (Val.mk 0 0 0 [] [] [] [])) vs (fun r q=>bif kb r (ks.drop q) then(yX 4,true,false) else(As,false,false)) (fun i q=>q=i) (fun m q _=>by simp only [Bd,Z0,Z2,jF];rfl)
   (fun i x r q hd hi hx hq=>by
     have hq:q=i:=hq;subst hq;have hi' :(q:Int)<(vs.length:Int):=by omega
     have hk:ks[q]? =some ks[q]:=by simp [hks,hi]
     have hdk:ks.drop q=ks[q]::ks.drop (q+1):=Yz (by omega);cases h1:(x.kind != ks[q])
     ·refine .inl ⟨q+1,rfl,by rw [hdk];simp only [kb,h1,ZJ],fun m=> ?_⟩;simp only [Bd,Zz hi',jT,jF,jI,yR hx,yR hk,h1,yU hi (by omega:vs.length<=_)];rw [Zx (by omega),Zx (by omega)]
     ·refine .inr fun m=> ?_;rw [hdk];simp only [Bd,Zz hi',jT,jI,yR hx,yR hk,h1,yT,jS,kb,X5];rw [Zx (by omega),Zx (by omega)];rfl) N 0 0 rfl (by omega) (by omega)
 have i2:Cd N N vs ks 0 (Val.mk 0 0 0 [] [] [] [])=some (bif kb vs ks then(yX 4,true) else(As,false)):=
  zG (L:=fun m i q=>Cd N m vs ks i (Val.mk 0 0 0 [] [] [] [])) vs (fun r q=>bif kb r (ks.drop q) then(yX 4,true) else(As,false)) (fun i q=>q=i) (fun m q _=>by simp only [Cd,Z0,Z2,jF];rfl)
   (fun i x r q hd hi hx hq=>by
     have hq:q=i:=hq;subst hq;have hi' :(q:Int)<(vs.length:Int):=by omega
     have hk:ks[q]? =some ks[q]:=by simp [hks,hi]
     have hdk:ks.drop q=ks[q]::ks.drop (q+1):=Yz (by omega);cases h1:(x.kind != ks[q])
     ·refine .inl ⟨q+1,rfl,by rw [hdk];simp only [kb,h1,ZJ],fun m=> ?_⟩;simp only [Cd,Zz hi',jT,jF,jI,yR hx,yR hk,h1,yU hi (by omega:vs.length<=_)];rw [Zx (by omega),Zx (by omega)]
     ·refine .inr fun m=> ?_;rw [hdk];simp only [Cd,Zz hi',jT,jI,yR hx,yR hk,h1,yV,jS,kb,X5];rw [Zx (by omega),Zx (by omega)];rfl) N 0 0 rfl (by omega) (by omega)
 refine⟨?_,?_⟩
 ·simp only [Ah,ho1,jS,i1,yW];cases h1:(opG vs).2.1
  ·rw [Fh h1];rfl
  ·have e:opG vs=((opG vs).1,true,(opG vs).2.2):=by rw [<-h1]
   cases h2:(opG vs).2.2
   ·rw [h2] at e;simp only [jT,jF];rw [<-e]
   ·rw [h2] at e;simp only [jT];rw [<-e]
 ·simp only [Av,ho2,jS,i2,yW];cases h1:(opG vs).2.1
  ·cases kb vs ks <;>rfl
  ·simp [h1]
def Cl(v:Val):Val×Bool:=bif(yW [5] [v]).2.1 then((yW [5] [v]).1,(yW [5] [v]).2.2) else(y5 v.rows.length,false)
theorem Bk{ks:List Int}{l:List Val}(h:(yW ks l).2.1=false):(yW ks l).2.2=false:=by
 unfold yW at h ⊢;cases h1:(opG l).2.1
 ·rw [h1] at h;cases h2:kb l ks
  ·rfl
  ·rfl
 ·rw [h1] at h;simp only [jT] at h;rw [h1] at h;cases h
theorem Ff{K:Nat}{v:Val}(h:v.Fit K):∀x∈ [v],x.Fit K:=fun x hx=>by rw [Zf] at hx;subst hx;exact h
theorem xEl{K:Nat}(hK:24<=K/\K<=4611686018427387903){v:Val}(h:v.Fit K):Big fun N=>G0 N v=some (Cl v)/\Ht N v=some (Cl v).1:=by
 refine(Bi hK (vs:=[v]) (ks:=[5]) (Ff h) (by simp;omega) rfl).imp fun N ⟨h1,h2⟩=> ?_;obtain⟨e1,e2,e3,_⟩:=Ay (ks:=[5]) (Ff h);have hz:∀n:Int,Val.mk 1 n 0 [] [] [] []=y5 n:=fun _=>rfl;refine⟨?_,?_⟩
 ·simp only [G0,Val.re_eq,h1,jS,e1,e2,e3,jE,ZE,A1 e1 e2 e3,AW,hz,Cl];cases g1:(yW [5] [v]).2.1
  ·rw [Bk g1];rfl
  ·cases (yW [5] [v]).2.2 <;>rfl
 ·simp only [Ht,Val.re_eq,h2,jS,AT,hz,Cl];cases g1:(yW [5] [v]).2.1 <;>rfl
theorem xEk{K:Nat}(hK:K<=4611686018427387903){v:Val}(h:v.Fit K):Flat (Cl v).1:=by
 have hr:v.rows.length<=K:=(Val.fit_iff.1 h).2.2.2.2.2.2.1;unfold Cl;cases (yW [5] [v]).2.1
 ·exact Cn ⟨by omega,by omega⟩
 ·exact Ay (Ff h)
end Go.Ab
end
section
namespace Go.Ab
theorem Jk:∀ {l:List Val},(opG l).2.1=false->∀x∈l,y8 x=true
 | [],_,x,hx=>by cases hx
 |v::r,h,x,hx=>by
  simp only [opG] at h;cases hv:y8 v
  ·rw [hv] at h;cases h
  ·cases hk:(v.kind==6)
   ·rw [hv,hk] at h;rcases Zl.1 hx with rfl|hx
    ·exact hv
    ·exact Jk (l:=r) h x hx
   ·rw [hv,hk] at h;cases h
theorem Bj{ks:List Int}{l:List Val}(h:(yW ks l).2.1=false):(∀x∈l,y8 x=true)/\kb l ks=false:=by
 unfold yW at h;cases h1:(opG l).2.1
 ·rw [h1] at h;cases h2:kb l ks
  ·exact⟨Jk h1,rfl⟩
  ·rw [h2] at h;cases h
 ·rw [h1] at h;simp only [jT] at h;rw [h1] at h;cases h
theorem CP{K:Nat}{ks:List Int}{l:List Val}(h:∀x∈l,x.Fit K):Flat (yW ks l).1:=Ay h
theorem Bw{v:Val}(hv:y8 v=true)(hk:v.kind=5):∀r∈v.rows,r.cells.length=v.columns.length:=by
 rw [BZ,hk] at hv;simp only [show((5:Int)==1)=false from rfl,show((5:Int)==2)=false from rfl,show((5:Int)==4)=false from rfl,show((5:Int)==6)=false from rfl,show((5:Int)==5)=true from rfl,jT,jF,Zs,BX] at hv;obtain⟨_,_,_,_,_,_,h⟩:=hv;intro r hr;obtain⟨i,hi⟩:=YD hr;have:=CD h i r hi;simp only [CU,Zs,beq_iff_eq] at this;exact this.1
theorem FO{s:Str}:∀ {xs:List Str} {j:Nat},yS xs s j= -1\/((j:Int)<=yS xs s j/\yS xs s j<(j:Int)+xs.length)
 | [],j=> .inl rfl
 |x::r,j=>by
  simp only [yS,jC];cases (x==s)
  ·simp only [jF];rcases FO (s:=s) (xs:=r) (j:=j+1) with h|⟨h1,h2⟩
   ·exact .inl h
   ·exact .inr ⟨by omega,by omega⟩
  ·simp only [jT];exact .inr ⟨by omega,by omega⟩
theorem xMD{N:Nat}{xs:List Str}{s:Str}(hl:xs.length<=9223372036854775807)(hn:xs.length<N):KA N xs s=some (yS xs s 0):=
 zG (L:=fun n i _=>D0 N n xs s i) xs (fun l q=>yS l s q) (fun i q=>q=i) (fun n q _=>by simp [D0,yS])
  (fun i x l q hd hi hx hq=>by
    have hi' :(i:Int)<(xs.length:Int):=by omega
    have hq:q=i:=hq;subst hq;cases h1:x==s
    ·refine .inl ⟨q+1,rfl,by simp only [yS,h1,jF],fun n=> ?_⟩;simp only [D0,Zz hi',jT,jI,yR hx,h1,jF,yU hi hl];rw [Zx (by omega)]
    ·refine .inr fun n=> ?_;simp only [D0,Zz hi',jT,jI,yR hx,h1];rw [Zx (by omega)];simp only [yS,h1,jT]) N 0 0 rfl (by omega) (by omega)
theorem B8{N:Nat}{v:Val}{s:Str}(hl:v.columns.length<=9223372036854775807)(hn:v.columns.length<N):zZ N v s=some (yS v.columns s 0):=by
 simp only [zZ,G7 hl hn,jS]
theorem BD{N:Nat}{v:Val}{s:Str}(hl:v.columns.length<=9223372036854775807)(hn:v.columns.length<N):Ac N v s=some (yS v.columns s 0):=by
 simp only [Ac,xMD hl hn,jS]
def pick(k:Int)(n:Int)(rs:List Rowd):List Rowd:=rs.filter fun r=>r.cells.getD k.toNat Di==n
theorem Fi{k n:Int}{r:Rowd}{rs:List Rowd}:pick k n (r::rs)=bif r.cells.getD k.toNat Di==n then r::pick k n rs else pick k n rs:=by
 unfold pick;rw [Xp];cases (r.cells.getD k.toNat Di==n) <;>rfl
theorem xIK{N K:Nat}{k:Int}{a v z:Val}(h:zE K (Rowd.Fit K) v.rows)(hK:K<=137438953472)(hN:K<N)(hk:0<=k)(hr:∀r∈v.rows,k<(r.cells.length:Int)):
 BO N N k v.rows v.rows.length 0 a z (.mk 5 0 0 [] [] v.columns [])=some (.mk 5 0 0 [] [] v.columns (pick k a.n v.rows),false):=by
 have hl:v.rows.length<=K:=h.1
 exact zG (L:=fun m i q=>BO N m k v.rows v.rows.length i a z (.mk 5 0 0 [] [] v.columns q)) v.rows (fun l q=>(Val.mk 5 0 0 [] [] v.columns (q++pick k a.n l),false)) (fun i q=>q.length<=i) (fun m q _=>by simp [BO,pick])
  (fun i x l q hd hi hx hq=>by
    have hq:q.length<=i:=hq;have hi' :(i:Int)<(v.rows.length:Int):=by omega
    have hm:=Zt hx;have hkx:=hr x hm;cases h1:(x.cells.getD k.toNat Di==a.n)
    ·refine .inl ⟨q,by show q.length<=i+1;omega,by rw [Fi,h1];rfl,fun m=> ?_⟩;simp only [BO,Zz hi',jT,jF,jI,yR hx,h1,yU hi (by omega:v.rows.length<=_)];rw [Zx (by omega),Zx (by omega)]
    ·refine .inl ⟨q++ [x],by show(q++ [x]).length<=i+1;simp;omega,by rw [Fi,h1];simp,fun m=> ?_⟩;simp only [BO,Zz hi',jT,jI,yR hx,h1,NJ (h.2 x hm) hK,jS,vk,vn,vs,vt,vl,vc,vr,yU hi (by omega:v.rows.length<=_)];rw [Zx (by omega),Zx (by omega),Zx (by simp only [jC,jN];unfold Lim;omega)]) N 0 [] (by simp) (by omega) (by omega)
theorem xOp{N K:Nat}{k:Int}{a v z:Val}(h:zE K (Rowd.Fit K) v.rows)(hK:K<=137438953472)(hN:K<N)(hk:0<=k)(hr:∀r∈v.rows,k<(r.cells.length:Int)):
 Bs N N k 0 a v z (.mk 5 0 0 [] [] v.columns [])=some (.mk 5 0 0 [] [] v.columns (pick k a.n v.rows)):=by
 have hl:v.rows.length<=K:=h.1
 exact zG (L:=fun m i q=>Bs N m k i a v z (.mk 5 0 0 [] [] v.columns q)) v.rows (fun l q=>Val.mk 5 0 0 [] [] v.columns (q++pick k a.n l)) (fun i q=>q.length<=i) (fun m q _=>by simp [Bs,pick])
  (fun i x l q hd hi hx hq=>by
    have hq:q.length<=i:=hq;have hi' :(i:Int)<(v.rows.length:Int):=by omega
    have hm:=Zt hx;have hkx:=hr x hm;cases h1:(x.cells.getD k.toNat Di==a.n)
    ·refine .inl ⟨q,by show q.length<=i+1;omega,by rw [Fi,h1];rfl,fun m=> ?_⟩;simp only [Bs,Zz hi',jT,jF,jI,yR hx,h1,yU hi (by omega:v.rows.length<=_)];rw [Zx (by omega),Zx (by omega)]
    ·refine .inl ⟨q++ [x],by show(q++ [x]).length<=i+1;simp;omega,by rw [Fi,h1];simp,fun m=> ?_⟩;simp only [Bs,Zz hi',jT,jI,yR hx,h1,KP (h.2 x hm) hK,jS,vk,vn,vs,vt,vl,vc,vr,yU hi (by omega:v.rows.length<=_)];rw [Zx (by omega),Zx (by omega),Zx (by simp only [jC,jN];unfold Lim;omega)]) N 0 [] (by simp) (by omega) (by omega)
def whG(a b v:Val):Val×Bool:=bif(yW [2,1,5] [a,b,v]).2.1 then((yW [2,1,5] [a,b,v]).1,(yW [2,1,5] [a,b,v]).2.2) else
 bif decide (yS v.columns a.text 0<0) then(yX 7,false) else(.mk 5 0 0 [] [] v.columns (pick (yS v.columns a.text 0) b.n v.rows),false)
theorem kb3{a b c:Val}{x y z:Int}(h:kb [a,b,c] [x,y,z]=false):a.kind=x/\b.kind=y/\c.kind=z:=by
 simp only [kb,ZS,bne_eq_false_iff_eq] at h;exact⟨h.1,h.2.1,h.2.2.1⟩
theorem By{K:Nat}{a b c:Val}(ha:a.Fit K)(hb:b.Fit K)(hc:c.Fit K):∀x∈ [a,b,c],x.Fit K:=fun x hx=>by
 simp only [Zl,ZT,or_false] at hx;rcases hx with rfl|rfl|rfl
 ·exact ha
 ·exact hb
 ·exact hc
theorem xPb{K:Nat}(hK:24<=K/\K<=137438953472){a b v:Val}(ha:a.Fit K)(hb:b.Fit K)(hv:v.Fit K):Big fun N=>EB N a b v=some (whG a b v)/\Ev N a b v=some (whG a b v).1:=by
 obtain⟨_,_,_,_,_,h6,h7⟩:=Val.fit_iff.1 hv;have hc:v.columns.length<=K:=h6.1;refine((Bi (by omega) (vs:=[a,b,v]) (ks:=[2,1,5]) (By ha hb hv) (by simp;omega) rfl).and (zM K)).imp fun N ⟨⟨h1,h2⟩,hN⟩=> ?_;obtain⟨e1,e2,e3,_⟩:=Ay (ks:=[2,1,5]) (By ha hb hv);have hlim:0+v.columns.length<=Lim:=by unfold Lim;omega
 have i1:=B8 (N:=N) (v:=v) (s:=a.text) (by omega) (by omega);have i2:=BD (N:=N) (v:=v) (s:=a.text) (by omega) (by omega);cases g1:(yW [2,1,5] [a,b,v]).2.1
 ·obtain⟨g2,g3⟩:=Bj g1;have hk5:=(kb3 g3).2.2;have hrows:=Bw (g2 v (by simp)) hk5;have htag:=Bk g1;by_cases hneg:yS v.columns a.text 0<0
  ·refine⟨?_,?_⟩
   ·simp only [EB,Val.re_eq,h1,jS,g1,htag,jF,i1,Zz hneg,jT,yT,whG];rfl
   ·simp only [Ev,Val.re_eq,h2,jS,g1,jF,i2,Zz hneg,jT,yV,whG];rfl
  ·have hr:∀r∈v.rows,yS v.columns a.text 0<(r.cells.length:Int):=fun r hr=>by
    rw [hrows r hr];rcases FO (s:=a.text) (xs:=v.columns) (j:=0) with h|⟨_,h⟩ <;>omega
   have l1:=xIK (a:=b) (z:=Val.mk 0 0 0 [] [] [] []) h7 hK.2 hN (by omega) hr;have l2:=xOp (a:=b) (z:=Val.mk 0 0 0 [] [] [] []) h7 hK.2 hN (by omega) hr;refine⟨?_,?_⟩
   ·simp only [EB,Val.re_eq,h1,jS,g1,htag,jF,i1,Zy hneg,Zx hlim,jM,l1,whG]
   ·simp only [Ev,Val.re_eq,h2,jS,g1,jF,i2,Zy hneg,Zx hlim,jM,l2,whG]
 ·refine⟨?_,?_⟩
  ·simp only [EB,Val.re_eq,h1,jS,e1,e2,e3,jE,ZE,A1 e1 e2 e3,g1,jT,whG];cases (yW [2,1,5] [a,b,v]).2.2 <;>rfl
  ·simp only [Ev,Val.re_eq,h2,jS,g1,jT,whG]
theorem xK2{k n:Int}{l:List Rowd}:(pick k n l).length<=l.length:=List.length_filter_le _ _
theorem OX{k n:Int}:∀ {l:List Rowd},((pick k n l).map zQ).sum<=(l.map zQ).sum
 | []=>by simp [pick]
 |x::l=>by
  have:=OX (k:=k) (n:=n) (l:=l);rw [Fi];cases (x.cells.getD k.toNat Di==n) <;>simp only [jT,jF,Zb,List.sum_cons] <;>omega
def Good1(K:Nat)(r:Val×Bool):Prop:=r.1.Fit K/\r.1.cnt<=100000000000/\(r.2=true->Flat r.1)
theorem Flat.good{r:Val×Bool}(h:Flat r.1):Good1 1048576 r:=⟨h.fit _,by rw [h.cnt];omega,fun _=>h⟩
theorem xPa{a b v:Val}(ha:a.Fit 1048576)(hb:b.Fit 1048576)(hv:v.Fit 1048576)(hc:v.cnt<=100000000000):Good1 1048576 (whG a b v):=by
 obtain⟨_,_,_,_,_,h6,h7⟩:=Val.fit_iff.1 hv;unfold whG;cases (yW [2,1,5] [a,b,v]).2.1
 ·cases decide (yS v.columns a.text 0<0)
  ·refine⟨Val.fit_iff.2 ⟨y7 (by show(-1000000:Int)<=5;omega) (by show(5:Int)<=1000000;omega),y7 (by show(-1000000:Int)<=0;omega) (by show(0:Int)<=1000000;omega),y7 (by show(-1000000:Int)<=0;omega) (by show(0:Int)<=1000000;omega),Z3 _,CT,h6,?_,fun r hr=>h7.2 r ((YP.1 hr).1)⟩,?_,fun h=>by cases h⟩
   ·exact Yu xK2 h7.1
   ·have:=OX (k:=yS v.columns a.text 0) (n:=b.n) (l:=v.rows);rw [Cg] at hc;show(Val.mk 5 0 0 [] [] v.columns (pick (yS v.columns a.text 0) b.n v.rows)).cnt<=_;rw [Cg,vl,vc,vr];simp only [ZD,List.sum_nil];omega
  ·exact Flat.good (zX (y7 (by omega) (by omega)))
 ·exact Flat.good (CP (By ha hb hv))
end Go.Ab
end
section
namespace Go.Ab
def B0(k:Int)(r:Rowd):Val:=y5 (r.cells.getD k.toNat Di)
theorem xH1{N K:Nat}{k:Int}{v z:Val}(hl:v.rows.length<=K)(hK:K<=137438953472)(hN:K<N)(hk:0<=k)(hr:∀r∈v.rows,k<(r.cells.length:Int)):
 CF N N k v.rows v.rows.length 0 z (.mk 3 0 0 [] [] [] [])=some (.mk 3 0 0 [] (v.rows.map (B0 k)) [] [],false):=
 zG (L:=fun m i q=>CF N m k v.rows v.rows.length i z (.mk 3 0 0 [] q [] [])) v.rows (fun l q=>(Val.mk 3 0 0 [] (q++l.map (B0 k)) [] [],false)) (fun i q=>q.length=i) (fun m q _=>by simp [CF])
  (fun i x l q hd hi hx hq=>by
    have hq:q.length=i:=hq;have hi' :(i:Int)<(v.rows.length:Int):=by omega
    have hkx:=hr x (Zt hx);refine .inl ⟨q++ [B0 k x],by simp [hq],by simp,fun m=> ?_⟩;simp only [CF,Zz hi',jT,jI,yR hx,AW,jS,Val.re_eq,vk,vn,vs,vt,vl,vc,vr,yU hi (by omega:v.rows.length<=_)];rw [Zx (by omega),Zx (by omega),Zx (by simp only [jC,jN];unfold Lim;omega)];rfl) N 0 [] rfl (by omega) (by omega)
theorem xNl{N K:Nat}{k:Int}{v z:Val}(hl:v.rows.length<=K)(hK:K<=137438953472)(hN:K<N)(hk:0<=k)(hr:∀r∈v.rows,k<(r.cells.length:Int)):
 DX N N k 0 v z (.mk 3 0 0 [] [] [] [])=some (.mk 3 0 0 [] (v.rows.map (B0 k)) [] []):=
 zG (L:=fun m i q=>DX N m k i v z (.mk 3 0 0 [] q [] [])) v.rows (fun l q=>Val.mk 3 0 0 [] (q++l.map (B0 k)) [] []) (fun i q=>q.length=i) (fun m q _=>by simp [DX])
  (fun i x l q hd hi hx hq=>by
    have hq:q.length=i:=hq;have hi' :(i:Int)<(v.rows.length:Int):=by omega
    have hkx:=hr x (Zt hx);refine .inl ⟨q++ [B0 k x],by simp [hq],by simp,fun m=> ?_⟩;simp only [DX,Zz hi',jT,jI,yR hx,AT,jS,Val.re_eq,vk,vn,vs,vt,vl,vc,vr,yU hi (by omega:v.rows.length<=_)];rw [Zx (by omega),Zx (by omega),Zx (by simp only [jC,jN];unfold Lim;omega)];rfl) N 0 [] rfl (by omega) (by omega)
def Ax(a v:Val):Val×Bool:=bif(yW [2,5] [a,v]).2.1 then((yW [2,5] [a,v]).1,(yW [2,5] [a,v]).2.2) else
 bif decide (yS v.columns a.text 0<0) then(yX 7,false) else bif decide ((v.rows.length:Int)>8) then(yX 6,false) else(.mk 3 0 0 [] (v.rows.map (B0 (yS v.columns a.text 0))) [] [],false)
theorem kb2{a b:Val}{x y:Int}(h:kb [a,b] [x,y]=false):a.kind=x/\b.kind=y:=by
 simp only [kb,ZS,bne_eq_false_iff_eq] at h;exact⟨h.1,h.2.1⟩
theorem BH{K:Nat}{a b:Val}(ha:a.Fit K)(hb:b.Fit K):∀x∈ [a,b],x.Fit K:=fun x hx=>by
 simp only [Zl,ZT,or_false] at hx;rcases hx with rfl|rfl
 ·exact ha
 ·exact hb
theorem xEo{K:Nat}(hK:24<=K/\K<=137438953472){a v:Val}(ha:a.Fit K)(hv:v.Fit K):Big fun N=>Dw N a v=some (Ax a v)/\Es N a v=some (Ax a v).1:=by
 obtain⟨_,_,_,_,_,h6,h7⟩:=Val.fit_iff.1 hv;have hc:v.columns.length<=K:=h6.1;refine((Bi (by omega) (vs:=[a,v]) (ks:=[2,5]) (BH ha hv) (by simp;omega) rfl).and (zM K)).imp fun N ⟨⟨h1,h2⟩,hN⟩=> ?_;obtain⟨e1,e2,e3,_⟩:=Ay (ks:=[2,5]) (BH ha hv);have i1:=B8 (N:=N) (v:=v) (s:=a.text) (by omega) (by omega);have i2:=BD (N:=N) (v:=v) (s:=a.text) (by omega) (by omega);cases g1:(yW [2,5] [a,v]).2.1
 ·obtain⟨g2,g3⟩:=Bj g1;have hrows:=Bw (g2 v (by simp)) (kb2 g3).2;have htag:=Bk g1;by_cases hneg:yS v.columns a.text 0<0
  ·refine⟨?_,?_⟩
   ·simp only [Dw,Val.re_eq,h1,jS,g1,htag,jF,i1,Zz hneg,jT,yT,Ax];rfl
   ·simp only [Es,Val.re_eq,h2,jS,g1,jF,i2,Zz hneg,jT,yV,Ax];rfl
  ·have hr:∀r∈v.rows,yS v.columns a.text 0<(r.cells.length:Int):=fun r hr=>by
    rw [hrows r hr];rcases FO (s:=a.text) (xs:=v.columns) (j:=0) with h|⟨_,h⟩ <;>omega
   have l1:=xH1 (z:=Val.mk 0 0 0 [] [] [] []) h7.1 hK.2 hN (by omega) hr;have l2:=xNl (z:=Val.mk 0 0 0 [] [] [] []) h7.1 hK.2 hN (by omega) hr;refine⟨?_,?_⟩
   ·simp only [Dw,Val.re_eq,h1,jS,g1,htag,jF,i1,Zy hneg,yT,l1,Ax];cases decide ((v.rows.length:Int)>8) <;>rfl
   ·simp only [Es,Val.re_eq,h2,jS,g1,jF,i2,Zy hneg,yV,l2,Ax];cases decide ((v.rows.length:Int)>8) <;>rfl
 ·refine⟨?_,?_⟩
  ·simp only [Dw,Val.re_eq,h1,jS,e1,e2,e3,jE,ZE,A1 e1 e2 e3,g1,jT,Ax];cases (yW [2,5] [a,v]).2.2 <;>rfl
  ·simp only [Es,Val.re_eq,h2,jS,g1,jT,Ax]
theorem LE{k:Int}{r:Rowd}{K:Nat}(h:r.Fit K):Flat (B0 k r):=by
 refine Cn ?_;rcases ZH k.toNat r.cells.length with hk|hk
 ·have:r.cells.getD k.toNat Di=r.cells[k.toNat]:=by simp [List.getD,hk]
  rw [this];exact h.1.2 _ (ZY hk)
 ·have:r.cells.getD k.toNat Di=0:=by simp [List.getD,ZN hk];rfl
  rw [this];exact y7 (by omega) (by omega)
theorem I7:∀ {l:List Val},(∀x∈l,x.cnt=4)->(l.map Val.cnt).sum=4*l.length
 | [],_=>rfl
 |x::l,h=>by
  have:=I7 fun y hy=>h y (Zr x hy);simp only [Zb,List.sum_cons,jC,h x Zp,this];omega
theorem H6{K:Nat}{l:List Val}(h:zE K (Val.Fit K) l):(Val.mk 3 0 0 [] l [] []).Fit K:=
 Val.fit_iff.2 ⟨y7 (by show(-1000000:Int)<=3;omega) (by show(3:Int)<=1000000;omega),y7 (by show(-1000000:Int)<=0;omega) (by show(0:Int)<=1000000;omega),y7 (by show(-1000000:Int)<=0;omega) (by show(0:Int)<=1000000;omega),Z3 _,h,CT,CT⟩
theorem H5(l:List Val):(Val.mk 3 0 0 [] l [] []).cnt=4+(l.map Val.cnt).sum:=by
 rw [Cg,vl,vc,vr];simp only [ZD,List.sum_nil];omega
theorem xEn{a v:Val}(ha:a.Fit 1048576)(hv:v.Fit 1048576):Good1 1048576 (Ax a v):=by
 obtain⟨_,_,_,_,_,h6,h7⟩:=Val.fit_iff.1 hv;have hr:v.rows.length<=1048576:=h7.1;unfold Ax;cases (yW [2,5] [a,v]).2.1
 ·cases decide (yS v.columns a.text 0<0)
  ·cases decide ((v.rows.length:Int)>8)
   ·refine⟨H6 ⟨by simpa using hr,fun x hx=> ?_⟩,?_,fun h=>by cases h⟩
    ·obtain⟨r,hr,rfl⟩:=Zh.1 hx;exact(LE (h7.2 r hr)).fit _
    ·show(Val.mk 3 0 0 [] (v.rows.map (B0 (yS v.columns a.text 0))) [] []).cnt<=_;rw [H5,I7 (fun x hx=>by obtain⟨r,hr,rfl⟩:=Zh.1 hx;exact(LE (h7.2 r hr)).cnt),Zq];omega
   ·exact Flat.good (zX (y7 (by omega) (by omega)))
  ·exact Flat.good (zX (y7 (by omega) (by omega)))
 ·exact Flat.good (CP (BH ha hv))
theorem xMY{N:Nat}{l:List Val}(hl:l.length<=137438953472)(hn:l.length<N)(hc:∀x∈l,D9 N x=some x):KF N l=some (.mk 3 0 0 [] l [] []):=
 zG (L:=fun m i q=>Eu N m l i (Val.mk 0 0 0 [] [] [] []) (Val.mk 3 0 0 [] q [] [])) l (fun r q=>Val.mk 3 0 0 [] (q++r) [] []) (fun i q=>q.length=i) (fun m q _=>by simp [Eu])
  (fun i x r q hd hi hx hq=>by
    have hq:q.length=i:=hq;have hi' :(i:Int)<(l.length:Int):=by omega
    refine .inl ⟨q++ [x],by simp [hq],by simp,fun m=> ?_⟩;simp only [Eu,Zz hi',jT,jI,yR hx,hc x (Zt hx),jS,Val.re_eq,vk,vn,vs,vt,vl,vc,vr,yU hi (by omega:l.length<=_)];rw [Zx (by omega),Zx (by simp only [jC,jN];unfold Lim;omega)]) N 0 [] rfl (by omega) (by omega)
end Go.Ab
end
section
namespace Go.Ab
def y6(c:UInt8):Str->Str->List Str
 |pre,[]=> [pre]
 |pre,b::l=>bif b==c then pre::y6 c [] l else y6 c (pre++ [b]) l
def FH(b:UInt8):List Str->List Str
 |h::t=>(b::h)::t
 | []=> []
theorem LG(c:UInt8):∀(l pre:Str),∃h t,y6 c [] l=h::t/\y6 c pre l=(pre++h)::t:=by
 intro l
 induction l with
 |nil=>intro pre;exact⟨[],[],rfl,by simp [y6]⟩
 |cons b l ih=>
  intro pre;cases hb:b==c
  ·obtain⟨h1,t1,e1,e2⟩:=ih (pre++ [b]);obtain⟨h2,t2,e3,e4⟩:=ih [b];rw [e1] at e3;obtain⟨rfl,rfl⟩:=List.cons.inj e3;refine⟨b::h1,t1,?_,?_⟩
   ·simp only [y6,hb,jF,jM,e4];rfl
   ·simp only [y6,hb,jF,e2];simp
  ·exact⟨[],y6 c [] l,by simp [y6,hb],by simp [y6,hb]⟩
theorem xEr{c b:UInt8}(h:(b==c)=false)(l:Str):y6 c [] (b::l)=FH b (y6 c [] l):=by
 obtain⟨h1,t1,e1,e2⟩:=LG c l [b];simp only [y6,h,jF,jM,e2,e1,FH];rfl
theorem xIN(c:UInt8)(l:Str):Lib.index (c::l) [c]=0:=by simp [Lib.index,List.isPrefixOf]
theorem xIO{b c:UInt8}(h:(b==c)=false)(l:Str):Lib.index (b::l) [c]=if Lib.index l [c]== -1 then -1 else Lib.index l [c]+1:=by
 have h2:(c==b)=false:=by simp at h ⊢;exact fun e=>h e.symm
 simp [Lib.index,List.isPrefixOf,h2]
theorem xOq{b c:UInt8}(h:(b==c)=false)(l:Str):∀k,Lib.splitK [c] 0 k (b::l)=FH b (Lib.splitK [c] 0 k l)
 |0=>rfl
 |k+1=>by
  have h0:=Lib.index_ge l [c];unfold Lib.splitK;rw [xIO h];by_cases hi:Lib.index l [c]= -1
  ·simp [hi,FH]
  ·have e1:(Lib.index l [c]== -1)=false:=by simp [hi]
   have e2:(Lib.index l [c]+1== -1)=false:=by simp;omega
   have e3:(Lib.index l [c]+1).toNat=(Lib.index l [c]).toNat+1:=by omega
   simp only [e1,e2,e3,Yk,if_false,Nat.add_zero,List.length_singleton,FH,List.take_succ_cons];rw [show(Lib.index l [c]).toNat+1+1=((Lib.index l [c]).toNat+1)+1 from rfl,List.drop_succ_cons]
theorem xOr(c:UInt8):∀s:Str,Lib.split s [c]=y6 c [] s:=by
 intro s;unfold Lib.split;rw [Lib.count_one]
 induction s with
 |nil=>rfl
 |cons b l ih=>
  cases hb:b==c
  ·rw [List.count_cons_of_ne (by simpa using hb),xOq hb,ih,xEr hb]
  ·obtain rfl:b=c:=by simpa using hb
   rw [List.count_cons_self];unfold Lib.splitK;rw [xIN];simp [y6,ih]
theorem GN{c:UInt8}:∀ {l pre:Str},(y6 c pre l).length<=l.length+1
 | [],pre=>by simp [y6]
 |b::l,pre=>by
  simp only [y6];cases b==c
  ·simp only [jF];have:=GN (c:=c) (l:=l) (pre:=pre++ [b]);simp only [jC];omega
  ·simp only [jT,jC];have:=GN (c:=c) (l:=l) (pre:=[]);omega
theorem GO{c:UInt8}:∀ {l pre:Str},((y6 c pre l).map List.length).sum<=pre.length+l.length
 | [],pre=>by simp [y6]
 |b::l,pre=>by
  simp only [y6];cases b==c
  ·simp only [jF];have:=GO (c:=c) (l:=l) (pre:=pre++ [b]);simp only [jA,jC,jN] at this ⊢;omega
  ·simp only [jT,jC,Zb,List.sum_cons];have:=GO (c:=c) (l:=l) (pre:=[]);simp only [jN] at this;omega
theorem I8{c:UInt8}{l pre x:Str}(h:x∈y6 c pre l):x.length<=pre.length+l.length:=
 Yu (Hf (f:=List.length) h) GO
theorem xEs{c:UInt8}{l:Str}:y6 c [] l≠ []:=by
 obtain⟨h,t,e,_⟩:=LG c l [];rw [e];exact X0 _ _
end Go.Ab
end
section
open Go.IntKind (i64)
namespace Go.Ab
theorem xOu{N:Nat}{s:Str}{c:UInt8}(h:s.length<4294967281):IQ N s [c]=some (y6 c [] s):=by
 unfold IQ qJ;have e: [c].length=1:=rfl;rw [Zx e,Zx h,xOr]
theorem Mx{N:Nat}{s:Str}(h:s.length<4294967281):Cw N s 32=some (y6 32 [] s):=by
 have e:List.map (fun n:Int=>UInt8.ofNat (Int.toNat n)) [32]=[32]:=rfl;unfold Cw;rw [e,xOu h];rfl
theorem xAi{N K:Nat}{s:Str}(hl:s.length<=K)(hK:K<=137438953472)(hN:K+1<N):Fv N s 32=some (y6 32 [] s):=by
 have key:∀(l pre:Str) (q:List Str) (n i:Nat),s.drop i=l->i<=s.length->pre.length<=i->s.drop (i - pre.length)=pre++l->q.length<=i->l.length+1<n->
  Bp N n s 32 q ((i - pre.length:Nat):Int) (i:Nat)=some (q++y6 32 pre l):=by
  intro l
  induction l with
  |nil=>
   intro pre q n i hd hi hp hs hq hn;obtain⟨n,rfl⟩:∃m,n=m+1+1:=⟨n - 2,by simp at hn;omega⟩;have hi2:i=s.length:=by have:=An hd;omega
   subst hi2;have e1:¬((s.length+1:Nat):Int)<=(s.length:Int):=by omega
   have e2:List.drop (s.length - pre.length) (List.take s.length s)=pre:=by rw [ZI,hs];simp
   have e3:i64.wrap ((s.length:Int)+1)=((s.length+1:Nat):Int):=by rw [zL (by omega) (by omega)];omega
   have e4:(0:Int)<=((s.length - pre.length:Nat):Int)/\((s.length - pre.length:Nat):Int)<=(s.length:Int)/\(s.length:Int)<=(s.length:Int):=by omega
   have e5:List.length q+List.length [pre]<=Lim:=by simp only [jC,jN];unfold Lim;omega
   simp only [Bp,XY,decide_true,jT,Y6,jI,e2,e3,Zy e1,jF,Zx e5,y6];rw [Zx ⟨by omega,by omega,trivial⟩]
  |cons b l ih=>
   intro pre q n i hd hi hp hs hq hn;obtain⟨n,rfl⟩:∃m,n=m+1:=⟨n - 1,by simp at hn;omega⟩;obtain⟨h1,h2,h3⟩:=A0 hd;simp only [jC] at hn;have e0:(i:Int)<=(s.length:Int):=by omega
   have e1:((i:Int)==(s.length:Int))=false:=by simp;omega
   have e2:(0:Int)<=(i:Int)/\(i:Int)<(s.length:Int):=by omega
   have e3:i64.wrap ((i:Int)+1)=((i+1:Nat):Int):=yU h1 (by omega);have eb:((b.toNat:Int)==32)=(b==32):=by
    rcases Decidable.em (b=32) with rfl|hne
    ·rfl
    ·have h8:¬(b.toNat:Int)=32:=fun e=>hne (UInt8.toNat_inj.1 (by simpa using(by omega:b.toNat=32)));rw [ZX.2 h8,ZX.2 hne]
   have hdr:s.drop (i+1)=l:=h3;cases hb:b==32
   ·have:=ih (pre++ [b]) q n (i+1) hdr (by omega) (by simp;omega) (by simp only [jA,jC,jN,Ze,jO,jM];rw [show i+1 - (pre.length+(0+1))=i - pre.length from by omega];exact hs) (by omega) (by omega);simp only [jA,jC,jN] at this;rw [show i+1 - (pre.length+(0+1))=i - pre.length from by omega] at this;simp only [Bp,Zz e0,jT,e1,jF,Zx e2,jI,yR h2,eb,hb,e3,this,y6]
   ·have:=ih [] (q++ [pre]) n (i+1) hdr (by omega) (by simp) (by simp [hdr]) (by simp;omega) (by omega);have e6:List.drop (i - pre.length) (List.take i s)=pre:=by
     rw [List.drop_take,hs,show i - (i - pre.length)=pre.length from by omega];simp
    have e4:(0:Int)<=((i - pre.length:Nat):Int)/\((i - pre.length:Nat):Int)<=(i:Int)/\(i:Int)<=(s.length:Int):=by omega
    have e5:List.length q+List.length [pre]<=Lim:=by simp only [jC,jN];unfold Lim;omega
    simp only [jN,Nat.sub_zero] at this;simp only [Bp,Zz e0,jT,e1,jF,Zx e2,jI,yR h2,eb,hb,e3,e6,Zx e4,Zx e5,this,y6,Ze,jO,jM]
 have:=key s [] [] N 0 rfl (Z3 _) (Zg _) rfl (Zg _) (by omega);simpa [Fv] using this
def AI(y:Val):Bool:=y.kind==1
def AS(n:Nat)(x:Val):Bool:=x.kind==3&&(x.list.length==n&&x.list.all AI)
def E9(x:Val):Rowd:=⟨x.list.map Val.n,[]⟩
def A6(cs:List Str)(q:List Rowd)(l:List Val):Val:=bif l.all (AS cs.length) then .mk 5 0 0 [] [] cs (q++l.map E9) else yX 4
theorem xOj{N K:Nat}{x:Val}(hx:x.list.length<=K)(hK:K<=137438953472)(hN:K<N):
 ∃q,IN N x=some (q,x.list.all AI&&(x.kind==3))/\(x.list.all AI=true->q=x.list.map Val.n):=by
 have:=zG (L:=fun m i q=>Df N m q i x) x.list (fun l q=>(q++(l.takeWhile AI).map Val.n,l.all AI&&(x.kind==3))) (fun i q=>q.length=i) (fun m q _=>by simp [Df])
  (fun i y l q hd hi hy hq=>by
    have hq:q.length=i:=hq;have hi' :(i:Int)<(x.list.length:Int):=by omega
    cases hk:AI y
    ·refine .inr fun m=> ?_;have hk' :(y.kind != 1)=true:=by unfold AI at hk;simp only [bne,hk];rfl
     simp only [Df,Zz hi',jT,jI,yR hy,hk',Xh,hk,List.all_cons,ZQ,Yk,if_false,ZD,Zd];rw [Zx (by omega)]
    ·have hk' :(y.kind != 1)=false:=by unfold AI at hk;simp only [bne,hk];rfl
     refine .inl ⟨q++ [y.n],by simp [hq],by simp [Xh,hk],fun m=> ?_⟩;simp only [Df,Zz hi',jT,jI,yR hy,hk',jF,yU hi (by omega:x.list.length<=_)];rw [Zx (by omega),Zx (by simp only [jC,jN];unfold Lim;omega)]) N 0 [] rfl (by omega) (by omega)
 refine⟨(x.list.takeWhile AI).map Val.n,by simpa [IN] using this,fun h=> ?_⟩;have tw:∀l:List Val,l.all AI=true->l.takeWhile AI=l:=by
  intro l
  induction l with
  |nil=>intro _;rfl
  |cons y l ih=>
   intro h;simp only [List.all_cons,Zs] at h;rw [Xh,h.1,Zx rfl,ih h.2]
 rw [tw _ h]
theorem xOn{N K:Nat}{v z:Val}{cs:List Str}(hl:v.list.length<=K)(hv:∀x∈v.list,x.list.length<=K)(hK:K<=137438953472)(hN:K<N):
 Br N N 0 v z (.mk 5 0 0 [] [] cs [])=some (A6 cs [] v.list):=
 zG (L:=fun m i q=>Br N m i v z (.mk 5 0 0 [] [] cs q)) v.list (fun l q=>A6 cs q l) (fun i q=>q.length=i) (fun m q _=>by simp [Br,A6])
  (fun i x l q hd hi hx hq=>by
    have hq:q.length=i:=hq;have hi' :(i:Int)<(v.list.length:Int):=by omega
    obtain⟨qs,n1,n2⟩:=xOj (N:=N) (hv x (Zt hx)) hK hN;cases hk:(x.list.all AI&&(x.kind==3))
    ·rw [hk] at n1;refine .inr fun m=> ?_;have hr:AS cs.length x=false:=by
      unfold AS;cases h1:x.kind==3
      ·rfl
      ·rw [h1,Ye] at hk;rw [hk];simp
     simp only [Br,Zz hi',jT,jI,yR hx,n1,jS,jV,yV,A6,List.all_cons,hr,ZQ,jF];rw [Zx (by omega)];rfl
    ·rw [hk] at n1;simp only [Zs] at hk;have hqs:=n2 hk.1;have hlen:qs.length=x.list.length:=by rw [hqs,Zq]
     cases hc:(x.list.length==cs.length)
     ·refine .inr fun m=> ?_;have hr:AS cs.length x=false:=by unfold AS;rw [hc];simp
      have hc' :((qs.length:Int) != (cs.length:Int))=true:=by rw [hlen];simp at hc ⊢;omega
      simp only [Br,Zz hi',jT,jI,yR hx,n1,jS,jU,jF,vc,hc',yV,A6,List.all_cons,hr,ZQ];rw [Zx (by omega)];rfl
     ·have hr:AS cs.length x=true:=by unfold AS;rw [hc,hk.1,hk.2];rfl
      have hc' :((qs.length:Int) != (cs.length:Int))=false:=by rw [hlen];simp at hc ⊢;omega
      refine .inl ⟨q++ [E9 x],by simp [hq],by simp [A6,hr],fun m=> ?_⟩;simp only [Br,Zz hi',jT,jI,yR hx,n1,jS,jU,jF,vk,vn,vs,vt,vl,vc,vr,hc',yU hi (by omega:v.list.length<=_)];rw [Zx (by omega),Zx (by simp only [jC,jN];unfold Lim;omega),hqs];rfl) N 0 [] rfl (by omega) (by omega)
theorem xIC{N K:Nat}{k8:List Val->Int->Int->Val->Val->Option (Val×Bool)}{X:List Val}{L0 j:Int}{z b:Val}{l:List Val}(hl:l.length<=K)(hK:K<=137438953472)(hN:K<N)(hb:b.rows.length<=K):
 CI N k8 N X L0 j l l.length 0 z b (Rowd.mk [] [])=bif l.all AI then k8 X L0 (i64.wrap (j+1)) z (.mk b.kind b.n b.step b.text b.list b.columns (b.rows++ [⟨l.map Val.n,[]⟩])) else some (yX 4,false):=by
 have key:∀(n i:Nat) (q:List Int),q.length=i->i<=l.length->l.length<n+i->CI N k8 n X L0 j l l.length (i:Nat) z b (Rowd.mk q [])=bif(l.drop i).all AI then k8 X L0 (i64.wrap (j+1)) z (.mk b.kind b.n b.step b.text b.list b.columns (b.rows++ [⟨q++(l.drop i).map Val.n,[]⟩])) else some (yX 4,false):=by
  intro n
  induction n with
  |zero=>intro i q _ h1 h2;omega
  |succ n ih=>
   intro i q hq hi hn;cases hd:l.drop i with
   |nil=>
    have hi2:i=l.length:=by have:=An hd;omega
    subst hi2;simp only [CI,Z0,Z2,jF,List.all_nil,jT,ZD,Zd];rw [Zx (by simp only [jC,jN];unfold Lim;omega)]
   |cons y r=>
    obtain⟨h1,h2,h3⟩:=A0 hd;have hi' :(i:Int)<(l.length:Int):=by omega
    have:=ih (i+1) (q++ [y.n]) (by simp [hq]) (by omega) (by omega);rw [h3] at this;cases hk:AI y
    ·have hk' :(y.kind != 1)=true:=by unfold AI at hk;simp only [bne,hk];rfl
     simp only [CI,Zz hi',jT,jI,yR h2,hk',yT,jS,List.all_cons,hk,ZQ,jF];rw [Zx (by omega)];rfl
    ·have hk' :(y.kind != 1)=false:=by unfold AI at hk;simp only [bne,hk];rfl
     simp only [CI,Zz hi',jT,jI,yR h2,hk',jF,yU h1 (by omega:l.length<=_),List.all_cons,hk,ZF];rw [Zx (by omega),Zx (by simp only [jC,jN];unfold Lim;omega),this];simp
 have:=key N 0 [] rfl (Z3 _) (by omega);simpa using this
theorem xII{N K:Nat}{l:List Val}{z:Val}{cs:List Str}(hl:l.length<=K)(hv:∀x∈l,x.list.length<=K)(hK:K<=137438953472)(hN:K<N):
 Ar N N l l.length 0 z (.mk 5 0 0 [] [] cs [])=some (A6 cs [] l,false):=
 zG (L:=fun m i q=>Ar N m l l.length i z (.mk 5 0 0 [] [] cs q)) l (fun r q=>(A6 cs q r,false)) (fun i q=>q.length=i) (fun m q _=>by simp [Ar,A6])
  (fun i x r q hd hi hx hq=>by
    have hq:q.length=i:=hq;have hi' :(i:Int)<(l.length:Int):=by omega
    have inner:=fun m=>xIC (N:=N) (k8:=fun z0 z1 z2 z3 z4=>Ar N m z0 z1 z2 z3 z4) (X:=l) (L0:=l.length) (j:=(i:Nat)) (z:=z) (b:= .mk 5 0 0 [] [] cs q) (hv x (Zt hx)) hK hN (by rw [vr];omega);simp only [vk,vn,vs,vt,vl,vc,vr] at inner;cases h1:(x.kind==3)
    ·refine .inr fun m=> ?_;have h1' :(x.kind != 3)=true:=by simp only [bne,h1];rfl
     have hr:AS cs.length x=false:=by unfold AS;rw [h1];rfl
     simp only [Ar,Zz hi',jT,jI,yR hx,h1',yT,jS,A6,List.all_cons,hr,ZQ,jF];rw [Zx (by omega)];rfl
    ·have h1' :(x.kind != 3)=false:=by simp only [bne,h1];rfl
     cases h2:(x.list.length==cs.length)
     ·refine .inr fun m=> ?_;have h2' :((x.list.length:Int) != (cs.length:Int))=true:=by simp at h2 ⊢;omega
      have hr:AS cs.length x=false:=by unfold AS;rw [h2];simp
      simp only [Ar,Zz hi',jT,jI,yR hx,h1',jF,vc,h2',yT,jS,A6,List.all_cons,hr,ZQ];rw [Zx (by omega)];rfl
     ·have h2' :((x.list.length:Int) != (cs.length:Int))=false:=by simp at h2 ⊢;omega
      cases h3:x.list.all AI
      ·refine .inr fun m=> ?_;have hr:AS cs.length x=false:=by unfold AS;rw [h3];simp
       simp only [Ar,Zz hi',jT,jI,yR hx,h1',jF,vc,h2',inner,h3,A6,List.all_cons,hr,ZQ];rw [Zx (by omega)]
      ·have hr:AS cs.length x=true:=by unfold AS;rw [h1,h2,h3];rfl
       refine .inl ⟨q++ [E9 x],by simp [hq],by simp [A6,hr],fun m=> ?_⟩;simp only [Ar,Zz hi',jT,jI,yR hx,h1',jF,vc,h2',inner,h3,yU hi (by omega:l.length<=_)];rw [Zx (by omega)];rfl) N 0 [] rfl (by omega) (by omega)
def Bx(a v:Val):Val×Bool:=bif(yW [2,3] [a,v]).2.1 then((yW [2,3] [a,v]).1,(yW [2,3] [a,v]).2.2) else
 (bif !AJ (y6 32 [] a.text) then yX 7 else A6 (y6 32 [] a.text) [] v.list,false)
theorem xOQ{K:Nat}(hK:24<=K/\K<=4294967000){a v:Val}(ha:a.Fit K)(hv:v.Fit K):Big fun N=>FV N a v=some (Bx a v)/\Fx N a v=some (Bx a v).1:=by
 obtain⟨_,_,_,h5,_,_,_⟩:=Val.fit_iff.1 ha;obtain⟨_,_,_,_,h6,_,_⟩:=Val.fit_iff.1 hv;have ht:a.text.length<=K:=h5;refine((Bi (by omega) (vs:=[a,v]) (ks:=[2,3]) (BH ha hv) (by simp;omega) rfl).and (zM (K+1))).imp fun N ⟨⟨h1,h2⟩,hN⟩=> ?_;obtain⟨e1,e2,e3,_⟩:=Ay (ks:=[2,3]) (BH ha hv);have hfit:zE (K+1) (Str.Fit (K+1)) (y6 32 [] a.text):=⟨Yu GN (by omega),fun x hx=>by have:=I8 hx;simp only [jN] at this;show x.length<=_;omega⟩;have c1:=NF (N:=N) hfit (by omega) hN;have c2:=xAx (N:=N) hfit (by omega) hN;have s1:=Mx (N:=N) (s:=a.text) (by omega);have s2:=xAi (N:=N) (s:=a.text) ht (by omega) hN;have hvl:∀x∈v.list,x.list.length<=K:=fun x hx=>(Val.fit_iff.1 (h6.2 x hx)).2.2.2.2.1.1;have l1:=xII (N:=N) (z:=Val.mk 0 0 0 [] [] [] []) (cs:=y6 32 [] a.text) h6.1 hvl (by omega) (by omega);have l2:=xOn (N:=N) (v:=v) (z:=Val.mk 0 0 0 [] [] [] []) (cs:=y6 32 [] a.text) h6.1 hvl (by omega) (by omega);cases g1:(yW [2,3] [a,v]).2.1
 ·have htag:=Bk g1;refine⟨?_,?_⟩
  ·simp only [FV,Val.re_eq,h1,jS,g1,htag,jF,s1,c1,yT,l1,Bx];cases AJ (y6 32 [] a.text) <;>rfl
  ·simp only [Fx,Val.re_eq,h2,jS,g1,jF,s2,c2,yV,l2,Bx];cases AJ (y6 32 [] a.text) <;>rfl
 ·refine⟨?_,?_⟩
  ·simp only [FV,Val.re_eq,h1,jS,e1,e2,e3,jE,ZE,A1 e1 e2 e3,g1,jT,Bx];cases (yW [2,3] [a,v]).2.2 <;>rfl
  ·simp only [Fx,Val.re_eq,h2,jS,g1,jT,Bx]
theorem Bv{α:Type}{f:α->Nat}{l:List α}{a:Nat}(h:∀x∈l,f x<=a):(l.map f).sum<=a*l.length:=by
 have:=IR (f:=f) (g:=fun _=>0) (l:=l) (a:=a) (fun x hx=>by have:=h x hx;omega);have z:∀l:List α,(l.map fun _=>0).sum=0:=by
  intro l
  induction l with
  |nil=>rfl
  |cons x l ih=>simp only [Zb,List.sum_cons,ih]
 rw [z,Nat.add_zero] at this;exact this
theorem xEp{c:List Str}(h:AJ c=true):c.length<=4:=by
 unfold AJ at h;simp only [Zs,ZU] at h;omega
theorem IT{K:Nat}{cs:List Str}{rs:List Rowd}(hc:zE K (Str.Fit K) cs)(hr:zE K (Rowd.Fit K) rs):(Val.mk 5 0 0 [] [] cs rs).Fit K:=
 Val.fit_iff.2 ⟨y7 (by show(-1000000:Int)<=5;omega) (by show(5:Int)<=1000000;omega),y7 (by show(-1000000:Int)<=0;omega) (by show(0:Int)<=1000000;omega),y7 (by show(-1000000:Int)<=0;omega) (by show(0:Int)<=1000000;omega),Z3 _,CT,hc,hr⟩
theorem IS(cs:List Str)(rs:List Rowd):(Val.mk 5 0 0 [] [] cs rs).cnt=4+(cs.length+(rs.map zQ).sum):=by
 rw [Cg,vl,vc,vr,Aw];simp only [ZD,List.sum_nil];omega
theorem xOP{a v:Val}(ha:a.Fit 1048576)(hv:v.Fit 1048576):Good1 1048576 (Bx a v):=by
 obtain⟨_,_,_,h5,_,_,_⟩:=Val.fit_iff.1 ha;obtain⟨_,_,_,_,h6,_,_⟩:=Val.fit_iff.1 hv;have ht:a.text.length<=1048576:=h5;have hl:v.list.length<=1048576:=h6.1;unfold Bx;cases (yW [2,3] [a,v]).2.1
 ·cases hc:AJ (y6 32 [] a.text)
  ·exact Flat.good (zX (y7 (by omega) (by omega)))
  ·simp only [jF,jU];unfold A6;cases hr:v.list.all (AS (y6 32 [] a.text).length)
   ·exact Flat.good (zX (y7 (by omega) (by omega)))
   ·have h4:=xEp hc;have hrow:∀x∈v.list,x.list.length<=4:=fun x hx=>by
     have:=Zu.1 hr x hx;unfold AS at this;simp only [Zs,beq_iff_eq] at this;omega
    simp only [jT,jM];refine⟨IT ⟨by omega,fun x hx=>by have:=I8 hx;simp only [jN] at this;show x.length<=_;omega⟩ ⟨by simpa using hl,fun r hm=> ?_⟩,?_,fun h=>by cases h⟩
    ·obtain⟨x,hx,rfl⟩:=Zh.1 hm;have h7:=Val.fit_iff.1 (h6.2 x hx);refine⟨⟨by have:=hrow x hx;simp only [E9,Zq];omega,fun n hn=> ?_⟩,CT⟩;obtain⟨y,hy,rfl⟩:=Zh.1 hn;exact(Val.fit_iff.1 (h7.2.2.2.2.1.2 y hy)).2.1
    ·show(Val.mk 5 0 0 [] [] _ _).cnt<=_;rw [IS,Y4]
     have:=Bv (f:=zQ ∘ E9) (l:=v.list) (a:=4) (fun x hx=>by
      have:=hrow x hx;simp only [Function.comp,E9,zQ,Aw,Zq,ZD,List.sum_nil];omega)
     omega
 ·exact Flat.good (CP (BH ha hv))
end Go.Ab
end
section
open Go.IntKind (i64)
namespace Go.Ab
def atR(at_:List Int)(r:Rowd):Rowd:=⟨at_.map fun k=>r.cells.getD k.toNat Di,r.frm⟩
theorem xIq{N K:Nat}{k17:List Int->List Rowd->Int->Int->Val->Val->Option (Val×Bool)}{at_ x8:List Int}{X:List Rowd}{a1 a2:Int}{z b:Val}{r:Rowd}{f:List Org}(hl:at_.length<=K)(hK:K<=137438953472)(hN:K<N)(hb:b.rows.length<=K)
 (hr:∀k∈at_,0<=k/\k<(r.cells.length:Int)):
 Ct N k17 N x8 X a1 a2 at_ at_.length 0 z b r (Rowd.mk [] f)=k17 x8 X a1 (i64.wrap (a2+1)) z (.mk b.kind b.n b.step b.text b.list b.columns (b.rows++ [⟨at_.map fun k=>r.cells.getD k.toNat Di,f⟩])):=by
 have key:∀(n i:Nat) (q:List Int),q.length=i->i<=at_.length->at_.length<n+i->Ct N k17 n x8 X a1 a2 at_ at_.length (i:Nat) z b r (Rowd.mk q f)=
  k17 x8 X a1 (i64.wrap (a2+1)) z (.mk b.kind b.n b.step b.text b.list b.columns (b.rows++ [⟨q++(at_.drop i).map fun k=>r.cells.getD k.toNat Di,f⟩])):=by
  intro n
  induction n with
  |zero=>intro i q _ h1 h2;omega
  |succ n ih=>
   intro i q hq hi hn;cases hd:at_.drop i with
   |nil=>
    have hi2:i=at_.length:=by have:=An hd;omega
    subst hi2;simp only [Ct,Z0,Z2,jF,ZD,Zd];rw [Zx (by simp only [jC,jN];unfold Lim;omega)]
   |cons y l=>
    obtain⟨h1,h2,h3⟩:=A0 hd;have hi' :(i:Int)<(at_.length:Int):=by omega
    have hy:=hr y (Zt h2);have:=ih (i+1) (q++ [r.cells.getD y.toNat Di]) (by simp [hq]) (by omega) (by omega);rw [h3] at this;simp only [Ct,Zz hi',jT,jI,yR h2,yU h1 (by omega:at_.length<=_)];rw [Zx (by omega),Zx hy,Zx (by simp only [jC,jN];unfold Lim;omega),this];simp
 have:=key N 0 [] rfl (Z3 _) (by omega);simpa using this
theorem xNu{N K:Nat}{k12:List Str->Int->Val->Val->Val->Option Val}{cs:List Str}{j:Nat}{v z b:Val}{r:Rowd}{f:List Org}(hl:cs.length<=K)(hK:K<=137438953472)(hN:K<N)(hb:b.rows.length<=K)(hc:v.columns.length<=K)
 (hj:v.rows[j]? =some r) (hr:∀s∈cs,0<=yS v.columns s 0/\yS v.columns s 0<(r.cells.length:Int)):
 D3 N k12 N cs (j:Nat) 0 v z b (Rowd.mk [] f)=k12 cs (i64.wrap ((j:Nat)+1)) v z (.mk b.kind b.n b.step b.text b.list b.columns (b.rows++ [⟨cs.map fun s=>r.cells.getD (yS v.columns s 0).toNat Di,f⟩])):=by
 have hjl:=(Zv.1 hj).1
 have key:∀(n i:Nat) (q:List Int),q.length=i->i<=cs.length->cs.length<n+i->D3 N k12 n cs (j:Nat) (i:Nat) v z b (Rowd.mk q f)=
  k12 cs (i64.wrap ((j:Nat)+1)) v z (.mk b.kind b.n b.step b.text b.list b.columns (b.rows++ [⟨q++(cs.drop i).map fun s=>r.cells.getD (yS v.columns s 0).toNat Di,f⟩])):=by
  intro n
  induction n with
  |zero=>intro i q _ h1 h2;omega
  |succ n ih=>
   intro i q hq hi hn;cases hd:cs.drop i with
   |nil=>
    have hi2:i=cs.length:=by have:=An hd;omega
    subst hi2;simp only [D3,Z0,Z2,jF,ZD,Zd];rw [Zx (by simp only [jC,jN];unfold Lim;omega)]
   |cons y l=>
    obtain⟨h1,h2,h3⟩:=A0 hd;have hi' :(i:Int)<(cs.length:Int):=by omega
    have hy:=hr y (Zt h2);have:=ih (i+1) (q++ [r.cells.getD (yS v.columns y 0).toNat Di]) (by simp [hq]) (by omega) (by omega);rw [h3] at this;simp only [D3,Zz hi',jT,jI,yR h2,yR hj,yU h1 (by omega:cs.length<=_),BD (N:=N) (v:=v) (s:=y) (by omega) (by omega),jS];rw [Zx (by omega),Zx (by omega),Zx hy,Zx (by simp only [jC,jN];unfold Lim;omega),this];simp
 have:=key N 0 [] rfl (Z3 _) (by omega);simpa using this
theorem xIp{N K:Nat}{rs:List Rowd}{at_:List Int}{z:Val}{cs:List Str}(hl:rs.length<=K)(ha:at_.length<=K)(hK:K<=137438953472)(hN:K<N)(hf:∀r∈rs,r.frm.length<=K)(hr:∀r∈rs,∀k∈at_,0<=k/\k<(r.cells.length:Int)):
 Ba N N at_ rs rs.length 0 z (.mk 5 0 0 [] [] cs [])=some (.mk 5 0 0 [] [] cs (rs.map (atR at_)),false):=
 zG (L:=fun m i q=>Ba N m at_ rs rs.length i z (.mk 5 0 0 [] [] cs q)) rs (fun l q=>(Val.mk 5 0 0 [] [] cs (q++l.map (atR at_)),false)) (fun i q=>q.length=i) (fun m q _=>by simp [Ba])
  (fun i x l q hd hi hx hq=>by
    have hq:q.length=i:=hq;have hi' :(i:Int)<(rs.length:Int):=by omega
    have hm:=Zt hx;have hfx:=hf x hm;have inner:=fun m=>xIq (N:=N) (k17:=fun z0 z1 z2 z3 z4 z5=>Ba N m z0 z1 z2 z3 z4 z5) (at_:=at_) (x8:=at_) (X:=rs) (a1:=rs.length) (a2:=(i:Nat)) (z:=z) (b:= .mk 5 0 0 [] [] cs q) (r:=x) (f:=[]++x.frm) ha hK hN (by rw [vr];omega) (hr x hm);simp only [vk,vn,vs,vt,vl,vc,vr] at inner;refine .inl ⟨q++ [atR at_ x],by simp [hq],by simp,fun m=> ?_⟩;simp only [Ba,Zz hi',jT,jI,yR hx,inner,yU hi (by omega:rs.length<=_)];rw [Zx (by omega),Zx (by unfold Lim;omega)];rfl) N 0 [] rfl (by omega) (by omega)
theorem xNt{N K:Nat}{v z:Val}{cs:List Str}(hl:v.rows.length<=K)(ha:cs.length<=K)(hc:v.columns.length<=K)(hK:K<=137438953472)(hN:K<N)(hf:∀r∈v.rows,r.frm.length<=K)
 (hr:∀r∈v.rows,∀s∈cs,0<=yS v.columns s 0/\yS v.columns s 0<(r.cells.length:Int)):
 Bn N N cs 0 v z (.mk 5 0 0 [] [] cs [])=some (.mk 5 0 0 [] [] cs (v.rows.map (atR (cs.map fun s=>yS v.columns s 0)))):=
 zG (L:=fun m i q=>Bn N m cs i v z (.mk 5 0 0 [] [] cs q)) v.rows (fun l q=>Val.mk 5 0 0 [] [] cs (q++l.map (atR (cs.map fun s=>yS v.columns s 0)))) (fun i q=>q.length=i) (fun m q _=>by simp [Bn])
  (fun i x l q hd hi hx hq=>by
    have hq:q.length=i:=hq;have hi' :(i:Int)<(v.rows.length:Int):=by omega
    have hm:=Zt hx;have hfx:=hf x hm;have inner:=fun m=>xNu (N:=N) (k12:=fun z0 z1 z2 z3 z4=>Bn N m z0 z1 z2 z3 z4) (cs:=cs) (j:=i) (v:=v) (z:=z) (b:= .mk 5 0 0 [] [] cs q) (r:=x) (f:=[]++x.frm) ha hK hN (by rw [vr];omega) hc hx (hr x hm);simp only [vk,vn,vs,vt,vl,vc,vr] at inner;refine .inl ⟨q++ [atR (cs.map fun s=>yS v.columns s 0) x],by simp [hq],by simp,fun m=> ?_⟩;simp only [Bn,Zz hi',jT,jI,yR hx,inner,yU hi (by omega:v.rows.length<=_)];rw [Zx (by omega),Zx (by unfold Lim;omega)];simp only [atR,Y4,jM];rfl) N 0 [] rfl (by omega) (by omega)
def AF(cols:List Str)(s:Str):Bool:= !decide (yS cols s 0<0)
def BC(cs:List Str)(v:Val):Val:=bif cs.all (AF v.columns)&&AZ cs then .mk 5 0 0 [] [] cs (v.rows.map (atR (cs.map fun s=>yS v.columns s 0))) else yX 7
theorem xIo{N K:Nat}{v z:Val}{cs:List Str}(hl:cs.length<=K)(hc:v.columns.length<=K)(hK:K<=137438953472)(hN:K<N)
 (hb:∀at_,at_=cs.map (fun s=>yS v.columns s 0)->(∀s∈cs,AF v.columns s=true)->Ba N N at_ v.rows v.rows.length 0 z (.mk 5 0 0 [] [] cs [])=some (.mk 5 0 0 [] [] cs (v.rows.map (atR at_)),false)):
 Bb N N [] cs cs.length 0 v z (.mk 5 0 0 [] [] cs [])=some (BC cs v,false):=by
 have key:∀(n i:Nat) (q:List Int),q=(cs.take i).map (fun s=>yS v.columns s 0)->(∀s∈cs.take i,AF v.columns s=true)->i<=cs.length->cs.length<n+i->
  Bb N n q cs cs.length (i:Nat) v z (.mk 5 0 0 [] [] cs [])=some (BC cs v,false):=by
  intro n
  induction n with
  |zero=>intro i q _ _ h1 h2;omega
  |succ n ih=>
   intro i q hq hok hi hn;cases hd:cs.drop i with
   |nil=>
    have hi2:i=cs.length:=by have:=An hd;omega
    subst hi2;rw [ZI] at hq hok;have hall:cs.all (AF v.columns)=true:=Zu.2 hok;simp only [Bb,Z0,Z2,jF,vc,Ik (N:=N) (xs:=cs) (by omega) (by omega),jS,yT,hb q hq hok,BC,hall,ZF];subst hq;cases AZ cs <;>rfl
   |cons y l=>
    obtain⟨h1,h2,h3⟩:=A0 hd;have hi' :(i:Int)<(cs.length:Int):=by omega
    have htk:cs.take (i+1)=cs.take i++ [y]:=by rw [Xs,h2];rfl
    have hql:q.length<=K:=by rw [hq,Zq,ZR];omega
    by_cases hneg:yS v.columns y 0<0
    ·have hall:cs.all (AF v.columns)=false:=by
      rw [X6];exact⟨y,Zt h2,by simp [AF,hneg]⟩
     simp only [Bb,Zz hi',jT,jI,yR h2,B8 (N:=N) (v:=v) (s:=y) (by omega) (by omega),jS,Zz hneg,yT,BC,hall,ZQ,jF];rw [Zx (by omega)];rfl
    ·have hok' :∀s∈cs.take (i+1),AF v.columns s=true:=by
      rw [htk];intro s hs;rcases Z6.1 hs with hs|hs
      ·exact hok s hs
      ·obtain rfl:=Zf.1 hs;simp [AF,hneg]
     have:=ih (i+1) (q++ [yS v.columns y 0]) (by rw [htk,hq];simp) hok' (by omega) (by omega);simp only [Bb,Zz hi',jT,jI,yR h2,B8 (N:=N) (v:=v) (s:=y) (by omega) (by omega),jS,Zy hneg,jF,yU h1 (by omega:cs.length<=_)];rw [Zx (by omega),Zx (by simp only [jC,jN];unfold Lim;omega),this]
 exact key N 0 [] rfl (fun s hs=>by simp at hs) (Z3 _) (by omega)
theorem xNs{N K:Nat}{v z:Val}{cs:List Str}(hne:cs≠ [])(hl:cs.length<=K)(hc:v.columns.length<=K)(hK:K<=137438953472)(hN:K<N)
 (hb:(∀s∈cs,AF v.columns s=true)->Bn N N cs 0 v z (.mk 5 0 0 [] [] cs [])=some (.mk 5 0 0 [] [] cs (v.rows.map (atR (cs.map fun s=>yS v.columns s 0))))):
 Bo N N cs 0 v z (.mk 5 0 0 [] [] cs [])=some (BC cs v):=by
 have key:∀(n i:Nat),(∀s∈cs.take i,AF v.columns s=true)->(i=0\/AZ cs=true)->i<=cs.length->cs.length<n+i->
  Bo N n cs (i:Nat) v z (.mk 5 0 0 [] [] cs [])=some (BC cs v):=by
  intro n
  induction n with
  |zero=>intro i _ _ h1 h2;omega
  |succ n ih=>
   intro i hok hdi hi hn;cases hd:cs.drop i with
   |nil=>
    have hi2:i=cs.length:=by have:=An hd;omega
    subst hi2;rw [ZI] at hok;have hall:cs.all (AF v.columns)=true:=Zu.2 hok;have hdd:AZ cs=true:=by
     rcases hdi with h|h
     ·exact absurd (Z1.1 h) hne
     ·exact h
    simp only [Bo,Z0,Z2,jF,hb hok,BC,hall,hdd,ZF,jT]
   |cons y l=>
    obtain⟨h1,h2,h3⟩:=A0 hd;have hi' :(i:Int)<(cs.length:Int):=by omega
    have htk:cs.take (i+1)=cs.take i++ [y]:=by rw [Xs,h2];rfl
    by_cases hneg:yS v.columns y 0<0
    ·have hall:cs.all (AF v.columns)=false:=by
      rw [X6];exact⟨y,Zt h2,by simp [AF,hneg]⟩
     simp only [Bo,Zz hi',jT,jI,yR h2,BD (N:=N) (v:=v) (s:=y) (by omega) (by omega),jS,Zz hneg,yV,BC,hall,ZQ,jF];rw [Zx (by omega)];rfl
    ·cases hdd:AZ cs
     ·simp only [Bo,Zz hi',jT,jI,yR h2,BD (N:=N) (v:=v) (s:=y) (by omega) (by omega),jS,Zy hneg,jF,Hs (N:=N) (xs:=cs) (by omega) (by omega),hdd,jV,yV,BC,Y5];rw [Zx (by omega)];rfl
     ·have hok' :∀s∈cs.take (i+1),AF v.columns s=true:=by
       rw [htk];intro s hs;rcases Z6.1 hs with hs|hs
       ·exact hok s hs
       ·obtain rfl:=Zf.1 hs;simp [AF,hneg]
      have:=ih (i+1) hok' (.inr hdd) (by omega) (by omega);simp only [Bo,Zz hi',jT,jI,yR h2,BD (N:=N) (v:=v) (s:=y) (by omega) (by omega),jS,Zy hneg,jF,Hs (N:=N) (xs:=cs) (by omega) (by omega),hdd,jU,yU h1 (by omega:cs.length<=_),this];rw [Zx (by omega)]
 exact key N 0 (fun s hs=>by simp at hs) (.inl rfl) (Z3 _) (by omega)
def Bh(a v:Val):Val×Bool:=bif(yW [2,5] [a,v]).2.1 then((yW [2,5] [a,v]).1,(yW [2,5] [a,v]).2.2) else(BC (y6 32 [] a.text) v,false)
theorem Mk{cols:List Str}{s:Str}(h:AF cols s=true):0<=yS cols s 0/\yS cols s 0<(cols.length:Int):=by
 have h0:¬yS cols s 0<0:=by simpa [AF] using h
 rcases FO (s:=s) (xs:=cols) (j:=0) with h|⟨_,h⟩ <;>omega
theorem xI2{K:Nat}(hK:24<=K/\K<=4294967000){a v:Val}(ha:a.Fit K)(hv:v.Fit K):Big fun N=>FT N a v=some (Bh a v)/\Ft N a v=some (Bh a v).1:=by
 obtain⟨_,_,_,h5,_,_,_⟩:=Val.fit_iff.1 ha;obtain⟨_,_,_,_,_,h6,h7⟩:=Val.fit_iff.1 hv;have ht:a.text.length<=K:=h5;have hcl:v.columns.length<=K:=h6.1;have hrl:v.rows.length<=K:=h7.1;refine((Bi (by omega) (vs:=[a,v]) (ks:=[2,5]) (BH ha hv) (by simp;omega) rfl).and (zM (K+1))).imp fun N ⟨⟨h1,h2⟩,hN⟩=> ?_;obtain⟨e1,e2,e3,_⟩:=Ay (ks:=[2,5]) (BH ha hv);have hlen:(y6 32 [] a.text).length<=K+1:=Yu GN (by omega);have s1:=Mx (N:=N) (s:=a.text) (by omega);have s2:=xAi (N:=N) (s:=a.text) ht (by omega) hN;cases g1:(yW [2,5] [a,v]).2.1
 ·have htag:=Bk g1;obtain⟨g2,g3⟩:=Bj g1;have hrows:=Bw (g2 v (by simp)) (kb2 g3).2;have hat:(∀s∈y6 32 [] a.text,AF v.columns s=true)->∀r∈v.rows,∀s∈y6 32 [] a.text,0<=yS v.columns s 0/\yS v.columns s 0<(r.cells.length:Int):=fun h r hr s hs=>by
   rw [hrows r hr];exact Mk (h s hs)
  have hfr:∀r∈v.rows,r.frm.length<=K+1:=fun r hr=>Yu (h7.2 r hr).2.1 (by omega)
  have l1:=xIo (N:=N) (K:=K+1) (v:=v) (z:=Val.mk 0 0 0 [] [] [] []) (cs:=y6 32 [] a.text) hlen (by omega) (by omega) hN (fun at_ e h=>xIp (K:=K+1) (by omega) (by rw [e,Zq];exact hlen) (by omega) hN hfr (fun r hr k hk=>by
   subst e;obtain⟨s,hs,rfl⟩:=Zh.1 hk;exact hat h r hr s hs))
  have l2:=xNs (N:=N) (K:=K+1) (v:=v) (z:=Val.mk 0 0 0 [] [] [] []) (cs:=y6 32 [] a.text) xEs hlen (by omega) (by omega) hN (fun h=>xNt (K:=K+1) (by omega) hlen (by omega) (by omega) hN hfr (hat h));refine⟨?_,?_⟩
  ·simp only [FT,Val.re_eq,h1,jS,g1,htag,jF,s1,l1,Bh]
  ·simp only [Ft,Val.re_eq,h2,jS,g1,jF,s2,l2,Bh]
 ·refine⟨?_,?_⟩
  ·simp only [FT,Val.re_eq,h1,jS,e1,e2,e3,jE,ZE,A1 e1 e2 e3,g1,jT,Bh];cases (yW [2,5] [a,v]).2.2 <;>rfl
  ·simp only [Ft,Val.re_eq,h2,jS,g1,jT,Bh]
theorem Cf{v:Val}(hv:y8 v=true)(hk:v.kind=5):AJ v.columns=true/\v.rows.length<=12:=by
 rw [BZ,hk] at hv;simp only [show((5:Int)==1)=false from rfl,show((5:Int)==2)=false from rfl,show((5:Int)==4)=false from rfl,show((5:Int)==6)=false from rfl,show((5:Int)==5)=true from rfl,jT,jF,Zs,BX,ZU] at hv;obtain⟨_,_,_,_,h1,h2,_⟩:=hv;exact⟨h1,h2⟩
theorem Mi{s:Str}:∀ {xs:List Str} {j:Nat},0<=yS xs s j->s∈xs
 | [],j,h=>by simp [yS] at h
 |x::r,j,h=>by
  simp only [yS] at h;cases hx:x==s
  ·rw [hx] at h;exact Zr _ (Mi h)
  ·rw [beq_iff_eq] at hx;subst hx;exact Zp
theorem xKv{l:List Str}(h:∀s∈l,1<=s.length):l.length<=(l.map List.length).sum:=by
 induction l with
 |nil=>exact Zg _
 |cons x l ih=>
  have h1:=h x Zp;have h2:=ih fun s hs=>h s (Zr _ hs);simp only [jC,Zb,List.sum_cons];omega
theorem xI1{a v:Val}(ha:a.Fit 1048576)(hv:v.Fit 1048576):Good1 1048576 (Bh a v):=by
 obtain⟨_,_,_,h5,_,_,_⟩:=Val.fit_iff.1 ha;obtain⟨_,_,_,_,_,h6,h7⟩:=Val.fit_iff.1 hv;have ht:a.text.length<=1048576:=h5;unfold Bh;cases g1:(yW [2,5] [a,v]).2.1
 ·obtain⟨g2,g3⟩:=Bj g1;obtain⟨hc,hr⟩:=Cf (g2 v (by simp)) (kb2 g3).2;simp only [jF];unfold BC;cases hk:((y6 32 [] a.text).all (AF v.columns)&&AZ (y6 32 [] a.text))
  ·exact Flat.good (zX (y7 (by omega) (by omega)))
  ·simp only [Zs] at hk;have hin:=Zu.1 hk.1;have hne:∀s∈y6 32 [] a.text,1<=s.length:=fun s hs=>by
    have hm:=Mi (Mk (hin s hs)).1;obtain⟨j,hj⟩:=YD hm;unfold AJ at hc;simp only [Zs] at hc;have:=CD hc.1 j s hj;unfold BI at this;simp only [Zs,ZU] at this;omega
   have hl:(y6 32 [] a.text).length<=1048576:=by
    have e1:=xKv hne;have e2:=GO (c:=32) (l:=a.text) (pre:=[]);simp only [jN] at e2;omega
   simp only [jT];refine⟨IT ⟨hl,fun x hx=>by have:=I8 hx;simp only [jN] at this;show x.length<=_;omega⟩ ⟨by simp only [Zq];omega,fun r hm=> ?_⟩,?_,fun h=>by cases h⟩
   ·obtain⟨x,hx,rfl⟩:=Zh.1 hm;have hx7:=h7.2 x hx;refine⟨⟨by simp only [atR,Zq];omega,fun n hn=> ?_⟩,hx7.2⟩;simp only [atR] at hn;obtain⟨k,_,rfl⟩:=Zh.1 hn;rcases ZH k.toNat x.cells.length with hk|hk
    ·have:x.cells.getD k.toNat Di=x.cells[k.toNat]:=by simp [List.getD,hk]
     rw [this];exact hx7.1.2 _ (ZY hk)
    ·have:x.cells.getD k.toNat Di=0:=by simp [List.getD,ZN hk];rfl
     rw [this];exact y7 (by omega) (by omega)
   ·show(Val.mk 5 0 0 [] [] _ _).cnt<=_;rw [IS,Y4]
    have:=Bv (f:=zQ ∘ atR ((y6 32 [] a.text).map fun s=>yS v.columns s 0)) (l:=v.rows) (a:=4000000) (fun x hx=>by
     have e1:x.frm.length<=1048576:=(h7.2 x hx).2.1;have e2:=Bv (f:=Af) (l:=x.frm) (a:=2) (fun _ _=>Zg _);simp only [Function.comp,atR,zQ,Aw,Zq];omega)
    omega
 ·exact Flat.good (CP (BH ha hv))
end Go.Ab
end
section
namespace Go.Ab
theorem Kh(a b:Org):CE a b=olt a b:=by
 unfold CE olt;cases decide (a.cell<b.cell) <;>cases (a.cell==b.cell) <;>rfl
def SO(l:List Org):Prop:=l.Pairwise fun x y=>olt x y=true
theorem H8{x y z:Org}(h:olt x y=true)(g:olt y z=true):olt x z=true:=BR.trans _ _ _ h g
theorem OK{x y:Org}(h:olt x y=true):olt y x=false:=by
 cases g:olt y x with
 |false=>rfl
 |true=>have:=H8 h g;rw [BR.irrefl] at this;cases this
theorem OM{x y:Org}(h:olt x y=true):x≠y:=by rintro rfl;rw [BR.irrefl] at h;cases h
theorem Ob:∀ {l m:List Org},SO l->SO m->(∀x,x∈l↔x∈m)->l=m
 | [],[],_,_,_=>rfl
 | [],y::m,_,_,h=>absurd ((h y).2 Zp) (by simp)
 |x::l,[],_,_,h=>absurd ((h x).1 Zp) (by simp)
 |x::l,y::m,hl,hm,h=>by
  unfold SO at hl hm;rw [ZV] at hl hm;have e:x=y:=by
   rcases Zl.1 ((h x).1 Zp) with e|h1
   ·exact e
   ·rcases Zl.1 ((h y).2 Zp) with e|h2
    ·exact e.symm
    ·have:=OK (hl.1 y h2);rw [hm.1 x h1] at this;cases this
  subst e;refine Zc (x:: ·) (Ob hl.2 hm.2 fun z=>⟨fun hz=> ?_,fun hz=> ?_⟩)
  ·rcases Zl.1 ((h z).1 (Zr _ hz)) with e|h1
   ·exact absurd e.symm (OM (hl.1 z hz))
   ·exact h1
  ·rcases Zl.1 ((h z).2 (Zr _ hz)) with e|h1
   ·exact absurd e.symm (OM (hm.1 z hz))
   ·exact h1
theorem xCG{xs:List Org}(h:Ci xs=true):SO xs:=by
 have adj:∀i (hi:i+1<xs.length),olt xs[i] xs[i+1]=true:=fun i hi=>by
  have:=CD h (i+1) xs[i+1] (Zw hi);simp only [FI,Zi,Zs,YO,ZU,Xd] at this;rcases this.2.2 with h0|h0
  ·omega
  ·rw [Kh,ZW,Zw (by omega)] at h0;exact h0
 have far:∀(m i:Nat) (hi:i+1+m<xs.length),olt (xs[i]'(by omega)) xs[i+1+m]=true:=by
  intro m
  induction m with
  |zero=>intro i hi;exact adj i hi
  |succ m ih=>intro i hi;exact H8 (ih i (by omega)) (adj (i+1+m) (by omega))
 unfold SO;rw [Xw];intro i j hi hj hij;have:=far (j - i - 1) i (by omega);simpa [show i+1+(j - i - 1)=j by omega] using this
theorem I9:∀(os acc:List Org),acc.Nodup->(os.foldl tF acc).Nodup/\∀x,x∈os.foldl tF acc↔x∈acc\/x∈os
 | [],acc,h=>⟨h,fun x=>by simp⟩
 |o::os,acc,h=>by
  rw [List.foldl_cons];have hs:(tF acc o).Nodup/\∀x,x∈tF acc o↔x∈acc\/x=o:=by
   unfold tF;by_cases hc:acc.contains o=true
   ·rw [Zx hc];have hm:o∈acc:=by simpa using hc
    exact⟨h,fun x=>⟨.inl,fun g=>g.elim id fun e=>e ▸ hm⟩⟩
   ·rw [Zj hc];have hm:o ∉ acc:=by simpa using hc
    refine⟨?_,fun x=>by simp⟩;rw [Yp];exact⟨h,by simp,fun a ha b hb=>by simp at hb;subst hb;rintro rfl;exact hm ha⟩
  obtain⟨i1,i2⟩:=I9 os (tF acc o) hs.1;refine⟨i1,fun x=> ?_⟩;rw [i2,hs.2];simp only [Zl];constructor
  ·rintro ((h|h) |h)
   ·exact .inl h
   ·exact .inr (.inl h)
   ·exact .inr (.inr h)
  ·rintro (h|h|h)
   ·exact .inl (.inl h)
   ·exact .inl (.inr h)
   ·exact .inr h
theorem Jf{a b:List Org}{x:Org}:x∈qV a b↔x∈a\/x∈b:=by
 unfold qV;rw [Xz];unfold ded;rw [(I9 (a++b) [] Xj).2 x];simp
theorem xAU(a b:List Org):SO (qV a b):=by
 have hs:(qV a b).Pairwise fun x y=>(!olt y x)=true:=XO (fun x y z h1 h2=>by
  simp only [Yg] at h1 h2 ⊢;exact BR.ntrans _ _ _ h2 h1) (fun x y=>by
  cases h1:olt y x with
  |false=>rfl
  |true=>rw [OK h1];rfl) _
 have hn:(qV a b).Nodup:=(Xg _ _).nodup_iff.2 (I9 (a++b) [] Xj).1;refine(hs.and hn).imp fun {x y} h=> ?_;cases h1:olt x y with
 |true=>rfl
 |false=>exact absurd (Ji x y h1 (by simpa using h.1)) h.2
theorem xAT(a b:List Org):(qV a b).length<=a.length+b.length:=by
 unfold qV;rw [YI];have:∀(os acc:List Org),(os.foldl tF acc).length<=acc.length+os.length:=by
  intro os
  induction os with
  |nil=>intro acc;simp
  |cons o os ih=>
   intro acc;rw [List.foldl_cons];refine Yu (ih _) ?_;unfold tF;split <;>simp <;>omega
 have:=this (a++b) [];simpa [ded] using this
def mrg:List Org->List Org->List Org
 | [],y=>y
 |a::x,[]=>a::x
 |a::x,b::y=>bif olt a b then a::mrg x (b::y) else bif olt b a then b::mrg (a::x) y else a::mrg x y
termination_by x y=>x.length+y.length
theorem OH(x:List Org):mrg x []=x:=by cases x <;>simp [mrg]
theorem xKI:∀(n:Nat) (x y:List Org),x.length+y.length<=n->SO x->SO y->SO (mrg x y)/\∀z,z∈mrg x y↔z∈x\/z∈y:=by
 intro n
 induction n with
 |zero=>
  intro x y h _ _;have e1:x=[]:=Z1.1 (by omega);have e2:y=[]:=Z1.1 (by omega);subst e1 e2;simp [mrg,SO]
 |succ n ih=>
  intro x y h hx hy;cases x with
  |nil=>rw [mrg];exact⟨hy,fun z=>by simp⟩
  |cons a x=>
   cases y with
   |nil=>rw [mrg];exact⟨hx,fun z=>by simp⟩
   |cons b y=>
    have hx' :SO x:=(ZV.1 hx).2;have hy' :SO y:=(ZV.1 hy).2;have hax:=(ZV.1 hx).1;have hby:=(ZV.1 hy).1;simp only [jC] at h;rw [mrg];cases h1:olt a b with
    |true=>
     obtain⟨i1,i2⟩:=ih x (b::y) (by simp;omega) hx' hy;rw [jT];refine⟨ZV.2 ⟨fun z hz=> ?_,i1⟩,fun z=> ?_⟩
     ·rcases(i2 z).1 hz with g|g
      ·exact hax z g
      ·rcases Zl.1 g with rfl|g
       ·exact h1
       ·exact H8 h1 (hby z g)
     ·rw [Zl,i2,Zl,Zl,or_assoc]
    |false=>
     rw [jF];cases h2:olt b a with
     |true=>
      obtain⟨i1,i2⟩:=ih (a::x) y (by simp;omega) hx hy';rw [jT];refine⟨ZV.2 ⟨fun z hz=> ?_,i1⟩,fun z=> ?_⟩
      ·rcases(i2 z).1 hz with g|g
       ·rcases Zl.1 g with rfl|g
        ·exact h2
        ·exact H8 h2 (hax z g)
       ·exact hby z g
      ·rw [Zl,i2,Zl (a:=z) (b:=b)];constructor
       ·rintro (h|h|h)
        ·exact .inr (.inl h)
        ·exact .inl h
        ·exact .inr (.inr h)
       ·rintro (h|h|h)
        ·exact .inr (.inl h)
        ·exact .inl h
        ·exact .inr (.inr h)
     |false=>
      have e:=Ji a b h1 h2;subst e;obtain⟨i1,i2⟩:=ih x y (by omega) hx' hy';rw [jF];refine⟨ZV.2 ⟨fun z hz=> ?_,i1⟩,fun z=> ?_⟩
      ·rcases(i2 z).1 hz with g|g
       ·exact hax z g
       ·exact hby z g
      ·rw [Zl,i2,Zl,Zl];constructor
       ·rintro (h|h|h)
        ·exact .inl (.inl h)
        ·exact .inl (.inr h)
        ·exact .inr (.inr h)
       ·rintro ((h|h) |h|h)
        ·exact .inl h
        ·exact .inr (.inl h)
        ·exact .inl h
        ·exact .inr (.inr h)
theorem OI{x y:List Org}(hx:SO x)(hy:SO y):mrg x y=qV x y:=by
 obtain⟨h1,h2⟩:=xKI _ x y (Zg _) hx hy;exact Ob h1 (xAU x y) fun z=>(h2 z).trans Jf.symm
theorem xI4{N:Nat}{x y:List Org}(hl:x.length+y.length<=137438953472):∀(n i j:Nat) (acc:List Org),i<=x.length->j<=y.length->(x.length - i)+(y.length - j)<n->acc.length<=i+j->
 AN N n x y acc (i:Int) (j:Int)=some (acc++mrg (x.drop i) (y.drop j)):=by
 intro n
 induction n with
 |zero=>intro i j acc _ _ h;omega
 |succ n ih=>
  intro i j acc hi hj hn hacc;have lim:∀(o:Org),List.length acc+List.length [o]<=Lim:=fun o=>by simp only [jC,jN];unfold Lim;omega
  have sx:∀a,x.drop i=a::x.drop (i+1)->i<x.length->AN N n x y (acc++ [a]) (IntKind.i64.wrap ((i:Int)+1)) (j:Int)=some (acc++a::mrg (x.drop (i+1)) (y.drop j)):=by
   intro a _ hlt;rw [wn (i+1) (by omega) (by omega),ih (i+1) j (acc++ [a]) hlt hj (by omega) (by simp;omega)];simp
  have sy:∀b,y.drop j=b::y.drop (j+1)->j<y.length->AN N n x y (acc++ [b]) (i:Int) (IntKind.i64.wrap ((j:Int)+1))=some (acc++b::mrg (x.drop i) (y.drop (j+1))):=by
   intro b _ hlt;rw [wn (j+1) (by omega) (by omega),ih i (j+1) (acc++ [b]) hi hlt (by omega) (by simp;omega)];simp
  by_cases h1:i<x.length
  ·have d1:(decide ((i:Int)<(x.length:Int)))=true:=Zz (by omega);have ex:x.drop i=x[i]::x.drop (i+1):=Yz h1;have gx:x.getD (Int.toNat (i:Int)) Do=x[i]:=by rw [jI];exact yR (Zw h1) _
   by_cases h2:j<y.length
   ·have ey:y.drop j=y[j]::y.drop (j+1):=Yz h2;have gy:y.getD (Int.toNat (j:Int)) Do=y[j]:=by rw [jI];exact yR (Zw h2) _
    have e2:((j:Int)==(y.length:Int))=false:=ZX.2 (by omega);have e3:((i:Int)==(x.length:Int))=false:=ZX.2 (by omega);have n1:(0:Int)<=i/\(i:Int)<(x.length:Int):=by omega
    have n2:(0:Int)<=j/\(j:Int)<(y.length:Int):=by omega
    simp only [AN,d1,e2,e3,jT,jF,Zx n1,Zx n2,gx,gy,KJ,jS,Kh,Zx (lim _)];rw [ex,ey,mrg];cases h3:olt x[i] y[j] with
    |true=>rw [jT,jT,sx _ ex h1,ey]
    |false=>
     rw [jF,jF];cases h4:olt y[j] x[i] with
     |true=>rw [jT,jT,sy _ ey h2,ex]
     |false=>
      rw [jF,jF,wn (i+1) (by omega) (by omega),wn (j+1) (by omega) (by omega),ih (i+1) (j+1) (acc++ [x[i]]) (by omega) (by omega) (by omega) (by simp;omega)];simp
   ·have ej:j=y.length:=by omega
    have e2:((j:Int)==(y.length:Int))=true:=by rw [ej];simp
    have n1:(0:Int)<=i/\(i:Int)<(x.length:Int):=by omega
    simp only [AN,d1,e2,jT,Zx n1,gx,Zx (lim _)];rw [sx _ ex h1,ej,Yl,OH,OH,ex]
  ·have ei:i=x.length:=by omega
   have d1:(decide ((i:Int)<(x.length:Int)))=false:=Zy (by omega);by_cases h2:j<y.length
   ·have ey:y.drop j=y[j]::y.drop (j+1):=Yz h2;have gy:y.getD (Int.toNat (j:Int)) Do=y[j]:=by rw [jI];exact yR (Zw h2) _
    have d2:(decide ((j:Int)<(y.length:Int)))=true:=Zz (by omega);have e2:((j:Int)==(y.length:Int))=false:=ZX.2 (by omega);have e3:((i:Int)==(x.length:Int))=true:=by rw [ei];simp
    have n2:(0:Int)<=j/\(j:Int)<(y.length:Int):=by omega
    simp only [AN,d1,d2,e2,e3,jT,jF,Zx n2,gy,Zx (lim _)];rw [sy _ ey h2,ei,Yl,mrg,mrg,ey]
   ·have ej:j=y.length:=by omega
    have d2:(decide ((j:Int)<(y.length:Int)))=false:=Zy (by omega);simp only [AN,d1,d2,jF];rw [ei,ej,Yl,Yl,mrg];simp
theorem xAI{N:Nat}{x y:List Org}(hx:SO x)(hy:SO y)(hl:x.length+y.length<=137438953472)(hN:x.length+y.length<N):GA N x y=some (qV x y):=by
 unfold GA;rw [<-OI hx hy];exact xI4 hl N 0 0 [] (Z3 _) (Z3 _) (by omega) (Z3 _)
theorem xHP{N:Nat}{x y:List Org}(hl:x.length+y.length<=1000000000000):Gk N x y=some (qV x y):=by
 unfold Gk zAt;rw [Zx hl]
end Go.Ab
end
section
open Go.IntKind (i64)
namespace Go.Ab
def Ak(k:Nat)(r t:Rowd):Rowd:=⟨(r.cells++t.cells.take k)++t.cells.drop (k+1),qV r.frm t.frm⟩
def jr(i k:Nat)(r:Rowd):List Rowd->List Rowd
 | []=> []
 |t::ts=>bif r.cells.getD i Di==t.cells.getD k Di then Ak k r t::jr i k r ts else jr i k r ts
def jrs(i k:Nat)(ts:List Rowd):List Rowd->List Rowd
 | []=> []
 |r::rs=>jr i k r ts++jrs i k ts rs
theorem JH{i k:Nat}{r:Rowd}:∀ {ts:List Rowd},(jr i k r ts).length<=ts.length
 | []=>Zg _
 |t::ts=>by
  have:=JH (i:=i) (k:=k) (r:=r) (ts:=ts);unfold jr;cases (r.cells.getD i Di==t.cells.getD k Di) <;>simp <;>omega
def CC(K k:Nat)(ts:List Rowd):Prop:=∀t∈ts,k<t.cells.length/\t.cells.length<=K/\t.frm.length<=K
theorem xIn{N K:Nat}{k13:Int->Int->List Rowd->Int->Int->Val->Val->Val->Option (Val×Bool)}{i k:Nat}{X:List Rowd}{a1 a2:Int}{ts:List Rowd}{v z:Val}{cs:List Str}{r:Rowd}(hK:K<=4294967296)(hN:K<N)(hl:ts.length<=K)
 (hr:i<r.cells.length/\r.cells.length<=K/\r.frm.length<=K) (ht:CC K k ts):∀(n j:Nat) (q:List Rowd),q.length+(ts.length - j)<=8589934592->j<=ts.length->ts.length<n+j->
 Cs N k13 n (i:Int) (k:Int) X a1 a2 ts (ts.length:Int) (j:Int) v z (.mk 5 0 0 [] [] cs q) r=k13 (i:Int) (k:Int) X a1 (i64.wrap (a2+1)) v z (.mk 5 0 0 [] [] cs (q++jr i k r (ts.drop j))):=by
 intro n
 induction n with
 |zero=>intro j q _ h1 h2;omega
 |succ n ih=>
  intro j q hq hj hn;cases hd:ts.drop j with
  |nil=>
   have hj2:j=ts.length:=by have:=An hd;omega
   subst hj2;simp only [Cs,Z0,Z2,jF,jr,Zd]
  |cons t l=>
   obtain⟨h1,h2,h3⟩:=A0 hd;have hj' :(j:Int)<(ts.length:Int):=by omega
   obtain⟨t1,t2,t3⟩:=ht t (Zt h2);have w:i64.wrap ((k:Int)+1)=((k+1:Nat):Int):=wn _ (by omega) (by omega);have g:(List.getD r.cells i Di != List.getD t.cells k Di)= !(List.getD r.cells i Di==List.getD t.cells k Di):=rfl;simp only [Cs,Zz hj',jT,jI,yR h2,yU h1 (by omega:ts.length<=_),w,jr,jM,Zi,g,vk,vn,vs,vt,vl,vc,vr];rw [Zx (by omega),Zx (by omega),Zx (by omega)];cases (List.getD r.cells i Di==List.getD t.cells k Di) with
   |false=>
    have:=ih (j+1) q (by omega) (by omega) (by omega);rw [h3] at this;simp only [jV,jT,jF];exact this
   |true=>
    have:=ih (j+1) (q++ [Ak k r t]) (by simp;omega) (by omega) (by omega);rw [h3] at this;simp only [jU,jF,jT,xHP (N:=N) (x:=r.frm) (y:=t.frm) (by omega),jS];rw [Zx (by unfold Lim;omega),Zx (by omega),Zx (by simp only [ZR];unfold Lim;omega),Zx (by omega),Zx (by simp only [jA,ZR,Ym];unfold Lim;omega),Zx (by simp only [jC,jN];unfold Lim;omega)];rw [show(q++Ak k r t::jr i k r l)=(q++ [Ak k r t])++jr i k r l by simp];exact this
def CN(cs:List Str)(rows:List Rowd):Val:=bif decide ((rows.length:Int)>12) then yX 6 else .mk 5 0 0 [] [] cs rows
theorem xIm{N K:Nat}{i k:Nat}{rs:List Rowd}{v z:Val}{cs:List Str}(hK:K<=4294967296)(hN:K<N)(hK24:24<=K)(hrs:rs.length<=12)(hts:v.rows.length<=12)(hr:CC K i rs)(ht:CC K k v.rows):
 B9 N N (i:Int) (k:Int) rs (rs.length:Int) 0 v z (.mk 5 0 0 [] [] cs [])=some (CN cs (jrs i k v.rows rs),false):=
 zG (L:=fun m j q=>B9 N m (i:Int) (k:Int) rs (rs.length:Int) j v z (.mk 5 0 0 [] [] cs q)) rs (fun l q=>(CN cs (q++jrs i k v.rows l),false)) (fun j q=>q.length<=12*j)
  (fun m q _=>by
    simp only [B9,Z0,Z2,jF,jrs,Zd,CN,yT,jS];show(bif decide ((q.length:Int)>12) then some (yX 6,false) else some (Val.mk 5 0 0 [] [] cs q,false))=some (bif decide ((q.length:Int)>12) then yX 6 else Val.mk 5 0 0 [] [] cs q,false);rcases ZH 12 q.length with h|h
    ·simp only [show ∀inst:Decidable ((q.length:Int)>12),@decide _ inst=true from fun inst=>Zz (by omega),jT]
    ·simp only [show ∀inst:Decidable ((q.length:Int)>12),@decide _ inst=false from fun inst=>Zy (by omega),jF])
  (fun j x l q hd hj hx hq=>by
    have hq:q.length<=12*j:=hq;have hj' :(j:Int)<(rs.length:Int):=by omega
    have inner:=fun m=>xIn (N:=N) (k13:=fun z0 z1 z2 z3 z4 z5 z6 z7=>B9 N m z0 z1 z2 z3 z4 z5 z6 z7) (i:=i) (k:=k) (X:=rs) (a1:=rs.length) (a2:=(j:Nat)) (ts:=v.rows) (v:=v) (z:=z) (cs:=cs) (r:=x) hK hN (by omega) (hr x (Zt hx)) ht N 0 q (by omega) (Z3 _) (by omega);refine .inl ⟨q++jr i k x v.rows,by have:=JH (i:=i) (k:=k) (r:=x) (ts:=v.rows);simp only [jA];omega,by simp [jrs],fun m=> ?_⟩;have:=inner m;simp only [B9,Zz hj',jT,jI,yR hx];rw [Zx (by omega)];rw [show((0:Nat):Int)=0 from rfl,Xy] at this;rw [this,yU hj (by omega:rs.length<=_)]) N 0 [] (by simp) (by omega) (by omega)
theorem xOk{N K k:Nat}{r t:Rowd}(hK:K<=4294967296)(hN:2*K<N)(hr:r.cells.length<=K/\r.frm.length<=K)(ht:k<t.cells.length/\t.cells.length<=K/\t.frm.length<=K)(h1:SO r.frm)(h2:SO t.frm):
 IP N r t (k:Int)=some (Ak k r t):=by
 have w:i64.wrap ((k:Int)+1)=((k+1:Nat):Int):=wn _ (by omega) (by omega);simp only [IP,w,jI,jM,Zi,xAI (N:=N) h1 h2 (by omega) (by omega),jS];rw [Zx (by unfold Lim;omega),Zx (by omega),Zx (by simp only [ZR];unfold Lim;omega),Zx (by omega),Zx (by simp only [jA,ZR,Ym];unfold Lim;omega)]
 rfl
theorem xNr{N K:Nat}{k15:Int->Int->Int->Val->Val->Val->Val->Option Val}{i k:Nat}{j0:Nat}{u v z:Val}{cs:List Str}{r:Rowd}(hK:K<=4294967296)(hN:2*K<N)(hl:v.rows.length<=K)(hj0:u.rows[j0]? =some r)
 (hr:i<r.cells.length/\r.cells.length<=K/\r.frm.length<=K) (ht:CC K k v.rows) (s1:SO r.frm) (s2:∀t∈v.rows,SO t.frm):∀(n j:Nat) (q:List Rowd),q.length+(v.rows.length - j)<=8589934592->j<=v.rows.length->v.rows.length<n+j->
 D2 N k15 n (i:Int) (k:Int) (j0:Int) (j:Int) u v z (.mk 5 0 0 [] [] cs q)=k15 (i:Int) (k:Int) (i64.wrap ((j0:Int)+1)) u v z (.mk 5 0 0 [] [] cs (q++jr i k r (v.rows.drop j))):=by
 have hj0l:=(Zv.1 hj0).1;intro n
 induction n with
 |zero=>intro j q _ h1 h2;omega
 |succ n ih=>
  intro j q hq hj hn;cases hd:v.rows.drop j with
  |nil=>
   have hj2:j=v.rows.length:=by have:=An hd;omega
   subst hj2;simp only [D2,Z0,Z2,jF,jr,Zd]
  |cons t l=>
   obtain⟨h1,h2,h3⟩:=A0 hd;have hj' :(j:Int)<(v.rows.length:Int):=by omega
   have hm:=Zt h2;obtain⟨t1,t2,t3⟩:=ht t hm;simp only [D2,Zz hj',jT,jI,yR h2,yR hj0,yU h1 (by omega:v.rows.length<=_),jr,vk,vn,vs,vt,vl,vc,vr];rw [Zx (by omega),Zx (by omega),Zx (by omega),Zx (by omega)];cases (List.getD r.cells i Di==List.getD t.cells k Di) with
   |false=>
    have:=ih (j+1) q (by omega) (by omega) (by omega);rw [h3] at this;simp only [jF];exact this
   |true=>
    have:=ih (j+1) (q++ [Ak k r t]) (by simp;omega) (by omega) (by omega);rw [h3] at this;simp only [jT,xOk (N:=N) (k:=k) hK hN ⟨hr.2.1,hr.2.2⟩ ⟨t1,t2,t3⟩ s1 (s2 t hm),jS];rw [Zx (by simp only [jC,jN];unfold Lim;omega)];rw [show(q++Ak k r t::jr i k r l)=(q++ [Ak k r t])++jr i k r l by simp];exact this
theorem xNq{N K:Nat}{i k:Nat}{u v z:Val}{cs:List Str}(hK:K<=4294967296)(hN:2*K<N)(hK24:24<=K)(hrs:u.rows.length<=12)(hts:v.rows.length<=12)(hr:CC K i u.rows)(ht:CC K k v.rows)(s1:∀t∈u.rows,SO t.frm)(s2:∀t∈v.rows,SO t.frm):
 C8 N N (i:Int) (k:Int) 0 u v z (.mk 5 0 0 [] [] cs [])=some (CN cs (jrs i k v.rows u.rows)):=
 zG (L:=fun m j q=>C8 N m (i:Int) (k:Int) j u v z (.mk 5 0 0 [] [] cs q)) u.rows (fun l q=>CN cs (q++jrs i k v.rows l)) (fun j q=>q.length<=12*j)
  (fun m q _=>by
    simp only [C8,Z0,Z2,jF,jrs,Zd,CN,yV,jS];show(bif decide ((q.length:Int)>12) then some (yX 6) else some (Val.mk 5 0 0 [] [] cs q))=some (bif decide ((q.length:Int)>12) then yX 6 else Val.mk 5 0 0 [] [] cs q);rcases ZH 12 q.length with h|h
    ·simp only [show ∀inst:Decidable ((q.length:Int)>12),@decide _ inst=true from fun inst=>Zz (by omega),jT]
    ·simp only [show ∀inst:Decidable ((q.length:Int)>12),@decide _ inst=false from fun inst=>Zy (by omega),jF])
  (fun j x l q hd hj hx hq=>by
    have hq:q.length<=12*j:=hq;have hj' :(j:Int)<(u.rows.length:Int):=by omega
    have hm:=Zt hx;have inner:=fun m=>xNr (N:=N) (k15:=fun z0 z1 z2 z3 z4 z5 z6=>C8 N m z0 z1 z2 z3 z4 z5 z6) (i:=i) (k:=k) (j0:=j) (u:=u) (v:=v) (z:=z) (cs:=cs) (r:=x) hK hN (by omega) hx (hr x hm) ht (s1 x hm) s2 N 0 q (by omega) (Z3 _) (by omega);refine .inl ⟨q++jr i k x v.rows,by have:=JH (i:=i) (k:=k) (r:=x) (ts:=v.rows);simp only [jA];omega,by simp [jrs],fun m=> ?_⟩;have:=inner m;simp only [C8,Zz hj',jT];rw [show((0:Nat):Int)=0 from rfl,Xy] at this;rw [this,yU hj (by omega:u.rows.length<=_)]) N 0 [] (by simp) (by omega) (by omega)
theorem Dq{s:Str}:∀ {xs:List Str} {j:Nat},(yS xs s j= -1/\s ∉ xs)\/∃k,k<xs.length/\yS xs s j=((j+k:Nat):Int)/\xs[k]? =some s/\s ∉ xs.take k
 | [],j=> .inl ⟨rfl,by simp⟩
 |x::r,j=>by
  simp only [yS];cases hx:x==s
  ·have hne:s≠x:=by intro e;subst e;simp at hx
   rcases Dq (s:=s) (xs:=r) (j:=j+1) with ⟨h1,h2⟩|⟨k,h1,h2,h3,h4⟩
   ·exact .inl ⟨h1,by simp [hne,h2]⟩
   ·refine .inr ⟨k+1,by simp;omega,by simp only [jF,h2];omega,by simpa using h3,by simp [hne,h4]⟩
  ·rw [beq_iff_eq] at hx;subst hx;exact .inr ⟨0,by simp,by simp,by simp,by simp⟩
theorem xEw{xs:List Str}(h:AZ xs=true):xs.Nodup:=by
 rw [List.nodup_iff_pairwise_ne,Xw];intro i j hi hj hij e;have:=CD h j xs[j] (Zw hj);simp only [Dk,Zi,Yg,List.any_eq_false,beq_iff_eq] at this;refine this xs[i] ?_ e;rw [List.mem_take_iff_getElem];exact⟨i,by omega,rfl⟩
theorem xPe{xs:List Str}{s:Str}{k:Nat}(hd:xs.Nodup)(hk:xs[k]? =some s):xs.filter (fun x=>x != s)=xs.take k++xs.drop (k+1):=by
 obtain⟨hlt,e⟩:=Zv.1 hk;have hsplit:xs=xs.take k++s::xs.drop (k+1):=by
  conv=>lhs;rw [<-YJ k xs,Yz hlt,e]
 have hn:=hd;rw [hsplit,Yp] at hn;obtain⟨_,h2,h3⟩:=hn;rw [Yf] at h2;have f1:(xs.take k).filter (fun x=>x != s)=xs.take k:=List.filter_eq_self.2 fun a ha=>by
  have:=h3 a ha s Zp;simpa using this
 have f2:(xs.drop (k+1)).filter (fun x=>x != s)=xs.drop (k+1):=List.filter_eq_self.2 fun a ha=>by
  have:a≠s:=by rintro rfl;exact h2.1 ha
  simpa using this
 conv=>lhs;rw [hsplit]
 rw [List.filter_append,f1,Xp,f2];simp
theorem xHX{N K:Nat}{cols:List Str}{s:Str}(hl:cols.length<=K)(hK:K<=4294967296)(hN:K<N)(hK1:1<=K):FW N cols [s]=some (cols.filter fun x=>x != s):=by
 have:=zG (L:=fun m i q=>CJ N m [s] q cols (cols.length:Int) i) cols (fun l q=>q++l.filter fun x=>x != s) (fun i q=>q.length<=i) (fun m q _=>by simp [CJ])
  (fun i x l q hd hi hx hq=>by
    have hq:q.length<=i:=hq;have hi' :(i:Int)<(cols.length:Int):=by omega
    have e:yS [s] x 0=bif s==x then 0 else -1:=by simp only [yS];cases (s==x) <;>rfl
    cases h1:s==x
    ·refine .inl ⟨q++ [x],by simp;omega,?_,fun m=> ?_⟩
     ·have:(x != s)=true:=by rw [bne,Yg];rw [ZX] at h1 ⊢;exact fun e=>h1 e.symm
      rw [Xp,this];simp
     ·simp only [CJ,Zz hi',jT,jI,yR hx,G7 (N:=N) (xs:=[s]) (s:=x) (by simp) (by simp;omega),jS,e,h1,jF,yU hi (by omega:cols.length<=_)];rw [Zx (by omega),Zx (by simp only [jC,jN];unfold Lim;omega)];rfl
    ·refine .inl ⟨q,by show q.length<=i+1;omega,?_,fun m=> ?_⟩
     ·have:(x != s)=false:=by rw [beq_iff_eq] at h1;subst h1;simp
      rw [Xp,this];simp
     ·simp only [CJ,Zz hi',jT,jI,yR hx,G7 (N:=N) (xs:=[s]) (s:=x) (by simp) (by simp;omega),jS,e,h1,yU hi (by omega:cols.length<=_)];rw [Zx (by omega)];rfl) N 0 [] (Zg _) (Z3 _) (by omega)
 simpa [FW] using this
def CO(i k:Int)(u v:Val):Val:=bif decide (i<0) then yX 7 else bif decide (k<0) then yX 7 else
 bif !AZ (u.columns++(v.columns.take k.toNat++v.columns.drop (k.toNat+1))) then yX 7 else
 bif decide (((u.columns++(v.columns.take k.toNat++v.columns.drop (k.toNat+1))).length:Int)>4) then yX 6 else
 CN (u.columns++(v.columns.take k.toNat++v.columns.drop (k.toNat+1))) (jrs i.toNat k.toNat v.rows u.rows)
def Ai(a u v:Val):Val×Bool:=bif(yW [2,5,5] [a,u,v]).2.1 then((yW [2,5,5] [a,u,v]).1,(yW [2,5,5] [a,u,v]).2.2) else(CO (yS u.columns a.text 0) (yS v.columns a.text 0) u v,false)
theorem KV{v:Val}(hv:y8 v=true)(hk:v.kind=5):∀r∈v.rows,SO r.frm:=by
 rw [BZ,hk] at hv;simp only [show((5:Int)==1)=false from rfl,show((5:Int)==2)=false from rfl,show((5:Int)==4)=false from rfl,show((5:Int)==6)=false from rfl,show((5:Int)==5)=true from rfl,jT,jF,Zs,BX] at hv;obtain⟨_,_,_,_,_,_,h⟩:=hv;intro r hr;obtain⟨i,hi⟩:=YD hr;have:=CD h i r hi;simp only [CU,Zs,beq_iff_eq] at this;exact xCG this.2.2
theorem xEq{v:Val}(hv:y8 v=true)(hk:v.kind=5):AZ v.columns=true:=by
 have:=(Cf hv hk).1;unfold AJ at this;simp only [Zs] at this;exact this.2.2
theorem xI0{K:Nat}(hK:24<=K/\K<=1073741824){a u v:Val}(ha:a.Fit K)(hu:u.Fit K)(hv:v.Fit K):Big fun N=>Cr N a u v=some (Ai a u v)/\D1 N a u v=some (Ai a u v).1:=by
 obtain⟨_,_,_,_,_,u6,u7⟩:=Val.fit_iff.1 hu;obtain⟨_,_,_,_,_,v6,v7⟩:=Val.fit_iff.1 hv;have huc:u.columns.length<=K:=u6.1;have hvc:v.columns.length<=K:=v6.1;refine((Bi (by omega) (vs:=[a,u,v]) (ks:=[2,5,5]) (By ha hu hv) (by simp;omega) rfl).and (zM (2*K))).imp fun N ⟨⟨h1,h2⟩,hN⟩=> ?_;obtain⟨e1,e2,e3,_⟩:=Ay (ks:=[2,5,5]) (By ha hu hv);have i1:=B8 (N:=N) (v:=u) (s:=a.text) (by omega) (by omega);have i2:=B8 (N:=N) (v:=v) (s:=a.text) (by omega) (by omega);have j1:=BD (N:=N) (v:=u) (s:=a.text) (by omega) (by omega);have j2:=BD (N:=N) (v:=v) (s:=a.text) (by omega) (by omega);have w1:=xHX (N:=N) (K:=K) (cols:=v.columns) (s:=a.text) hvc (by omega) (by omega) (by omega);have hfl:(v.columns.filter fun x=>x != a.text).length<=K:=Yu (List.length_filter_le _ _) hvc;cases g1:(yW [2,5,5] [a,u,v]).2.1
 ·obtain⟨g2,g3⟩:=Bj g1;obtain⟨_,hk1,hk2⟩:=kb3 g3;have htag:=Bk g1;have ou:=Cf (g2 u (by simp)) hk1;have ov:=Cf (g2 v (by simp)) hk2;have ru:=Bw (g2 u (by simp)) hk1;have rv:=Bw (g2 v (by simp)) hk2;have su:=KV (g2 u (by simp)) hk1;have sv:=KV (g2 v (by simp)) hk2;have dv:=xEw (xEq (g2 v (by simp)) hk2);have il:0+u.columns.length<=Lim:=by unfold Lim;omega
  have il2:([]++u.columns).length+(v.columns.filter fun x=>x != a.text).length<=Lim:=by simp only [jM];unfold Lim;omega
  rcases Dq (s:=a.text) (xs:=u.columns) (j:=0) with ⟨hi,_⟩|⟨i,hi1,hi,_,_⟩
  ·have hneg:yS u.columns a.text 0<0:=by omega
   refine⟨?_,?_⟩
   ·simp only [Cr,Val.re_eq,h1,jS,g1,htag,jF,i1,i2,w1,Zx il,Zx il2,Zz hneg,jT,yT,Ai,CO];rfl
   ·simp only [D1,Val.re_eq,h2,jS,g1,jF,j1,j2,Zz hneg,jT,yV,Ai,CO];rfl
  ·rw [Zi] at hi;have hni:¬(i:Int)<0:=by omega
   rcases Dq (s:=a.text) (xs:=v.columns) (j:=0) with ⟨hk,_⟩|⟨k,hk1',hk,hks,_⟩
   ·have hneg:yS v.columns a.text 0<0:=by omega
    refine⟨?_,?_⟩
    ·simp only [Cr,Val.re_eq,h1,jS,g1,htag,jF,i1,i2,w1,Zx il,Zx il2,hi,Zy hni,Zz hneg,jT,yT,Ai,CO];rfl
    ·simp only [D1,Val.re_eq,h2,jS,g1,jF,j1,j2,hi,Zy hni,Zz hneg,jT,yV,Ai,CO];rfl
   ·rw [Zi] at hk;have hnk:¬(k:Int)<0:=by omega
    have hwo:=xPe dv hks;rw [hwo] at w1 il2;have il3:u.columns.length+(v.columns.take k++v.columns.drop (k+1)).length<=Lim:=by simpa using il2
    have w:i64.wrap ((k:Int)+1)=((k+1:Nat):Int):=wn _ (by omega) (by omega);have c1:(0:Int)<=(k:Int)/\(k:Int)<=(v.columns.length:Int):=by omega
    have c2:u.columns.length+(v.columns.take k).length<=Lim:=by simp only [ZR];unfold Lim;omega
    have c3:(0:Int)<=((k+1:Nat):Int)/\((k+1:Nat):Int)<=(v.columns.length:Int):=by omega
    have c4:(u.columns++v.columns.take k).length+(v.columns.drop (k+1)).length<=Lim:=by simp only [jA,ZR,Ym];unfold Lim;omega
    generalize hcs:u.columns++(v.columns.take k++v.columns.drop (k+1))=cs;have hcs2:(u.columns++v.columns.take k)++v.columns.drop (k+1)=cs:=by rw [<-hcs,Ze]
    have hcl:cs.length<=2*K:=by rw [<-hcs];simp only [jA,ZR,Ym];omega
    have hRu:CC K i u.rows:=fun t ht=>by
     have:=u7.2 t ht;have e:=ru t ht;exact⟨by omega,by omega,this.2.1⟩
    have hRv:CC K k v.rows:=fun t ht=>by
     have:=v7.2 t ht;have e:=rv t ht;exact⟨by omega,by omega,this.2.1⟩
    have l1:=xIm (N:=N) (K:=K) (i:=i) (k:=k) (rs:=u.rows) (v:=v) (z:=Val.mk 0 0 0 [] [] [] []) (cs:=cs) (by omega) (by omega) hK.1 ou.2 ov.2 hRu hRv;have l2:=xNq (N:=N) (K:=K) (i:=i) (k:=k) (u:=u) (v:=v) (z:=Val.mk 0 0 0 [] [] [] []) (cs:=cs) (by omega) hN hK.1 ou.2 ov.2 hRu hRv su sv;have d1:=Ik (N:=N) (xs:=cs) (by omega) (by omega);have d2:=Hs (N:=N) (xs:=cs) (by omega) (by omega);refine⟨?_,?_⟩
    ·simp only [Cr,Val.re_eq,h1,jS,g1,htag,jF,i1,i2,w1,Zx il,hi,hk,Zy hni,Zy hnk,yT,Ai,CO,jM,Zx il3,jI,hcs,d1,l1];cases AZ cs
     ·rfl
     ·simp only [jU,jF];rcases ZH 4 cs.length with h|h
      ·simp only [show ∀inst:Decidable ((cs.length:Int)>4),@decide _ inst=true from fun inst=>Zz (by omega),jT];rfl
      ·simp only [show ∀inst:Decidable ((cs.length:Int)>4),@decide _ inst=false from fun inst=>Zy (by omega),jF]
    ·simp only [D1,Val.re_eq,h2,jS,g1,jF,j1,j2,Zx il,hi,hk,Zy hni,Zy hnk,yV,Ai,CO,jM,jI,w,Zx c1,Zx c2,Zx c3,Zx c4,hcs,hcs2,d2,l2];cases AZ cs
     ·rfl
     ·simp only [jU,jF];rcases ZH 4 cs.length with h|h
      ·simp only [show ∀inst:Decidable ((cs.length:Int)>4),@decide _ inst=true from fun inst=>Zz (by omega),jT];rfl
      ·simp only [show ∀inst:Decidable ((cs.length:Int)>4),@decide _ inst=false from fun inst=>Zy (by omega),jF]
 ·refine⟨?_,?_⟩
  ·simp only [Cr,Val.re_eq,h1,jS,e1,e2,e3,jE,ZE,A1 e1 e2 e3,g1,jT,Ai];cases (yW [2,5,5] [a,u,v]).2.2 <;>rfl
  ·simp only [D1,Val.re_eq,h2,jS,g1,jT,Ai]
end Go.Ab
end
section
namespace Go.Ab
def SI(l:List Int):Prop:=l.Pairwise fun x y=>x<y
def BB(x:Int):List Int->List Int
 | []=> [x]
 |y::l=>if y=x then y::l else if x<y then x::y::l else y::BB x l
theorem Je{x z:Int}:∀ {l:List Int},z∈BB x l↔z=x\/z∈l
 | []=>by simp [BB]
 |y::l=>by
  unfold BB;split
  ·rename_i h;subst h;simp
  ·split
   ·simp
   ·rw [Zl,Je,Zl];constructor
    ·rintro (h|h|h)
     ·exact .inr (.inl h)
     ·exact .inl h
     ·exact .inr (.inr h)
    ·rintro (h|h|h)
     ·exact .inr (.inl h)
     ·exact .inl h
     ·exact .inr (.inr h)
theorem O8{x:Int}:∀ {l:List Int},SI l->SI (BB x l)
 | [],_=>by simp [BB,SI]
 |y::l,h=>by
  have h' :=ZV.1 h;unfold BB;split
  ·exact h
  ·rename_i hne;split
   ·rename_i hlt;refine ZV.2 ⟨fun z hz=> ?_,h⟩;rcases Zl.1 hz with rfl|hz
    ·exact hlt
    ·exact Int.lt_trans hlt (h'.1 z hz)
   ·rename_i hge;refine ZV.2 ⟨fun z hz=> ?_,O8 h'.2⟩;rcases Je.1 hz with rfl|hz
    ·omega
    ·exact h'.1 z hz
theorem O9:∀ {l m:List Int},SI l->SI m->(∀x,x∈l↔x∈m)->l=m
 | [],[],_,_,_=>rfl
 | [],y::m,_,_,h=>absurd ((h y).2 Zp) (by simp)
 |x::l,[],_,_,h=>absurd ((h x).1 Zp) (by simp)
 |x::l,y::m,hl,hm,h=>by
  have hl' :=ZV.1 hl;have hm' :=ZV.1 hm;have e:x=y:=by
   rcases Zl.1 ((h x).1 Zp) with e|h1
   ·exact e
   ·rcases Zl.1 ((h y).2 Zp) with e|h2
    ·exact e.symm
    ·have:=hl'.1 y h2;have:=hm'.1 x h1;omega
  subst e;refine Zc (x:: ·) (O9 hl'.2 hm'.2 fun z=>⟨fun hz=> ?_,fun hz=> ?_⟩)
  ·rcases Zl.1 ((h z).1 (Zr _ hz)) with e|h1
   ·have:=hl'.1 z hz;omega
   ·exact h1
  ·rcases Zl.1 ((h z).2 (Zr _ hz)) with e|h1
   ·have:=hm'.1 z hz;omega
   ·exact h1
theorem Fj(i:Nat)(rs:List Rowd)(r:Rowd):uK i (rs++ [r])=if gO i r∈uK i rs then uK i rs else uK i rs++ [gO i r]:=by
 unfold uK;rw [Ya]
 rfl
theorem Jo(i k:Nat)(rs:List Rowd)(r:Rowd)(y:Int):oN i k (rs++ [r]) y=if gO i r=y then IntKind.i64.wrap (oN i k rs y+gO k r) else oN i k rs y:=by
 simp only [oN,Ya,List.foldl_cons,List.foldl_nil]
theorem E5(i:Nat)(rs:List Rowd)(r:Rowd)(y:Int):uJ i (rs++ [r]) y=if gO i r=y then qV (uJ i rs y) r.frm else uJ i rs y:=by
 simp only [uJ,Ya,List.foldl_cons,List.foldl_nil]
theorem DO{α:Type}{p:List α->Prop}(h0:p [])(h1:∀l a,p l->p (l++ [a])):∀(n:Nat) (l:List α),l.length=n->p l:=by
 intro n
 induction n with
 |zero=>intro l h;rw [Z1.1 h];exact h0
 |succ n ih=>
  intro l h;have e:l=l.take n++ [l[n]'(by omega)]:=by rw [<-Yq (by omega)];exact(Xm (by omega)).symm
  rw [e];exact h1 _ _ (ih _ (by rw [ZR];omega))
theorem xLa(i:Nat)(rs:List Rowd):(uK i rs).Nodup:=by
 refine DO (p:=fun rs=>(uK i rs).Nodup) Xj (fun l r h=> ?_) _ rs rfl;rw [Fj];split
 ·exact h
 ·rename_i hn;rw [Yp];exact⟨h,by simp,fun a ha b hb=>by simp at hb;subst hb;rintro rfl;exact hn ha⟩
theorem xLb{i:Nat}{x:Int}(k:Nat)(rs:List Rowd):x ∉ uK i rs->oN i k rs x=0/\uJ i rs x=[]:=by
 refine DO (p:=fun rs=>x ∉ uK i rs->oN i k rs x=0/\uJ i rs x=[]) (fun _=>⟨rfl,rfl⟩) (fun l r h hx=> ?_) _ rs rfl;rw [Fj] at hx;have hx2:x ∉ uK i l/\gO i r≠x:=by
  split at hx
  ·rename_i hm;exact⟨hx,fun e=>hx (e ▸ hm)⟩
  ·rw [Z6] at hx;exact⟨fun h=>hx (.inl h),fun e=>hx (.inr (by simp [e]))⟩
 rw [Jo,E5,Zj hx2.2,Zj hx2.2];exact h hx2.1
theorem Ha(i:Nat)(rs:List Rowd):SI (oM i rs):=by
 have h1:(oM i rs).Pairwise fun x y=>decide (x<=y)=true:=XO (fun x y z h1 h2=>by simp at h1 h2 ⊢;omega) (fun x y=>by simp;omega) _;have h2:(oM i rs).Nodup:=(Xg _ _).nodup_iff.2 (xLa i rs);refine(h1.and h2).imp fun {x y} h=> ?_;have:=h.1;have:=h.2;simp at*;omega
theorem H7{i:Nat}{rs:List Rowd}{x:Int}:x∈oM i rs↔x∈uK i rs:=Xz
theorem xLd(i:Nat)(rs:List Rowd)(r:Rowd):oM i (rs++ [r])=BB (gO i r) (oM i rs):=by
 refine O9 (Ha _ _) (O8 (Ha _ _)) fun x=> ?_;rw [H7,Fj,Je,H7];split
 ·rename_i hm;exact⟨.inr,fun h=>h.elim (fun e=>e ▸ hm) id⟩
 ·rw [Z6];simp [or_comm]
theorem Jn(i:Nat)(rs:List Rowd):(oM i rs).length<=rs.length:=by
 have h0:(oM i rs).length=(uK i rs).length:=YI _;rw [h0];refine DO (p:=fun rs=>(uK i rs).length<=rs.length) (Zg _) (fun l r h=> ?_) _ rs rfl;rw [Fj];split <;>simp <;>omega
theorem O2{i L:Nat}{x:Int}(rs:List Rowd)(h:∀r∈rs,r.frm.length<=L):(uJ i rs x).length<=rs.length*L:=by
 refine DO (p:=fun rs=>(∀r∈rs,r.frm.length<=L)->(uJ i rs x).length<=rs.length*L) (fun _=>by simp [uJ]) (fun l r ih h=> ?_) _ rs rfl h;have h1:=ih fun q hq=>h q (ZK _ hq);have h2:=h r (by simp);have h3:=xAT (uJ i l x) r.frm;rw [E5,jA,jC,jN,ZP];split <;>omega
theorem xK8{i:Nat}{x:Int}(rs:List Rowd):SO (uJ i rs x):=by
 refine DO (p:=fun rs=>SO (uJ i rs x)) List.Pairwise.nil (fun l r ih=> ?_) _ rs rfl;rw [E5];split
 ·exact xAU _ _
 ·exact ih
def zB(s:Int->Int)(g:Int->List Org)(y:Int):Rowd:=⟨[y,s y],g y⟩
def BS(s:Int->Int)(g:Int->List Org)(x v:Int)(f:List Org):List Int->List Rowd
 | []=> [⟨[x,v],f⟩]
 |y::l=>if y=x then⟨[x,IntKind.i64.wrap (s x+v)],qV (g x) f⟩::l.map (zB s g) else if x<y then⟨[x,v],f⟩::zB s g y::l.map (zB s g) else zB s g y::BS s g x v f l
theorem O1{s s' :Int->Int}{g g' :Int->List Org}{x v:Int}{f:List Org}(hs:∀y,s' y=if x=y then IntKind.i64.wrap (s y+v) else s y)(hg:∀y,g' y=if x=y then qV (g y) f else g y):
 ∀ {l:List Int},SI l->(x ∉ l->s' x=v/\g' x=f)->BS s g x v f l=(BB x l).map (zB s' g')
 | [],_,h=>by
   obtain⟨h1,h2⟩:=h (by simp);simp [BS,BB,zB,h1,h2]
 |y::l,hl,h=>by
  have hl' :=ZV.1 hl;have same:∀z,z≠x->zB s' g' z=zB s g z:=fun z hz=>by simp [zB,hs,hg,Ne.symm hz]
  unfold BS BB;by_cases e:y=x
  ·subst e;rw [Zx rfl,Zx rfl,Zb]
   congr 1
   ·simp [zB,hs,hg]
   ·exact(ZM fun z hz=>same z (by have:=hl'.1 z hz;omega)).symm
  ·rw [Zj e,Zj e];by_cases hlt:x<y
   ·rw [Zx hlt,Zx hlt,Zb,Zb]
    obtain⟨h1,h2⟩:=h (by
     rw [Zl];rintro (e2|e2)
     ·exact e e2.symm
     ·have:=hl'.1 x e2;omega)
    congr 1
    ·simp [zB,h1,h2]
    ·congr 1
     ·exact(same y e).symm
     ·exact(ZM fun z hz=>same z (by have:=hl'.1 z hz;omega)).symm
   ·rw [Zj hlt,Zj hlt,Zb,same y e]
    congr 1
    exact O1 hs hg hl'.2 fun hx=>h fun hm=>(Zl.1 hm).elim (fun e2=>e e2.symm) hx
theorem xLc{i k:Nat}{rs:List Rowd}{r:Rowd}(h1: -1000000000<=gO k r/\gO k r<=1000000000)(h2:SO r.frm):
 BS (oN i k rs) (uJ i rs) (gO i r) (gO k r) r.frm (oM i rs)=uL i k (rs++ [r]):=by
 unfold uL;rw [xLd];refine O1 (fun y=>Jo i k rs r y) (fun y=>E5 i rs r y) (Ha i rs) fun hx=> ?_;obtain⟨a,b⟩:=xLb k rs (fun h=>hx (H7.2 h));rw [Jo,E5,Zx rfl,Zx rfl,a,b];refine⟨?_,?_⟩
 ·rw [Int.zero_add];exact zL (by omega) (by omega)
 ·rw [<-OI List.Pairwise.nil h2,mrg]
end Go.Ab
end
section
namespace Go.Ab
theorem O0{N K:Nat}{s:Int->Int}{g:Int->List Org}{x v:Int}{f:List Org}{xs:List Int}(hl:xs.length<=1000):∀(n j:Nat) (acc:List Rowd),j<=xs.length->xs.length<n+j->acc.length<=20000+j->(∀y∈xs.drop j,x<y)->
 A5 N n (xs.map (zB s g)) x v f acc true (j:Int)=some (acc++(xs.drop j).map (zB s g)):=by
 intro n
 induction n with
 |zero=>intro j acc h1 h2;omega
 |succ n ih=>
  intro j acc hj hn hacc hgt;have hml:(xs.map (zB s g)).length=xs.length:=Zq _;cases hd:xs.drop j with
  |nil=>
   have hj2:j=xs.length:=by have:=An hd;omega
   subst hj2;simp only [A5,hml,Z0,Z2,jF,jU,ZD,Zd]
  |cons y l=>
   obtain⟨h1,h2,h3⟩:=A0 hd;have hj' :(j:Int)<(xs.length:Int):=by omega
   have hy:x<y:=hgt y (by rw [hd];exact Zp);have hg:(xs.map (zB s g))[j]? =some (zB s g y):=by rw [Zo,h2];rfl
   have e1:(y==x)=false:=ZX.2 (by omega);have e2:decide (y>x)=true:=Zz (by omega);have:=ih (j+1) (acc++ [zB s g y]) (by omega) (by omega) (by simp;omega) (fun z hz=>hgt z (by rw [hd];rw [h3] at hz;exact Zr _ hz));rw [h3] at this;simp only [A5,hml,Zz hj',jT,jI,yR hg,zB,jC,jN,Int.toNat_zero,Y7,e1,jF,e2,jU,yU h1 (by omega:xs.length<=_)];rw [Zx (by omega),Zx (by omega),Zx (by unfold Lim;omega)];simp only [zB] at this;rw [this];simp [zB]
theorem xK6{N K:Nat}{s:Int->Int}{g:Int->List Org}{x v:Int}{f:List Org}{xs:List Int}(hl:xs.length<=1000)(hsi:SI xs)(hf:SO f)(hg:SO (g x))(hfl:f.length<=10000000000)(hgl:(g x).length<=10000000000)(hN:(g x).length+f.length<N):∀(n j:Nat) (acc:List Rowd),j<=xs.length->xs.length<n+j->acc.length<=10000+j->
 A5 N n (xs.map (zB s g)) x v f acc false (j:Int)=some (acc++BS s g x v f (xs.drop j)):=by
 intro n
 induction n with
 |zero=>intro j acc h1 h2;omega
 |succ n ih=>
  intro j acc hj hn hacc;have hml:(xs.map (zB s g)).length=xs.length:=Zq _;cases hd:xs.drop j with
  |nil=>
   have hj2:j=xs.length:=by have:=An hd;omega
   subst hj2;simp only [A5,hml,Z0,Z2,jF,jV,jT,BS,jM,jC,jN];rw [Zx (by unfold Lim;omega),Zx (by unfold Lim;omega)]
  |cons y l=>
   obtain⟨h1,h2,h3⟩:=A0 hd;have hj' :(j:Int)<(xs.length:Int):=by omega
   have hg' :(xs.map (zB s g))[j]? =some (zB s g y):=by rw [Zo,h2];rfl
   have hsd:SI (y::l):=by rw [<-hd];exact List.Pairwise.sublist (List.drop_sublist _ _) hsi
   have hyl:=(ZV.1 hsd).1;by_cases e:y=x
   ·subst e;have:=O0 (N:=N) (K:=K) (s:=s) (g:=g) (x:=y) (v:=v) (f:=f) hl n (j+1) (acc++ [⟨[y,IntKind.i64.wrap (s y+v)],qV (g y) f⟩]) (by omega) (by omega) (by simp;omega) (fun z hz=>by rw [h3] at hz;exact hyl z hz);rw [h3] at this;have e2:decide (y>y)=false:=Zy (by omega);simp only [A5,hml,Zz hj',jT,jI,yR hg',zB,jC,jN,Int.toNat_zero,Y7,Y6,show Int.toNat 1=1 from rfl,Xe,xAI (N:=N) hg hf (by omega) (by omega),jS,e2,jF,yU h1 (by omega:xs.length<=_)];rw [Zx (by omega),Zx (by omega),Zx (by omega),Zx (by omega),Zx (by unfold Lim;omega)];rw [this];simp [BS,zB]
   ·have e1:(y==x)=false:=ZX.2 e;by_cases hlt:x<y
    ·have:=O0 (N:=N) (K:=K) (s:=s) (g:=g) (x:=x) (v:=v) (f:=f) hl n (j+1) ((acc++ [⟨[x,v],f⟩])++ [zB s g y]) (by omega) (by omega) (by simp;omega) (fun z hz=>by rw [h3] at hz;have:y<z:=hyl z hz;omega);rw [h3] at this;have e2:decide (y>x)=true:=Zz (by omega);simp only [A5,hml,Zz hj',jT,jI,yR hg',zB,jC,jN,Int.toNat_zero,Y7,e1,jF,e2,jV,jM,jA,yU h1 (by omega:xs.length<=_)];rw [Zx (by omega),Zx (by omega),Zx (by unfold Lim;omega),Zx (by unfold Lim;omega),Zx (by unfold Lim;omega)];simp only [zB] at this;rw [this];simp [BS,zB,e,hlt]
    ·have:=ih (j+1) (acc++ [zB s g y]) (by omega) (by omega) (by simp;omega);rw [h3] at this;have e2:decide (y>x)=false:=Zy (by omega);simp only [A5,hml,Zz hj',jT,jI,yR hg',zB,jC,jN,Int.toNat_zero,Y7,e1,jF,e2,yU h1 (by omega:xs.length<=_)];rw [Zx (by omega),Zx (by omega),Zx (by unfold Lim;omega)];simp only [zB] at this;rw [this];simp [BS,zB,e,hlt]
structure GRowOk (K i k:Nat) (t:Rowd):Prop where
 hi:i<t.cells.length
 hk:k<t.cells.length
 f:t.frm.length<=K
 so:SO t.frm
 num: -1000000000<=gO k t/\gO k t<=1000000000
theorem xOg{N K i k:Nat}{rs:List Rowd}{r:Rowd}(hK:K<=100000000)(hN:20*K<N)(hK2:1000<=K)(hl:rs.length<=12)(h:∀t∈rs,GRowOk K i k t)(hr:GRowOk K i k r):
 KR N (uL i k rs) (gO i r) (gO k r) r.frm=some (uL i k (rs++ [r])):=by
 have h1:=Jn i rs;have h2:=O2 (i:=i) (x:=gO i r) (L:=K) rs fun t ht=>(h t ht).f;have h3:rs.length*K<=12*K:=YK hl (Zg _);have h4:=hr.f;have:=xK6 (N:=N) (K:=K) (s:=oN i k rs) (g:=uJ i rs) (x:=gO i r) (v:=gO k r) (f:=r.frm) (xs:=oM i rs) (by omega) (Ha i rs) hr.so (xK8 rs) (by omega) (by omega) (by omega) N 0 [] (Z3 _) (by omega) (by simp);rw [Xy,jM,xLc hr.num hr.so] at this;exact this
theorem xFO{i:Nat}{t:Rowd}:List.getD t.cells i Di=gO i t:=rfl
theorem xNo{N:Nat}{a b:Str}{z:Val}{xs:List Int}{s:Int->Int}{g:Int->List Org}(hl:xs.length<=1000)(hN:1000<N):
 C6 N N 0 z (.mk 5 0 0 [] [] [a,b] (xs.map (zB s g)))=some (if xs.all (fun x=>wP (s x))=true then .mk 5 0 0 [] [] [a,b] (xs.map (zB s g)) else yX 5):=by
 have:=zG (L:=fun m j (_:Unit)=>C6 N m j z (.mk 5 0 0 [] [] [a,b] (xs.map (zB s g)))) xs (fun l _=>if l.all (fun x=>wP (s x))=true then .mk 5 0 0 [] [] [a,b] (xs.map (zB s g)) else yX 5) (fun _ _=>True)
  (fun n q _=>by
    simp only [C6,vr,Zq,Z0,Z2,jF,List.all_nil,ZE])
  (fun j x l q hd hj hx _=>by
    have hj' :(j:Int)<(xs.length:Int):=by omega
    have hg:(xs.map (zB s g))[j]? =some (zB s g x):=by rw [Zo,hx];rfl
    cases hnum:wP (s x) with
    |true=>
     refine .inl ⟨(),trivial,by simp [hnum],fun n=> ?_⟩;simp only [C6,vr,Zq,Zz hj',jT,jI,yR hg,zB,jC,jN,show Int.toNat 1=1 from rfl,Xe,Y7,Bt,jS,show zC (s x)=true from hnum,jU,jF,yU hj (by omega:xs.length<=_)];rw [Zx (by omega),Zx (by omega)]
    |false=>
     refine .inr fun n=> ?_;simp only [C6,vr,Zq,Zz hj',jT,jI,yR hg,zB,jC,jN,show Int.toNat 1=1 from rfl,Xe,Y7,Bt,jS,show zC (s x)=false from hnum,jV,yV];rw [Zx (by omega),Zx (by omega)];simp [hnum,yX]) N 0 () trivial (Z3 _) (by omega)
 simpa using this
theorem xNp{N K i k:Nat}{t z:Val}{a b:Str}(hK:K<=100000000)(hN:20*K<N)(hK2:1000<=K)(hl:t.rows.length<=12)(h:∀r∈t.rows,GRowOk K i k r):
 DZ N N (i:Int) (k:Int) 0 t z (.mk 5 0 0 [] [] [a,b] [])=some (if(oM i t.rows).all (fun x=>wP (oN i k t.rows x))=true then .mk 5 0 0 [] [] [a,b] (uL i k t.rows) else yX 5):=by
 have hlk:=Jn i t.rows
 exact zG (L:=fun m j q=>DZ N m (i:Int) (k:Int) j t z (.mk 5 0 0 [] [] [a,b] q)) t.rows (fun _ _=>if(oM i t.rows).all (fun x=>wP (oN i k t.rows x))=true then Val.mk 5 0 0 [] [] [a,b] (uL i k t.rows) else yX 5) (fun j q=>q=uL i k (t.rows.take j))
  (fun n q hq=>by
    have hq:q=uL i k (t.rows.take t.rows.length):=hq;rw [ZI] at hq;subst hq;simp only [DZ,Z0,Z2,jF];exact xNo (by omega) (by omega))
  (fun j x l q hd hj hx hq=>by
    have hj' :(j:Int)<(t.rows.length:Int):=by omega
    have hm:=h x (Zt hx);have hti:t.rows.take (j+1)=t.rows.take j++ [x]:=by
     rw [Yq hj];rw [Zw hj] at hx;cases hx
     rfl
    refine .inl ⟨uL i k (t.rows.take (j+1)),rfl,rfl,fun n=> ?_⟩;have hp:=xOg (N:=N) (K:=K) (i:=i) (k:=k) (rs:=t.rows.take j) (r:=x) hK hN hK2 (by rw [ZR];omega) (fun r hr=>h r (Yi hr)) hm;have hq:q=uL i k (t.rows.take j):=hq;rw [<-hq,<-hti] at hp;have hi:=hm.hi;have hk:=hm.hk;simp only [DZ,Zz hj',jT,jI,yR hx,xFO,vk,vn,vs,vt,vl,vc,vr,hp,jS,yU hj (by omega:t.rows.length<=_)];rw [Zx (by omega),Zx (by omega),Zx (by omega)]) N 0 [] (by simp [uL,oM,uK]) (Z3 _) (by omega)
def Az(i k:Int)(a b t:Val):Val:=bif decide (i<0) then yX 7 else bif decide (k<0) then yX 7 else bif i==k then yX 7 else
 if(oM i.toNat t.rows).all (fun x=>wP (oN i.toNat k.toNat t.rows x))=true then .mk 5 0 0 [] [] [a.text,b.text] (uL i.toNat k.toNat t.rows) else yX 5
def A2(a b t:Val):Val×Bool:=bif(yW [2,2,5] [a,b,t]).2.1 then((yW [2,2,5] [a,b,t]).1,(yW [2,2,5] [a,b,t]).2.2) else(Az (yS t.columns a.text 0) (yS t.columns b.text 0) a b t,false)
theorem xAP{v:Val}(hv:y8 v=true)(hk:v.kind=5):∀r∈v.rows,∀k,k<r.cells.length-> -1000000000<=gO k r/\gO k r<=1000000000:=by
 rw [BZ,hk] at hv;simp only [show((5:Int)==1)=false from rfl,show((5:Int)==2)=false from rfl,show((5:Int)==4)=false from rfl,show((5:Int)==6)=false from rfl,show((5:Int)==5)=true from rfl,jT,jF,Zs,BX] at hv;obtain⟨_,_,_,_,_,_,h⟩:=hv;intro r hr k hlt;obtain⟨i,hi⟩:=YD hr;have:=CD h i r hi;simp only [CU,Zs,beq_iff_eq] at this;have h2:=CD this.2.1 k r.cells[k] (Zw hlt);simp only [zC,Zs,ZU] at h2;unfold gO;rw [ZW,Zw hlt];exact h2
theorem xGc{K:Nat}(hK:1000<=K/\K<=100000000){a b t:Val}(ha:a.Fit K)(hb:b.Fit K)(ht:t.Fit K):Big fun N=>CG N a b t=some (A2 a b t)/\C5 N a b t=some (A2 a b t).1:=by
 obtain⟨_,_,_,_,_,t6,t7⟩:=Val.fit_iff.1 ht;have htc:t.columns.length<=K:=t6.1;refine((Bi (by omega) (vs:=[a,b,t]) (ks:=[2,2,5]) (By ha hb ht) (by simp;omega) rfl).and (zM (20*K))).imp fun N ⟨⟨h1,h2⟩,hN⟩=> ?_;obtain⟨e1,e2,e3,_⟩:=Ay (ks:=[2,2,5]) (By ha hb ht);have i1:=B8 (N:=N) (v:=t) (s:=a.text) (by omega) (by omega);have i2:=B8 (N:=N) (v:=t) (s:=b.text) (by omega) (by omega);have j1:=BD (N:=N) (v:=t) (s:=a.text) (by omega) (by omega);have j2:=BD (N:=N) (v:=t) (s:=b.text) (by omega) (by omega);cases g1:(yW [2,2,5] [a,b,t]).2.1
 ·obtain⟨g2,g3⟩:=Bj g1;obtain⟨_,_,hk2⟩:=kb3 g3;have htag:=Bk g1;have ot:=Cf (g2 t (by simp)) hk2;have rt:=Bw (g2 t (by simp)) hk2;have st:=KV (g2 t (by simp)) hk2;have nt:=xAP (g2 t (by simp)) hk2;rcases Dq (s:=a.text) (xs:=t.columns) (j:=0) with ⟨hi,_⟩|⟨i,hi1,hi,hia,_⟩
  ·have hneg:yS t.columns a.text 0<0:=by omega
   refine⟨?_,?_⟩
   ·simp only [CG,Val.re_eq,h1,jS,g1,htag,jF,i1,i2,Zz hneg,jT,yT,A2,Az];rfl
   ·simp only [C5,Val.re_eq,h2,jS,g1,jF,j1,j2,Zz hneg,jT,yV,A2,Az];rfl
  ·rw [Zi] at hi;have hni:¬(i:Int)<0:=by omega
   rcases Dq (s:=b.text) (xs:=t.columns) (j:=0) with ⟨hk,_⟩|⟨k,hk1',hk,hks,_⟩
   ·have hneg:yS t.columns b.text 0<0:=by omega
    refine⟨?_,?_⟩
    ·simp only [CG,Val.re_eq,h1,jS,g1,htag,jF,i1,i2,hi,Zy hni,Zz hneg,jT,yT,A2,Az];rfl
    ·simp only [C5,Val.re_eq,h2,jS,g1,jF,j1,j2,hi,Zy hni,Zz hneg,jT,yV,A2,Az];rfl
   ·rw [Zi] at hk;have hnk:¬(k:Int)<0:=by omega
    have heq:(a.text==b.text)=((i:Int)==(k:Int)):=by
     rw [YY,beq_iff_eq,beq_iff_eq];constructor
     ·intro e;rw [e,hk] at hi;exact hi.symm
     ·intro e;have e:i=k:=by omega
      subst e;rw [hia] at hks;exact ZB hks
    by_cases hik:(i:Int)=(k:Int)
    ·have b1:((i:Int)==(k:Int))=true:=beq_iff_eq.2 hik;refine⟨?_,?_⟩
     ·simp only [CG,Val.re_eq,h1,jS,g1,htag,jF,i1,i2,hi,hk,Zy hni,Zy hnk,heq,b1,jT,yT,A2,Az];rfl
     ·simp only [C5,Val.re_eq,h2,jS,g1,jF,j1,j2,hi,hk,Zy hni,Zy hnk,b1,jT,yV,A2,Az];rfl
    ·have b1:((i:Int)==(k:Int))=false:=ZX.2 hik;have hR:∀r∈t.rows,GRowOk K i k r:=fun r hr=>by
      have e:=rt r hr;exact⟨by omega,by omega,(t7.2 r hr).2.1,st r hr,nt r hr k (by omega)⟩
     have l2:=xNp (N:=N) (K:=K) (i:=i) (k:=k) (t:=t) (z:=Val.mk 0 0 0 [] [] [] []) (a:=a.text) (b:=b.text) hK.2 hN hK.1 ot.2 hR;have l1:zAj (i:Int) (k:Int) a b t=some (if(oM i t.rows).all (fun x=>wP (oN i k t.rows x))=true then Val.mk 5 0 0 [] [] [a.text,b.text] (uL i k t.rows) else Val.mk 6 5 0 [] [] [] [],false):=by
      have hall:t.rows.all (xN (i:Int).toNat (k:Int).toNat)=true:=by
       rw [Zu];intro r hr;have:=hR r hr;have h1:=this.hi;have h2:=this.hk;have h3:=this.f;simp only [xN,jI,Zs,ZU];omega
      unfold zAj;refine(Zx ⟨by omega,by omega,hall,by have:=ot.2;omega⟩).trans ?_;simp only [jI]
     refine⟨?_,?_⟩
     ·simp only [CG,G6,Val.re_eq,h1,jS,g1,htag,jF,i1,i2,hi,hk,Zy hni,Zy hnk,heq,b1,l1,A2,Az,jI];rfl
     ·simp only [C5,Val.re_eq,h2,jS,g1,jF,j1,j2,hi,hk,Zy hni,Zy hnk,b1,l2,A2,Az,jI]
 ·refine⟨?_,?_⟩
  ·simp only [CG,Val.re_eq,h1,jS,e1,e2,e3,jE,ZE,A1 e1 e2 e3,g1,jT,A2];cases (yW [2,2,5] [a,b,t]).2.2 <;>rfl
  ·simp only [C5,Val.re_eq,h2,jS,g1,jT,A2]
end Go.Ab
end
section
namespace Go.Ab
theorem xK9{i:Nat}{x:Int}(rs:List Rowd):x∈uK i rs->∃r∈rs,gO i r=x:=by
 refine DO (p:=fun rs=>x∈uK i rs->∃r∈rs,gO i r=x) (fun h=>by cases h) (fun l r ih h=> ?_) _ rs rfl;rw [Fj] at h;split at h
 ·obtain⟨q,hq,e⟩:=ih h;exact⟨q,ZK _ hq,e⟩
 ·rcases Z6.1 h with h|h
  ·obtain⟨q,hq,e⟩:=ih h;exact⟨q,ZK _ hq,e⟩
  ·simp at h;exact⟨r,by simp,h.symm⟩
theorem xK7{i:Nat}{x:Int}{o:Org}(rs:List Rowd):o∈uJ i rs x->∃r∈rs,gO i r=x/\o∈r.frm:=by
 refine DO (p:=fun rs=>o∈uJ i rs x->∃r∈rs,gO i r=x/\o∈r.frm) (fun h=>by cases h) (fun l r ih h=> ?_) _ rs rfl;rw [E5] at h;split at h
 ·rename_i hk;rcases Jf.1 h with h|h
  ·obtain⟨q,hq,e⟩:=ih h;exact⟨q,ZK _ hq,e⟩
  ·exact⟨r,by simp,hk,h⟩
 ·obtain⟨q,hq,e⟩:=ih h;exact⟨q,ZK _ hq,e⟩
theorem xGb{a b t:Val}(ha:a.Fit 1048576)(hb:b.Fit 1048576)(ht:t.Fit 1048576):Good1 16777216 (A2 a b t):=by
 obtain⟨_,_,_,a4,_,_,_⟩:=Val.fit_iff.1 ha;obtain⟨_,_,_,b4,_,_,_⟩:=Val.fit_iff.1 hb;obtain⟨_,_,_,_,_,t6,t7⟩:=Val.fit_iff.1 ht;have htc:t.columns.length<=1048576:=t6.1;have fl:∀ {r:Val×Bool},Flat r.1->Good1 16777216 r:=fun {r} h=>⟨h.fit _,by rw [h.cnt];omega,fun _=>h⟩;have er:∀n:Int, -1000000<=n->n<=1000000->Good1 16777216 (yX n,false):=fun n h1 h2=>fl (zX (y7 h1 h2));unfold A2;cases g1:(yW [2,2,5] [a,b,t]).2.1
 ·rw [jF];obtain⟨g2,g3⟩:=Bj g1;obtain⟨_,_,hk2⟩:=kb3 g3;have ot:=Cf (g2 t (by simp)) hk2;have rt:=Bw (g2 t (by simp)) hk2;have nt:=xAP (g2 t (by simp)) hk2;rcases Dq (s:=a.text) (xs:=t.columns) (j:=0) with ⟨hi,_⟩|⟨i,hi1,hi,_,_⟩
  ·unfold Az;rw [Zz (by omega:yS t.columns a.text 0<0)];exact er 7 (by omega) (by omega)
  ·rw [Zi] at hi;rw [hi];generalize yS t.columns b.text 0=k;unfold Az;rw [Zy (by omega:¬(i:Int)<0),jF,jI];cases decide (k<0)
   ·rw [jF];cases ((i:Int)==k)
    ·rw [jF];split
     ·rename_i hall;have hl:=Jn i t.rows;have hfit:∀x∈uL i k.toNat t.rows,x.Fit 16777216:=fun x hx=>by
       obtain⟨y,hy,rfl⟩:=Zh.1 hx;obtain⟨r,hr,e⟩:=xK9 t.rows (H7.1 hy);have h1:=nt r hr i (by have:=rt r hr;omega);have h2:=Zu.1 hall y hy;simp only [wP,Zs,ZU] at h2;have h3:=O2 (i:=i) (x:=y) (L:=1048576) t.rows fun q hq=>(t7.2 q hq).2.1;have h4:t.rows.length*1048576<=12*1048576:=YK ot.2 (Zg _);refine⟨⟨by show 2<=_;omega,fun n hn=> ?_⟩,by show(uJ i t.rows y).length<=_;omega,fun o ho=> ?_⟩
       ·simp only [Zl,ZT,or_false] at hn;unfold I64;rcases hn with rfl|rfl <;>omega
       ·obtain⟨q,hq,_,hm⟩:=xK7 t.rows ho;exact(t7.2 q hq).2.2 o hm
      have hgl:(uL i k.toNat t.rows).length<=12:=by
       rw [uL,Zq];have:=ot.2;omega
      refine⟨IT ⟨by show 2<=_;omega,fun s hs=> ?_⟩ ⟨by omega,hfit⟩,?_,fun h=>by cases h⟩
      ·simp only [Zl,ZT,or_false] at hs;show s.length<=_;rcases hs with rfl|rfl
       ·have:a.text.length<=1048576:=a4;omega
       ·have:b.text.length<=1048576:=b4;omega
      ·show(Val.mk 5 0 0 [] [] _ _).cnt<=_;rw [IS]
       have:=Bv (f:=zQ) (l:=uL i k.toNat t.rows) (a:=100000000) (fun x hx=>by
        have f:=hfit x hx;have e1:x.frm.length<=16777216:=f.2.1;have e0:x.cells.length<=16777216:=f.1.1;have e2:=Bv (f:=Af) (l:=x.frm) (a:=2) (fun _ _=>Zg _);simp only [zQ,Aw];omega)
       simp only [jC,jN];omega
     ·exact er 5 (by omega) (by omega)
    ·exact er 7 (by omega) (by omega)
   ·exact er 7 (by omega) (by omega)
 ·exact fl (CP (By ha hb ht))
end Go.Ab
end
section
namespace Go.Ab
theorem xO6{a0:List Val}(f0:∀z∈ [CV.sl .ro .val a0],DFit z.toD):zE maxLen (Val.Fit maxLen) a0:=xEi (f0 _ Zp).dk
theorem xKC{K:Nat}(hK:K<=137438953472){l:List Val}(h:zE K (Val.Fit K) l):
 Big fun N=>∀k:Int,0<=k->k+((l.map Val.cnt).sum:Nat)<=137438953472->∃ys,ys.length=l.length/\EX N l k=some (k+((l.map Val.cnt).sum:Nat),ys):=by
 have hb:Big2 fun N d=>∀x∈l,FC N d x.list:=Big2.list fun x hx=>OF hK x (h.2 x hx);have key:Big2 fun N d=>FC N d l:=Big2.succ ((hb.and (zM 274877906944).two).imp fun N d ⟨hx,hN⟩=>OG hN (fun x hxm=>by have:=(Val.fit_iff.1 (h.2 x hxm)).2.2.2.2.2.2.1;omega) hx);exact key.diag.imp fun N hm k h0 h1=>by
  obtain⟨ys,a1,a2,_⟩:=hm k h0 h1;exact⟨ys,a1,a2⟩
end Go.Ab
end
section
namespace Go.Ab
theorem JI{i k:Nat}{r x:Rowd}:∀ {ts:List Rowd},x∈jr i k r ts->∃t∈ts,x=Ak k r t/\r.cells.getD i Di=t.cells.getD k Di
 | [],h=>by cases h
 |t::ts,h=>by
  unfold jr at h;cases hc:(r.cells.getD i Di==t.cells.getD k Di)
  ·rw [hc,jF] at h;obtain⟨t',h1,h2⟩:=JI h;exact⟨t',Zr _ h1,h2⟩
  ·rw [hc,jT] at h;rcases Zl.1 h with e|h
   ·exact⟨t,Zp,e,by simpa using hc⟩
   ·obtain⟨t',h1,h2⟩:=JI h;exact⟨t',Zr _ h1,h2⟩
theorem NQ{i k:Nat}{ts:List Rowd}{x:Rowd}:∀ {rs:List Rowd},x∈jrs i k ts rs->∃r∈rs,∃t∈ts,x=Ak k r t/\r.cells.getD i Di=t.cells.getD k Di
 | [],h=>by cases h
 |r::rs,h=>by
  rcases Z6.1 h with h|h
  ·obtain⟨t,h1,h2⟩:=JI h;exact⟨r,Zp,t,h1,h2⟩
  ·obtain⟨r',h1,h2⟩:=NQ h;exact⟨r',Zr _ h1,h2⟩
theorem xKU{K k:Nat}{r t:Rowd}(hr:r.Fit K)(ht:t.Fit K):(Ak k r t).Fit (2*K):=by
 obtain⟨⟨a1,a2⟩,a3,a4⟩:=hr;obtain⟨⟨b1,b2⟩,b3,b4⟩:=ht;refine⟨⟨?_,fun n hn=> ?_⟩,?_,fun o ho=> ?_⟩
 ·simp only [Ak,jA,ZR,Ym];omega
 ·simp only [Ak,Z6] at hn;rcases hn with (hn|hn) |hn
  ·exact a2 n hn
  ·exact b2 n (Yi hn)
  ·exact b2 n (YE hn)
 ·have:=xAT r.frm t.frm;show(qV r.frm t.frm).length<=_;omega
 ·rcases Jf.1 ho with h|h
  ·exact a4 o h
  ·exact b4 o h
theorem xIZ{a u v:Val}(ha:a.Fit 1048576)(hu:u.Fit 1048576)(hv:v.Fit 1048576):Good1 2097152 (Ai a u v):=by
 obtain⟨_,_,_,_,_,u6,u7⟩:=Val.fit_iff.1 hu;obtain⟨_,_,_,_,_,v6,v7⟩:=Val.fit_iff.1 hv;have fl:∀ {r:Val×Bool},Flat r.1->Good1 2097152 r:=fun {r} h=>⟨h.fit _,by rw [h.cnt];omega,fun _=>h⟩;have er:∀n:Int, -1000000<=n->n<=1000000->Good1 2097152 (yX n,false):=fun n h1 h2=>fl (zX (y7 h1 h2));unfold Ai;cases g1:(yW [2,5,5] [a,u,v]).2.1
 ·rw [jF];generalize yS u.columns a.text 0=i;generalize yS v.columns a.text 0=k;unfold CO;cases decide (i<0)
  ·cases decide (k<0)
   ·simp only [jF];generalize hcs:u.columns++(v.columns.take k.toNat++v.columns.drop (k.toNat+1))=cs;cases AZ cs
    ·exact er 7 (by omega) (by omega)
    ·simp only [jU,jF];by_cases h4:(cs.length:Int)>4
     ·rw [Zz h4];exact er 6 (by omega) (by omega)
     ·rw [Zy h4,jF];unfold CN;by_cases h12:((jrs i.toNat k.toNat v.rows u.rows).length:Int)>12
      ·rw [Zz h12];exact er 6 (by omega) (by omega)
      ·rw [Zy h12,jF];have hfit:∀x∈jrs i.toNat k.toNat v.rows u.rows,x.Fit 2097152:=fun x hx=>by
        obtain⟨r,hr,t,ht,rfl,_⟩:=NQ hx;exact xKU (u7.2 r hr) (v7.2 t ht)
       refine⟨IT ⟨by omega,fun s hs=> ?_⟩ ⟨by omega,hfit⟩,?_,fun h=>by cases h⟩
       ·show s.length<=_;rw [<-hcs] at hs;simp only [Z6] at hs;rcases hs with hs|hs|hs
        ·have:s.length<=1048576:=u6.2 s hs;omega
        ·have:s.length<=1048576:=v6.2 s (Yi hs);omega
        ·have:s.length<=1048576:=v6.2 s (YE hs);omega
       ·show(Val.mk 5 0 0 [] [] _ _).cnt<=_;rw [IS]
        have:=Bv (f:=zQ) (l:=jrs i.toNat k.toNat v.rows u.rows) (a:=8000000) (fun x hx=>by
         have f:=hfit x hx;have e1:x.frm.length<=2097152:=f.2.1;have e0:x.cells.length<=2097152:=f.1.1;have e2:=Bv (f:=Af) (l:=x.frm) (a:=2) (fun _ _=>Zg _);simp only [zQ,Aw];omega)
        omega
   ·exact er 7 (by omega) (by omega)
  ·exact er 7 (by omega) (by omega)
 ·exact fl (CP (By ha hu hv))
end Go.Ab
end
section
namespace Go.Ab
def Ck(n:Int):Val:=bif zC n then y5 n else yX 5
theorem xKM {n:Int}(h:zC n=true):I64 n:=by
 unfold zC at h;simp only [Zs,ZU] at h;exact⟨by omega,by omega⟩
theorem M6(n:Int):Flat (Ck n):=by
 unfold Ck;cases h:zC n
 ·exact zX (y7 (by omega) (by omega))
 ·exact Cn (xKM h)
theorem xH0(N:Nat)(n:Int):FP N n=some (Ck n):=by
 simp only [FP,DA,jS,yT,AW,Ck];cases zC n <;>rfl
theorem xNk(N:Nat)(n:Int):DW N n=some (Ck n):=by
 simp only [DW,Bt,jS,yV,AT,Ck];cases zC n <;>rfl
def Ea(n v:Val):Bool:=(n.kind != 1)||((v.kind != 3)&&(v.kind != 4))
def zJ(n v:Val):Val×Bool×Bool:=bif(opG [n,v]).2.1 then opG [n,v] else(yX 4,Ea n v,false)
def A9(n v:Val):Val×Bool:=bif(zJ n v).2.1 then((zJ n v).1,true) else(As,false)
theorem Dn{K:Nat}{n v:Val}(hn:n.Fit K)(hv:v.Fit K):Flat (zJ n v).1:=by
 unfold zJ;cases (opG [n,v]).2.1
 ·exact zX (y7 (by omega) (by omega))
 ·exact GX (BH hn hv)
theorem Hd{n v:Val}(h:(zJ n v).2.1=false):(zJ n v).2.2=false/\y8 v=true/\n.kind=1/\(v.kind=3\/v.kind=4)/\y8 n=true:=by
 unfold zJ at h ⊢;cases h1:(opG [n,v]).2.1
 ·rw [h1] at h;simp only [jF] at h ⊢;have ho:=Jk h1;refine⟨by simp,ho v (by simp),?_⟩;simp only [Ea,ZS,bne_eq_false_iff_eq,Bool.and_eq_false_iff] at h;exact⟨h.1,h.2,ho n (by simp)⟩
 ·rw [h1] at h;simp only [jT] at h;rw [h1] at h;cases h
theorem xKy{v:Val}(hv:y8 v=true)(hk:v.kind=3):v.list.length<=8/\∀x∈v.list,(x.kind==6)=false:=by
 rw [BZ,hk] at hv;simp only [show((3:Int)==1)=false from rfl,show((3:Int)==2)=false from rfl,show((3:Int)==4)=false from rfl,show((3:Int)==6)=false from rfl,show((3:Int)==5)=false from rfl,show((3:Int)==3)=true from rfl,jT,jF,Zs,ZU,IV,Zu] at hv;obtain⟨h1,_,_,_,_,_,h2,_⟩:=hv;refine⟨h2,fun x hx=> ?_⟩;have he:=(h1 x hx).1;unfold B1 at he;cases h6:(x.kind==6)
 ·rfl
 ·rw [eq_of_beq h6] at he;cases he
theorem Jq{K:Nat}(hK:24<=K/\K<=4611686018427387903){n v:Val}(hn:n.Fit K)(hv:v.Fit K):Big fun N=>EH N n v=some (zJ n v)/\FA N n v=some (A9 n v):=by
 refine(H9 hK (l:=[n,v]) (BH hn hv) (by simp;omega)).imp fun N ⟨h1,h2⟩=> ?_;obtain⟨e1,e2,e3,e4,e5⟩:=Fg (l:=[n,v]);constructor
 ·simp only [EH,Val.re_eq,h1,jS,e1,e2,e3,jE,ZE,A1 e1 e2 e3,yT,zJ,Ea];cases g:(opG [n,v]).2.1
  ·rw [Fh g];cases (n.kind != 1) <;>cases (v.kind != 3) <;>cases (v.kind != 4) <;>rfl
  ·cases h:(opG [n,v]).2.2 <;>simp only [jT,jF] <;>(congr 1;exact XW rfl (XW g.symm h.symm))
 ·simp only [FA,Val.re_eq,h2,jS,yV,A9,zJ,Ea];cases g:(opG [n,v]).2.1
  ·cases (n.kind != 1) <;>cases (v.kind != 3) <;>cases (v.kind != 4) <;>rfl
  ·simp only [jT,g]
def zK(n v:Val):Val:=bif decide (n.n<0)||((v.kind==3)&&decide (n.n>=(v.list.length:Int))) then yX 5 else bif v.kind==3 then v.list.getD n.n.toNat Dv else Ck (IntKind.i64.wrap (v.n+IntKind.i64.wrap (n.n*v.step)))
def AG(n v:Val):Val×Bool:=bif(zJ n v).2.1 then((zJ n v).1,(zJ n v).2.2) else(zK n v,false)
theorem Jh{K:Nat}(hK:24<=K/\K<=137438953472){n v:Val}(hn:n.Fit K)(hv:v.Fit K):Big fun N=>A7 N n v=some (AG n v)/\A4 N n v=some (AG n v).1:=by
 obtain⟨_,_,_,_,h5,_,_⟩:=Val.fit_iff.1 hv;have hk:K<=137438953472:=hK.2;refine((Jq (by omega) hn hv).and (((Big.list fun x hx=>xAr (h5.2 x hx) hk)).and (Big.list fun x hx=>xH8 (h5.2 x hx) hk))).imp fun N ⟨⟨h1,h2⟩,c1,c2⟩=> ?_;obtain⟨e1,e2,e3,_⟩:=Dn (K:=K) hn hv;cases g:(zJ n v).2.1
 ·obtain⟨gt,_,_,gk,_⟩:=Hd g;have hget:∀h:0<=n.n/\n.n<(v.list.length:Int),v.list.getD n.n.toNat Dv∈v.list:=fun h=>by
   have hl:n.n.toNat<v.list.length:=by omega
   have:v.list.getD n.n.toNat Dv=v.list[n.n.toNat]:=by simp [List.getD,hl]
   rw [this];exact ZY hl
  have hs:A9 n v=(As,false):=by unfold A9;rw [g];rfl
  rw [hs] at h2;by_cases a:n.n<0
  ·simp only [A7,A4,h1,h2,jS,g,gt,jF,Zz a,jT,yT,yV,AG,zK,X5]
   first |exact⟨rfl,rfl⟩|exact⟨trivial,trivial⟩
  ·cases b:(v.kind==3)
   ·simp only [A7,A4,h1,h2,jS,g,gt,jF,Zy a,jT,yT,yV,AG,zK,ZJ,b,ZQ,xH0,xNk]
    first |exact⟨rfl,rfl⟩|exact⟨trivial,trivial⟩
   ·by_cases c:n.n>=(v.list.length:Int)
    ·simp only [A7,A4,h1,h2,jS,g,gt,jF,Zy a,Zz c,jT,yT,yV,AG,zK,ZJ,b,ZF]
     first |exact⟨rfl,rfl⟩|exact⟨trivial,trivial⟩
    ·have hm:=hget ⟨by omega,by omega⟩;simp only [A7,A4,h1,h2,jS,g,gt,jF,Zy a,Zy c,jT,yT,yV,AG,zK,ZJ,b,ZF,Zx (show(0:Int)<=n.n/\n.n<(v.list.length:Int) by omega),c1 _ hm,c2 _ hm]
     first |exact⟨rfl,rfl⟩|first |exact⟨rfl,rfl⟩|exact⟨trivial,trivial⟩
 ·have hs:A9 n v=((zJ n v).1,true):=by unfold A9;rw [g];rfl
  rw [hs] at h2;refine⟨?_,?_⟩
  ·simp only [A7,h1,jS,e1,e2,e3,jE,ZE,A1 e1 e2 e3,g,jT,AG];cases (zJ n v).2.2 <;>rfl
  ·simp only [A4,h2,jS,g,jT,AG]
theorem OJ{n v:Val}(hn:n.Fit 1048576)(hv:v.Fit 1048576)(hs:v.size<=1048576):Good1 1048576 (AG n v):=by
 obtain⟨_,_,_,_,h5,_,_⟩:=Val.fit_iff.1 hv;unfold AG;cases g:(zJ n v).2.1
 ·unfold zK;by_cases a:n.n<0
  ·rw [Zz a];exact Flat.good (zX (y7 (by omega) (by omega)))
  ·rw [Zy a];cases b:(v.kind==3)
   ·exact Flat.good (M6 _)
   ·by_cases c:n.n>=(v.list.length:Int)
    ·rw [Zz c];exact Flat.good (zX (y7 (by omega) (by omega)))
    ·rw [Zy c];have hl:n.n.toNat<v.list.length:=by omega
     have e:v.list.getD n.n.toNat Dv=v.list[n.n.toNat]:=by simp [List.getD,hl]
     simp only [ZJ,Y5,jF,jT];rw [e];have hm:=ZY hl;have h1:=Hf (f:=Val.size) hm;have h2:=Val.size_eq v;have h3:=Val.cnt_le v.list[n.n.toNat];exact⟨h5.2 _ hm,by show(v.list[n.n.toNat]).cnt<=_;omega,fun h=>by cases h⟩
 ·exact Flat.good (Dn hn hv)
def AM(n:Int)(l:Nat):Int:=if(l:Int)<n then(l:Int) else n
def skB(n v:Val):Val:=bif decide (n.n<0) then yX 5 else bif v.kind==3 then .mk 3 0 0 [] (v.list.drop (AM n.n v.list.length).toNat) [] [] else bif(zK n v).kind==6 then zK n v else .mk 4 (zK n v).n v.step [] [] [] []
def skG(n v:Val):Val×Bool:=bif(zJ n v).2.1 then((zJ n v).1,(zJ n v).2.2) else(skB n v,false)
theorem OA{α:Type}{K:Nat}{p:α->Prop}{l:List α}(h:zE K p l)(k:Nat):zE K p (l.drop k):=
 ⟨by have:=h.1;rw [Ym];omega,fun x hx=>h.2 x (YE hx)⟩
theorem xLC{K:Nat}(hK:24<=K/\K<=137438953472){n v:Val}(hn:n.Fit K)(hv:v.Fit K):Big fun N=>Cv N n v=some (skG n v)/\D4 N n v=some (skG n v).1:=by
 obtain⟨_,_,_,_,h5,_,_⟩:=Val.fit_iff.1 hv;have hk:K<=137438953472:=hK.2;have hd:=OA h5 (AM n.n v.list.length).toNat;have hlen:v.list.length<=K:=h5.1;refine(((Jq (by omega) hn hv).and (Jh hK hn hv)).and ((NH hd hk).and ((Big.list fun x hx=>xAr (hd.2 x hx) hk).and (zM K)))).imp fun N ⟨⟨⟨h1,h2⟩,n1,n2⟩,c1,c2,hN⟩=> ?_;obtain⟨e1,e2,e3,_⟩:=Dn (K:=K) hn hv;cases g:(zJ n v).2.1
 ·obtain⟨gt,_,_,gk,_⟩:=Hd g;have hs:A9 n v=(As,false):=by unfold A9;rw [g];rfl
  rw [hs] at h2;have hnt:AG n v=(zK n v,false):=by unfold AG;rw [g];rfl
  rw [hnt] at n1 n2;by_cases a:n.n<0
  ·simp only [Cv,D4,h1,h2,jS,g,gt,jF,Zz a,jT,yT,yV,skG,skB]
   first |exact⟨rfl,rfl⟩|exact⟨trivial,trivial⟩
  ·cases b:(v.kind==3)
   ·simp only [Cv,D4,h1,h2,n1,n2,jS,g,gt,jF,Zy a,jT,CH,Fw,skG,skB,b];cases ((zK n v).kind==6) <;>first |exact⟨rfl,rfl⟩|exact⟨trivial,trivial⟩
   ·have hm:0<=AM n.n v.list.length/\AM n.n v.list.length<=(v.list.length:Int):=by unfold AM;split <;>omega
    have hsp:IG N n.n (v.list.length:Int)=some (AM n.n v.list.length):=by
     unfold IG AM;by_cases h:n.n<(v.list.length:Int)
     ·rw [Zz h,jT,Zj (by omega)]
     ·rw [Zy h,jF]
      congr 1
      split <;>omega
    have hsl:=xMY (N:=N) (l:=v.list.drop (AM n.n v.list.length).toNat) (by have:=hd.1;omega) (by have:=hd.1;omega) c2;have him:(if(v.list.length:Int)<n.n then(v.list.length:Int) else n.n)=AM n.n v.list.length:=rfl;simp only [Cv,D4,h1,h2,jS,g,gt,jF,Zy a,jT,skG,skB,b,him,hsp,Zx hm,Cu,c1,hsl]
    first |exact⟨rfl,rfl⟩|exact⟨trivial,trivial⟩
 ·have hs:A9 n v=((zJ n v).1,true):=by unfold A9;rw [g];rfl
  rw [hs] at h2;refine⟨?_,?_⟩
  ·simp only [Cv,h1,jS,g,jT,skG];cases (zJ n v).2.2 <;>rfl
  ·simp only [D4,h2,jS,g,jT,skG]
theorem xOy(f:Val->Nat)(l:List Val)(k:Nat):((l.drop k).map f).sum<=(l.map f).sum:=by
 have h:=YJ k l;have e:(l.map f).sum=((l.take k).map f).sum+((l.drop k).map f).sum:=by rw [<-List.sum_append,<-YZ,h]
 omega
theorem xLD{n v:Val}(hn:n.Fit 1048576)(hv:v.Fit 1048576)(hs:v.size<=1048576):Good1 1048576 (skG n v):=by
 obtain⟨_,_,hst,_,h5,_,_⟩:=Val.fit_iff.1 hv;have hc:=Val.cnt_le v;have hc2:=Cg v;unfold skG;cases g:(zJ n v).2.1
 ·have hg:=OJ hn hv hs;have hnt:AG n v=(zK n v,false):=by unfold AG;rw [g];rfl
  rw [hnt] at hg;unfold skB;by_cases a:n.n<0
  ·rw [Zz a];exact Flat.good (zX (y7 (by omega) (by omega)))
  ·rw [Zy a];cases b:(v.kind==3)
   ·cases c:((zK n v).kind==6)
    ·exact Flat.good (FN (y7 (by omega) (by omega)) (Val.fit_iff.1 hg.1).2.1 hst)
    ·exact⟨hg.1,hg.2.1,fun h=>by cases h⟩
   ·have h1:=xOy Val.cnt v.list (AM n.n v.list.length).toNat;refine⟨H6 (OA h5 _),?_,fun h=>by cases h⟩;show(Val.mk 3 0 0 [] (v.list.drop (AM n.n v.list.length).toNat) [] []).cnt<=_;rw [H5];omega
 ·exact Flat.good (Dn hn hv)
end Go.Ab
end
section
namespace Go.Ab
theorem xKN{i:Int}(h0:0<=i)(h1:i<=8):y8 (y5 i)=true:=by
 have:zC i=true:=by unfold zC;rw [Zz (by omega),Zz (by omega)];rfl
 rw [BZ];simp only [y5,vk,vn,vs,vt,vl,vc,vr,this,show((1:Int)==1)=true from rfl,jT,emp]
 rfl
theorem xLw{n v:Val}(g:(zJ n v).2.1=false){i:Int}(h0:0<=i)(h1:i<=8):(zJ (y5 i) v).2.1=false:=by
 obtain⟨_,hv,_,hk,_⟩:=Hd g;have h6:(v.kind==6)=false:=by rcases hk with h|h <;>rw [h] <;>rfl
 have ho:opG [y5 i,v]=(As,false,false):=by
  simp only [opG,xKN h0 h1,hv,h6,jU,jF,show((y5 i).kind==6)=false from rfl]
 unfold zJ;rw [ho];show Ea (y5 i) v=false;unfold Ea;have e:((y5 i).kind != 1)=false:=rfl;rw [e];rcases hk with h|h <;>rw [h] <;>rfl
def BG(v:Val):Nat->Int->List Val->Val
 |0,_,acc=> .mk 3 0 0 [] acc [] []
 |m+1,i,acc=>bif(zK (y5 i) v).kind==6 then zK (y5 i) v else BG v m (i+1) (acc++ [zK (y5 i) v])
def GD(n v:Val):Val:=bif !(decide (0<=n.n)&&decide (n.n<=8)) then yX 5 else bif v.kind==3 then .mk 3 0 0 [] (v.list.take n.n.toNat) [] [] else BG v n.n.toNat 0 []
def BY(n v:Val):Val×Bool:=bif(zJ n v).2.1 then((zJ n v).1,(zJ n v).2.2) else(GD n v,false)
theorem xIH{N:Nat}{n v z:Val}(hn:n.n<=8)(hnth:∀i:Int,0<=i->i<=8->A7 N (y5 i) v=some (zK (y5 i) v,false)):
 ∀(m:Nat) (i:Int) (acc:List Val) (f:Nat),0<=i->i+m=n.n->acc.length<=1000 - m->m<=8->m<f->EA N f i n v z (.mk 3 0 0 [] acc [] [])=some (BG v m i acc,false):=by
 intro m
 induction m with
 |zero=>
  intro i acc f h0 h1 h2 h3 h4;obtain⟨f,rfl⟩:∃g,f=g+1:=⟨f - 1,by omega⟩;simp only [EA,Zy (by omega:¬i<n.n),jF,BG]
 |succ m ih=>
  intro i acc f h0 h1 h2 h3 h4;obtain⟨f,rfl⟩:∃g,f=g+1:=⟨f - 1,by omega⟩;have hnum:AW N i=some (y5 i):=rfl;simp only [EA,Zz (by omega:i<n.n),jT,hnum,hnth i h0 (by omega),jS,jF,Val.re_eq,vk,vn,vs,vt,vl,vc,vr,BG];cases ((zK (y5 i) v).kind==6)
  ·simp only [jF];rw [Zx (by simp only [jC,jN];unfold Lim;omega),zL (x:=i+1) (by omega) (by omega)];exact ih (i+1) (acc++ [zK (y5 i) v]) f (by omega) (by omega) (by simp only [jA,jC,jN];omega) (by omega) (by omega)
  ·rfl
theorem xOm{N:Nat}{n v z:Val}(hn:n.n<=8)(hk:(v.kind==3)=false)(hnth:∀i:Int,0<=i->i<=8->A4 N (y5 i) v=some (zK (y5 i) v)):
 ∀(m:Nat) (i:Int) (acc:List Val) (f:Nat),0<=i->i+m=n.n->acc.length<=1000 - m->m<=8->m<f->BF N f i n v z (.mk 3 0 0 [] acc [] [])=some (BG v m i acc):=by
 intro m
 induction m with
 |zero=>
  intro i acc f h0 h1 h2 h3 h4;obtain⟨f,rfl⟩:∃g,f=g+1:=⟨f - 1,by omega⟩;simp only [BF,Zy (by omega:¬i<n.n),jF,BG]
 |succ m ih=>
  intro i acc f h0 h1 h2 h3 h4;obtain⟨f,rfl⟩:∃g,f=g+1:=⟨f - 1,by omega⟩;have hnum:AT N i=some (y5 i):=rfl;simp only [BF,Zz (by omega:i<n.n),hk,jT,hnum,hnth i h0 (by omega),jS,jF,Val.re_eq,vk,vn,vs,vt,vl,vc,vr,BG];cases ((zK (y5 i) v).kind==6)
  ·simp only [jF];rw [Zx (by simp only [jC,jN];unfold Lim;omega),zL (x:=i+1) (by omega) (by omega)];exact ih (i+1) (acc++ [zK (y5 i) v]) f (by omega) (by omega) (by simp only [jA,jC,jN];omega) (by omega) (by omega)
  ·rfl
theorem xOl{N:Nat}{n v z:Val}(hn:n.n<=8)(hk:(v.kind==3)=true)(hl:v.list.length<=8)(h6:∀x∈v.list,(x.kind==6)=false)(hnth:∀i:Int,0<=i->i<=8->A4 N (y5 i) v=some (zK (y5 i) v)):
 ∀(m i:Nat) (acc:List Val) (f:Nat),(i:Int)+m=n.n->i<=v.list.length->acc.length<=1000 - m->m<=8->m<f->BF N f i n v z (.mk 3 0 0 [] acc [] [])=some (.mk 3 0 0 [] (acc++(v.list.drop i).take m) [] []):=by
 intro m
 induction m with
 |zero=>
  intro i acc f h1 hi h2 h3 h4;obtain⟨f,rfl⟩:∃g,f=g+1:=⟨f - 1,by omega⟩;simp only [BF,Zy (by omega:¬(i:Int)<n.n),jF,List.take_zero,Zd]
 |succ m ih=>
  intro i acc f h1 hi h2 h3 h4;obtain⟨f,rfl⟩:∃g,f=g+1:=⟨f - 1,by omega⟩;have hnum:AT N i=some (y5 i):=rfl;by_cases he:i=v.list.length
  ·have hb:((i:Int)==(v.list.length:Int))=true:=by rw [he];exact Y6 _
   simp only [BF,Zz (by omega:(i:Int)<n.n),hk,jT,vl,hb];rw [he,Yl,List.take_nil,Zd]
  ·have hlt:i<v.list.length:=by omega
   have hb:((i:Int)==(v.list.length:Int))=false:=by rw [ZX];omega
   have hnb:zK (y5 (i:Int)) v=v.list[i]:=by
    unfold zK;have en:(y5 (i:Int)).n=i:=rfl;rw [en,Zy (by omega:¬(i:Int)<0),hk,Zy (by omega:¬(i:Int)>=(v.list.length:Int))];simp only [Y5,Bool.or_self,jF,jT,jI];simp [List.getD,hlt]
   have hx:=h6 v.list[i] (ZY hlt);simp only [BF,Zz (by omega:(i:Int)<n.n),hk,jT,hb,jF,hnum,hnth i (by omega) (by omega),jS,hnb,hx,Val.re_eq,vk,vn,vs,vt,vl,vc,vr];rw [Zx (by simp only [jC,jN];unfold Lim;omega),zL (x:=(i:Int)+1) (by omega) (by omega)];have e1:((i:Int)+1)=((i+1:Nat):Int):=by omega
   rw [e1,ih (i+1) (acc++ [v.list[i]]) f (by omega) (by omega) (by simp only [jA,jC,jN];omega) (by omega) (by omega)];rw [Yz hlt,List.take_succ_cons,Ze]
   rfl
theorem OB{α:Type}{K:Nat}{p:α->Prop}{l:List α}(h:zE K p l)(k:Nat):zE K p (l.take k):=
 ⟨by have:=h.1;rw [ZR];omega,fun x hx=>h.2 x (Yi hx)⟩
theorem xON{K:Nat}(hK:24<=K/\K<=137438953472){n v:Val}(hn:n.Fit K)(hv:v.Fit K):Big fun N=>Cx N n v=some (BY n v)/\D5 N n v=some (BY n v).1:=by
 obtain⟨_,_,_,_,h5,_,_⟩:=Val.fit_iff.1 hv;have hk:K<=137438953472:=hK.2;have hd:=OB h5 (AM n.n v.list.length).toNat;have hnum:∀i:Nat,i∈List.range 9->Big fun N=>A7 N (y5 (i:Int)) v=some (AG (y5 i) v)/\A4 N (y5 (i:Int)) v=some (AG (y5 i) v).1:=fun i hi=>by
  rw [Yj] at hi;exact Jh hK ((Cn (y7 (by omega) (by omega))).fit K) hv
 refine(((Jq (by omega) hn hv).and (Big.list hnum)).and ((NH hd hk).and (zM 24))).imp fun N ⟨⟨⟨h1,h2⟩,hnth⟩,c1,hN⟩=> ?_;obtain⟨e1,e2,e3,_⟩:=Dn (K:=K) hn hv;cases g:(zJ n v).2.1
 ·obtain⟨gt,gv,_,gk,_⟩:=Hd g;have hs:A9 n v=(As,false):=by unfold A9;rw [g];rfl
  rw [hs] at h2;have hg:∀i:Int,0<=i->i<=8->AG (y5 i) v=(zK (y5 i) v,false):=fun i h0 h1=>by unfold AG;rw [xLw g h0 h1];rfl
  have ni:∀i:Int,0<=i->i<=8->A7 N (y5 i) v=some (zK (y5 i) v,false):=fun i h0 h1=>by
   have:=(hnth i.toNat (Yj.2 (by omega))).1;rw [ZC h0,hg i h0 h1] at this;exact this
  have ns:∀i:Int,0<=i->i<=8->A4 N (y5 i) v=some (zK (y5 i) v):=fun i h0 h1=>by
   have:=(hnth i.toNat (Yj.2 (by omega))).2;rw [ZC h0,hg i h0 h1] at this;exact this
  by_cases a:0<=n.n/\n.n<=8
  ·have ha:(decide (0<=n.n)&&decide (n.n<=8))=true:=by rw [Zz a.1,Zz a.2];rfl
   cases b:(v.kind==3)
   ·have l1:=xIH (N:=N) (n:=n) (v:=v) (z:=Val.mk 0 0 0 [] [] [] []) a.2 ni n.n.toNat 0 [] N (by omega) (by omega) (by simp) (by omega) (by omega);have l2:=xOm (N:=N) (n:=n) (v:=v) (z:=Val.mk 0 0 0 [] [] [] []) a.2 b ns n.n.toNat 0 [] N (by omega) (by omega) (by simp) (by omega) (by omega);simp only [Cx,D5,h1,h2,jS,g,gt,jF,DE,Ew,ha,jU,b,l1,l2,BY,GD]
    first |exact⟨rfl,rfl⟩|exact⟨trivial,trivial⟩
   ·obtain⟨q1,q2⟩:=xKy gv (eq_of_beq b);have l2:=xOl (N:=N) (n:=n) (v:=v) (z:=Val.mk 0 0 0 [] [] [] []) a.2 b q1 q2 ns n.n.toNat 0 [] N (by omega) (by omega) (by simp) (by omega) (by omega);have hm:0<=AM n.n v.list.length/\AM n.n v.list.length<=(v.list.length:Int):=by unfold AM;split <;>omega
    have him:(if(v.list.length:Int)<n.n then(v.list.length:Int) else n.n)=AM n.n v.list.length:=rfl;have ht:v.list.take (AM n.n v.list.length).toNat=v.list.take n.n.toNat:=by
     unfold AM;split
     ·rw [jI,ZI,Xm (by omega)]
     ·rfl
    rw [ht] at c1;simp only [Int.ofNat_zero,Xy,jM] at l2;simp only [Cx,D5,h1,h2,jS,g,gt,jF,jT,DE,Ew,ha,jU,b,him,Zx hm,ht,Cu,c1,BY,GD]
    first |exact⟨rfl,l2⟩|exact⟨trivial,l2⟩
  ·have ha:(decide (0<=n.n)&&decide (n.n<=8))=false:=by
    by_cases a0:0<=n.n
    ·rw [Zy (by omega:¬n.n<=8),Y5]
    ·rw [Zy a0,ZQ]
   simp only [Cx,D5,h1,h2,jS,g,gt,jF,jT,DE,Ew,ha,jV,yT,yV,BY,GD]
   first |exact⟨rfl,rfl⟩|exact⟨trivial,trivial⟩
 ·have hs:A9 n v=((zJ n v).1,true):=by unfold A9;rw [g];rfl
  rw [hs] at h2;refine⟨?_,?_⟩
  ·simp only [Cx,h1,jS,g,jT,BY];cases (zJ n v).2.2 <;>rfl
  ·simp only [D5,h2,jS,g,jT,BY]
theorem xOA(f:Val->Nat)(l:List Val)(k:Nat):((l.take k).map f).sum<=(l.map f).sum:=by
 have h:=YJ k l;have e:(l.map f).sum=((l.take k).map f).sum+((l.drop k).map f).sum:=by rw [<-List.sum_append,<-YZ,h]
 omega
theorem xKL{i:Int}{v:Val}(hk:(v.kind==3)=false):Flat (zK (y5 i) v):=by
 unfold zK;rw [hk];cases decide ((y5 i).n<0)
 ·exact M6 _
 ·exact zX (y7 (by omega) (by omega))
theorem xOM{v:Val}(hk:(v.kind==3)=false):∀(m:Nat) (i:Int) (acc:List Val),(∀x∈acc,Flat x)->acc.length<=100 - m->m<=8->(BG v m i acc).Fit 1048576/\(BG v m i acc).cnt<=100000000000:=by
 intro m
 induction m with
 |zero=>
  intro i acc h hl hm;refine⟨H6 ⟨by omega,fun x hx=>(h x hx).fit _⟩,?_⟩;show(Val.mk 3 0 0 [] acc [] []).cnt<=_;rw [H5,I7 fun x hx=>(h x hx).cnt];omega
 |succ m ih=>
  intro i acc h hl hm;have hf:=xKL (i:=i) hk;unfold BG;cases ((zK (y5 i) v).kind==6)
  ·exact ih (i+1) (acc++ [zK (y5 i) v]) (fun x hx=>by
    rcases Z6.1 hx with hx|hx
    ·exact h x hx
    ·rw [Zf] at hx;rw [hx];exact hf) (by simp only [jA,jC,jN];omega) (by omega)
  ·exact⟨hf.fit _,by show(zK (y5 i) v).cnt<=_;rw [hf.cnt];omega⟩
theorem xOO{n v:Val}(hn:n.Fit 1048576)(hv:v.Fit 1048576)(hs:v.size<=1048576):Good1 1048576 (BY n v):=by
 obtain⟨_,_,hst,_,h5,_,_⟩:=Val.fit_iff.1 hv;have hc:=Val.cnt_le v;have hc2:=Cg v;unfold BY;cases g:(zJ n v).2.1
 ·unfold GD;cases a:(decide (0<=n.n)&&decide (n.n<=8))
  ·exact Flat.good (zX (y7 (by omega) (by omega)))
  ·simp only [Zs,ZU] at a;cases b:(v.kind==3)
   ·obtain⟨h1,h2⟩:=xOM b n.n.toNat 0 [] (fun x hx=>by cases hx) (by simp) (by omega);exact⟨h1,h2,fun h=>by cases h⟩
   ·have h1:=xOA Val.cnt v.list n.n.toNat;refine⟨H6 (OB h5 _),?_,fun h=>by cases h⟩;show(Val.mk 3 0 0 [] (v.list.take n.n.toNat) [] []).cnt<=_;rw [H5];omega
 ·exact Flat.good (Dn hn hv)
end Go.Ab
end
section
open Go.IntKind (i64)
namespace Go.Ab
def xAL(i k:Int)(r:Rowd):Int:=i64.wrap (r.cells.getD i.toNat Di+r.cells.getD k.toNat Di)
def Ce(i k:Int)(r:Rowd):Bool:=zC (xAL i k r)
def AY(i k:Int)(r:Rowd):Rowd:=⟨r.cells++ [xAL i k r],r.frm⟩
def GL(i k:Int)(nm:Str)(t:Val):Val:=bif t.rows.all (Ce i k) then .mk t.kind t.n t.step t.text t.list (t.columns++ [nm]) (t.rows.map (AY i k)) else yX 5
theorem Kf{i k:Int}{rows q:List Rowd}{j:Nat}{x:Rowd}{l:List Rowd}(hd:rows.drop j=x::l)(hq:q=(rows.take j).map (AY i k)++rows.drop j):
 q[j]? =some x/\q.length=rows.length/\q.set j (AY i k x)=(rows.take (j+1)).map (AY i k)++rows.drop (j+1):=by
 obtain⟨h1,h2,h3⟩:=A0 hd;have hl:((rows.take j).map (AY i k)).length=j:=by rw [Zq,ZR];omega
 subst hq;refine⟨?_,?_,?_⟩
 ·rw [Z7 (by omega),hl,Xo,hd];rfl
 ·rw [jA,hl,Ym];omega
 ·rw [List.set_append_right _ _ (by omega),hl,Xo,hd,List.set_cons_zero,Xs,h2,h3];simp
theorem xNj{N:Nat}{x11 x12:Int}{v z:Val}{k n s:Int}{t:Str}{li:List Val}{cs:List Str}(hl:v.rows.length<=1048576)(hN:1048576<N)
 (h1:∀r∈v.rows,(0<=x11/\x11<(r.cells.length:Int))/\(0<=x12/\x12<(r.cells.length:Int))/\r.cells.length<=1048576):
 C4 N N x11 x12 0 v z (.mk k n s t li cs v.rows)=some (bif v.rows.all (Ce x11 x12) then .mk k n s t li cs (v.rows.map (AY x11 x12)) else yX 5):=by
 refine zG (L:=fun m i q=>C4 N m x11 x12 i v z (.mk k n s t li cs q)) v.rows (fun l q=>bif l.all (Ce x11 x12) then .mk k n s t li cs (v.rows.map (AY x11 x12)) else yX 5)
  (fun i q=>q=(v.rows.take i).map (AY x11 x12)++v.rows.drop i) (fun m q hq=> ?_) (fun i x l q hd hi hx hq=> ?_) N 0 v.rows (by simp) (by omega) (by omega)
 ·rw [ZI,Yl,Zd] at hq;subst hq;simp only [C4,vr,Zq,Z0,Z2,jF,List.all_nil,jT]
 ·obtain⟨c1,c2,c3⟩:=Kf (i:=x11) (k:=x12) hd hq;have hm:=Zt hx;obtain⟨b1,b2,b3⟩:=h1 x hm;have hi' :(i:Int)<(v.rows.length:Int):=by omega
  cases ho:Ce x11 x12 x
  ·refine .inr fun m=> ?_;simp only [C4,vr,c2,Zz hi',jT,jI,yR hx,Bt,jS,show zC (i64.wrap (x.cells.getD x11.toNat Di+x.cells.getD x12.toNat Di))=false from ho,jV,yV,List.all_cons,ho,ZQ,jF];rw [Zx (by omega),Zx b1,Zx b2];rfl
  ·refine .inl ⟨_,c3,by simp [ho],fun m=> ?_⟩;simp only [C4,vk,vn,vs,vt,vl,vc,vr,c2,Zz hi',jT,jI,yR hx,yR c1,Bt,jS,show zC (i64.wrap (x.cells.getD x11.toNat Di+x.cells.getD x12.toNat Di))=true from ho,jU,jF,yU hi (by omega:v.rows.length<=_)];rw [Zx (by omega),Zx b1,Zx b2,Zx (by omega),Zx (by simp only [jC,jN];unfold Lim;omega)];rfl
theorem xHY{N:Nat}{x11 x12:Int}{v z:Val}{k n s:Int}{t:Str}{li:List Val}{cs:List Str}(hl:v.rows.length<=1048576)(hN:1048576<N)
 (h1:∀r∈v.rows,(0<=x11/\x11<(r.cells.length:Int))/\(0<=x12/\x12<(r.cells.length:Int))/\r.cells.length<=1048576):
 B7 N N x11 x12 v.rows v.rows.length 0 z (.mk k n s t li cs v.rows)=some ((bif v.rows.all (Ce x11 x12) then .mk k n s t li cs (v.rows.map (AY x11 x12)) else yX 5),false):=by
 refine zG (L:=fun m i q=>B7 N m x11 x12 v.rows v.rows.length i z (.mk k n s t li cs q)) v.rows (fun l q=>((bif l.all (Ce x11 x12) then .mk k n s t li cs (v.rows.map (AY x11 x12)) else yX 5),false))
  (fun i q=>q=(v.rows.take i).map (AY x11 x12)++v.rows.drop i) (fun m q hq=> ?_) (fun i x l q hd hi hx hq=> ?_) N 0 v.rows (by simp) (by omega) (by omega)
 ·rw [ZI,Yl,Zd] at hq;subst hq;simp only [B7,vr,Z0,Z2,jF,List.all_nil,jT]
 ·obtain⟨c1,c2,c3⟩:=Kf (i:=x11) (k:=x12) hd hq;have hm:=Zt hx;obtain⟨b1,b2,b3⟩:=h1 x hm;have hi' :(i:Int)<(v.rows.length:Int):=by omega
  cases ho:Ce x11 x12 x
  ·refine .inr fun m=> ?_;simp only [B7,vr,c2,Zz hi',jT,jI,yR hx,DA,jS,show zC (i64.wrap (x.cells.getD x11.toNat Di+x.cells.getD x12.toNat Di))=false from ho,jV,yT,List.all_cons,ho,ZQ,jF];rw [Zx (by omega),Zx b1,Zx b2];rfl
  ·refine .inl ⟨_,c3,by simp [ho],fun m=> ?_⟩;simp only [B7,vk,vn,vs,vt,vl,vc,vr,c2,Zz hi',jT,jI,yR hx,yR c1,DA,jS,show zC (i64.wrap (x.cells.getD x11.toNat Di+x.cells.getD x12.toNat Di))=true from ho,jU,jF,yU hi (by omega:v.rows.length<=_)];rw [Zx (by omega),Zx b1,Zx b2,Zx (by omega),Zx (by simp only [jC,jN];unfold Lim;omega)];rfl
def AD(m a b t:Val):Val×Bool:=bif(yW [2,2,2,5] [m,a,b,t]).2.1 then((yW [2,2,2,5] [m,a,b,t]).1,(yW [2,2,2,5] [m,a,b,t]).2.2) else
 (bif !BI m.text then yX 7 else bif decide (yS t.columns m.text 0>=0) then yX 7 else bif decide (yS t.columns a.text 0<0) then yX 7 else bif decide (yS t.columns b.text 0<0) then yX 7 else
   bif decide ((t.columns.length:Int)>=4) then yX 6 else GL (yS t.columns a.text 0) (yS t.columns b.text 0) m.text t,false)
theorem kb4{a b c d:Val}{x y z w:Int}(h:kb [a,b,c,d] [x,y,z,w]=false):a.kind=x/\b.kind=y/\c.kind=z/\d.kind=w:=by
 simp only [kb,ZS,bne_eq_false_iff_eq] at h;exact⟨h.1,h.2.1,h.2.2.1,h.2.2.2.1⟩
theorem Ih{K:Nat}{a b c d:Val}(ha:a.Fit K)(hb:b.Fit K)(hc:c.Fit K)(hd:d.Fit K):∀x∈ [a,b,c,d],x.Fit K:=fun x hx=>by
 simp only [Zl,ZT,or_false] at hx;rcases hx with rfl|rfl|rfl|rfl
 ·exact ha
 ·exact hb
 ·exact hc
 ·exact hd
theorem LF{c:List Str}(h:AJ c=true):c.length<=4:=by
 unfold AJ at h;simp only [Zs,ZU] at h;omega
theorem Mj{cols:List Str}{s:Str}(h:¬yS cols s 0<0):0<=yS cols s 0/\yS cols s 0<(cols.length:Int):=by
 rcases FO (s:=s) (xs:=cols) (j:=0) with h|⟨_,h⟩ <;>omega
theorem xCE{K:Nat}(hK:24<=K/\K<=1048576){m a b v:Val}(hm:m.Fit K)(ha:a.Fit K)(hb:b.Fit K)(hv:v.Fit K):Big fun N=>BL N m a b v=some (AD m a b v)/\BU N m a b v=some (AD m a b v).1:=by
 obtain⟨_,_,_,_,_,h6,h7⟩:=Val.fit_iff.1 hv;obtain⟨_,_,_,hmt,_,_,_⟩:=Val.fit_iff.1 hm;have hc:v.columns.length<=K:=h6.1;have hrl:v.rows.length<=K:=h7.1;have hmt:m.text.length<=K:=hmt;refine(((Bi (by omega) (vs:=[m,a,b,v]) (ks:=[2,2,2,5]) (Ih hm ha hb hv) (by simp;omega) rfl).and (zM 1048576)).and ((xAq (by omega:K<=_) v hv).diag.and (JB (by omega:K<=_) v hv).diag)).imp fun N ⟨⟨⟨h1,h2⟩,hN⟩,cp1,cp2⟩=> ?_;have cp1:D9 N v=some v:=cp1;have cp2:Cy N v=some v:=cp2;obtain⟨e1,e2,e3,_⟩:=Ay (ks:=[2,2,2,5]) (Ih hm ha hb hv);have i1:=fun s=>B8 (N:=N) (v:=v) (s:=s) (by omega) (by omega);have i2:=fun s=>BD (N:=N) (v:=v) (s:=s) (by omega) (by omega);have n1:=Mu (N:=N) (s:=m.text) (by omega) (by omega);have n2:=xAd (N:=N) (s:=m.text) (by omega) (by omega) (by omega);cases g1:(yW [2,2,2,5] [m,a,b,v]).2.1
 ·have htag:=Bk g1;obtain⟨g2,g3⟩:=Bj g1;have hk5:=(kb4 g3).2.2.2;have hrows:=Bw (g2 v (by simp)) hk5;obtain⟨hco,hr12⟩:=Cf (g2 v (by simp)) hk5;have hc4:=LF hco;cases hnm:BI m.text
  ·exact⟨by simp only [BL,Val.re_eq,h1,jS,g1,htag,jF,i1,n1,hnm,jV,jT,yT,AD];rfl,by simp only [BU,Val.re_eq,h2,jS,g1,jF,i2,n2,hnm,jV,jT,yV,AD];rfl⟩
  by_cases d1:yS v.columns m.text 0>=0
  ·exact⟨by simp only [BL,Val.re_eq,h1,jS,g1,htag,jF,i1,n1,hnm,jU,Zz d1,jT,yT,AD];rfl,by simp only [BU,Val.re_eq,h2,jS,g1,jF,i2,n2,hnm,jU,Zz d1,jT,yV,AD];rfl⟩
  by_cases d2:yS v.columns a.text 0<0
  ·exact⟨by simp only [BL,Val.re_eq,h1,jS,g1,htag,jF,i1,n1,hnm,jU,Zy d1,Zz d2,jT,yT,AD];rfl,by simp only [BU,Val.re_eq,h2,jS,g1,jF,i2,n2,hnm,jU,Zy d1,Zz d2,jT,yV,AD];rfl⟩
  by_cases d3:yS v.columns b.text 0<0
  ·exact⟨by simp only [BL,Val.re_eq,h1,jS,g1,htag,jF,i1,n1,hnm,jU,Zy d1,Zy d2,Zz d3,jT,yT,AD];rfl,by simp only [BU,Val.re_eq,h2,jS,g1,jF,i2,n2,hnm,jU,Zy d1,Zy d2,Zz d3,jT,yV,AD];rfl⟩
  have q1:=Mj d2;have q2:=Mj d3;have hat:∀r∈v.rows,(0<=yS v.columns a.text 0/\yS v.columns a.text 0<(r.cells.length:Int))/\(0<=yS v.columns b.text 0/\yS v.columns b.text 0<(r.cells.length:Int))/\r.cells.length<=1048576:=fun r hr=>by
   rw [hrows r hr];exact⟨q1,q2,by omega⟩
  by_cases d4:v.columns.length=4
  ·have e4:((v.columns.length:Int)==4)=true:=by rw [d4];rfl
   have e5:decide ((v.columns.length:Int)>=4)=true:=Zz (by omega);exact⟨by simp only [BL,Val.re_eq,h1,jS,g1,htag,jF,i1,n1,hnm,jU,Zy d1,Zy d2,Zy d3,e5,jT,yT,AD];rfl,by simp only [BU,Val.re_eq,h2,jS,g1,jF,i2,n2,hnm,jU,Zy d1,Zy d2,Zy d3,e4,e5,jT,yV,AD];rfl⟩
  ·have e4:((v.columns.length:Int)==4)=false:=ZX.2 (by omega);have e5:decide ((v.columns.length:Int)>=4)=false:=Zy (by omega);have hlim:v.columns.length+List.length [m.text]<=Lim:=by simp only [jC,jN];unfold Lim;omega
   have l1:=xHY (N:=N) (v:=v) (z:=Val.mk 0 0 0 [] [] [] []) (k:=v.kind) (n:=v.n) (s:=v.step) (t:=v.text) (li:=v.list) (cs:=v.columns++ [m.text]) (by omega) hN hat;have l2:=xNj (N:=N) (v:=v) (z:=Val.mk 0 0 0 [] [] [] []) (k:=v.kind) (n:=v.n) (s:=v.step) (t:=v.text) (li:=v.list) (cs:=v.columns++ [m.text]) (by omega) hN hat;refine⟨?_,?_⟩
   ·simp only [BL,Val.re_eq,h1,jS,g1,htag,jF,i1,n1,hnm,jU,Zy d1,Zy d2,Zy d3,e5,cp2,Zx hlim,l1,AD,GL]
   ·simp only [BU,Val.re_eq,h2,jS,g1,jF,i2,n2,hnm,jU,Zy d1,Zy d2,Zy d3,e4,e5,cp1,Zx hlim,l2,AD,GL]
 ·refine⟨?_,?_⟩
  ·simp only [BL,Val.re_eq,h1,jS,e1,e2,e3,jE,ZE,A1 e1 e2 e3,g1,jT,AD];cases (yW [2,2,2,5] [m,a,b,v]).2.2 <;>rfl
  ·simp only [BU,Val.re_eq,h2,jS,g1,jT,AD]
theorem xOK{v:Val}(hv:y8 v=true)(hk:v.kind=5):v.list=[]:=by
 rw [BZ,hk] at hv;simp only [show((5:Int)==1)=false from rfl,show((5:Int)==2)=false from rfl,show((5:Int)==4)=false from rfl,show((5:Int)==6)=false from rfl,show((5:Int)==5)=true from rfl,jT,jF,Zs,emp,ZU] at hv;exact Z1.1 hv.1
theorem xCD{m a b v:Val}(hm:m.Fit 1048576)(ha:a.Fit 1048576)(hb:b.Fit 1048576)(hv:v.Fit 1048576):Good1 1048576 (AD m a b v):=by
 obtain⟨v1,v2,v3,v4,v5,h6,h7⟩:=Val.fit_iff.1 hv;obtain⟨_,_,_,hmt,_,_,_⟩:=Val.fit_iff.1 hm;have err:∀c:Int,(0<=c/\c<=10)->Good1 1048576 (yX c,false):=fun c hc=>Flat.good (r:=(yX c,false)) (zX (y7 (by omega) (by omega)));unfold AD;cases g1:(yW [2,2,2,5] [m,a,b,v]).2.1
 ·obtain⟨g2,g3⟩:=Bj g1;have hk5:=(kb4 g3).2.2.2;obtain⟨hco,hr12⟩:=Cf (g2 v (by simp)) hk5;have hc4:=LF hco;have hrows:=Bw (g2 v (by simp)) hk5;have hnl:=xOK (g2 v (by simp)) hk5;simp only [jF];cases !BI m.text
  case true=>exact err 7 (by omega)
  cases decide (yS v.columns m.text 0>=0)
  case true=>exact err 7 (by omega)
  cases decide (yS v.columns a.text 0<0)
  case true=>exact err 7 (by omega)
  cases decide (yS v.columns b.text 0<0)
  case true=>exact err 7 (by omega)
  cases decide ((v.columns.length:Int)>=4)
  case true=>exact err 6 (by omega)
  simp only [jF];unfold GL;cases v.rows.all (Ce (yS v.columns a.text 0) (yS v.columns b.text 0))
  case false=>exact err 5 (by omega)
  simp only [jT];refine⟨Val.fit_iff.2 ⟨v1,v2,v3,v4,v5,⟨?_,fun x hx=> ?_⟩,⟨?_,fun r hr=> ?_⟩⟩,?_,fun h=>by cases h⟩
  ·show(v.columns++ [m.text]).length<=_;simp only [jA,jC,jN];omega
  ·rcases Z6.1 hx with hx|hx
   ·exact h6.2 x hx
   ·obtain rfl:=Zf.1 hx;exact hmt
  ·show(v.rows.map _).length<=_;rw [Zq];omega
  ·obtain⟨x,hx,rfl⟩:=Zh.1 hr;have hx7:=h7.2 x hx;refine⟨⟨?_,fun z hz=> ?_⟩,hx7.2⟩
   ·simp only [AY,jA,jC,jN,hrows x hx];omega
   ·simp only [AY] at hz;rcases Z6.1 hz with hz|hz
    ·exact hx7.1.2 z hz
    ·obtain rfl:=Zf.1 hz;exact Mg _
  ·show(Val.mk v.kind v.n v.step v.text v.list _ _).cnt<=_;rw [Cg,vl,vc,vr,hnl,Aw,Y4]
   have:=Bv (f:=zQ ∘ AY (yS v.columns a.text 0) (yS v.columns b.text 0)) (l:=v.rows) (a:=4000000) (fun x hx=>by
    have e1:x.frm.length<=1048576:=(h7.2 x hx).2.1;have e2:=Bv (f:=Af) (l:=x.frm) (a:=2) (fun _ _=>Zg _);simp only [Function.comp,AY,zQ,Aw,jA,jC,jN,hrows x hx];omega)
   simp only [ZD,List.sum_nil,jA,jC,jN];omega
 ·exact Flat.good (CP (Ih hm ha hb hv))
end Go.Ab
end
section
namespace Go.Ab
def dd(n:Nat):Str:=if n=0 then [] else Lib.decDigits n
end Go.Ab
end
section
namespace Go.Ab
theorem I4{α:Type}{b:Bool}{x y:Option α}(h1:∃r,x=some r)(h2:∃r,y=some r):∃r,(bif b then x else y)=some r:=by cases b <;>assumption
def Am(s:Str):Int:=(Bl 0 s).getD 0
theorem Ok(N:Nat)(s:Str):Bl N s=some (Am s):=by
 have key:∃r,Bl 0 s=some r:=by
  unfold Bl
  repeat (first |exact⟨_,rfl⟩|refine I4 ⟨_,rfl⟩ ?_)
 obtain⟨r,hr⟩:=key;show Bl 0 s=_;rw [Am,hr];rfl
theorem xGr(N:Nat)(s:Str):Du N s=some (Am s):=(show Du N s=Bl N s from rfl).trans (Ok N s)
end Go.Ab
end
section
namespace Go.Ab
def DJ(v:Val):Val×Bool:=bif(opG [v]).2.1 then((opG [v]).1,(opG [v]).2.2) else(bif v.kind==3 then y5 v.list.length else bif v.kind==2 then y5 v.text.length else yX 4,false)
theorem xKu{K:Nat}(hK:24<=K/\K<=4611686018427387903){v:Val}(h:v.Fit K):Big fun N=>Gc N v=some (DJ v)/\Hz N v=some (DJ v).1:=by
 refine(H9 hK (l:=[v]) (Ff h) (by simp;omega)).imp fun N ⟨h1,h2⟩=> ?_;obtain⟨e1,e2,e3,_⟩:=Fg (l:=[v]);have hz:∀n:Int,Val.mk 1 n 0 [] [] [] []=y5 n:=fun _=>rfl;refine⟨?_,?_⟩
 ·simp only [Gc,Val.re_eq,h1,jS,e1,e2,e3,jE,ZE,A1 e1 e2 e3,AW,yT,hz,DJ];cases g1:(opG [v]).2.1
  ·rw [Fh g1];cases v.kind==3 <;>cases v.kind==2 <;>rfl
  ·cases (opG [v]).2.2 <;>rfl
 ·simp only [Hz,Val.re_eq,h2,jS,AT,yV,hz,DJ];cases g1:(opG [v]).2.1
  ·cases v.kind==3 <;>cases v.kind==2 <;>rfl
  ·rfl
theorem xKr{K:Nat}(hK:K<=4611686018427387903){v:Val}(h:v.Fit K):Flat (DJ v).1:=by
 obtain⟨_,_,_,h4,h5,_⟩:=Val.fit_iff.1 h;have h4:v.text.length<=K:=h4;have h5:v.list.length<=K:=h5.1;unfold DJ;cases (opG [v]).2.1
 ·cases v.kind==3
  ·cases v.kind==2
   ·exact zX (y7 (by omega) (by omega))
   ·exact Cn ⟨by omega,by omega⟩
  ·exact Cn ⟨by omega,by omega⟩
 ·exact GX (Ff h)
def Fk(a b:Val):Val×Bool:=bif(yW [1,1] [a,b]).2.1 then((yW [1,1] [a,b]).1,(yW [1,1] [a,b]).2.2) else(.mk 4 a.n b.n [] [] [] [],false)
theorem xLg{K:Nat}{a b:Val}(ha:a.Fit K)(hb:b.Fit K):Flat (Fk a b).1:=by
 have h:=CP (ks:=[1,1]) (l:=[a,b]) (K:=K) fun x hx=>by simp at hx;rcases hx with rfl|rfl <;>assumption
 unfold Fk;cases (yW [1,1] [a,b]).2.1
 ·exact FN (y7 (by omega) (by omega)) (Val.fit_iff.1 ha).2.1 (Val.fit_iff.1 hb).2.1
 ·exact h
def cas(s:Str)(l:List Val):Val×Bool:=
 let g:=fun i=>l.getD i Dv
 bif s== [108,101,110] then DJ (g 0) else bif s== [115,117,109] then Dg (g 0) else bif s== [114,111,119,115] then Cl (g 0) else
 bif s== [116,97,107,101] then BY (g 0) (g 1) else bif s== [115,107,105,112] then skG (g 0) (g 1) else bif s== [110,116,104] then AG (g 0) (g 1) else
 bif s== [107,101,101,112] then Bh (g 0) (g 1) else bif s== [99,111,108,117,109,110] then Ax (g 0) (g 1) else bif s== [116,97,98,108,101] then Bx (g 0) (g 1) else
 bif s== [119,104,101,114,101] then whG (g 0) (g 1) (g 2) else bif s== [103,114,111,117,112] then A2 (g 0) (g 1) (g 2) else bif s== [106,111,105,110] then Ai (g 0) (g 1) (g 2) else
 bif s== [97,100,100] then AD (g 0) (g 1) (g 2) (g 3) else bif s== [114,97,110,103,101] then Fk (g 0) (g 1) else(yX 4,false)
def AU(s:Str)(l:List Val):Val×Bool:=bif(l.length:Int) != Am s then(yX 4,false) else cas s l
def xAQ(r:Val×Bool):Option (Val×Bool):=bif r.2 then some (r.1,true) else some (r.1,false)
theorem xOL(r:Val×Bool):xAQ r=some r:=by obtain⟨x,b⟩:=r;cases b <;>rfl
theorem Ag{s:Str}{l:List Val}{r:Val×Bool}{f:Nat->Option (Val×Bool)}{g:Nat->Option Val}(h:Big fun N=>f N=some r/\g N=some r.1)(e:AU s l=r)
 (h1:∀N,BA N s l=Option.bind (f N) xAQ) (h2:∀N,Bm N s l=Option.bind (g N) some):Big fun N=>BA N s l=some (AU s l)/\Bm N s l=some (AU s l).1:=
 h.imp fun N ⟨a,b⟩=>⟨by rw [h1,a,e];exact xOL r,by rw [h2,b,e];rfl⟩
theorem xEh{s:Str}{l:List Val}(h:((l.length:Int) != Am s)=true)(N:Nat):BA N s l=some (AU s l)/\Bm N s l=some (AU s l).1:=by
 have he:∃b,Gs N s=some b:=by
  unfold Gs;exact I4 ⟨_,rfl⟩ (I4 ⟨_,rfl⟩ ⟨_,rfl⟩)
 obtain⟨b,hb⟩:=he;refine⟨?_,?_⟩
 ·simp only [BA,hb,xGr,jS,h,jT,yT,AU];cases b <;>rfl
 ·simp only [Bm,Ok,jS,h,jT,yV,AU]
  rfl
theorem xKJ(s:Str):Am s= -1\/s∈([[99,108,111,99,107],[108,101,110],[115,117,109],[114,111,119,115],[99,104,97,110,99,101],[102,105,108,101],[116,97,107,101],[115,107,105,112],[114,97,110,103,101],[110,116,104],[107,101,101,112],[99,111,108,117,109,110],[116,97,98,108,101],[119,104,101,114,101],[103,114,111,117,112],[106,111,105,110],[97,100,100]]:List Str):=by
 by_cases h:s∈([[99,108,111,99,107],[108,101,110],[115,117,109],[114,111,119,115],[99,104,97,110,99,101],[102,105,108,101],[116,97,107,101],[115,107,105,112],[114,97,110,103,101],[110,116,104],[107,101,101,112],[99,111,108,117,109,110],[116,97,98,108,101],[119,104,101,114,101],[103,114,111,117,112],[106,111,105,110],[97,100,100]]:List Str)
 ·exact .inr h
 ·refine .inl ?_;simp only [Zl,ZT,or_false,not_or,<-ZX] at h;simp only [Am,Bl,h,jF]
  rfl
theorem Fd{l:List Val}(h:l.length=1):∃a,l=[a]:=by
 match l,h with
 | [a],_=>exact⟨a,rfl⟩
theorem DI{l:List Val}(h:l.length=2):∃a b,l=[a,b]:=by
 match l,h with
 | [a,b],_=>exact⟨a,b,rfl⟩
theorem J9{l:List Val}(h:l.length=3):∃a b c,l=[a,b,c]:=by
 match l,h with
 | [a,b,c],_=>exact⟨a,b,c,rfl⟩
theorem xKq{l:List Val}(h:l.length=4):∃a b c d,l=[a,b,c,d]:=by
 match l,h with
 | [a,b,c,d],_=>exact⟨a,b,c,d,rfl⟩
theorem Ki{s:Str}{l:List Val}{P:Str->List Val->Prop}(h:((l.length:Int) != Am s)=false)(z:P [99,108,111,99,107] [])
 (o1:∀a,l=[a]->∀s∈([[108,101,110],[115,117,109],[114,111,119,115],[99,104,97,110,99,101],[102,105,108,101]]:List Str),P s [a])
 (o2:∀a b,l=[a,b]->∀s∈([[116,97,107,101],[115,107,105,112],[114,97,110,103,101],[110,116,104],[107,101,101,112],[99,111,108,117,109,110],[116,97,98,108,101]]:List Str),P s [a,b])
 (o3:∀a b c,l=[a,b,c]->∀s∈([[119,104,101,114,101],[103,114,111,117,112],[106,111,105,110]]:List Str),P s [a,b,c])
 (o4:∀a b c d,l=[a,b,c,d]->P [97,100,100] [a,b,c,d]):P s l:=by
 have h:(l.length:Int)=Am s:=by simpa using h
 rcases xKJ s with e|hs
 ·rw [e] at h;omega
 ·simp only [Zl,ZT,or_false] at hs;have f:∀(k:Nat) (t:Str),s=t->Am t=(k:Int)->l.length=k:=fun k t e1 e2=>by rw [e1,e2] at h;omega
  rcases hs with e|e|e|e|e|e|e|e|e|e|e|e|e|e|e|e|e
  ·obtain rfl:l=[]:=Z1.1 (f 0 _ e (by kernel_rfl));rw [e];exact z
  ·obtain⟨a,q⟩:=Fd (f 1 _ e (by kernel_rfl));rw [e,q];exact o1 a q _ (by simp)
  ·obtain⟨a,q⟩:=Fd (f 1 _ e (by kernel_rfl));rw [e,q];exact o1 a q _ (by simp)
  ·obtain⟨a,q⟩:=Fd (f 1 _ e (by kernel_rfl));rw [e,q];exact o1 a q _ (by simp)
  ·obtain⟨a,q⟩:=Fd (f 1 _ e (by kernel_rfl));rw [e,q];exact o1 a q _ (by simp)
  ·obtain⟨a,q⟩:=Fd (f 1 _ e (by kernel_rfl));rw [e,q];exact o1 a q _ (by simp)
  ·obtain⟨a,b,q⟩:=DI (f 2 _ e (by kernel_rfl));rw [e,q];exact o2 a b q _ (by simp)
  ·obtain⟨a,b,q⟩:=DI (f 2 _ e (by kernel_rfl));rw [e,q];exact o2 a b q _ (by simp)
  ·obtain⟨a,b,q⟩:=DI (f 2 _ e (by kernel_rfl));rw [e,q];exact o2 a b q _ (by simp)
  ·obtain⟨a,b,q⟩:=DI (f 2 _ e (by kernel_rfl));rw [e,q];exact o2 a b q _ (by simp)
  ·obtain⟨a,b,q⟩:=DI (f 2 _ e (by kernel_rfl));rw [e,q];exact o2 a b q _ (by simp)
  ·obtain⟨a,b,q⟩:=DI (f 2 _ e (by kernel_rfl));rw [e,q];exact o2 a b q _ (by simp)
  ·obtain⟨a,b,q⟩:=DI (f 2 _ e (by kernel_rfl));rw [e,q];exact o2 a b q _ (by simp)
  ·obtain⟨a,b,c,q⟩:=J9 (f 3 _ e (by kernel_rfl));rw [e,q];exact o3 a b c q _ (by simp)
  ·obtain⟨a,b,c,q⟩:=J9 (f 3 _ e (by kernel_rfl));rw [e,q];exact o3 a b c q _ (by simp)
  ·obtain⟨a,b,c,q⟩:=J9 (f 3 _ e (by kernel_rfl));rw [e,q];exact o3 a b c q _ (by simp)
  ·obtain⟨a,b,c,d,q⟩:=xKq (f 4 _ e (by kernel_rfl));rw [e,q];exact o4 a b c d q
theorem xEg{s:Str}{l:List Val}(h:zE 1048576 (Val.Fit 1048576) l):Big fun N=>BA N s l=some (AU s l)/\Bm N s l=some (AU s l).1:=by
 cases hn:((l.length:Int) != Am s)
 ·refine Ki (P:=fun s l=>Big fun N=>BA N s l=some (AU s l)/\Bm N s l=some (AU s l).1) hn (Big.of fun N=>⟨by kernel_rfl,by kernel_rfl⟩) (fun a e s hs=> ?_) (fun a b e s hs=> ?_) (fun a b c e s hs=> ?_) (fun a b c d e=> ?_)
  ·have fa:a.Fit 1048576:=h.2 a (by simp [e]);simp only [Zl,ZT,or_false] at hs;rcases hs with rfl|rfl|rfl|rfl|rfl
   ·exact Ag (xKu (by omega) fa) (by kernel_rfl) (fun N=>by kernel_rfl) (fun N=>by kernel_rfl)
   ·exact Ag (xOz (by omega) fa) (by kernel_rfl) (fun N=>by kernel_rfl) (fun N=>by kernel_rfl)
   ·exact Ag (xEl (by omega) fa) (by kernel_rfl) (fun N=>by kernel_rfl) (fun N=>by kernel_rfl)
   ·exact Big.of fun N=>⟨by kernel_rfl,by kernel_rfl⟩
   ·exact Big.of fun N=>⟨by kernel_rfl,by kernel_rfl⟩
  ·have fa:a.Fit 1048576:=h.2 a (by simp [e]);have fb:b.Fit 1048576:=h.2 b (by simp [e]);simp only [Zl,ZT,or_false] at hs;rcases hs with rfl|rfl|rfl|rfl|rfl|rfl|rfl
   ·exact Ag (xON (by omega) fa fb) (by kernel_rfl) (fun N=>by kernel_rfl) (fun N=>by kernel_rfl)
   ·exact Ag (xLC (by omega) fa fb) (by kernel_rfl) (fun N=>by kernel_rfl) (fun N=>by kernel_rfl)
   ·refine(Bi (K:=1048576) (by omega) (vs:=[a,b]) (ks:=[1,1]) (fun x hx=>by simp at hx;rcases hx with rfl|rfl <;>assumption) (by simp) rfl).imp fun N ⟨h1,h2⟩=> ?_;obtain⟨e1,e2,e3,_⟩:=Ay (ks:=[1,1]) (l:=[a,b]) (K:=1048576) fun x hx=>by simp at hx;rcases hx with rfl|rfl <;>assumption
    have i1:BA N [114,97,110,103,101] [a,b]=Option.bind (Ah N [1,1] [a,b]) fun r=>bif r.2.2 then(if List.isEmpty r.1.list=true then if List.isEmpty r.1.columns=true then if List.isEmpty r.1.rows=true then(bif r.2.1 then some (.mk r.1.kind r.1.n r.1.step r.1.text [] [] [],true) else some (.mk 4 a.n b.n [] [] [] [],false)) else none else none else none) else bif r.2.1 then some (r.1,false) else some (.mk 4 a.n b.n [] [] [] [],false):=by kernel_rfl
    have i2:Bm N [114,97,110,103,101] [a,b]=Option.bind (IC N a b) some:=by kernel_rfl
    have i3:AU [114,97,110,103,101] [a,b]=Fk a b:=by kernel_rfl
    rw [i1,i2,i3,h1,jS,Fk];simp only [IC,Fw,Val.re_eq,h2,jS,e1,e2,e3,jE,ZE,A1 e1 e2 e3];cases g1:(yW [1,1] [a,b]).2.1
    ·rw [Bk g1];exact⟨rfl,rfl⟩
    ·cases (yW [1,1] [a,b]).2.2 <;>exact⟨rfl,rfl⟩
   ·exact Ag (Jh (by omega) fa fb) (by kernel_rfl) (fun N=>by kernel_rfl) (fun N=>by kernel_rfl)
   ·exact Ag (xI2 (by omega) fa fb) (by kernel_rfl) (fun N=>by kernel_rfl) (fun N=>by kernel_rfl)
   ·exact Ag (xEo (by omega) fa fb) (by kernel_rfl) (fun N=>by kernel_rfl) (fun N=>by kernel_rfl)
   ·exact Ag (xOQ (by omega) fa fb) (by kernel_rfl) (fun N=>by kernel_rfl) (fun N=>by kernel_rfl)
  ·have fa:a.Fit 1048576:=h.2 a (by simp [e]);have fb:b.Fit 1048576:=h.2 b (by simp [e]);have fc:c.Fit 1048576:=h.2 c (by simp [e]);simp only [Zl,ZT,or_false] at hs;rcases hs with rfl|rfl|rfl
   ·exact Ag (xPb (by omega) fa fb fc) (by kernel_rfl) (fun N=>by kernel_rfl) (fun N=>by kernel_rfl)
   ·exact Ag (xGc (by omega) fa fb fc) (by kernel_rfl) (fun N=>by kernel_rfl) (fun N=>by kernel_rfl)
   ·exact Ag (xI0 (by omega) fa fb fc) (by kernel_rfl) (fun N=>by kernel_rfl) (fun N=>by kernel_rfl)
  ·have fa:a.Fit 1048576:=h.2 a (by simp [e]);have fb:b.Fit 1048576:=h.2 b (by simp [e]);have fc:c.Fit 1048576:=h.2 c (by simp [e]);have fd:d.Fit 1048576:=h.2 d (by simp [e]);exact Ag (xCE (by omega) fa fb fc fd) (by kernel_rfl) (fun N=>by kernel_rfl) (fun N=>by kernel_rfl)
 ·exact Big.of fun N=>xEh hn N
theorem Good1.to{K M:Nat}(h:K<=M){r:Val×Bool}(g:Good1 K r):Good1 M r:=⟨Val.fit_mono h g.1,g.2⟩
theorem xEf{s:Str}{l:List Val}(h:zE 1048576 (Val.Fit 1048576) l)(hs:∀x∈l,x.size<=1048576):Good1 16777216 (AU s l):=by
 have er:Good1 16777216 (yX 4,false):=(zX (y7 (by omega) (by omega))).good.to (by omega);cases hn:((l.length:Int) != Am s)
 ·refine Ki (P:=fun s l=>Good1 16777216 (AU s l)) hn er (fun a e s hm=> ?_) (fun a b e s hm=> ?_) (fun a b c e s hm=> ?_) (fun a b c d e=> ?_)
  ·have fa:a.Fit 1048576:=h.2 a (by simp [e]);simp only [Zl,ZT,or_false] at hm;rcases hm with rfl|rfl|rfl|rfl|rfl
   ·exact(xKr (by omega) fa).good.to (by omega)
   ·exact(xOx fa).good.to (by omega)
   ·exact(xEk (by omega) fa).good.to (by omega)
   ·exact er
   ·exact er
  ·have fa:a.Fit 1048576:=h.2 a (by simp [e]);have fb:b.Fit 1048576:=h.2 b (by simp [e]);have sb:b.size<=1048576:=hs b (by simp [e]);simp only [Zl,ZT,or_false] at hm;rcases hm with rfl|rfl|rfl|rfl|rfl|rfl|rfl
   ·exact(xOO fa fb sb).to (by omega)
   ·exact(xLD fa fb sb).to (by omega)
   ·exact(xLg fa fb).good.to (by omega)
   ·exact(OJ fa fb sb).to (by omega)
   ·exact(xI1 fa fb).to (by omega)
   ·exact(xEn fa fb).to (by omega)
   ·exact(xOP fa fb).to (by omega)
  ·have fa:a.Fit 1048576:=h.2 a (by simp [e]);have fb:b.Fit 1048576:=h.2 b (by simp [e]);have fc:c.Fit 1048576:=h.2 c (by simp [e]);have sc:c.size<=1048576:=hs c (by simp [e]);have cc:=Val.cnt_le c;simp only [Zl,ZT,or_false] at hm;rcases hm with rfl|rfl|rfl
   ·exact(xPa fa fb fc (by omega)).to (by omega)
   ·exact xGb fa fb fc
   ·exact(xIZ fa fb fc).to (by omega)
  ·exact(xCD (h.2 a (by simp [e])) (h.2 b (by simp [e])) (h.2 c (by simp [e])) (h.2 d (by simp [e]))).to (by omega)
 ·rw [AU,hn];exact er
theorem xI7(a0:Str)(a1:List Val)(f0:∀z∈ [CV.str a0],DFit z.toD)(f1:∀z∈ [CV.sl .ro .val a1],DFit z.toD):∃N,F5 N a0 a1=some true:=by
 have hF:=xO6 f1;cases h0:decide ((a0.length:Int)>1048576)
 ·by_cases h:left (a1.length+(a1.map Val.size).sum) 1048576<0
  ·exact((xAO hF).imp fun N hs=>by simp only [F5,h0,jF,hs 1048576 (by omega) (by omega),jS,Zz h,jT]).get
  ·have hg:=guard h;have hs:zE 1048576 (Val.Fit 1048576) a1:=H3 (f:=Val.size) hF hg fun x _=>Val.fit_size x;have hc:=IR (f:=Val.cnt) (g:=Val.size) (l:=a1) (a:=4) fun x _=>Val.cnt_le x;obtain⟨hff,hfc,hfl⟩:=xEf (s:=a0) hs fun x hx=>by have:=Hf (f:=Val.size) hx;omega
   refine(((xAO hF).and ((xOW hs).and (xEF hs (by omega)))).and (((xEg (s:=a0) hs).and (xEG hff (by omega))).and ((xKC (by omega) hs).and ((xKE (by omega) hff (by omega)).and (zM 274877906944))))).imp (fun N ⟨⟨k1,k2,k3⟩,⟨⟨k4,k5⟩,k6⟩,k7,k8,hN⟩=> ?_) |>.get;obtain⟨ys,p1,p2⟩:=k7 1 (by omega) (by omega);obtain⟨k',ya,yb,yc,q0,q1,q2,q3,q4,q5⟩:=k8;generalize AU a0 a1=r at*;simp only [F5,h0,jF,k1 1048576 (by omega) (by omega),jS,Zy h,k2,k3,k4,k5];cases hr2:r.2
   ·simp only [jF,k6,jS,jU,p2,Zx p1,Zy (by omega:¬(1+(((a1.map Val.cnt).sum:Nat):Int))<0),q4,Zx q1,Zx q2,Zx q3,q5,Zy (by omega:¬k' <0),ZA]
   ·obtain⟨f1,f2,f3,_⟩:=hfl hr2;have hh:Aj N r.1 1=some 1:=by rw [<-A1 f1 f2 f3];exact xGk hN (by omega)
    simp only [jT,f1,f2,f3,jE,ZE,A1 f1 f2 f3,k6,jS,jU,jF,p2,Zx p1,Zy (by omega:¬(1+(((a1.map Val.cnt).sum:Nat):Int))<0),xKz hN,hh,Zy (by omega:¬(1:Int)<0),ZA]
 ·exact⟨0,by simp only [F5,h0,jT]⟩
end Go.Ab
end
section
namespace Go.Proofs.YtdjlpnkiffdnpaaGreatDoor
open Go.Ab Go.ChangeShapes Go.WideShapes Go.ChangeAt Go.RowKit
theorem own:ownKnob Tryz.prog.godebug=none:=by kernel_rfl
theorem NU:laidOutB Tryz.prog=true:=by kernel_rfl
theorem NS:gT Tryz.prog [(3,.int),(9,.str),(64,.val),(126,.row),(171,.org)]=true:=by kernel_rfl
set_option maxRecDepth 100000 in
theorem fnExactCallFunction_lifted(os:Os)(started:os.Started)(H:Type)(enc:TypeId×Value->H):
 ReturnsInHanded {} Tryz.checked os 4 .any (fun w args=>(Rows.fnExactCallFunctionSpec.pre enc Tryz.prog Tryz.f4 Rows.fnExactCallFunctionRow.domain false w args/\laidMetH Tryz.prog Rows.fnExactCallFunctionRow.laid w)/\sizedMet enc Tryz.prog Tryz.f4 (OpenSpec.ofChange Rows.fnExactCallFunctionSpec) false w args)
  (Rows.fnExactCallFunctionSpec.post enc Tryz.prog Tryz.f4 false true false false):=by
 refine returnsInHanded_of_change_and (C:=Tryz.checked) (X:=fun w _=>laidMetH Tryz.prog Rows.fnExactCallFunctionRow.laid w) (fun _ _ _ hh h=>h.of_heap hh) own started (by kernel_rfl) Tryz.func4
  (ChangeSpec.witness_shaped (enc:=enc) (C:=Tryz.checked) (os:=os) (X:=fun w _=>laidMetH Tryz.prog Rows.fnExactCallFunctionRow.laid w) false (World.laidAll Tryz.prog os Rows.fnExactCallFunctionRow.laid) #[.string ByteArray.empty,.slice none 0 0] 8 (World.laidAll_os _ _ _)
    (World.shaped_of_ZipB (by kernel_rfl) (by kernel_rfl)) (by kernel_rfl) (by kernel_rfl) (by kernel_rfl)
    (by rw [MakeChecks.laidMetH_plain _ _ _ (by kernel_rfl)];exact laidMet_laidAll _ (by kernel_rfl) (by kernel_rfl))) ?_
 intro W base args ds gs before hval0 hW hcnd _ hL _
 letI:Inhabited Lb:=⟨⟨[]⟩⟩
 have hval:∀(j:Nat) t v,Tryz.f4.params[j]? =some t->args[j]? =some v->Value.okWide Tryz.prog W .any base t v:=hval0;have hW' :=hW;obtain⟨p,q,hA0,hV,rfl,hfz,hnd⟩:=hW;have hA:DataW.TrodAll enc Tryz.prog W 0 (fun _=>true) true Tryz.f4.params.toList args.toList ds p:=hA0;rw [Tryz.params4] at hA hval;obtain⟨v0,vs0,d0,ds0,p0,q0,hargs,rfl,rfl,h0,r0⟩:=trodAll_cons hA;obtain⟨v1,vs1,d1,ds1,p1,q1,rfl,rfl,rfl,h1,r1⟩:=trodAll_cons r0;obtain⟨rfl,rfl,rfl⟩:=trodAll_nil r1;obtain rfl:args= #[v0,v1]:=by cases args;simp_all
 obtain⟨rfl,rfl⟩:=trodVars_none hV;have lt0:∀x∈p0,x.block<W.heap.size:=by obtain⟨m,hm⟩:=h0;exact DataW.trod_lt m _ _ _ hm
 have lt1:∀x∈p1,x.block<W.heap.size:=by obtain⟨m,hm⟩:=h1;exact DataW.trod_lt m _ _ _ hm
 obtain⟨z0,e0,f0,vr0⟩:=zAu NS (g:=false) (t:=9) (ns:=[.inl .str]) (by kernel_rfl) (hval 0 9 v0 rfl rfl) h0;obtain⟨x0_0,_,rfl,e0_0⟩:=AreOf.str_inv e0;obtain rfl:=e0_0.nil_inv;obtain⟨z1,e1,f1,vr1⟩:=zAu NS (g:=false) (t:=35) (ns:=[.inr .val]) (by kernel_rfl) (hval 1 35 v1 rfl rfl) h1;obtain⟨x1_0,_,rfl,e1_0⟩:=AreOf.sl_inv e1;obtain rfl:=e1_0.nil_inv;obtain⟨N,hF⟩:=xI7 x0_0 x1_0 f0 f1;clear hA0 hval0;refine(zAg T.fk4 (T.laws_FnExactCallFunction_ok hF) (W:=W) (args:= #[v0,v1]) ⟨vr0 _,vr1 _,trivial⟩ (fun x hx=>by cases hx)).mono fun e W' ⟨he,bel⟩=> ?_;subst he;exact⟨_,rfl,_,_,_,[],_,[],hW',trodAll_mk1 (shut_bool Tryz.underlying4 _),(trodAll_cons_mk (Below.trod NU (by kernel_rfl) (of_decide_eq_true (by kernel_rfl)) h0 bel lt0) (trodAll_cons_mk (Below.trod NU (by kernel_rfl) (of_decide_eq_true (by kernel_rfl)) h1 bel lt1) trodAll_mk0)),rfl,bel.frame _,fun h=>by cases h⟩
theorem fnExactCallFunction_proved:Rows.FnExactCallFunctionSaid:=
 OpenClaim.holds_of_wide 4 Tryz.f4 rfl rfl rfl rfl rfl rfl rfl ⟨rfl,rfl,rfl,rfl,rfl⟩ rfl rfl rfl rfl rfl (by kernel_rfl) Tryz.func4 (by kernel_rfl)
  (of_decide_eq_true (by kernel_rfl)) (by unfold Func.isWrapper;first |(rw [Zx (by decide +kernel)];kernel_rfl) |(rw [Zj (by decide +kernel)];exact⟨rfl,rfl⟩))
  (fun os started H enc _=>fnExactCallFunction_lifted os started H enc)
theorem fnExactCallFunction_card:Rows.FnExactCallFunctionCardSaid:=
 Claim7.holds_tied_plain_at .later [] Rows.fnExactCallFunctionCard.laidKinds true Rows.fnExactCallFunctionCard.stood.harness Rows.fnExactCallFunctionCard.stood.looks fnExactCallFunction_proved (fun _ h=>by cases h) (by kernel_rfl) (fun _ h=>by cases h) fnExactCallFunction_row_tie rfl ⟨rfl,rfl⟩ (by kernel_rfl) rfl
  (fun f fn hf hfn=>by
    obtain rfl:f=4:=ZB ((show Tryz.prog.funcNamed Rows.fnExactCallFunctionRow.func=some 4 by kernel_rfl).symm.trans hf) |>.symm;obtain rfl:fn=Tryz.f4:=(ZB (Tryz.func4.symm.trans hfn)).symm
    exact⟨by kernel_rfl,fun j t ht=>by
     rw [Tryz.params4] at ht;have hm:t∈ [9,35]:=by simpa using Array.mem_of_getElem? ht
     have hall:([9,35].all fun u=> !Tryz.prog.wantsStandIn u)=true:=by kernel_rfl
     exact(show Tryz.prog.wantsStandIn t=false by simpa using Zu.1 hall t hm)⟩)
  (by kernel_rfl)
end Go.Proofs.YtdjlpnkiffdnpaaGreatDoor
end
