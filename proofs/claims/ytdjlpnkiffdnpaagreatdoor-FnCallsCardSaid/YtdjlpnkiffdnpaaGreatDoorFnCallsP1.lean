/- The statement FnCalls holds: plain functions, certificates, laws. Conditions: none. -/
import Derived.Test.YtdjlpnkiffdnpaaGreatDoorL2
import Derived.Test.YtdjlpnkiffdnpaaGreatDoorFnCallsP0
set_option linter.all false
section
open Go.IntKind (i64)
namespace Go.Ab
open Go.Sort
theorem O8(N:Nat){hi first root:Nat}{d:Array Org}(hr:root<=hi)(hf:first+hi<=d.size)(h2:2<=d.size)(hs:d.size<1152921504606846976)(hN:d.size<N):
 FL N (root:Int) (hi:Int) (first:Int) d.toList=some (siftDown olt hi first root d).toList/\(siftDown olt hi first root d).size=d.size:=by
 unfold FL;exact xK1 N 0 _ root N d rfl hr hf h2 hs (by omega)
theorem Mt(N:Nat){first:Nat}(z:Int):∀(k n:Nat) (d:Array Org),first+k<=d.size->2<=d.size->d.size<1152921504606846976->k<n->d.size<N->
 Ex N n (first:Int) 0 ((k:Int) - 1) d.toList=some (heapPop olt first k d).toList
 |0,n,d,hf,h2,hs,hn,hN=>by
  obtain⟨n,rfl⟩:∃m,n=m+1:=⟨n - 1,by omega⟩;have e:(decide (((0:Nat):Int) - 1>=0))=false:=Zy (by omega);rw [Ex,e,jF]
  rfl
 |k+1,n,d,hf,h2,hs,hn,hN=>by
  obtain⟨n,rfl⟩:∃m,n=m+1:=⟨n - 1,by omega⟩;have e:(decide (((k+1:Nat):Int) - 1>=0))=true:=Zz (by omega);have e1:((k+1:Nat):Int) - 1=(k:Int):=by omega
  have w:i64.wrap ((first:Int)+(k:Int))=((first+k:Nat):Int):=wn _ (by omega) (by omega);have w2:i64.wrap ((k:Int) - 1)=(k:Int) - 1:=zX (by omega) (by omega);rw [Ex,e,jT,e1,w,A5 N rfl rfl (by omega) (by omega) h2,w2];obtain⟨s1,s2⟩:=O8 N (hi:=k) (first:=first) (root:=0) (d:=swp d first (first+k)) (by omega) (by rw [y8];omega) (by rw [y8];exact h2) (by rw [y8];exact hs) (by rw [y8];exact hN);have s1:FL N 0 (k:Int) (first:Int) (swp d first (first+k)).toList=_:=s1;rw [s1,heapPop];exact Mt N z k n _ (by rw [s2,y8];omega) (by rw [s2,y8];exact h2) (by rw [s2,y8];exact hs) (by omega) (by rw [s2,y8];exact hN)
theorem Ms(N:Nat){first hi:Nat}:∀(k n:Nat) (d:Array Org),k<=hi+1->first+hi<=d.size->2<=d.size->d.size<1152921504606846976->k<n->d.size<N->
 Ew N n (first:Int) 0 (hi:Int) ((k:Int) - 1) d.toList=some (heapPop olt first hi (heapBuild olt hi first k d)).toList
 |0,n,d,hk,hf,h2,hs,hn,hN=>by
  obtain⟨n,rfl⟩:∃m,n=m+1:=⟨n - 1,by omega⟩;have e:(decide (((0:Nat):Int) - 1>=0))=false:=Zy (by omega);have w2:i64.wrap ((hi:Int) - 1)=(hi:Int) - 1:=zX (by omega) (by omega);rw [Ew,e,jF,w2];exact Mt N 0 hi N d hf h2 hs (by omega) hN
 |k+1,n,d,hk,hf,h2,hs,hn,hN=>by
  obtain⟨n,rfl⟩:∃m,n=m+1:=⟨n - 1,by omega⟩;have e:(decide (((k+1:Nat):Int) - 1>=0))=true:=Zz (by omega);have e1:((k+1:Nat):Int) - 1=(k:Int):=by omega
  have w2:i64.wrap ((k:Int) - 1)=(k:Int) - 1:=zX (by omega) (by omega);rw [Ew,e,jT,e1,w2];obtain⟨s1,s2⟩:=O8 N (hi:=hi) (first:=first) (root:=k) (d:=d) (by omega) hf h2 hs hN;rw [s1,heapBuild];exact Ms N k n _ (by omega) (by rw [s2];exact hf) (by rw [s2];exact h2) (by rw [s2];exact hs) (by omega) (by rw [s2];exact hN)
theorem xGn(N:Nat){a b:Nat}{d:Array Org}(hab:a<b)(hb:b<=d.size)(h2:2<=d.size)(hs:d.size<1152921504606846976)(hN:d.size+1<N):
 Hs N (a:Int) (b:Int) d.toList=some (heapSort olt d a b).toList:=by
 unfold Hs heapSort;have w1:i64.wrap ((b:Int) - (a:Int))=((b - a:Nat):Int):=wn _ (by omega) (by omega);have w2:i64.wrap (((b - a:Nat):Int) - 1)=((b - a - 1:Nat):Int):=wn _ (by omega) (by omega);have w3:i64.wrap (Int.tdiv ((b - a - 1:Nat):Int) 2)=(((b - a - 1) / 2+1:Nat):Int) - 1:=by
  have:Int.tdiv ((b - a - 1:Nat):Int) 2=(((b - a - 1) / 2:Nat):Int):=rfl;rw [this,wn ((b - a - 1) / 2) rfl (by omega)];omega
 rw [w1,w2,w3];exact Ms N _ N d (by omega) (by omega) h2 hs (by omega) (by omega)
theorem xKD(N:Nat):∀(m i j n:Nat) (d:Array Org),j - i<=m->i<d.size->j<d.size->2<=d.size->d.size<1152921504606846976->m<n->
 FK N n (i:Int) (j:Int) d.toList=some (reverseLoop i j d).toList:=by
 intro m
 induction m with
 |zero=>
  intro i j n d hm hi hj h2 hs hn;obtain⟨n,rfl⟩:∃m,n=m+1:=⟨n - 1,by omega⟩;have e:(decide ((i:Int)<(j:Int)))=false:=Zy (by omega);rw [FK,e,jF,reverseLoop,Zf (by omega)]
 |succ m ih=>
  intro i j n d hm hi hj h2 hs hn;obtain⟨n,rfl⟩:∃m,n=m+1:=⟨n - 1,by omega⟩;rw [FK,reverseLoop];by_cases h:i<j
  ·have e:(decide ((i:Int)<(j:Int)))=true:=Zz (by omega);have w1:i64.wrap ((i:Int)+1)=((i+1:Nat):Int):=wn _ (by omega) (by omega);have w2:i64.wrap ((j:Int) - 1)=((j - 1:Nat):Int):=wn _ (by omega) (by omega);rw [e,jT,A5 N rfl rfl hi hj h2,Zw h,w1,w2];exact ih (i+1) (j - 1) n _ (by omega) (by rw [y8];omega) (by rw [y8];omega) (by rw [y8];exact h2) (by rw [y8];exact hs) (by omega)
  ·have e:(decide ((i:Int)<(j:Int)))=false:=Zy (by omega);rw [e,jF,Zf h]
theorem xKE(N:Nat){a b:Nat}{d:Array Org}(hab:a<b)(hb:b<=d.size)(h2:2<=d.size)(hs:d.size<1152921504606846976)(hN:d.size<N):
 IA N (a:Int) (b:Int) d.toList=some (reverseRange d a b).toList:=by
 unfold IA reverseRange;have w2:i64.wrap ((b:Int) - 1)=((b - 1:Nat):Int):=wn _ (by omega) (by omega);rw [w2];exact xKD N _ a (b - 1) N d (Zi _) (by omega) (by omega) h2 hs (by omega)
theorem GR{p:Org->Bool}{d:Array Org}{j i:Nat}(h:i<=j)(hp:p d[i]! =true):scanUp p d j i=scanUp p d j (i+1):=by
 rw [scanUp,Zw (by simp [h,hp])]
theorem Cm{p:Org->Bool}{d:Array Org}{j i:Nat}(h:¬(i<=j/\p d[i]! =true)):scanUp p d j i=i:=by
 rw [scanUp,Zf (by simpa using h)]
theorem GQ{p:Org->Bool}{d:Array Org}{j i:Nat}(h:i<=j+1)(hp:p d[j+1]! =true):scanDown p d i (j+1)=scanDown p d i j:=by
 rw [scanDown,Zw (by simp [h,hp])]
theorem Cl{p:Org->Bool}{d:Array Org}{j i:Nat}(h:¬(i<=j+1/\p d[j+1]! =true)):scanDown p d i (j+1)=j+1:=by
 rw [scanDown,Zf (by simpa using h)]
abbrev pUp(d:Array Org)(a:Nat):Org->Bool:=fun x=>olt x d[a]!
abbrev pDn(d:Array Org)(a:Nat):Org->Bool:=fun x=> !olt x d[a]!
theorem xKV{p:Org->Bool}{d:Array Org}:∀(m i j:Nat),j+1 - i=m->i<=j+1->i<=scanUp p d j i/\scanUp p d j i<=j+1:=by
 intro m
 induction m with
 |zero=>intro i j hm hi;rw [Cm (by omega)];omega
 |succ m ih=>
  intro i j hm hi;by_cases h:i<=j/\p d[i]! =true
  ·rw [GR h.1 h.2];have:=ih (i+1) j (by omega) (by omega);omega
  ·rw [Cm h];omega
theorem Hn{p:Org->Bool}{d:Array Org}{i:Nat}(hi:0<i):∀(j:Nat),i<=j+1->i<=scanDown p d i j+1/\scanDown p d i j<=j
 |0,h=>by simp [scanDown];omega
 |j+1,h=>by
  by_cases h2:i<=j+1/\p d[j+1]! =true
  ·rw [GQ h2.1 h2.2];have:=Hn (p:=p) (d:=d) hi j (by omega);omega
  ·rw [Cl h2];omega
theorem Ho{p:Org->Bool}{d:Array Org}{i:Nat}(hi:0<i):∀(j:Nat),i<=j+1->i<=scanDown p d i j->p d[scanDown p d i j]! =false
 |0,h,h3=>by simp [scanDown] at h3;omega
 |j+1,h,h3=>by
  by_cases h2:i<=j+1/\p d[j+1]! =true
  ·rw [GQ h2.1 h2.2] at h3 ⊢;exact Ho hi j (by omega) h3
  ·rw [Cl h2] at h3 ⊢;cases hp:p d[j+1]! with
   |false=>rfl
   |true=>exact absurd ⟨h3,hp⟩ h2
theorem xKW{p:Org->Bool}{d:Array Org}:∀(m i j:Nat),j+1 - i=m->scanUp p d j i<=j->p d[scanUp p d j i]! =false:=by
 intro m
 induction m with
 |zero=>intro i j hm h;rw [Cm (by omega)] at h;omega
 |succ m ih=>
  intro i j hm h;by_cases h2:i<=j/\p d[i]! =true
  ·rw [GR h2.1 h2.2] at h ⊢;exact ih (i+1) j (by omega) h
  ·rw [Cm h2] at h ⊢;cases hp:p d[i]! with
   |false=>rfl
   |true=>exact absurd ⟨h,hp⟩ h2
theorem OL(N:Nat)(k:Int->Int->Int->List Org->Option (Int×Bool×List Org)){a i:Nat}:∀(j n:Nat) (d:Array Org),a<i->i<=j+1->j<d.size->2<=d.size->d.size<1152921504606846976->j<n->
 Cp N k n (a:Int) (i:Int) (j:Int) d.toList=
  (if i>scanDown (pDn d a) d i j then some (((scanDown (pDn d a) d i j:Nat):Int),false,(swp d (scanDown (pDn d a) d i j) a).toList)
   else k (a:Int) ((i+1:Nat):Int) ((scanDown (pDn d a) d i j - 1:Nat):Int) (swp d i (scanDown (pDn d a) d i j)).toList)
 |0,n,d,ha,hij,hj,h2,hs,hn=>by
  obtain⟨n,rfl⟩:∃m,n=m+1:=⟨n - 1,by omega⟩;have e:(decide ((i:Int)<=((0:Nat):Int)))=false:=Zy (by omega);have e2:(decide ((i:Int)>((0:Nat):Int)))=true:=Zz (by omega);rw [Cp,e,jF,e2,jT,A5 N rfl rfl hj (by omega) h2,scanDown,Zw (by omega)]
 |j+1,n,d,ha,hij,hj,h2,hs,hn=>by
  obtain⟨n,rfl⟩:∃m,n=m+1:=⟨n - 1,by omega⟩;have wi:i64.wrap ((i:Int)+1)=((i+1:Nat):Int):=wn _ (by omega) (by omega);have wj:i64.wrap (((j+1:Nat):Int) - 1)=((j:Nat):Int):=wn _ (by omega) (by omega);rw [Cp,wi,wj];by_cases h:i<=j+1
  ·have e:(decide ((i:Int)<=((j+1:Nat):Int)))=true:=Zz (by omega);have e2:(decide ((i:Int)>((j+1:Nat):Int)))=false:=Zy (by omega);rw [e,jT,As N rfl rfl hj (by omega),e2,jF];dsimp only;cases hl:olt d[j+1]! d[a]! with
   |false=>
    rw [jV,jT,OL N k j n d ha (by omega) (by omega) h2 hs (by omega),GQ (p:=pDn d a) h (by simp [pDn,hl])]
   |true=>
    rw [jU,jF,A5 N rfl rfl (by omega) hj h2,Cl (p:=pDn d a) (by simp [pDn,hl]),Zf (by omega)]
    rfl
  ·have e:(decide ((i:Int)<=((j+1:Nat):Int)))=false:=Zy (by omega);have e2:(decide ((i:Int)>((j+1:Nat):Int)))=true:=Zz (by omega);rw [e,jF,e2,jT,A5 N rfl rfl hj (by omega) h2,Cl (p:=pDn d a) (by omega),Zw (by omega)]
theorem xKl(N:Nat){a:Nat}:∀(m i j n:Nat) (d:Array Org),j+1 - i=m->a<i->i<=j+1->j<d.size->2<=d.size->d.size<1152921504606846976->m<n->d.size<N->
 Bi N n (a:Int) (i:Int) (j:Int) d.toList=some (((partLoop olt a i j d).1:Int),false,(swp (partLoop olt a i j d).2 (partLoop olt a i j d).1 a).toList):=by
 intro m
 induction m using Nat.strongRecOn with
 |_ m ih=>
  intro i j n d hm ha hij hj h2 hs hn hN;obtain⟨n,rfl⟩:∃m,n=m+1:=⟨n - 1,by omega⟩;have wi:i64.wrap ((i:Int)+1)=((i+1:Nat):Int):=wn _ (by omega) (by omega);rw [Bi,wi]
  have stop:∀(hc:¬(i<=j/\pUp d a d[i]! =true)),Cp N (fun z0 z1 z2 z3=>(Bi N n z0 z1 z2 z3)) N (a:Int) (i:Int) (j:Int) d.toList=
   some (((partLoop olt a i j d).1:Int),false,(swp (partLoop olt a i j d).2 (partLoop olt a i j d).1 a).toList):=by
   intro hc;rw [OL N _ j N d ha hij hj h2 hs (by omega),partLoop_eq,Cm (p:=pUp d a) hc];have hb:=Hn (p:=pDn d a) (d:=d) (by omega:0<i) j hij;split
   ·rfl
   ·rename_i hg;have hne:i≠scanDown (pDn d a) d i j:=by
     intro e;have h1:=Ho (p:=pDn d a) (d:=d) (by omega:0<i) j hij (by omega);rw [<-e] at h1;have h2:pUp d a d[i]! =true:=by simpa [pDn,pUp] using h1
     exact hc ⟨by omega,h2⟩
    exact ih (scanDown (pDn d a) d i j - 1+1 - (i+1)) (by omega) (i+1) (scanDown (pDn d a) d i j - 1) n _ rfl (by omega) (by omega) (by rw [y8];omega) (by rw [y8];exact h2) (by rw [y8];exact hs) (by omega) (by rw [y8];exact hN)
  by_cases h:i<=j
  ·have e:(decide ((i:Int)<=(j:Int)))=true:=Zz (by omega);rw [e,jT,As N rfl rfl (by omega) (by omega)];dsimp only;cases hl:olt d[i]! d[a]! with
   |true=>
    rw [jT,ih (m - 1) (by omega) (i+1) j n d (by omega) (by omega) (by omega) hj h2 hs (by omega) hN];have:partLoop olt a i j d=partLoop olt a (i+1) j d:=by
     rw [partLoop_eq,partLoop_eq (i:=i+1),GR (p:=pUp d a) h (by simp [pUp,hl])]
    rw [this]
   |false=>rw [jF];exact stop (by simp [pUp,hl])
  ·have e:(decide ((i:Int)<=(j:Int)))=false:=Zy (by omega);rw [e,jF];exact stop (by omega)
theorem OM(N:Nat){a i:Nat}:∀(j n:Nat) (d:Array Org),a<i->i<=j+1->j<d.size->2<=d.size->d.size<1152921504606846976->j<n->
 Cq N n (a:Int) (i:Int) (j:Int) d.toList=
  (if i>scanDown (pDn d a) d i j then some (((scanDown (pDn d a) d i j:Nat):Int),true,(swp d (scanDown (pDn d a) d i j) a).toList)
   else Bi N N (a:Int) ((i+1:Nat):Int) ((scanDown (pDn d a) d i j - 1:Nat):Int) (swp d i (scanDown (pDn d a) d i j)).toList)
 |0,n,d,ha,hij,hj,h2,hs,hn=>by
  obtain⟨n,rfl⟩:∃m,n=m+1:=⟨n - 1,by omega⟩;have e:(decide ((i:Int)<=((0:Nat):Int)))=false:=Zy (by omega);have e2:(decide ((i:Int)>((0:Nat):Int)))=true:=Zz (by omega);rw [Cq,e,jF,e2,jT,A5 N rfl rfl hj (by omega) h2,scanDown,Zw (by omega)]
 |j+1,n,d,ha,hij,hj,h2,hs,hn=>by
  obtain⟨n,rfl⟩:∃m,n=m+1:=⟨n - 1,by omega⟩;have wi:i64.wrap ((i:Int)+1)=((i+1:Nat):Int):=wn _ (by omega) (by omega);have wj:i64.wrap (((j+1:Nat):Int) - 1)=((j:Nat):Int):=wn _ (by omega) (by omega);rw [Cq,wi,wj];by_cases h:i<=j+1
  ·have e:(decide ((i:Int)<=((j+1:Nat):Int)))=true:=Zz (by omega);have e2:(decide ((i:Int)>((j+1:Nat):Int)))=false:=Zy (by omega);rw [e,jT,As N rfl rfl hj (by omega),e2,jF];dsimp only;cases hl:olt d[j+1]! d[a]! with
   |false=>
    rw [jV,jT,OM N j n d ha (by omega) (by omega) h2 hs (by omega),GQ (p:=pDn d a) h (by simp [pDn,hl])]
   |true=>
    rw [jU,jF,A5 N rfl rfl (by omega) hj h2,Cl (p:=pDn d a) (by simp [pDn,hl]),Zf (by omega)]
    rfl
  ·have e:(decide ((i:Int)<=((j+1:Nat):Int)))=false:=Zy (by omega);have e2:(decide ((i:Int)>((j+1:Nat):Int)))=true:=Zz (by omega);rw [e,jF,e2,jT,A5 N rfl rfl hj (by omega) h2,Cl (p:=pDn d a) (by omega),Zw (by omega)]
theorem xKm(N:Nat){a j:Nat}:∀(m i n:Nat) (d:Array Org),j+1 - i=m->a<i->i<=j+1->j<d.size->2<=d.size->d.size<1152921504606846976->m<n->d.size<N->
 FI N n (a:Int) (i:Int) (j:Int) d.toList=Cq N N (a:Int) ((scanUp (pUp d a) d j i:Nat):Int) (j:Int) d.toList:=by
 intro m
 induction m with
 |zero=>
  intro i n d hm ha hij hj h2 hs hn hN;obtain⟨n,rfl⟩:∃m,n=m+1:=⟨n - 1,by omega⟩;have e:(decide ((i:Int)<=(j:Int)))=false:=Zy (by omega);rw [FI,e,jF,Cm (by omega)]
 |succ m ih=>
  intro i n d hm ha hij hj h2 hs hn hN;obtain⟨n,rfl⟩:∃m,n=m+1:=⟨n - 1,by omega⟩;have wi:i64.wrap ((i:Int)+1)=((i+1:Nat):Int):=wn _ (by omega) (by omega);have e:(decide ((i:Int)<=(j:Int)))=true:=Zz (by omega);rw [FI,wi,e,jT,As N rfl rfl (by omega) (by omega)];dsimp only;cases hl:olt d[i]! d[a]! with
  |true=>rw [jT,ih (i+1) n d (by omega) (by omega) (by omega) hj h2 hs (by omega) hN,GR (p:=pUp d a) (i:=i) (j:=j) (by omega) (by simp [pUp,hl])]
  |false=>rw [jF,Cm (p:=pUp d a) (by simp [pUp,hl])]
theorem xKn(N:Nat){a b pivot:Nat}{d:Array Org}(hp1:a<=pivot)(hp2:pivot<b)(hb:b<=d.size)(hab:a+1<b)(h2:2<=d.size)(hs:d.size<1152921504606846976)(hN:d.size<N):
 Hz N (a:Int) (b:Int) (pivot:Int) d.toList=some (((partition olt d a b pivot).1:Int),(partition olt d a b pivot).2.1,(partition olt d a b pivot).2.2.toList):=by
 have wa:i64.wrap ((a:Int)+1)=((a+1:Nat):Int):=wn _ (by omega) (by omega);have wb:i64.wrap ((b:Int) - 1)=((b - 1:Nat):Int):=wn _ (by omega) (by omega);have hs1:(swp d a pivot).size=d.size:=y8;unfold Hz partition;rw [A5 N rfl rfl (by omega) (by omega) h2,wa,wb];generalize swp d a pivot=d1 at hs1;have hu:=xKV (p:=pUp d1 a) (d:=d1) _ (a+1) (b - 1) rfl (by omega);rw [xKm N _ (a+1) N d1 rfl (by omega) (by omega) (by omega) (by omega) (by omega) (by omega) (by omega),OM N (b - 1) N d1 (by omega) (by omega) (by omega) (by omega) (by omega) (by omega)];have hd:=Hn (p:=pDn d1 a) (d:=d1) (i:=scanUp (pUp d1 a) d1 (b - 1) (a+1)) (by omega) (b - 1) (by omega);dsimp only;by_cases hc:scanUp (pUp d1 a) d1 (b - 1) (a+1)>scanDown (pDn d1 a) d1 (scanUp (pUp d1 a) d1 (b - 1) (a+1)) (b - 1)
 ·rw [Zw hc,Zw hc]
 ·have hne:scanUp (pUp d1 a) d1 (b - 1) (a+1)≠scanDown (pDn d1 a) d1 (scanUp (pUp d1 a) d1 (b - 1) (a+1)) (b - 1):=by
   intro e;have h1:=Ho (p:=pDn d1 a) (d:=d1) (i:=scanUp (pUp d1 a) d1 (b - 1) (a+1)) (by omega) (b - 1) (by omega) (by omega);rw [<-e] at h1;have h2:=xKW (p:=pUp d1 a) (d:=d1) _ (a+1) (b - 1) rfl (by omega);simp only [pDn,pUp] at h1 h2;rw [h2] at h1;cases h1
  rw [Zf hc,Zf hc];exact xKl N _ _ _ N _ rfl (by omega) (by omega) (by rw [y8];omega) (by rw [y8];omega) (by rw [y8];omega) (by omega) (by rw [y8];omega)
end Go.Ab
end
section
open Go.IntKind (i64)
namespace Go.Ab
open Go.Sort
abbrev qUp(d:Array Org)(a:Nat):Org->Bool:=fun x=> !olt d[a]! x
abbrev qDn(d:Array Org)(a:Nat):Org->Bool:=fun x=>olt d[a]! x
theorem ON(N:Nat)(k:Int->Int->Int->List Org->Option (Int×List Org)){a i:Nat}:∀(j n:Nat) (d:Array Org),a<i->i<=j+1->j<d.size->2<=d.size->d.size<1152921504606846976->j<n->
 Co N k n (a:Int) (i:Int) (j:Int) d.toList=
  (if i>scanDown (qDn d a) d i j then some ((i:Int),d.toList)
   else k (a:Int) ((i+1:Nat):Int) ((scanDown (qDn d a) d i j - 1:Nat):Int) (swp d i (scanDown (qDn d a) d i j)).toList)
 |0,n,d,ha,hij,hj,h2,hs,hn=>by
  obtain⟨n,rfl⟩:∃m,n=m+1:=⟨n - 1,by omega⟩;have e:(decide ((i:Int)<=((0:Nat):Int)))=false:=Zy (by omega);have e2:(decide ((i:Int)>((0:Nat):Int)))=true:=Zz (by omega);rw [Co,e,jF,e2,jT,scanDown,Zw (by omega)]
 |j+1,n,d,ha,hij,hj,h2,hs,hn=>by
  obtain⟨n,rfl⟩:∃m,n=m+1:=⟨n - 1,by omega⟩;have wi:i64.wrap ((i:Int)+1)=((i+1:Nat):Int):=wn _ (by omega) (by omega);have wj:i64.wrap (((j+1:Nat):Int) - 1)=((j:Nat):Int):=wn _ (by omega) (by omega);rw [Co,wi,wj];by_cases h:i<=j+1
  ·have e:(decide ((i:Int)<=((j+1:Nat):Int)))=true:=Zz (by omega);have e2:(decide ((i:Int)>((j+1:Nat):Int)))=false:=Zy (by omega);rw [e,jT,As N rfl rfl (by omega) hj,e2,jF];dsimp only;cases hl:olt d[a]! d[j+1]! with
   |true=>
    rw [jT,ON N k j n d ha (by omega) (by omega) h2 hs (by omega),GQ (p:=qDn d a) h (by simp [qDn,hl])]
   |false=>
    rw [jF,A5 N rfl rfl (by omega) hj h2,Cl (p:=qDn d a) (by simp [qDn,hl]),Zf (by omega)]
    rfl
  ·have e:(decide ((i:Int)<=((j+1:Nat):Int)))=false:=Zy (by omega);have e2:(decide ((i:Int)>((j+1:Nat):Int)))=true:=Zz (by omega);rw [e,jF,e2,jT,Cl (p:=qDn d a) (by omega),Zw (by omega)]
theorem xKo(N:Nat){a:Nat}:∀(m i j n:Nat) (d:Array Org),j+1 - i=m->a<i->i<=j+1->j<d.size->2<=d.size->d.size<1152921504606846976->m<n->d.size<N->
 Cn N n (a:Int) (i:Int) (j:Int) d.toList=some (((partEqLoop olt a i j d).1:Int),(partEqLoop olt a i j d).2.toList):=by
 intro m
 induction m using Nat.strongRecOn with
 |_ m ih=>
  intro i j n d hm ha hij hj h2 hs hn hN;obtain⟨n,rfl⟩:∃m,n=m+1:=⟨n - 1,by omega⟩;have wi:i64.wrap ((i:Int)+1)=((i+1:Nat):Int):=wn _ (by omega) (by omega);rw [Cn,wi]
  have stop:∀(hc:¬(i<=j/\qUp d a d[i]! =true)),Co N (fun z0 z1 z2 z3=>(Cn N n z0 z1 z2 z3)) N (a:Int) (i:Int) (j:Int) d.toList=
   some (((partEqLoop olt a i j d).1:Int),(partEqLoop olt a i j d).2.toList):=by
   intro hc;rw [ON N _ j N d ha hij hj h2 hs (by omega),partEqLoop_eq,Cm (p:=qUp d a) hc];have hb:=Hn (p:=qDn d a) (d:=d) (by omega:0<i) j hij;split
   ·rfl
   ·rename_i hg;have hne:i≠scanDown (qDn d a) d i j:=by
     intro e;have h1:=Ho (p:=qDn d a) (d:=d) (by omega:0<i) j hij (by omega);rw [<-e] at h1;have h2:qUp d a d[i]! =true:=by simpa [qDn,qUp] using h1
     exact hc ⟨by omega,h2⟩
    exact ih (scanDown (qDn d a) d i j - 1+1 - (i+1)) (by omega) (i+1) (scanDown (qDn d a) d i j - 1) n _ rfl (by omega) (by omega) (by rw [y8];omega) (by rw [y8];exact h2) (by rw [y8];exact hs) (by omega) (by rw [y8];exact hN)
  by_cases h:i<=j
  ·have e:(decide ((i:Int)<=(j:Int)))=true:=Zz (by omega);rw [e,jT,As N rfl rfl (by omega) (by omega)];dsimp only;cases hl:olt d[a]! d[i]! with
   |false=>
    rw [jV,jT,ih (m - 1) (by omega) (i+1) j n d (by omega) (by omega) (by omega) hj h2 hs (by omega) hN];have:partEqLoop olt a i j d=partEqLoop olt a (i+1) j d:=by
     rw [partEqLoop_eq,partEqLoop_eq (i:=i+1),GR (p:=qUp d a) h (by simp [qUp,hl])]
    rw [this]
   |true=>rw [jU,jF];exact stop (by simp [qUp,hl])
  ·have e:(decide ((i:Int)<=(j:Int)))=false:=Zy (by omega);rw [e,jF];exact stop (by omega)
theorem xKp(N:Nat){a b pivot:Nat}{d:Array Org}(hp1:a<=pivot)(hp2:pivot<b)(hb:b<=d.size)(hab:a+1<b)(h2:2<=d.size)(hs:d.size<1152921504606846976)(hN:d.size<N):
 Hx N (a:Int) (b:Int) (pivot:Int) d.toList=some (((partitionEqual olt d a b pivot).1:Int),(partitionEqual olt d a b pivot).2.toList):=by
 have wa:i64.wrap ((a:Int)+1)=((a+1:Nat):Int):=wn _ (by omega) (by omega);have wb:i64.wrap ((b:Int) - 1)=((b - 1:Nat):Int):=wn _ (by omega) (by omega);have hs1:(swp d a pivot).size=d.size:=y8;unfold Hx partitionEqual;rw [A5 N rfl rfl (by omega) (by omega) h2,wa,wb];exact xKo N _ (a+1) (b - 1) N _ rfl (by omega) (by omega) (by omega) (by omega) (by omega) (by omega) (by omega)
theorem xK0(N:Nat)(k:Int->Int->Int->Int->List Org->Option (Bool×List Org)){a b i:Nat}{s:Nat}(hs5:s<100):∀(m j n:Nat) (d:Array Org),b - j=m->0<j->j<1152921504606846976->b<=d.size->2<=d.size->d.size<1152921504606846976->m<n->
 FE N k n (a:Int) (b:Int) (i:Int) (s:Int) (j:Int) d.toList=k (a:Int) (b:Int) (i:Int) ((s+1:Nat):Int) (shiftUp olt b j d).toList/\(shiftUp olt b j d).size=d.size:=by
 have ws:i64.wrap ((s:Int)+1)=((s+1:Nat):Int):=wn _ (by omega) (by omega);intro m
 induction m with
 |zero=>
  intro j n d hm hj hjb hb h2 hs hn;obtain⟨n,rfl⟩:∃m,n=m+1:=⟨n - 1,by omega⟩;have e:(decide ((j:Int)<(b:Int)))=false:=Zy (by omega);rw [FE,e,jF,shiftUp,Zf (by omega),ws];exact⟨rfl,rfl⟩
 |succ m ih=>
  intro j n d hm hj hjb hb h2 hs hn;obtain⟨n,rfl⟩:∃m,n=m+1:=⟨n - 1,by omega⟩;have e:(decide ((j:Int)<(b:Int)))=true:=Zz (by omega);have w1:i64.wrap ((j:Int) - 1)=((j - 1:Nat):Int):=wn _ (by omega) (by omega);have w2:i64.wrap ((j:Int)+1)=((j+1:Nat):Int):=wn _ (by omega) (by omega);rw [FE,e,jT,w1,w2,ws,As N rfl rfl (by omega) (by omega),shiftUp,Zw (by omega)];dsimp only;cases hl:olt d[j]! d[j - 1]! with
  |false=>exact⟨rfl,rfl⟩
  |true=>
   rw [jU,jF,A5 N rfl rfl (by omega) (by omega) h2];have:=ih (j+1) n (swp d j (j - 1)) (by omega) (by omega) (by omega) (by rw [y8];exact hb) (by rw [y8];exact h2) (by rw [y8];exact hs) (by omega);rw [y8] at this;exact this
def Gm(b i:Nat)(d:Array Org):Array Org:=if b - i>=2 then shiftUp olt b (i+1) d else d
theorem Hp(N:Nat)(k:Int->Int->Int->Int->List Org->Option (Bool×List Org)){a b i:Nat}{s:Nat}(hs5:s<100)(d:Array Org)(hib:i<=b)(hb:b<=d.size)(h2:2<=d.size)(hs:d.size<1152921504606846976)(hN:d.size<N):
 Dg N k (a:Int) (b:Int) (i:Int) (s:Int) d.toList=k (a:Int) (b:Int) (i:Int) ((s+1:Nat):Int) (Gm b i d).toList/\(Gm b i d).size=d.size:=by
 have ws:i64.wrap ((s:Int)+1)=((s+1:Nat):Int):=wn _ (by omega) (by omega);have w1:i64.wrap ((b:Int) - (i:Int))=((b - i:Nat):Int):=wn _ (by omega) (by omega);have w2:i64.wrap ((i:Int)+1)=((i+1:Nat):Int):=wn _ (by omega) (by omega);unfold Dg Gm;rw [ws,w1,w2];by_cases h:b - i>=2
 ·have e:(decide (((b - i:Nat):Int)>=2))=true:=Zz (by omega);rw [e,jT,Zw h];exact xK0 N k hs5 _ (i+1) N d rfl (by omega) (by omega) hb h2 hs (by omega)
 ·have e:(decide (((b - i:Nat):Int)>=2))=false:=Zy (by omega);rw [e,jF,Zf h];exact⟨rfl,rfl⟩
theorem O5(N:Nat)(k:Int->Int->Int->Int->List Org->Option (Bool×List Org)){a b i:Nat}{s:Nat}:∀(j n:Nat) (d:Array Org),j<d.size->2<=d.size->d.size<1152921504606846976->j<n->
 FD N k n (a:Int) (b:Int) (i:Int) (s:Int) (j:Int) d.toList=Dg N k (a:Int) (b:Int) (i:Int) (s:Int) (shiftDown olt j d).toList/\(shiftDown olt j d).size=d.size
 |0,n,d,hj,h2,hs,hn=>by
  obtain⟨n,rfl⟩:∃m,n=m+1:=⟨n - 1,by omega⟩;have e:(decide (((0:Nat):Int)>=1))=false:=Zy (by omega);rw [FD,e,jF];exact⟨rfl,rfl⟩
 |j+1,n,d,hj,h2,hs,hn=>by
  obtain⟨n,rfl⟩:∃m,n=m+1:=⟨n - 1,by omega⟩;have e:(decide (((j+1:Nat):Int)>=1))=true:=Zz (by omega);have w1:i64.wrap (((j+1:Nat):Int) - 1)=((j:Nat):Int):=wn _ (by omega) (by omega);rw [FD,e,jT,w1,As N rfl rfl hj (by omega),shiftDown];dsimp only;cases hl:olt d[j+1]! d[j]! with
  |false=>exact⟨rfl,rfl⟩
  |true=>
   rw [jU,jF,A5 N rfl rfl hj (by omega) h2];have:=O5 N k (a:=a) (b:=b) (i:=i) (s:=s) j n (swp d (j+1) j) (by rw [y8];omega) (by rw [y8];exact h2) (by rw [y8];exact hs) (by omega);rw [y8] at this;exact this
theorem xKU(d:Array Org)(b:Nat):∀(m i:Nat),b - i=m->i<=b->i<=scanSorted olt d b i/\scanSorted olt d b i<=b:=by
 intro m
 induction m with
 |zero=>intro i hm hi;rw [scanSorted,Zf (by simp;omega)];omega
 |succ m ih=>
  intro i hm hi;rw [scanSorted];split
  ·have:=ih (i+1) (by omega) (by omega);omega
  ·omega
theorem xKT(N:Nat)(k:Int->Int->Int->Int->List Org->Option (Bool×List Org)){a b:Nat}{s:Nat}:∀(m i n:Nat) (d:Array Org),b - i=m->0<i->i<=b->b<=d.size->2<=d.size->d.size<1152921504606846976->m<n->
 FG N k n (a:Int) (b:Int) (i:Int) (s:Int) d.toList=FH N k (a:Int) (b:Int) ((scanSorted olt d b i:Nat):Int) (s:Int) d.toList:=by
 intro m
 induction m with
 |zero=>
  intro i n d hm hi hib hb h2 hs hn;obtain⟨n,rfl⟩:∃m,n=m+1:=⟨n - 1,by omega⟩;have e:(decide ((i:Int)<(b:Int)))=false:=Zy (by omega);rw [FG,e,jF,scanSorted,Zf (by simp;omega)]
 |succ m ih=>
  intro i n d hm hi hib hb h2 hs hn;obtain⟨n,rfl⟩:∃m,n=m+1:=⟨n - 1,by omega⟩;have e:(decide ((i:Int)<(b:Int)))=true:=Zz (by omega);have w1:i64.wrap ((i:Int) - 1)=((i - 1:Nat):Int):=wn _ (by omega) (by omega);have w2:i64.wrap ((i:Int)+1)=((i+1:Nat):Int):=wn _ (by omega) (by omega);rw [FG,e,jT,w1,w2,As N rfl rfl (by omega) (by omega),scanSorted];dsimp only;cases hl:olt d[i]! d[i - 1]! with
  |false=>
   rw [jV,jT,Zw (by simp;omega)];exact ih (i+1) n d (by omega) (by omega) (by omega) hb h2 hs (by omega)
  |true=>rw [jU,jF,Zf (by simp)]
theorem xKv(N:Nat)(k:Int->Int->Int->Int->List Org->Option (Bool×List Org)){a b i:Nat}{s:Nat}(hs5:s<100)(d:Array Org)(hai:a<i)(hib:i<=b)(hb:b<=d.size)(h2:2<=d.size)(hs:d.size<1152921504606846976)(hN:d.size<N):
 FH N k (a:Int) (b:Int) (i:Int) (s:Int) d.toList=
  (if i=b then some (true,d.toList) else if b - a<50 then some (false,d.toList) else
    k (a:Int) (b:Int) (i:Int) ((s+1:Nat):Int) (Gm b i (if i - a>=2 then shiftDown olt (i - 1) (swp d i (i - 1)) else swp d i (i - 1))).toList)/\
 (i≠b->(Gm b i (if i - a>=2 then shiftDown olt (i - 1) (swp d i (i - 1)) else swp d i (i - 1))).size=d.size):=by
 have w1:i64.wrap ((b:Int) - (a:Int))=((b - a:Nat):Int):=wn _ (by omega) (by omega);have w2:i64.wrap ((i:Int) - 1)=((i - 1:Nat):Int):=wn _ (by omega) (by omega);have w3:i64.wrap ((i:Int) - (a:Int))=((i - a:Nat):Int):=wn _ (by omega) (by omega);unfold FH;rw [w1,w2,w3];by_cases h:i=b
 ·have e:(((i:Int))==(b:Int))=true:=by simp [h]
  rw [e,jT,Zw h];exact⟨rfl,fun g=>absurd h g⟩
 ·have e:(((i:Int))==(b:Int))=false:=by simp;omega
  rw [e,jF,Zf h];have hlt:i<b:=by omega
  have d1:=O5 N k (a:=a) (b:=b) (i:=i) (s:=s) (i - 1) N (swp d i (i - 1)) (by rw [y8];omega) (by rw [y8];exact h2) (by rw [y8];exact hs) (by omega);rw [y8] at d1;by_cases h50:b - a<50
  ·have e2:(decide (((b - a:Nat):Int)<50))=true:=Zz (by omega);rw [e2,jT,Zw h50];refine⟨rfl,fun _=> ?_⟩;by_cases h3:i - a>=2
   ·rw [Zw h3];rw [(Hp N k (a:=a) (i:=i) hs5 (shiftDown olt (i - 1) (swp d i (i - 1))) hib (by rw [d1.2];exact hb) (by rw [d1.2];exact h2) (by rw [d1.2];exact hs) (by rw [d1.2];exact hN)).2,d1.2]
   ·rw [Zf h3];rw [(Hp N k (a:=a) (i:=i) hs5 (swp d i (i - 1)) hib (by rw [y8];exact hb) (by rw [y8];exact h2) (by rw [y8];exact hs) (by rw [y8];exact hN)).2,y8]
  ·have e2:(decide (((b - a:Nat):Int)<50))=false:=Zy (by omega);rw [e2,jF,Zf h50,A5 N rfl rfl (by omega) (by omega) h2];by_cases h3:i - a>=2
   ·have e3:(decide (((i - a:Nat):Int)>=2))=true:=Zz (by omega);have u:=Hp N k (a:=a) (i:=i) hs5 (shiftDown olt (i - 1) (swp d i (i - 1))) hib (by rw [d1.2];exact hb) (by rw [d1.2];exact h2) (by rw [d1.2];exact hs) (by rw [d1.2];exact hN);rw [e3,jT,Zw h3,d1.1,u.1,u.2,d1.2];exact⟨rfl,fun _=>rfl⟩
   ·have e3:(decide (((i - a:Nat):Int)>=2))=false:=Zy (by omega);have u:=Hp N k (a:=a) (i:=i) hs5 (swp d i (i - 1)) hib (by rw [y8];exact hb) (by rw [y8];exact h2) (by rw [y8];exact hs) (by rw [y8];exact hN);rw [e3,jF,Zf h3,u.1,u.2,y8];exact⟨rfl,fun _=>rfl⟩
theorem OT(N:Nat){a b:Nat}:∀(q s i n:Nat) (d:Array Org),s+q=5->a<i->i<=b->b<=d.size->2<=d.size->d.size<1152921504606846976->q<n->d.size<N->
 Dh N n (a:Int) (b:Int) (i:Int) (s:Int) d.toList=some ((partialIns olt a b q i d).2,(partialIns olt a b q i d).1.toList)
 |0,s,i,n,d,hq,hai,hib,hb,h2,hs,hn,hN=>by
  obtain⟨n,rfl⟩:∃m,n=m+1:=⟨n - 1,by omega⟩;have e:(decide ((s:Int)<5))=false:=Zy (by omega);rw [Dh,e,jF]
  rfl
 |q+1,s,i,n,d,hq,hai,hib,hb,h2,hs,hn,hN=>by
  obtain⟨n,rfl⟩:∃m,n=m+1:=⟨n - 1,by omega⟩;have e:(decide ((s:Int)<5))=true:=Zz (by omega);have hsc:=xKU d b _ i rfl hib;rw [Dh,e,jT,xKT N _ _ i N d rfl (by omega) hib hb h2 hs (by omega),partialIns];generalize scanSorted olt d b i=i2 at hsc;obtain⟨p1,p2⟩:=xKv N (fun z0 z1 z2 z3 z4=>(Dh N n z0 z1 z2 z3 z4)) (a:=a) (b:=b) (i:=i2) (s:=s) (by omega) d (by omega) (by omega) hb h2 hs hN;rw [p1];dsimp only;by_cases h:i2=b
  ·rw [Zw h,Zw h]
  ·rw [Zf h,Zf h];by_cases h50:b - a<50
   ·rw [Zw h50,Zw h50]
   ·rw [Zf h50,Zf h50];have hsz:=p2 h;exact OT N q (s+1) i2 n _ (by omega) (by omega) (by omega) (by rw [hsz];exact hb) (by rw [hsz];exact h2) (by rw [hsz];exact hs) (by omega) (by rw [hsz];exact hN)
theorem xKw(N:Nat){a b:Nat}{d:Array Org}(hab:a<b)(hb:b<=d.size)(h2:2<=d.size)(hs:d.size<1152921504606846976)(hN:d.size+10<N):
 Hw N (a:Int) (b:Int) d.toList=some ((partialInsertionSort olt d a b).2,(partialInsertionSort olt d a b).1.toList):=by
 have wa:i64.wrap ((a:Int)+1)=((a+1:Nat):Int):=wn _ (by omega) (by omega);unfold Hw partialInsertionSort;rw [wa];exact OT N 5 0 (a+1) N d rfl (by omega) (by omega) hb h2 hs (by omega) (by omega)
end Go.Ab
end
section
open Go.IntKind (i64)
namespace Go.Ab
open Go.Sort
theorem KG(N:Nat){x y:Int}{i j:Nat}(s:Int){d:Array Org}(hx:x=i)(hy:y=j)(hi:i<d.size)(hj:j<d.size):
 ∃(i' j' :Nat) (s' :Int),FC N x y s d.toList=some ((i' :Int),(j' :Int),s',d.toList)/\((i' =i/\j' =j)\/(i' =j/\j' =i)):=by
 subst hx hy;unfold FC;rw [As N rfl rfl hj hi];dsimp only;cases olt d[j]! d[i]! with
 |true=>exact⟨j,i,_,rfl,.inr ⟨rfl,rfl⟩⟩
 |false=>exact⟨i,j,_,rfl,.inl ⟨rfl,rfl⟩⟩
theorem Jw(N:Nat){x y z:Int}{i j k:Nat}(s:Int){d:Array Org}(hx:x=i)(hy:y=j)(hz:z=k)(hi:i<d.size)(hj:j<d.size)(hk:k<d.size):
 ∃(m:Nat) (s' :Int),FB N x y z s d.toList=some ((m:Int),s',d.toList)/\(m=i\/m=j\/m=k):=by
 unfold FB;obtain⟨i1,j1,s1,e1,h1⟩:=KG N s hx hy hi hj;rw [e1];obtain⟨i2,j2,s2,e2,h2⟩:=KG N s1 (x:=(j1:Int)) (y:=z) rfl hz (by omega) hk;simp only [jS];rw [e2];obtain⟨i3,j3,s3,e3,h3⟩:=KG N s2 (x:=(i1:Int)) (y:=(i2:Int)) (d:=d) rfl rfl (by omega) (by omega);simp only [jS];rw [e3];exact⟨j3,s3,rfl,by omega⟩
theorem Jv(N:Nat){x:Int}{i:Nat}(s:Int){d:Array Org}(hx:x=i)(h0:0<i)(hi:i+1<d.size)(hs:d.size<1152921504606846976):
 ∃(m:Nat) (s' :Int),FA N x s d.toList=some ((m:Int),s',d.toList)/\(m=i - 1\/m=i\/m=i+1):=by
 subst hx;unfold FA;have w1:i64.wrap ((i:Int) - 1)=((i - 1:Nat):Int):=wn _ (by omega) (by omega);have w2:i64.wrap ((i:Int)+1)=((i+1:Nat):Int):=wn _ (by omega) (by omega);rw [w1,w2];obtain⟨m,s1,e1,h1⟩:=Jw N s (x:=((i - 1:Nat):Int)) (y:=(i:Int)) (z:=((i+1:Nat):Int)) (d:=d) rfl rfl rfl (by omega) (by omega) hi;rw [e1];exact⟨m,s1,rfl,h1⟩
theorem xEl(N:Nat){a b:Nat}{d:Array Org}(hab:a+12<b)(hb:b<=d.size)(hs:d.size<1152921504606846976):
 ∃(p:Nat) (h:Int),Hr N (a:Int) (b:Int) d.toList=some ((p:Int),h,d.toList)/\(a<=p/\p<b):=by
 have w1:i64.wrap ((b:Int) - (a:Int))=((b - a:Nat):Int):=wn _ (by omega) (by omega);have t:Int.tdiv ((b - a:Nat):Int) 4=(((b - a) / 4:Nat):Int):=rfl;have w2:i64.wrap (Int.tdiv ((b - a:Nat):Int) 4)=(((b - a) / 4:Nat):Int):=by rw [t];exact wn _ rfl (by omega)
 have q:∀c:Nat,c<=3->i64.wrap ((a:Int)+i64.wrap ((((b - a) / 4:Nat):Int)*(c:Int)))=((a+(b - a) / 4*c:Nat):Int):=by
  intro c hc;have hle:(b - a) / 4*c<=(b - a) / 4*3:=Nat.mul_le_mul_left _ hc;have e:i64.wrap ((((b - a) / 4:Nat):Int)*(c:Int))=(((b - a) / 4*c:Nat):Int):=wn _ (by simp) (by omega);rw [e];exact wn _ (by simp) (by omega)
 have q1:=q 1 (by omega);have q2:=q 2 (by omega);have q3:=q 3 (by omega);have q1:i64.wrap ((a:Int)+i64.wrap ((((b - a) / 4:Nat):Int)*1))=_:=q1;have q2:i64.wrap ((a:Int)+i64.wrap ((((b - a) / 4:Nat):Int)*2))=_:=q2;have q3:i64.wrap ((a:Int)+i64.wrap ((((b - a) / 4:Nat):Int)*3))=_:=q3;unfold Hr;rw [w1,w2,q1,q2,q3];have e8:(decide (((b - a:Nat):Int)>=8))=true:=Zz (by omega);rw [e8,jT];have k1:3<=(b - a) / 4:=by omega
 have k2:(b - a) / 4*4<=b - a:=by omega
 clear q q1 q2 q3 w2 t;generalize (b - a) / 4=q at k1 k2;by_cases h50:b - a>=50
 ·have e50:(decide (((b - a:Nat):Int)>=50))=true:=Zz (by omega);rw [e50,jT];obtain⟨m1,s1,e1,h1⟩:=Jv N 0 (x:=((a+q*1:Nat):Int)) (d:=d) rfl (by omega) (by omega) hs;rw [e1];simp only [jS];obtain⟨m2,s2,e2,h2⟩:=Jv N s1 (x:=((a+q*2:Nat):Int)) (d:=d) rfl (by omega) (by omega) hs;rw [e2];simp only [jS];obtain⟨m3,s3,e3,h3⟩:=Jv N s2 (x:=((a+q*3:Nat):Int)) (d:=d) rfl (by omega) (by omega) hs;rw [e3];simp only [jS];obtain⟨m4,s4,e4,h4⟩:=Jw N s3 (x:=(m1:Int)) (y:=(m2:Int)) (z:=(m3:Int)) (d:=d) rfl rfl rfl (by omega) (by omega) (by omega);rw [e4];simp only [jS];have hm:a<=m4/\m4<b:=by omega
  generalize (s4==(0:Int))=c1;generalize (s4==(12:Int))=c2;cases c1 <;>cases c2 <;>exact⟨m4,_,rfl,hm⟩
 ·have e50:(decide (((b - a:Nat):Int)>=50))=false:=Zy (by omega);rw [e50,jF];obtain⟨m4,s4,e4,h4⟩:=Jw N 0 (x:=((a+q*1:Nat):Int)) (y:=((a+q*2:Nat):Int)) (z:=((a+q*3:Nat):Int)) (d:=d) rfl rfl rfl (by omega) (by omega) (by omega);rw [e4];simp only [jS];have hm:a<=m4/\m4<b:=by omega
  generalize (s4==(0:Int))=c1;generalize (s4==(12:Int))=c2;cases c1 <;>cases c2 <;>exact⟨m4,_,rfl,hm⟩
theorem Gn{x:Int}(h1:0<=x)(h2:x<18446744073709551616):IntKind.u64.wrap x=x:=by
 have:IntKind.u64.wrap x=x % 18446744073709551616:=by
  unfold IntKind.wrap;simp [IntKind.bits,IntKind.signed]
 rw [this];exact Int.emod_eq_of_lt h1 h2
theorem xCP{r y:Int}{m:Nat}(hy:y=m)(hm:m<9223372036854775808):∃o:Nat,rT .u64 r y=(o:Int)/\o<=m:=by
 subst hy;unfold rT;refine⟨(BitVec.ofInt 64 r &&& BitVec.ofInt 64 (m:Int)).toNat,?_,?_⟩
 ·show IntKind.u64.wrap (((BitVec.ofInt 64 r &&& BitVec.ofInt 64 (m:Int)).toNat:Nat):Int)=_;refine Gn (by omega) ?_;have:=(BitVec.ofInt 64 r &&& BitVec.ofInt 64 (m:Int)).isLt;omega
 ·rw [BitVec.toNat_and];refine ZF Nat.and_le_right ?_;rw [BitVec.toNat_ofInt];omega
theorem xCU(N:Nat){a b M:Nat}(hl:12<b - a)(hM:M<=2*(b - a))(hM0:0<M):∀(m idx n:Nat) (st:Int) (d:Array Org),a+(b - a) / 4*2+2 - idx=m->a<=idx->b<=d.size->d.size<1152921504606846976->m<n->
 ∃d',Df N n (a:Int) ((b - a:Nat):Int) (M:Int) (idx:Int) st d.toList=some d'.toList/\PermIn a b d d' :=by
 intro m
 induction m with
 |zero=>
  intro idx n st d hm hidx hb hs hn;obtain⟨n,rfl⟩:∃m,n=m+1:=⟨n - 1,by omega⟩;have t:Int.tdiv ((b - a:Nat):Int) 4=(((b - a) / 4:Nat):Int):=rfl;have w2:i64.wrap (Int.tdiv ((b - a:Nat):Int) 4)=(((b - a) / 4:Nat):Int):=by rw [t];exact wn _ rfl (by omega)
  have w3:i64.wrap ((((b - a) / 4:Nat):Int)*2)=(((b - a) / 4*2:Nat):Int):=wn _ (by simp) (by omega);have w4:i64.wrap ((a:Int)+(((b - a) / 4*2:Nat):Int))=((a+(b - a) / 4*2:Nat):Int):=wn _ (by simp) (by omega);have w5:i64.wrap (((a+(b - a) / 4*2:Nat):Int)+1)=((a+(b - a) / 4*2+1:Nat):Int):=wn _ (by simp) (by omega);rw [Df,w2,w3,w4,w5];have e:(decide ((idx:Int)<=((a+(b - a) / 4*2+1:Nat):Int)))=false:=Zy (by omega);rw [e,jF];exact⟨d,rfl,permIn_refl d a b⟩
 |succ m ih=>
  intro idx n st d hm hidx hb hs hn;obtain⟨n,rfl⟩:∃m,n=m+1:=⟨n - 1,by omega⟩;have t:Int.tdiv ((b - a:Nat):Int) 4=(((b - a) / 4:Nat):Int):=rfl;have w2:i64.wrap (Int.tdiv ((b - a:Nat):Int) 4)=(((b - a) / 4:Nat):Int):=by rw [t];exact wn _ rfl (by omega)
  have w3:i64.wrap ((((b - a) / 4:Nat):Int)*2)=(((b - a) / 4*2:Nat):Int):=wn _ (by simp) (by omega);have w4:i64.wrap ((a:Int)+(((b - a) / 4*2:Nat):Int))=((a+(b - a) / 4*2:Nat):Int):=wn _ (by simp) (by omega);have w5:i64.wrap (((a+(b - a) / 4*2:Nat):Int)+1)=((a+(b - a) / 4*2+1:Nat):Int):=wn _ (by simp) (by omega);have w6:IntKind.u64.wrap ((M:Int) - 1)=((M - 1:Nat):Int):=by rw [Gn (by omega) (by omega)];omega
  have w7:i64.wrap ((idx:Int)+1)=((idx+1:Nat):Int):=wn _ (by omega) (by omega);rw [Df,w2,w3,w4,w5,w6,w7];have e:(decide ((idx:Int)<=((a+(b - a) / 4*2+1:Nat):Int)))=true:=Zz (by omega);rw [e,jT];cases hx:IB N st with
  |none=>unfold IB at hx;cases hx
  |some r=>
   rw [jS];obtain⟨o,ho1,ho2⟩:=xCP (r:=r.1) (y:=((M - 1:Nat):Int)) (m:=M - 1) rfl (by omega);have w8:i64.wrap (rT .u64 r.1 ((M - 1:Nat):Int))=(o:Int):=by rw [ho1];exact wn o rfl (by omega)
   rw [w8];by_cases hc:o>=b - a
   ·have e2:(decide ((o:Int)>=((b - a:Nat):Int)))=true:=Zz (by omega);have w9:i64.wrap ((o:Int) - ((b - a:Nat):Int))=((o - (b - a):Nat):Int):=wn _ (by omega) (by omega);have w10:i64.wrap ((a:Int)+((o - (b - a):Nat):Int))=((a+(o - (b - a)):Nat):Int):=wn _ (by omega) (by omega);rw [e2,jT,w9,w10,A5 N rfl rfl (by omega) (by omega) (by omega)];obtain⟨d',h1,h2⟩:=ih (idx+1) n r.2 (swp d idx (a+(o - (b - a)))) (by omega) (by omega) (by rw [y8];exact hb) (by rw [y8];exact hs) (by omega);exact⟨d',h1,permIn_trans _ _ _ a b (swp_permIn d a b idx (a+(o - (b - a))) hidx (by omega) (by omega) (by omega) hb) h2⟩
   ·have e2:(decide ((o:Int)>=((b - a:Nat):Int)))=false:=Zy (by omega);have w10:i64.wrap ((a:Int)+(o:Int))=((a+o:Nat):Int):=wn _ (by omega) (by omega);rw [e2,jF,w10,A5 N rfl rfl (by omega) (by omega) (by omega)];obtain⟨d',h1,h2⟩:=ih (idx+1) n r.2 (swp d idx (a+o)) (by omega) (by omega) (by rw [y8];exact hb) (by rw [y8];exact hs) (by omega);exact⟨d',h1,permIn_trans _ _ _ a b (swp_permIn d a b idx (a+o) hidx (by omega) (by omega) (by omega) hb) h2⟩
theorem xCT{x:Nat}(h0:0<x)(h:x<1152921504606846976):0<Lib.bitLen x/\Lib.bitLen x<=60/\2 ^ Lib.bitLen x<=2*x:=by
 obtain⟨h1,h2,h3⟩:=Lib.bitLenAux_bounds 64 x (by omega) (by omega);have h1:1<=Lib.bitLen x:=h1;have h2:2 ^ (Lib.bitLen x - 1)<=x:=h2;refine⟨by omega,Lib.bitLen_le x 60 (by omega) (by omega),?_⟩;obtain⟨k,hk⟩:∃k,Lib.bitLen x=k+1:=⟨Lib.bitLen x - 1,by omega⟩;rw [hk] at h2 ⊢;rw [X9] at h2;rw [Nat.pow_succ];omega
theorem xJ5(N:Nat){l:Nat}(h0:0<l)(h:l<1152921504606846976):∃M:Nat,Hv N (l:Int)=some (M:Int)/\0<M/\M<=2*l:=by
 obtain⟨f1,f2,f3⟩:=xCT h0 h;have w1:IntKind.u64.wrap (l:Int)=(l:Int):=Gn (by omega) (by omega);have w2:IntKind.u64.wrap ((Lib.bitLen l:Nat):Int)=((Lib.bitLen l:Nat):Int):=Gn (by omega) (by omega);have hp:(2:Nat) ^ Lib.bitLen l<18446744073709551616:=by omega
 unfold Hv Ju nF;rw [w1,Zw (by omega),jS,jI,w2,Zw (by omega),jI];refine⟨2 ^ Lib.bitLen l,?_,Nat.pos_of_ne_zero (by simp),f3⟩;have e:(1:Int)*2 ^ Lib.bitLen l=((2 ^ Lib.bitLen l:Nat):Int):=by simp
 rw [e];generalize (2:Nat) ^ Lib.bitLen l=P at hp;rw [Gn (by omega) (by omega)]
theorem xCV(N:Nat){a b:Nat}{d:Array Org}(hab:a+12<b)(hb:b<=d.size)(hs:d.size<1152921504606846976)(hN:5<N):
 ∃d',Hq N (a:Int) (b:Int) d.toList=some d'.toList/\PermIn a b d d' :=by
 have w1:i64.wrap ((b:Int) - (a:Int))=((b - a:Nat):Int):=wn _ (by omega) (by omega);have t:Int.tdiv ((b - a:Nat):Int) 4=(((b - a) / 4:Nat):Int):=rfl;have w2:i64.wrap (Int.tdiv ((b - a:Nat):Int) 4)=(((b - a) / 4:Nat):Int):=by rw [t];exact wn _ rfl (by omega)
 have w3:i64.wrap ((((b - a) / 4:Nat):Int)*2)=(((b - a) / 4*2:Nat):Int):=wn _ (by simp) (by omega);have w4:i64.wrap ((a:Int)+(((b - a) / 4*2:Nat):Int))=((a+(b - a) / 4*2:Nat):Int):=wn _ (by simp) (by omega);have w5:i64.wrap (((a+(b - a) / 4*2:Nat):Int) - 1)=((a+(b - a) / 4*2 - 1:Nat):Int):=wn _ (by omega) (by omega);unfold Hq;rw [w1,w2,w3,w4,w5];have e8:(decide (((b - a:Nat):Int)>=8))=true:=Zz (by omega);obtain⟨M,m1,m2,m3⟩:=xJ5 N (l:=b - a) (by omega) (by omega);rw [e8,jT,m1,jS];exact xCU N (by omega) m3 m2 _ _ N _ d rfl (by omega) hb hs (by omega)
def Sorts(a b:Nat)(d:Array Org)(o:Option (List Org)):Prop:=∃d',o=some d'.toList/\PermIn a b d d' /\SortedIn olt a b d'
theorem Sorts.after{a b:Nat}{d d1:Array Org}{o:Option (List Org)}(h:PermIn a b d d1)(hs:Sorts a b d1 o):Sorts a b d o:=
 hs.elim fun d' ⟨h1,h2,h3⟩=>⟨d',h1,permIn_trans _ _ _ a b h h2,h3⟩
theorem OR(N:Nat){q:Int->Int->Int->List Org->Option (List Org)}{k:Int->Int->Int->Bool->Bool->List Org->Option (List Org)}{a b p:Nat}(lim x10:Int){d:Array Org}
 (hp1:a<=p) (hp2:p<b) (hb:b<=d.size) (hab:a+12<b) (hs:d.size<1152921504606846976) (hN:d.size<N) (hB:Below olt a b d)
 (hq:∀(a' b' :Nat) (d' :Array Org),b' - a' <b - a->a' <=b' ->b' <=d'.size->d'.size=d.size->Below olt a' b' d' ->Sorts a' b' d' (q (a' :Int) (b' :Int) lim d'.toList))
 (hk:∀(a' b' :Nat) (wb wp:Bool) (d' :Array Org),b' - a' <b - a->a' <=b' ->b' <=d'.size->d'.size=d.size->Below olt a' b' d' ->Sorts a' b' d' (k (a' :Int) (b' :Int) lim wb wp d'.toList)):
 Sorts a b d (GV N q k (a:Int) (b:Int) lim x10 (p:Int) d.toList):=by
 unfold GV;rw [xKn N hp1 hp2 hb (by omega) (by omega) hs hN,jS];obtain⟨mid,ap,d4,hx⟩:∃mid ap d4,partition olt d a b p=(mid,ap,d4):=⟨_,_,_,rfl⟩;rw [hx];obtain⟨g1,g2,hs4,hBa,hBr,hleft,hright⟩:=round_part Bf (partition_holds olt) hp1 hp2 hb hB hx;dsimp only;have w1:i64.wrap ((mid:Int) - (a:Int))=((mid - a:Nat):Int):=wn _ (by omega) (by omega);have w2:i64.wrap ((b:Int) - (mid:Int))=((b - mid:Nat):Int):=wn _ (by omega) (by omega);have w3:i64.wrap ((mid:Int)+1)=((mid+1:Nat):Int):=wn _ (by omega) (by omega);rw [w1,w2,w3];cases decide (((mid - a:Nat):Int)<((b - mid:Nat):Int)) with
 |true=>
  rw [jT];obtain⟨L,l1,l2,l3⟩:=hq a mid d4 (by omega) g1 (by omega) hs4 hBa;rw [l1,jS];obtain⟨hBL,hfin⟩:=hleft L l2 l3;obtain⟨R,r1,r2,r3⟩:=hk (mid+1) b (decide (((mid - a:Nat):Int)>=i64.wrap (Int.tdiv x10 8))) ap L (by omega) (by omega) (by rw [l2.1];omega) (by rw [l2.1];exact hs4) hBL;exact⟨R,r1,hfin R r2 r3⟩
 |false=>
  rw [jF];obtain⟨L,l1,l2,l3⟩:=hq (mid+1) b d4 (by omega) (by omega) (by omega) hs4 hBr;rw [l1,jS];obtain⟨hBL,hfin⟩:=hright L l2 l3;obtain⟨R,r1,r2,r3⟩:=hk a mid (decide (((b - mid:Nat):Int)>=i64.wrap (Int.tdiv x10 8))) ap L (by omega) g1 (by rw [l2.1];omega) (by rw [l2.1];exact hs4) hBL;exact⟨R,r1,hfin R r2 r3⟩
theorem OQ(N:Nat){q:Int->Int->Int->List Org->Option (List Org)}{k:Int->Int->Int->Bool->Bool->List Org->Option (List Org)}{a b p:Nat}(lim x10:Int)(wb wp:Bool){d:Array Org}
 (hp1:a<=p) (hp2:p<b) (hb:b<=d.size) (hab:a+12<b) (hs:d.size<1152921504606846976) (hN:d.size<N) (hB:Below olt a b d)
 (hq:∀(a' b' :Nat) (d' :Array Org),b' - a' <b - a->a' <=b' ->b' <=d'.size->d'.size=d.size->Below olt a' b' d' ->Sorts a' b' d' (q (a' :Int) (b' :Int) lim d'.toList))
 (hk:∀(a' b' :Nat) (wb wp:Bool) (d' :Array Org),b' - a' <b - a->a' <=b' ->b' <=d'.size->d'.size=d.size->Below olt a' b' d' ->Sorts a' b' d' (k (a' :Int) (b' :Int) lim wb wp d'.toList)):
 Sorts a b d (Dj N q k (a:Int) (b:Int) lim wb wp x10 (p:Int) d.toList):=by
 unfold Dj;by_cases ha:0<a
 ·have e:(decide ((a:Int)>0))=true:=Zz (by omega);have w1:i64.wrap ((a:Int) - 1)=((a - 1:Nat):Int):=wn _ (by omega) (by omega);rw [e,jT,w1,As N rfl rfl (by omega) (by omega)];dsimp only;cases hl:olt d[a - 1]! d[p]! with
  |true=>rw [jU,jF];exact OR N lim x10 hp1 hp2 hb hab hs hN hB hq hk
  |false=>
   rw [jV,jT,xKp N hp1 hp2 hb (by omega) (by omega) hs hN,jS];obtain⟨mid,d4,hx⟩:∃mid d4,partitionEqual olt d a b p=(mid,d4):=⟨_,_,rfl⟩;rw [hx];obtain⟨g1,g2,hs4,hB4,hfin⟩:=round_eq Bf (partitionEqual_holds olt) ha hp1 hp2 hb hB hl hx;obtain⟨R,r1,r2,r3⟩:=hk mid b wb wp d4 (by omega) g2 (by omega) hs4 hB4;exact⟨R,r1,hfin R r2 r3⟩
 ·have e:(decide ((a:Int)>0))=false:=Zy (by omega);rw [e,jF];exact OR N lim x10 hp1 hp2 hb hab hs hN hB hq hk
theorem OP(N:Nat){q:Int->Int->Int->List Org->Option (List Org)}{k:Int->Int->Int->Bool->Bool->List Org->Option (List Org)}{a b p:Nat}(lim x10 x12:Int)(wb wp:Bool){d:Array Org}
 (hp1:a<=p) (hp2:p<b) (hb:b<=d.size) (hab:a+12<b) (hs:d.size<1152921504606846976) (hN:d.size+10<N) (hB:Below olt a b d)
 (hq:∀(a' b' :Nat) (d' :Array Org),b' - a' <b - a->a' <=b' ->b' <=d'.size->d'.size=d.size->Below olt a' b' d' ->Sorts a' b' d' (q (a' :Int) (b' :Int) lim d'.toList))
 (hk:∀(a' b' :Nat) (wb wp:Bool) (d' :Array Org),b' - a' <b - a->a' <=b' ->b' <=d'.size->d'.size=d.size->Below olt a' b' d' ->Sorts a' b' d' (k (a' :Int) (b' :Int) lim wb wp d'.toList)):
 Sorts a b d (GU N q k (a:Int) (b:Int) lim wb wp x10 (p:Int) x12 d.toList):=by
 have go:=OQ N lim x10 wb wp hp1 hp2 hb hab hs (by omega) hB hq hk;unfold GU;cases wb with
 |false=>exact go
 |true=>
  cases wp with
  |false=>exact go
  |true=>
   simp only [jT];cases (x12:Int)==1 with
   |false=>exact go
   |true=>
    rw [jT,xKw N (by omega) hb (by omega) hs hN,jS];obtain⟨i1,i2⟩:=partialInsertionSort_holds Bf d a b (by omega) hb hB;dsimp only;cases hc:(partialInsertionSort olt d a b).2 with
    |true=>exact⟨_,rfl,i1,i2 hc⟩
    |false=>
     rw [jF];refine Sorts.after i1 ?_;exact OQ N lim x10 true true hp1 hp2 (by rw [i1.1];exact hb) hab (by rw [i1.1];exact hs) (by rw [i1.1];omega) (hB.perm hb i1) (fun a' b' d' g1 g2 g3 g4=>hq a' b' d' g1 g2 g3 (g4.trans i1.1)) (fun a' b' wb wp d' g1 g2 g3 g4=>hk a' b' wb wp d' g1 g2 g3 (g4.trans i1.1))
theorem OO(N:Nat){q:Int->Int->Int->List Org->Option (List Org)}{k:Int->Int->Int->Bool->Bool->List Org->Option (List Org)}{a b:Nat}(lim x10:Int)(wb wp:Bool){d:Array Org}
 (hb:b<=d.size) (hab:a+12<b) (hs:d.size<1152921504606846976) (hN:d.size+10<N) (hB:Below olt a b d)
 (hq:∀(a' b' :Nat) (d' :Array Org),b' - a' <b - a->a' <=b' ->b' <=d'.size->d'.size=d.size->Below olt a' b' d' ->Sorts a' b' d' (q (a' :Int) (b' :Int) lim d'.toList))
 (hk:∀(a' b' :Nat) (wb wp:Bool) (d' :Array Org),b' - a' <b - a->a' <=b' ->b' <=d'.size->d'.size=d.size->Below olt a' b' d' ->Sorts a' b' d' (k (a' :Int) (b' :Int) lim wb wp d'.toList)):
 Sorts a b d (GT N q k (a:Int) (b:Int) lim wb wp x10 d.toList):=by
 unfold GT;obtain⟨p,h,e,hp1,hp2⟩:=xEl N hab hb hs;rw [e,jS];dsimp only;cases h==(2:Int) with
 |false=>rw [jF];exact OP N lim x10 h wb wp hp1 hp2 hb hab hs hN hB hq hk
 |true=>
  have i1:=reverseRange_holds d a b (by omega) hb;have w1:i64.wrap ((b:Int) - 1)=((b - 1:Nat):Int):=wn _ (by omega) (by omega);have w2:i64.wrap ((p:Int) - (a:Int))=((p - a:Nat):Int):=wn _ (by omega) (by omega);have w3:i64.wrap (((b - 1:Nat):Int) - ((p - a:Nat):Int))=((b - 1 - (p - a):Nat):Int):=wn _ (by omega) (by omega);rw [jT,xKE N (by omega) hb (by omega) hs (by omega),jS,w1,w2,w3];refine Sorts.after i1 ?_;exact OP N lim x10 1 wb wp (by omega) (by omega) (by rw [i1.1];exact hb) hab (by rw [i1.1];exact hs) (by rw [i1.1];omega) (hB.perm hb i1) (fun a' b' d' g1 g2 g3 g4=>hq a' b' d' g1 g2 g3 (g4.trans i1.1)) (fun a' b' wb wp d' g1 g2 g3 g4=>hk a' b' wb wp d' g1 g2 g3 (g4.trans i1.1))
theorem xKq(N:Nat):∀(m a b n dep:Nat) (lim:Int) (wb wp:Bool) (d:Array Org),b - a=m->a<=b->b<=d.size->2<=d.size->d.size<1152921504606846976->m<n->m<=dep->d.size+10<N->Below olt a b d->
 Sorts a b d (Dk N (Dl N dep) n (a:Int) (b:Int) lim wb wp d.toList):=by
 intro m
 induction m using Nat.strongRecOn with
 |_ m ih=>
  intro a b n dep lim wb wp d hm hab hb h2 hs hn hdep hN hB;obtain⟨n,rfl⟩:∃m,n=m+1:=⟨n - 1,by omega⟩;have w1:i64.wrap ((b:Int) - (a:Int))=((b - a:Nat):Int):=wn _ (by omega) (by omega);rw [Dk,w1];by_cases h12:b - a<=12
  ·have e:(decide (((b - a:Nat):Int)<=12))=true:=Zz (by omega);rw [e,jT,xIY N hab hb h2 hs (by omega),jS];exact⟨_,rfl,insertionSort_holds Bf d a b hab hb⟩
  ·have e:(decide (((b - a:Nat):Int)<=12))=false:=Zy (by omega);rw [e,jF];cases (lim==(0:Int)) with
   |true=>
    rw [jT,xGn N (by omega) hb h2 hs (by omega),jS];exact⟨_,rfl,heapSort_holds Bf d a b hab hb⟩
   |false=>
    rw [jF];have hq:∀(lim:Int) (a' b' :Nat) (d' :Array Org),b' - a' <b - a->a' <=b' ->b' <=d'.size->d'.size=d.size->Below olt a' b' d' ->Sorts a' b' d' (Dl N dep (a' :Int) (b' :Int) lim d'.toList):=by
     intro lim a' b' d' g1 g2 g3 g4 g5;obtain⟨dep,rfl⟩:∃m,dep=m+1:=⟨dep - 1,by omega⟩;rw [Dl];exact ih (b' - a') (by omega) a' b' N dep lim true true d' rfl g2 g3 (by omega) (by omega) (by omega) (by omega) (by omega) g5
    have hk:∀(lim:Int) (a' b' :Nat) (wb wp:Bool) (d' :Array Org),b' - a' <b - a->a' <=b' ->b' <=d'.size->d'.size=d.size->Below olt a' b' d' ->Sorts a' b' d' (Dk N (Dl N dep) n (a' :Int) (b' :Int) lim wb wp d'.toList):=
     fun lim a' b' wb wp d' g1 g2 g3 g4 g5=>ih (b' - a') (by omega) a' b' n dep lim wb wp d' rfl g2 g3 (by omega) (by omega) (by omega) (by omega) (by omega) g5
    cases wb with
    |true=>exact OO N lim _ true wp hb (by omega) hs hN hB (hq lim) (hk lim)
    |false=>
     obtain⟨d1,e1,i1⟩:=xCV N (a:=a) (b:=b) (d:=d) (by omega) hb hs (by omega);rw [jV,jT,e1,jS];refine Sorts.after i1 ?_
     exact OO N _ _ false wp (by rw [i1.1];exact hb) (by omega) (by rw [i1.1];exact hs) (by rw [i1.1];exact hN) (hB.perm hb i1)
      (fun a' b' d' g1 g2 g3 g4=>hq _ a' b' d' g1 g2 g3 (g4.trans i1.1)) (fun a' b' wb wp d' g1 g2 g3 g4=>hk _ a' b' wb wp d' g1 g2 g3 (g4.trans i1.1))
theorem xKr{xs:List Org}(h2:2<=xs.length)(hs:xs.length<1152921504606846976)(lim:Int):
 KR (xs.length+11) 0 (xs.length:Int) lim xs=some (xs.mergeSort fun x y=> !olt y x):=by
 have h:=xKq (xs.length+11) xs.length 0 xs.length (xs.length+11) (xs.length+10) lim true true xs.toArray rfl (Z9 _) (by simp) (by simpa using h2) (by simpa using hs) (by omega) (by omega) (by simp) (.inl rfl);obtain⟨d',e,h1,h3⟩:=h;have hu:=sorted_unique_holds (lt:=olt) Bf KD xs.toArray d' (by simpa using h1) (by simpa using h3);rw [show KR (xs.length+11) 0 (xs.length:Int) lim xs=_ from e,hu]
end Go.Ab
end
section
namespace Go.Ab
open Go.Proofs Go.RowKit Go.Shelf
theorem Eo:OrgT Tryz.prog 112 3 118 4 75:=⟨Tryz.underlying112,by kernel_rfl,Tryz.underlying3,Tryz.underlying118,Tryz.zeroValue4,Tryz.underlying75⟩
theorem xIU:(Tryz.prog.info? 112).map (fun i=>(i.zero,i.size,i.bytes))=some (some (.agg #[.int .i64 0,.int .i64 0]),2,16):=by kernel_rfl
set_option maxRecDepth 100000 in
set_option maxHeartbeats 4000000 in
theorem xPl [Inhabited Lb](srt:List Org->List Org)(hsl:∀l,(srt l).length=l.length)(xs ys:List Org)(u v:Value)(w:World)(hu:RowIn w u xs)(hv:RowIn w v ys)(hlen:xs.length+ys.length<=1000000000000)
 (hsort:∀(W:World) (g cap:Nat) (zs:List Org),zs.length<=1000000000000->Below w.heap.size w W->w.heap.size<=g->w.heap.size+1+1≠g->W.heap[w.heap.size+1+1]? =some (.cells #[.slice (some ⟨g,0,none⟩) zs.length cap] 75 (0,0))->OrgRow W g cap zs->
   Calls Tryz.prog 143 #[.iface 75 (.slice (some ⟨g,0,none⟩) zs.length cap),.func (.func 144) #[] #[.pointer (some ⟨w.heap.size+1+1,0,none⟩)]] W fun en W' =>en= .returned (.tuple #[])/\Sorted W (w.heap.size+1+1) g cap zs (srt zs) W'):
 Calls Tryz.prog 99 #[u,v] w fun e w' =>∃br cap,e= .returned (.slice (some ⟨br,0,none⟩) (srt (ded (xs++ys))).length cap)/\Below w.heap.size w w' /\w.heap.size<=br/\OrgRow w' br cap (srt (ded (xs++ys))):=by
 obtain⟨i0,hi,hz0,hz1,hz2⟩:=info_parts xIU;have hmm:= @run_makeMap Tryz.prog
 go_enter Tryz.func99,Tryz.ntmps99
 go_wp2_with (first
  |(at_builtin;refine Kw _ Eo rfl _ _ rfl i0 hi hz0 hz1 hz2 rfl (w.heap.size+1+1+1) 0 [] rfl (xKY w _ _ _ 112) u rfl xs (hu.below (Iz w _ _ _ _)) (by simp;omega) ?_;intro g1 c1 w1 r1 gr1 e1)
  |(at_builtin;refine Kw _ Eo rfl _ _ rfl i0 hi hz0 hz1 hz2 rfl g1 c1 ([]++xs) rfl r1 v rfl ys (hv.below (Below.grown (Iz w _ _ _ _) gr1 (by simp;omega) (fun k hk=>by cases hk;omega))) (by simpa using hlen) ?_;intro g2 c2 w2 r2 gr2 e2))
 have hst:=URel.start r2 gr1 e1 gr2 e2;have hl2:(xs++ys).length=xs.length+ys.length:=List.length_append;clear r1 gr1 e1 r2 gr2 e2 hu hv
 go_loopw [17] (fun i wr=>∃k g cap:Nat,k<=xs.length+ys.length/\i= .int .i64 k/\URel w 112 75 w.heap.size w2.heap.size g2 c2 (xs++ys) k g cap wr) (fun i _=>xs.length+ys.length - (RowKit.intOf i).toNat)
 case atStart=>exact⟨0,_,_,Z9 _,rfl,hst⟩
 case round=>
  obtain⟨k,g,cap,hk,rfl,hr⟩:=hrel;clear hst;by_cases hlt:k<xs.length+ys.length
  ·obtain⟨c,hc⟩:∃c,(xs++ys)[k]'(by omega)=c:=⟨_,rfl⟩;have hc0:wr.cell? ⟨g2,k*2,none⟩=some (.int .i64 c.cell):=by
    have:=hr.all.cell (Da (xs++ys) k (by omega) 0 (by decide));rw [hc] at this;exact this
   have hc1:wr.cell? ⟨g2,k*2+1,none⟩=some (.int .i64 c.row):=by
    have:=hr.all.cell (Da (xs++ys) k (by omega) 1 (by decide));rw [hc] at this;exact this
   have hcb:=hr.cell;have hgl:=hr.row.lt;have hsz:=hr.size;have hga:=hr.hga;have hgg:=hr.hg;cases hct:(ded ((xs++ys).take k)).contains c with
   |true=>
    go_wp2_with (at_lookup;refine xBf _ Eo rfl _ _ rfl w.heap.size (ded ((xs++ys).take k)) rfl (hr.set.kept (AA (by omega))) c rfl true hct ?_)
    go_roundw
    case rel=>exact⟨k+1,g,cap,by omega,by go_num,hr.old (by omega) (by rw [hc];exact hct) _⟩
    case measure=>simp [RowKit.intOf];omega
   |false=>
    go_wp2_with (first
     |(at_lookup;refine xBf _ Eo rfl _ _ rfl w.heap.size (ded ((xs++ys).take k)) rfl (hr.set.kept (AA (by omega))) c rfl false hct ?_)
     |(at_mapUpdate;refine xPz _ Eo rfl _ _ _ rfl w.heap.size (ded ((xs++ys).take k)) rfl (hr.set.kept (AA (by omega))) c rfl rfl hct ?_;intro w3 hs3 hg3 hz3;obtain⟨m1,m2,m3,m4⟩:=hr.mid hg3 hz3)
     |(at_builtin;refine Kw _ Eo rfl _ _ rfl i0 hi hz0 hz1 hz2 rfl g cap (ded ((xs++ys).take k)) rfl (m4 _) (.slice (some ⟨wr.heap.size+1,0,none⟩) 1 1) rfl [c] (by have h:=xKH w3 112 c;rw [hz3,zD] at h;exact h) (by have:=JJ ((xs++ys).take k);simp at this ⊢;omega) ?_;intro g' cap' w4 r4 g4 e4;obtain⟨n1,n2⟩:=hr.mid4 hg3 hz3 g4))
    go_roundw
    case rel=>exact⟨k+1,g',cap',by omega,by go_num,by
     have:=hr.new (by omega) (by rw [hc];exact hct) (by rw [hc];exact hs3) hg3 hz3 (by rw [hc];exact r4) g4 e4;rw [hc] at this;simpa using this⟩
    case measure=>simp [RowKit.intOf];omega
  ·have hk2:k=(xs++ys).length:=by omega
   have ht:(xs++ys).take k=xs++ys:=by rw [hk2];exact ZK
   have hcb:=hr.cell;have hsz:=hr.size;have hga:=hr.hga;have hgg:=hr.hg;have hs:=hsort wr g cap (ded (xs++ys)) (by have:=JJ (xs++ys);omega) hr.below (by omega) (by omega) (by have:=hr.box;rw [ht] at this;exact this) (by have:=hr.row.org;rw [ht] at this;exact this);have hgr:=hr.below;rw [ht] at hcb;clear hr hsort
   go_wp2_with (go_at_call 143;refine hs.mono ?_;rintro e W' ⟨rfl,hS⟩;obtain⟨ty',hbx⟩:=hS.box;have hcb2:W'.cell? ⟨w.heap.size+1+1,0,none⟩=some (.slice (some ⟨g,0,none⟩) (ded (xs++ys)).length cap):=by(simp only [World.cell?,hbx];rfl))
   go_ret
   exact⟨g,cap,by rw [hsl];rfl,hgr.trans ⟨hS.os,hS.tape,hS.output,hS.size,fun k hk=>hS.old k (by have:=hgr.size;omega) (by omega) (by omega)⟩,by omega,hS.row⟩
theorem xJb:∀w,(Extern.Rtype.kind 112).run Tryz.prog w= .ok 25 w:=by intro w;kernel_rfl
theorem xEx:(Tryz.prog.info? 75).map (fun i=>i.desc)=some (.slice 112):=by kernel_rfl
theorem xKx:(Tryz.prog.info? 112).map (fun i=>(i.hasPointers,i.bytes))=some (false,16):=by kernel_rfl
theorem xKj:Tryz.prog.packed 75=false:=by kernel_rfl
theorem sw1:Tryz.prog.funcs.findIdx? (·.name== "internal/reflectlite" ++ ".Swapper$1")=some 181:=by kernel_rfl
theorem sw2:Tryz.prog.funcs.findIdx? (·.name== "internal/reflectlite" ++ ".Swapper$2")=some 182:=by kernel_rfl
theorem sw9:Tryz.prog.funcs.findIdx? (·.name== "internal/reflectlite" ++ ".Swapper$9")=some 189:=by kernel_rfl
theorem xGm:typeHandle Tryz.prog 112= .pointer (some ⟨3,112,none⟩):=by kernel_rfl
theorem xBb [Inhabited Lb](xs ys:List Org)(u v:Value)(w:World)(hu:RowIn w u xs)(hv:RowIn w v ys)(hlen:xs.length+ys.length<=1000000000000)(hb:∀x∈jW,x.1<w.heap.size/\w.heap[x.1]? =some x.2):
 Calls Tryz.prog 99 #[u,v] w fun e w' =>∃br cap,e= .returned (.slice (some ⟨br,0,none⟩) (qX xs ys).length cap)/\Below w.heap.size w w' /\w.heap.size<=br/\OrgRow w' br cap (qX xs ys):=by
 obtain⟨i,hi,hd⟩:=Z8.1 xEx;obtain⟨ie,hie,he⟩:=Z8.1 xKx;simp only [YT] at he;refine xPl (fun l=>l.mergeSort fun x y=> !olt y x) (fun l=>by simp) xs ys u v w hu hv hlen fun W g cap zs hz hB hg hne hbo hrow=> ?_;refine xK7 Tryz.laysGg6 75 112 i ie hi hd xKj hie 25 xJb he.1 he.2 181 182 189 144 sw1 sw2 sw9 (fun l h2 hl=> ?_) hz hbo hrow hne (fun x hx=> ?_)
 ·rw [xGm];exact T.sort_pdqsort_func_cUnionOrigins_1_ok (xKr h2 (by omega) (Lib.bitLen l.length))
 ·obtain⟨b1,b2⟩:=hb x hx;exact⟨ZC b1 hB.size,by omega,by omega,(hB.block _ b1).trans b2⟩
theorem xPk [Inhabited Lb]{a0 a1 r:List Org}(h:zAt a0 a1=some r):AbsCalls Tryz.prog 99 (NK a0 a1) (NL r):=
 xJY (enters_of Tryz.func99 (by kernel_rfl) rfl) xBb h
end Go.Ab
end
section
namespace Go.Ab
open Go.Proofs Go.RowKit Go.Shelf
structure GrpT (P:Program) (ti tm tp:TypeId):Prop where
 int:P.underlying ti=some (.int .i64)
 map:P.underlying tm=some (.map ti tp)
 zero:∀w,(zeroValue tp).run P w= .ok (.pointer none) w
def pbx(b:Nat):Value:= .pointer (some ⟨b,0,none⟩)
def PMap(w:World)(b:Nat)(bx:Int->Nat)(ks:List Int):Prop:=
 ∃es clock,w.heap[b]? =some (.map es clock)/\es.toList.map (fun e=>(e.key,e.val))=ks.map fun x=>(Value.int .i64 x,pbx (bx x))
theorem PMap.kept{w w' :World}{b:Nat}{bx bx' :Int->Nat}{ks:List Int}(h:PMap w b bx ks)(e:w'.heap[b]? =w.heap[b]?)(hb:∀x∈ks,bx' x=bx x):PMap w' b bx' ks:=by
 obtain⟨es,c,h1,h2⟩:=h;refine⟨es,c,e.trans h1,h2.trans (ZO fun x hx=>by rw [hb x hx])⟩
theorem PMap.lt{w:World}{b:Nat}{bx:Int->Nat}{ks:List Int}(h:PMap w b bx ks):b<w.heap.size:=by
 obtain⟨es,c,h1,h2⟩:=h;exact(Zg.1 h1).1
theorem Lo{bx:Int->Nat}{x:Int}:∀ {es:List MapEntry} {ks:List Int} {i:Nat},es.map (fun e=>(e.key,e.val))=ks.map (fun y=>(Value.int .i64 y,pbx (bx y)))->
 ∃r,Instr.findNow (.int .i64) (.int .i64 x) es i=some r/\(x∈ks->∃j,r=some (j,pbx (bx x)))/\(x ∉ ks->r=none)
 | [],[],i,_=>⟨none,rfl,by simp,fun _=>rfl⟩
 | [],_::_,i,h=>by cases h
 |_::_,[],i,h=>by cases h
 |e::es,k::ks,i,h=>by
  simp only [ZX,Y6,YT] at h;obtain⟨⟨h1,h2⟩,h3⟩:=h;by_cases hk:x=k
  ·subst hk;exact⟨some (i,pbx (bx x)),by simp [Instr.findNow,Instr.sameNow,h1,h2],fun _=>⟨i,rfl⟩,by simp⟩
  ·obtain⟨r,r1,r2,r3⟩:=Lo (x:=x) (i:=i+1) h3;have hb:(x==k)=false:=by simpa using hk
   refine⟨r,by simp [Instr.findNow,Instr.sameNow,h1,hb,r1],fun hx=>r2 ?_,fun hx=>r3 ?_⟩
   ·rcases Zo.1 hx with e|hx
    ·exact absurd e hk
    ·exact hx
   ·exact fun h=>hx (Zq _ h)
section
variable {P:Program} {ti tm tp:TypeId} (T:GrpT P ti tm tp) {w:World}
include T
theorem O2(em:Bool)(n:Nat)(k:IntKind)(x:Int):(Instr.checkKey em (n+1) ti (.int k x)).run P w= .ok () w:=by
 unfold Instr.checkKey;simp [run_underlying T.int]
theorem Ll{bx:Int->Nat}(x:Int)(es:List MapEntry)(ks:List Int)(h:es.map (fun e=>(e.key,e.val))=ks.map fun y=>(Value.int .i64 y,pbx (bx y))):
 ∃r,(Instr.findKey ti (.int .i64 x) es).run P w= .ok r w/\(x∈ks->∃j,r=some (j,pbx (bx x)))/\(x ∉ ks->r=none):=by
 obtain⟨r,h1,h2⟩:=Lo (x:=x) (i:=0) h;exact⟨r,by simp [Instr.findKey,run_underlying T.int,h1,Result.andThen],h2⟩
theorem AM{b:Nat}{bx:Int->Nat}{ks:List Int}(h:PMap w b bx ks)(x:Int):(Instr.lookup tm (.map (some b)) (.int .i64 x) false).run P w= .ok (if x∈ks then pbx (bx x) else .pointer none) w:=by
 obtain⟨es,c,h1,h2⟩:=h;obtain⟨r,hr,p1,p2⟩:=Ll T (w:=w) x es.toList ks h2;unfold Instr.lookup;have hg:(getObj b).run P w= .ok (.map es c) w:=by simp [getObj,Sem.run,h1]
 have hck:(Instr.checkKey es.isEmpty 10000 ti (.int .i64 x)).run P w= .ok () w:=O2 T es.isEmpty 9999 .i64 x;by_cases hc:x∈ks
 ·obtain⟨j,rfl⟩:=p1 hc;rw [Zw hc];simp [run_underlying T.map,hg,hck,hr,Result.andThen]
 ·obtain rfl:=p2 hc;rw [Zf hc];simp [run_underlying T.map,hg,hck,hr,T.zero,Result.andThen]
theorem xKR{b:Nat}{bx:Int->Nat}{ks:List Int}(h:PMap w b bx ks)(x:Int)(hc:x ∉ ks)(n:Nat):
 ∃w',(Instr.mapUpdate tm (.map (some b)) (.int .i64 x) (pbx n)).run P w= .ok () w' /\PMap w' b (fun y=>if y=x then n else bx y) (ks++ [x])/\w.grownBy w' (some b)/\w'.heap.size=w.heap.size:=by
 obtain⟨es,c,h1,h2⟩:=h;obtain⟨r,hr,p1,p2⟩:=Ll T (w:=w) x es.toList ks h2;obtain rfl:=p2 hc;have hb:b<w.heap.size:=(Zg.1 h1).1;have hg:(getObj b).run P w= .ok (.map es c) w:=by simp [getObj,Sem.run,h1]
 have hck:(Instr.checkKey false 10000 ti (.int .i64 x)).run P w= .ok () w:=O2 T false 9999 .i64 x;have hs:∀ob,(setObj b ob).run P w= .ok () { w with heap:=w.heap.setIfInBounds b ob }:=by
  intro ob;simp [setObj,Sem.run,h1]
 refine⟨{ w with heap:=w.heap.setIfInBounds b (.map (es.push { key:= .int .i64 x,val:=pbx n,born:=c }) (c+1)) },?_,?_,⟨rfl,rfl,rfl,by simp,fun k hk hne=> ?_⟩,by simp⟩
 ·unfold Instr.mapUpdate;simp [run_underlying T.map,hg,hck,hr,hs,Result.andThen]
 ·refine⟨_,_,by simp [hb];exact⟨rfl,rfl⟩,?_⟩;rw [Array.toList_push,YD,h2,YD];simp only [ZX,Ys,ZB]
  congr 1
  refine ZO fun y hy=> ?_;have:y≠x:=fun e=>hc (e ▸ hy);rw [Zf this]
 ·have:b≠k:=fun e=>hne (by rw [e]);simp [YU,this]
end
end Go.Ab
end
section
namespace Go.Ab
section
variable {P:Program} {ops:Array Oper} {Q:Exit->Act->World->Prop} {md:Region.Mode} {T:World->Prop} {n:Nat}
def BH(P:Program)(md:Region.Mode)(ops:Array Oper)(Q:Exit->Act->World->Prop)(T:World->Prop)(n:Nat):Nat->Array Bool->Act->World->Prop
 |0,listed,a,w=>Region.ready md ops listed=[]/\Q .normal a w
 |fuel+1,listed,a,w=>
  (Region.ready md ops listed=[]->Q .normal a w)/\
  ∀i∈Region.ready md ops listed,wpOp P ops Q i (fun a' w' =>((listed.setIfInBounds i true).getD n false=true\/T w')/\BH P md ops Q T n fuel (listed.setIfInBounds i true) a' w') a w
theorem xBe:∀(fuel:Nat) (listed:Array Bool) (a:Act) (w:World),BH P md ops Q T n fuel listed a w->wpAny P md ops Q fuel listed a w
 |0,_,_,_,h=>h
 |fuel+1,_,_,_,h=>⟨h.1,fun i hi=>wpOp_mono (fun a' w' h' =>xBe fuel _ a' w' h'.2) (h.2 i hi)⟩
theorem xPx{i:Nat}{oi:Oper}{v:Value}(hi:ops[i]? =some oi)(hsel:∀(j:Nat) (o:Oper) cs b,ops[j]? =some o->o.op≠ .select cs b)
 (hQ:∀c a w,Q (.panic c) (a.put oi.dst v) w->Q (.panic c) a w) (hni:i≠n) (hwait:∃on e,ops[n]? =some on/\e∈on.after/\Region.binds md e=true/\e.on=i):
 ∀(fuel:Nat) (listed:Array Bool) (a:Act) (w:World),listed.getD n false=false->
  (∀j oj,ops[j]? =some oj->j≠i->listed.getD j true=false->(∀e∈oj.after,Region.binds md e=true->e.on≠i)->oi.apart ops oj=true)->
  i∈Region.ready md ops listed->YieldsIf P ops T oi v a->T w->
  BH P md ops Q T n fuel (listed.setIfInBounds i true) (a.put oi.dst v) w->BH P md ops Q T n (fuel+1) listed a w:=by
 obtain⟨on,e0,hn1,hn2,hn3,hn4⟩:=hwait;intro fuel
 induction fuel with
 |zero=>
  intro listed a w _ _ hr hy hS H;refine⟨fun h=>(by rw [h] at hr;cases hr),fun j hj=> ?_⟩;by_cases hji:j=i
  ·subst hji;exact hy.wpOp hi hS ⟨.inr hS,H⟩
  ·have:=ready_mono hj hji;rw [H.1] at this;cases this
 |succ fuel ih=>
  intro listed a w hln hfree hr hy hS H;refine⟨fun h=>(by rw [h] at hr;cases hr),fun j hj=> ?_⟩;by_cases hji:j=i
  ·subst hji;exact hy.wpOp hi hS ⟨.inr hS,H⟩
  ·have h1:=H.2 j (ready_mono hj hji);obtain⟨hjun,oj,hoj,hall⟩:=mem_ready.1 hj;have hnot:∀e∈oj.after,Region.binds md e=true->e.on≠i:=fun e he hb heq=>by
    have h1:=hall e he hb;have h0:=(mem_ready.1 hr).1;rw [heq] at h1;rcases ZG i listed.size with h' |h'
    ·simp [h'] at h0 h1;rw [h0] at h1;cases h1
    ·simp [Yr h'] at h1
   have hjn:j≠n:=fun e=>by
    subst e;rw [hoj] at hn1;cases hn1;exact hnot e0 hn2 hn3 hn4
   have h2:=wpOp_putIf hoj (hfree j oj hoj hji hjun hnot) (fun cs b=>hsel i oi cs b hi) (fun cs b=>hsel j oj cs b hoj) hQ hy h1
   have hfree' :∀k ok,ops[k]? =some ok->k≠i->(listed.setIfInBounds j true).getD k true=false->
    (∀e∈ok.after,Region.binds md e=true->e.on≠i)->oi.apart ops ok=true:=fun k ok hk hki hun hno=>by
    refine hfree k ok hk hki ?_ hno;by_cases hjk:j=k
    ·subst hjk;exact hjun
    ·rw [getD_set_ne true hjk] at hun;exact hun
   refine wpOp_mono (fun a' w' h3=> ?_) h2;have hT:T w' :=by
    refine h3.2.1.resolve_left ?_;rw [getD_set_ne false hjn,getD_set_ne false hni,hln];simp
   refine⟨.inr hT,ih (listed.setIfInBounds j true) a' w' (by rw [getD_set_ne false hjn];exact hln) hfree' (ready_mono hr (Ne.symm hji)) h3.1 hT ?_⟩;rw [Array.setIfInBounds_comm _ _ hji];exact h3.2.2
def Ku(md:Region.Mode)(ops:Array Oper)(n i:Nat):Bool:=
 match ops[n]? with
 |some on=>on.after.any fun e=>Region.binds md e&&e.on.beq i
 |none=>false
theorem xPp{md:Region.Mode}{ops:Array Oper}{n i:Nat}(h:Ku md ops n i=true):∃on e,ops[n]? =some on/\e∈on.after/\Region.binds md e=true/\e.on=i:=by
 unfold Ku at h;split at h
 ·rename_i on hon;rw [Array.any_eq_true'] at h;obtain⟨e,he,h2⟩:=h;rw [Zv] at h2;exact⟨on,e,hon,he,h2.1,Zl h2.2⟩
 ·cases h
theorem zI(i:Nat){oi:Oper}{v:Value}{fuel:Nat}{listed:Array Bool}{a:Act}{w:World}(hi:ops[i]? =some oi)
 (hs:(Region.noSelect ops&&Region.free md ops listed i&&(Region.ready md ops listed).contains i&&Ku md ops n i&& !(listed.getD n false)&& !(i.beq n))=true)
 (hQ:∀c a w,Q (.panic c) (a.put oi.dst v) w->Q (.panic c) a w) (hg:oi.guard=none) (hT:T w) (hy:∀w,T w->(execOp a.eval oi).run P w= .ok (.value v) w)
 (h:BH P md ops Q T n fuel (listed.setIfInBounds i true) (a.put oi.dst v) w):BH P md ops Q T n (fuel+1) listed a w:=by
 simp only [Zv,ZD] at hs;obtain⟨⟨⟨⟨⟨h1,h2⟩,h3⟩,h4⟩,h5⟩,h6⟩:=hs;exact xPx hi (Region.noSelect_spec h1) hQ (fun e=>by subst e;rw [X5] at h6;cases h6) (xPp h4) fuel listed a w h5 (Region.free_spec hi h2) (by simpa using h3) (.inl ⟨by simp [Region.wanted,hg],hy⟩) hT h
theorem C5(i:Nat){oi:Oper}{fuel:Nat}{listed:Array Bool}{a:Act}{w:World}(hi:ops[i]? =some oi)(hr:Region.ready md ops listed=[i])(hg:oi.guard=none)
 (h:∀K:Act->World->Prop,(∀a' w',((listed.setIfInBounds i true).getD n false=true\/T w')/\BH P md ops Q T n fuel (listed.setIfInBounds i true) a' w' ->K a' w')->oi.wp P a w K Q):
 BH P md ops Q T n (fuel+1) listed a w:=by
 refine⟨fun h0=>(by rw [hr] at h0;cases h0),fun j hj=> ?_⟩;rw [hr] at hj;obtain rfl:j=i:=by simpa using hj
 unfold wpOp;simp only [hi,Region.wanted,hg,ZB];exact .inl (h _ fun a' w' h' =>h')
theorem Kv{listed:Array Bool}{a:Act}{w:World}(hr:Region.ready md ops listed=[])(h:Q .normal a w):
 ∀fuel,BH P md ops Q T n fuel listed a w
 |0=>⟨hr,h⟩
 |_+1=>⟨fun _=>h,by rw [hr];simp⟩
theorem Kx(T:World->Prop)(n:Nat){id:Nat}{a:Act}{w:World}(hm:P.follows .mixedOrders=true)
 (h:BH P .any ops Q T n ops.size (Array.replicate ops.size false) a { w with drawn:=w.drawn+1 }):(Code.region id ops true).wp P Q a w:=
 wp_region_any hm (xBe _ _ _ _ h)
end
end Go.Ab
end
section
namespace Go.Ab
open Go.Proofs Go.RowKit Go.Shelf
inductive Tg where
 |map|keys
 |box (x:Int) |cel (x:Int) |frm (x:Int)
 deriving DecidableEq
def AE(ks:List Int)(nx:Option Int):Tg->Prop
 | .map=>True
 | .keys=>True
 | .box x=>x∈ks
 | .cel x=>x∈ks
 | .frm x=>x∈ks/\nx≠some x
def zM(blk:Tg->Nat)(t:Tg)(b:Nat):Tg->Nat:=fun t' =>if t' =t then b else blk t'
def A6{α:Type}(f:Int->α)(x:Int)(v:α):Int->α:=fun y=>if y=x then v else f y
def ORow(w:World)(te g cap sz n:Nat)(xs:List Value):Prop:=
 xs.length=n*sz/\∃cur,w.heap[g]? =some (.cells cur te (0,0))/\n<=cap/\cap<=maxLen/\cur.size=cap*sz/\cur.toList.take (n*sz)=xs
theorem ORow.kept{w w' :World}{te g cap sz n:Nat}{xs:List Value}(h:ORow w te g cap sz n xs)(e:w'.heap[g]? =w.heap[g]?):ORow w' te g cap sz n xs:=by
 obtain⟨h0,cur,h1,h2⟩:=h;exact⟨h0,cur,e.trans h1,h2⟩
theorem OrgRow.kept{w w' :World}{g cap:Nat}{xs:List Org}(h:OrgRow w g cap xs)(e:w'.heap[g]? =w.heap[g]?):OrgRow w' g cap xs:=by
 obtain⟨h0,cs,ty,lo,hi,h1,h2⟩:=h;exact⟨h0,cs,ty,lo,hi,e.trans h1,h2⟩
theorem OrgRow.lt{w:World}{g cap:Nat}{xs:List Org}(h:OrgRow w g cap xs):g<w.heap.size:=by
 obtain⟨h0,cs,ty,lo,hi,h1,h2⟩:=h;exact(Zg.1 h1).1
def frV(blk:Tg->Nat)(fc:Int->Nat)(fr:Int->List Org)(nx:Option Int)(x:Int):Value:=
 if nx=some x then .slice none 0 0 else .slice (some ⟨blk (.frm x),0,none⟩) (fr x).length (fc x)
structure GRel (w0 wr:World) (B tR tI:Nat) (blk:Tg->Nat) (ks kl:List Int) (sm:Int->Int) (fr:Int->List Org) (fc:Int->Nat) (nx:Option Int) (kc:Nat):Prop where
 map:PMap wr (blk .map) (fun x=>blk (.box x)) ks
 box:∀x∈ks,wr.heap[blk (.box x)]? =some (.cells #[.slice (some ⟨blk (.cel x),0,none⟩) 2 2,frV blk fc fr nx x] tR (0,0))
 cel:∀x∈ks,wr.heap[blk (.cel x)]? =some (.cells #[.int .i64 x,.int .i64 (sm x)] tI (0,0))
 frm:∀x∈ks,nx≠some x->OrgRow wr (blk (.frm x)) (fc x) (fr x)
 nil:∀x,nx=some x->fr x=[]
 keys:ORow wr tI (blk .keys) kc 1 kl.length (kl.map (Value.int .i64))
 nodup:ks.Nodup
 inj:∀t t',AE ks nx t->AE ks nx t' ->blk t=blk t' ->t=t'
 rng:∀t,AE ks nx t->B<=blk t/\blk t<wr.heap.size
 below:Below B w0 wr
structure Chg (w w' :World) (b:Nat) (o:Obj):Prop where
 os:w'.os=w.os
 tape:w'.tape=w.tape
 output:w'.output=w.output
 size:w'.heap.size=w.heap.size
 at' :w'.heap[b]? =some o
 other:∀k,k≠b->w'.heap[k]? =w.heap[k]?
theorem Chg.below{w w' :World}{b B:Nat}{o:Obj}(h:Chg w w' b o)(hb:B<=b):Below B w w' :=⟨h.os,h.tape,h.output,by rw [h.size];exact Zi _,fun k hk=>h.other k (by omega)⟩
section
variable {w0 wr:World} {B tR tI:Nat} {blk:Tg->Nat} {ks kl:List Int} {sm:Int->Int} {fr:Int->List Org} {fc:Int->Nat} {nx:Option Int} {kc:Nat}
theorem GRel.grow(h:GRel w0 wr B tR tI blk ks kl sm fr fc nx kc){wr' :World}(hb:Below wr.heap.size wr wr'):GRel w0 wr' B tR tI blk ks kl sm fr fc nx kc:=by
 have k:∀t,AE ks nx t->wr'.heap[blk t]? =wr.heap[blk t]? :=fun t ht=>hb.block _ (h.rng t ht).2;refine⟨h.map.kept (k .map trivial) (fun _ _=>rfl),fun x hx=>(k (.box x) hx).trans (h.box x hx),fun x hx=>(k (.cel x) hx).trans (h.cel x hx),fun x hx hn=>(h.frm x hx hn).kept (k (.frm x) ⟨hx,hn⟩),h.nil,h.keys.kept (k .keys trivial),h.nodup,h.inj,fun t ht=>⟨(h.rng t ht).1,ZC (h.rng t ht).2 hb.size⟩,?_⟩;refine h.below.trans ⟨hb.os,hb.tape,hb.output,hb.size,fun b hlt=>hb.block b ?_⟩;have:=(h.rng .map trivial);omega
theorem GRel.turn(h:GRel w0 wr B tR tI blk ks kl sm fr fc nx kc){x:Int}(hx:x∈ks)(hnx:nx=none\/nx=some x){s:Int}{os:List Org}{br cap:Nat}{w2 w3 w4:World}
 (h2:Chg wr w2 (blk (.cel x)) (.cells #[.int .i64 x,.int .i64 s] tI (0,0))) (h3:Below w2.heap.size w2 w3) (hbr:w2.heap.size<=br) (hrow:OrgRow w3 br cap os)
 (h4:Chg w3 w4 (blk (.box x)) (.cells #[.slice (some ⟨blk (.cel x),0,none⟩) 2 2,.slice (some ⟨br,0,none⟩) os.length cap] tR (0,0))):
 GRel w0 w4 B tR tI (zM blk (.frm x) br) ks kl (A6 sm x s) (A6 fr x os) (A6 fc x cap) none kc:=by
 have hcx:=h.rng (.cel x) hx;have hbx:=h.rng (.box x) hx;have z2:=h2.size;have z3:=h3.size;have z4:=h4.size;have hbl:=hrow.lt;have keep:∀b,b<wr.heap.size->b≠blk (.cel x)->b≠blk (.box x)->w4.heap[b]? =wr.heap[b]? :=fun b hb n1 n2=>(h4.other b n2).trans ((h3.block b (by omega)).trans (h2.other b n1));have ub:∀t,t≠ .frm x->zM blk (.frm x) br t=blk t:=fun t ht=>Zf ht;have ux:zM blk (.frm x) br (.frm x)=br:=Zw rfl;have live:∀t,AE ks none t->t≠ .frm x->AE ks nx t:=by
  intro t ht hne;cases t with
  |frm y=>
   refine⟨ht.1,fun e=> ?_⟩;rcases hnx with e2|e2
   ·rw [e2] at e;cases e
   ·rw [e2] at e;cases e;exact hne rfl
  |map=>trivial
  |keys=>trivial
  |box y=>exact ht
  |cel y=>exact ht
 have ne:∀t t',AE ks nx t->AE ks nx t' ->t≠t' ->blk t≠blk t' :=fun t t' a b n e=>n (h.inj t t' a b e);refine⟨?_,fun y hy=> ?_,fun y hy=> ?_,fun y hy _=> ?_,fun y e=>by(cases e),?_,h.nodup,fun t t' a b e=> ?_,fun t ht=> ?_,?_⟩
 ·rw [ub .map (by simp)];refine h.map.kept (keep _ (h.rng .map trivial).2 (ne .map (.cel x) trivial hx (by simp)) (ne .map (.box x) trivial hx (by simp))) fun y hy=>ub _ (by simp)
 ·rw [ub (.box y) (by simp),ub (.cel y) (by simp)];by_cases e:y=x
  ·subst e;rw [h4.at'];simp [frV,ux,A6]
  ·have:=h.box y hy;rw [keep _ (h.rng (.box y) hy).2 (ne (.box y) (.cel x) hy hx (by simp)) (ne (.box y) (.box x) hy hx (by simpa using e)),this];have hn:nx≠some y:=by
    rcases hnx with e2|e2
    ·rw [e2];simp
    ·rw [e2];simpa using Ne.symm e
   simp [frV,hn,A6,e,ub (.frm y) (by simpa using e)]
 ·rw [ub (.cel y) (by simp)];by_cases e:y=x
  ·subst e;rw [h4.other _ (ne (.cel y) (.box y) hy hy (by simp)),h3.block _ (by omega),h2.at'];simp [A6]
  ·rw [keep _ (h.rng (.cel y) hy).2 (ne (.cel y) (.cel x) hy hx (by simpa using e)) (ne (.cel y) (.box x) hy hx (by simp)),h.cel y hy];simp [A6,e]
 ·by_cases e:y=x
  ·subst e;rw [ux];simp only [A6,ZB];exact hrow.kept (h4.other _ (by omega))
  ·have hn:nx≠some y:=by
    rcases hnx with e2|e2
    ·rw [e2];simp
    ·rw [e2];simpa using Ne.symm e
   rw [ub (.frm y) (by simpa using e)];simp only [A6,Zf e];exact(h.frm y hy hn).kept (keep _ (h.rng (.frm y) ⟨hy,hn⟩).2 (ne (.frm y) (.cel x) ⟨hy,hn⟩ hx (by simp)) (ne (.frm y) (.box x) ⟨hy,hn⟩ hx (by simp)))
 ·rw [ub .keys (by simp)];exact h.keys.kept (keep _ (h.rng .keys trivial).2 (ne .keys (.cel x) trivial hx (by simp)) (ne .keys (.box x) trivial hx (by simp)))
 ·by_cases e1:t= .frm x
  ·by_cases e2:t' = .frm x
   ·rw [e1,e2]
   ·rw [e1,ux,ub t' e2] at e;have:=(h.rng t' (live t' b e2)).2;omega
  ·by_cases e2:t' = .frm x
   ·rw [e2,ux,ub t e1] at e;have:=(h.rng t (live t a e1)).2;omega
   ·rw [ub t e1,ub t' e2] at e;exact h.inj t t' (live t a e1) (live t' b e2) e
 ·by_cases e1:t= .frm x
  ·rw [e1,ux];omega
  ·rw [ub t e1];have:=h.rng t (live t ht e1);omega
 ·refine h.below.trans ((h2.below hcx.1).trans (Below.trans ⟨h3.os,h3.tape,h3.output,h3.size,fun b hb=>h3.block b (by omega)⟩ (h4.below hbx.1)))
theorem GRel.add(h:GRel w0 wr B tR tI blk ks ks sm fr fc none kc){x:Int}(hx:x ∉ ks)(hs:sm x=0)(hf:fr x=[]){w1 w2 w3 w4:World}{cb bb kb' kc' :Nat}
 (h1:Below wr.heap.size wr w1) (hc1:wr.heap.size<=cb) (hb1:wr.heap.size<=bb) (hne:cb≠bb) (hcl:cb<w1.heap.size) (hbl:bb<w1.heap.size)
 (hc:w1.heap[cb]? =some (.cells #[.int .i64 x,.int .i64 0] tI (0,0))) (hb:w1.heap[bb]? =some (.cells #[.slice (some ⟨cb,0,none⟩) 2 2,.slice none 0 0] tR (0,0)))
 (hm:PMap w2 (blk .map) (fun y=>if y=x then bb else blk (.box y)) (ks++ [x])) (h2:w1.grownBy w2 (some (blk .map))) (z2:w2.heap.size=w1.heap.size)
 (h3:Below w2.heap.size w2 w3) (hk:ORow w4 tI kb' kc' 1 (ks++ [x]).length ((ks++ [x]).map (Value.int .i64))) (h4:w3.grownBy w4 (some (blk .keys))) (hkb:kb' =blk .keys\/kb' =w3.heap.size):
 GRel w0 w4 B tR tI (zM (zM (zM blk (.box x) bb) (.cel x) cb) .keys kb') (ks++ [x]) (ks++ [x]) sm fr fc (some x) kc' :=by
 have hM:=h.rng .map trivial;have hK:=h.rng .keys trivial;have z1:=h1.size;have z3:=h3.size;have z4:=h4.size;have hkl:kb' <w4.heap.size:=by
  obtain⟨_,cur,h,_⟩:=hk;exact(Zg.1 h).1
 have ne:∀t t',AE ks none t->AE ks none t' ->t≠t' ->blk t≠blk t' :=fun t t' a b n e=>n (h.inj t t' a b e);have hMK:=ne .map .keys trivial trivial (by simp);generalize hB:zM (zM (zM blk (.box x) bb) (.cel x) cb) .keys kb' =blk';have b1:blk' (.box x)=bb:=by rw [<-hB];simp [zM]
 have b2:blk' (.cel x)=cb:=by rw [<-hB];simp [zM]
 have b3:blk' .keys=kb' :=by rw [<-hB];simp [zM]
 have b4:∀t,t≠ .box x->t≠ .cel x->t≠ .keys->blk' t=blk t:=fun t n1 n2 n3=>by rw [<-hB];simp [zM,n1,n2,n3]
 have old:∀b,b<wr.heap.size->b≠blk .map->b≠blk .keys->w4.heap[b]? =wr.heap[b]? :=fun b hb n1 n2=>
  (h4.block b (by omega) (by simpa using n2)).trans ((h3.block b (by omega)).trans ((h2.block b (by omega) (by simpa using n1)).trans (h1.block b hb)))
 have mid:∀b,wr.heap.size<=b->b<w1.heap.size->w4.heap[b]? =w1.heap[b]? :=fun b hb hb2=>
  (h4.block b (by omega) (by simp;omega)).trans ((h3.block b (by omega)).trans (h2.block b hb2 (by simp;omega)))
 have hyx:∀y∈ks,y≠x:=fun y hy e=>hx (e ▸ hy);have live:∀t,AE (ks++ [x]) (some x) t->t≠ .box x->t≠ .cel x->AE ks none t:=by
  intro t ht n1 n2;cases t with
  |map=>trivial
  |keys=>trivial
  |box y=>
   rcases Za.1 (show y∈ks++ [x] from ht) with e|e
   ·exact e
   ·simp at e;subst e;exact absurd rfl n1
  |cel y=>
   rcases Za.1 (show y∈ks++ [x] from ht) with e|e
   ·exact e
   ·simp at e;subst e;exact absurd rfl n2
  |frm y=>
   obtain⟨e,e2⟩:=ht;rcases Za.1 e with e|e
   ·exact⟨e,by simp⟩
   ·simp at e;subst e;exact absurd rfl e2
 refine⟨?_,fun y hy=> ?_,fun y hy=> ?_,fun y hy hn=> ?_,fun y e=>by cases e;exact hf,?_,?_,fun t t' a b e=> ?_,fun t ht=> ?_,?_⟩
 ·rw [b4 .map (by simp) (by simp) (by simp)];refine hm.kept ((h4.block _ (by omega) (by simpa using hMK)).trans (h3.block _ (by omega))) fun y hy=> ?_;by_cases e:y=x
  ·subst e;simp [b1]
  ·rw [b4 (.box y) (by simpa using e) (by simp) (by simp),Zf e]
 ·by_cases e:y=x
  ·subst e;rw [b1,b2,mid bb hb1 hbl,hb];simp [frV]
  ·have hy:y∈ks:=by
    rcases Za.1 hy with e2|e2
    ·exact e2
    ·simp at e2;exact absurd e2 e
   rw [b4 (.box y) (by simpa using e) (by simp) (by simp),b4 (.cel y) (by simp) (by simpa using e) (by simp),old _ (h.rng (.box y) hy).2 (ne _ _ hy trivial (by simp)) (ne _ _ hy trivial (by simp)),h.box y hy];have:some x≠some y:=by simpa using Ne.symm e
   simp [frV,this,b4 (.frm y) (by simp) (by simp) (by simp)]
 ·by_cases e:y=x
  ·subst e;rw [b2,mid cb hc1 hcl,hc,hs]
  ·have hy:y∈ks:=by
    rcases Za.1 hy with e2|e2
    ·exact e2
    ·simp at e2;exact absurd e2 e
   rw [b4 (.cel y) (by simp) (by simpa using e) (by simp),old _ (h.rng (.cel y) hy).2 (ne _ _ hy trivial (by simp)) (ne _ _ hy trivial (by simp)),h.cel y hy]
 ·have e:y≠x:=fun e=>hn (by rw [e]);have hy:y∈ks:=by
   rcases Za.1 hy with e2|e2
   ·exact e2
   ·simp at e2;exact absurd e2 e
  rw [b4 (.frm y) (by simp) (by simp) (by simp)];exact(h.frm y hy (by simp)).kept (old _ (h.rng (.frm y) ⟨hy,by simp⟩).2 (ne (.frm y) _ ⟨hy,by simp⟩ trivial (by simp)) (ne (.frm y) _ ⟨hy,by simp⟩ trivial (by simp)))
 ·rw [b3];exact hk
 ·rw [Yq];exact⟨h.nodup,by simp,fun a ha b hb=>by simp at hb;subst hb;exact hyx a ha⟩
 ·have cls:∀t,AE (ks++ [x]) (some x) t->t= .box x\/t= .cel x\/t= .keys\/(blk' t=blk t/\AE ks none t/\t≠ .keys):=by
   intro t ht;by_cases n1:t= .box x
   ·exact .inl n1
   ·by_cases n2:t= .cel x
    ·exact .inr (.inl n2)
    ·by_cases n3:t= .keys
     ·exact .inr (.inr (.inl n3))
     ·exact .inr (.inr (.inr ⟨b4 t n1 n2 n3,live t ht n1 n2,n3⟩))
  have kr:kb' =blk .keys\/w1.heap.size<=kb' :=hkb.imp id (by omega)
  rcases cls t a with rfl|rfl|rfl|⟨e1,l1,m1⟩ <;>rcases cls t' b with rfl|rfl|rfl|⟨e2,l2,m2⟩ <;>first
   |rfl
   |(rw [e1,e2] at e;exact h.inj _ _ l1 l2 e)
   |(have r2:=(h.rng _ l2).2;have r3:=ne _ _ l2 (show AE ks none .keys from trivial) m2;simp only [b1,b2,b3,e2] at e;omega)
   |(have r1:=(h.rng _ l1).2;have r3:=ne _ _ l1 (show AE ks none .keys from trivial) m1;simp only [b1,b2,b3,e1] at e;omega)
   |(simp only [b1,b2,b3] at e;omega)
 ·by_cases n1:t= .box x
  ·subst n1;rw [b1];omega
  ·by_cases n2:t= .cel x
   ·subst n2;rw [b2];omega
   ·by_cases n3:t= .keys
    ·subst n3;rw [b3];omega
    ·rw [b4 t n1 n2 n3];have:=h.rng t (live t ht n1 n2);omega
 ·refine h.below.trans (Below.trans ⟨h1.os,h1.tape,h1.output,h1.size,fun b hb=>h1.block b (by omega)⟩ ?_);refine Below.trans (Below.grown (Below.refl _ _) h2 (by omega) (fun k hk=>by cases hk;omega)) ?_;refine Below.trans ⟨h3.os,h3.tape,h3.output,h3.size,fun b hb=>h3.block b (by omega)⟩ ?_;exact Below.grown (Below.refl _ _) h4 (by omega) (fun k hk=>by cases hk;omega)
end
end Go.Ab
end
section
namespace Go.Ab
open Go.Proofs Go.RowKit Go.Shelf
theorem xBg{P:Program}{te ts:TypeId}(w:World){o:Oper}{a:Act}{K:Act->World->Prop}{Q:Exit->Act->World->Prop}(ht:P.underlying ts=some (.slice te))(s x:Operand)
 (hop:o.op= .call { callee:= .builtin .append,args:= #[s,x],argTypes:= #[ts,ts] }) (i:TypeInfo) (hi:P.info? te=some i) {z:Value} (hz:i.zero=some z) {sz bytes:Nat} (hsize:i.size=sz) (hby:i.bytes=bytes) (hzs:z.cells.size=sz) (hsz:0<sz) (hb:bytes<=64)
 (base:Nat) (v:Value) (n:Nat) (xs:List Value) (hs:a.eval s=v) (hown:w.ownsRow base te sz v n xs) (ad:Addr) (m c:Nat) (news:List Value) (hx:a.eval x= .slice (some ad) m c) (hl:news.length=m*sz)
 (hnews:∀j u,news[j]? =some u->w.cell? (ad.add j)=some u) (h1:∀u∈news,u.oneCell' =true) (hlen:n+m<=1000000000000) (hbase:base<=w.heap.size)
 (hK:∀v' w',w'.ownsRow base te sz v' (n+m) (xs++news)->w.grownBy w' v.ownBlock->(v' = .slice none 0 0↔v= .slice none 0 0/\m=0)->(v'.ownBlock=v.ownBlock\/v'.ownBlock=some w.heap.size)->K (a.put o.dst v') w'):
 o.wp P a w K Q:=by
 have h2:(n+m)*bytes<=1000000000000*64:=YH hlen hb;obtain⟨v',w',hr,h2,h3,h4,h5⟩:=run_append_own_at (P:=P) w base ts o.type te i z sz bytes ht hi hz hsize hby hzs hsz v n xs hown ad m c news hl hnews h1 (by unfold maxLen;omega) (by omega) hbase;unfold Oper.wp execOp;simp only [hop,resolve,invoke,builtin,Sem.run_bind,Sem.run_pure,Result.andThen_ok,List.map_toArray,ZX,Ys,hs,hx,hr];exact hK v' w' h2 h3 h4 h5
theorem xPy{P:Program}{te ts:TypeId}(w:World){ops:Array Oper}{rest:List Oper}{o:Oper}{a:Act}{Q:Exit->Act->World->Prop}(ht:P.underlying ts=some (.slice te))(hg:o.guard=none)(s x:Operand)
 (hop:o.op= .call { callee:= .builtin .append,args:= #[s,x],argTypes:= #[ts,ts] }) (i:TypeInfo) (hi:P.info? te=some i) {z:Value} (hz:i.zero=some z) {sz bytes:Nat} (hsize:i.size=sz) (hby:i.bytes=bytes) (hzs:z.cells.size=sz) (hsz:0<sz) (hb:bytes<=64)
 (base:Nat) (v:Value) (n:Nat) (xs:List Value) (hs:a.eval s=v) (hown:w.ownsRow base te sz v n xs) (ad:Addr) (m c:Nat) (news:List Value) (hx:a.eval x= .slice (some ad) m c) (hl:news.length=m*sz)
 (hnews:∀j u,news[j]? =some u->w.cell? (ad.add j)=some u) (h1:∀u∈news,u.oneCell' =true) (hlen:n+m<=1000000000000) (hbase:base<=w.heap.size)
 (hK:∀v' w',w'.ownsRow base te sz v' (n+m) (xs++news)->w.grownBy w' v.ownBlock->(v' = .slice none 0 0↔v= .slice none 0 0/\m=0)->(v'.ownBlock=v.ownBlock\/v'.ownBlock=some w.heap.size)->wpList P ops Q rest (a.put o.dst v') w'):
 wpList P ops Q (o::rest) a w:=by
 refine wpList_plain hg fun K' hK' => ?_;exact xBg w ht s x hop i hi hz hsize hby hzs hsz hb base v n xs hs hown ad m c news hx hl hnews h1 hlen hbase fun v' w' a1 a2 a3 a4=>hK' _ _ (hK v' w' a1 a2 a3 a4)
theorem ORow.owns{w:World}{te g cap sz n:Nat}{xs:List Value}(h:ORow w te g cap sz n xs):w.ownsRow 0 te sz (.slice (some ⟨g,0,none⟩) n cap) n xs:=by
 obtain⟨h0,cur,h1,h2,h3,h4,h5⟩:=h;exact⟨h0,.inr ⟨g,cap,cur,rfl,Z9 _,h1,h2,h3,h4,h5⟩⟩
theorem ORow.of_owns{w:World}{te sz n base:Nat}{xs:List Value}{v:Value}(h:w.ownsRow base te sz v n xs)(hn:n≠0):∃g cap,v= .slice (some ⟨g,0,none⟩) n cap/\base<=g/\ORow w te g cap sz n xs:=by
 obtain⟨h0,h1⟩:=h;rcases h1 with ⟨_,h2⟩|⟨g,cap,cur,rfl,h2,h3,h4,h5,h6,h7⟩
 ·exact absurd h2 hn
 ·exact⟨g,cap,rfl,h2,h0,cur,h3,h4,h5,h6,h7⟩
def Kp(l:List Nat)(a a' :Act):Prop:=a'.defers=a.defers/\a'.tmps.size=a.tmps.size/\∀t∈l,a'.tmps[t]? =a.tmps[t]?
theorem y9{l:List Nat}{a:Act}{tm:Array Value}{d:Nat}{v:Value}(hd:l.contains d=false)(h:Kp l a { a with tmps:=tm }):Kp l a { a with tmps:=tm.setIfInBounds d v }:=by
 refine⟨rfl,by simpa using h.2.1,fun t ht=> ?_⟩;have:d≠t:=fun e=>by subst e;simp at hd;exact hd ht
 rw [<-h.2.2 t ht];simp [this]
theorem AC{l:List Nat}{a:Act}:Kp l a { a with tmps:=a.tmps }:=⟨rfl,rfl,fun _ _=>rfl⟩
theorem Kp.trans{l l' l2:List Nat}{a b c:Act}(h:Kp l a b)(g:Kp l' b c)(s:(l2.all fun t=>l.contains t&&l'.contains t)=true):Kp l2 a c:=by
 refine⟨g.1.trans h.1,g.2.1.trans h.2.1,fun t ht=> ?_⟩;have:=Zu.1 s t ht;simp only [Zv,ZZ] at this;exact(g.2.2 t this.2).trans (h.2.2 t this.1)
theorem Kp.get{l:List Nat}{a b:Act}(h:Kp l a b){t:Nat}{v:Value}(hv:a.tmps[t]? =some v)(ht:l.contains t=true):b.tmps[t]? =some v:=(h.2.2 t (by simpa using ht)).trans hv
theorem zJ{a:Act}{k n:Nat}{v:Value}(h:a.tmps[k]? =some v)(hs:a.tmps.size=n)(hk:k<n):a.tmps[k]'(by omega)=v:=(Zg.1 h).2
theorem Bt{a:Act}{t:Nat}{v:Value}(h:a.tmps[t]? =some v):a.eval (.tmp t)=v:=by
 simp only [Act.eval,Yv,h,jG]
end Go.Ab
end
section
namespace Go.Ab
open Go.Proofs Go.RowKit Go.Shelf
theorem JS(i:Nat)(rs:List Rowd)(r:Rowd):uM i (rs++ [r])=if gQ i r∈uM i rs then uM i rs else uM i rs++ [gQ i r]:=by
 unfold uM;rw [Y5]
 rfl
theorem Mo(i k:Nat)(rs:List Rowd)(r:Rowd):oP i k (rs++ [r])=A6 (oP i k rs) (gQ i r) (IntKind.i64.wrap (oP i k rs (gQ i r)+gQ k r)):=by
 funext y
 simp only [oP,Y5,List.foldl_cons,List.foldl_nil,A6];by_cases h:y=gQ i r
 ·subst h;simp
 ·rw [Zf (Ne.symm h),Zf h]
theorem Ml(i:Nat)(rs:List Rowd)(r:Rowd):uL i (rs++ [r])=A6 (uL i rs) (gQ i r) (qX (uL i rs (gQ i r)) r.frm):=by
 funext y
 simp only [uL,Y5,List.foldl_cons,List.foldl_nil,A6];by_cases h:y=gQ i r
 ·subst h;simp
 ·rw [Zf (Ne.symm h),Zf h]
theorem Gl{rs:List Rowd}{j:Nat}(h:j<rs.length):rs.take (j+1)=rs.take j++ [rs[j]]:=by rw [Yl h]
theorem xFP{i:Nat}{x:Int}:∀(n:Nat) (rs:List Rowd),rs.length=n->x ∉ uM i rs->(∀k,oP i k rs x=0)/\uL i rs x=[]:=by
 intro n
 induction n with
 |zero=>
  intro rs h _;have:rs=[]:=Z0.1 h;subst this;exact⟨fun _=>rfl,rfl⟩
 |succ n ih=>
  intro rs h hx;have e:rs=rs.take n++ [rs[n]'(by omega)]:=by rw [<-Gl (by omega)];exact(Xj (by omega)).symm
  rw [e] at hx ⊢;rw [JS] at hx;have hx2:x ∉ uM i (rs.take n)/\x≠gQ i (rs[n]'(by omega)):=by
   split at hx
   ·rename_i hm;exact⟨hx,fun e=>hx (e ▸ hm)⟩
   ·rw [Za] at hx;exact⟨fun h=>hx (.inl h),fun e=>hx (.inr (by simp [e]))⟩
  obtain⟨h1,h2⟩:=ih (rs.take n) (by rw [ZT];omega) hx2.1;refine⟨fun k=> ?_,?_⟩
  ·rw [Mo];simp only [A6,Zf hx2.2];exact h1 k
  ·rw [Ml];simp only [A6,Zf hx2.2];exact h2
theorem xPi(a b:List Org):(qX a b).length<=a.length+b.length:=by
 unfold qX;rw [YG];have:=JJ (a++b)
 rwa [jA] at this
theorem xFO{i L:Nat}{x:Int}:∀(rs:List Rowd),(∀r∈rs,r.frm.length<=L)->(uL i rs x).length<=rs.length*L:=by
 have key:∀(rs:List Rowd) (f:List Org),(∀r∈rs,r.frm.length<=L)->(rs.foldl (fun f r=>if gQ i r=x then qX f r.frm else f) f).length<=f.length+rs.length*L:=by
  intro rs
  induction rs with
  |nil=>intro f _;simp
  |cons r rs ih=>
   intro f h;rw [List.foldl_cons];refine ZF (ih _ fun q hq=>h q (Zq _ hq)) ?_;have hr:=h r Zp;have hu:=xPi f r.frm;rw [jC,ZM];split <;>omega
 intro rs h;have:=key rs [] h;unfold uL;simpa using this
theorem Mn(i:Nat):∀(rs:List Rowd),(uM i rs).length<=rs.length:=by
 have key:∀(rs:List Rowd) (ks:List Int),(rs.foldl (fun ks r=>if gQ i r∈ks then ks else ks++ [gQ i r]) ks).length<=ks.length+rs.length:=by
  intro rs
  induction rs with
  |nil=>intro f;simp
  |cons r rs ih=>
   intro ks;rw [List.foldl_cons];refine ZF (ih _) ?_;split <;>simp <;>omega
 intro rs;simpa [uM] using key rs []
def Ky(w:World)(v:Value)(xs:List Int):Prop:=
 ∃p c,v= .slice p xs.length c/\(xs=[]\/∃b off,p=some ⟨b,off,none⟩/\b<w.heap.size/\∀m (hm:m<xs.length),w.cell? ⟨b,off+m,none⟩=some (.int .i64 xs[m]))
def Fg(w:World)(v:Value)(rs:List Rowd):Prop:=
 ∃p c,v= .slice p rs.length c/\(rs=[]\/∃b off,p=some ⟨b,off,none⟩/\b<w.heap.size/\∀j (hj:j<rs.length),∃cv fv,w.cell? ⟨b,off+j*2,none⟩=some cv/\w.cell? ⟨b,off+j*2+1,none⟩=some fv/\Ky w cv rs[j].cells/\RowIn w fv rs[j].frm)
theorem DH{w w' :World}{b o:Nat}(h:w'.heap[b]? =w.heap[b]?):w'.cell? ⟨b,o,none⟩=w.cell? ⟨b,o,none⟩:=by simp only [World.cell?,h]
theorem Es{w:World}{b o:Nat}{v:Value}(h:w.cell? ⟨b,o,none⟩=some v):b<w.heap.size:=by
 by_cases hlt:b<w.heap.size
 ·exact hlt
 ·simp [World.cell?,Yr (XX hlt)] at h
section
variable [Inhabited Lb]
theorem xKI{w:World}{ok:List (Nat×Nat)->Nat->Nat->Prop}{q:List (Nat×Nat)->Value->Nat->Prop}{v:Value}{os:List Org}(h:RdP w ok q v (.sl 2 (os.map Ty.org.toD))):RowIn w v os:=by
 by_cases hx:os=[]
 ·subst hx;obtain⟨ad,cap,rfl,_⟩:=RdP.shape h;exact⟨ad,cap,rfl,.inl rfl⟩
 ·obtain⟨b,off,cap,rfl,hcap,hrl,hq,u,hcl,hk⟩:=RdP.cells h (by simpa using hx);have hpos:0<(os.map Ty.org.toD).length:=by
   cases os with
   |nil=>exact absurd rfl hx
   |cons _ _=>simp
  refine⟨some ⟨b,off,none⟩,cap,by rw [Zr],.inr ⟨_,rfl,Es (hcl 0 0 hpos (by decide)).1,fun j x hj=> ?_⟩⟩;have hj2:j<(AD os).length:=(Zt.1 hj).1;rw [Ep] at hj2;have e:j=j / 2*2+j % 2:=by omega
  have hm:j / 2<os.length:=by omega
  have hk2:j % 2<2:=Xk _ (by decide);have h1:=Da os (j / 2) hm (j % 2) hk2;rw [<-e,hj] at h1;cases h1;have g1:=(hcl (j / 2) (j % 2) (by simpa using hm) hk2).1;have hr:((os.map Ty.org.toD)[j / 2]'(by simpa using hm))=Ty.org.toD os[j / 2]:=by rw [Z7]
  have g2:=hk (j / 2) (j % 2) (by simpa using hm) (by rw [hr];exact hk2);have ha:(⟨b,off,none⟩:Addr).add j=⟨b,off+(j / 2)*2+j % 2,none⟩:=by
   rw [show off+j / 2*2+j % 2=off+j by omega];unfold Addr.add;split
   ·rename_i h0;rw [h0];rfl
   ·rfl
  rw [ha,g1];simp only [hr] at g2;exact Zd some (Lc g2)
theorem xI1{w:World}{ok:List (Nat×Nat)->Nat->Nat->Prop}{q:List (Nat×Nat)->Value->Nat->Prop}{v:Value}{xs:List Int}(h:RdP w ok q v (.sl 1 (xs.map fun n=> [D.int .i64 n]))):Ky w v xs:=by
 by_cases hx:xs=[]
 ·subst hx;obtain⟨ad,cap,rfl,_⟩:=RdP.shape h;exact⟨ad,cap,rfl,.inl rfl⟩
 ·obtain⟨b,off,cap,rfl,hcap,hrl,hq,u,hcl,hk⟩:=RdP.cells h (by simpa using hx);have hpos:0<(xs.map fun n=> [D.int .i64 n]).length:=by
   cases xs with
   |nil=>exact absurd rfl hx
   |cons _ _=>simp
  refine⟨some ⟨b,off,none⟩,cap,by rw [Zr],.inr ⟨b,off,rfl,Es (hcl 0 0 hpos (by decide)).1,fun m hm=> ?_⟩⟩;have g1:=(hcl m 0 (by simpa using hm) (by decide)).1;have hr:((xs.map fun n=> [D.int .i64 n])[m]'(by simpa using hm))=[D.int .i64 xs[m]]:=by rw [Z7]
  have g2:=hk m 0 (by simpa using hm) (by rw [hr];exact Nat.zero_lt_one);rw [show off+m*1+0=off+m by omega] at g1;rw [g1];generalize u m 0=y at g2;simp only [hr,List.getElem_cons_zero] at g2;cases g2
  rfl
theorem xKL{w:World}{ok:List (Nat×Nat)->Nat->Nat->Prop}{q:List (Nat×Nat)->Value->Nat->Prop}{v:Value}{rs:List Rowd}(h:RdP w ok q v (.sl 2 (rs.map Rowd.toD))):Fg w v rs:=by
 by_cases hx:rs=[]
 ·subst hx;obtain⟨ad,cap,rfl,_⟩:=RdP.shape h;exact⟨ad,cap,rfl,.inl rfl⟩
 ·obtain⟨b,off,cap,rfl,hcap,hrl,hq,u,hcl,hk⟩:=RdP.cells h (by simpa using hx);have hpos:0<(rs.map Rowd.toD).length:=by
   cases rs with
   |nil=>exact absurd rfl hx
   |cons _ _=>simp
  refine⟨some ⟨b,off,none⟩,cap,by rw [Zr],.inr ⟨b,off,rfl,Es (hcl 0 0 hpos (by decide)).1,fun j hj=> ?_⟩⟩;have g0:=(hcl j 0 (by simpa using hj) (by decide)).1;have g1:=(hcl j 1 (by simpa using hj) (by decide)).1;have hr:((rs.map Rowd.toD)[j]'(by simpa using hj))=Rowd.toD rs[j]:=by rw [Z7]
  have k0:=hk j 0 (by simpa using hj) (by rw [hr];exact Nat.zero_lt_succ _);have k1:=hk j 1 (by simpa using hj) (by rw [hr];exact Nat.lt_succ_self _);simp only [hr] at k0 k1;exact⟨u j 0,u j 1,by simpa using g0,g1,xI1 k0,xKI k1⟩
end
theorem xKe{w:World}{g cap:Nat}{xs:List Org}(h:OrgRow w g cap xs):RowIn w (.slice (some ⟨g,0,none⟩) xs.length cap) xs:=by
 have hl:=h.lt;obtain⟨h0,cs,ty,lo,hi,h1,h2,h3,h4⟩:=h;refine⟨_,cap,rfl,.inr ⟨_,rfl,hl,fun j u hj=> ?_⟩⟩;have hj2:j<(AD xs).length:=(Zt.1 hj).1;rw [Ep] at hj2;have e:j=j / 2*2+j % 2:=by omega
 have hm:j / 2<xs.length:=by omega
 have hk2:j % 2<2:=Xk _ (by decide);have q1:=Da xs (j / 2) hm (j % 2) hk2;rw [<-e,hj] at q1;cases q1;have ha:(⟨g,0,none⟩:Addr).add j=⟨g,(j / 2)*2+j % 2,none⟩:=by
  rw [<-e];unfold Addr.add;split
  ·rename_i h0;rw [h0]
  ·simp
 rw [ha];simp only [World.cell?,h1];exact h4 _ hm _ hk2
end Go.Ab
end
section
namespace Go.Ab
open Go.Proofs Go.RowKit Go.Shelf
theorem ORow.cellI{w:World}{te g cap:Nat}{xs:List Int}(h:ORow w te g cap 1 xs.length (xs.map (Value.int .i64))){j:Nat}(hj:j<xs.length):w.cell? ⟨g,j,none⟩=some (.int .i64 xs[j]):=by
 obtain⟨_,cur,h1,h2,h3,h4,h5⟩:=h;simp only [World.cell?,h1];have e:(cur.toList.take (xs.length*1))[j]? =some (.int .i64 xs[j]):=by rw [h5,Zn,Zx hj];rfl
 rw [YL,Zw (by omega)] at e;simpa using e
theorem ORow.holdsI{w:World}{te g cap:Nat}{xs:List Int}(h:ORow w te g cap 1 xs.length (xs.map (Value.int .i64))):Sort.Holds (Value.int .i64) w g 0 xs.toArray:=by
 intro j hj;have hj:j<xs.length:=by simpa using hj
 rw [Zj];refine⟨?_,?_⟩
 ·rw [h.cellI hj];simp [hj]
 ·obtain⟨_,cur,h1,_⟩:=h;simp [World.frozen?,h1]
theorem xLz{w:World}{te g cap n:Nat}{xs ys:List Int}{os:Array Obj}(h:ORow w te g cap 1 xs.length (xs.map (Value.int .i64)))(hl:ys.length=xs.length):
 ORow (Sort.grow (Sort.putRow (Value.int .i64) (Sort.ahead w n) g 0 ys.toArray) os) te g cap 1 ys.length (ys.map (Value.int .i64))/\w.heap.size<=(Sort.grow (Sort.putRow (Value.int .i64) (Sort.ahead w n) g 0 ys.toArray) os).heap.size/\
  ∀b,b<w.heap.size->b≠g->(Sort.grow (Sort.putRow (Value.int .i64) (Sort.ahead w n) g 0 ys.toArray) os).heap[b]? =w.heap[b]? :=by
 have hsz:(Sort.putRow (Value.int .i64) (Sort.ahead w n) g 0 ys.toArray).heap.size=w.heap.size:=by simp [Sort.putRow,Sort.mapBlock,Sort.ahead]
 obtain⟨_,cur,h1,h2,h3,h4,h5⟩:=h;have hg:g<w.heap.size:=(Zg.1 h1).1;refine⟨⟨by simp,Sort.putCells (Value.int .i64) 0 ys.toArray cur,?_,by omega,h3,by simp [Sort.putCells,h4],?_⟩,by rw [Sort.size_grow,hsz];omega,fun b hb hne=> ?_⟩
 ·rw [Sort.heap_grow_old _ _ (by rw [hsz];exact hg)];simp only [Sort.putRow,Sort.mapBlock,Yo,ZB];show Option.map _ (w.heap[g]?)=_;rw [h1];rfl
 ·refine List.ext_getElem? fun j=> ?_;rw [YL];by_cases hj:j<ys.length
  ·rw [Zw (by omega),Zn,Zx hj];have hc:j<cur.size:=by omega
   simp [Sort.putCells,hc,hj]
  ·rw [Zf (by omega),Zn,ZP (by omega)]
   rfl
 ·rw [Sort.heap_grow_old _ _ (by rw [hsz];exact hb)];simp only [Sort.putRow,Sort.mapBlock,Yo];rw [Zf (Ne.symm hne)]
  rfl
section
variable {w0 wr:World} {B tR tI:Nat} {blk:Tg->Nat} {ks kl:List Int} {sm:Int->Int} {fr:Int->List Org} {fc:Int->Nat} {nx:Option Int} {kc:Nat}
theorem GRel.rekey(h:GRel w0 wr B tR tI blk ks kl sm fr fc nx kc){wr' :World}{kl' :List Int}(hos:wr'.os=wr.os/\wr'.tape=wr.tape/\wr'.output=wr.output)(hs:wr.heap.size<=wr'.heap.size)(ho:∀b,b<wr.heap.size->b≠blk .keys->wr'.heap[b]? =wr.heap[b]?)
 (hk:ORow wr' tI (blk .keys) kc 1 kl'.length (kl'.map (Value.int .i64))):GRel w0 wr' B tR tI blk ks kl' sm fr fc nx kc:=by
 have k:∀t,AE ks nx t->t≠ .keys->wr'.heap[blk t]? =wr.heap[blk t]? :=fun t ht hn=>ho _ (h.rng t ht).2 fun e=>hn (h.inj t .keys ht trivial e);refine⟨h.map.kept (k .map trivial (by simp)) (fun _ _=>rfl),fun x hx=>(k (.box x) hx (by simp)).trans (h.box x hx),fun x hx=>(k (.cel x) hx (by simp)).trans (h.cel x hx),fun x hx hn=>(h.frm x hx hn).kept (k (.frm x) ⟨hx,hn⟩ (by simp)),h.nil,hk,h.nodup,h.inj,fun t ht=>⟨(h.rng t ht).1,ZC (h.rng t ht).2 hs⟩,?_⟩;have rk:=h.rng .keys trivial;exact h.below.trans ⟨hos.1,hos.2.1,hos.2.2,hs,fun b hb=>ho b (by omega) (by omega)⟩
end
def Dc(blk:Tg->Nat)(fr:Int->List Org)(fc:Int->Nat)(xs:List Int):List Value:=
 xs.flatMap fun x=> [.slice (some ⟨blk (.cel x),0,none⟩) 2 2,.slice (some ⟨blk (.frm x),0,none⟩) (fr x).length (fc x)]
theorem xKJ(blk:Tg->Nat)(fr:Int->List Org)(fc:Int->Nat)(xs:List Int)(x:Int):
 Dc blk fr fc (xs++ [x])=Dc blk fr fc xs++ [.slice (some ⟨blk (.cel x),0,none⟩) 2 2,.slice (some ⟨blk (.frm x),0,none⟩) (fr x).length (fc x)]:=by simp [Dc]
end Go.Ab
end
section
namespace Go.Ab
open Go.Proofs Go.RowKit Go.Shelf
section
variable [Inhabited Lb]
def Env.ended(E:Env)(w' :World)(lab:Nat->Option (Nat×List (Nat×Nat)))(hwf:Nat->Nat):Env:=
 { w:=w',hw:=fun b=>match lab b with |some _=>hwf b|none=>E.hw b,
   ow:=fun b=>match lab b with |some l=>some (.arr (.h 0) l.1 l.2) |none=>(E.ow b).bind fun l=>match l with | .arr (.h 0) _ _=>none|l=>some l,
   bx:=E.bx,hdr:=E.hdr }
theorem Lk{C:Ctx}{fn:Func}{I:Info}{σ:St}{tmps:Array Value}{a' :Act}{E:Env}(hi:Inv C σ.get tmps E)(hext:∀s b,C.ext s=some b->False)(hIe:I.ext=[])(hIl:I.lnt=[]){w' :World}{B6:Nat}(hB6:E.ow B6≠none)
 (hos:w'.os=E.w.os/\w'.tape=E.w.tape/\w'.output=E.w.output) (hsz:E.w.heap.size<=w'.heap.size) (hold:∀b,b<E.w.heap.size->b≠B6->w'.heap[b]? =E.w.heap[b]?) (hd:a'.defers=[]) (hnt:a'.tmps.size=C.nt)
 {lab:Nat->Option (Nat×List (Nat×Nat))} {hwf:Nat->Nat} (inj:∀b b' l,lab b=some l->lab b' =some l->b=b') (new:∀b l,lab b=some l->E.w.heap.size<=b/\b<w'.heap.size)
 {av:AV} {v:Value} (hnb:av.nbox=none) (hres:VR (E.ended w' lab hwf) aJ (.h 0) av v) (hrun:(results fn a'.tmps).run C.P w' = .ok v w'):kM C fn I ⟨av,[],[]⟩ a' w' :=by
 have labn:∀b,b<E.w.heap.size->lab b=none:=fun b hb=>by
  cases h:lab b with
  |none=>rfl
  |some l=>have:=(new b l h).1;omega
 have hinv:Inv C (St.get []) a'.tmps (E.ended w' lab hwf):=by
  refine { os:=hos.1.trans hi.os,tape:=hos.2.1.trans hi.tape,output:=hos.2.2.trans hi.output,size:=ZF hi.size hsz,hdr:=hi.hdr,old:=fun b hb h0=> ?_,new:=fun b hb=> ?_,inj:=fun b b' l h1 h2=> ?_,boxhw:=fun b s h=> ?_,nt:=hnt,tmp:=fun t=>trivial,box:=fun s cs h=>by(cases h),ext:=fun s b h=>(hext s b h).elim,base:=hi.base }
  ·obtain⟨h1,h2,h3⟩:=hi.old b hb h0;have hlt:b<E.w.heap.size:=ZC hb hi.size;refine⟨(hold b hlt fun e=>hB6 (e ▸ h3)).trans h1,?_,?_⟩
   ·simp only [Env.ended,labn b hlt];exact h2
   ·simp only [Env.ended,labn b hlt,h3,Option.bind_none]
  ·have hb:w'.heap.size<=b:=hb;have hl:lab b=none:=by
    cases h:lab b with
    |none=>rfl
    |some l=>have:=(new b l h).2;omega
   obtain⟨h1,h2⟩:=hi.new b (by omega);simp only [Env.ended,hl,h1,Option.bind_none];exact⟨trivial,h2⟩
  ·simp only [Env.ended] at h1 h2;cases g1:lab b with
   |some l1=>
    cases g2:lab b' with
    |some l2=>
     rw [g1] at h1;rw [g2] at h2;simp only at h1 h2;cases h1;have:l1=l2:=by
      cases l1;cases l2;simpa using(Yz h2).symm
     subst this;exact inj b b' l1 g1 g2
    |none=>
     rw [g1] at h1;rw [g2] at h2;simp only at h1 h2;cases h1;rw [Zm] at h2;obtain⟨l2,_,c2⟩:=h2;split at c2
     ·cases c2
     ·rename_i hne;cases c2;exact(hne _ _ rfl).elim
   |none=>
    cases g2:lab b' with
    |some l2=>
     rw [g1] at h1;rw [g2] at h2;simp only at h1 h2;cases h2;rw [Zm] at h1;obtain⟨l1,_,c1⟩:=h1;split at c1
     ·cases c1
     ·rename_i hne;cases c1;exact(hne _ _ rfl).elim
    |none=>
     rw [g1] at h1;rw [g2] at h2;simp only at h1 h2;rw [Zm] at h1 h2;obtain⟨l1,a1,c1⟩:=h1;obtain⟨l2,a2,c2⟩:=h2;have e1:l1=l:=by split at c1 <;>first |exact Yz c1|cases c1
     have e2:l2=l:=by split at c2 <;>first |exact Yz c2|cases c2
     subst e1 e2;exact hi.inj _ _ _ a1 a2
  ·simp only [Env.ended] at h ⊢;cases g1:lab b with
   |some l1=>rw [g1] at h;simp at h
   |none=>
    rw [g1] at h;simp only at h ⊢;rw [Zm] at h;obtain⟨l1,a1,c1⟩:=h;have e1:l1= .box s:=by split at c1 <;>first |exact Yz c1|cases c1
    subst e1;exact hi.boxhw b s a1
 refine⟨hd,fun tg ht _ _ m=>⟨v,E.ended w' lab hwf,E.ended w' lab hwf,rfl,⟨[],hinv⟩,hrun,{ w:=rfl,hw:=rfl,bx:=rfl,hdr:=rfl,ow:=fun b h=>h,env:=hinv.env,res:=ResAt.of hres hnb,outs:=fun n s o h1 h2=>by rw [hIe] at h1;simp at h1,outl:=by rw [hIe];rfl,lents:= ?_ }⟩⟩;rw [hIl] at ht;obtain rfl:tg=[]:=Z0.1 ht
 trivial
theorem Reach.tail{P:Program}{fn:Func}{I:Info}{σ:St}{ro:CallO}{c1 c2:Code}
 (h:∀C:Ctx,C.P=P->C.nt=I.nt->(∀s b,C.ext s=some b->s∈I.ext)->∀a w,R C σ a w->c1.wp P (Exit.then (fun a1 w1=>c2.wp P (fun e a' w' =>e= .ret/\kM C fn I ro a' w') a1 w1) (fun _ _ _=>False)) a w):Reach P fn I [.code c1,.code c2] σ ro:=by
 intro C hP hnt hext a w hR b cs;obtain⟨e,a1,w1,hq,harr⟩:=h C hP hnt hext a w hR b [.code c2] cs;cases e with
 |normal=>
  obtain⟨e2,a2,w2,⟨rfl,hq2⟩,todo,harr2⟩:=hq b [] cs;exact⟨a2,w2,todo,hq2,harr.trans harr2⟩
 |exit id=>exact hq.elim
 |goto l=>exact hq.elim
 |ret=>exact hq.elim
 |panic c=>exact hq.elim
 |outgrown=>exact hq.elim
theorem xKf{w:World}{ok:List (Nat×Nat)->Nat->Nat->Prop}{q:List (Nat×Nat)->Value->Nat->Prop}{g cap:Nat}{xs:List Org}(h:OrgRow w g cap xs)(hok:∀o,o<xs.length*2->ok [] g o)(hq:q [] (.slice (some ⟨g,0,none⟩) xs.length cap) 2):
 RdP w ok q (.slice (some ⟨g,0,none⟩) xs.length cap) (.sl 2 (xs.map Ty.org.toD)):=by
 obtain⟨hcap,cs,ty,lo,hi,t4,t5,t6,hc⟩:=h;refine .sl g 0 xs.length cap 2 _ (fun m k=>if h:m<xs.length/\k<2 then(bH xs[m])[k]'h.2 else .bool false) (by simp) hcap (fun r hr=> ?_) hq (fun m k hm hk=> ?_) (fun m k hm hk=> ?_)
 ·obtain⟨y,_,rfl⟩:=Zk.1 hr;exact Ty.toD_length .org y
 ·rw [dif_pos ⟨hm,hk⟩];refine⟨?_,hok _ (by omega)⟩;simp only [World.cell?,t4];rw [Zj];exact hc m hm k hk
 ·have hm' :m<xs.length:=by simpa using hm
  have hr:(xs.map Ty.org.toD)[m]=Ty.org.toD xs[m]:=by rw [Z7]
  have hk' :k<2:=by rw [hr] at hk;exact hk
  rw [dif_pos ⟨hm',hk'⟩];simp only [hr]
  match k,hk' with
  |0,_=>exact .int .i64 _
  |1,_=>exact .int .i64 _
end
end Go.Ab
end
section
namespace Go.Ab
open Go.Proofs Go.RowKit Go.Shelf
def zQ(n:Nat):Code->Option Code
 | .region i o d=>cond (i.beq n) (some (.region i o d)) none
 | .seq x y=>(zQ n x).orElse fun _=>zQ n y
 | .cond _ x y=>(zQ n x).orElse fun _=>zQ n y
 | .block _ x=>zQ n x
 | .loop x=>zQ n x
 |_=>none
noncomputable def Rg (n:Nat):Code:=((Tryz.f42.body).bind (zQ n)).getD .skip
theorem AF:GrpT Tryz.prog 3 87 88:=⟨Tryz.underlying3,Tryz.underlying87,Tryz.zeroValue88⟩
theorem xIV:(Tryz.prog.info? 3).map (fun i=>(i.zero,i.size,i.bytes))=some (some (.int .i64 0),1,8):=by kernel_rfl
theorem xIW:(Tryz.prog.info? 77).map (fun i=>(i.zero,i.size,i.bytes))=some (some (.agg #[.slice none 0 0,.slice none 0 0]),2,48):=by kernel_rfl
theorem Jy:Tryz.prog.follows .mixedOrders=true:=by kernel_rfl
set_option maxRecDepth 100000
theorem xGc{a:Act}{w:World}(hs:a.tmps.size=153):(Rg 8).wp Tryz.prog (fun e a' w' =>e= .normal/\w' =w.alloc (.map #[] 0)/\a'.tmps[11]? =some (.map (some w.heap.size))/\Kp [3,4,5,6,9,10] a a') a w:=by
 dsimp only [Rg,Tryz.f42,Option.bind,zQ,Option.getD,cond,Nat.beq,Option.orElse];have hmm:= @run_makeMap Tryz.prog
 go_wp2
 exact y9 rfl (y9 rfl AC)
theorem xGd{a:Act}{w:World}(hs:a.tmps.size=153):(Rg 9).wp Tryz.prog (fun e a' w' =>e= .normal/\w' =w.alloc (.cells #[] 3 (0,0))/\a'.tmps[12]? =some (.slice (some ⟨w.heap.size,0,none⟩) 0 0)/\Kp [3,4,5,6,9,10,11] a a') a w:=by
 dsimp only [Rg,Tryz.f42,Option.bind,zQ,Option.getD,cond,Nat.beq,Option.orElse]
 go_wp2
 exact y9 rfl (y9 rfl AC)
theorem xFS{a:Act}{w:World}(hs:a.tmps.size=153){B5 n c:Nat}{p:Option Addr}(h5:a.tmps[5]? =some (.pointer (some ⟨B5,0,none⟩)))(hc:w.cell? ⟨B5,6,none⟩=some (.slice p n c)):(Rg 10).wp Tryz.prog (fun e a' w' =>e= .normal/\w' =w/\a'.tmps[55]? =some (.slice p n c)/\a'.tmps[56]? =some (.int .i64 n)/\a'.tmps[57]? =some (.int .i64 (0:Nat))/\Kp [3,4,5,6,9,10,11,12] a a') a w:=by
 dsimp only [Rg,Tryz.f42,Option.bind,zQ,Option.getD,cond,Nat.beq,Option.orElse];have h5:=zJ h5 hs (by decide)
 go_wp2
 exact y9 rfl (y9 rfl (y9 rfl (y9 rfl AC)))
theorem xFT{a:Act}{w:World}(hs:a.tmps.size=153){j n:Nat}(h56:a.tmps[56]? =some (.int .i64 n))(h57:a.tmps[57]? =some (.int .i64 j)):(Rg 11).wp Tryz.prog (fun e a' w' =>e= .normal/\w' =w/\a'.tmps[58]? =some (.bool (decide (j<n)))/\Kp [3,4,5,6,9,10,11,12,55,56,57] a a') a w:=by
 dsimp only [Rg,Tryz.f42,Option.bind,zQ,Option.getD,cond,Nat.beq,Option.orElse];have h56:=zJ h56 hs (by decide);have h57:=zJ h57 hs (by decide)
 go_wp2
 exact y9 rfl AC
theorem xFU{a:Act}{w:World}(hs:a.tmps.size=153){j n b off c:Nat}(hj:j<n){p1 p2:Option Addr}{n1 c1 n2 c2:Nat}(h55:a.tmps[55]? =some (.slice (some ⟨b,off,none⟩) n c))(h57:a.tmps[57]? =some (.int .i64 j))(hc:w.cell? ⟨b,off+j*2,none⟩=some (.slice p1 n1 c1))(hf:w.cell? ⟨b,off+j*2+1,none⟩=some (.slice p2 n2 c2)):
 (Rg 12).wp Tryz.prog (fun e a' w' =>e= .normal/\w' =w.alloc (.cells #[.slice p1 n1 c1,.slice p2 n2 c2] 77 (0,0))/\a'.tmps[14]? =some (.pointer (some ⟨w.heap.size,0,none⟩))/\Kp [3,4,5,6,9,10,11,12,55,56,57] a a') a w:=by
 dsimp only [Rg,Tryz.f42,Option.bind,zQ,Option.getD,cond,Nat.beq,Option.orElse];have h55:=zJ h55 hs (by decide);have h57:=zJ h57 hs (by decide)
 go_wp2
 exact y9 rfl (y9 rfl (y9 rfl AC))
theorem xFV{a:Act}{w:World}(hs:a.tmps.size=153){rb i b off c n:Nat}(hj:i<n){x:Int}(h14:a.tmps[14]? =some (.pointer (some ⟨rb,0,none⟩)))(h9:a.tmps[9]? =some (.int .i64 i))(hc:w.cell? ⟨rb,0,none⟩=some (.slice (some ⟨b,off,none⟩) n c))(hx:w.cell? ⟨b,off+i,none⟩=some (.int .i64 x)):
 (Rg 13).wp Tryz.prog (fun e a' w' =>e= .normal/\w' =w/\a'.tmps[15]? =some (.int .i64 x)/\Kp [3,4,5,6,9,10,11,12,14,55,56,57] a a') a w:=by
 dsimp only [Rg,Tryz.f42,Option.bind,zQ,Option.getD,cond,Nat.beq,Option.orElse];have h14:=zJ h14 hs (by decide);have h9:=zJ h9 hs (by decide)
 go_wp2
 exact y9 rfl (y9 (v:= .int .i64 x) rfl (y9 rfl (y9 rfl (y9 rfl (y9 rfl AC)))))
theorem xFW{a:Act}{w:World}(hs:a.tmps.size=153){M:Nat}{bx:Int->Nat}{ks:List Int}{x:Int}(hm:PMap w M bx ks)(h11:a.tmps[11]? =some (.map (some M)))(h15:a.tmps[15]? =some (.int .i64 x)):
 (Rg 14).wp Tryz.prog (fun e a' w' =>e= .normal/\w' =w/\a'.tmps[69]? =some (.bool (!decide (x∈ks)))/\Kp [3,4,5,6,9,10,11,12,14,15,55,56,57] a a') a w:=by
 dsimp only [Rg,Tryz.f42,Option.bind,zQ,Option.getD,cond,Nat.beq,Option.orElse];have h11:=zJ h11 hs (by decide);have h15:=zJ h15 hs (by decide);have hl:=AM AF hm x;by_cases hx:x∈ks
 ·rw [Zw hx,pbx] at hl
  go_wp2
  exact y9 rfl (y9 rfl (y9 rfl (y9 rfl AC)))
 ·rw [Zf hx] at hl
  go_wp2
  exact y9 rfl (y9 rfl (y9 rfl (y9 rfl AC)))
theorem xFX{a:Act}{w:World}(hs:a.tmps.size=153){M:Nat}{bx:Int->Nat}{ks:List Int}{x:Int}(hm:PMap w M bx ks)(hx:x ∉ ks)(h11:a.tmps[11]? =some (.map (some M)))(h15:a.tmps[15]? =some (.int .i64 x)):
 (Rg 15).wp Tryz.prog (fun e a' w' =>e= .normal/\PMap w' M (fun y=>if y=x then w.heap.size+1 else bx y) (ks++ [x])/\((w.alloc (.cells #[.int .i64 x,.int .i64 0] 3)).alloc (.cells #[.slice (some ⟨w.heap.size,0,none⟩) 2 2,.slice none 0 0] 77)).grownBy w' (some M)/\
   w'.heap.size=((w.alloc (.cells #[.int .i64 x,.int .i64 0] 3)).alloc (.cells #[.slice (some ⟨w.heap.size,0,none⟩) 2 2,.slice none 0 0] 77)).heap.size/\Kp [3,4,5,6,9,10,11,12,14,15,55,56,57] a a') a w:=by
 dsimp only [Rg,Tryz.f42,Option.bind,zQ,Option.getD,cond,Nat.beq,Option.orElse];have h11:=zJ h11 hs (by decide);have h15:=zJ h15 hs (by decide);have hlt:=hm.lt;obtain⟨w',hrun,r1,r2,r3⟩:=xKR AF (hm.kept ((AA (w:=w.alloc (.cells #[.int .i64 x,.int .i64 0] 3)) (o:= .cells #[.slice (some ⟨w.heap.size,0,none⟩) 2 2,.slice none 0 0] 77) (by rw [zD];omega)).trans (AA hlt)) (fun _ _=>rfl)) x hx (w.heap.size+1);rw [pbx] at hrun
 go_wp2
 exact y9 rfl (y9 rfl (y9 rfl (y9 rfl (y9 rfl (y9 rfl AC)))))
theorem xFY{a:Act}{w:World}(hs:a.tmps.size=153){kb kc:Nat}{ks:List Int}{x:Int}(hlen:ks.length<=1000)(hk:ORow w 3 kb kc 1 ks.length (ks.map (Value.int .i64)))(h12:a.tmps[12]? =some (.slice (some ⟨kb,0,none⟩) ks.length kc))(h15:a.tmps[15]? =some (.int .i64 x)):
 (Rg 16).wp Tryz.prog (fun e a' w' =>e= .normal/\∃kb' kc',ORow w' 3 kb' kc' 1 (ks++ [x]).length ((ks++ [x]).map (Value.int .i64))/\(w.alloc (.cells #[.int .i64 x] 3)).grownBy w' (some kb)/\(kb' =kb\/kb' =(w.alloc (.cells #[.int .i64 x] 3)).heap.size)/\a'.tmps[12]? =some (.slice (some ⟨kb',0,none⟩) (ks++ [x]).length kc')/\Kp [3,4,5,6,9,10,11,14,15,55,56,57] a a') a w:=by
 dsimp only [Rg,Tryz.f42,Option.bind,zQ,Option.getD,cond,Nat.beq,Option.orElse];have h12:=zJ h12 hs (by decide);have h15:=zJ h15 hs (by decide);obtain⟨i0,hi,hz0,hz1,hz2⟩:=info_parts xIV;have hkl:kb<w.heap.size:=by
  obtain⟨_,cur,h,_⟩:=hk;exact(Zg.1 h).1
 have hnew:(w.alloc (.cells #[.int .i64 x] 3)).heap[w.heap.size]? =some (.cells #[.int .i64 x] 3 (0,0)):=by
  show(Array.push _ _)[_]? =_;rw [ZU,Zw rfl]
 have hcell:(w.alloc (.cells #[.int .i64 x] 3)).cell? ⟨w.heap.size,0,none⟩=some (.int .i64 x):=by simp only [World.cell?,hnew];rfl
 go_wp2_with (at_builtin;go_loud (refine xPy (sz:=1) (bytes:=8) _ Tryz.underlying56 rfl _ _ rfl i0 hi hz0 hz1 hz2 rfl (by decide) (by decide) 0 (n:=ks.length) (xs:=ks.map (Value.int .i64)) (v:= .slice (some ⟨kb,0,none⟩) ks.length kc) (by simp [Act.eval,hs]) (hk.kept (AA hkl)).owns ⟨w.heap.size,0,none⟩ 1 1 [.int .i64 x] (by simp [Act.eval,hs]) rfl (fun j u hj=>by(match j,hj with |0,hj=>simp at hj;subst hj;exact hcell)) (by simp [Value.oneCell']) (by omega) (Z9 _) ?_;intro v' w' o1 o2 o3 o4;obtain⟨kb',kc',rfl,_,o5⟩:=ORow.of_owns o1 (by omega)))
 refine⟨kb',kc',by simpa using o5,o2,by simpa [Value.ownBlock] using o4,⟨rfl,rfl⟩,?_⟩;exact y9 rfl (y9 rfl (y9 rfl (y9 rfl (y9 rfl AC))))
theorem xF1{a:Act}{w:World}(hs:a.tmps.size=153){j:Nat}(hj:j<1000)(h57:a.tmps[57]? =some (.int .i64 j)):
 (Rg 19).wp Tryz.prog (fun e a' w' =>e= .normal/\w' =w/\a'.tmps[57]? =some (.int .i64 (j+1:Nat))/\Kp [3,4,5,6,9,10,11,12,55,56] a a') a w:=by
 dsimp only [Rg,Tryz.f42,Option.bind,zQ,Option.getD,cond,Nat.beq,Option.orElse];have h57:=zJ h57 hs (by decide)
 go_wp2
 exact y9 rfl (y9 rfl AC)
end Go.Ab
end
section
namespace Go.Ab
open Go.Proofs Go.RowKit Go.Shelf
set_option maxRecDepth 100000
theorem xFZ{a:Act}{w:World}(hs:a.tmps.size=153){M rb cb k b off nn c:Nat}{bx:Int->Nat}{ks:List Int}{x s n:Int}(hm:PMap w M bx ks)(hx:x∈ks)(hk:k<nn)(h11:a.tmps[11]? =some (.map (some M)))(h15:a.tmps[15]? =some (.int .i64 x))(h10:a.tmps[10]? =some (.int .i64 k))(h14:a.tmps[14]? =some (.pointer (some ⟨rb,0,none⟩)))
 (hbox:w.cell? ⟨bx x,0,none⟩=some (.slice (some ⟨cb,0,none⟩) 2 2)) (hcel:w.cell? ⟨cb,1,none⟩=some (.int .i64 s)) (hrow:w.cell? ⟨rb,0,none⟩=some (.slice (some ⟨b,off,none⟩) nn c)) (hn:w.cell? ⟨b,off+k,none⟩=some (.int .i64 n)) (hfz:w.frozen? ⟨cb,1,none⟩=false):
 (Rg 17).wp Tryz.prog (fun e a' w' =>e= .normal/\w' =w.drew.setCell ⟨cb,1,none⟩ (.int .i64 (IntKind.i64.wrap (s+n)))/\Kp [3,4,5,6,9,10,11,12,14,15,55,56,57] a a') a w:=by
 dsimp only [Rg,Tryz.f42,Option.bind,zQ,Option.getD,cond,Nat.beq,Option.orElse];have h11:=zJ h11 hs (by decide);have h15:=zJ h15 hs (by decide);have h10:=zJ h10 hs (by decide);have h14:=zJ h14 hs (by decide);have hl:=AM AF (w:=w.drew) hm x;rw [Zw hx,pbx] at hl;refine Kx (fun u=>u=w.drew) 21 Jy ?_;show BH _ _ _ _ _ _ 22 _ _ w.drew;have hT:w.drew=w.drew:=rfl;refine zI (v:=(.map (some M))) 0 rfl (by kernel_rfl) (fun _ _ _ h=>by cases h.1) rfl hT (fun w hw=> ?_) ?_
 ·obtain rfl:=hw
  any_goals go_simp
 refine zI (v:=(.int .i64 x)) 1 rfl (by kernel_rfl) (fun _ _ _ h=>by cases h.1) rfl hT (fun w hw=> ?_) ?_
 ·obtain rfl:=hw
  any_goals go_simp
 refine zI (v:=(.pointer (some ⟨bx x,0,none⟩))) 2 rfl (by kernel_rfl) (fun _ _ _ h=>by cases h.1) rfl hT (fun w hw=> ?_) ?_
 ·obtain rfl:=hw
  any_goals go_simp
 refine zI (v:=(.pointer (some ⟨bx x,0,none⟩))) 3 rfl (by kernel_rfl) (fun _ _ _ h=>by cases h.1) rfl hT (fun w hw=> ?_) ?_
 ·obtain rfl:=hw
  any_goals go_simp
 refine zI (v:=(.pointer (some ⟨bx x,0,none⟩))) 4 rfl (by kernel_rfl) (fun _ _ _ h=>by cases h.1) rfl hT (fun w hw=> ?_) ?_
 ·obtain rfl:=hw
  any_goals go_simp
 refine zI (v:=(.slice (some ⟨cb,0,none⟩) 2 2)) 5 rfl (by kernel_rfl) (fun _ _ _ h=>by cases h.1) rfl hT (fun w hw=> ?_) ?_
 ·obtain rfl:=hw
  any_goals go_simp
 refine zI (v:=(.map (some M))) 6 rfl (by kernel_rfl) (fun _ _ _ h=>by cases h.1) rfl hT (fun w hw=> ?_) ?_
 ·obtain rfl:=hw
  any_goals go_simp
 refine zI (v:=(.int .i64 x)) 7 rfl (by kernel_rfl) (fun _ _ _ h=>by cases h.1) rfl hT (fun w hw=> ?_) ?_
 ·obtain rfl:=hw
  any_goals go_simp
 refine zI (v:=(.pointer (some ⟨bx x,0,none⟩))) 8 rfl (by kernel_rfl) (fun _ _ _ h=>by cases h.1) rfl hT (fun w hw=> ?_) ?_
 ·obtain rfl:=hw
  any_goals go_simp
 refine zI (v:=(.pointer (some ⟨bx x,0,none⟩))) 9 rfl (by kernel_rfl) (fun _ _ _ h=>by cases h.1) rfl hT (fun w hw=> ?_) ?_
 ·obtain rfl:=hw
  any_goals go_simp
 refine zI (v:=(.pointer (some ⟨bx x,0,none⟩))) 10 rfl (by kernel_rfl) (fun _ _ _ h=>by cases h.1) rfl hT (fun w hw=> ?_) ?_
 ·obtain rfl:=hw
  any_goals go_simp
 refine zI (v:=(.slice (some ⟨cb,0,none⟩) 2 2)) 11 rfl (by kernel_rfl) (fun _ _ _ h=>by cases h.1) rfl hT (fun w hw=> ?_) ?_
 ·obtain rfl:=hw
  any_goals go_simp
 refine zI (v:=(.pointer (some ⟨cb,1,none⟩))) 12 rfl (by kernel_rfl) (fun _ _ _ h=>by cases h.1) rfl hT (fun w hw=> ?_) ?_
 ·obtain rfl:=hw
  any_goals go_simp
 refine zI (v:=(.int .i64 s)) 13 rfl (by kernel_rfl) (fun _ _ _ h=>by cases h.1) rfl hT (fun w hw=> ?_) ?_
 ·obtain rfl:=hw
  any_goals go_simp
 refine zI (v:=(.pointer (some ⟨rb,0,none⟩))) 14 rfl (by kernel_rfl) (fun _ _ _ h=>by cases h.1) rfl hT (fun w hw=> ?_) ?_
 ·obtain rfl:=hw
  any_goals go_simp
 refine zI (v:=(.slice (some ⟨b,off,none⟩) nn c)) 15 rfl (by kernel_rfl) (fun _ _ _ h=>by cases h.1) rfl hT (fun w hw=> ?_) ?_
 ·obtain rfl:=hw
  any_goals go_simp
 refine zI (v:=(.int .i64 k)) 16 rfl (by kernel_rfl) (fun _ _ _ h=>by cases h.1) rfl hT (fun w hw=> ?_) ?_
 ·obtain rfl:=hw
  any_goals go_simp
 refine zI (v:=(.pointer (some ⟨b,off+k,none⟩))) 17 rfl (by kernel_rfl) (fun _ _ _ h=>by cases h.1) rfl hT (fun w hw=> ?_) ?_
 ·obtain rfl:=hw
  any_goals go_simp
 refine zI (v:=(.int .i64 n)) 18 rfl (by kernel_rfl) (fun _ _ _ h=>by cases h.1) rfl hT (fun w hw=> ?_) ?_
 ·obtain rfl:=hw
  any_goals go_simp
 refine zI (v:=(.int .i64 (IntKind.i64.wrap (s+n)))) 19 rfl (by kernel_rfl) (fun _ _ _ h=>by cases h.1) rfl hT (fun w hw=> ?_) ?_
 ·obtain rfl:=hw
  any_goals go_simp
 refine zI (v:=(.pointer (some ⟨cb,1,none⟩))) 20 rfl (by kernel_rfl) (fun _ _ _ h=>by cases h.1) rfl hT (fun w hw=> ?_) ?_
 ·obtain rfl:=hw
  any_goals go_simp
 refine C5 21 rfl (by kernel_rfl) rfl fun K hK=> ?_
 go_simp
 refine hK _ _ ⟨.inl (by kernel_rfl),Kv (by kernel_rfl) ⟨rfl,rfl,?_⟩ _⟩
 iterate 21 refine y9 rfl ?_
 exact AC
theorem xF0{a:Act}{w:World}(hs:a.tmps.size=153){M rb fn fc rn rc:Nat}{fp rp:Option Addr}{bx:Int->Nat}{ks:List Int}{x:Int}{os:List Org}(hm:PMap w M bx ks)(hx:x∈ks)(h11:a.tmps[11]? =some (.map (some M)))(h15:a.tmps[15]? =some (.int .i64 x))(h14:a.tmps[14]? =some (.pointer (some ⟨rb,0,none⟩)))
 (hbl:bx x<w.heap.size) (hrl:rb<w.heap.size) (hbox:w.cell? ⟨bx x,1,none⟩=some (.slice fp fn fc)) (hrow:w.cell? ⟨rb,1,none⟩=some (.slice rp rn rc)) (hfz:w.frozen? ⟨bx x,1,none⟩=false)
 (hU:Calls Tryz.prog 99 #[.slice fp fn fc,.slice rp rn rc] w.drew fun e W' =>∃br cap,e= .returned (.slice (some ⟨br,0,none⟩) os.length cap)/\Below w.heap.size w.drew W' /\w.heap.size<=br/\OrgRow W' br cap os):
 (Rg 18).wp Tryz.prog (fun e a' w' =>e= .normal/\(∃br cap W',Below w.heap.size w.drew W' /\w.heap.size<=br/\OrgRow W' br cap os/\w' =W'.setCell ⟨bx x,1,none⟩ (.slice (some ⟨br,0,none⟩) os.length cap))/\Kp [3,4,5,6,9,10,11,12,14,15,55,56,57] a a') a w:=by
 dsimp only [Rg,Tryz.f42,Option.bind,zQ,Option.getD,cond,Nat.beq,Option.orElse];have h11:=zJ h11 hs (by decide);have h15:=zJ h15 hs (by decide);have h14:=zJ h14 hs (by decide);refine Kx (fun u=>PMap u M bx ks/\u.cell? ⟨bx x,1,none⟩=some (.slice fp fn fc)/\u.cell? ⟨rb,1,none⟩=some (.slice rp rn rc)) 14 Jy ?_;show BH _ _ _ _ _ _ 15 _ _ w.drew;have hT:PMap w.drew M bx ks/\w.drew.cell? ⟨bx x,1,none⟩=some (.slice fp fn fc)/\w.drew.cell? ⟨rb,1,none⟩=some (.slice rp rn rc):=⟨hm,hbox,hrow⟩;refine zI (v:=(.map (some M))) 0 rfl (by kernel_rfl) (fun _ _ _ h=>by cases h.1) rfl hT (fun w hw=> ?_) ?_
 ·obtain⟨t1,t2,t3⟩:=hw;have hl:=AM AF t1 x;rw [Zw hx,pbx] at hl
  any_goals go_simp
 refine zI (v:=(.int .i64 x)) 1 rfl (by kernel_rfl) (fun _ _ _ h=>by cases h.1) rfl hT (fun w hw=> ?_) ?_
 ·obtain⟨t1,t2,t3⟩:=hw;have hl:=AM AF t1 x;rw [Zw hx,pbx] at hl
  any_goals go_simp
 refine zI (v:=(.pointer (some ⟨bx x,0,none⟩))) 2 rfl (by kernel_rfl) (fun _ _ _ h=>by cases h.1) rfl hT (fun w hw=> ?_) ?_
 ·obtain⟨t1,t2,t3⟩:=hw;have hl:=AM AF t1 x;rw [Zw hx,pbx] at hl
  any_goals go_simp
 refine zI (v:=(.map (some M))) 3 rfl (by kernel_rfl) (fun _ _ _ h=>by cases h.1) rfl hT (fun w hw=> ?_) ?_
 ·obtain⟨t1,t2,t3⟩:=hw;have hl:=AM AF t1 x;rw [Zw hx,pbx] at hl
  any_goals go_simp
 refine zI (v:=(.int .i64 x)) 4 rfl (by kernel_rfl) (fun _ _ _ h=>by cases h.1) rfl hT (fun w hw=> ?_) ?_
 ·obtain⟨t1,t2,t3⟩:=hw;have hl:=AM AF t1 x;rw [Zw hx,pbx] at hl
  any_goals go_simp
 refine zI (v:=(.pointer (some ⟨bx x,0,none⟩))) 5 rfl (by kernel_rfl) (fun _ _ _ h=>by cases h.1) rfl hT (fun w hw=> ?_) ?_
 ·obtain⟨t1,t2,t3⟩:=hw;have hl:=AM AF t1 x;rw [Zw hx,pbx] at hl
  any_goals go_simp
 refine zI (v:=(.pointer (some ⟨bx x,0,none⟩))) 6 rfl (by kernel_rfl) (fun _ _ _ h=>by cases h.1) rfl hT (fun w hw=> ?_) ?_
 ·obtain⟨t1,t2,t3⟩:=hw;have hl:=AM AF t1 x;rw [Zw hx,pbx] at hl
  any_goals go_simp
 refine zI (v:=(.pointer (some ⟨bx x,1,none⟩))) 7 rfl (by kernel_rfl) (fun _ _ _ h=>by cases h.1) rfl hT (fun w hw=> ?_) ?_
 ·obtain⟨t1,t2,t3⟩:=hw;have hl:=AM AF t1 x;rw [Zw hx,pbx] at hl
  any_goals go_simp
 refine zI (v:=(.slice fp fn fc)) 8 rfl (by kernel_rfl) (fun _ _ _ h=>by cases h.1) rfl hT (fun w hw=> ?_) ?_
 ·obtain⟨t1,t2,t3⟩:=hw;have hl:=AM AF t1 x;rw [Zw hx,pbx] at hl
  any_goals go_simp
 refine zI (v:=(.pointer (some ⟨rb,1,none⟩))) 9 rfl (by kernel_rfl) (fun _ _ _ h=>by cases h.1) rfl hT (fun w hw=> ?_) ?_
 ·obtain⟨t1,t2,t3⟩:=hw;have hl:=AM AF t1 x;rw [Zw hx,pbx] at hl
  any_goals go_simp
 refine zI (v:=(.slice rp rn rc)) 10 rfl (by kernel_rfl) (fun _ _ _ h=>by cases h.1) rfl hT (fun w hw=> ?_) ?_
 ·obtain⟨t1,t2,t3⟩:=hw;have hl:=AM AF t1 x;rw [Zw hx,pbx] at hl
  any_goals go_simp
 refine C5 11 rfl (by kernel_rfl) rfl fun K hK=> ?_
 go_simp
 go_at_call 99
 refine hU.mono ?_;rintro e W' ⟨br,cap,rfl,hb,hbr,hor⟩;have kb:∀b,b<w.heap.size->W'.heap[b]? =w.heap[b]? :=fun b hb' =>hb.block b hb';have c1:W'.cell? ⟨bx x,1,none⟩=some (.slice fp fn fc):=by rw [<-hbox];simp only [World.cell?,kb _ hbl]
 have c2:W'.cell? ⟨rb,1,none⟩=some (.slice rp rn rc):=by rw [<-hrow];simp only [World.cell?,kb _ hrl]
 have c3:W'.frozen? ⟨bx x,1,none⟩=false:=by rw [<-hfz];simp only [World.frozen?,kb _ hbl]
 have hT' :PMap W' M bx ks/\W'.cell? ⟨bx x,1,none⟩=some (.slice fp fn fc)/\W'.cell? ⟨rb,1,none⟩=some (.slice rp rn rc):=⟨hm.kept (kb _ hm.lt) (fun _ _=>rfl),c1,c2⟩;refine hK _ _ ⟨.inr hT',?_⟩;refine C5 12 rfl (by kernel_rfl) rfl fun K hK=> ?_
 go_simp
 refine hK _ _ ⟨.inr hT',?_⟩;refine C5 13 rfl (by kernel_rfl) rfl fun K hK=> ?_
 go_simp
 refine hK _ _ ⟨.inr hT',?_⟩;refine C5 14 rfl (by kernel_rfl) rfl fun K hK=> ?_
 go_simp
 refine hK _ _ ⟨.inl (by kernel_rfl),Kv (by kernel_rfl) ⟨rfl,⟨br,cap,W',hb,hbr,hor,rfl⟩,?_⟩ _⟩
 iterate 14 refine y9 rfl ?_
 exact AC
end Go.Ab
end
section
namespace Go.Ab
open Go.Proofs Go.RowKit Go.Shelf
set_option maxRecDepth 100000
theorem xPv(a b c:Int)(w:World):Calls Tryz.prog 90 #[.int .i64 a,.int .i64 b,.int .i64 c] w fun e w' =>e= .returned (.bool (decide (b<=a)&&decide (a<=c)))/\w' =w:=by
 go_enter Tryz.func90,Tryz.ntmps90
 go_wp2
 ·rename_i h
  go_ret
  rw [Zz h,ZN];exact⟨rfl,rfl⟩
 ·rename_i h
  go_ret
  rw [Zy (by omega),ZQ];exact⟨rfl,rfl⟩
theorem xI2(n:Int)(w:World):Calls Tryz.prog 88 #[.int .i64 n] w fun e w' =>e= .returned (.bool (wR n))/\w' =w:=by
 have hs:∀(m:Int) (f:Ending->World->Prop),f (.returned (.bool (wR m))) w->Calls Tryz.prog 90 #[.int .i64 m,.int .i64 (-1000000000),.int .i64 1000000000] w f:=fun m f hf=>(xPv m _ _ w).mono fun e w' ⟨he,hw⟩=>by rw [he,hw];exact hf
 go_enter Tryz.func88,Tryz.ntmps88
 go_wp2_with (go_at_call 90;refine hs _ _ ?_)
 go_ret
 exact⟨rfl,rfl⟩
theorem KJ [Inhabited Lb]{fn:Func}{tmps:Array Value}{w:World}{t b:Nat}{u0 u1 u2 u3 u4 u5 u6:Value}{ty:TypeId}(hr:fn.results= #[.cell t 30])(ht:tmps.getD t undef= .pointer (some ⟨b,0,none⟩))(hb:w.heap[b]? =some (.cells #[u0,u1,u2,u3,u4,u5,u6] ty (0,0))):
 (results fn tmps).run Tryz.prog w= .ok (.agg #[u0,u1,u2,u3,u4,u5,u6]) w:=by
 refine qA (rs:=[.cell t 30]) (vs:=[.agg #[u0,u1,u2,u3,u4,u5,u6]]) (by rw [hr]) rfl fun i x v hx hv=> ?_
 match i,hx,hv with
 |0,hx,hv=>
  cases hx;cases hv;have c0:w.cell? ⟨b,0,none⟩=some u0:=by simp only [World.cell?,hb];rfl
  have c1:w.cell? ⟨b,1,none⟩=some u1:=by simp only [World.cell?,hb];rfl
  have c2:w.cell? ⟨b,2,none⟩=some u2:=by simp only [World.cell?,hb];rfl
  have c3:w.cell? ⟨b,3,none⟩=some u3:=by simp only [World.cell?,hb];rfl
  have c4:w.cell? ⟨b,4,none⟩=some u4:=by simp only [World.cell?,hb];rfl
  have c5:w.cell? ⟨b,5,none⟩=some u5:=by simp only [World.cell?,hb];rfl
  have c6:w.cell? ⟨b,6,none⟩=some u6:=by simp only [World.cell?,hb];rfl
  unfold kH;simp only [ht]
  go_simp
theorem xEE [Inhabited Lb](w:World):Calls Tryz.prog 31 #[.int .i64 5] w fun e w' =>e= .returned (.agg #[.int .i64 6,.int .i64 5,.int .i64 0,.string ⟨#[]⟩,.slice none 0 0,.slice none 0 0,.slice none 0 0])/\Below w.heap.size w w' :=by
 go_enter Tryz.func31,Tryz.ntmps31
 go_wp2
 refine bodyPost_ret (KJ rfl rfl (by show(Array.push _ _)[_]? =_;rw [ZU,Zw rfl])) rfl ?_;exact⟨rfl,(Below.refl _ _).alloc (Zi _) _⟩
theorem xF2{a:Act}{w:World}(hs:a.tmps.size=153){R:World->Prop}{v:Value}(h12:a.tmps[12]? =some v)(hS:Calls Tryz.prog 100 #[v] w fun e w' =>e= .returned (.tuple #[])/\R w'):
 (Rg 20).wp Tryz.prog (fun e a' w' =>e= .normal/\R w' /\Kp [3,4,5,6,9,10,11,12] a a') a w:=by
 dsimp only [Rg,Tryz.f42,Option.bind,zQ,Option.getD,cond,Nat.beq,Option.orElse];have h12:=zJ h12 hs (by decide)
 go_wp2_with (go_at_call 100;refine hS.mono ?_;rintro e W' ⟨rfl,hR⟩)
 exact⟨hR,y9 rfl (y9 rfl AC)⟩
theorem xF3{a:Act}{w:World}(hs:a.tmps.size=153){B3 B4:Nat}{ta tb:ByteArray}(h3:a.tmps[3]? =some (.pointer (some ⟨B3,0,none⟩)))(h4:a.tmps[4]? =some (.pointer (some ⟨B4,0,none⟩)))(hc:w.cell? ⟨B3,3,none⟩=some (.string ta))(hd:w.cell? ⟨B4,3,none⟩=some (.string tb)):
 (Rg 21).wp Tryz.prog (fun e a' w' =>e= .normal/\w' =(w.alloc (.cells #[.string ta,.string tb] 9)).alloc (.cells #[.int .i64 5,.int .i64 0,.int .i64 0,.string ⟨#[]⟩,.slice none 0 0,.slice (some ⟨w.heap.size,0,none⟩) 2 2,.slice none 0 0] 30)/\a'.tmps[16]? =some (.pointer (some ⟨w.heap.size+1,0,none⟩))/\Kp [3,4,5,6,9,10,11,12] a a') a w:=by
 dsimp only [Rg,Tryz.f42,Option.bind,zQ,Option.getD,cond,Nat.beq,Option.orElse];have h3:=zJ h3 hs (by decide);have h4:=zJ h4 hs (by decide)
 go_wp2
 iterate 7 refine y9 rfl ?_
 exact AC
theorem xF4{a:Act}{w:World}(hs:a.tmps.size=153){p:Option Addr}{n c:Nat}(h12:a.tmps[12]? =some (.slice p n c)):
 (Rg 22).wp Tryz.prog (fun e a' w' =>e= .normal/\w' =w/\a'.tmps[124]? =some (.slice p n c)/\a'.tmps[125]? =some (.int .i64 n)/\a'.tmps[126]? =some (.int .i64 (0:Nat))/\Kp [3,4,5,6,9,10,11,12,16] a a') a w:=by
 dsimp only [Rg,Tryz.f42,Option.bind,zQ,Option.getD,cond,Nat.beq,Option.orElse];have h12:=zJ h12 hs (by decide)
 go_wp2
 exact y9 rfl (y9 rfl (y9 rfl AC))
theorem xF5{a:Act}{w:World}(hs:a.tmps.size=153){j n:Nat}(h56:a.tmps[125]? =some (.int .i64 n))(h57:a.tmps[126]? =some (.int .i64 j)):(Rg 23).wp Tryz.prog (fun e a' w' =>e= .normal/\w' =w/\a'.tmps[127]? =some (.bool (decide (j<n)))/\Kp [3,4,5,6,9,10,11,12,16,124,125,126] a a') a w:=by
 dsimp only [Rg,Tryz.f42,Option.bind,zQ,Option.getD,cond,Nat.beq,Option.orElse];have h56:=zJ h56 hs (by decide);have h57:=zJ h57 hs (by decide)
 go_wp2
 exact y9 rfl AC
theorem xF6{a:Act}{w:World}(hs:a.tmps.size=153){j n b c:Nat}(hj:j<n){x:Int}(h124:a.tmps[124]? =some (.slice (some ⟨b,0,none⟩) n c))(h126:a.tmps[126]? =some (.int .i64 j))(hc:w.cell? ⟨b,j,none⟩=some (.int .i64 x)):
 (Rg 24).wp Tryz.prog (fun e a' w' =>e= .normal/\w' =w/\a'.tmps[18]? =some (.int .i64 x)/\Kp [3,4,5,6,9,10,11,12,16,124,125,126] a a') a w:=by
 dsimp only [Rg,Tryz.f42,Option.bind,zQ,Option.getD,cond,Nat.beq,Option.orElse];have h124:=zJ h124 hs (by decide);have h126:=zJ h126 hs (by decide);have hc0:w.cell? ⟨b,0+j,none⟩=some (.int .i64 x):=by rw [Zj];exact hc
 go_wp2
 exact y9 (v:= .int .i64 x) rfl (y9 rfl (y9 rfl AC))
theorem xF7{a:Act}{w:World}(hs:a.tmps.size=153){M cb:Nat}{bx:Int->Nat}{ks:List Int}{x s:Int}(hm:PMap w M bx ks)(hx:x∈ks)(h11:a.tmps[11]? =some (.map (some M)))(h18:a.tmps[18]? =some (.int .i64 x))
 (hbox:w.cell? ⟨bx x,0,none⟩=some (.slice (some ⟨cb,0,none⟩) 2 2)) (hcel:w.cell? ⟨cb,1,none⟩=some (.int .i64 s)):
 (Rg 25).wp Tryz.prog (fun e a' w' =>e= .normal/\w' =w/\a'.tmps[139]? =some (.bool (!wR s))/\Kp [3,4,5,6,9,10,11,12,16,18,124,125,126] a a') a w:=by
 dsimp only [Rg,Tryz.f42,Option.bind,zQ,Option.getD,cond,Nat.beq,Option.orElse];have h11:=zJ h11 hs (by decide);have h18:=zJ h18 hs (by decide);have hl:=AM AF hm x;rw [Zw hx,pbx] at hl
 go_wp2_with (go_at_call 88;refine(xI2 _ _).mono ?_;rintro e W' ⟨rfl,rfl⟩)
 iterate 10 refine y9 rfl ?_
 exact AC
theorem A8{w:World}{b o:Nat}{cs cs' :Array Value}{ty:TypeId}{v:Value}(h:w.heap[b]? =some (.cells cs ty (0,0)))(e:cs.setIfInBounds o v=cs'):Chg w (w.setCell ⟨b,o,none⟩ v) b (.cells cs' ty (0,0)):=by
 subst e;refine⟨rfl,rfl,rfl,by simp [World.setCell],?_,fun k hk=>Below.heap_setCell w _ v k hk⟩;simp [World.setCell,Yo,h]
theorem Chg.trans{w w1 w2:World}{b:Nat}{o1 o2:Obj}(h:Chg w w1 b o1)(g:Chg w1 w2 b o2):Chg w w2 b o2:=
 ⟨g.os.trans h.os,g.tape.trans h.tape,g.output.trans h.output,g.size.trans h.size,g.at',fun k hk=>(g.other k hk).trans (h.other k hk)⟩
theorem xF8 [Inhabited Lb]{a:Act}{w:World}(hs:a.tmps.size=153){B6:Nat}{u0 u1 u2 u3 u4 u5 u6:Value}{ty:TypeId}(h6:a.tmps[6]? =some (.pointer (some ⟨B6,0,none⟩)))(hb:w.heap[B6]? =some (.cells #[u0,u1,u2,u3,u4,u5,u6] ty (0,0))):
 (Rg 26).wp Tryz.prog (fun e a' w' =>e= .normal/\(∃W,Below w.heap.size w W/\Chg W w' B6 (.cells #[.int .i64 6,.int .i64 5,.int .i64 0,.string ⟨#[]⟩,.slice none 0 0,.slice none 0 0,.slice none 0 0] ty (0,0)))/\Kp [3,4,5,6,9,10,11,12,16] a a') a w:=by
 dsimp only [Rg,Tryz.f42,Option.bind,zQ,Option.getD,cond,Nat.beq,Option.orElse];have h6:=zJ h6 hs (by decide);have hbl:B6<w.heap.size:=(Zg.1 hb).1
 go_wp2_with (go_at_call 31;refine(xEE _).mono ?_;rintro e W ⟨rfl,hW⟩;have hB:W.heap[B6]? =some (.cells #[u0,u1,u2,u3,u4,u5,u6] ty (0,0)):=(hW.block _ hbl).trans hb;have f:∀o,W.frozen? ⟨B6,o,none⟩=false:=(fun o=>by simp [World.frozen?,hB]);have c0:W.cell? ⟨B6,0,none⟩=some u0:=(by simp only [World.cell?,hB];rfl);have c1:W.cell? ⟨B6,1,none⟩=some u1:=(by simp only [World.cell?,hB];rfl);have c2:W.cell? ⟨B6,2,none⟩=some u2:=(by simp only [World.cell?,hB];rfl);have c3:W.cell? ⟨B6,3,none⟩=some u3:=(by simp only [World.cell?,hB];rfl);have c4:W.cell? ⟨B6,4,none⟩=some u4:=(by simp only [World.cell?,hB];rfl);have c5:W.cell? ⟨B6,5,none⟩=some u5:=(by simp only [World.cell?,hB];rfl);have c6:W.cell? ⟨B6,6,none⟩=some u6:=(by simp only [World.cell?,hB];rfl))
 refine⟨⟨W,hW,?_⟩,y9 rfl AC⟩;have g0:=(A8 (o:=0) (v:= .int .i64 6) hB (by simp):Chg _ _ B6 (.cells #[.int .i64 6,u1,u2,u3,u4,u5,u6] ty (0,0)));have g1:=g0.trans (A8 (o:=1) (v:= .int .i64 5) g0.at' (by simp):Chg _ _ B6 (.cells #[.int .i64 6,.int .i64 5,u2,u3,u4,u5,u6] ty (0,0)));have g2:=g1.trans (A8 (o:=2) (v:= .int .i64 0) g1.at' (by simp):Chg _ _ B6 (.cells #[.int .i64 6,.int .i64 5,.int .i64 0,u3,u4,u5,u6] ty (0,0)));have g3:=g2.trans (A8 (o:=3) (v:= .string ⟨#[]⟩) g2.at' (by simp):Chg _ _ B6 (.cells #[.int .i64 6,.int .i64 5,.int .i64 0,.string ⟨#[]⟩,u4,u5,u6] ty (0,0)));have g4:=g3.trans (A8 (o:=4) (v:= .slice none 0 0) g3.at' (by simp):Chg _ _ B6 (.cells #[.int .i64 6,.int .i64 5,.int .i64 0,.string ⟨#[]⟩,.slice none 0 0,u5,u6] ty (0,0)));have g5:=g4.trans (A8 (o:=5) (v:= .slice none 0 0) g4.at' (by simp):Chg _ _ B6 (.cells #[.int .i64 6,.int .i64 5,.int .i64 0,.string ⟨#[]⟩,.slice none 0 0,.slice none 0 0,u6] ty (0,0)));exact g5.trans (A8 (o:=6) (v:= .slice none 0 0) g5.at' (by simp):Chg _ _ B6 (.cells #[.int .i64 6,.int .i64 5,.int .i64 0,.string ⟨#[]⟩,.slice none 0 0,.slice none 0 0,.slice none 0 0] ty (0,0)))
theorem xGa{a:Act}{w:World}(hs:a.tmps.size=153){j:Nat}(hj:j<1000)(h57:a.tmps[126]? =some (.int .i64 j)):
 (Rg 28).wp Tryz.prog (fun e a' w' =>e= .normal/\w' =w/\a'.tmps[126]? =some (.int .i64 (j+1:Nat))/\Kp [3,4,5,6,9,10,11,12,16,124,125] a a') a w:=by
 dsimp only [Rg,Tryz.f42,Option.bind,zQ,Option.getD,cond,Nat.beq,Option.orElse];have h57:=zJ h57 hs (by decide)
 go_wp2
 exact y9 rfl (y9 rfl AC)
theorem xGb{a:Act}{w:World}(hs:a.tmps.size=153){B6 ob:Nat}{u0 u1 u2 u3 u4 u5 u6:Value}{v1 v2 v3:Int}{v4:ByteArray}{p1 p2 p3:Option Addr}{n1 n2 n3 d1 d2 d3:Nat}{ty ty' :TypeId}(h6:a.tmps[6]? =some (.pointer (some ⟨B6,0,none⟩)))(h16:a.tmps[16]? =some (.pointer (some ⟨ob,0,none⟩)))(hB:w.heap[B6]? =some (.cells #[u0,u1,u2,u3,u4,u5,u6] ty (0,0)))
 (hO:w.heap[ob]? =some (.cells #[.int .i64 v1,.int .i64 v2,.int .i64 v3,.string v4,.slice p1 n1 d1,.slice p2 n2 d2,.slice p3 n3 d3] ty' (0,0))):
 (Rg 29).wp Tryz.prog (fun e a' w' =>e= .normal/\Chg w w' B6 (.cells #[.int .i64 v1,.int .i64 v2,.int .i64 v3,.string v4,.slice p1 n1 d1,.slice p2 n2 d2,.slice p3 n3 d3] ty (0,0))/\Kp [3,4,5,6,9,10,11,12,16] a a') a w:=by
 dsimp only [Rg,Tryz.f42,Option.bind,zQ,Option.getD,cond,Nat.beq,Option.orElse];have h6:=zJ h6 hs (by decide);have h16:=zJ h16 hs (by decide);have f:∀o,w.frozen? ⟨B6,o,none⟩=false:=fun o=>by simp [World.frozen?,hB]
 have c0:w.cell? ⟨B6,0,none⟩=some u0:=by simp only [World.cell?,hB];rfl
 have c1:w.cell? ⟨B6,1,none⟩=some u1:=by simp only [World.cell?,hB];rfl
 have c2:w.cell? ⟨B6,2,none⟩=some u2:=by simp only [World.cell?,hB];rfl
 have c3:w.cell? ⟨B6,3,none⟩=some u3:=by simp only [World.cell?,hB];rfl
 have c4:w.cell? ⟨B6,4,none⟩=some u4:=by simp only [World.cell?,hB];rfl
 have c5:w.cell? ⟨B6,5,none⟩=some u5:=by simp only [World.cell?,hB];rfl
 have c6:w.cell? ⟨B6,6,none⟩=some u6:=by simp only [World.cell?,hB];rfl
 have e0:w.cell? ⟨ob,0,none⟩=some (.int .i64 v1):=by simp only [World.cell?,hO];rfl
 have e1:w.cell? ⟨ob,1,none⟩=some (.int .i64 v2):=by simp only [World.cell?,hO];rfl
 have e2:w.cell? ⟨ob,2,none⟩=some (.int .i64 v3):=by simp only [World.cell?,hO];rfl
 have e3:w.cell? ⟨ob,3,none⟩=some (.string v4):=by simp only [World.cell?,hO];rfl
 have e4:w.cell? ⟨ob,4,none⟩=some (.slice p1 n1 d1):=by simp only [World.cell?,hO];rfl
 have e5:w.cell? ⟨ob,5,none⟩=some (.slice p2 n2 d2):=by simp only [World.cell?,hO];rfl
 have e6:w.cell? ⟨ob,6,none⟩=some (.slice p3 n3 d3):=by simp only [World.cell?,hO];rfl
 go_wp2
 refine⟨?_,y9 rfl AC⟩;have g0:=(A8 (o:=0) (v:= .int .i64 v1) hB (by simp):Chg _ _ B6 (.cells #[.int .i64 v1,u1,u2,u3,u4,u5,u6] ty (0,0)));have g1:=g0.trans (A8 (o:=1) (v:= .int .i64 v2) g0.at' (by simp):Chg _ _ B6 (.cells #[.int .i64 v1,.int .i64 v2,u2,u3,u4,u5,u6] ty (0,0)));have g2:=g1.trans (A8 (o:=2) (v:= .int .i64 v3) g1.at' (by simp):Chg _ _ B6 (.cells #[.int .i64 v1,.int .i64 v2,.int .i64 v3,u3,u4,u5,u6] ty (0,0)));have g3:=g2.trans (A8 (o:=3) (v:= .string v4) g2.at' (by simp):Chg _ _ B6 (.cells #[.int .i64 v1,.int .i64 v2,.int .i64 v3,.string v4,u4,u5,u6] ty (0,0)));have g4:=g3.trans (A8 (o:=4) (v:= .slice p1 n1 d1) g3.at' (by simp):Chg _ _ B6 (.cells #[.int .i64 v1,.int .i64 v2,.int .i64 v3,.string v4,.slice p1 n1 d1,u5,u6] ty (0,0)));have g5:=g4.trans (A8 (o:=5) (v:= .slice p2 n2 d2) g4.at' (by simp):Chg _ _ B6 (.cells #[.int .i64 v1,.int .i64 v2,.int .i64 v3,.string v4,.slice p1 n1 d1,.slice p2 n2 d2,u6] ty (0,0)));exact g5.trans (A8 (o:=6) (v:= .slice p3 n3 d3) g5.at' (by simp):Chg _ _ B6 (.cells #[.int .i64 v1,.int .i64 v2,.int .i64 v3,.string v4,.slice p1 n1 d1,.slice p2 n2 d2,.slice p3 n3 d3] ty (0,0)))
end Go.Ab
end
section
namespace Go.Ab
open Go.Proofs Go.RowKit Go.Shelf
set_option maxRecDepth 100000
theorem xF9{a:Act}{w:World}(hs:a.tmps.size=153){M ob rn rc n1 d1 n2 d2 base:Nat}{rp p1 p2:Option Addr}{bx:Int->Nat}{ks:List Int}{x:Int}{xs:List Value}(hm:PMap w M bx ks)(hx:x∈ks)(h11:a.tmps[11]? =some (.map (some M)))(h18:a.tmps[18]? =some (.int .i64 x))(h16:a.tmps[16]? =some (.pointer (some ⟨ob,0,none⟩)))
 (hlen:rn<=1000) (hbl:bx x<base) (hol:ob<base) (hMl:M<base) (hbase:base<=w.heap.size) (hrow:w.cell? ⟨ob,6,none⟩=some (.slice rp rn rc)) (hfz:w.frozen? ⟨ob,6,none⟩=false) (hb0:w.cell? ⟨bx x,0,none⟩=some (.slice p1 n1 d1)) (hb1:w.cell? ⟨bx x,1,none⟩=some (.slice p2 n2 d2))
 (hown:w.ownsRow base 77 2 (.slice rp rn rc) rn xs):
 (Rg 27).wp Tryz.prog (fun e a' w' =>e= .normal/\(∃v' W',W'.ownsRow base 77 2 v' (rn+1) (xs++ [.slice p1 n1 d1,.slice p2 n2 d2])/\Below base w W' /\w' =W'.setCell ⟨ob,6,none⟩ v')/\Kp [3,4,5,6,9,10,11,12,16,124,125,126] a a') a w:=by
 dsimp only [Rg,Tryz.f42,Option.bind,zQ,Option.getD,cond,Nat.beq,Option.orElse];have h11:=zJ h11 hs (by decide);have h18:=zJ h18 hs (by decide);have h16:=zJ h16 hs (by decide);obtain⟨i0,hi,hz0,hz1,hz2⟩:=info_parts xIW
 have keep:∀u:World,(∀b,b<base->u.heap[b]? =w.heap[b]?)->PMap u M bx ks/\u.cell? ⟨ob,6,none⟩=some (.slice rp rn rc)/\u.cell? ⟨bx x,0,none⟩=some (.slice p1 n1 d1)/\u.cell? ⟨bx x,1,none⟩=some (.slice p2 n2 d2):=fun u hu=>
  ⟨hm.kept (hu _ hMl) (fun _ _=>rfl),by rw [<-hrow];simp only [World.cell?,hu _ hol],by rw [<-hb0];simp only [World.cell?,hu _ hbl],by rw [<-hb1];simp only [World.cell?,hu _ hbl]⟩
 refine Kx (fun u=>PMap u M bx ks/\u.cell? ⟨ob,6,none⟩=some (.slice rp rn rc)/\u.cell? ⟨bx x,0,none⟩=some (.slice p1 n1 d1)/\u.cell? ⟨bx x,1,none⟩=some (.slice p2 n2 d2)) 10 Jy ?_;show BH _ _ _ _ _ _ 11 _ _ w.drew;have hT:=keep w.drew fun _ _=>rfl;refine zI (v:=(.pointer (some ⟨ob,6,none⟩))) 0 rfl (by kernel_rfl) (fun _ _ _ h=>by cases h.1) rfl hT (fun w hw=> ?_) ?_
 ·obtain⟨t1,t2,t3,t4⟩:=hw;have hl:=AM AF t1 x;rw [Zw hx,pbx] at hl
  any_goals go_simp
 refine zI (v:=(.slice rp rn rc)) 1 rfl (by kernel_rfl) (fun _ _ _ h=>by cases h.1) rfl hT (fun w hw=> ?_) ?_
 ·obtain⟨t1,t2,t3,t4⟩:=hw;have hl:=AM AF t1 x;rw [Zw hx,pbx] at hl
  any_goals go_simp
 refine zI (v:=(.map (some M))) 2 rfl (by kernel_rfl) (fun _ _ _ h=>by cases h.1) rfl hT (fun w hw=> ?_) ?_
 ·obtain⟨t1,t2,t3,t4⟩:=hw;have hl:=AM AF t1 x;rw [Zw hx,pbx] at hl
  any_goals go_simp
 refine zI (v:=(.int .i64 x)) 3 rfl (by kernel_rfl) (fun _ _ _ h=>by cases h.1) rfl hT (fun w hw=> ?_) ?_
 ·obtain⟨t1,t2,t3,t4⟩:=hw;have hl:=AM AF t1 x;rw [Zw hx,pbx] at hl
  any_goals go_simp
 refine zI (v:=(.pointer (some ⟨bx x,0,none⟩))) 4 rfl (by kernel_rfl) (fun _ _ _ h=>by cases h.1) rfl hT (fun w hw=> ?_) ?_
 ·obtain⟨t1,t2,t3,t4⟩:=hw;have hl:=AM AF t1 x;rw [Zw hx,pbx] at hl
  any_goals go_simp
 refine zI (v:=(.pointer (some ⟨bx x,0,none⟩))) 5 rfl (by kernel_rfl) (fun _ _ _ h=>by cases h.1) rfl hT (fun w hw=> ?_) ?_
 ·obtain⟨t1,t2,t3,t4⟩:=hw;have hl:=AM AF t1 x;rw [Zw hx,pbx] at hl
  any_goals go_simp
 refine zI (v:=(.agg #[.slice p1 n1 d1,.slice p2 n2 d2])) 6 rfl (by kernel_rfl) (fun _ _ _ h=>by cases h.1) rfl hT (fun w hw=> ?_) ?_
 ·obtain⟨t1,t2,t3,t4⟩:=hw;have hl:=AM AF t1 x;rw [Zw hx,pbx] at hl
  any_goals go_simp
 refine C5 7 rfl (by kernel_rfl) rfl fun K hK=> ?_
 go_simp
 have al:∀b,b<base->(w.drew.alloc (.cells #[.slice p1 n1 d1,.slice p2 n2 d2] 77)).heap[b]? =w.heap[b]? :=fun b hb=>AA (w:=w.drew) (by show b<w.heap.size;omega);have hnew:(w.drew.alloc (.cells #[.slice p1 n1 d1,.slice p2 n2 d2] 77)).heap[w.heap.size]? =some (.cells #[.slice p1 n1 d1,.slice p2 n2 d2] 77 (0,0)):=by
  show(Array.push _ _)[_]? =_;rw [ZU,Zw (show w.heap.size=w.drew.heap.size from rfl)]
 have n0:(w.drew.alloc (.cells #[.slice p1 n1 d1,.slice p2 n2 d2] 77)).cell? ⟨w.heap.size,0,none⟩=some (.slice p1 n1 d1):=by simp only [World.cell?,hnew];rfl
 have n1' :(w.drew.alloc (.cells #[.slice p1 n1 d1,.slice p2 n2 d2] 77)).cell? ⟨w.heap.size,1,none⟩=some (.slice p2 n2 d2):=by simp only [World.cell?,hnew];rfl
 refine hK _ _ ⟨.inr (keep _ al),?_⟩;refine C5 8 rfl (by kernel_rfl) rfl fun K hK=> ?_;refine xBg (sz:=2) (bytes:=48) _ Tryz.underlying28 _ _ rfl i0 hi hz0 hz1 hz2 rfl (by decide) (by decide) base (v:= .slice rp rn rc) (n:=rn) (xs:=xs) (by simp [Act.eval,Act.put,hs]) (hown.alloc _) ⟨w.heap.size,0,none⟩ 1 1 [.slice p1 n1 d1,.slice p2 n2 d2] (by simp [Act.eval,Act.put,hs]) rfl (fun j u hj=> ?_) (by simp [Value.oneCell']) (by omega) (by show base<=(Array.push w.heap _).size;rw [YC];omega) ?_
 ·match j,hj with
  |0,hj=>simp at hj;subst hj;exact n0
  |1,hj=>simp at hj;subst hj;exact n1'
  |j+2,hj=>simp at hj
 intro v' W' o1 o2 o3 o4;have ob1:∀g,(Value.slice rp rn rc).ownBlock=some g->base<=g:=by
  intro g hg;rcases hown.2 with ⟨e,_⟩|⟨g',cap,cur,e,h2,_⟩
  ·rw [e] at hg;cases hg
  ·rw [e] at hg;cases hg;exact h2
 have kb:∀b,b<base->W'.heap[b]? =w.heap[b]? :=fun b hb=>(o2.block b (by show b<(Array.push w.heap _).size;rw [YC];omega) (fun e=>by have:=ob1 b e.symm;omega)).trans (al b hb);have hT' :=keep W' kb;have hz:w.heap.size+1<=W'.heap.size:=by have:=o2.size;rw [show World.heap _=Array.push w.heap _ from rfl,YC] at this;exact this
 have hbw:Below base w W' :=⟨o2.os,o2.tape,o2.output,by omega,kb⟩;have cc:=hT'.2.1;have cf:W'.frozen? ⟨ob,6,none⟩=false:=by rw [<-hfz];simp only [World.frozen?,kb _ hol]
 have hv:∃q1 q2 q3,v' = .slice q1 q2 q3:=by
  obtain⟨g,cap,rfl,_⟩:=ORow.of_owns o1 (by omega);exact⟨_,_,_,rfl⟩
 obtain⟨q1,q2,q3,rfl⟩:=hv;refine hK _ _ ⟨.inr hT',?_⟩;refine C5 9 rfl (by kernel_rfl) rfl fun K hK=> ?_
 go_simp
 refine hK _ _ ⟨.inr hT',?_⟩;refine C5 10 rfl (by kernel_rfl) rfl fun K hK=> ?_
 go_simp
 refine hK _ _ ⟨.inl (by kernel_rfl),Kv (by kernel_rfl) ⟨rfl,⟨_,W',o1,hbw,rfl⟩,?_⟩ _⟩
 iterate 10 refine y9 rfl ?_
 exact AC
end Go.Ab
end
section
namespace Go.Ab
open Go.Proofs Go.RowKit Go.Shelf
set_option maxRecDepth 100000
noncomputable def cH1:Code:= .seq (Rg 17) (Rg 18)
noncomputable def cB1:Code:= .seq (Rg 12) (.seq (Rg 13) (.seq (.seq (Rg 14) (.cond (.tmp 69) (.seq (Rg 15) (Rg 16)) .skip)) cH1))
noncomputable def cL1:Code:= .block 0 (.loop (.seq (Rg 11) (.seq (.cond (.tmp 58) .skip (.exit 0)) (.seq (.block 1 cB1) (Rg 19)))))
structure F1 (a:Act) (B3 B4 B6 i k M:Nat) (kv rv:Value) (n j:Nat):Prop where
 d:a.defers=[]
 s:a.tmps.size=153
 s3:a.tmps[3]? =some (.pointer (some ⟨B3,0,none⟩))
 s4:a.tmps[4]? =some (.pointer (some ⟨B4,0,none⟩))
 s6:a.tmps[6]? =some (.pointer (some ⟨B6,0,none⟩))
 s9:a.tmps[9]? =some (.int .i64 i)
 s10:a.tmps[10]? =some (.int .i64 k)
 s11:a.tmps[11]? =some (.map (some M))
 s12:a.tmps[12]? =some kv
 s55:a.tmps[55]? =some rv
 s56:a.tmps[56]? =some (.int .i64 n)
 s57:a.tmps[57]? =some (.int .i64 j)
def J1(w0:World)(rs:List Rowd)(B3 B4 B6 i k:Nat)(rv:Value)(m j:Nat)(a:Act)(w:World):Prop:=
 ∃blk fc kc,F1 a B3 B4 B6 i k (blk .map) (.slice (some ⟨blk .keys,0,none⟩) (uM i (rs.take m)).length kc) rv rs.length j/\
  GRel w0 w w0.heap.size 77 3 blk (uM i (rs.take m)) (uM i (rs.take m)) (oP i k (rs.take m)) (uL i (rs.take m)) fc none kc
def Fi [Inhabited Lb]:Prop:=∀(xs ys:List Org) (u v:Value) (w:World),RowIn w u xs->RowIn w v ys->xs.length+ys.length<=1000000000000->(∀x∈jW,x.1<w.heap.size/\w.heap[x.1]? =some x.2)->
 Calls Tryz.prog 99 #[u,v] w fun e w' =>∃br cap,e= .returned (.slice (some ⟨br,0,none⟩) (qX xs ys).length cap)/\Below w.heap.size w w' /\w.heap.size<=br/\OrgRow w' br cap (qX xs ys)
structure RowOk (i k:Nat) (r:Rowd):Prop where
 i:i<r.cells.length
 k:k<r.cells.length
 f:r.frm.length<=100000000
theorem Mm{i:Nat}{r:Rowd}(h:i<r.cells.length):r.cells[i]=gQ i r:=by
 unfold gQ;rw [ZW,Zx h]
 rfl
section
variable [Inhabited Lb] {w0:World} {rs:List Rowd} {B3 B4 B6 i k:Nat} {rv:Value}
theorem Mq(hU:Fi)(hlaid:∀x∈jW,x.1<w0.heap.size/\w0.heap[x.1]? =some x.2)(hok:∀r∈rs,RowOk i k r)(hn:rs.length<=1000){j:Nat}(hj:j<rs.length)
 {a:Act} {w:World} {blk:Tg->Nat} {fc:Int->Nat} {nx:Option Int} {kc rb:Nat} {cb coff cc fn fcap:Nat} {fp:Option Addr}
 (F:F1 a B3 B4 B6 i k (blk .map) (.slice (some ⟨blk .keys,0,none⟩) (uM i (rs.take (j+1))).length kc) rv rs.length j)
 (h14:a.tmps[14]? =some (.pointer (some ⟨rb,0,none⟩))) (h15:a.tmps[15]? =some (.int .i64 (gQ i rs[j])))
 (hrb:w.heap[rb]? =some (.cells #[.slice (some ⟨cb,coff,none⟩) rs[j].cells.length cc,.slice fp fn fcap] 77 (0,0)))
 (hcl:cb<w0.heap.size) (hcells:∀m (hm:m<rs[j].cells.length),w0.cell? ⟨cb,coff+m,none⟩=some (.int .i64 rs[j].cells[m])) (hfr:RowIn w0 (.slice fp fn fcap) rs[j].frm)
 (hx:gQ i rs[j]∈uM i (rs.take (j+1))) (hnx:nx=none\/nx=some (gQ i rs[j]))
 (hne:∀t,AE (uM i (rs.take (j+1))) nx t->blk t≠rb)
 (G:GRel w0 w w0.heap.size 77 3 blk (uM i (rs.take (j+1))) (uM i (rs.take (j+1))) (oP i k (rs.take j)) (uL i (rs.take j)) fc nx kc):
 cH1.wp Tryz.prog (fun e a' w' =>e= .normal/\J1 w0 rs B3 B4 B6 i k rv (j+1) j a' w') a w:=by
 have hr:=hok _ (Z4 hj);generalize hxk:gQ i rs[j]=x at h15 hx hnx;have bx:=G.box x hx;have cl:=G.cel x hx;have rbx:=G.rng (.box x) hx;have rcl:=G.rng (.cel x) hx;have rmp:=G.rng .map trivial;have nbc:blk (.box x)≠blk (.cel x):=fun e=>by have:=G.inj (.box x) (.cel x) hx hx e;cases this
 have nmc:blk .map≠blk (.cel x):=fun e=>by have:=G.inj .map (.cel x) trivial hx e;cases this
 have old:∀b,b<w0.heap.size->w.heap[b]? =w0.heap[b]? :=G.below.block;have hrbl:rb<w.heap.size:=(Zg.1 hrb).1;obtain⟨vp,vn,vc,hfv⟩:∃vp vn vc,frV blk fc (uL i (rs.take j)) nx x= .slice vp vn vc:=by
  unfold frV;split
  ·exact⟨_,_,_,rfl⟩
  ·exact⟨_,_,_,rfl⟩
 rw [hfv] at bx;refine wp_seq (wp_mono (xFZ (k:=k) F.s G.map hx hr.k F.s11 h15 F.s10 h14 (by simp only [World.cell?,bx];rfl) (by simp only [World.cell?,cl];rfl) (by simp only [World.cell?,hrb];rfl) ((DH (old _ hcl)).trans (hcells k hr.k)) (by simp [World.frozen?,cl])) ?_);rintro e a1 w1 ⟨rfl,hw1,K1⟩;rw [Mm hr.k] at hw1;obtain⟨s',hs'⟩:∃s',IntKind.i64.wrap (oP i k (rs.take j) x+gQ k rs[j])=s' :=⟨_,rfl⟩;rw [hs'] at hw1;have c1:Chg w w1 (blk (.cel x)) (.cells #[.int .i64 x,.int .i64 s'] 3 (0,0)):=by
  have:=A8 (w:=w.drew) (o:=1) (v:= .int .i64 s') (cs' := #[.int .i64 x,.int .i64 s']) (b:=blk (.cel x)) cl (by simp);rw [hw1];exact⟨this.os,this.tape,this.output,this.size,this.at',this.other⟩
 clear hw1;have z1:=c1.size;have bx1:=(c1.other _ nbc).trans bx;have rb1:=(c1.other rb (fun e=>hne (.cel x) hx e.symm)).trans hrb;have hU1:Calls Tryz.prog 99 #[.slice vp vn vc,.slice fp fn fcap] w1.drew fun e W' =>∃br cap,e= .returned (.slice (some ⟨br,0,none⟩) (qX (uL i (rs.take j) x) rs[j].frm).length cap)/\Below w1.heap.size w1.drew W' /\w1.heap.size<=br/\OrgRow W' br cap (qX (uL i (rs.take j) x) rs[j].frm):=by
  have oldW:∀b,b<w0.heap.size->w1.heap[b]? =w0.heap[b]? :=fun b hb=>(c1.other b (by omega)).trans (old b hb);refine hU _ _ _ _ w1.drew ?_ (hfr.kept (w' :=w1.drew) (by show w0.heap.size<=w1.heap.size;omega) oldW) ?_ fun y hy=>⟨?_,(oldW _ (hlaid y hy).1).trans (hlaid y hy).2⟩
  ·by_cases hq:nx=some x
   ·rw [frV,Zw hq] at hfv;rw [<-hfv,G.nil x hq];exact⟨none,0,rfl,.inl rfl⟩
   ·rw [frV,Zf hq] at hfv;rw [<-hfv];refine xKe (w:=w1.drew) ((G.frm x hx hq).kept (c1.other _ fun e=> ?_));have:=G.inj (.frm x) (.cel x) ⟨hx,hq⟩ hx e;cases this
  ·have h1:=xFO (i:=i) (L:=100000000) (x:=x) (rs.take j) fun r hr=>(hok r (ZI hr)).f;have h2:(rs.take j).length*100000000<=1000*100000000:=YH (by rw [ZT];omega) (Zi _);have:=hr.f;omega
  ·have:=(hlaid y hy).1;show y.1<w1.heap.size;omega
 have e1:a1.tmps.size=153:=K1.2.1.trans F.s;refine wp_mono (xF0 e1 (G.map.kept (c1.other _ nmc) (fun _ _=>rfl)) hx (K1.get F.s11 rfl) (K1.get h15 rfl) (K1.get h14 rfl) (by omega) (by omega) (by simp only [World.cell?,bx1];rfl) (by simp only [World.cell?,rb1];rfl) (by simp [World.frozen?,bx1]) hU1) ?_;rintro e a2 w2 ⟨rfl,⟨br,cap,W',g1,g2,g3,g4⟩,K2⟩;have hbW:Below w1.heap.size w1 W' :=⟨g1.os,g1.tape,g1.output,g1.size,g1.block⟩;have c2:Chg W' w2 (blk (.box x)) (.cells #[.slice (some ⟨blk (.cel x),0,none⟩) 2 2,.slice (some ⟨br,0,none⟩) (qX (uL i (rs.take j) x) rs[j].frm).length cap] 77 (0,0)):=by
  rw [g4];exact A8 ((hbW.block _ (by omega)).trans bx1) (by simp)
 have T:=G.turn hx hnx c1 hbW g2 g3 c2;have K:=K1.trans K2 (l2:=[3,4,6,9,10,11,12,55,56,57]) rfl;refine⟨rfl,zM blk (.frm x) br,A6 fc x cap,kc,?_,?_⟩
 ·have e2:zM blk (.frm x) br .map=blk .map:=Zf (by simp);have e3:zM blk (.frm x) br .keys=blk .keys:=Zf (by simp);rw [e2,e3];exact⟨K.1.trans F.d,K.2.1.trans F.s,K.get F.s3 rfl,K.get F.s4 rfl,K.get F.s6 rfl,K.get F.s9 rfl,K.get F.s10 rfl,K.get F.s11 rfl,K.get F.s12 rfl,K.get F.s55 rfl,K.get F.s56 rfl,K.get F.s57 rfl⟩
 ·have q1:A6 (oP i k (rs.take j)) x s' =oP i k (rs.take (j+1)):=by rw [Gl hj,Mo,hxk,hs']
  have q2:A6 (uL i (rs.take j)) x (qX (uL i (rs.take j) x) rs[j].frm)=uL i (rs.take (j+1)):=by rw [Gl hj,Ml,hxk]
  rw [q1,q2] at T;exact T
theorem xGk(hU:Fi)(hlaid:∀x∈jW,x.1<w0.heap.size/\w0.heap[x.1]? =some x.2)(hrs:Fg w0 rv rs)(hok:∀r∈rs,RowOk i k r)(hn:rs.length<=1000){j:Nat}(hj:j<rs.length){a:Act}{w:World}(hJ:J1 w0 rs B3 B4 B6 i k rv j j a w):
 cB1.wp Tryz.prog (fun e a' w' =>e= .normal/\J1 w0 rs B3 B4 B6 i k rv (j+1) j a' w') a w:=by
 obtain⟨blk,fc,kc,F,G⟩:=hJ;obtain⟨p,c,rfl,hrows⟩:=hrs;obtain⟨b,off,rfl,hbl,hcell⟩:=hrows.resolve_left (fun e=>by rw [e] at hj;simp at hj);obtain⟨cv,fv,e1,e2,hi1,hi2⟩:=hcell j hj;have hr:=hok _ (Z4 hj);obtain⟨cp,cc,rfl,hints⟩:=hi1;obtain⟨cb,coff,rfl,hcbl,hcells⟩:=hints.resolve_left (fun e=>by have:=hr.i;rw [e] at this;simp at this);obtain⟨fp,fcap,rfl,_⟩:=id hi2;have old:∀b,b<w0.heap.size->w.heap[b]? =w0.heap[b]? :=G.below.block;have z0:=G.below.size;refine wp_seq (wp_mono (xFU F.s hj F.s55 F.s57 ((DH (old _ hbl)).trans e1) ((DH (old _ hbl)).trans e2)) ?_);rintro e a1 w1 ⟨rfl,hw1,h14,K1⟩;have hb1:Below w.heap.size w w1:=by rw [hw1];exact(Below.refl _ _).alloc (Zi _) _
 have z1:w1.heap.size=w.heap.size+1:=by rw [hw1,zD]
 have hrb:w1.heap[w.heap.size]? =some (.cells #[.slice (some ⟨cb,coff,none⟩) rs[j].cells.length cc,.slice fp rs[j].frm.length fcap] 77 (0,0)):=by
  rw [hw1];show(Array.push _ _)[_]? =_;rw [ZU,Zw rfl]
 clear hw1;have G1:=G.grow hb1;have old1:∀b,b<w0.heap.size->w1.heap[b]? =w0.heap[b]? :=G1.below.block;have s1:a1.tmps.size=153:=K1.2.1.trans F.s;refine wp_seq (wp_mono (xFV s1 hr.i h14 (K1.get F.s9 rfl) (by simp only [World.cell?,hrb];rfl) ((DH (old1 _ hcbl)).trans (hcells i hr.i))) ?_);rintro e a2 w2 ⟨rfl,rfl,h15,K2⟩;rw [Mm hr.i] at h15;have K12:=K1.trans K2 (l2:=[3,4,6,9,10,11,12,55,56,57]) rfl;have s2:a2.tmps.size=153:=K2.2.1.trans s1;refine wp_seq (wp_seq (wp_mono (xFW s2 G1.map (K12.get F.s11 rfl) h15) ?_));rintro e a3 w3 ⟨rfl,rfl,h69,K3⟩;have K13:=K12.trans K3 (l2:=[3,4,6,9,10,11,12,55,56,57]) rfl;have h14' :=K3.get (K2.get h14 rfl) rfl;have h15' :=K3.get h15 rfl;have s3:a3.tmps.size=153:=K3.2.1.trans s2;have hc69:a3.eval (.tmp 69)= .bool (!decide (gQ i rs[j]∈uM i (rs.take j))):=Bt h69;have rng:=G.rng;by_cases hx:gQ i rs[j]∈uM i (rs.take j)
 ·have ek:uM i (rs.take (j+1))=uM i (rs.take j):=by rw [Gl hj,JS,Zw hx]
  rw [Zz hx] at hc69;refine wp_cond_false hc69 (wp_skip ?_);refine Mq (nx:=none) hU hlaid hok hn hj (rb:=w.heap.size) (blk:=blk) (fc:=fc) (kc:=kc) ⟨K13.1.trans F.d,s3,K13.get F.s3 rfl,K13.get F.s4 rfl,K13.get F.s6 rfl,K13.get F.s9 rfl,K13.get F.s10 rfl,K13.get F.s11 rfl,by rw [ek];exact K13.get F.s12 rfl,K13.get F.s55 rfl,K13.get F.s56 rfl,K13.get F.s57 rfl⟩ h14' h15' hrb hcbl hcells hi2 (by rw [ek];exact hx) (.inl rfl) (fun t ht=> ?_) (by rw [ek];exact G1);rw [ek] at ht;have:=(rng t ht).2;omega
 ·have ek:uM i (rs.take (j+1))=uM i (rs.take j)++ [gQ i rs[j]]:=by rw [Gl hj,JS,Zf hx]
  rw [Zy hx] at hc69;refine wp_cond_true hc69 (wp_seq (wp_mono (xFX s3 G1.map hx (K13.get F.s11 rfl) h15') ?_));rintro e a4 w4 ⟨rfl,hm4,hg4,z4,K4⟩;have K14:=K13.trans K4 (l2:=[3,4,6,9,10,11,12,55,56,57]) rfl;have s4:a4.tmps.size=153:=K4.2.1.trans s3;generalize hA:(w3.alloc (.cells #[.int .i64 (gQ i rs[j]),.int .i64 0] 3)).alloc (.cells #[.slice (some ⟨w3.heap.size,0,none⟩) 2 2,.slice none 0 0] 77)=A at hg4 z4;have zA:A.heap.size=w3.heap.size+2:=by rw [<-hA,zD,zD]
  have hbA:Below w3.heap.size w3 A:=by rw [<-hA];exact((Below.refl _ _).alloc (Zi _) _).alloc (by rw [zD];omega) _
  have hcA:A.heap[w3.heap.size]? =some (.cells #[.int .i64 (gQ i rs[j]),.int .i64 0] 3 (0,0)):=by
   rw [<-hA,AA (by rw [zD];omega)];show(Array.push _ _)[_]? =_;rw [ZU,Zw rfl]
  have hbA2:A.heap[w3.heap.size+1]? =some (.cells #[.slice (some ⟨w3.heap.size,0,none⟩) 2 2,.slice none 0 0] 77 (0,0)):=by
   rw [<-hA];show(Array.push _ _)[_]? =_;rw [ZU,Zw (zD _ _).symm]
  clear hA;have rmap:=G1.rng .map trivial;have rkey:=G1.rng .keys trivial;have nmk:blk .keys≠blk .map:=fun e=>by have:=G1.inj .keys .map trivial trivial e;cases this
  have hk4:ORow w4 3 (blk .keys) kc 1 (uM i (rs.take j)).length ((uM i (rs.take j)).map (Value.int .i64)):=G1.keys.kept ((hg4.block _ (by omega) (by simpa using nmk)).trans (hbA.block _ rkey.2));have hlen:(uM i (rs.take j)).length<=1000:=ZF (Mn i _) (by rw [ZT];omega);refine wp_mono (xFY s4 hlen hk4 (K14.get F.s12 rfl) (K4.get h15' rfl)) ?_;rintro e a5 w5 ⟨rfl,kb',kc',hk5,hg5,hkb,h12,K5⟩;have K15:=K14.trans K5 (l2:=[3,4,6,9,10,11,55,56,57]) rfl;have s5:a5.tmps.size=153:=K5.2.1.trans s4;have hn0:=xFP _ (rs.take j) rfl hx;have hb45:Below w4.heap.size w4 (w4.alloc (.cells #[.int .i64 (gQ i rs[j])] 3)):=(Below.refl _ _).alloc (Zi _) _;have G5:=G1.add hx (hn0.1 k) hn0.2 hbA (Zi _) (Nat.le_succ _) (by omega) (by omega) (by omega) hcA hbA2 hm4 hg4 z4 hb45 hk5 hg5 hkb;have rb5:w5.heap[w.heap.size]? =w3.heap[w.heap.size]? :=by
   have rm:=rng .map trivial;have rk:=rng .keys trivial;exact(hg5.block _ (by rw [zD];omega) (by simp;omega)).trans ((AA (by omega)).trans ((hg4.block _ (by omega) (by simp;omega)).trans (hbA.block _ (by omega))))
  have bm:zM (zM (zM blk (.box (gQ i rs[j])) (w3.heap.size+1)) (.cel (gQ i rs[j])) w3.heap.size) .keys kb' .map=blk .map:=by simp [zM]
  have bk:zM (zM (zM blk (.box (gQ i rs[j])) (w3.heap.size+1)) (.cel (gQ i rs[j])) w3.heap.size) .keys kb' .keys=kb' :=by simp [zM]
  have hne:∀t,AE (uM i (rs.take j)++ [gQ i rs[j]]) (some (gQ i rs[j])) t->zM (zM (zM blk (.box (gQ i rs[j])) (w3.heap.size+1)) (.cel (gQ i rs[j])) w3.heap.size) .keys kb' t≠w.heap.size:=by
   intro t ht;by_cases n1:t= .keys
   ·subst n1;rw [bk];have:=(rng .keys trivial).2;rcases hkb with e|e
    ·omega
    ·rw [zD] at e;omega
   ·by_cases n2:t= .cel (gQ i rs[j])
    ·subst n2;simp [zM];omega
    ·by_cases n3:t= .box (gQ i rs[j])
     ·subst n3;simp [zM];omega
     ·have e0:zM (zM (zM blk (.box (gQ i rs[j])) (w3.heap.size+1)) (.cel (gQ i rs[j])) w3.heap.size) .keys kb' t=blk t:=by simp [zM,n1,n2,n3]
      rw [e0];have hl:AE (uM i (rs.take j)) none t:=by
       cases t with
       |map=>trivial
       |keys=>trivial
       |box y=>
        rcases Za.1 (show y∈uM i (rs.take j)++ [gQ i rs[j]] from ht) with e|e
        ·exact e
        ·simp at e;subst e;exact absurd rfl n3
       |cel y=>
        rcases Za.1 (show y∈uM i (rs.take j)++ [gQ i rs[j]] from ht) with e|e
        ·exact e
        ·simp at e;subst e;exact absurd rfl n2
       |frm y=>
        obtain⟨e,e2⟩:=ht;rcases Za.1 e with e|e
        ·exact⟨e,by simp⟩
        ·simp at e;subst e;exact absurd rfl e2
      have:=(rng t hl).2;omega
  refine Mq (nx:=some (gQ i rs[j])) hU hlaid hok hn hj (rb:=w.heap.size) (blk:=zM (zM (zM blk (.box (gQ i rs[j])) (w3.heap.size+1)) (.cel (gQ i rs[j])) w3.heap.size) .keys kb') (fc:=fc) (kc:=kc') ⟨K15.1.trans F.d,s5,K15.get F.s3 rfl,K15.get F.s4 rfl,K15.get F.s6 rfl,K15.get F.s9 rfl,K15.get F.s10 rfl,by rw [bm];exact K15.get F.s11 rfl,by rw [ek,bk];exact h12,K15.get F.s55 rfl,K15.get F.s56 rfl,K15.get F.s57 rfl⟩ (K5.get (K4.get h14' rfl) rfl) (K5.get (K4.get h15' rfl) rfl) (rb5.trans hrb) hcbl hcells hi2 (by rw [ek];simp) (.inr rfl) (by rw [ek];exact hne) (by rw [ek];exact G5)
theorem xGi(hU:Fi)(hlaid:∀x∈jW,x.1<w0.heap.size/\w0.heap[x.1]? =some x.2)(hrs:Fg w0 rv rs)(hok:∀r∈rs,RowOk i k r)(hn:rs.length<=1000){a:Act}{w:World}(hJ:J1 w0 rs B3 B4 B6 i k rv 0 0 a w):
 cL1.wp Tryz.prog (fun e a' w' =>e= .normal/\J1 w0 rs B3 B4 B6 i k rv rs.length rs.length a' w') a w:=by
 refine wp_block ?_;refine wp_loop (fun a w=>∃j,j<=rs.length/\J1 w0 rs B3 B4 B6 i k rv j j a w) (fun a _=>rs.length - (RowKit.intOf (a.tmps.getD 57 undef)).toNat) ⟨0,Z9 _,hJ⟩ ?_;rintro a w ⟨j,hj,hJ⟩;obtain⟨blk,fc,kc,F,G⟩:=id hJ;have m0:(RowKit.intOf (a.tmps.getD 57 undef)).toNat=j:=by
  rw [show a.tmps.getD 57 undef= .int .i64 j from Bt F.s57];simp [RowKit.intOf]
 refine wp_seq (wp_mono (xFT F.s F.s56 F.s57) ?_);rintro e a1 w1 ⟨rfl,rfl,h58,K1⟩;have F1' :F1 a1 B3 B4 B6 i k (blk .map) (.slice (some ⟨blk .keys,0,none⟩) (uM i (rs.take j)).length kc) rv rs.length j:=⟨K1.1.trans F.d,K1.2.1.trans F.s,K1.get F.s3 rfl,K1.get F.s4 rfl,K1.get F.s6 rfl,K1.get F.s9 rfl,K1.get F.s10 rfl,K1.get F.s11 rfl,K1.get F.s12 rfl,K1.get F.s55 rfl,K1.get F.s56 rfl,K1.get F.s57 rfl⟩;have hc:a1.eval (.tmp 58)= .bool (decide (j<rs.length)):=Bt h58;by_cases hlt:j<rs.length
 ·rw [Zz hlt] at hc;refine wp_seq (wp_cond_true hc (wp_skip ?_));refine wp_seq (wp_block ?_);refine wp_mono (xGk hU hlaid hrs hok hn hlt ⟨blk,fc,kc,F1',G⟩) ?_;rintro e a2 w2 ⟨rfl,blk2,fc2,kc2,F2,G2⟩;refine wp_mono (xF1 F2.s (by omega) F2.s57) ?_;rintro e a3 w3 ⟨rfl,rfl,h57,K3⟩;refine⟨⟨j+1,hlt,blk2,fc2,kc2,⟨K3.1.trans F2.d,K3.2.1.trans F2.s,K3.get F2.s3 rfl,K3.get F2.s4 rfl,K3.get F2.s6 rfl,K3.get F2.s9 rfl,K3.get F2.s10 rfl,K3.get F2.s11 rfl,K3.get F2.s12 rfl,K3.get F2.s55 rfl,K3.get F2.s56 rfl,h57⟩,G2⟩,?_⟩;have m1:(RowKit.intOf (a3.tmps.getD 57 undef)).toNat=j+1:=by
   rw [show a3.tmps.getD 57 undef= .int .i64 (j+1:Nat) from Bt h57];simp [RowKit.intOf] <;>omega
  rw [m0,m1];omega
 ·rw [Zy hlt] at hc;obtain rfl:j=rs.length:=by omega
  refine wp_seq (wp_cond_false hc (wp_exit ?_));simp only [Exit.then,Exit.inBlock,ZB];exact⟨trivial,blk,fc,kc,F1',G⟩
end
end Go.Ab
end
section
namespace Go.Ab
open Go.Proofs Go.RowKit Go.Shelf
set_option maxRecDepth 100000
noncomputable def cB2:Code:= .seq (Rg 24) (.seq (.seq (Rg 25) (.cond (.tmp 139) (.seq (Rg 26) .ret) .skip)) (Rg 27))
noncomputable def cL2:Code:= .block 2 (.loop (.seq (Rg 23) (.seq (.cond (.tmp 127) .skip (.exit 2)) (.seq (.block 3 cB2) (Rg 28)))))
noncomputable def cT2:Code:= .seq (Rg 29) .ret
noncomputable def cS2:Code:= .seq (.seq (Rg 22) cL2) cT2
noncomputable def cS1:Code:= .seq (Rg 20) (.seq (Rg 21) cS2)
noncomputable def L9:Code:= .seq (Rg 9) (.seq (.seq (Rg 10) cL1) cS1)
def Li:Array Value:= #[.int .i64 6,.int .i64 5,.int .i64 0,.string ⟨#[]⟩,.slice none 0 0,.slice none 0 0,.slice none 0 0]
def EQ(cb:Nat)(rv:Value):Array Value:= #[.int .i64 5,.int .i64 0,.int .i64 0,.string ⟨#[]⟩,.slice none 0 0,.slice (some ⟨cb,0,none⟩) 2 2,rv]
structure Tab (w0 W:World) (ks xs:List Int) (sm:Int->Int) (fr:Int->List Org) (ta tb:ByteArray) (blk:Tg->Nat) (fc:Int->Nat) (cb:Nat) (rv:Value):Prop where
 rel:∃kc,GRel w0 W w0.heap.size 77 3 blk ks xs sm fr fc none kc
 lt:∀t,AE ks none t->blk t<cb
 col:W.heap[cb]? =some (.cells #[.string ta,.string tb] 9 (0,0))
 rows:W.ownsRow (cb+2) 77 2 rv xs.length (Dc blk fr fc xs)
 size:cb+2<=W.heap.size
def Gr(w0:World)(ks xs:List Int)(sm:Int->Int)(fr:Int->List Org)(ta tb:ByteArray)(B6:Nat)(ty:TypeId)(a' :Act)(w' :World):Prop:=
 a'.defers=[]/\a'.tmps.size=153/\a'.tmps[6]? =some (.pointer (some ⟨B6,0,none⟩))/\∃W,Below w0.heap.size w0 W/\
  ((xs.all (fun x=>wR (sm x))=false/\Chg W w' B6 (.cells Li ty (0,0)))\/
   (xs.all (fun x=>wR (sm x))=true/\∃blk fc cb rv,Chg W w' B6 (.cells (EQ cb rv) ty (0,0))/\Tab w0 W ks xs sm fr ta tb blk fc cb rv))
structure F2 (a:Act) (B6 M ob:Nat) (kv:Value) (n m:Nat):Prop where
 d:a.defers=[]
 s:a.tmps.size=153
 s6:a.tmps[6]? =some (.pointer (some ⟨B6,0,none⟩))
 s11:a.tmps[11]? =some (.map (some M))
 s16:a.tmps[16]? =some (.pointer (some ⟨ob,0,none⟩))
 s124:a.tmps[124]? =some kv
 s125:a.tmps[125]? =some (.int .i64 n)
 s126:a.tmps[126]? =some (.int .i64 m)
structure W2 (w0 wS w:World) (ks xs:List Int) (sm:Int->Int) (fr:Int->List Org) (ta tb:ByteArray) (blk:Tg->Nat) (fc:Int->Nat) (kc S m:Nat) (rv:Value):Prop where
 rel:GRel w0 wS w0.heap.size 77 3 blk ks xs sm fr fc none kc
 hS:S=wS.heap.size
 below:Below S wS w
 size:S+2<=w.heap.size
 col:w.heap[S]? =some (.cells #[.string ta,.string tb] 9 (0,0))
 out:w.heap[S+1]? =some (.cells (EQ S rv) 30 (0,0))
 rows:w.ownsRow (S+2) 77 2 rv m (Dc blk fr fc (xs.take m))
 nums:∀x∈xs.take m,wR (sm x)=true
section
variable [Inhabited Lb] {w0 wS:World} {ks xs:List Int} {sm:Int->Int} {fr:Int->List Org} {ta tb:ByteArray} {blk:Tg->Nat} {fc:Int->Nat} {kc S B6:Nat} {ty:TypeId} {u0 u1 u2 u3 u4 u5 u6:Value}
theorem W2.rel' {w:World}{m:Nat}{rv:Value}(h:W2 w0 wS w ks xs sm fr ta tb blk fc kc S m rv):GRel w0 w w0.heap.size 77 3 blk ks xs sm fr fc none kc:=h.rel.grow (by have:=h.below;rwa [h.hS] at this)
theorem KH{w:World}{base te sz n:Nat}{v:Value}{xs:List Value}(h:w.ownsRow base te sz v n xs):∃p c,v= .slice p n c:=by
 rcases h.2 with ⟨rfl,rfl⟩|⟨g,cap,cur,rfl,_⟩
 ·exact⟨_,_,rfl⟩
 ·exact⟨_,_,rfl⟩
theorem xGl(hperm:∀x∈xs,x∈ks)(hn:xs.length<=1000)(h6:B6<w0.heap.size)(hB6:w0.heap[B6]? =some (.cells #[u0,u1,u2,u3,u4,u5,u6] ty (0,0))){m:Nat}(hm:m<xs.length){a:Act}{w:World}{rv:Value}
 (F:F2 a B6 (blk .map) (S+1) (.slice (some ⟨blk .keys,0,none⟩) xs.length kc) xs.length m) (H:W2 w0 wS w ks xs sm fr ta tb blk fc kc S m rv):
 cB2.wp Tryz.prog (Exit.then (fun a' w' =>F2 a' B6 (blk .map) (S+1) (.slice (some ⟨blk .keys,0,none⟩) xs.length kc) xs.length m/\∃rv',W2 w0 wS w' ks xs sm fr ta tb blk fc kc S (m+1) rv') (fun e a' w' =>e= .ret/\Gr w0 ks xs sm fr ta tb B6 ty a' w')) a w:=by
 have G:=H.rel';have hx:xs[m]∈ks:=hperm _ (Z4 hm);refine wp_seq (wp_mono (xF6 F.s hm F.s124 F.s126 (G.keys.cellI hm)) ?_);rintro e a1 w1 ⟨rfl,hw,h18,K1⟩;obtain rfl:w=w1:=hw.symm;have bx:=G.box _ hx;have cl:=G.cel _ hx;have s1:a1.tmps.size=153:=K1.2.1.trans F.s;refine wp_seq (wp_seq (wp_mono (xF7 s1 G.map hx (K1.get F.s11 rfl) h18 (by simp only [World.cell?,bx];rfl) (by simp only [World.cell?,cl];rfl)) ?_));rintro e a2 w2 ⟨rfl,hw,h139,K2⟩;obtain rfl:w=w2:=hw.symm;have s2:a2.tmps.size=153:=K2.2.1.trans s1;have K:=K1.trans K2 (l2:=[6,11,16,124,125,126]) rfl;have hc:a2.eval (.tmp 139)= .bool (!wR (sm xs[m])):=Bt h139;have old:∀b,b<w0.heap.size->w.heap[b]? =w0.heap[b]? :=G.below.block;have z0:=G.below.size;cases hnum:wR (sm xs[m]) with
 |false=>
  rw [hnum] at hc;refine wp_cond_true hc (wp_seq (wp_mono (xF8 s2 (K.get F.s6 rfl) ((old _ h6).trans hB6)) ?_));rintro e a3 w3 ⟨rfl,⟨W,hW,hC⟩,K3⟩;refine wp_ret ⟨rfl,K3.1.trans (K.1.trans F.d),K3.2.1.trans s2,K3.get (K.get F.s6 rfl) rfl,W,G.below.trans ⟨hW.os,hW.tape,hW.output,hW.size,fun b hb=>hW.block b (by omega)⟩,.inl ⟨?_,hC⟩⟩;rw [X0];exact⟨xs[m],Z4 hm,by rw [hnum];simp⟩
 |true=>
  rw [hnum] at hc;refine wp_cond_false hc (wp_skip ?_);obtain⟨rp,rc,rfl⟩:=KH H.rows;have hS:=H.hS;have rb:=H.rel.rng (.box xs[m]) hx;have rm:=H.rel.rng .map trivial;have hsz:=H.size;have fv:frV blk fc fr none xs[m]= .slice (some ⟨blk (.frm xs[m]),0,none⟩) (fr xs[m]).length (fc xs[m]):=Zf (by simp);rw [fv] at bx;have ho:=H.out;refine wp_mono (xF9 s2 (base:=S+2) G.map hx (K.get F.s11 rfl) (K2.get h18 rfl) (K.get F.s16 rfl) (by omega) (by omega) (by omega) (by omega) hsz (by simp only [World.cell?,ho];rfl) (by simp [World.frozen?,ho]) (by simp only [World.cell?,bx];rfl) (by simp only [World.cell?,bx];rfl) H.rows) ?_;rintro e a3 w3 ⟨rfl,⟨v',W',o1,o2,o3⟩,K3⟩;have KK:=K.trans K3 (l2:=[6,11,16,124,125,126]) rfl;refine⟨⟨KK.1.trans F.d,KK.2.1.trans F.s,KK.get F.s6 rfl,KK.get F.s11 rfl,KK.get F.s16 rfl,KK.get F.s124 rfl,KK.get F.s125 rfl,KK.get F.s126 rfl⟩,v',?_⟩;have hoW:W'.heap[S+1]? =some (.cells (EQ S (.slice rp m rc)) 30 (0,0)):=(o2.block _ (by omega)).trans ho;have C:Chg W' w3 (S+1) (.cells (EQ S v') 30 (0,0)):=by
   rw [o3];exact A8 hoW (by simp [EQ])
  have tk:xs.take (m+1)=xs.take m++ [xs[m]]:=Yl hm;refine⟨H.rel,H.hS,?_,?_,?_,C.at',?_,?_⟩
  ·exact H.below.trans ⟨C.os.trans o2.os,C.tape.trans o2.tape,C.output.trans o2.output,by rw [C.size];exact o2.size,fun b hb=>(C.other b (by omega)).trans (o2.block b (by omega))⟩
  ·rw [C.size];have:=o2.size;omega
  ·rw [C.other _ (by omega),o2.block _ (by omega)];exact H.col
  ·rw [tk,xKJ];obtain⟨q0,q1⟩:=o1;refine⟨q0,?_⟩;rcases q1 with q1|⟨g,cap,cur,rfl,q2,q3,q4⟩
   ·exact .inl q1
   ·exact .inr ⟨g,cap,cur,rfl,q2,(C.other _ (by omega)).trans q3,q4⟩
  ·intro x hx;rw [tk,Za] at hx;rcases hx with hx|hx
   ·exact H.nums x hx
   ·simp at hx;subst hx;exact hnum
theorem xGj(hperm:∀x∈xs,x∈ks)(hn:xs.length<=1000)(h6:B6<w0.heap.size)(hB6:w0.heap[B6]? =some (.cells #[u0,u1,u2,u3,u4,u5,u6] ty (0,0))){a:Act}{w:World}{rv:Value}
 (F:F2 a B6 (blk .map) (S+1) (.slice (some ⟨blk .keys,0,none⟩) xs.length kc) xs.length 0) (H:W2 w0 wS w ks xs sm fr ta tb blk fc kc S 0 rv):
 cL2.wp Tryz.prog (Exit.then (fun a' w' =>F2 a' B6 (blk .map) (S+1) (.slice (some ⟨blk .keys,0,none⟩) xs.length kc) xs.length xs.length/\∃rv',W2 w0 wS w' ks xs sm fr ta tb blk fc kc S xs.length rv') (fun e a' w' =>e= .ret/\Gr w0 ks xs sm fr ta tb B6 ty a' w')) a w:=by
 refine wp_block ?_;refine wp_loop (fun a w=>∃m rv,m<=xs.length/\F2 a B6 (blk .map) (S+1) (.slice (some ⟨blk .keys,0,none⟩) xs.length kc) xs.length m/\W2 w0 wS w ks xs sm fr ta tb blk fc kc S m rv) (fun a _=>xs.length - (RowKit.intOf (a.tmps.getD 126 undef)).toNat) ⟨0,rv,Z9 _,F,H⟩ ?_;rintro a w ⟨m,rv,hm,F,H⟩;have m0:(RowKit.intOf (a.tmps.getD 126 undef)).toNat=m:=by
  rw [show a.tmps.getD 126 undef= .int .i64 m from Bt F.s126];simp [RowKit.intOf]
 refine wp_seq (wp_mono (xF5 F.s F.s125 F.s126) ?_);rintro e a1 w1 ⟨rfl,hw,h127,K1⟩;obtain rfl:w=w1:=hw.symm;have F1' :F2 a1 B6 (blk .map) (S+1) (.slice (some ⟨blk .keys,0,none⟩) xs.length kc) xs.length m:=⟨K1.1.trans F.d,K1.2.1.trans F.s,K1.get F.s6 rfl,K1.get F.s11 rfl,K1.get F.s16 rfl,K1.get F.s124 rfl,K1.get F.s125 rfl,K1.get F.s126 rfl⟩;have hc:a1.eval (.tmp 127)= .bool (decide (m<xs.length)):=Bt h127;by_cases hlt:m<xs.length
 ·rw [Zz hlt] at hc;refine wp_seq (wp_cond_true hc (wp_skip ?_));refine wp_seq (wp_block ?_);refine wp_mono (xGl hperm hn h6 hB6 hlt F1' H) ?_;intro e a2 w2 h;cases e with
  |normal=>
   obtain⟨F2',rv',H2⟩:=h;refine wp_mono (xGa F2'.s (by omega) F2'.s126) ?_;rintro e a3 w3 ⟨rfl,hw,h126,K3⟩;obtain rfl:w2=w3:=hw.symm;refine⟨⟨m+1,rv',hlt,⟨K3.1.trans F2'.d,K3.2.1.trans F2'.s,K3.get F2'.s6 rfl,K3.get F2'.s11 rfl,K3.get F2'.s16 rfl,K3.get F2'.s124 rfl,K3.get F2'.s125 rfl,h126⟩,H2⟩,?_⟩;have m1:(RowKit.intOf (a3.tmps.getD 126 undef)).toNat=m+1:=by
    rw [show a3.tmps.getD 126 undef= .int .i64 (m+1:Nat) from Bt h126];simp [RowKit.intOf] <;>omega
   rw [m0,m1];omega
  |ret=>exact h
  |exit id=>exact absurd h.1 (by simp)
  |goto l=>exact absurd h.1 (by simp)
  |panic c=>exact absurd h.1 (by simp)
  |outgrown=>exact absurd h.1 (by simp)
 ·rw [Zy hlt] at hc;obtain rfl:m=xs.length:=by omega
  refine wp_seq (wp_cond_false hc (wp_exit ?_));simp only [Exit.then,Exit.inBlock,ZB];exact⟨F1',rv,H⟩
end
end Go.Ab
end
section
namespace Go.Ab
open Go.Proofs Go.RowKit Go.Shelf
set_option maxRecDepth 100000
structure F0 (a:Act) (B3 B4 B5 B6 i k:Nat):Prop where
 d:a.defers=[]
 s:a.tmps.size=153
 s3:a.tmps[3]? =some (.pointer (some ⟨B3,0,none⟩))
 s4:a.tmps[4]? =some (.pointer (some ⟨B4,0,none⟩))
 s5:a.tmps[5]? =some (.pointer (some ⟨B5,0,none⟩))
 s6:a.tmps[6]? =some (.pointer (some ⟨B6,0,none⟩))
 s9:a.tmps[9]? =some (.int .i64 i)
 s10:a.tmps[10]? =some (.int .i64 k)
def Iu:Prop:=∀(blk cap:Nat) (zs:List Int) (w:World),Sort.Holds (Value.int .i64) w blk 0 zs.toArray->blk<w.heap.size->zs.length<4611686018427387904->
 Calls Tryz.prog 100 #[.slice (some ⟨blk,0,none⟩) zs.length cap] w fun e w' =>e= .returned (.tuple #[])/\∃n os,w' =Sort.grow (Sort.putRow (Value.int .i64) (Sort.ahead w n) blk 0 (zs.mergeSort fun x y=>decide (x<=y)).toArray) os
section
variable [Inhabited Lb] {w0:World} {rs:List Rowd} {B3 B4 B5 B6 i k:Nat} {rv:Value} {ta tb:ByteArray} {ty:TypeId} {u0 u1 u2 u3 u4 u5 u6:Value}
theorem xPr(hSo:Iu)(hlen:rs.length<=1000)(h3:w0.cell? ⟨B3,3,none⟩=some (.string ta))(h4:w0.cell? ⟨B4,3,none⟩=some (.string tb))(hB6:w0.heap[B6]? =some (.cells #[u0,u1,u2,u3,u4,u5,u6] ty (0,0))){a:Act}{w:World}(hJ:J1 w0 rs B3 B4 B6 i k rv rs.length rs.length a w):
 cS1.wp Tryz.prog (fun e a' w' =>e= .ret/\Gr w0 (uM i rs) (oO i rs) (oP i k rs) (uL i rs) ta tb B6 ty a' w') a w:=by
 obtain⟨blk,fc,kc,F,G⟩:=hJ;rw [ZK] at F G;have rk:=G.rng .keys trivial;have hkl:=Mn i rs;have h6:B6<w0.heap.size:=(Zg.1 hB6).1;obtain⟨xs,hxs⟩:∃xs,oO i rs=xs:=⟨_,rfl⟩;have hxl:xs.length=(uM i rs).length:=by rw [<-hxs];exact YG _
 have hperm:∀x∈xs,x∈uM i rs:=fun x hx=>by rw [<-hxs] at hx;exact Xx.1 hx
 refine wp_seq (wp_mono (xF2 F.s F.s12 (hSo (blk .keys) kc (uM i rs) w G.keys.holdsI rk.2 (by omega))) ?_);rintro e a1 wS ⟨rfl,⟨n,os,hw⟩,K1⟩;rw [show((uM i rs).mergeSort fun x y=>decide (x<=y))=xs from hxs] at hw;obtain⟨p1,p2,p3⟩:=xLz (n:=n) (os:=os) G.keys hxl;rw [<-hw] at p1 p2 p3;have GS:=G.rekey (wr' :=wS) (by rw [hw];exact⟨rfl,rfl,rfl⟩) p2 p3 p1;clear hw;have s1:a1.tmps.size=153:=K1.2.1.trans F.s;have b3:=Es h3;have b4:=Es h4;have old:∀b,b<w0.heap.size->wS.heap[b]? =w0.heap[b]? :=GS.below.block;refine wp_seq (wp_mono (xF3 s1 (K1.get F.s3 rfl) (K1.get F.s4 rfl) ((DH (old _ b3)).trans h3) ((DH (old _ b4)).trans h4)) ?_);rintro e a2 w2 ⟨rfl,hw2,h16,K2⟩;have K12:=K1.trans K2 (l2:=[6,11,12]) rfl;have s2:a2.tmps.size=153:=K2.2.1.trans s1;refine wp_seq (wp_seq (wp_mono (xF4 s2 (K12.get F.s12 rfl)) ?_));rintro e a3 w3 ⟨rfl,hw,h124,h125,h126,K3⟩;obtain rfl:w2=w3:=hw.symm;have K13:=K12.trans K3 (l2:=[6,11]) rfl;rw [<-hxl] at h124 h125;have z2:w2.heap.size=wS.heap.size+2:=by rw [hw2,zD,zD]
 have hcol:w2.heap[wS.heap.size]? =some (.cells #[.string ta,.string tb] 9 (0,0)):=by
  rw [hw2,AA (by rw [zD];omega)];show(Array.push _ _)[_]? =_;rw [ZU,Zw rfl]
 have hout:w2.heap[wS.heap.size+1]? =some (.cells (EQ wS.heap.size (.slice none 0 0)) 30 (0,0)):=by
  rw [hw2];show(Array.push _ _)[_]? =_;rw [ZU,Zw (zD _ _).symm]
  rfl
 have hbS:Below wS.heap.size wS w2:=by rw [hw2];exact((Below.refl _ _).alloc (Zi _) _).alloc (by rw [zD];omega) _
 clear hw2;have H:W2 w0 wS w2 (uM i rs) xs (oP i k rs) (uL i rs) ta tb blk fc kc wS.heap.size 0 (.slice none 0 0):=⟨GS,rfl,hbS,by omega,hcol,hout,⟨rfl,.inl ⟨rfl,rfl⟩⟩,fun x hx=>by simp at hx⟩;have FF:F2 a3 B6 (blk .map) (wS.heap.size+1) (.slice (some ⟨blk .keys,0,none⟩) xs.length kc) xs.length 0:=⟨K13.1.trans F.d,K3.2.1.trans s2,K13.get F.s6 rfl,K13.get F.s11 rfl,K3.get h16 rfl,h124,h125,h126⟩;rw [hxs];refine wp_mono (xGj hperm (by omega) h6 hB6 FF H) ?_;intro e a4 w4 h;cases e with
 |normal=>
  obtain⟨F4,rv',H4⟩:=h;obtain⟨rp,rc,rfl⟩:=KH H4.rows;have G4:=H4.rel';refine wp_seq (wp_mono (xGb F4.s F4.s6 F4.s16 ((G4.below.block _ h6).trans hB6) H4.out) ?_);rintro e a5 w5 ⟨rfl,C,K5⟩;refine wp_ret ⟨rfl,K5.1.trans F4.d,K5.2.1.trans F4.s,K5.get F4.s6 rfl,w4,G4.below,.inr ⟨?_,blk,fc,wS.heap.size,_,C,⟨⟨kc,G4⟩,fun t ht=>(GS.rng t ht).2,H4.col,?_,H4.size⟩⟩⟩
  ·rw [Zu];intro x hx;exact H4.nums x (by rw [ZK];exact hx)
  ·have:=H4.rows
   rwa [ZK] at this
 |ret=>exact h
 |exit id=>exact absurd h.1 (by simp)
 |goto l=>exact absurd h.1 (by simp)
 |panic c=>exact absurd h.1 (by simp)
 |outgrown=>exact absurd h.1 (by simp)
theorem xPq(hU:Fi)(hSo:Iu)(hlaid:∀x∈jW,x.1<w0.heap.size/\w0.heap[x.1]? =some x.2)(hrs:Fg w0 rv rs)(hok:∀r∈rs,RowOk i k r)(hlen:rs.length<=1000)(h3:w0.cell? ⟨B3,3,none⟩=some (.string ta))(h4:w0.cell? ⟨B4,3,none⟩=some (.string tb))(h5:w0.cell? ⟨B5,6,none⟩=some rv)
 (hB6:w0.heap[B6]? =some (.cells #[u0,u1,u2,u3,u4,u5,u6] ty (0,0))) {a:Act} (F:F0 a B3 B4 B5 B6 i k):
 (Rg 8).wp Tryz.prog (Exit.then (fun a1 w1=>L9.wp Tryz.prog (fun e a' w' =>e= .ret/\Gr w0 (uM i rs) (oO i rs) (oP i k rs) (uL i rs) ta tb B6 ty a' w') a1 w1) (fun _ _ _=>False)) a w0:=by
 refine wp_mono (xGc F.s) ?_;rintro e a1 w1 ⟨rfl,hw1,h11,K1⟩;have s1:a1.tmps.size=153:=K1.2.1.trans F.s;refine wp_seq (wp_mono (xGd s1) ?_);rintro e a2 w2 ⟨rfl,hw2,h12,K2⟩;have K12:=K1.trans K2 (l2:=[3,4,5,6,9,10]) rfl;have s2:a2.tmps.size=153:=K2.2.1.trans s1;have z1:w1.heap.size=w0.heap.size+1:=by rw [hw1,zD]
 have z2:w2.heap.size=w0.heap.size+2:=by rw [hw2,zD,z1]
 have hb:Below w0.heap.size w0 w2:=by rw [hw2,hw1];exact((Below.refl _ _).alloc (Zi _) _).alloc (by rw [zD];omega) _
 have hM:w2.heap[w0.heap.size]? =some (.map #[] 0):=by
  rw [hw2,AA (by omega),hw1];show(Array.push _ _)[_]? =_;rw [ZU,Zw rfl]
 have hK:w2.heap[w0.heap.size+1]? =some (.cells #[] 3 (0,0)):=by
  rw [hw2];show(Array.push _ _)[_]? =_;rw [ZU,Zw z1.symm]
 clear hw1 hw2;have b5:=Es h5;obtain⟨p,c,rfl,hrows⟩:=id hrs;refine wp_seq (wp_seq (wp_mono (xFS s2 (K12.get F.s5 rfl) ((DH (hb.block _ b5)).trans h5)) ?_));rintro e a3 w3 ⟨rfl,hw,h55,h56,h57,K3⟩;obtain rfl:w2=w3:=hw.symm;have K13:=K12.trans K3 (l2:=[3,4,6,9,10]) rfl;rw [z1] at h12
 let blk:Tg->Nat:=fun t=>match t with | .map=>w0.heap.size|_=>w0.heap.size+1
 have hJ:J1 w0 rs B3 B4 B6 i k (.slice p rs.length c) 0 0 a3 w2:=by
  refine⟨blk,fun _=>0,0,⟨K13.1.trans F.d,K3.2.1.trans s2,K13.get F.s3 rfl,K13.get F.s4 rfl,K13.get F.s6 rfl,K13.get F.s9 rfl,K13.get F.s10 rfl,K3.get (K2.get h11 rfl) rfl,K3.get h12 rfl,h55,h56,h57⟩,?_⟩;refine⟨⟨#[],0,hM,rfl⟩,fun x hx=>by(cases hx),fun x hx=>by(cases hx),fun x hx=>by(cases hx),fun x e=>by(cases e),⟨rfl, #[],hK,Zi _,by decide,rfl,rfl⟩,Xe,fun t t' a b e=> ?_,fun t ht=> ?_,hb⟩
  ·cases t with
   |map=>
    cases t' with
    |map=>rfl
    |keys=>exact absurd e (by show w0.heap.size≠w0.heap.size+1;omega)
    |box x=>cases b
    |cel x=>cases b
    |frm x=>cases b.1
   |keys=>
    cases t' with
    |keys=>rfl
    |map=>exact absurd e (by show w0.heap.size+1≠w0.heap.size;omega)
    |box x=>cases b
    |cel x=>cases b
    |frm x=>cases b.1
   |box x=>cases a
   |cel x=>cases a
   |frm x=>cases a.1
  ·cases t with
   |map=>show w0.heap.size<=w0.heap.size/\w0.heap.size<_;omega
   |keys=>show w0.heap.size<=w0.heap.size+1/\w0.heap.size+1<_;omega
   |box x=>cases ht
   |cel x=>cases ht
   |frm x=>cases ht.1
 refine wp_mono (xGi hU hlaid hrs hok hlen hJ) ?_;rintro e a4 w4 ⟨rfl,hJ4⟩;exact xPr hSo hlen h3 h4 hB6 hJ4
end
end Go.Ab
end
section
namespace Go.Ab
open Go.Proofs Go.RowKit Go.Shelf
set_option maxRecDepth 100000
def C6(blk:Tg->Nat)(xs:List Int)(cb:Nat)(rv:Value)(b:Nat)(l:Nat×List (Nat×Nat)):Prop:=
 (b=cb/\l=(5,[]))\/(rv.ownBlock=some b/\l=(6,[]))\/∃(i:Nat) (x:Int),xs[i]? =some x/\((b=blk (.cel x)/\l=(6,[(i,0)]))\/(b=blk (.frm x)/\l=(6,[(i,1)])))
def N8(xs:List Int)(fr:Int->List Org):Nat×List (Nat×Nat)->Nat
 |(5,_)=>2
 |(_,[])=>xs.length*2
 |(_,[(_,0)])=>2
 |(_,[(i,_)])=>(fr (xs.getD i 0)).length*2
 |_=>0
section
variable [Inhabited Lb]
theorem xO6{w0 W w' :World}{ks xs:List Int}{sm:Int->Int}{fr:Int->List Org}{ta tb:ByteArray}{blk:Tg->Nat}{fc:Int->Nat}{cb:Nat}{rv:Value}(E:Env)(hEw:E.w=w0)(T:Tab w0 W ks xs sm fr ta tb blk fc cb rv)
 (hW:∀b,w0.heap.size<=b->w'.heap[b]? =W.heap[b]?) (hsz:w'.heap.size=W.heap.size) (hperm:∀x∈xs,x∈ks) (hnd:xs.Nodup):
 ∃lab hwf,(∀b b' l,lab b=some l->lab b' =some l->b=b')/\(∀b l,lab b=some l->E.w.heap.size<=b/\b<w'.heap.size)/\
  VR (E.ended w' lab hwf) aJ (.h 0) (.v true [.int .i64 5,.int .i64 0,.int .i64 0,.str [],.sl .own .val [],.sl .own .str [ta.data.toList,tb.data.toList],.sl .own .row (xs.map fun x=>(⟨[x,sm x],fr x⟩:Rowd))]) (.agg (EQ cb rv)):=by
 obtain⟨kc,G⟩:=T.rel;have lt:=T.lt;have hz0:=G.below.size;have hcs:=T.size;have lvc:∀ {i:Nat} {x:Int},xs[i]? =some x->x∈ks:=fun h=>hperm _ (Zs h);have rvb:∀ {b:Nat},rv.ownBlock=some b->cb+2<=b/\b<W.heap.size:=by
  intro b hb;rcases T.rows.2 with ⟨e,_⟩|⟨g,cap,cur,e,h2,h3,_⟩
  ·rw [e] at hb;cases hb
  ·rw [e] at hb;cases hb;exact⟨h2,(Zg.1 h3).1⟩
 have nidx:∀ {i j:Nat} {x:Int},xs[i]? =some x->xs[j]? =some x->i=j:=by
  intro i j x h1 h2;obtain⟨a1,a2⟩:=Zt.1 h1;obtain⟨b1,b2⟩:=Zt.1 h2;have hp:=Yk.1 hnd;rcases X6 i j with h|h|h
  ·exact absurd (a2.trans b2.symm) (hp i j a1 b1 h)
  ·exact h
  ·exact absurd (b2.trans a2.symm) (hp j i b1 a1 h)
 have rng:∀ {b l},C6 blk xs cb rv b l->w0.heap.size<=b/\b<W.heap.size:=by
  intro b l h;have hm:=G.rng .map trivial;have hl:=lt .map trivial;rcases h with ⟨rfl,_⟩|⟨h,_⟩|⟨i,x,hx,⟨rfl,_⟩|⟨rfl,_⟩⟩
  ·omega
  ·have:=rvb h;omega
  ·exact G.rng (.cel x) (lvc hx)
  ·exact G.rng (.frm x) ⟨lvc hx,by simp⟩
 have cls:∀ {b l},C6 blk xs cb rv b l->(b=cb/\l=(5,[]))\/((cb+2<=b/\rv.ownBlock=some b)/\l=(6,[]))\/∃(i:Nat) (x:Int) (t:Tg),xs[i]? =some x/\AE ks none t/\b=blk t/\blk t<cb/\((t= .cel x/\l=(6,[(i,0)]))\/(t= .frm x/\l=(6,[(i,1)]))):=by
  intro b l h;rcases h with h|⟨h,e⟩|⟨i,x,hx,⟨rfl,e⟩|⟨rfl,e⟩⟩
  ·exact .inl h
  ·exact .inr (.inl ⟨⟨(rvb h).1,h⟩,e⟩)
  ·exact .inr (.inr ⟨i,x,.cel x,hx,lvc hx,rfl,lt _ (lvc hx),.inl ⟨rfl,e⟩⟩)
  ·exact .inr (.inr ⟨i,x,.frm x,hx,⟨lvc hx,by simp⟩,rfl,lt (.frm x) ⟨lvc hx,by simp⟩,.inr ⟨rfl,e⟩⟩)
 obtain⟨lab,hlab⟩:=iC (C6 blk xs cb rv) fun b l l' h1 h2=>by
  rcases cls h1 with ⟨e1,rfl⟩|⟨⟨e1,_⟩,rfl⟩|⟨i,x,t,hx,lv,rfl,lc,q⟩ <;>rcases cls h2 with ⟨e2,rfl⟩|⟨⟨e2,_⟩,rfl⟩|⟨j,y,t',hy,lv',e,lc',q'⟩ <;>first
   |rfl
   |omega
   |skip
  have ht:=G.inj t t' lv lv' e;subst ht;rcases q with ⟨rfl,rfl⟩|⟨rfl,rfl⟩ <;>rcases q' with ⟨e',rfl⟩|⟨e',rfl⟩ <;>cases e'
  ·rw [nidx hx hy]
  ·rw [nidx hx hy]
 have linj:∀b b' l,lab b=some l->lab b' =some l->b=b' :=by
  intro b b' l h1 h2
  rcases(hlab _ _).1 h1 with ⟨rfl,rfl⟩|⟨g1,rfl⟩|⟨i,x,hx,⟨rfl,rfl⟩|⟨rfl,rfl⟩⟩ <;>rcases(hlab _ _).1 h2 with ⟨rfl,e⟩|⟨g2,e⟩|⟨j,y,hy,⟨rfl,e⟩|⟨rfl,e⟩⟩ <;>first
   |rfl
   |(cases e;done)
   |skip
  ·rw [g1] at g2;exact Yz g2
  ·cases e;rw [hx] at hy;cases hy;rfl
  ·cases e;rw [hx] at hy;cases hy;rfl
 let hwf:Nat->Nat:=fun b=>match lab b with |some l=>N8 xs fr l|none=>0
 have how:∀ {b l},C6 blk xs cb rv b l->(E.ended w' lab hwf).ow b=some (.arr (.h 0) l.1 l.2)/\(E.ended w' lab hwf).hw b=N8 xs fr l:=by
  intro b l h;have:=(hlab _ _).2 h;simp only [Env.ended,hwf,this];exact⟨trivial,trivial⟩
 have hww:(E.ended w' lab hwf).w=w' :=rfl;refine⟨lab,hwf,linj,fun b l h=>by rw [hEw,hsz];exact rng ((hlab _ _).1 h),⟨_,rfl,rfl,rfl,rfl,⟨⟨#[]⟩,rfl,rfl⟩,.nil none 0 _ ⟨rfl,rfl⟩,?_,?_,trivial⟩⟩
 ·obtain⟨o1,o2⟩:=how (.inl ⟨rfl,rfl⟩:C6 blk xs cb rv cb (5,[]));have hc:w'.heap[cb]? =some (.cells #[.string ta,.string tb] 9 (0,0)):=(hW cb (by have:=G.rng .map trivial;have:=lt .map trivial;omega)).trans T.col;refine .sl cb 0 2 2 1 _ (fun i _=>if i=0 then .string ta else .string tb) rfl (Zi _) (fun r hr=> ?_) ⟨o1,o2,Zi _,_,_,0,0,hc,rfl,fun o a b=>by omega⟩ (fun i j hi hj=> ?_) (fun i j hi hj=> ?_)
  ·obtain⟨y,_,rfl⟩:=Zk.1 hr
   rfl
  ·have hj:j<1:=hj;obtain rfl:j=0:=by omega
   have:i=0\/i=1:=by omega
   rcases this with rfl|rfl
   ·exact⟨by rw [hww];simp only [World.cell?,hc];rfl,by rw [o2];show _<2;omega,o1⟩
   ·exact⟨by rw [hww];simp only [World.cell?,hc];rfl,by rw [o2];show _<2;omega,o1⟩
  ·have hi2:i<2:=hi;have:i=0\/i=1:=by omega
   rcases this with rfl|rfl
   ·have hj' :j<1:=hj;obtain rfl:j=0:=by omega
    exact .str ta
   ·have hj' :j<1:=hj;obtain rfl:j=0:=by omega
    exact .str tb
 ·rcases T.rows with ⟨hl0,⟨e,hn0⟩|⟨g,cap,cur,e,h2,h3,h4,h5,h6,h7⟩⟩
  ·have:xs=[]:=Z0.1 hn0;subst this;rw [e];exact .nil none 0 _ ⟨rfl,rfl⟩
  ·rw [e];obtain⟨o1,o2⟩:=how (.inr (.inl ⟨by rw [e];rfl,rfl⟩):C6 blk xs cb rv g (6,[]));have hg:w'.heap[g]? =some (.cells cur 77 (0,0)):=(hW g (by have:=G.rng .map trivial;have:=lt .map trivial;omega)).trans h3;have hcur:∀(i:Nat) (x:Int),xs[i]? =some x->cur[i*2]? =some (.slice (some ⟨blk (.cel x),0,none⟩) 2 2)/\cur[i*2+1]? =some (.slice (some ⟨blk (.frm x),0,none⟩) (fr x).length (fc x)):=by
    intro i x hx;obtain⟨hi,_⟩:=Zt.1 hx;have key:∀(l:List Int) (i:Nat) (x:Int),l[i]? =some x->(Dc blk fr fc l)[i*2]? =some (.slice (some ⟨blk (.cel x),0,none⟩) 2 2)/\(Dc blk fr fc l)[i*2+1]? =some (.slice (some ⟨blk (.frm x),0,none⟩) (fr x).length (fc x)):=by
     intro l
     induction l with
     |nil=>intro i x h;cases h
     |cons y l ih=>
      intro i x h;cases i with
      |zero=>
       simp at h;subst h;exact⟨rfl,rfl⟩
      |succ i=>
       have:=ih i x (by simpa using h);rw [show(i+1)*2=i*2+1+1 by omega];exact this
    obtain⟨k1,k2⟩:=key xs i x hx;rw [<-h7] at k1 k2;rw [YL] at k1 k2;rw [Zw (by omega)] at k1 k2;exact⟨by simpa using k1,by simpa using k2⟩
   refine .sl g 0 xs.length cap 2 _ (fun i j=>match xs[i]? with |some x=>if j=0 then .slice (some ⟨blk (.cel x),0,none⟩) 2 2 else .slice (some ⟨blk (.frm x),0,none⟩) (fr x).length (fc x) |none=>undef) (by simp) h4 (fun r hr=> ?_) ⟨o1,o2,h4,_,_,0,0,hg,h6.symm,fun o a b=>by omega⟩ (fun i j hi hj=> ?_) (fun i j hi hj=> ?_)
   ·obtain⟨y,_,rfl⟩:=Zk.1 hr
    rfl
   ·have hx:xs[i]? =some xs[i]:=Zx hi;have hj:j<2:=hj;obtain⟨k1,k2⟩:=hcur i _ hx;simp only [hx];refine⟨?_,by rw [o2];show 0+i*2+j<xs.length*2;omega,o1⟩;rw [hww];simp only [World.cell?,hg];have:j=0\/j=1:=by omega
    rcases this with rfl|rfl
    ·rw [show 0+i*2+0=i*2 by omega];exact k1
    ·rw [show 0+i*2+1=i*2+1 by omega];exact k2
   ·have hi' :i<xs.length:=by simpa using hi
    have hx:xs[i]? =some xs[i]:=Zx hi';have hm:xs[i]∈ks:=hperm _ (Z4 hi');have hr:(List.map Ty.row.toD (xs.map fun x=>(⟨[x,sm x],fr x⟩:Rowd)))[i]=Rowd.toD ⟨[xs[i],sm xs[i]],fr xs[i]⟩:=by rw [Z7,Z7];rfl
    have hj2:j<2:=by rw [hr] at hj;exact hj
    simp only [hx,hr]
    match j,hj2 with
    |0,_=>
     obtain⟨p1,p2⟩:=how (.inr (.inr ⟨i,_,hx,.inl ⟨rfl,rfl⟩⟩):C6 blk xs cb rv (blk (.cel xs[i])) (6,[(i,0)]));have rc:=G.rng (.cel xs[i]) hm;have hc:w'.heap[blk (.cel xs[i])]? =some (.cells #[.int .i64 xs[i],.int .i64 (sm xs[i])] 3 (0,0)):=(hW _ rc.1).trans (G.cel _ hm);refine .sl (blk (.cel xs[i])) 0 2 2 1 [[.int .i64 xs[i]],[.int .i64 (sm xs[i])]] (fun i' _=>if i' =0 then .int .i64 xs[i] else .int .i64 (sm xs[i])) rfl (Zi _) (fun r hr=> ?_) ⟨p1,p2,Zi _,_,_,0,0,hc,rfl,fun o a b=>by omega⟩ (fun i' j hi hj=> ?_) (fun i' j hi hj=> ?_)
     ·simp at hr;rcases hr with rfl|rfl <;>rfl
     ·have hj:j<1:=hj;obtain rfl:j=0:=by omega
      have:i' =0\/i' =1:=by omega
      rcases this with rfl|rfl
      ·exact⟨by rw [hww];simp only [World.cell?,hc];rfl,by rw [p2];show _<2;omega,p1⟩
      ·exact⟨by rw [hww];simp only [World.cell?,hc];rfl,by rw [p2];show _<2;omega,p1⟩
     ·have hi2:i' <2:=hi;have:i' =0\/i' =1:=by omega
      rcases this with rfl|rfl
      ·have hj' :j<1:=hj;obtain rfl:j=0:=by omega
       exact .int .i64 _
      ·have hj' :j<1:=hj;obtain rfl:j=0:=by omega
       exact .int .i64 _
    |1,_=>
     obtain⟨p1,p2⟩:=how (.inr (.inr ⟨i,_,hx,.inr ⟨rfl,rfl⟩⟩):C6 blk xs cb rv (blk (.frm xs[i])) (6,[(i,1)]));have p2:(E.ended w' lab hwf).hw (blk (.frm xs[i]))=(fr xs[i]).length*2:=by
      rw [p2];show(fr (xs.getD i 0)).length*2=_;rw [ZW,hx]
      rfl
     have rc:=G.rng (.frm xs[i]) ⟨hm,by simp⟩;have ho:=(G.frm _ hm (by simp)).kept (hW _ rc.1);have ho' :=ho;obtain⟨q1,cs,ty,lo,hi',q2,q3,q4,_⟩:=ho';exact xKf (w:=(E.ended w' lab hwf).w) ho (fun o ho=>⟨by rw [p2];exact ho,p1⟩) ⟨p1,p2,q1,cs,ty,lo,hi',q2,q3,q4⟩
end
end Go.Ab
end
section
namespace Go.Ab
open Go.Proofs Go.RowKit Go.Shelf
set_option maxRecDepth 100000
theorem xLb:Iu:=fun blk cap zs w h1 h2 h3=>Any.sort_Ints Tryz.lays191 blk 0 cap zs w h1 h2 h3
section
variable [Inhabited Lb]
theorem xPj:Fi:=xBb
theorem Ip{E:Env}{bxs:Nat->Prop}{pl:Pl}{c0 c1 c2 c3 c4 c5 c6:CV}{l:List Value}(h:VRs E bxs pl 0 [c0,c1,c2,c3,c4,c5,c6] l):
 ∃v0 v1 v2 v3 v4 v5 v6,l=[v0,v1,v2,v3,v4,v5,v6]/\VRc E bxs pl 3 c3 v3/\VRc E bxs pl 6 c6 v6:=by
 rcases l with _|⟨v0,l⟩
 ·exact h.elim
 obtain⟨_,h⟩:=h;rcases l with _|⟨v1,l⟩
 ·exact h.elim
 obtain⟨_,h⟩:=h;rcases l with _|⟨v2,l⟩
 ·exact h.elim
 obtain⟨_,h⟩:=h;rcases l with _|⟨v3,l⟩
 ·exact h.elim
 obtain⟨q3,h⟩:=h;rcases l with _|⟨v4,l⟩
 ·exact h.elim
 obtain⟨_,h⟩:=h;rcases l with _|⟨v5,l⟩
 ·exact h.elim
 obtain⟨_,h⟩:=h;rcases l with _|⟨v6,l⟩
 ·exact h.elim
 obtain⟨q6,h⟩:=h;rcases l with _|⟨v7,l⟩
 ·exact⟨v0,v1,v2,v3,v4,v5,v6,rfl,q3,q6⟩
 ·exact h.elim
theorem E4{a:Act}{k:Nat}{v:Value}(hs:a.tmps.size=153)(hk:k<153)(h:a.tmps.getD k undef=v):a.tmps[k]? =some v:=by
 have hk:k<a.tmps.size:=by omega
 rw [Yv,Xq hk] at h;rw [Xq hk];exact Zd some h
theorem xGh{x9 x10:Int}{b3 b4 b5:Val}{r:Val×Bool}{I:Info}{σ:St}{c0 c1 c2 c3 c4 c5 c6:CV}(hst:zAr 8 I.body=[.code (Rg 8),.code L9])(hx:I.ext=[])(hl:I.lnt=[])(hn:I.nt=153)
 (g6:σ.get 6= .v false [.ptr 3 0]) (g8:σ.get 8= .v false [.ptr 4 0]) (g10:σ.get 10= .v false [.ptr 5 0]) (g12:σ.get 12= .v false [.ptr 6 0]) (g18:σ.get 18= .v false [.int .i64 x9]) (g20:σ.get 20= .v false [.int .i64 x10])
 (g7:σ.get 7= .v true [.int .i64 (Val.kind b3),.int .i64 (Val.n b3),.int .i64 (Val.step b3),.str (Val.text b3),.sl .ro .val (Val.list b3),.sl .ro .str (Val.columns b3),.sl .ro .row (Val.rows b3)])
 (g9:σ.get 9= .v true [.int .i64 (Val.kind b4),.int .i64 (Val.n b4),.int .i64 (Val.step b4),.str (Val.text b4),.sl .ro .val (Val.list b4),.sl .ro .str (Val.columns b4),.sl .ro .row (Val.rows b4)])
 (g11:σ.get 11= .v true [.int .i64 (Val.kind b5),.int .i64 (Val.n b5),.int .i64 (Val.step b5),.str (Val.text b5),.sl .ro .val (Val.list b5),.sl .ro .str (Val.columns b5),.sl .ro .row (Val.rows b5)])
 (g13:σ.get 13= .v true [c0,c1,c2,c3,c4,c5,c6])
 (h:zAj x9 x10 b3 b4 b5=some r):Reach Tryz.prog Tryz.f42 I (zAr 8 I.body) σ (JZ r):=by
 unfold zAj at h;split at h
 case isFalse=>cases h
 rename_i hc;obtain⟨hi0,hk0,hall,hlen⟩:=hc;obtain⟨i,rfl⟩:∃i:Nat,x9=i:=⟨x9.toNat,by omega⟩;obtain⟨k,rfl⟩:∃k:Nat,x10=k:=⟨x10.toNat,by omega⟩;rw [jI,jI] at h hall;have hok:∀r∈Val.rows b5,RowOk i k r:=fun r hr=>by
  have:=Zu.1 hall r hr;simp only [xP,Zv,Z1] at this;exact⟨this.1.1,this.1.2,this.2⟩
 rw [hst];refine Reach.tail fun C hP hnt hext a w hR=> ?_;obtain⟨hd,E,rfl,hi⟩:=hR;have hs:a.tmps.size=153:=hi.nt.trans (hnt.trans hn);have t3:=hi.tmp 3;rw [show 2*3=6 from rfl,g6] at t3;have t4:=hi.tmp 4;rw [show 2*4=8 from rfl,g8] at t4;have t5:=hi.tmp 5;rw [show 2*5=10 from rfl,g10] at t5;have t6:=hi.tmp 6;rw [show 2*6=12 from rfl,g12] at t6;have t9:=hi.tmp 9;rw [show 2*9=18 from rfl,g18] at t9;have t10:=hi.tmp 10;rw [show 2*10=20 from rfl,g20] at t10;obtain⟨⟨e3,_⟩,_⟩:=t3;obtain⟨⟨e4,_⟩,_⟩:=t4;obtain⟨⟨e5,_⟩,_⟩:=t5;obtain⟨⟨e6,_⟩,_⟩:=t6;obtain⟨e9,_⟩:=t9;obtain⟨e10,_⟩:=t10;obtain⟨o3,vals3,ty3,hb3,hv3⟩:=hi.box 3 _ g7;obtain⟨o4,vals4,ty4,hb4,hv4⟩:=hi.box 4 _ g9;obtain⟨o5,vals5,ty5,hb5,hv5⟩:=hi.box 5 _ g11;obtain⟨o6,vals6,ty6,hb6,hv6⟩:=hi.box 6 _ g13;obtain⟨_,_,_,v3,_,_,_,l3,⟨ta,rfl,hta⟩,_⟩:=Ip hv3;obtain⟨_,_,_,v4,_,_,_,l4,⟨tb,rfl,htb⟩,_⟩:=Ip hv4;obtain⟨_,_,_,_,_,_,v5,l5,_,hrow⟩:=Ip hv5;obtain⟨u0,u1,u2,u3,u4,u5,u6,l6,_,_⟩:=Ip hv6;have hB6:E.w.heap[E.bx 6]? =some (.cells #[u0,u1,u2,u3,u4,u5,u6] ty6 (0,0)):=by rw [hb6,show vals6= #[u0,u1,u2,u3,u4,u5,u6] from Y3 l6]
 have k3:E.w.cell? ⟨E.bx 3,3,none⟩=some (.string ta):=by
  have:vals3[3]? =some (.string ta):=by rw [<-ZY,l3];rfl
  simp only [World.cell?,hb3];exact this
 have k4:E.w.cell? ⟨E.bx 4,3,none⟩=some (.string tb):=by
  have:vals4[3]? =some (.string tb):=by rw [<-ZY,l4];rfl
  simp only [World.cell?,hb4];exact this
 have k5:E.w.cell? ⟨E.bx 5,6,none⟩=some v5:=by
  have:vals5[6]? =some v5:=by rw [<-ZY,l5];rfl
  simp only [World.cell?,hb5];exact this
 have hlaid:∀x∈jW,x.1<E.w.heap.size/\E.w.heap[x.1]? =some x.2:=fun x hx=>by
  obtain⟨b1,b2,b3,_⟩:=hi.base x hx;exact⟨ZC b1 hi.size,(hi.old x.1 b1 b2).1.trans b3⟩
 have hrs:Fg E.w v5 (Val.rows b5):=xKL hrow;have W:=xPq xPj xLb hlaid hrs hok hlen k3 k4 k5 hB6 (a:=a) ⟨hd,hs,E4 hs (by decide) e3,E4 hs (by decide) e4,E4 hs (by decide) e5,E4 hs (by decide) e6,E4 hs (by decide) e9,E4 hs (by decide) e10⟩;have hex:∀s b,C.ext s=some b->False:=fun s b hb=>by have:=hext s b hb;rw [hx] at this;simp at this
 have hB6l:E.bx 6<E.w.heap.size:=(Zg.1 hB6).1;refine wp_mono W ?_;intro e a1 w1 h1;cases e with
 |normal=>
  refine wp_mono h1 ?_;rintro e a' w' ⟨rfl,d1,d2,d3,Wd,hbel,hcase⟩;refine⟨rfl,?_⟩;have d3' :a'.tmps.getD 6 undef= .pointer (some ⟨E.bx 6,0,none⟩):=Bt d3;rcases hcase with ⟨hall,hC⟩|⟨hall,blk,fc,cb,rv,hC,T⟩
  ·rw [Zf (by rw [hall];simp)] at h;cases h;have hz:=hbel.size;refine Lk (B6:=E.bx 6) (lab:=fun _=>none) (hwf:=fun _=>0) hi hex hx hl (by rw [o6];simp) ⟨hC.os.trans hbel.os,hC.tape.trans hbel.tape,hC.output.trans hbel.output⟩ (by rw [hC.size];exact hz) (fun b hb hne=>(hC.other b hne).trans (hbel.block b hb)) d1 (d2.trans (hn.symm.trans hnt.symm)) (fun b b' l h=>by cases h) (fun b l h=>by cases h) (v:= .agg Li) rfl ?_ ?_
   ·exact⟨_,rfl,rfl,rfl,rfl,⟨⟨#[]⟩,rfl,rfl⟩,.nil none 0 _ ⟨rfl,rfl⟩,.nil none 0 _ ⟨rfl,rfl⟩,.nil none 0 _ ⟨rfl,rfl⟩,trivial⟩
   ·rw [hP];exact KJ rfl d3' hC.at'
  ·rw [Zw hall] at h;cases h;have hz:=hbel.size;obtain⟨rp,rc,rfl⟩:=KH T.rows;have hperm:∀x∈oO i (Val.rows b5),x∈uM i (Val.rows b5):=fun x hx=>Xx.1 hx;obtain⟨kc,G⟩:=T.rel;have hnd:(oO i (Val.rows b5)).Nodup:=(Xc _ _).nodup_iff.2 G.nodup;obtain⟨lab,hwf,j1,j2,j3⟩:=xO6 E rfl T (w' :=w') (fun b hb=>hC.other b (by omega)) hC.size hperm hnd;rw [hta,htb] at j3;refine Lk (B6:=E.bx 6) (lab:=lab) (hwf:=hwf) hi hex hx hl (by rw [o6];simp) ⟨hC.os.trans hbel.os,hC.tape.trans hbel.tape,hC.output.trans hbel.output⟩ (by rw [hC.size];exact hz) (fun b hb hne=>(hC.other b hne).trans (hbel.block b hb)) d1 (d2.trans (hn.symm.trans hnt.symm)) j1 j2 rfl j3 ?_;rw [hP];exact KJ rfl d3' hC.at'
 |exit id=>exact h1.elim
 |goto l=>exact h1.elim
 |ret=>exact h1.elim
 |panic c=>exact h1.elim
 |outgrown=>exact h1.elim
end
end Go.Ab
end
section
open Go.Proofs
namespace Go.Ab.T
set_option maxRecDepth 100000
variable [Inhabited Lb]
theorem xFa:FnOk Tryz.prog 22 Tryz.f22 (mI Tryz.f22 26 [.tmp 2] [0,4,6,8,12,24,40,48] [] []):=fO Tryz.func22
theorem Ok{N a0 r}(h:BR N a0=some r):AbC 22 (xLO a0) (xLP r):=
 oK xFa <| cE (oA h) (fun h=>dE h) fun h=>cE h (fun h=>dE (rb Y 0 h)) fun h=>cE h (fun h=>dE (rb Y 0 h)) fun h=>cE h (fun h=>dE (rb Y 0 h)) fun h=>cE h (fun h=>dE (rb Y 0 h)) fun h=>cE h (fun h=>dE h) fun h=>cE h (fun h=>dE (rb Y 0 h)) fun h=>cE h (fun h=>dE (rb Y 0 h)) fun h=>cE h (fun h=>dE (rb Y 0 h)) fun h=>cE h (fun h=>dE (rb Y 0 h)) fun h=>cE h (fun h=>dE (rb Y 0 h)) fun h=>cE h (fun h=>dE (rb Y 0 h)) fun h=>cE h (fun h=>dE h) fun h=>cE h (fun h=>dE (rb Y 0 h)) fun h=>cE h (fun h=>dE (rb Y 0 h)) fun h=>cE h (fun h=>dE h) fun h=>cE h (fun h=>dE h) fun h=>dE h
theorem xEO:FnOk Tryz.prog 12 Tryz.f12 (mI Tryz.f12 5 [.cell 2 30] [0,4,5] [] []):=fO Tryz.func12
theorem zE{N a0 r}(h:yZ N a0=some r):AbC 12 (xMb a0) (xMc r):=
 oK xEO <| dE (oA h)
theorem xFv:FnOk Tryz.prog 66 Tryz.f66 (mI Tryz.f66 15 [.tmp 6] [0,2,4,12] [] [(1,[(3,.take,false)])]):=fO Tryz.func66
theorem IS{N a0 a1 a2 r}(h:EE N a0 a1 a2=some r):AbC 66 (xNh a0 a1 a2) (xNi r):=
 oK xFv <| cE (oA h) (fun h=>dE h) fun h=>dE h
theorem xFu:FnOk Tryz.prog 62 Tryz.f62 (mI Tryz.f62 5 [.tmp 2] [0,4] [] []):=fO Tryz.func62
theorem EK{N a0 r}(h:Bm N a0=some r):AbC 62 (xN7 a0) (xN8 r):=
 oK xFu <| bE (oA h) IS fun r1 h=>dE h
theorem M8:FnOk Tryz.prog 63 Tryz.f63 (mI Tryz.f63 29 [.tmp 2] [0,4,6,14,50] [(2,[0,6])] [(4,[(4,.take,false),(10,.take,false)])]):=fO Tryz.func63
def xCr(x0:Str)(x3:Int):St:=[(0,(vT x0)),(6,(vI x3))]
theorem xDY{N}:∀n x0 x3 r,Cw N n x0 x3=some r->RS M8 2 (xCr x0 x3) (xAg r):=
 nI (fun _ _ _ h=>nE h) fun n ih x0 x3 r h=>cE (oA h) (fun h=>cE (iE h) (fun h=>dS (cb Y (cb Y h))) fun h=>cE (rp 1 h) (fun h=>dS (cb Y h)) fun h=>cE (rp 3 h) (fun h=>dS h) fun h=>tS h (ih _ _ _ h.2)) fun h=>dS h
theorem xMp{N a0 r}(h:K0 N a0=some r):AbC 63 (xMo a0) (xAg r):=
 oK M8 <| tE (oA h) (xDY _ _ _ _ h)
theorem xER:FnOk Tryz.prog 122 Tryz.f122 (mI Tryz.f122 16 [.tmp 2] [0,2,4,3] [] [(1,[(3,.take,false),(8,.take,false)])]):=fO Tryz.func122
theorem xN0{N a0 r}(h:Ki N a0=some r):AbC 122 (xNZ a0) (xN1 r):=
 oK xER <| cE (oA h) (fun h=>dE (cb Y h)) fun h=>cE h (fun h=>dE h) fun h=>dE h
theorem xE2:FnOk Tryz.prog 154 Tryz.f154 (mI Tryz.f154 10 [.tmp 4] [0,2,8,14] [] []):=fO Tryz.func154
theorem xNm{N a0 a1 r}(h:IU N a0 a1=some r):AbC 154 (xNl a0 a1) (xNn r):=
 oK xE2 <| cE (oA h) (fun h=>dE h) fun h=>dE h
def Iq(q:Val->Option (Int)):Prop:=∀a0 r,q a0=some r->AbC 123 (KW a0) (IF r)
theorem MD:FnOk Tryz.prog 123 Tryz.f123 (mI Tryz.f123 22 [.tmp 2] [0,2,4,6,8,18,3] [(3,[2,6,8,3])] []):=fO Tryz.func123
def xBB(x3 x4:Int)(b1:Val):St:=[(2,(vP 1)),(6,(vI x3)),(8,(vI x4)),(3,(vV .ro b1))]
theorem xDd{N}{q0}(g0:Iq q0):∀n x3 x4 b1 r,FN N q0 n x3 x4 b1=some r->RS MD 3 (xBB x3 x4 b1) (IF r):=
 nI (fun _ _ _ _ h=>nE h) fun n ih x3 x4 b1 r h=>cE (oA h) (fun h=>bE (iE h) (g0 _ _) fun r1 h=>bE h xNm fun r2 h=>tS h (ih _ _ _ _ h.2)) fun h=>dS h
theorem xL1{N}{q0}(g0:Iq q0){a0 r}(h:Oo N q0 a0=some r):AbC 123 (KW a0) (IF r):=
 oK MD <| tE (oA h) (xDd g0 _ _ _ _ _ h)
theorem xAa{N:Nat}:∀d,Iq (Dq N d)
 |0=>fun _ _ h=>nE h
 |d+1=>fun _ _ h=>xL1 (N:=N) (xAa d) h
theorem xL2{N:Nat}{a0:Val}{r:Int}(h:IE N a0=some r):AbC 123 (KW a0) (IF r):=xAa N _ r h
theorem MP:FnOk Tryz.prog 152 Tryz.f152 (mI Tryz.f152 45 [.tmp 2] [0,4,6,8,10,18,82] [(2,[0,6])] [(4,[(4,.take,false)]),(5,[(4,.take,false)]),(6,[(0,.take,false),(2,.take,false),(5,.take,false),(6,.take,false)])]):=fO Tryz.func152
def xBN(x0:Str)(x3:Int):St:=[(0,(vT x0)),(6,(vI x3))]
theorem xDo{N}:∀n x0 x3 r,Bl N n x0 x3=some r->RS MP 2 (xBN x0 x3) (xAz r):=
 nI (fun _ _ _ h=>nE h) fun n ih x0 x3 r h=>cE (oA h) (fun h=>cE (iE h) (fun h=>cE (rp 2 (rp 1 h)) (fun h=>cE (rp 4 h) (fun h=>cE h (fun h=>dS (cb Y h)) fun h=>cE h (fun h=>dS h) fun h=>tS h (ih _ _ _ h.2)) fun h=>tS (cb F h) (ih _ _ _ (cb F h).2)) fun h=>cE h (fun h=>cE h (fun h=>dS (cb Y h)) fun h=>dS (cb Y h)) fun h=>tS (cb F h) (ih _ _ _ (cb F h).2)) fun h=>cE (rp 1 h) (fun h=>cE (cb Y (rp 3 h)) (fun h=>dS (cb Y h)) fun h=>cE h (fun h=>dS h) fun h=>tS h (ih _ _ _ h.2)) fun h=>cE (cb Y h) (fun h=>dS (cb Y h)) fun h=>dS (cb Y h)) fun h=>dS h
theorem xNJ{N a0 r}(h:Kc N a0=some r):AbC 152 (xNH a0) (xAz r):=
 oK MP <| tE (oA h) (xDo _ _ _ _ h)
theorem xE6:FnOk Tryz.prog 172 Tryz.f172 (mI Tryz.f172 2 [.tmp 0] [0] [] []):=fO Tryz.func172
theorem xNF{N  r}(h:Kb N  =some r):AbC 172 (xNE ) (xNG r):=
 oK xE6 <| dE (oA h)
theorem MN:FnOk Tryz.prog 150 Tryz.f150 (mI Tryz.f150 18 [.tmp 4] [0,2,8,10,18,34] [(2,[0,2,10])] []):=fO Tryz.func150
def xBL(x0:List Str)(x1:Str)(x5:Int):St:=[(0,(vS .ro .str x0)),(2,(vT x1)),(10,(vI x5))]
theorem xDm{N}:∀n x0 x1 x5 r,ED N n x0 x1 x5=some r->RS MN 2 (xBL x0 x1 x5) (xAt r):=
 nI (fun _ _ _ _ h=>nE h) fun n ih x0 x1 x5 r h=>cE (oA h) (fun h=>cE (iE h) (fun h=>dS h) fun h=>tS h (ih _ _ _ _ h.2)) fun h=>dS h
theorem xAs{N a0 a1 r}(h:IR N a0 a1=some r):AbC 150 (xNg a0 a1) (xAt r):=
 oK MN <| tE (oA h) (xDm _ _ _ _ _ h)
theorem xE1:FnOk Tryz.prog 153 Tryz.f153 (mI Tryz.f153 6 [.tmp 2] [0,4] [] []):=fO Tryz.func153
theorem xMk{N a0 r}(h:IH N a0=some r):AbC 153 (xMi a0) (xMl r):=
 oK xE1 <| bE (oA h) xNF fun r1 h=>bE h xAs fun r2 h=>dE h
theorem xEQ:FnOk Tryz.prog 121 Tryz.f121 (mI Tryz.f121 15 [.tmp 2] [0,4] [] [(1,[(2,.take,false),(7,.take,false)])]):=fO Tryz.func121
theorem xAe{N a0 r}(h:GX N a0=some r):AbC 121 (xMm a0) (xMn r):=
 oK xEQ <| bE (oA h) xNJ fun r1 h=>cE h (fun h=>cE h (fun h=>bE h xMk fun r2 h=>dE h) fun h=>dE h) fun h=>dE (cb F h)
theorem Ly:FnOk Tryz.prog 115 Tryz.f115 (mI Tryz.f115 18 [.tmp 2] [0,4,6,14,34] [(2,[0,6])] []):=fO Tryz.func115
def xBw(x0:List Str)(x3:Int):St:=[(0,(vS .ro .str x0)),(6,(vI x3))]
theorem xC8{N}:∀n x0 x3 r,Dm N n x0 x3=some r->RS Ly 2 (xBw x0 x3) (Oj r):=
 nI (fun _ _ _ h=>nE h) fun n ih x0 x3 r h=>cE (oA h) (fun h=>bE (iE (iE h)) xAs fun r1 h=>cE h (fun h=>dS h) fun h=>tS h (ih _ _ _ h.2)) fun h=>dS h
theorem KU{N a0 r}(h:GW N a0=some r):AbC 115 (xLN a0) (Oj r):=
 oK Ly <| tE (oA h) (xC8 _ _ _ _ h)
theorem Lz:FnOk Tryz.prog 116 Tryz.f116 (mI Tryz.f116 23 [.tmp 2] [0,4,6,14,30] [(2,[0,6])] [(6,[(3,.take,false)])]):=fO Tryz.func116
def xBx(x0:List Str)(x3:Int):St:=[(0,(vS .ro .str x0)),(6,(vI x3))]
theorem xC9{N}:∀n x0 x3 r,FW N n x0 x3=some r->RS Lz 2 (xBx x0 x3) (xAD r):=
 nI (fun _ _ _ h=>nE h) fun n ih x0 x3 r h=>cE (oA h) (fun h=>bE (iE h) xAe fun r1 h=>cE h (fun h=>dS h) fun h=>tS h (ih _ _ _ h.2)) fun h=>bE h IS fun r1 h=>cE h (fun h=>bE h KU fun r2 h=>dS h) fun h=>dS h
theorem xAC{N a0 r}(h:IY N a0=some r):AbC 116 (xNR a0) (xAD r):=
 oK Lz <| tE (oA h) (xC9 _ _ _ _ h)
theorem xE3:FnOk Tryz.prog 155 Tryz.f155 (mI Tryz.f155 24 [.tmp 4] [0,2,4,6,8,5,7] [] [(1,[(5,.take,false),(11,.take,false)])]):=fO Tryz.func155
theorem IW{N a0 a1 r}(h:EF N a0 a1=some r):AbC 155 (xNN a0 a1) (xNO r):=
 oK xE3 <| cE (oA h) (fun h=>dE h) fun h=>cE h (fun h=>dE h) fun h=>dE h
theorem ME:FnOk Tryz.prog 124 Tryz.f124 (mI Tryz.f124 41 [.tmp 2] [0,4,6,14,80] [(2,[0,6])] [(4,[(6,.take,false),(14,.take,false),(17,.take,false)])]):=fO Tryz.func124
def xBC(x0:List Org)(x3:Int):St:=[(0,(vS .ro .org x0)),(6,(vI x3))]
theorem xDe{N}:∀n x0 x3 r,Cz N n x0 x3=some r->RS ME 2 (xBC x0 x3) (xAA r):=
 nI (fun _ _ _ h=>nE h) fun n ih x0 x3 r h=>cE (oA h) (fun h=>cE (iE h) (fun h=>dS (cb Y (cb Y h))) fun h=>cE (rp 1 h) (fun h=>dS (cb Y h)) fun h=>cE h (fun h=>bE (rp 5 (iE h)) IW fun r1 h=>cE h (fun h=>dS h) fun h=>tS h (ih _ _ _ h.2)) fun h=>tS (cb F h) (ih _ _ _ (cb F h).2)) fun h=>dS h
theorem xNM{N a0 r}(h:Kd N a0=some r):AbC 124 (xNK a0) (xAA r):=
 oK ME <| tE (oA h) (xDe _ _ _ _ h)
theorem HG:FnOk Tryz.prog 65 Tryz.f65 (mI Tryz.f65 55 [.tmp 2] [0,2,4,6,8,10,30,40,80,90,108,3,9] [(4,[2,6,3]),(10,[2,6,8,10,3,9])] [(1,[(4,.take,false)]),(7,[(7,.take,false)])]):=fO Tryz.func65
def LI(x3:Int)(b1:Val):St:=[(2,(vP 1)),(6,(vI x3)),(3,(vV .ro b1))]
def xCt(x3 x5:Int)(b1:Val)(b4:Rowd):St:=[(2,(vP 1)),(6,(vI x3)),(8,(vP 4)),(10,(vI x5)),(3,(vV .ro b1)),(9,.v true [.sl .ro .int b4.cells,.sl .ro .org b4.frm])]
theorem xD0{N}{k4}(hk4:∀z0 z1 r,k4 z0 z1=some r->RS HG 4 (LI z0 z1) (Ia r)):∀n x3 x5 b1 b4 r,EL N k4 n x3 x5 b1 b4=some r->RS HG 10 (xCt x3 x5 b1 b4) (Ia r):=
 nI (fun _ _ _ _ _ h=>nE h) fun n ih x3 x5 b1 b4 r h=>cE (oA h) (fun h=>bE (iE h) EK fun r1 h=>cE h (fun h=>dS h) fun h=>tS h (ih _ _ _ _ _ h.2)) fun h=>tS h (hk4 _ _ _ h.2)
theorem xD1{N}:∀n x3 b1 r,EM N n x3 b1=some r->RS HG 4 (LI x3 b1) (Ia r):=
 nI (fun _ _ _ h=>nE h) fun n ih x3 b1 r h=>cE (oA h) (fun h=>cE (iE h) (fun h=>dS (cb Y h)) fun h=>bE h xNM fun r1 h=>cE h (fun h=>dS h) fun h=>tS h (xD0 ih _ _ _ _ _ _ h.2)) fun h=>dS h
theorem xOj{N a0 r}(h:I9 N a0=some r):AbC 65 (xOg a0) (Ia r):=
 oK HG <| bE (oA h) xAC fun r1 h=>cE h (fun h=>dE (cb Y h)) fun h=>cE h (fun h=>dE h) fun h=>tE h (xD1 _ _ _ _ h.2)
def G10(q:Val->Option (Bool)):Prop:=∀a0 r,q a0=some r->AbC 10 (K6 a0) (K8 r)
def G64(q:Val->Option (Bool)):Prop:=∀a0 r,q a0=some r->AbC 64 (xAL a0) (Kk r)
theorem xEG:FnOk Tryz.prog 10 Tryz.f10 (mI Tryz.f10 95 [.tmp 2] [0,2,4,52,88,92,94,104,124,142,162,180,3] [] [(1,[(3,.take,false),(9,.take,false),(13,.take,false)]),(3,[(3,.take,false),(8,.take,false),(12,.take,false)]),(9,[(3,.take,false)]),(11,[(3,.take,false)]),(13,[(3,.take,false)]),(15,[(3,.take,false)])]):=fO Tryz.func10
theorem xMq{N}{q0}(g0:G10 q0){q1}(g1:G64 q1){a0 r}(h:II N q0 q1 a0=some r):AbC 10 (K6 a0) (K8 r):=
 oK xEG <| cE (oA h) (fun h=>cE h (fun h=>dE (cb Y h)) fun h=>cE h (fun h=>cE h (fun h=>dE h) fun h=>cE h (fun h=>cE h (fun h=>dE (cb Y h)) fun h=>cE h (fun h=>cE h (fun h=>dE h) fun h=>cE h (fun h=>bE h EK fun r1 h=>dE h) fun h=>cE (ax ((a0.kind:Int)==5) false (zAq (gt 9 (ax ((a0.kind:Int)==4) false (zAq (gt 4 (ax ((a0.kind:Int)==3) false (zAq (gt 9 (ax ((a0.kind:Int)==2) false (zAq (gt 4 h)) h))) (ax ((a0.kind:Int)==2) false (zAq (gt 4 h)) h)))) (ax ((a0.kind:Int)==3) false (zAq (gt 9 (ax ((a0.kind:Int)==2) false (zAq (gt 4 h)) h))) (ax ((a0.kind:Int)==2) false (zAq (gt 4 h)) h))))) (ax ((a0.kind:Int)==4) false (zAq (gt 4 (ax ((a0.kind:Int)==3) false (zAq (gt 9 (ax ((a0.kind:Int)==2) false (zAq (gt 4 h)) h))) (ax ((a0.kind:Int)==2) false (zAq (gt 4 h)) h)))) (ax ((a0.kind:Int)==3) false (zAq (gt 9 (ax ((a0.kind:Int)==2) false (zAq (gt 4 h)) h))) (ax ((a0.kind:Int)==2) false (zAq (gt 4 h)) h)))) (fun h=>bE h IS fun r1 h=>dE h) fun h=>dE h) fun h=>bE (ax ((a0.kind:Int)==4) true (zAq (gt 4 (ax ((a0.kind:Int)==3) false (zAq (gt 9 (ax ((a0.kind:Int)==2) false (zAq (gt 4 (ax ((a0.kind:Int)==1) false (zAi (zAq (gt 1 (cb F h))) rfl) (cb F h)))) (ax ((a0.kind:Int)==1) false (zAi (zAq (gt 1 (cb F h))) rfl) (cb F h))))) (ax ((a0.kind:Int)==2) false (zAq (gt 4 (ax ((a0.kind:Int)==1) false (zAi (zAq (gt 1 (cb F h))) rfl) (cb F h)))) (ax ((a0.kind:Int)==1) false (zAi (zAq (gt 1 (cb F h))) rfl) (cb F h)))))) (ax ((a0.kind:Int)==3) false (zAq (gt 9 (ax ((a0.kind:Int)==2) false (zAq (gt 4 (ax ((a0.kind:Int)==1) false (zAi (zAq (gt 1 (cb F h))) rfl) (cb F h)))) (ax ((a0.kind:Int)==1) false (zAi (zAq (gt 1 (cb F h))) rfl) (cb F h))))) (ax ((a0.kind:Int)==2) false (zAq (gt 4 (ax ((a0.kind:Int)==1) false (zAi (zAq (gt 1 (cb F h))) rfl) (cb F h)))) (ax ((a0.kind:Int)==1) false (zAi (zAq (gt 1 (cb F h))) rfl) (cb F h))))) EK fun r1 h=>cE h (fun h=>bE h EK fun r2 h=>dE h) fun h=>dE h) fun h=>cE (ax ((a0.kind:Int) != 4) true (zAo (zAi (zAq (gt 1 (cb F h))) rfl)) (cb F h)) (fun h=>dE h) fun h=>cE (ax ((a0.kind:Int)==2) true (zAq (gt 4 (ax ((a0.kind:Int)==1) false (zAi (zAq (gt 3 h)) rfl) h))) (ax ((a0.kind:Int)==1) false (zAi (zAq (gt 3 h)) rfl) h)) (fun h=>bE h xMp fun r1 h=>dE h) fun h=>dE h) fun h=>cE (ax ((a0.kind:Int) != 2) true (zAo (zAi (zAq (gt 1 (cb F h))) rfl)) (cb F h)) (fun h=>dE (cb Y h)) fun h=>cE (ax ((a0.kind:Int) != 4) true (zAo (zAi (zAq (gt 3 h)) rfl)) h) (fun h=>dE h) fun h=>cE (ax ((a0.kind:Int)==5) true (zAq (gt 9 (ax ((a0.kind:Int)==4) false (zAi (zAq (gt 8 (ax ((a0.kind:Int)==3) false (zAq (gt 9 (ax ((a0.kind:Int)==2) false (zAi (zAq (gt 6 (ax ((a0.kind:Int)==1) false (zAi (zAq (gt 5 h)) rfl) h))) rfl) (ax ((a0.kind:Int)==1) false (zAi (zAq (gt 5 h)) rfl) h)))) (ax ((a0.kind:Int)==2) false (zAi (zAq (gt 6 (ax ((a0.kind:Int)==1) false (zAi (zAq (gt 5 h)) rfl) h))) rfl) (ax ((a0.kind:Int)==1) false (zAi (zAq (gt 5 h)) rfl) h))))) rfl) (ax ((a0.kind:Int)==3) false (zAq (gt 9 (ax ((a0.kind:Int)==2) false (zAi (zAq (gt 6 (ax ((a0.kind:Int)==1) false (zAi (zAq (gt 5 h)) rfl) h))) rfl) (ax ((a0.kind:Int)==1) false (zAi (zAq (gt 5 h)) rfl) h)))) (ax ((a0.kind:Int)==2) false (zAi (zAq (gt 6 (ax ((a0.kind:Int)==1) false (zAi (zAq (gt 5 h)) rfl) h))) rfl) (ax ((a0.kind:Int)==1) false (zAi (zAq (gt 5 h)) rfl) h)))))) (ax ((a0.kind:Int)==4) false (zAi (zAq (gt 8 (ax ((a0.kind:Int)==3) false (zAq (gt 9 (ax ((a0.kind:Int)==2) false (zAi (zAq (gt 6 (ax ((a0.kind:Int)==1) false (zAi (zAq (gt 5 h)) rfl) h))) rfl) (ax ((a0.kind:Int)==1) false (zAi (zAq (gt 5 h)) rfl) h)))) (ax ((a0.kind:Int)==2) false (zAi (zAq (gt 6 (ax ((a0.kind:Int)==1) false (zAi (zAq (gt 5 h)) rfl) h))) rfl) (ax ((a0.kind:Int)==1) false (zAi (zAq (gt 5 h)) rfl) h))))) rfl) (ax ((a0.kind:Int)==3) false (zAq (gt 9 (ax ((a0.kind:Int)==2) false (zAi (zAq (gt 6 (ax ((a0.kind:Int)==1) false (zAi (zAq (gt 5 h)) rfl) h))) rfl) (ax ((a0.kind:Int)==1) false (zAi (zAq (gt 5 h)) rfl) h)))) (ax ((a0.kind:Int)==2) false (zAi (zAq (gt 6 (ax ((a0.kind:Int)==1) false (zAi (zAq (gt 5 h)) rfl) h))) rfl) (ax ((a0.kind:Int)==1) false (zAi (zAq (gt 5 h)) rfl) h))))) (fun h=>bE h xOj fun r1 h=>dE h) fun h=>dE h) fun h=>cE (ax ((a0.kind:Int) != 5) true (zAo (zAi (zAq (gt 1 (cb F h))) rfl)) (cb F h)) (fun h=>dE h) fun h=>cE (ax ((a0.kind:Int) != 2) true (zAo (zAi (zAq (gt 3 h)) rfl)) h) (fun h=>dE (cb Y h)) fun h=>cE (ax ((a0.kind:Int) != 4) true (zAo (zAi (zAq (gt 5 h)) rfl)) h) (fun h=>dE h) fun h=>cE (ax ((a0.kind:Int)==3) true (zAq (gt 9 (ax ((a0.kind:Int)==2) false (zAi (zAq (gt 8 (ax ((a0.kind:Int)==1) false (zAi (zAq (gt 7 h)) rfl) h))) rfl) (ax ((a0.kind:Int)==1) false (zAi (zAq (gt 7 h)) rfl) h)))) (ax ((a0.kind:Int)==2) false (zAi (zAq (gt 8 (ax ((a0.kind:Int)==1) false (zAi (zAq (gt 7 h)) rfl) h))) rfl) (ax ((a0.kind:Int)==1) false (zAi (zAq (gt 7 h)) rfl) h))) (fun h=>bE h (g1 _ _) fun r1 h=>dE h) fun h=>dE h
theorem M9:FnOk Tryz.prog 64 Tryz.f64 (mI Tryz.f64 36 [.tmp 2] [0,2,4,6,16,52,3] [(2,[2,6,3])] [(4,[(7,.take,false)]),(6,[(4,.take,false)])]):=fO Tryz.func64
def xCs(x3:Int)(b1:Val):St:=[(2,(vP 1)),(6,(vI x3)),(3,(vV .ro b1))]
theorem xDZ{N}{q0}(g0:G10 q0){q1}(g1:G64 q1):∀n x3 b1 r,DA N q0 q1 n x3 b1=some r->RS M9 2 (xCs x3 b1) (Kk r):=
 nI (fun _ _ _ h=>nE h) fun n ih x3 b1 r h=>cE (oA h) (fun h=>bE (iE h) xN0 fun r1 h=>cE h (fun h=>dS (cb Y h)) fun h=>bE (rp 2 h) (g0 _ _) fun r2 h=>cE h (fun h=>dS h) fun h=>tS h (ih _ _ _ h.2)) fun h=>cE h (fun h=>bE h xL2 fun r1 h=>dS h) fun h=>dS h
theorem xN4{N}{q0}(g0:G10 q0){q1}(g1:G64 q1){a0 r}(h:xAM N q0 q1 a0=some r):AbC 64 (xAL a0) (Kk r):=
 oK M9 <| tE (oA h) (xDZ g0 g1 _ _ _ _ h)
theorem xMr{N:Nat}:∀d,G10 (AN N d).c_spec_IsValidValue/\G64 (AN N d).c_spec_l3List:=by
 intro d
 induction d with
 |zero=>exact⟨fun _ _ h=>nE h,fun _ _ h=>nE h⟩
 |succ d ih=>
  obtain⟨ih0,ih1⟩:=ih;exact⟨fun _ _ h=>xMq (N:=N) ih0 ih1 h,fun _ _ h=>xN4 (N:=N) ih0 ih1 h⟩
theorem K7{N:Nat}{a0:Val}{r:Bool}(h:GY N a0=some r):AbC 10 (K6 a0) (K8 r):=(xMr N).1 _ r h
theorem Lu:FnOk Tryz.prog 106 Tryz.f106 (mI Tryz.f106 31 [.cell 2 30,.tmp 3] [0,4,6,8,16,32,46,5] [(2,[0,4,8,5])] []):=fO Tryz.func106
def xBn(x0:List Val)(x4:Int)(b2:Val):St:=[(0,(vS .ro .val x0)),(4,(vP 2)),(8,(vI x4)),(5,(vV .own b2))]
theorem xC1{N}:∀n x0 x4 b2 r,DC N n x0 x4 b2=some r->RS Lu 2 (xBn x0 x4 b2) (xAT r):=
 nI (fun _ _ _ _ h=>nE h) fun n ih x0 x4 b2 r h=>cE (oA h) (fun h=>bE (iE h) K7 fun r1 h=>cE h (fun h=>bE h zE fun r2 h=>dS h) fun h=>cE (rp 2 h) (fun h=>bE (rp 4 h) zE fun r2 h=>dS h) fun h=>tS h (ih _ _ _ _ h.2)) fun h=>dS h
theorem Ic{N a0 r}(h:Fa N a0=some r):AbC 106 (xOo a0) (xAT r):=
 oK Lu <| tE (oA h) (xC1 _ _ _ _ _ h)
theorem xEK:FnOk Tryz.prog 11 Tryz.f11 (mI Tryz.f11 5 [.cell 2 30] [0,4,5] [] []):=fO Tryz.func11
theorem zW{N a0 r}(h:zK N a0=some r):AbC 11 (xME a0) (xMF r):=
 oK xEK <| dE (oA h)
theorem xFo:FnOk Tryz.prog 48 Tryz.f48 (mI Tryz.f48 31 [.cell 2 30] [0,2,4,6,8,22,28,44,3,5,7] [] [(1,[(3,.take,false)]),(2,[(0,.take,false)]),(3,[(0,.take,false)])]):=fO Tryz.func48
theorem xMx{N a0 r}(h:IK N a0=some r):AbC 48 (xMw a0) (xMy r):=
 oK xFo <| bE (oA h) Ic fun r1 h=>cE h (fun h=>dE h) fun h=>cE h (fun h=>bE h zW fun r2 h=>dE h) fun h=>cE h (fun h=>bE h zW fun r2 h=>dE h) fun h=>bE h zE fun r2 h=>dE h
theorem xEI:FnOk Tryz.prog 107 Tryz.f107 (mI Tryz.f107 9 [.cell 2 30] [0,4,10,5] [] []):=fO Tryz.func107
theorem Om{N a0 r}(h:Dn N a0=some r):AbC 107 (xLS a0) (xLT r):=
 oK xEI <| bE (oA h) EK fun r1 h=>cE h (fun h=>bE h zE fun r2 h=>dE h) fun h=>bE h zW fun r2 h=>dE h
theorem M1:FnOk Tryz.prog 49 Tryz.f49 (mI Tryz.f49 50 [.cell 2 30] [0,2,4,6,8,10,12,26,34,48,66,94,3,5,7,11] [(8,[2,4,10,12,3,5,11])] [(1,[(3,.take,false)]),(2,[(0,.take,false)]),(3,[(0,.take,false)]),(14,[(0,.take,false)]),(15,[(0,.take,false)])]):=fO Tryz.func49
def xCf(x6:Int)(b1 b2 b5:Val):St:=[(2,(vP 1)),(4,(vP 2)),(10,(vP 5)),(12,(vI x6)),(3,(vV .ro b1)),(5,(vV .own b2)),(11,(vV .own b5))]
theorem xDK{N}:∀n x6 b1 b2 b5 r,CQ N n x6 b1 b2 b5=some r->RS M1 8 (xCf x6 b1 b2 b5) (xAl r):=
 nI (fun _ _ _ _ _ h=>nE h) fun n ih x6 b1 b2 b5 r h=>cE (oA h) (fun h=>cE (iE h) (fun h=>bE h zE fun r1 h=>dS h) fun h=>bE (rp 1 h) Om fun r1 h=>cE h (fun h=>dS h) fun h=>tS h (ih _ _ _ _ _ h.2)) fun h=>dS h
theorem xMN{N a0 r}(h:IN N a0=some r):AbC 49 (xMM a0) (xAl r):=
 oK M1 <| bE (oA h) Ic fun r1 h=>cE h (fun h=>dE h) fun h=>cE h (fun h=>bE h zE fun r2 h=>dE h) fun h=>bE h zW fun r2 h=>tE h (xDK _ _ _ _ _ _ h.2)
theorem Lv:FnOk Tryz.prog 108 Tryz.f108 (mI Tryz.f108 34 [.cell 4 30,.tmp 5] [0,2,8,10,12,14,16,28,38,62,9,13] [(5,[0,2,8,16,9])] [(1,[(2,.take,false)]),(2,[(0,.take,false)]),(3,[(0,.take,false)])]):=fO Tryz.func108
def xBo(x0:List Val)(x1:List Int)(x8:Int)(b4:Val):St:=[(0,(vS .ro .val x0)),(2,(vS .ro .int x1)),(8,(vP 4)),(16,(vI x8)),(9,(vV .own b4))]
theorem xC2{N}:∀n x0 x1 x8 b4 r,DD N n x0 x1 x8 b4=some r->RS Lv 5 (xBo x0 x1 x8 b4) (xAU r):=
 nI (fun _ _ _ _ _ h=>nE h) fun n ih x0 x1 x8 b4 r h=>cE (oA h) (fun h=>cE (iE (iE h)) (fun h=>bE h zE fun r1 h=>dS h) fun h=>tS h (ih _ _ _ _ _ h.2)) fun h=>dS h
theorem CY{N a0 a1 r}(h:BT N a0 a1=some r):AbC 108 (xOx a0 a1) (xAU r):=
 oK Lv <| bE (oA h) Ic fun r1 h=>cE h (fun h=>dE h) fun h=>tE h (xC2 _ _ _ _ _ _ h.2)
theorem xFp:FnOk Tryz.prog 50 Tryz.f50 (mI Tryz.f50 18 [.cell 2 30] [0,2,4,6,8,24,3,5,7] [] [(1,[(4,.take,false)]),(2,[(0,.take,false)]),(3,[(0,.take,false)])]):=fO Tryz.func50
theorem xLZ{N a0 r}(h:ID N a0=some r):AbC 50 (xLY a0) (xL0 r):=
 oK xFp <| bE (oA h) CY fun r1 h=>cE h (fun h=>dE h) fun h=>bE h zW fun r2 h=>dE h
theorem xEJ:FnOk Tryz.prog 109 Tryz.f109 (mI Tryz.f109 32 [.cell 4 30,.tmp 5] [0,2,4,6,8,10,12,14,30,58,5,7,9,13] [] [(1,[(4,.take,false)]),(2,[(0,.take,false)]),(3,[(0,.take,false)]),(4,[(3,.take,false),(7,.take,false)])]):=fO Tryz.func109
theorem Ko{N a0 a1 r}(h:Fb N a0 a1=some r):AbC 109 (xOv a0 a1) (xOw r):=
 oK xEJ <| bE (oA h) Ic fun r1 h=>cE h (fun h=>dE h) fun h=>cE h (fun h=>bE (cb Y h) zE fun r2 h=>dE h) fun h=>cE h (fun h=>cE h (fun h=>bE h zE fun r2 h=>dE h) fun h=>dE h) fun h=>dE (cb F h)
theorem xEN:FnOk Tryz.prog 118 Tryz.f118 (mI Tryz.f118 12 [.cell 2 77] [0,2,4,3,5] [] []):=fO Tryz.func118
theorem xAQ{N a0 r}(h:Gc N a0=some r):AbC 118 (xOc a0) (xOd r):=
 oK xEN <| dE (iE (iE (oA h)))
def Gp(q:Val->Option (Val)):Prop:=∀a0 r,q a0=some r->AbC 112 (Kf a0) (G9 r)
theorem JL:FnOk Tryz.prog 112 Tryz.f112 (mI Tryz.f112 56 [.cell 2 30] [0,2,4,6,8,10,46,82,3,5,7] [(3,[2,4,6,8,3,5,7]),(7,[2,4,6,10,3,5,7])] [(5,[(1,.take,false),(9,.take,false)]),(9,[(1,.take,false),(9,.take,false)]),(10,[(0,.take,false)])]):=fO Tryz.func112
def xBt(x4:Int)(b1 b2 b3:Val):St:=[(2,(vP 1)),(4,(vP 2)),(6,(vP 3)),(8,(vI x4)),(3,(vV .ro b1)),(5,(vV .own b2)),(7,(vV .own b3))]
def xBu(x5:Int)(b1 b2 b3:Val):St:=[(2,(vP 1)),(4,(vP 2)),(6,(vP 3)),(10,(vI x5)),(3,(vV .ro b1)),(5,(vV .own b2)),(7,(vV .own b3))]
theorem xC6{N}{q0}(g0:Gp q0):∀n x5 b1 b2 b3 r,EI N q0 n x5 b1 b2 b3=some r->RS JL 7 (xBu x5 b1 b2 b3) (G9 r):=
 nI (fun _ _ _ _ _ h=>nE h) fun n ih x5 b1 b2 b3 r h=>cE (oA h) (fun h=>bE (iE h) xAQ fun r1 h=>tS (iE h) (ih _ _ _ _ _ (iE h).2)) fun h=>dS h
theorem xC5{N}{q0}(g0:Gp q0):∀n x4 b1 b2 b3 r,FX N q0 n x4 b1 b2 b3=some r->RS JL 3 (xBt x4 b1 b2 b3) (G9 r):=
 nI (fun _ _ _ _ _ h=>nE h) fun n ih x4 b1 b2 b3 r h=>cE (oA h) (fun h=>bE (iE h) (g0 _ _) fun r1 h=>tS (iE h) (ih _ _ _ _ _ (iE h).2)) fun h=>tS h (xC6 g0 _ _ _ _ _ _ h.2)
theorem xNS{N}{q0}(g0:Gp q0){a0 r}(h:IZ N q0 a0=some r):AbC 112 (Kf a0) (G9 r):=
 oK JL <| tE (iE (oA h)) (xC5 g0 _ _ _ _ _ _ (iE (oA h)).2)
theorem xAE{N:Nat}:∀d,Gp (EJ N d)
 |0=>fun _ _ h=>nE h
 |d+1=>fun _ _ h=>xNS (N:=N) (xAE d) h
theorem Kg{N:Nat}{a0:Val}{r:Val}(h:EH N a0=some r):AbC 112 (Kf a0) (G9 r):=xAE N _ r h
theorem xFr:FnOk Tryz.prog 53 Tryz.f53 (mI Tryz.f53 51 [.cell 4 30] [0,2,4,6,8,10,12,26,60,68,5,7,9,11] [] [(1,[(3,.take,false)]),(2,[(0,.take,false)]),(3,[(0,.take,false)]),(4,[(3,.take,false),(7,.take,false)])]):=fO Tryz.func53
theorem IL{N a0 a1 r}(h:An N a0 a1=some r):AbC 53 (xMC a0 a1) (xMD r):=
 oK xFr <| bE (oA h) Ko fun r1 h=>cE h (fun h=>dE h) fun h=>cE h (fun h=>bE (cb Y h) zE fun r2 h=>dE h) fun h=>cE h (fun h=>cE h (fun h=>bE h zE fun r2 h=>dE h) fun h=>bE (iE (rb Y 1 h)) Kg fun r2 h=>dE h) fun h=>bE (rb F 1 (cb F h)) Om fun r2 h=>dE h
theorem M3:FnOk Tryz.prog 51 Tryz.f51 (mI Tryz.f51 56 [.cell 4 30] [0,2,4,6,8,10,12,14,16,18,32,42,54,78,94,5,7,9,11,15,19] [(8,[4,6,8,14,16,5,7,9,15])] [(1,[(3,.take,false)]),(2,[(0,.take,false)]),(3,[(0,.take,false)]),(10,[(3,.take,false)]),(11,[(0,.take,false)]),(14,[(0,.take,false)]),(15,[(1,.take,false),(2,.take,false),(4,.take,false)]),(16,[(0,.take,false)])]):=fO Tryz.func51
def xCh(x8:Int)(b2 b3 b4 b7:Val):St:=[(4,(vP 2)),(6,(vP 3)),(8,(vP 4)),(14,(vP 7)),(16,(vI x8)),(5,(vV .ro b2)),(7,(vV .ro b3)),(9,(vV .own b4)),(15,(vV .own b7))]
theorem xDM{N}:∀n x8 b2 b3 b4 b7 r,BZ N n x8 b2 b3 b4 b7=some r->RS M3 8 (xCh x8 b2 b3 b4 b7) (xAn r):=
 nI (fun _ _ _ _ _ _ h=>nE h) fun n ih x8 b2 b3 b4 b7 r h=>cE (oA h) (fun h=>cE h (fun h=>cE h (fun h=>dS h) fun h=>bE h zW fun r1 h=>bE h IL fun r2 h=>cE h (fun h=>dS h) fun h=>tS (iE h) (ih _ _ _ _ _ _ (iE h).2)) fun h=>bE (cb F h) zW fun r1 h=>bE h IL fun r2 h=>cE h (fun h=>dS h) fun h=>tS (iE h) (ih _ _ _ _ _ _ (iE h).2)) fun h=>dS h
theorem xMR{N a0 a1 r}(h:EB N a0 a1=some r):AbC 51 (xMQ a0 a1) (xAn r):=
 oK M3 <| bE (oA h) Ko fun r1 h=>cE h (fun h=>dE h) fun h=>bE h IS fun r2 h=>cE h (fun h=>bE h zE fun r3 h=>dE h) fun h=>tE h (xDM _ _ _ _ _ _ _ h.2)
theorem xEL:FnOk Tryz.prog 111 Tryz.f111 (mI Tryz.f111 10 [.tmp 4] [0,2,8,14] [] []):=fO Tryz.func111
theorem xNp{N a0 a1 r}(h:IV N a0 a1=some r):AbC 111 (xNo a0 a1) (xNq r):=
 oK xEL <| cE (oA h) (fun h=>dE h) fun h=>dE h
theorem Lw:FnOk Tryz.prog 110 Tryz.f110 (mI Tryz.f110 23 [.cell 2 30] [0,4,6,8,18,5,7] [(3,[0,4,6,8,5,7])] [(5,[(1,.take,false),(8,.take,false)]),(6,[(0,.take,false)])]):=fO Tryz.func110
def xBs(x0:List Val)(x4:Int)(b2 b3:Val):St:=[(0,(vS .ro .val x0)),(4,(vP 2)),(6,(vP 3)),(8,(vI x4)),(5,(vV .own b2)),(7,(vV .own b3))]
theorem xC4{N}:∀n x0 x4 b2 b3 r,FP N n x0 x4 b2 b3=some r->RS Lw 3 (xBs x0 x4 b2 b3) (xAh r):=
 nI (fun _ _ _ _ _ h=>nE h) fun n ih x0 x4 b2 b3 r h=>cE (oA h) (fun h=>bE (iE h) Kg fun r1 h=>tS (iE h) (ih _ _ _ _ _ (iE h).2)) fun h=>dS h
theorem xMB{N a0 r}(h:K9 N a0=some r):AbC 110 (xMz a0) (xAh r):=
 oK Lw <| tE (oA h) (xC4 _ _ _ _ _ _ h)
theorem xFz:FnOk Tryz.prog 83 Tryz.f83 (mI Tryz.f83 8 [.cell 4 30] [0,2,8,9] [] []):=fO Tryz.func83
theorem IM{N a0 a1 r}(h:EA N a0 a1=some r):AbC 83 (xMK a0 a1) (xML r):=
 oK xFz <| dE (oA h)
theorem xFq:FnOk Tryz.prog 52 Tryz.f52 (mI Tryz.f52 45 [.cell 4 30] [0,2,4,6,8,10,12,14,28,36,44,76,5,7,9,11,15] [] [(1,[(3,.take,false)]),(2,[(0,.take,false)]),(3,[(0,.take,false)]),(10,[(0,.take,false)])]):=fO Tryz.func52
theorem xMH{N a0 a1 r}(h:Dz N a0 a1=some r):AbC 52 (xMG a0 a1) (xMI r):=
 oK xFq <| bE (oA h) Ko fun r1 h=>cE h (fun h=>dE h) fun h=>cE h (fun h=>bE h zE fun r2 h=>dE h) fun h=>cE h (fun h=>bE h xNp fun r2 h=>bE (iE h) xMB fun r3 h=>dE h) fun h=>bE h IL fun r2 h=>cE h (fun h=>dE h) fun h=>bE h IM fun r3 h=>dE h
theorem xFs:FnOk Tryz.prog 54 Tryz.f54 (mI Tryz.f54 22 [.cell 4 30] [0,2,4,6,8,10,12,30,5,7,9,11] [] [(1,[(5,.take,false)]),(2,[(0,.take,false)]),(3,[(0,.take,false)])]):=fO Tryz.func54
theorem xNa{N a0 a1 r}(h:IQ N a0 a1=some r):AbC 54 (xM9 a0 a1) (xNb r):=
 oK xFs <| bE (oA h) CY fun r1 h=>cE h (fun h=>dE h) fun h=>bE h IM fun r2 h=>dE h
theorem Lx:FnOk Tryz.prog 113 Tryz.f113 (mI Tryz.f113 36 [.tmp 4] [0,2,8,10,12,14,24,50] [(4,[0,2,10,12,14])] [(6,[(4,.take,false)]),(7,[(0,.take,false),(2,.take,false)]),(9,[(0,.take,false)])]):=fO Tryz.func113
def xBv(x0:Str)(x1:Int)(x5:List Str)(x6 x7:Int):St:=[(0,(vT x0)),(2,.v false [.int .u8 x1]),(10,(vS .own .str x5)),(12,(vI x6)),(14,(vI x7))]
theorem xC7{N}:∀n x0 x1 x5 x6 x7 r,CP N n x0 x1 x5 x6 x7=some r->RS Lx 4 (xBv x0 x1 x5 x6 x7) (xAk r):=
 nI (fun _ _ _ _ _ _ h=>nE h) fun n ih x0 x1 x5 x6 x7 r h=>cE (oA h) (fun h=>cE h (fun h=>tS (iE (iE (cb Y h))) (ih _ _ _ _ _ _ (iE (iE (cb Y h))).2)) fun h=>cE (iE h) (fun h=>tS (iE (iE h)) (ih _ _ _ _ _ _ (iE (iE h)).2)) fun h=>tS h (ih _ _ _ _ _ _ h.2)) fun h=>dS h
theorem xAj{N a0 a1 r}(h:G3 N a0 a1=some r):AbC 113 (xMJ a0 a1) (xAk r):=
 oK Lx <| tE (oA h) (xC7 _ _ _ _ _ _ _ h)
theorem MM:FnOk Tryz.prog 149 Tryz.f149 (mI Tryz.f149 19 [.tmp 4] [0,2,8,10,18,34] [(2,[0,2,10])] []):=fO Tryz.func149
def xBK(x0:List Str)(x1:Str)(x5:Int):St:=[(0,(vS .ro .str x0)),(2,(vT x1)),(10,(vI x5))]
theorem xDl{N}:∀n x0 x1 x5 r,Du N n x0 x1 x5=some r->RS MM 2 (xBK x0 x1 x5) (xAc r):=
 nI (fun _ _ _ _ h=>nE h) fun n ih x0 x1 x5 r h=>cE (oA h) (fun h=>cE (iE h) (fun h=>dS h) fun h=>tS h (ih _ _ _ _ h.2)) fun h=>dS h
theorem xMh{N a0 a1 r}(h:KZ N a0 a1=some r):AbC 149 (xMf a0 a1) (xAc r):=
 oK MM <| tE (oA h) (xDl _ _ _ _ _ h)
theorem xEM:FnOk Tryz.prog 114 Tryz.f114 (mI Tryz.f114 9 [.tmp 4] [0,2,4,8,5] [] []):=fO Tryz.func114
theorem BY{N a0 a1 r}(h:Aw N a0 a1=some r):AbC 114 (xLU a0 a1) (xLV r):=
 oK xEM <| bE (oA h) xMh fun r1 h=>dE h
theorem Fr:FnOk Tryz.prog 55 Tryz.f55 (mI Tryz.f55 95 [.cell 4 30] [0,2,4,6,8,10,12,14,16,18,20,22,24,42,62,90,102,132,5,7,9,11,17,23] [(7,[6,8,14,16,18,7,9,17]),(12,[6,8,14,16,20,7,9,17]),(16,[6,8,14,16,20,22,24,7,9,17,23])] [(1,[(5,.take,false)]),(2,[(0,.take,false)]),(3,[(0,.take,false)]),(4,[(2,.cp,true)]),(9,[(7,.take,false)]),(18,[(1,.take,false)]),(19,[(1,.take,false),(2,.take,false),(4,.take,false)]),(20,[(0,.take,false)])] (fcast:=[(9,4,true),(9,5,true),(9,6,true)])):=fO Tryz.func55
def xCj(x7:List Str)(x9:Int)(b3 b4 b8:Val):St:=[(6,(vP 3)),(8,(vP 4)),(14,(vS .ro .str x7)),(16,(vP 8)),(18,(vI x9)),(7,(vV .ro b3)),(9,(vV .own b4)),(17,.v true [.int .i64 b8.kind,.int .i64 b8.n,.int .i64 b8.step,.str b8.text,.sl .own .val b8.list,.sl .ro .str b8.columns,.sl .own .row b8.rows])]
def LG(x7:List Str)(x10:Int)(b3 b4 b8:Val):St:=[(6,(vP 3)),(8,(vP 4)),(14,(vS .ro .str x7)),(16,(vP 8)),(20,(vI x10)),(7,(vV .ro b3)),(9,(vV .own b4)),(17,.v true [.int .i64 b8.kind,.int .i64 b8.n,.int .i64 b8.step,.str b8.text,.sl .own .val b8.list,.sl .ro .str b8.columns,.sl .own .row b8.rows])]
def xCi(x7:List Str)(x10 x12:Int)(b3 b4 b8:Val)(b11:Rowd):St:=[(6,(vP 3)),(8,(vP 4)),(14,(vS .ro .str x7)),(16,(vP 8)),(20,(vI x10)),(22,(vP 11)),(24,(vI x12)),(7,(vV .ro b3)),(9,(vV .own b4)),(17,.v true [.int .i64 b8.kind,.int .i64 b8.n,.int .i64 b8.step,.str b8.text,.sl .own .val b8.list,.sl .ro .str b8.columns,.sl .own .row b8.rows]),(23,.v true [.sl .own .int b11.cells,.sl .own .org b11.frm])]
theorem xDO{N}{k12}(hk12:∀z0 z1 z2 z3 z4 r,k12 z0 z1 z2 z3 z4=some r->RS Fr 12 (LG z0 z1 z2 z3 z4) (G0 r)):∀n x7 x10 x12 b3 b4 b8 b11 r,Dy N k12 n x7 x10 x12 b3 b4 b8 b11=some r->RS Fr 16 (xCi x7 x10 x12 b3 b4 b8 b11) (G0 r):=
 nI (fun _ _ _ _ _ _ _ _ h=>nE h) fun n ih x7 x10 x12 b3 b4 b8 b11 r h=>cE (oA h) (fun h=>bE (iE (iE h)) BY fun r1 h=>tS (iE (iE h)) (ih _ _ _ _ _ _ _ _ (iE (iE h)).2)) fun h=>tS (iE h) (hk12 _ _ _ _ _ _ (iE h).2)
theorem xDN{N}:∀n x7 x10 b3 b4 b8 r,CN N n x7 x10 b3 b4 b8=some r->RS Fr 12 (LG x7 x10 b3 b4 b8) (G0 r):=
 nI (fun _ _ _ _ _ _ h=>nE h) fun n ih x7 x10 b3 b4 b8 r h=>cE (oA h) (fun h=>tS (iE (iE h)) (xDO ih _ _ _ _ _ _ _ _ _ (iE (iE h)).2)) fun h=>dS h
theorem xDP{N}:∀n x7 x9 b3 b4 b8 r,CO N n x7 x9 b3 b4 b8=some r->RS Fr 7 (xCj x7 x9 b3 b4 b8) (G0 r):=
 nI (fun _ _ _ _ _ _ h=>nE h) fun n ih x7 x9 b3 b4 b8 r h=>cE (oA h) (fun h=>bE (iE h) BY fun r1 h=>cE h (fun h=>bE (cb Y h) zE fun r2 h=>dS h) fun h=>bE h KU fun r2 h=>cE h (fun h=>bE h zE fun r3 h=>dS h) fun h=>tS h (ih _ _ _ _ _ _ h.2)) fun h=>tS h (xDN _ _ _ _ _ _ _ h.2)
theorem xMv{N a0 a1 r}(h:GZ N a0 a1=some r):AbC 55 (xMu a0 a1) (G0 r):=
 oK Fr <| bE (oA h) CY fun r1 h=>cE h (fun h=>dE h) fun h=>bE h xAj fun r2 h=>tE h (xDP _ _ _ _ _ _ _ h.2)
theorem M4:FnOk Tryz.prog 56 Tryz.f56 (mI Tryz.f56 56 [.cell 4 30] [0,2,4,6,8,10,12,14,16,18,36,50,60,74,5,7,9,11,17] [(11,[6,8,14,16,18,7,9,17])] [(1,[(5,.take,false)]),(2,[(0,.take,false)]),(3,[(0,.take,false)]),(13,[(1,.take,false),(13,.take,false)]),(14,[(0,.take,false)])]):=fO Tryz.func56
def xCk(x7 x9:Int)(b3 b4 b8:Val):St:=[(6,(vP 3)),(8,(vP 4)),(14,(vI x7)),(16,(vP 8)),(18,(vI x9)),(7,(vV .ro b3)),(9,(vV .own b4)),(17,(vV .own b8))]
theorem xDQ{N}:∀n x7 x9 b3 b4 b8 r,Dp N n x7 x9 b3 b4 b8=some r->RS M4 11 (xCk x7 x9 b3 b4 b8) (On r):=
 nI (fun _ _ _ _ _ _ h=>nE h) fun n ih x7 x9 b3 b4 b8 r h=>cE (oA h) (fun h=>bE (iE (iE h)) zW fun r1 h=>tS (iE h) (ih _ _ _ _ _ _ (iE h).2)) fun h=>dS h
theorem xLX{N a0 a1 r}(h:FM N a0 a1=some r):AbC 56 (xLW a0 a1) (On r):=
 oK M4 <| bE (oA h) CY fun r1 h=>cE h (fun h=>dE h) fun h=>bE h BY fun r2 h=>cE h (fun h=>bE h zE fun r3 h=>dE h) fun h=>cE h (fun h=>bE h zE fun r3 h=>dE h) fun h=>tE h (xDQ _ _ _ _ _ _ _ h.2)
theorem MA:FnOk Tryz.prog 117 Tryz.f117 (mI Tryz.f117 35 [.tmp 2,.tmp 3] [0,2,4,6,8,10,22,40,3] [(3,[2,8,10,3])] [(6,[(0,.take,false)]),(7,[(0,.take,false)]),(8,[(0,.take,false)])]):=fO Tryz.func117
def xBy(x4:List Int)(x5:Int)(b1:Val):St:=[(2,(vP 1)),(8,(vS .own .int x4)),(10,(vI x5)),(3,(vV .ro b1))]
theorem xDa{N}:∀n x4 x5 b1 r,EN N n x4 x5 b1=some r->RS MA 3 (xBy x4 x5 b1) (xAV r):=
 nI (fun _ _ _ _ h=>nE h) fun n ih x4 x5 b1 r h=>cE (oA h) (fun h=>cE (iE h) (fun h=>dS h) fun h=>tS (iE (rp 1 h)) (ih _ _ _ _ (iE (rp 1 h)).2)) fun h=>dS h
theorem xOC{N a0 r}(h:Ie N a0=some r):AbC 117 (xOB a0) (xAV r):=
 oK MA <| tE (oA h) (xDa _ _ _ _ _ h)
theorem M5:FnOk Tryz.prog 57 Tryz.f57 (mI Tryz.f57 65 [.cell 4 30] [0,2,4,6,8,10,12,14,16,18,20,38,56,68,110,5,7,9,11,15] [(8,[6,8,14,16,7,9,15])] [(1,[(5,.take,false)]),(2,[(0,.take,false)]),(3,[(0,.take,false)]),(10,[(6,.take,false)]),(11,[(0,.take,false),(2,.take,false)]),(13,[(1,.take,false),(2,.take,false),(5,.take,false)]),(14,[(0,.take,false)])]):=fO Tryz.func57
def xCl(x8:Int)(b3 b4 b7:Val):St:=[(6,(vP 3)),(8,(vP 4)),(14,(vP 7)),(16,(vI x8)),(7,(vV .ro b3)),(9,(vV .own b4)),(15,(vV .own b7))]
theorem xDR{N}:∀n x8 b3 b4 b7 r,CR N n x8 b3 b4 b7=some r->RS M5 8 (xCl x8 b3 b4 b7) (xAm r):=
 nI (fun _ _ _ _ _ h=>nE h) fun n ih x8 b3 b4 b7 r h=>cE (oA h) (fun h=>bE (iE h) xOC fun r1 h=>cE h (fun h=>bE (cb Y h) zE fun r2 h=>dS h) fun h=>cE h (fun h=>bE h zE fun r2 h=>dS h) fun h=>tS (iE h) (ih _ _ _ _ _ (iE h).2)) fun h=>dS h
theorem xMP{N a0 a1 r}(h:G6 N a0 a1=some r):AbC 57 (xMO a0 a1) (xAm r):=
 oK M5 <| bE (oA h) CY fun r1 h=>cE h (fun h=>dE h) fun h=>bE h xAj fun r2 h=>bE h xAC fun r3 h=>cE h (fun h=>bE h zE fun r4 h=>dE h) fun h=>tE h (xDR _ _ _ _ _ _ h.2)
theorem M6:FnOk Tryz.prog 58 Tryz.f58 (mI Tryz.f58 66 [.cell 6 30] [0,2,4,6,8,10,12,14,16,18,20,22,42,56,78,106,7,9,11,13,15,21] [(9,[8,10,12,18,20,22,9,11,13,21])] [(1,[(6,.take,false)]),(2,[(0,.take,false)]),(3,[(0,.take,false)]),(12,[(1,.take,false),(9,.take,false)]),(13,[(0,.take,false)])]):=fO Tryz.func58
def xCm(x9 x11:Int)(b4 b5 b6 b10:Val):St:=[(8,(vP 4)),(10,(vP 5)),(12,(vP 6)),(18,(vI x9)),(20,(vP 10)),(22,(vI x11)),(9,(vV .ro b4)),(11,(vV .ro b5)),(13,(vV .own b6)),(21,(vV .own b10))]
theorem xDS{N}:∀n x9 x11 b4 b5 b6 b10 r,CS N n x9 x11 b4 b5 b6 b10=some r->RS M6 9 (xCm x9 x11 b4 b5 b6 b10) (xAo r):=
 nI (fun _ _ _ _ _ _ _ h=>nE h) fun n ih x9 x11 b4 b5 b6 b10 r h=>cE (oA h) (fun h=>cE (iE (iE h)) (fun h=>bE (rp 2 h) xAQ fun r1 h=>tS (iE h) (ih _ _ _ _ _ _ _ (iE h).2)) fun h=>tS h (ih _ _ _ _ _ _ _ h.2)) fun h=>dS h
theorem xMW{N a0 a1 a2 r}(h:FQ N a0 a1 a2=some r):AbC 58 (xMV a0 a1 a2) (xAo r):=
 oK M6 <| bE (oA h) CY fun r1 h=>cE h (fun h=>dE h) fun h=>bE h BY fun r2 h=>cE h (fun h=>bE h zE fun r3 h=>dE h) fun h=>tE (iE h) (xDS _ _ _ _ _ _ _ _ (iE h).2)
theorem MO:FnOk Tryz.prog 151 Tryz.f151 (mI Tryz.f151 87 [.tmp 4] [0,2,8,10,12,14,36,60,122] [(4,[0,2,10,12,14])] [(4,[(4,.take,false)]),(5,[(0,.take,false)]),(8,[(4,.take,false),(9,.take,false)]),(9,[(0,.take,false)]),(11,[(4,.take,false)]),(12,[(0,.take,false)]),(14,[(0,.take,false)])]):=fO Tryz.func151
def xBM(x0 x1 x5:List Org)(x6 x7:Int):St:=[(0,(vS .ro .org x0)),(2,(vS .ro .org x1)),(10,(vS .own .org x5)),(12,(vI x6)),(14,(vI x7))]
theorem xDn{N}:∀n x0 x1 x5 x6 x7 r,A4 N n x0 x1 x5 x6 x7=some r->RS MO 4 (xBM x0 x1 x5 x6 x7) (xAZ r):=
 nI (fun _ _ _ _ _ _ h=>nE h) fun n ih x0 x1 x5 x6 x7 r h=>cE (oA h) (fun h=>cE (cb Y h) (fun h=>tS (iE (iE (cb Y h))) (ih _ _ _ _ _ _ (iE (iE (cb Y h))).2)) fun h=>bE (iE (iE (rb Y 2 h))) IW fun r1 h=>cE h (fun h=>tS (iE (rp 3 h)) (ih _ _ _ _ _ _ (iE (rp 3 h)).2)) fun h=>cE h (fun h=>tS (iE (rp 4 (cb Y h))) (ih _ _ _ _ _ _ (iE (rp 4 (cb Y h))).2)) fun h=>bE (rp 5 (rp 3 h)) IW fun r2 h=>cE h (fun h=>tS (iE (rp 7 h)) (ih _ _ _ _ _ _ (iE (rp 7 h)).2)) fun h=>tS (iE (rp 8 h)) (ih _ _ _ _ _ _ (iE (rp 8 h)).2)) fun h=>cE h (fun h=>cE h (fun h=>tS (iE (iE (cb Y h))) (ih _ _ _ _ _ _ (iE (iE (cb Y h))).2)) fun h=>cE (cb F (rb F 2 h)) (fun h=>tS (iE (iE (cb Y h))) (ih _ _ _ _ _ _ (iE (iE (cb Y h))).2)) fun h=>bE (iE (iE h)) IW fun r1 h=>cE h (fun h=>tS (iE (rp 3 h)) (ih _ _ _ _ _ _ (iE (rp 3 h)).2)) fun h=>tS (iE (rp 2 h)) (ih _ _ _ _ _ _ (iE (rp 2 h)).2)) fun h=>dS h
theorem xAY{N a0 a1 r}(h:Gj N a0 a1=some r):AbC 151 (xOL a0 a1) (xAZ r):=
 oK MO <| tE (oA h) (xDn _ _ _ _ _ _ _ h)
theorem MB:FnOk Tryz.prog 119 Tryz.f119 (mI Tryz.f119 80 [.tmp 8] [0,2,4,6,16,18,20,22,24,34,58,104,136,25] [(4,[0,2,4,6,18,20,22])] [(10,[(6,.take,false)]),(11,[(0,.take,false),(9,.take,false)]),(13,[(0,.take,false),(1,.take,false),(3,.take,false)]),(15,[(0,.take,false),(9,.take,false)]),(16,[(0,.take,false)])] (casts:=[(4,[(18,0,false)])])):=fO Tryz.func119
def xBz(x0:List Rowd)(x1 x2:Int)(x3:List Org)(x9:List Rowd)(x10:Bool)(x11:Int):St:=[(0,(vS .ro .row x0)),(2,(vI x1)),(4,(vI x2)),(6,(vS .ro .org x3)),(18,(vS .tip .row x9)),(20,(vB x10)),(22,(vI x11))]
theorem xDb{N}:∀n x0 x1 x2 x3 x9 x10 x11 r,Ao N n x0 x1 x2 x3 x9 x10 x11=some r->RS MB 4 (xBz x0 x1 x2 x3 x9 x10 x11) (xAW r):=
 nI (fun _ _ _ _ _ _ _ _ h=>nE h) fun n ih x0 x1 x2 x3 x9 x10 x11 r h=>cE (oA h) (fun h=>cE (iE (iE h)) (fun h=>bE (iE h) xAY fun r1 h=>cE (iE h) (fun h=>tS (iE (cb F h)) (ih _ _ _ _ _ _ _ _ (iE (cb F h)).2)) fun h=>tS (iE (cb F h)) (ih _ _ _ _ _ _ _ _ (iE (cb F h)).2)) fun h=>cE (rp 1 h) (fun h=>cE h (fun h=>tS (iE (iE (iE h))) (ih _ _ _ _ _ _ _ _ (iE (iE (iE h))).2)) fun h=>tS (iE h) (ih _ _ _ _ _ _ _ _ (iE h).2)) fun h=>tS (iE (cb F h)) (ih _ _ _ _ _ _ _ _ (iE (cb F h)).2)) fun h=>cE h (fun h=>dS (iE (iE h))) fun h=>dS h
theorem xOI{N a0 a1 a2 a3 r}(h:Kq N a0 a1 a2 a3=some r):AbC 119 (xOG a0 a1 a2 a3) (xAW r):=
 oK MB <| tE (oA h) (xDb _ _ _ _ _ _ _ _ _ h)
theorem JO:FnOk Tryz.prog 59 Tryz.f59 (mI Tryz.f59 105 [.cell 6 30] [0,2,4,6,8,10,12,14,16,18,20,22,24,26,46,86,110,180,204,7,9,11,13,15,23] [(10,[10,12,18,20,22,24,11,13,23]),(14,[12,22,26,13,23])] [(1,[(6,.take,false)]),(2,[(0,.take,false)]),(3,[(0,.take,false)]),(6,[(2,.take,false),(6,.take,false)]),(18,[(0,.take,false)])] (casts:=[(10,[(23,6,true)])]) (fcast:=[(13,4,true),(13,5,true),(13,6,true)])):=fO Tryz.func59
def xCn(x9 x10 x12:Int)(b5 b6 b11:Val):St:=[(10,(vP 5)),(12,(vP 6)),(18,(vI x9)),(20,(vI x10)),(22,(vP 11)),(24,(vI x12)),(11,(vV .ro b5)),(13,(vV .own b6)),(23,.v true [.int .i64 b11.kind,.int .i64 b11.n,.int .i64 b11.step,.str b11.text,.sl .own .val b11.list,.sl .own .str b11.columns,.sl .ro .row b11.rows])]
def xCo(x13:Int)(b6 b11:Val):St:=[(12,(vP 6)),(22,(vP 11)),(26,(vI x13)),(13,(vV .own b6)),(23,.v true [.int .i64 b11.kind,.int .i64 b11.n,.int .i64 b11.step,.str b11.text,.sl .own .val b11.list,.sl .own .str b11.columns,.sl .ro .row b11.rows])]
theorem xDU{N}:∀n x13 b6 b11 r,Cv N n x13 b6 b11=some r->RS JO 14 (xCo x13 b6 b11) (KY r):=
 nI (fun _ _ _ _ h=>nE h) fun n ih x13 b6 b11 r h=>cE (oA h) (fun h=>bE (iE (iE h)) EK fun r1 h=>cE h (fun h=>bE h zE fun r2 h=>dS h) fun h=>tS h (ih _ _ _ _ h.2)) fun h=>dS h
theorem xDT{N}:∀n x9 x10 x12 b5 b6 b11 r,Dt N n x9 x10 x12 b5 b6 b11=some r->RS JO 10 (xCn x9 x10 x12 b5 b6 b11) (KY r):=
 nI (fun _ _ _ _ _ _ _ h=>nE h) fun n ih x9 x10 x12 b5 b6 b11 r h=>cE (oA h) (fun h=>bE (rp 3 (iE (rp 1 (iE (iE h))))) xOI fun r1 h=>tS h (ih _ _ _ _ _ _ _ h.2)) fun h=>tS h (xDU _ _ _ _ _ h.2)
theorem xMe{N a0 a1 a2 r}(h:Ct N a0 a1 a2=some r):AbC 59 (xMd a0 a1 a2) (KY r):=
 oK JO <| bE (oA h) CY fun r1 h=>cE h (fun h=>dE h) fun h=>bE h BY fun r2 h=>bE h BY fun r3 h=>cE h (fun h=>bE (cb Y (cb Y h)) zE fun r4 h=>dE h) fun h=>cE h (fun h=>bE (cb Y h) zE fun r4 h=>dE h) fun h=>cE h (fun h=>bE h zE fun r4 h=>dE h) fun h=>tE h (xDT _ _ _ _ _ _ _ _ h.2)
theorem xEP:FnOk Tryz.prog 120 Tryz.f120 (mI Tryz.f120 33 [.cell 6 77] [0,2,4,6,8,12,14,7,9,13,15] [] [(2,[(1,.take,false)]),(3,[(0,.take,false)])]):=fO Tryz.func120
theorem xOE{N a0 a1 a2 r}(h:If N a0 a1 a2=some r):AbC 120 (xOD a0 a1 a2) (xOF r):=
 oK xEP <| bE (iE (oA h)) xAY fun r1 h=>dE (iE (iE (iE (iE h))))
theorem HF:FnOk Tryz.prog 60 Tryz.f60 (mI Tryz.f60 125 [.cell 6 30] [0,2,4,6,8,10,12,14,16,18,20,22,24,26,46,76,124,134,146,160,202,244,7,9,11,13,15,23] [(15,[8,10,12,18,20,22,24,9,11,13,23]),(18,[8,10,12,18,20,22,24,26,9,11,13,23])] [(1,[(6,.take,false)]),(2,[(0,.take,false)]),(3,[(0,.take,false)]),(6,[(2,.take,false)]),(9,[(1,.take,false)]),(21,[(1,.take,false),(15,.take,false)]),(24,[(0,.take,false)])]):=fO Tryz.func60
def LH(x9 x10 x12:Int)(b4 b5 b6 b11:Val):St:=[(8,(vP 4)),(10,(vP 5)),(12,(vP 6)),(18,(vI x9)),(20,(vI x10)),(22,(vP 11)),(24,(vI x12)),(9,(vV .ro b4)),(11,(vV .ro b5)),(13,(vV .own b6)),(23,(vV .own b11))]
def xCp(x9 x10 x12 x13:Int)(b4 b5 b6 b11:Val):St:=[(8,(vP 4)),(10,(vP 5)),(12,(vP 6)),(18,(vI x9)),(20,(vI x10)),(22,(vP 11)),(24,(vI x12)),(26,(vI x13)),(9,(vV .ro b4)),(11,(vV .ro b5)),(13,(vV .own b6)),(23,(vV .own b11))]
theorem xDW{N}{k15}(hk15:∀z0 z1 z2 z3 z4 z5 z6 r,k15 z0 z1 z2 z3 z4 z5 z6=some r->RS HF 15 (LH z0 z1 z2 z3 z4 z5 z6) (IJ r)):∀n x9 x10 x12 x13 b4 b5 b6 b11 r,Dx N k15 n x9 x10 x12 x13 b4 b5 b6 b11=some r->RS HF 18 (xCp x9 x10 x12 x13 b4 b5 b6 b11) (IJ r):=
 nI (fun _ _ _ _ _ _ _ _ _ h=>nE h) fun n ih x9 x10 x12 x13 b4 b5 b6 b11 r h=>cE (oA h) (fun h=>cE (iE (iE (iE (iE h)))) (fun h=>bE (rp 3 (rp 4 h)) xOE fun r1 h=>tS (iE h) (ih _ _ _ _ _ _ _ _ _ (iE h).2)) fun h=>tS h (ih _ _ _ _ _ _ _ _ _ h.2)) fun h=>tS h (hk15 _ _ _ _ _ _ _ _ h.2)
theorem xDV{N}:∀n x9 x10 x12 b4 b5 b6 b11 r,Cx N n x9 x10 x12 b4 b5 b6 b11=some r->RS HF 15 (LH x9 x10 x12 b4 b5 b6 b11) (IJ r):=
 nI (fun _ _ _ _ _ _ _ _ h=>nE h) fun n ih x9 x10 x12 b4 b5 b6 b11 r h=>cE (oA h) (fun h=>tS h (xDW ih _ _ _ _ _ _ _ _ _ _ h.2)) fun h=>cE h (fun h=>bE h zE fun r1 h=>dS h) fun h=>dS h
theorem xMt{N a0 a1 a2 r}(h:Dw N a0 a1 a2=some r):AbC 60 (xMs a0 a1 a2) (IJ r):=
 oK HF <| bE (oA h) CY fun r1 h=>cE h (fun h=>dE h) fun h=>bE h BY fun r2 h=>bE h BY fun r3 h=>cE h (fun h=>bE (cb Y h) zE fun r4 h=>dE h) fun h=>cE h (fun h=>bE h zE fun r4 h=>dE h) fun h=>bE (iE (iE (iE (iE (iE h))))) KU fun r4 h=>cE h (fun h=>bE h zE fun r5 h=>dE h) fun h=>cE h (fun h=>bE h zE fun r5 h=>dE h) fun h=>tE h (xDV _ _ _ _ _ _ _ _ _ h.2)
theorem M7:FnOk Tryz.prog 61 Tryz.f61 (mI Tryz.f61 115 [.cell 8 30] [0,2,4,6,8,10,12,14,16,18,20,22,24,26,28,30,52,108,118,148,196,9,11,13,15,17,19,27] [(13,[14,16,22,24,26,28,15,17,27])] [(1,[(7,.take,false)]),(2,[(0,.take,false)]),(3,[(0,.take,false)]),(6,[(4,.take,false),(11,.take,false),(15,.take,false)]),(11,[(1,.take,false)]),(18,[(1,.ref,false),(4,.ref,false),(8,.ref,false)]),(19,[(0,.take,false)])]):=fO Tryz.func61
def xCq(x11 x12 x14:Int)(b7 b8 b13:Val):St:=[(14,(vP 7)),(16,(vP 8)),(22,(vI x11)),(24,(vI x12)),(26,(vP 13)),(28,(vI x14)),(15,(vV .ro b7)),(17,(vV .own b8)),(27,(vV .own b13))]
theorem xDX{N}:∀n x11 x12 x14 b7 b8 b13 r,Cs N n x11 x12 x14 b7 b8 b13=some r->RS M7 13 (xCq x11 x12 x14 b7 b8 b13) (Oi r):=
 nI (fun _ _ _ _ _ _ _ h=>nE h) fun n ih x11 x12 x14 b7 b8 b13 r h=>cE (oA h) (fun h=>bE (iE (rp 1 (iE (iE h)))) EK fun r1 h=>cE h (fun h=>bE h zE fun r2 h=>dS h) fun h=>tS (ap (show(27:Nat)=27/\(6:Nat)=6/\([(x14.toNat,0)]:List (Nat×Nat))=[(x14.toNat,0)] from⟨rfl,rfl,rfl⟩) (rp 1 (iE (iE h)))) (ih _ _ _ _ _ _ _ (ap (show(27:Nat)=27/\(6:Nat)=6/\([(x14.toNat,0)]:List (Nat×Nat))=[(x14.toNat,0)] from⟨rfl,rfl,rfl⟩) (rp 1 (iE (iE h)))).2)) fun h=>dS h
theorem xLM{N a0 a1 a2 a3 r}(h:Bj N a0 a1 a2 a3=some r):AbC 61 (xLL a0 a1 a2 a3) (Oi r):=
 oK M7 <| bE (oA h) CY fun r1 h=>cE h (fun h=>dE h) fun h=>bE h BY fun r2 h=>bE h BY fun r3 h=>bE h xAe fun r4 h=>cE h (fun h=>bE (cb Y (cb Y (cb Y h))) zE fun r5 h=>dE h) fun h=>bE h BY fun r5 h=>cE h (fun h=>bE (cb Y (cb Y h)) zE fun r6 h=>dE h) fun h=>cE h (fun h=>bE (cb Y h) zE fun r6 h=>dE h) fun h=>cE h (fun h=>bE h zE fun r6 h=>dE h) fun h=>cE h (fun h=>bE h zE fun r6 h=>dE h) fun h=>bE h Kg fun r6 h=>tE (iE h) (xDX _ _ _ _ _ _ _ _ (iE h).2)
theorem fk9:FnOk Tryz.prog 9 Tryz.f9 (mI Tryz.f9 145 [.cell 4 30] [0,2,8,18,22,24,36,48,60,78,96,114,132,150,168,186,210,234,258,9] [] [] (fcast:=[(9,4,true),(9,5,true),(9,6,true)])):=fO Tryz.func9
theorem Ol{N a0 a1 r}(h:Bk N a0 a1=some r):AbC 9 (xLQ a0 a1) (xLR r):=
 oK fk9 <| bE (oA h) Ok fun r1 h=>cE h (fun h=>bE h zE fun r2 h=>dE h) fun h=>cE h (fun h=>bE (iE h) xMx fun r2 h=>dE h) fun h=>cE h (fun h=>bE (iE h) xMN fun r2 h=>dE h) fun h=>cE h (fun h=>bE (iE h) xLZ fun r2 h=>dE h) fun h=>cE h (fun h=>bE (iE (iE h)) xMR fun r2 h=>dE h) fun h=>cE h (fun h=>bE (iE (iE h)) xMH fun r2 h=>dE h) fun h=>cE h (fun h=>bE (iE (iE h)) IL fun r2 h=>dE h) fun h=>cE h (fun h=>bE (iE (iE h)) xNa fun r2 h=>dE h) fun h=>cE h (fun h=>bE (iE (iE h)) xMv fun r2 h=>dE h) fun h=>cE h (fun h=>bE (iE (iE h)) xLX fun r2 h=>dE h) fun h=>cE h (fun h=>bE (iE (iE h)) xMP fun r2 h=>dE h) fun h=>cE h (fun h=>bE (iE (iE (iE h))) xMW fun r2 h=>dE h) fun h=>cE h (fun h=>bE (iE (iE (iE h))) xMe fun r2 h=>dE h) fun h=>cE h (fun h=>bE (iE (iE (iE h))) xMt fun r2 h=>dE h) fun h=>cE h (fun h=>bE (iE (iE (iE (iE h)))) xLM fun r2 h=>dE h) fun h=>bE h zE fun r2 h=>dE h
theorem xFg:FnOk Tryz.prog 29 Tryz.f29 (mI Tryz.f29 13 [.tmp 2] [0,4] [] [(1,[(2,.take,false),(6,.take,false)])]):=fO Tryz.func29
theorem xIf{N a0 r}(h:Hc N a0=some r):AbC 29 (xIe a0) (xIg r):=
 oK xFg <| cE (oA h) (fun h=>dE (cb Y h)) fun h=>cE h (fun h=>dE h) fun h=>dE h
theorem xFh:FnOk Tryz.prog 30 Tryz.f30 (mI Tryz.f30 26 [.tmp 2] [0,4,6,8,12,24,40,48] [] []):=fO Tryz.func30
theorem My{N a0 r}(h:E8 N a0=some r):AbC 30 (xGu a0) (xGw r):=
 oK xFh <| cE (oA h) (fun h=>dE h) fun h=>cE h (fun h=>dE (rb Y 0 h)) fun h=>cE h (fun h=>dE (rb Y 0 h)) fun h=>cE h (fun h=>dE (rb Y 0 h)) fun h=>cE h (fun h=>dE (rb Y 0 h)) fun h=>cE h (fun h=>dE h) fun h=>cE h (fun h=>dE (rb Y 0 h)) fun h=>cE h (fun h=>dE (rb Y 0 h)) fun h=>cE h (fun h=>dE (rb Y 0 h)) fun h=>cE h (fun h=>dE (rb Y 0 h)) fun h=>cE h (fun h=>dE (rb Y 0 h)) fun h=>cE h (fun h=>dE (rb Y 0 h)) fun h=>cE h (fun h=>dE h) fun h=>cE h (fun h=>dE (rb Y 0 h)) fun h=>cE h (fun h=>dE (rb Y 0 h)) fun h=>cE h (fun h=>dE h) fun h=>cE h (fun h=>dE h) fun h=>dE h
theorem xFi:FnOk Tryz.prog 31 Tryz.f31 (mI Tryz.f31 5 [.cell 2 30] [0,4,5] [] []):=fO Tryz.func31
theorem y7{N a0 r}(h:yV N a0=some r):AbC 31 (xGR a0) (xGS r):=
 oK xFi <| dE (oA h)
theorem xFF:FnOk Tryz.prog 90 Tryz.f90 (mI Tryz.f90 15 [.tmp 6] [0,2,4,12] [] [(1,[(3,.take,false)])]):=fO Tryz.func90
theorem Em{N a0 a1 a2 r}(h:CE N a0 a1 a2=some r):AbC 90 (xIP a0 a1 a2) (xIQ r):=
 oK xFF <| cE (oA h) (fun h=>dE h) fun h=>dE h
theorem xFD:FnOk Tryz.prog 88 Tryz.f88 (mI Tryz.f88 5 [.tmp 2] [0,4] [] []):=fO Tryz.func88
theorem D0{N a0 r}(h:Be N a0=some r):AbC 88 (xIh a0) (xIi r):=
 oK xFD <| bE (oA h) Em fun r1 h=>dE h
theorem MQ:FnOk Tryz.prog 162 Tryz.f162 (mI Tryz.f162 29 [.tmp 2] [0,4,6,14,50] [(2,[0,6])] [(4,[(4,.take,false),(10,.take,false)])]):=fO Tryz.func162
def xBO(x0:Str)(x3:Int):St:=[(0,(vT x0)),(6,(vI x3))]
theorem xDp{N}:∀n x0 x3 r,Fw N n x0 x3=some r->RS MQ 2 (xBO x0 x3) (NF r):=
 nI (fun _ _ _ h=>nE h) fun n ih x0 x3 r h=>cE (oA h) (fun h=>cE (iE h) (fun h=>dS (cb Y (cb Y h))) fun h=>cE (rp 1 h) (fun h=>dS (cb Y h)) fun h=>cE (rp 3 h) (fun h=>dS h) fun h=>tS h (ih _ _ _ h.2)) fun h=>dS h
theorem xG7{N a0 r}(h:J3 N a0=some r):AbC 162 (xG4 a0) (NF r):=
 oK MQ <| tE (oA h) (xDp _ _ _ _ h)
theorem ML:FnOk Tryz.prog 147 Tryz.f147 (mI Tryz.f147 42 [.tmp 2] [0,4,6,8,16,76] [(2,[0,6])] [(4,[(4,.take,false)]),(5,[(0,.take,false),(2,.take,false),(5,.take,false),(11,.take,false)])]):=fO Tryz.func147
def xBJ(x0:Str)(x3:Int):St:=[(0,(vT x0)),(6,(vI x3))]
theorem xDk{N}:∀n x0 x3 r,CA N n x0 x3=some r->RS ML 2 (xBJ x0 x3) (NX r):=
 nI (fun _ _ _ h=>nE h) fun n ih x0 x3 r h=>cE (oA h) (fun h=>cE (iE h) (fun h=>cE (rp 1 h) (fun h=>cE h (fun h=>dS (cb Y (cb Y h))) fun h=>cE (rp 4 h) (fun h=>dS (cb Y h)) fun h=>cE (rp 6 h) (fun h=>dS h) fun h=>tS h (ih _ _ _ h.2)) fun h=>tS (cb F h) (ih _ _ _ (cb F h).2)) fun h=>cE (cb Y h) (fun h=>dS (cb Y (cb Y h))) fun h=>cE (rp 3 h) (fun h=>dS (cb Y h)) fun h=>cE (rp 5 h) (fun h=>dS h) fun h=>tS h (ih _ _ _ h.2)) fun h=>bE h Em fun r1 h=>dS h
theorem xIp{N a0 r}(h:Jc N a0=some r):AbC 147 (xIn a0) (NX r):=
 oK ML <| tE (oA h) (xDk _ _ _ _ h)
theorem xEZ:FnOk Tryz.prog 148 Tryz.f148 (mI Tryz.f148 15 [.tmp 2] [0,4,6,8] [] []):=fO Tryz.func148
theorem xG0{N a0 r}(h:HS N a0=some r):AbC 148 (xGY a0) (xG1 r):=
 oK xEZ <| cE (oA h) (fun h=>dE (rb Y 0 h)) fun h=>cE h (fun h=>dE (rb Y 0 h)) fun h=>cE h (fun h=>dE (rb Y 0 h)) fun h=>cE h (fun h=>dE (rb Y 0 h)) fun h=>cE h (fun h=>dE (rb Y 0 h)) fun h=>cE h (fun h=>dE (rb Y 0 h)) fun h=>cE h (fun h=>dE h) fun h=>bE h My fun r1 h=>dE h
theorem xEH:FnOk Tryz.prog 102 Tryz.f102 (mI Tryz.f102 10 [.tmp 2] [0,4] [] [(1,[(2,.take,false)])]):=fO Tryz.func102
theorem J2{N a0 r}(h:Eb N a0=some r):AbC 102 (xG2 a0) (xG3 r):=
 oK xEH <| bE (oA h) xIp fun r1 h=>cE h (fun h=>bE h xG0 fun r2 h=>dE h) fun h=>dE h
theorem MK:FnOk Tryz.prog 142 Tryz.f142 (mI Tryz.f142 19 [.tmp 4] [0,2,8,10,12,14,16,18,20,32] [(2,[2,14,16,18])] [(4,[(0,.take,false)]),(5,[(0,.take,false)]),(6,[(1,.take,false)])]):=fO Tryz.func142
def xBI(x1:Str)(x7:List Str)(x8 x9:Int):St:=[(2,(vT x1)),(14,(vS .ro .str x7)),(16,(vI x8)),(18,(vI x9))]
theorem xDj{N}:∀n x1 x7 x8 x9 r,DP N n x1 x7 x8 x9=some r->RS MK 2 (xBI x1 x7 x8 x9) (ND r):=
 nI (fun _ _ _ _ _ h=>nE h) fun n ih x1 x7 x8 x9 r h=>cE (oA h) (fun h=>cE (iE h) (fun h=>dS h) fun h=>tS h (ih _ _ _ _ _ h.2)) fun h=>dS h
theorem J0{N a0 a1 r}(h:Fv N a0 a1=some r):AbC 142 (xGX a0 a1) (ND r):=
 oK MK <| tE (oA h) (xDj _ _ _ _ _ _ h)
theorem Mj:FnOk Tryz.prog 96 Tryz.f96 (mI Tryz.f96 18 [.tmp 2] [0,4,6,8,10,12,14,16,32] [(2,[0,10,12,14])] [(4,[(1,.take,false),(3,.take,false)]),(6,[(1,.take,false)])]):=fO Tryz.func96
def xCJ(x0 x5:List Str)(x6 x7:Int):St:=[(0,(vS .ro .str x0)),(10,(vS .ro .str x5)),(12,(vI x6)),(14,(vI x7))]
theorem xEf{N}:∀n x0 x5 x6 x7 r,DN N n x0 x5 x6 x7=some r->RS Mj 2 (xCJ x0 x5 x6 x7) (Mx r):=
 nI (fun _ _ _ _ _ h=>nE h) fun n ih x0 x5 x6 x7 r h=>cE (oA h) (fun h=>bE (iE h) J0 fun r1 h=>cE h (fun h=>dS h) fun h=>tS h (ih _ _ _ _ _ h.2)) fun h=>dS h
theorem HM{N a0 r}(h:E7 N a0=some r):AbC 96 (xGt a0) (Mx r):=
 oK Mj <| tE (oA h) (xEf _ _ _ _ _ _ h)
theorem Mk:FnOk Tryz.prog 97 Tryz.f97 (mI Tryz.f97 22 [.tmp 2] [0,4,8,10,12,14,16,26] [(2,[0,10,12,14])] [(4,[(0,.take,false)]),(6,[(1,.take,false)]),(7,[(3,.take,false)])]):=fO Tryz.func97
def xCK(x0 x5:List Str)(x6 x7:Int):St:=[(0,(vS .ro .str x0)),(10,(vS .ro .str x5)),(12,(vI x6)),(14,(vI x7))]
theorem xEg{N}:∀n x0 x5 x6 x7 r,Eg N n x0 x5 x6 x7=some r->RS Mk 2 (xCK x0 x5 x6 x7) (NQ r):=
 nI (fun _ _ _ _ _ h=>nE h) fun n ih x0 x5 x6 x7 r h=>cE (oA h) (fun h=>bE (iE h) J2 fun r1 h=>cE h (fun h=>dS h) fun h=>tS h (ih _ _ _ _ _ h.2)) fun h=>bE h Em fun r1 h=>cE h (fun h=>bE h HM fun r2 h=>dS h) fun h=>dS h
theorem J7{N a0 r}(h:GB N a0=some r):AbC 97 (xH3 a0) (NQ r):=
 oK Mk <| tE (oA h) (xEg _ _ _ _ _ _ h)
theorem EZ:FnOk Tryz.prog 163 Tryz.f163 (mI Tryz.f163 77 [.tmp 2] [0,2,4,8,12,14,16,36,40,42,44,46,64,68,70,72,74,84,90,92,94,96,148,3,9,17] [(4,[2,40,42,44,3]),(9,[2,8,40,42,44,68,70,72,3,9]),(15,[2,8,40,42,44,90,92,94,3,9])] [(1,[(4,.take,false)]),(11,[(0,.take,false)]),(13,[(1,.take,false)]),(17,[(3,.take,false),(8,.take,false),(11,.take,false)]),(19,[(1,.take,false)]),(20,[(1,.take,false)])]):=fO Tryz.func163
def It(x20:List Rowd)(x21 x22:Int)(b1:Val):St:=[(2,(vP 1)),(40,(vS .ro .row x20)),(42,(vI x21)),(44,(vI x22)),(3,(vV .ro b1))]
def xBQ(x20:List Rowd)(x21 x22:Int)(x34:List Int)(x35 x36:Int)(b1:Val)(b4:Rowd):St:=[(2,(vP 1)),(8,(vP 4)),(40,(vS .ro .row x20)),(42,(vI x21)),(44,(vI x22)),(68,(vS .ro .int x34)),(70,(vI x35)),(72,(vI x36)),(3,(vV .ro b1)),(9,.v true [.sl .ro .int b4.cells,.sl .ro .org b4.frm])]
def xBP(x20:List Rowd)(x21 x22:Int)(x45:List Org)(x46 x47:Int)(b1:Val)(b4:Rowd):St:=[(2,(vP 1)),(8,(vP 4)),(40,(vS .ro .row x20)),(42,(vI x21)),(44,(vI x22)),(90,(vS .ro .org x45)),(92,(vI x46)),(94,(vI x47)),(3,(vV .ro b1)),(9,.v true [.sl .ro .int b4.cells,.sl .ro .org b4.frm])]
theorem xDq{N}{k4}(hk4:∀z0 z1 z2 z3 r,k4 z0 z1 z2 z3=some r->RS EZ 4 (It z0 z1 z2 z3) (Ei r)):∀n x20 x21 x22 x45 x46 x47 b1 b4 r,Ch N k4 n x20 x21 x22 x45 x46 x47 b1 b4=some r->RS EZ 15 (xBP x20 x21 x22 x45 x46 x47 b1 b4) (Ei r):=
 nI (fun _ _ _ _ _ _ _ _ _ h=>nE h) fun n ih x20 x21 x22 x45 x46 x47 b1 b4 r h=>cE (oA h) (fun h=>cE (iE h) (fun h=>dS (cb Y (cb Y h))) fun h=>cE h (fun h=>dS (cb Y h)) fun h=>cE h (fun h=>bE (iE h) NY fun r1 h=>cE h (fun h=>dS h) fun h=>tS h (ih _ _ _ _ _ _ _ _ _ h.2)) fun h=>tS (cb F h) (ih _ _ _ _ _ _ _ _ _ (cb F h).2)) fun h=>tS h (hk4 _ _ _ _ _ h.2)
theorem xDs{N}{k4}(hk4:∀z0 z1 z2 z3 r,k4 z0 z1 z2 z3=some r->RS EZ 4 (It z0 z1 z2 z3) (Ei r)):∀n x20 x21 x22 x34 x35 x36 b1 b4 r,D2 N k4 n x20 x21 x22 x34 x35 x36 b1 b4=some r->RS EZ 9 (xBQ x20 x21 x22 x34 x35 x36 b1 b4) (Ei r):=
 nI (fun _ _ _ _ _ _ _ _ _ h=>nE h) fun n ih x20 x21 x22 x34 x35 x36 b1 b4 r h=>cE (oA h) (fun h=>bE (iE h) D0 fun r1 h=>cE h (fun h=>dS h) fun h=>tS h (ih _ _ _ _ _ _ _ _ _ h.2)) fun h=>tS h (xDq hk4 _ _ _ _ _ _ _ _ _ _ h.2)
theorem xDr{N}:∀n x20 x21 x22 b1 r,D1 N n x20 x21 x22 b1=some r->RS EZ 4 (It x20 x21 x22 b1) (Ei r):=
 nI (fun _ _ _ _ _ h=>nE h) fun n ih x20 x21 x22 b1 r h=>cE (oA h) (fun h=>cE (iE h) (fun h=>dS h) fun h=>tS h (xDs ih _ _ _ _ _ _ _ _ _ _ h.2)) fun h=>dS h
theorem NW{N a0 r}(h:GC N a0=some r):AbC 163 (xIj a0) (Ei r):=
 oK EZ <| bE (oA h) J7 fun r1 h=>cE h (fun h=>dE (cb Y h)) fun h=>cE h (fun h=>dE h) fun h=>tE h (xDr _ _ _ _ _ _ h.2)
def Is(q:Val->Option (Int)):Prop:=∀a0 r,q a0=some r->AbC 164 (JY a0) (HP r)
theorem MR:FnOk Tryz.prog 164 Tryz.f164 (mI Tryz.f164 20 [.tmp 2] [0,2,4,6,10,14,16,18,20,3,11] [(3,[6,14,16,18])] [(6,[(1,.take,false)])]):=fO Tryz.func164
def xBR(x3:Int)(x7:List Val)(x8 x9:Int):St:=[(6,(vI x3)),(14,(vS .ro .val x7)),(16,(vI x8)),(18,(vI x9))]
theorem xDt{N}{q0}(g0:Is q0):∀n x3 x7 x8 x9 r,Ea N q0 n x3 x7 x8 x9=some r->RS MR 3 (xBR x3 x7 x8 x9) (HP r):=
 nI (fun _ _ _ _ _ h=>nE h) fun n ih x3 x7 x8 x9 r h=>cE (oA h) (fun h=>bE (iE h) (g0 _ _) fun r1 h=>tS h (ih _ _ _ _ _ h.2)) fun h=>dS h
theorem xGO{N}{q0}(g0:Is q0){a0 r}(h:NB N q0 a0=some r):AbC 164 (JY a0) (HP r):=
 oK MR <| tE (oA h) (xDt g0 _ _ _ _ _ _ h)
theorem NC{N:Nat}:∀d,Is (DO N d)
 |0=>fun _ _ h=>nE h
 |d+1=>fun _ _ h=>xGO (N:=N) (NC d) h
theorem xGP{N:Nat}{a0:Val}{r:Int}(h:Fu N a0=some r):AbC 164 (JY a0) (HP r):=NC N _ r h
def Ir(q:Val->Option (Bool)):Prop:=∀a0 r,q a0=some r->AbC 139 (J5 a0) (HU r)
theorem MI:FnOk Tryz.prog 139 Tryz.f139 (mI Tryz.f139 185 [.tmp 2] [0,2,4,6,10,46,48,84,120,156,192,242,248,250,252,254,294,3,11] [(15,[2,248,250,252,3])] [(1,[(4,.take,false),(10,.take,false)]),(4,[(1,.take,false),(6,.take,false),(11,.take,false)]),(6,[(1,.take,false),(6,.take,false),(11,.take,false)]),(8,[(1,.take,false),(6,.take,false),(11,.take,false)]),(10,[(1,.take,false),(6,.take,false),(11,.take,false)]),(12,[(3,.take,false),(8,.take,false),(13,.take,false),(19,.take,false)]),(17,[(3,.take,false),(8,.take,false),(13,.take,false)]),(19,[(1,.take,false)]),(20,[(3,.take,false),(8,.take,false),(13,.take,false),(19,.take,false),(25,.take,false),(31,.take,false)])]):=fO Tryz.func139
def xBG(x124:List Val)(x125 x126:Int)(b1:Val):St:=[(2,(vP 1)),(248,(vS .ro .val x124)),(250,(vI x125)),(252,(vI x126)),(3,(vV .ro b1))]
theorem JB{N}{q0}(g0:Ir q0):∀n x124 x125 x126 b1 r,BL N q0 n x124 x125 x126 b1=some r->RS MI 15 (xBG x124 x125 x126 b1) (HU r):=
 nI (fun _ _ _ _ _ h=>nE h) fun n ih x124 x125 x126 b1 r h=>cE (oA h) (fun h=>cE (iE h) (fun h=>cE h (fun h=>cE h (fun h=>dS (cb Y h)) fun h=>bE h (g0 _ _) fun r1 h=>cE h (fun h=>dS h) fun h=>tS h (ih _ _ _ _ _ h.2)) fun h=>bE (cb F h) (g0 _ _) fun r1 h=>cE h (fun h=>dS h) fun h=>tS h (ih _ _ _ _ _ h.2)) fun h=>bE (cb F (cb F h)) (g0 _ _) fun r1 h=>cE h (fun h=>dS h) fun h=>tS h (ih _ _ _ _ _ h.2)) fun h=>cE h (fun h=>cE h (fun h=>cE h (fun h=>cE h (fun h=>cE h (fun h=>cE h (fun h=>bE h xGP fun r1 h=>dS h) fun h=>dS h) fun h=>dS (cb F h)) fun h=>dS (cb F (cb F h))) fun h=>dS (cb F (cb F (cb F h)))) fun h=>dS (cb F (cb F (cb F (cb F h))))) fun h=>dS (cb F (cb F (cb F (cb F (cb F h)))))
theorem xG8{N}{q0}(g0:Ir q0){a0 r}(h:HT N q0 a0=some r):AbC 139 (J5 a0) (HU r):=
 oK MI <| cE (oA h) (fun h=>cE h (fun h=>cE h (fun h=>cE h (fun h=>cE h (fun h=>cE h (fun h=>bE h D0 fun r1 h=>dE h) fun h=>dE h) fun h=>dE (cb F h)) fun h=>dE (cb F (cb F h))) fun h=>cE h (fun h=>cE h (fun h=>cE h (fun h=>cE h (fun h=>bE h xG7 fun r1 h=>dE h) fun h=>dE h) fun h=>dE (cb F h)) fun h=>dE (cb F (cb F h))) fun h=>cE h (fun h=>cE h (fun h=>cE h (fun h=>bE h D0 fun r1 h=>cE h (fun h=>bE h D0 fun r2 h=>dE h) fun h=>dE h) fun h=>dE (cb F h)) fun h=>dE (cb F (cb F h))) fun h=>cE h (fun h=>cE h (fun h=>cE h (fun h=>cE h (fun h=>bE h Em fun r1 h=>dE h) fun h=>dE h) fun h=>dE (cb F h)) fun h=>dE (cb F (cb F h))) fun h=>cE h (fun h=>cE h (fun h=>cE h (fun h=>cE h (fun h=>bE (rb Y 9 h) NW fun r1 h=>dE h) fun h=>dE (cb F h)) fun h=>dE (cb F (cb F h))) fun h=>dE (cb F (cb F (cb F h)))) fun h=>cE h (fun h=>tE h (JB g0 _ _ _ _ _ _ h.2)) fun h=>dE h) fun h=>cE h (fun h=>dE (cb F (cb F (cb F h)))) fun h=>cE h (fun h=>dE (cb F (cb F (cb F h)))) fun h=>cE h (fun h=>dE (cb F (cb F (cb F h)))) fun h=>cE h (fun h=>dE (cb F (cb F (cb F h)))) fun h=>cE h (fun h=>cE h (fun h=>cE h (fun h=>cE h (fun h=>bE (rb Y 9 h) NW fun r1 h=>dE h) fun h=>dE (cb F h)) fun h=>dE (cb F (cb F h))) fun h=>dE (cb F (cb F (cb F h)))) fun h=>cE h (fun h=>tE h (JB g0 _ _ _ _ _ _ h.2)) fun h=>dE h) fun h=>cE (cb F h) (fun h=>dE (cb F (cb F (cb F h)))) fun h=>cE h (fun h=>dE (cb F (cb F (cb F h)))) fun h=>cE h (fun h=>dE (cb F (cb F (cb F h)))) fun h=>cE h (fun h=>dE (cb F (cb F (cb F h)))) fun h=>cE h (fun h=>cE h (fun h=>cE h (fun h=>cE h (fun h=>dE (rb F 9 h)) fun h=>dE (cb F h)) fun h=>dE (cb F (cb F h))) fun h=>dE (cb F (cb F (cb F h)))) fun h=>cE h (fun h=>tE h (JB g0 _ _ _ _ _ _ h.2)) fun h=>dE h
theorem NG{N:Nat}:∀d,Ir (BM N d)
 |0=>fun _ _ h=>nE h
 |d+1=>fun _ _ h=>xG8 (N:=N) (NG d) h
theorem xG9{N:Nat}{a0:Val}{r:Bool}(h:J4 N a0=some r):AbC 139 (J5 a0) (HU r):=NG N _ r h
theorem xIC{P:Program}{f:FuncId}{ags:List Arg}{r:Val×Bool×Bool}(h:AbsCalls P f ags (GE r))(ht:r.2.2=true):AbsCalls P f ags (Je r):=by
 unfold GE at h;rw [ht] at h;exact h
theorem Jf{P:Program}{f:FuncId}{ags:List Arg}{r:Val×Bool×Bool}(h:AbsCalls P f ags (GE r))(ht:r.2.2=true)(e0:List.isEmpty (Val.list r.1)=true)(e1:List.isEmpty (Val.columns r.1)=true)(e2:List.isEmpty (Val.rows r.1)=true):AbsCalls P f ags (xIA r):=by
 have h:=xIC h ht;unfold Je at h;rw [Yw.1 e0,Yw.1 e1,Yw.1 e2] at h;exact h
theorem Mh:FnOk Tryz.prog 86 Tryz.f86 (mI Tryz.f86 22 [.cell 2 30,.tmp 3] [0,4,6,10,12,14,16,18,28,36,5,11] [(2,[4,12,14,16,5])] [(8,[(1,.take,false)])]):=fO Tryz.func86
def xCH(x6:List Val)(x7 x8:Int)(b2:Val):St:=[(4,(vP 2)),(12,(vS .ro .val x6)),(14,(vI x7)),(16,(vI x8)),(5,(vV .own b2))]
theorem xEd{N}:∀n x6 x7 x8 b2 r,Ci N n x6 x7 x8 b2=some r->RS Mh 2 (xCH x6 x7 x8 b2) (GE r):=
 nI (fun _ _ _ _ _ h=>nE h) fun n ih x6 x7 x8 b2 r h=>cE (oA h) (fun h=>bE (iE h) xG9 fun r1 h=>cE h (fun h=>bE h y7 fun r2 h=>dS h) fun h=>cE h (fun h=>dS h) fun h=>tS h (ih _ _ _ _ _ h.2)) fun h=>dS h
theorem Hd{N a0 r}(h:Ej N a0=some r):AbC 86 (xIz a0) (GE r):=
 oK Mh <| tE (oA h) (xEd _ _ _ _ _ _ h)
theorem xFC:FnOk Tryz.prog 87 Tryz.f87 (mI Tryz.f87 5 [.cell 2 30] [0,4,5] [] []):=fO Tryz.func87
theorem Bb{N a0 r}(h:Ae N a0=some r):AbC 87 (xHu a0) (xHv r):=
 oK xFC <| dE (oA h)
theorem xFj:FnOk Tryz.prog 32 Tryz.f32 (mI Tryz.f32 28 [.cell 2 30] [0,2,4,6,8,22,28,30,42,3,5,7] [] [(1,[(2,.take,true),(3,.take,false)]),(2,[(0,.take,false)]),(3,[(0,.take,false)])]):=fO Tryz.func32
theorem xHj{N a0 r}(h:HW N a0=some r):AbC 32 (xHi a0) (xHk r):=
 oK xFj <| bK (oA h) Hd fun r1 k h=>cN k h (Jf k) (fun h=>cE h (fun h=>dE h) fun h=>cE h (fun h=>bE h Bb fun r2 h=>dE h) fun h=>cE h (fun h=>bE h Bb fun r2 h=>dE h) fun h=>bE h y7 fun r2 h=>dE h) fun h=>cE h (fun h=>dE h) fun h=>cE h (fun h=>bE h Bb fun r2 h=>dE h) fun h=>cE h (fun h=>bE h Bb fun r2 h=>dE h) fun h=>bE h y7 fun r2 h=>dE h
theorem MU:FnOk Tryz.prog 33 Tryz.f33 (mI Tryz.f33 42 [.cell 2 30] [0,2,4,6,8,10,14,28,36,42,44,46,48,58,74,3,5,7,15] [(8,[4,10,42,44,46,5])] [(1,[(2,.take,true),(3,.take,false)]),(2,[(0,.take,false)]),(3,[(0,.take,false)]),(15,[(1,.take,false)])]):=fO Tryz.func33
def xB0(x5:Int)(x21:List Val)(x22 x23:Int)(b2:Val):St:=[(4,(vP 2)),(10,(vI x5)),(42,(vS .ro .val x21)),(44,(vI x22)),(46,(vI x23)),(5,(vV .own b2))]
theorem LX{N}:∀n x5 x21 x22 x23 b2 r,Bc N n x5 x21 x22 x23 b2=some r->RS MU 8 (xB0 x5 x21 x22 x23 b2) (NI r):=
 nI (fun _ _ _ _ _ _ h=>nE h) fun n ih x5 x21 x22 x23 b2 r h=>cE (oA h) (fun h=>cE (iE h) (fun h=>bE h y7 fun r1 h=>dS h) fun h=>bE h D0 fun r1 h=>cE h (fun h=>bE h y7 fun r2 h=>dS h) fun h=>tS h (ih _ _ _ _ _ _ h.2)) fun h=>bE h Bb fun r1 h=>dS h
theorem xHG{N a0 r}(h:H1 N a0=some r):AbC 33 (xHF a0) (NI r):=
 oK MU <| bK (oA h) Hd fun r1 k h=>cN k h (Jf k) (fun h=>cE h (fun h=>dE h) fun h=>cE h (fun h=>bE h y7 fun r2 h=>dE h) fun h=>tE h (LX _ _ _ _ _ _ _ h.2)) fun h=>cE h (fun h=>dE h) fun h=>cE h (fun h=>bE h y7 fun r2 h=>dE h) fun h=>tE h (LX _ _ _ _ _ _ _ h.2)
theorem xIy{P:Program}{f:FuncId}{ags:List Arg}{r:Val×Bool×Bool}(h:AbsCalls P f ags (GD r))(ht:r.2.2=true):AbsCalls P f ags (Jd r):=by
 unfold GD at h;rw [ht] at h;exact h
theorem CD{P:Program}{f:FuncId}{ags:List Arg}{r:Val×Bool×Bool}(h:AbsCalls P f ags (GD r))(ht:r.2.2=true)(e0:List.isEmpty (Val.list r.1)=true)(e1:List.isEmpty (Val.columns r.1)=true)(e2:List.isEmpty (Val.rows r.1)=true):AbsCalls P f ags (xIw r):=by
 have h:=xIy h ht;unfold Jd at h;rw [Yw.1 e0,Yw.1 e1,Yw.1 e2] at h;exact h
theorem M0:FnOk Tryz.prog 45 Tryz.f45 (mI Tryz.f45 34 [.cell 4 30,.tmp 5] [0,2,8,10,12,14,16,18,30,34,36,38,40,60,9,13,19] [(5,[0,8,34,36,38,9])] [(1,[(2,.take,false)]),(2,[(0,.take,false)]),(3,[(0,.take,false)]),(7,[(3,.take,false)]),(9,[(1,.take,false)])]):=fO Tryz.func45
def xCc(x0:List Int)(x17:List Val)(x18 x19:Int)(b4:Val):St:=[(0,(vS .ro .int x0)),(8,(vP 4)),(34,(vS .ro .val x17)),(36,(vI x18)),(38,(vI x19)),(9,(vV .own b4))]
theorem L6{N}:∀n x0 x17 x18 x19 b4 r,CB N n x0 x17 x18 x19 b4=some r->RS M0 5 (xCc x0 x17 x18 x19 b4) (GD r):=
 nI (fun _ _ _ _ _ _ h=>nE h) fun n ih x0 x17 x18 x19 b4 r h=>cE (oA h) (fun h=>cE (iE (iE h)) (fun h=>bE h y7 fun r1 h=>dS h) fun h=>tS h (ih _ _ _ _ _ _ h.2)) fun h=>dS h
theorem CC{N a0 a1 r}(h:BE N a0 a1=some r):AbC 45 (xIv a0 a1) (GD r):=
 oK M0 <| bK (oA h) Hd fun r1 k h=>cM k h (fun h=>cE h (fun h=>dE h) fun h=>tE h (L6 _ _ _ _ _ _ _ h.2)) fun h=>cE h (fun h=>dE h) fun h=>tE h (L6 _ _ _ _ _ _ _ h.2)
theorem xFk:FnOk Tryz.prog 34 Tryz.f34 (mI Tryz.f34 18 [.cell 2 30] [0,2,4,6,8,24,3,5,7] [] [(1,[(3,.take,true),(4,.take,false)]),(2,[(0,.take,false)]),(3,[(0,.take,false)])]):=fO Tryz.func34
theorem xGK{N a0 r}(h:HO N a0=some r):AbC 34 (xGJ a0) (xGL r):=
 oK xFk <| bK (oA h) CC fun r1 k h=>cN k h (CD k) (fun h=>cE h (fun h=>dE h) fun h=>bE h Bb fun r2 h=>dE h) fun h=>cE h (fun h=>dE h) fun h=>bE h Bb fun r2 h=>dE h
theorem xFE:FnOk Tryz.prog 89 Tryz.f89 (mI Tryz.f89 31 [.cell 4 30,.tmp 5] [0,2,4,6,8,10,12,14,30,5,7,9,13] [] [(1,[(3,.take,true),(4,.take,false)]),(2,[(0,.take,false)]),(3,[(0,.take,false)]),(4,[(4,.take,false),(8,.take,false)])]):=fO Tryz.func89
theorem Jg{N a0 a1 r}(h:El N a0 a1=some r):AbC 89 (xIH a0 a1) (xII r):=
 oK xFE <| bK (oA h) Hd fun r1 k h=>cN k h (Jf k) (fun h=>cE h (fun h=>dE h) fun h=>bE h y7 fun r2 h=>cE h (fun h=>dE h) fun h=>cE h (fun h=>dE h) fun h=>dE h) fun h=>cE h (fun h=>dE h) fun h=>bE h y7 fun r2 h=>cE h (fun h=>dE h) fun h=>cE h (fun h=>dE h) fun h=>dE h
theorem xFL:FnOk Tryz.prog 98 Tryz.f98 (mI Tryz.f98 12 [.cell 2 77] [0,2,4,3,5] [] []):=fO Tryz.func98
theorem NU{N a0 r}(h:H6 N a0=some r):AbC 98 (xH6 a0) (xH7 r):=
 oK xFL <| dE (iE (iE (oA h)))
def G92(q:Val->Option (Val)):Prop:=∀a0 r,q a0=some r->AbC 92 (J8 a0) (H9 r)
def Ff(q:(List Val)->Option ((List Val))):Prop:=∀a0 r,q a0=some r->AbC 140 (Ja a0) (Hb r)
theorem Mi:FnOk Tryz.prog 92 Tryz.f92 (mI Tryz.f92 33 [.cell 2 30] [0,2,4,6,10,36,38,40,42,3,5,7,11] [(6,[4,6,36,38,40,5,7])] [(8,[(1,.take,false),(5,.take,false)]),(9,[(1,.take,false)]),(10,[(0,.take,false)])]):=fO Tryz.func92
def xCI(x18:List Rowd)(x19 x20:Int)(b2 b3:Val):St:=[(4,(vP 2)),(6,(vP 3)),(36,(vS .ro .row x18)),(38,(vI x19)),(40,(vI x20)),(5,(vV .own b2)),(7,(vV .own b3))]
theorem xEe{N}{q0}(g0:G92 q0){q1}(g1:Ff q1):∀n x18 x19 x20 b2 b3 r,DY N q0 q1 n x18 x19 x20 b2 b3=some r->RS Mi 6 (xCI x18 x19 x20 b2 b3) (H9 r):=
 nI (fun _ _ _ _ _ _ h=>nE h) fun n ih x18 x19 x20 b2 b3 r h=>cE (oA h) (fun h=>bE (iE h) NU fun r1 h=>tS (iE h) (ih _ _ _ _ _ _ (iE h).2)) fun h=>dS h
theorem xH8{N}{q0}(g0:G92 q0){q1}(g1:Ff q1){a0 r}(h:H7 N q0 q1 a0=some r):AbC 92 (J8 a0) (H9 r):=
 oK Mi <| bE (oA h) (g1 _ _) fun r1 h=>tE (iE h) (xEe g0 g1 _ _ _ _ _ _ _ (iE h).2)
theorem MJ:FnOk Tryz.prog 140 Tryz.f140 (mI Tryz.f140 20 [.tmp 2] [0,4,6,10,14,16,18,20,11] [(3,[6,14,16,18])] [(5,[(0,.take,false),(4,.take,false)]),(6,[(1,.take,false)]),(7,[(0,.take,false)])]):=fO Tryz.func140
def xBH(x3 x7:List Val)(x8 x9:Int):St:=[(6,(vS .own .val x3)),(14,(vS .ro .val x7)),(16,(vI x8)),(18,(vI x9))]
theorem xDi{N}{q0}(g0:G92 q0){q1}(g1:Ff q1):∀n x3 x7 x8 x9 r,Eh N q0 q1 n x3 x7 x8 x9=some r->RS MJ 3 (xBH x3 x7 x8 x9) (Hb r):=
 nI (fun _ _ _ _ _ h=>nE h) fun n ih x3 x7 x8 x9 r h=>cE (oA h) (fun h=>bE (iE h) (g0 _ _) fun r1 h=>tS (iE h) (ih _ _ _ _ _ (iE h).2)) fun h=>dS h
theorem xH9{N}{q0}(g0:G92 q0){q1}(g1:Ff q1){a0 r}(h:Ha N q0 q1 a0=some r):AbC 140 (Ja a0) (Hb r):=
 oK MJ <| tE (oA h) (xDi g0 g1 _ _ _ _ _ _ h)
theorem NV{N:Nat}:∀d,G92 (AQ N d).c_impl_copyValue/\Ff (AQ N d).c_impl_copyValues:=by
 intro d
 induction d with
 |zero=>exact⟨fun _ _ h=>nE h,fun _ _ h=>nE h⟩
 |succ d ih=>
  obtain⟨ih0,ih1⟩:=ih;exact⟨fun _ _ h=>xH8 (N:=N) ih0 ih1 h,fun _ _ h=>xH9 (N:=N) ih0 ih1 h⟩
theorem H8{N:Nat}{a0:Val}{r:Val}(h:DX N a0=some r):AbC 92 (J8 a0) (H9 r):=(NV N).1 _ r h
theorem xIa{N:Nat}{a0:List Val}{r:(List Val)}(h:J9 N a0=some r):AbC 140 (Ja a0) (Hb r):=(NV N).2 _ r h
theorem xFH:FnOk Tryz.prog 91 Tryz.f91 (mI Tryz.f91 6 [.cell 2 30] [0,4,5] [] []):=fO Tryz.func91
theorem HX{N a0 r}(h:DT N a0=some r):AbC 91 (xHn a0) (xHo r):=
 oK xFH <| bE (oA h) xIa fun r1 h=>dE h
theorem xFI:FnOk Tryz.prog 93 Tryz.f93 (mI Tryz.f93 9 [.cell 2 30] [0,4,10,5] [] []):=fO Tryz.func93
theorem Mz{N a0 r}(h:Ft N a0=some r):AbC 93 (xGB a0) (xGC r):=
 oK xFI <| bE (oA h) D0 fun r1 h=>cE h (fun h=>bE h y7 fun r2 h=>dE h) fun h=>bE h Bb fun r2 h=>dE h
theorem xHt{P:Program}{f:FuncId}{ags:List Arg}{r:Val×Bool}(h:AbsCalls P f ags (HZ r))(ht:r.2=true):AbsCalls P f ags (J6 r):=by
 unfold HZ at h;rw [ht] at h;exact h
theorem xHs{P:Program}{f:FuncId}{ags:List Arg}{r:Val×Bool}(h:AbsCalls P f ags (HZ r))(ht:r.2=true)(e0:List.isEmpty (Val.list r.1)=true)(e1:List.isEmpty (Val.columns r.1)=true)(e2:List.isEmpty (Val.rows r.1)=true):AbsCalls P f ags (xHq r):=by
 have h:=xHt h ht;unfold J6 at h;rw [Yw.1 e0,Yw.1 e1,Yw.1 e2] at h;exact h
theorem xFm:FnOk Tryz.prog 37 Tryz.f37 (mI Tryz.f37 53 [.cell 4 30] [0,2,4,6,8,10,12,26,30,66,5,7,9,11] [] [(1,[(3,.take,false)]),(2,[(0,.take,false)]),(3,[(0,.take,false)]),(4,[(3,.take,false),(7,.take,false)])]):=fO Tryz.func37
theorem HY{N a0 a1 r}(h:Ar N a0 a1=some r):AbC 37 (xHp a0 a1) (HZ r):=
 oK xFm <| bK (oA h) Jg fun r1 k h=>cM k h (fun h=>cE h (fun h=>dE h) fun h=>cE h (fun h=>bE (cb Y h) y7 fun r2 h=>dE h) fun h=>cE h (fun h=>cE h (fun h=>bE h y7 fun r2 h=>dE h) fun h=>bE (iE (rb Y 1 h)) H8 fun r2 h=>dE h) fun h=>bE (rb F 1 (cb F h)) Mz fun r2 h=>dE h) fun h=>cE h (fun h=>dE h) fun h=>cE h (fun h=>bE (cb Y h) y7 fun r2 h=>dE h) fun h=>cE h (fun h=>cE h (fun h=>bE h y7 fun r2 h=>dE h) fun h=>bE (iE (rb Y 1 h)) H8 fun r2 h=>dE h) fun h=>bE (rb F 1 (cb F h)) Mz fun r2 h=>dE h
theorem MV:FnOk Tryz.prog 35 Tryz.f35 (mI Tryz.f35 58 [.cell 4 30] [0,2,4,6,8,10,12,14,16,18,32,42,50,80,98,5,7,9,11,15,19] [(10,[4,6,8,14,16,5,7,9,15])] [(1,[(3,.take,false)]),(2,[(0,.take,false)]),(3,[(0,.take,false)]),(12,[(3,.take,true)]),(14,[(0,.take,false)]),(15,[(1,.take,false),(2,.take,false),(4,.take,false)]),(16,[(0,.take,false)])]):=fO Tryz.func35
def xB1(x8:Int)(b2 b3 b4 b7:Val):St:=[(4,(vP 2)),(6,(vP 3)),(8,(vP 4)),(14,(vP 7)),(16,(vI x8)),(5,(vV .ro b2)),(7,(vV .ro b3)),(9,(vV .own b4)),(15,(vV .own b7))]
theorem xDB{N}:∀n x8 b2 b3 b4 b7 r,Ed N n x8 b2 b3 b4 b7=some r->RS MV 10 (xB1 x8 b2 b3 b4 b7) (NJ r):=
 nI (fun _ _ _ _ _ _ h=>nE h) fun n ih x8 b2 b3 b4 b7 r h=>cE (oA h) (fun h=>bE h Bb fun r1 h=>bK h HY fun r2 k h=>cN k h (xHs k) (fun h=>cE h (fun h=>dS h) fun h=>nE (iE h).2) fun h=>cE h (fun h=>dS h) fun h=>tS (iE h) (ih _ _ _ _ _ _ (iE h).2)) fun h=>dS h
theorem xHO{N a0 a1 r}(h:DW N a0 a1=some r):AbC 35 (xHN a0 a1) (NJ r):=
 oK MV <| bK (oA h) Jg fun r1 k h=>cM k h (fun h=>cE h (fun h=>dE h) fun h=>bE h Em fun r2 h=>cE h (fun h=>bE h y7 fun r3 h=>dE h) fun h=>cE h (fun h=>bE (iE h) HX fun r3 h=>dE h) fun h=>nE h.2) fun h=>cE h (fun h=>dE h) fun h=>bE h Em fun r2 h=>cE h (fun h=>bE h y7 fun r3 h=>dE h) fun h=>cE h (fun h=>bE (iE h) HX fun r3 h=>dE h) fun h=>tE h (xDB _ _ _ _ _ _ _ h.2)
theorem xFn:FnOk Tryz.prog 46 Tryz.f46 (mI Tryz.f46 8 [.cell 4 30] [0,2,8,9] [] []):=fO Tryz.func46
theorem Ec{N a0 a1 r}(h:Ce N a0 a1=some r):AbC 46 (xHD a0 a1) (xHE r):=
 oK xFn <| dE (oA h)
theorem xFl:FnOk Tryz.prog 36 Tryz.f36 (mI Tryz.f36 45 [.cell 4 30] [0,2,4,6,8,10,12,14,28,36,44,76,5,7,9,11,15] [] [(1,[(3,.take,false)]),(2,[(0,.take,false)]),(3,[(0,.take,false)]),(10,[(0,.take,false)])]):=fO Tryz.func36
theorem xHx{N a0 a1 r}(h:DU N a0 a1=some r):AbC 36 (xHw a0 a1) (xHy r):=
 oK xFl <| bK (oA h) Jg fun r1 k h=>cM k h (fun h=>cE h (fun h=>dE h) fun h=>cE h (fun h=>bE h y7 fun r2 h=>dE h) fun h=>cE h (fun h=>bE (iE h) HX fun r2 h=>dE h) fun h=>bK h HY fun r2 k h=>cM k h (fun h=>cE h (fun h=>dE h) fun h=>bE h Ec fun r3 h=>dE h) fun h=>cE h (fun h=>dE h) fun h=>bE h Ec fun r3 h=>dE h) fun h=>cE h (fun h=>dE h) fun h=>cE h (fun h=>bE h y7 fun r2 h=>dE h) fun h=>cE h (fun h=>bE (iE h) HX fun r2 h=>dE h) fun h=>bK h HY fun r2 k h=>cM k h (fun h=>cE h (fun h=>dE h) fun h=>bE h Ec fun r3 h=>dE h) fun h=>cE h (fun h=>dE h) fun h=>bE h Ec fun r3 h=>dE h
theorem xOY{N:Nat}{a0 a1:Str}{r:List Str}(h:Ih N a0 a1=some r):AbC 141 (xOW a0 a1) (xOZ r):=
 zAm (xEC Tryz.lays146) (fun s c w hs=>xOV Tryz.lays146 (by kernel_rfl) s c w hs) h
theorem xFJ:FnOk Tryz.prog 94 Tryz.f94 (mI Tryz.f94 10 [.tmp 4] [0,2,8] [] []):=fO Tryz.func94
theorem H0{N a0 a1 r}(h:DV N a0 a1=some r):AbC 94 (xHB a0 a1) (xHC r):=
 oK xFJ <| bE (oA h) xOY fun r1 h=>dE h
theorem xFK:FnOk Tryz.prog 95 Tryz.f95 (mI Tryz.f95 9 [.tmp 4] [0,2,4,8,5] [] []):=fO Tryz.func95
theorem AW{N a0 a1 r}(h:AG N a0 a1=some r):AbC 95 (xGD a0 a1) (xGE r):=
 oK xFK <| bE (oA h) J0 fun r1 h=>dE h
theorem Fq:FnOk Tryz.prog 38 Tryz.f38 (mI Tryz.f38 92 [.cell 4 30] [0,2,4,6,8,10,12,14,16,20,22,26,28,32,50,66,68,70,72,86,106,112,114,116,118,134,136,138,140,5,7,9,11,15,27,29] [(7,[6,8,14,16,66,68,70,7,9,15]),(17,[8,14,16,112,114,116,9,15]),(21,[8,14,16,26,28,112,114,116,134,136,138,9,15,27,29])] [(1,[(4,.take,true),(5,.take,false)]),(2,[(0,.take,false)]),(3,[(0,.take,false)]),(9,[(1,.take,false)]),(12,[(0,.take,false)]),(13,[(1,.take,false)]),(23,[(1,.take,false),(4,.take,false)]),(24,[(1,.take,false)]),(25,[(1,.take,false),(2,.take,false),(4,.take,false)]),(26,[(1,.take,false)]),(27,[(0,.take,false)])]):=fO Tryz.func38
def xB3(x8:List Int)(x33:List Str)(x34 x35:Int)(b3 b4 b7:Val):St:=[(6,(vP 3)),(8,(vP 4)),(14,(vP 7)),(16,(vS .own .int x8)),(66,(vS .bor .str x33)),(68,(vI x34)),(70,(vI x35)),(7,(vV .ro b3)),(9,(vV .own b4)),(15,(vV .own b7))]
def LD(x8:List Int)(x56:List Rowd)(x57 x58:Int)(b4 b7:Val):St:=[(8,(vP 4)),(14,(vP 7)),(16,(vS .own .int x8)),(112,(vS .ro .row x56)),(114,(vI x57)),(116,(vI x58)),(9,(vV .own b4)),(15,(vV .own b7))]
def xB2(x8:List Int)(x56:List Rowd)(x57 x58:Int)(x67:List Int)(x68 x69:Int)(b4 b7:Val)(b13 b14:Rowd):St:=[(8,(vP 4)),(14,(vP 7)),(16,(vS .own .int x8)),(26,(vP 13)),(28,(vP 14)),(112,(vS .ro .row x56)),(114,(vI x57)),(116,(vI x58)),(134,(vS .bor .int x67)),(136,(vI x68)),(138,(vI x69)),(9,(vV .own b4)),(15,(vV .own b7)),(27,.v true [.sl .ro .int b13.cells,.sl .ro .org b13.frm]),(29,.v true [.sl .own .int b14.cells,.sl .own .org b14.frm])]
theorem xDD{N}{k17}(hk17:∀z0 z1 z2 z3 z4 z5 r,k17 z0 z1 z2 z3 z4 z5=some r->RS Fq 17 (LD z0 z1 z2 z3 z4 z5) (Fy r)):∀n x8 x56 x57 x58 x67 x68 x69 b4 b7 b13 b14 r,DS N k17 n x8 x56 x57 x58 x67 x68 x69 b4 b7 b13 b14=some r->RS Fq 21 (xB2 x8 x56 x57 x58 x67 x68 x69 b4 b7 b13 b14) (Fy r):=
 nI (fun _ _ _ _ _ _ _ _ _ _ _ _ h=>nE h) fun n ih x8 x56 x57 x58 x67 x68 x69 b4 b7 b13 b14 r h=>cE (oA h) (fun h=>tS (iE (iE (iE h))) (ih _ _ _ _ _ _ _ _ _ _ _ _ (iE (iE (iE h))).2)) fun h=>tS (iE h) (hk17 _ _ _ _ _ _ _ (iE h).2)
theorem xDC{N}:∀n x8 x56 x57 x58 b4 b7 r,By N n x8 x56 x57 x58 b4 b7=some r->RS Fq 17 (LD x8 x56 x57 x58 b4 b7) (Fy r):=
 nI (fun _ _ _ _ _ _ _ h=>nE h) fun n ih x8 x56 x57 x58 b4 b7 r h=>cE (oA h) (fun h=>tS (iE (iE h)) (xDD ih _ _ _ _ _ _ _ _ _ _ _ _ _ (iE (iE h)).2)) fun h=>dS h
theorem LY{N}:∀n x8 x33 x34 x35 b3 b4 b7 r,Bz N n x8 x33 x34 x35 b3 b4 b7=some r->RS Fq 7 (xB3 x8 x33 x34 x35 b3 b4 b7) (Fy r):=
 nI (fun _ _ _ _ _ _ _ _ h=>nE h) fun n ih x8 x33 x34 x35 b3 b4 b7 r h=>cE (oA h) (fun h=>bE (iE h) AW fun r1 h=>cE h (fun h=>bE h y7 fun r2 h=>dS h) fun h=>tS (iE h) (ih _ _ _ _ _ _ _ _ (iE h).2)) fun h=>bE h HM fun r1 h=>cE h (fun h=>bE h y7 fun r2 h=>dS h) fun h=>tS h (xDC _ _ _ _ _ _ _ _ h.2)
theorem xHf{N a0 a1 r}(h:Fx N a0 a1=some r):AbC 38 (xHe a0 a1) (Fy r):=
 oK Fq <| bK (oA h) CC fun r1 k h=>cN k h (CD k) (fun h=>cE h (fun h=>dE h) fun h=>bE h H0 fun r2 h=>tE h (LY _ _ _ _ _ _ _ _ _ h.2)) fun h=>cE h (fun h=>dE h) fun h=>bE h H0 fun r2 h=>tE h (LY _ _ _ _ _ _ _ _ _ h.2)
theorem MW:FnOk Tryz.prog 39 Tryz.f39 (mI Tryz.f39 54 [.cell 4 30] [0,2,4,6,8,10,12,14,16,20,38,52,62,70,72,74,76,5,7,9,11,17,21] [(11,[8,14,16,70,72,74,9,17])] [(1,[(4,.take,true),(5,.take,false)]),(2,[(0,.take,false)]),(3,[(0,.take,false)]),(13,[(1,.take,false),(9,.take,false)]),(14,[(1,.take,false)]),(15,[(0,.take,false)])]):=fO Tryz.func39
def xB4(x7:Int)(x35:List Rowd)(x36 x37:Int)(b4 b8:Val):St:=[(8,(vP 4)),(14,(vI x7)),(16,(vP 8)),(70,(vS .ro .row x35)),(72,(vI x36)),(74,(vI x37)),(9,(vV .own b4)),(17,(vV .own b8))]
theorem LZ{N}:∀n x7 x35 x36 x37 b4 b8 r,Cc N n x7 x35 x36 x37 b4 b8=some r->RS MW 11 (xB4 x7 x35 x36 x37 b4 b8) (NA r):=
 nI (fun _ _ _ _ _ _ _ h=>nE h) fun n ih x7 x35 x36 x37 b4 b8 r h=>cE (oA h) (fun h=>bE (iE (iE h)) Bb fun r1 h=>tS (iE h) (ih _ _ _ _ _ _ _ (iE h).2)) fun h=>dS h
theorem xGG{N a0 a1 r}(h:E9 N a0 a1=some r):AbC 39 (xGF a0 a1) (NA r):=
 oK MW <| bK (oA h) CC fun r1 k h=>cN k h (CD k) (fun h=>cE h (fun h=>dE h) fun h=>bE h AW fun r2 h=>cE h (fun h=>bE h y7 fun r3 h=>dE h) fun h=>cE h (fun h=>bE h y7 fun r3 h=>dE h) fun h=>tE h (LZ _ _ _ _ _ _ _ _ h.2)) fun h=>cE h (fun h=>dE h) fun h=>bE h AW fun r2 h=>cE h (fun h=>bE h y7 fun r3 h=>dE h) fun h=>cE h (fun h=>bE h y7 fun r3 h=>dE h) fun h=>tE h (LZ _ _ _ _ _ _ _ _ h.2)
theorem HD:FnOk Tryz.prog 40 Tryz.f40 (mI Tryz.f40 80 [.cell 4 30] [0,2,4,6,8,10,12,14,18,20,24,42,60,66,68,70,72,100,108,110,112,114,124,5,7,9,11,15,19,21,25] [(8,[8,14,66,68,70,9,15]),(14,[8,14,20,66,68,70,108,110,112,9,15,21])] [(1,[(4,.take,true),(5,.take,false)]),(2,[(0,.take,false)]),(3,[(0,.take,false)]),(10,[(3,.take,false)]),(18,[(1,.take,false)]),(19,[(1,.take,false)]),(20,[(1,.take,false),(2,.take,false),(4,.take,false)]),(21,[(1,.take,false)]),(22,[(0,.take,false)])]):=fO Tryz.func40
def LE(x33:List Val)(x34 x35:Int)(b4 b7:Val):St:=[(8,(vP 4)),(14,(vP 7)),(66,(vS .ro .val x33)),(68,(vI x34)),(70,(vI x35)),(9,(vV .own b4)),(15,(vV .own b7))]
def xB7(x33:List Val)(x34 x35:Int)(x54:List Val)(x55 x56:Int)(b4 b7:Val)(b10:Rowd):St:=[(8,(vP 4)),(14,(vP 7)),(20,(vP 10)),(66,(vS .ro .val x33)),(68,(vI x34)),(70,(vI x35)),(108,(vS .ro .val x54)),(110,(vI x55)),(112,(vI x56)),(9,(vV .own b4)),(15,(vV .own b7)),(21,.v true [.sl .own .int b10.cells,.sl .own .org b10.frm])]
theorem xDG{N}{k8}(hk8:∀z0 z1 z2 z3 z4 r,k8 z0 z1 z2 z3 z4=some r->RS HD 8 (LE z0 z1 z2 z3 z4) (H3 r)):∀n x33 x34 x35 x54 x55 x56 b4 b7 b10 r,Cf N k8 n x33 x34 x35 x54 x55 x56 b4 b7 b10=some r->RS HD 14 (xB7 x33 x34 x35 x54 x55 x56 b4 b7 b10) (H3 r):=
 nI (fun _ _ _ _ _ _ _ _ _ _ h=>nE h) fun n ih x33 x34 x35 x54 x55 x56 b4 b7 b10 r h=>cE (oA h) (fun h=>cE (iE h) (fun h=>bE h y7 fun r1 h=>dS h) fun h=>tS (iE h) (ih _ _ _ _ _ _ _ _ _ _ (iE h).2)) fun h=>tS (iE h) (hk8 _ _ _ _ _ _ (iE h).2)
theorem L1{N}:∀n x33 x34 x35 b4 b7 r,BN N n x33 x34 x35 b4 b7=some r->RS HD 8 (LE x33 x34 x35 b4 b7) (H3 r):=
 nI (fun _ _ _ _ _ _ h=>nE h) fun n ih x33 x34 x35 b4 b7 r h=>cE (oA h) (fun h=>cE (iE h) (fun h=>bE (cb Y h) y7 fun r1 h=>dS h) fun h=>cE h (fun h=>bE h y7 fun r1 h=>dS h) fun h=>tS h (xDG ih _ _ _ _ _ _ _ _ _ _ _ h.2)) fun h=>dS h
theorem xHK{N a0 a1 r}(h:Fz N a0 a1=some r):AbC 40 (xHJ a0 a1) (H3 r):=
 oK HD <| bK (oA h) CC fun r1 k h=>cN k h (CD k) (fun h=>cE h (fun h=>dE h) fun h=>bE h H0 fun r2 h=>bE h J7 fun r3 h=>cE h (fun h=>bE h y7 fun r4 h=>dE h) fun h=>tE h (L1 _ _ _ _ _ _ _ h.2)) fun h=>cE h (fun h=>dE h) fun h=>bE h H0 fun r2 h=>bE h J7 fun r3 h=>cE h (fun h=>bE h y7 fun r4 h=>dE h) fun h=>tE h (L1 _ _ _ _ _ _ _ h.2)
theorem MX:FnOk Tryz.prog 41 Tryz.f41 (mI Tryz.f41 60 [.cell 6 30] [0,2,4,6,8,10,12,14,16,18,20,24,44,58,74,76,78,80,100,7,9,11,13,15,21,25] [(9,[8,12,18,20,74,76,78,9,13,21])] [(1,[(5,.take,true),(6,.take,false)]),(2,[(0,.take,false)]),(3,[(0,.take,false)]),(12,[(1,.take,false),(5,.take,false)]),(13,[(1,.take,false)]),(14,[(0,.take,false)])]):=fO Tryz.func41
def xB8(x9:Int)(x37:List Rowd)(x38 x39:Int)(b4 b6 b10:Val):St:=[(8,(vP 4)),(12,(vP 6)),(18,(vI x9)),(20,(vP 10)),(74,(vS .ro .row x37)),(76,(vI x38)),(78,(vI x39)),(9,(vV .ro b4)),(13,(vV .own b6)),(21,(vV .own b10))]
theorem L2{N}:∀n x9 x37 x38 x39 b4 b6 b10 r,Bd N n x9 x37 x38 x39 b4 b6 b10=some r->RS MX 9 (xB8 x9 x37 x38 x39 b4 b6 b10) (NM r):=
 nI (fun _ _ _ _ _ _ _ _ h=>nE h) fun n ih x9 x37 x38 x39 b4 b6 b10 r h=>cE (oA h) (fun h=>cE (iE (iE h)) (fun h=>bE h NU fun r1 h=>tS (iE h) (ih _ _ _ _ _ _ _ _ (iE h).2)) fun h=>tS h (ih _ _ _ _ _ _ _ _ h.2)) fun h=>dS h
theorem xHX{N a0 a1 a2 r}(h:Ee N a0 a1 a2=some r):AbC 41 (xHW a0 a1 a2) (NM r):=
 oK MX <| bK (oA h) CC fun r1 k h=>cN k h (CD k) (fun h=>cE h (fun h=>dE h) fun h=>bE h AW fun r2 h=>cE h (fun h=>bE h y7 fun r3 h=>dE h) fun h=>tE (iE h) (L2 _ _ _ _ _ _ _ _ _ (iE h).2)) fun h=>cE h (fun h=>dE h) fun h=>bE h AW fun r2 h=>cE h (fun h=>bE h y7 fun r3 h=>dE h) fun h=>tE (iE h) (L2 _ _ _ _ _ _ _ _ _ (iE h).2)
theorem xHU{N:Nat}{a0 a1 r:List Org}(h:H5 N a0 a1=some r):AbC 99 (NK a0 a1) (NL r):=xPk h
theorem MY:FnOk Tryz.prog 42 Tryz.f42 (mI Tryz.f42 153 [.cell 6 30] [0,2,4,6,8,10,12,14,16,18,20,22,24,28,30,32,36,56,100,110,112,114,116,138,248,250,252,254,278,7,9,11,13,15,29,33,151] [(8,[6,8,10,12,18,20,7,9,11,13])] [(1,[(5,.take,true),(6,.take,false)]),(2,[(0,.take,false)]),(3,[(0,.take,false)]),(6,[(2,.take,false),(6,.take,false)]),(19,[(1,.take,false)]),(28,[(1,.take,false)])]):=fO Tryz.func42
def xB9(x9 x10:Int)(b3 b4 b5 b6:Val):St:=[(6,(vP 3)),(8,(vP 4)),(10,(vP 5)),(12,(vP 6)),(18,(vI x9)),(20,(vI x10)),(7,(vV .ro b3)),(9,(vV .ro b4)),(11,(vV .ro b5)),(13,(vV .own b6))]
theorem L3{N}:∀x9 x10 b3 b4 b5 b6 r,HQ N x9 x10 b3 b4 b5 b6=some r->RS MY 8 (xB9 x9 x10 b3 b4 b5 b6) (JZ r):=
 fun x9 x10 b3 b4 b5 b6 r h=>xGh (by kernel_rfl) rfl rfl rfl (by kernel_rfl) (by kernel_rfl) (by kernel_rfl) (by kernel_rfl) (by kernel_rfl) (by kernel_rfl) (by kernel_rfl) (by kernel_rfl) (by kernel_rfl) rfl h
theorem xGU{N a0 a1 a2 r}(h:Cd N a0 a1 a2=some r):AbC 42 (xGT a0 a1 a2) (JZ r):=
 oK MY <| bK (oA h) CC fun r1 k h=>cN k h (CD k) (fun h=>cE h (fun h=>dE h) fun h=>bE h AW fun r2 h=>bE h AW fun r3 h=>cE h (fun h=>bE (cb Y (cb Y h)) y7 fun r4 h=>dE h) fun h=>cE h (fun h=>bE (cb Y h) y7 fun r4 h=>dE h) fun h=>cE h (fun h=>bE h y7 fun r4 h=>dE h) fun h=>tE h (L3 _ _ _ _ _ _ _ h.2)) fun h=>cE h (fun h=>dE h) fun h=>bE h AW fun r2 h=>bE h AW fun r3 h=>cE h (fun h=>bE (cb Y (cb Y h)) y7 fun r4 h=>dE h) fun h=>cE h (fun h=>bE (cb Y h) y7 fun r4 h=>dE h) fun h=>cE h (fun h=>bE h y7 fun r4 h=>dE h) fun h=>tE h (L3 _ _ _ _ _ _ _ h.2)
theorem Lp:FnOk Tryz.prog 101 Tryz.f101 (mI Tryz.f101 25 [.tmp 4] [0,2,8,10,14,18,20,22,24,36] [(3,[2,10,18,20,22])] [(6,[(0,.take,false)]),(7,[(1,.take,false)]),(8,[(0,.take,false)])]):=fO Tryz.func101
def xBj(x1 x5 x9:List Str)(x10 x11:Int):St:=[(2,(vS .ro .str x1)),(10,(vS .own .str x5)),(18,(vS .ro .str x9)),(20,(vI x10)),(22,(vI x11))]
theorem xCX{N}:∀n x1 x5 x9 x10 x11 r,Cg N n x1 x5 x9 x10 x11=some r->RS Lp 3 (xBj x1 x5 x9 x10 x11) (NO r):=
 nI (fun _ _ _ _ _ _ h=>nE h) fun n ih x1 x5 x9 x10 x11 r h=>cE (oA h) (fun h=>bE (iE h) J0 fun r1 h=>cE h (fun h=>tS (iE h) (ih _ _ _ _ _ _ (iE h).2)) fun h=>tS h (ih _ _ _ _ _ _ h.2)) fun h=>dS h
theorem NN{N a0 a1 r}(h:GA N a0 a1=some r):AbC 101 (xH0 a0 a1) (NO r):=
 oK Lp <| tE (oA h) (xCX _ _ _ _ _ _ _ h)
end Go.Ab.T
end
