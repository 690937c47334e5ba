/- The statement FnExactCallFunction holds: plain functions, certificates, laws. Conditions: none. -/
import Derived.Test.YtdjlpnkiffdnpaaGreatDoorL2
import Derived.Test.YtdjlpnkiffdnpaaGreatDoorFnExactCallFunctionP0
set_option linter.all false
section
open Go.IntKind (i64)
namespace Go.Ab
open Go.Sort
abbrev qUp(d:Array Org)(a:Nat):Org->Bool:=fun x=> !olt d[a]! x
abbrev qDn(d:Array Org)(a:Nat):Org->Bool:=fun x=>olt d[a]! x
theorem OS(N:Nat)(k:Int->Int->Int->List Org->Option (Int×List Org)){a i:Nat}:∀(j n:Nat) (d:Array Org),a<i->i<=j+1->j<d.size->2<=d.size->d.size<1152921504606846976->j<n->
 C0 N k n (a:Int) (i:Int) (j:Int) d.toList=
  (if i>scanDown (qDn d a) d i j then some ((i:Int),d.toList)
   else k (a:Int) ((i+1:Nat):Int) ((scanDown (qDn d a) d i j - 1:Nat):Int) (swp d i (scanDown (qDn d a) d i j)).toList)
 |0,n,d,ha,hij,hj,h2,hs,hn=>by
  obtain⟨n,rfl⟩:∃m,n=m+1:=⟨n - 1,by omega⟩;have e:(decide ((i:Int)<=((0:Nat):Int)))=false:=Zy (by omega);have e2:(decide ((i:Int)>((0:Nat):Int)))=true:=Zz (by omega);rw [C0,e,jF,e2,jT,scanDown,Zx (by omega)]
 |j+1,n,d,ha,hij,hj,h2,hs,hn=>by
  obtain⟨n,rfl⟩:∃m,n=m+1:=⟨n - 1,by omega⟩;have wi:i64.wrap ((i:Int)+1)=((i+1:Nat):Int):=wn _ (by omega) (by omega);have wj:i64.wrap (((j+1:Nat):Int) - 1)=((j:Nat):Int):=wn _ (by omega) (by omega);rw [C0,wi,wj];by_cases h:i<=j+1
  ·have e:(decide ((i:Int)<=((j+1:Nat):Int)))=true:=Zz (by omega);have e2:(decide ((i:Int)>((j+1:Nat):Int)))=false:=Zy (by omega);rw [e,jT,A8 N rfl rfl (by omega) hj,e2,jF];dsimp only;cases hl:olt d[a]! d[j+1]! with
   |true=>
    rw [jT,OS N k j n d ha (by omega) (by omega) h2 hs (by omega),Fm (p:=qDn d a) h (by simp [qDn,hl])]
   |false=>
    rw [jF,AO N rfl rfl (by omega) hj h2,CX (p:=qDn d a) (by simp [qDn,hl]),Zj (by omega)]
    rfl
  ·have e:(decide ((i:Int)<=((j+1:Nat):Int)))=false:=Zy (by omega);have e2:(decide ((i:Int)>((j+1:Nat):Int)))=true:=Zz (by omega);rw [e,jF,e2,jT,CX (p:=qDn d a) (by omega),Zx (by omega)]
theorem xKY(N:Nat){a:Nat}:∀(m i j n:Nat) (d:Array Org),j+1 - i=m->a<i->i<=j+1->j<d.size->2<=d.size->d.size<1152921504606846976->m<n->d.size<N->
 CZ N n (a:Int) (i:Int) (j:Int) d.toList=some (((partEqLoop olt a i j d).1:Int),(partEqLoop olt a i j d).2.toList):=by
 intro m
 induction m using Nat.strongRecOn with
 |_ m ih=>
  intro i j n d hm ha hij hj h2 hs hn hN;obtain⟨n,rfl⟩:∃m,n=m+1:=⟨n - 1,by omega⟩;have wi:i64.wrap ((i:Int)+1)=((i+1:Nat):Int):=wn _ (by omega) (by omega);rw [CZ,wi]
  have stop:∀(hc:¬(i<=j/\qUp d a d[i]! =true)),C0 N (fun z0 z1 z2 z3=>(CZ N n z0 z1 z2 z3)) N (a:Int) (i:Int) (j:Int) d.toList=
   some (((partEqLoop olt a i j d).1:Int),(partEqLoop olt a i j d).2.toList):=by
   intro hc;rw [OS N _ j N d ha hij hj h2 hs (by omega),partEqLoop_eq,CY (p:=qUp d a) hc];have hb:=Hb (p:=qDn d a) (d:=d) (by omega:0<i) j hij;split
   ·rfl
   ·rename_i hg;have hne:i≠scanDown (qDn d a) d i j:=by
     intro e;have h1:=Hc (p:=qDn d a) (d:=d) (by omega:0<i) j hij (by omega);rw [<-e] at h1;have h2:qUp d a d[i]! =true:=by simpa [qDn,qUp] using h1
     exact hc ⟨by omega,h2⟩
    exact ih (scanDown (qDn d a) d i j - 1+1 - (i+1)) (by omega) (i+1) (scanDown (qDn d a) d i j - 1) n _ rfl (by omega) (by omega) (by rw [yZ];omega) (by rw [yZ];exact h2) (by rw [yZ];exact hs) (by omega) (by rw [yZ];exact hN)
  by_cases h:i<=j
  ·have e:(decide ((i:Int)<=(j:Int)))=true:=Zz (by omega);rw [e,jT,A8 N rfl rfl (by omega) (by omega)];dsimp only;cases hl:olt d[a]! d[i]! with
   |false=>
    rw [jV,jT,ih (m - 1) (by omega) (i+1) j n d (by omega) (by omega) (by omega) hj h2 hs (by omega) hN];have:partEqLoop olt a i j d=partEqLoop olt a (i+1) j d:=by
     rw [partEqLoop_eq,partEqLoop_eq (i:=i+1),Fn (p:=qUp d a) h (by simp [qUp,hl])]
    rw [this]
   |true=>rw [jU,jF];exact stop (by simp [qUp,hl])
  ·have e:(decide ((i:Int)<=(j:Int)))=false:=Zy (by omega);rw [e,jF];exact stop (by omega)
theorem xKZ(N:Nat){a b pivot:Nat}{d:Array Org}(hp1:a<=pivot)(hp2:pivot<b)(hb:b<=d.size)(hab:a+1<b)(h2:2<=d.size)(hs:d.size<1152921504606846976)(hN:d.size<N):
 Hn N (a:Int) (b:Int) (pivot:Int) d.toList=some (((partitionEqual olt d a b pivot).1:Int),(partitionEqual olt d a b pivot).2.toList):=by
 have wa:i64.wrap ((a:Int)+1)=((a+1:Nat):Int):=wn _ (by omega) (by omega);have wb:i64.wrap ((b:Int) - 1)=((b - 1:Nat):Int):=wn _ (by omega) (by omega);have hs1:(swp d a pivot).size=d.size:=yZ;unfold Hn partitionEqual;rw [AO N rfl rfl (by omega) (by omega) h2,wa,wb];exact xKY N _ (a+1) (b - 1) N _ rfl (by omega) (by omega) (by omega) (by omega) (by omega) (by omega) (by omega)
theorem xLz(N:Nat)(k:Int->Int->Int->Int->List Org->Option (Bool×List Org)){a b i:Nat}{s:Nat}(hs5:s<100):∀(m j n:Nat) (d:Array Org),b - j=m->0<j->j<1152921504606846976->b<=d.size->2<=d.size->d.size<1152921504606846976->m<n->
 Ek N k n (a:Int) (b:Int) (i:Int) (s:Int) (j:Int) d.toList=k (a:Int) (b:Int) (i:Int) ((s+1:Nat):Int) (shiftUp olt b j d).toList/\(shiftUp olt b j d).size=d.size:=by
 have ws:i64.wrap ((s:Int)+1)=((s+1:Nat):Int):=wn _ (by omega) (by omega);intro m
 induction m with
 |zero=>
  intro j n d hm hj hjb hb h2 hs hn;obtain⟨n,rfl⟩:∃m,n=m+1:=⟨n - 1,by omega⟩;have e:(decide ((j:Int)<(b:Int)))=false:=Zy (by omega);rw [Ek,e,jF,shiftUp,Zj (by omega),ws];exact⟨rfl,rfl⟩
 |succ m ih=>
  intro j n d hm hj hjb hb h2 hs hn;obtain⟨n,rfl⟩:∃m,n=m+1:=⟨n - 1,by omega⟩;have e:(decide ((j:Int)<(b:Int)))=true:=Zz (by omega);have w1:i64.wrap ((j:Int) - 1)=((j - 1:Nat):Int):=wn _ (by omega) (by omega);have w2:i64.wrap ((j:Int)+1)=((j+1:Nat):Int):=wn _ (by omega) (by omega);rw [Ek,e,jT,w1,w2,ws,A8 N rfl rfl (by omega) (by omega),shiftUp,Zx (by omega)];dsimp only;cases hl:olt d[j]! d[j - 1]! with
  |false=>exact⟨rfl,rfl⟩
  |true=>
   rw [jU,jF,AO N rfl rfl (by omega) (by omega) h2];have:=ih (j+1) n (swp d j (j - 1)) (by omega) (by omega) (by omega) (by rw [yZ];exact hb) (by rw [yZ];exact h2) (by rw [yZ];exact hs) (by omega);rw [yZ] at this;exact this
def GH(b i:Nat)(d:Array Org):Array Org:=if b - i>=2 then shiftUp olt b (i+1) d else d
theorem He(N:Nat)(k:Int->Int->Int->Int->List Org->Option (Bool×List Org)){a b i:Nat}{s:Nat}(hs5:s<100)(d:Array Org)(hib:i<=b)(hb:b<=d.size)(h2:2<=d.size)(hs:d.size<1152921504606846976)(hN:d.size<N):
 DQ N k (a:Int) (b:Int) (i:Int) (s:Int) d.toList=k (a:Int) (b:Int) (i:Int) ((s+1:Nat):Int) (GH b i d).toList/\(GH b i d).size=d.size:=by
 have ws:i64.wrap ((s:Int)+1)=((s+1:Nat):Int):=wn _ (by omega) (by omega);have w1:i64.wrap ((b:Int) - (i:Int))=((b - i:Nat):Int):=wn _ (by omega) (by omega);have w2:i64.wrap ((i:Int)+1)=((i+1:Nat):Int):=wn _ (by omega) (by omega);unfold DQ GH;rw [ws,w1,w2];by_cases h:b - i>=2
 ·have e:(decide (((b - i:Nat):Int)>=2))=true:=Zz (by omega);rw [e,jT,Zx h];exact xLz N k hs5 _ (i+1) N d rfl (by omega) (by omega) hb h2 hs (by omega)
 ·have e:(decide (((b - i:Nat):Int)>=2))=false:=Zy (by omega);rw [e,jF,Zj h];exact⟨rfl,rfl⟩
theorem O7(N:Nat)(k:Int->Int->Int->Int->List Org->Option (Bool×List Org)){a b i:Nat}{s:Nat}:∀(j n:Nat) (d:Array Org),j<d.size->2<=d.size->d.size<1152921504606846976->j<n->
 Ej N k n (a:Int) (b:Int) (i:Int) (s:Int) (j:Int) d.toList=DQ N k (a:Int) (b:Int) (i:Int) (s:Int) (shiftDown olt j d).toList/\(shiftDown olt j d).size=d.size
 |0,n,d,hj,h2,hs,hn=>by
  obtain⟨n,rfl⟩:∃m,n=m+1:=⟨n - 1,by omega⟩;have e:(decide (((0:Nat):Int)>=1))=false:=Zy (by omega);rw [Ej,e,jF];exact⟨rfl,rfl⟩
 |j+1,n,d,hj,h2,hs,hn=>by
  obtain⟨n,rfl⟩:∃m,n=m+1:=⟨n - 1,by omega⟩;have e:(decide (((j+1:Nat):Int)>=1))=true:=Zz (by omega);have w1:i64.wrap (((j+1:Nat):Int) - 1)=((j:Nat):Int):=wn _ (by omega) (by omega);rw [Ej,e,jT,w1,A8 N rfl rfl hj (by omega),shiftDown];dsimp only;cases hl:olt d[j+1]! d[j]! with
  |false=>exact⟨rfl,rfl⟩
  |true=>
   rw [jU,jF,AO N rfl rfl hj (by omega) h2];have:=O7 N k (a:=a) (b:=b) (i:=i) (s:=s) j n (swp d (j+1) j) (by rw [yZ];omega) (by rw [yZ];exact h2) (by rw [yZ];exact hs) (by omega);rw [yZ] at this;exact this
theorem xLt(d:Array Org)(b:Nat):∀(m i:Nat),b - i=m->i<=b->i<=scanSorted olt d b i/\scanSorted olt d b i<=b:=by
 intro m
 induction m with
 |zero=>intro i hm hi;rw [scanSorted,Zj (by simp;omega)];omega
 |succ m ih=>
  intro i hm hi;rw [scanSorted];split
  ·have:=ih (i+1) (by omega) (by omega);omega
  ·omega
theorem xLs(N:Nat)(k:Int->Int->Int->Int->List Org->Option (Bool×List Org)){a b:Nat}{s:Nat}:∀(m i n:Nat) (d:Array Org),b - i=m->0<i->i<=b->b<=d.size->2<=d.size->d.size<1152921504606846976->m<n->
 El N k n (a:Int) (b:Int) (i:Int) (s:Int) d.toList=Em N k (a:Int) (b:Int) ((scanSorted olt d b i:Nat):Int) (s:Int) d.toList:=by
 intro m
 induction m with
 |zero=>
  intro i n d hm hi hib hb h2 hs hn;obtain⟨n,rfl⟩:∃m,n=m+1:=⟨n - 1,by omega⟩;have e:(decide ((i:Int)<(b:Int)))=false:=Zy (by omega);rw [El,e,jF,scanSorted,Zj (by simp;omega)]
 |succ m ih=>
  intro i n d hm hi hib hb h2 hs hn;obtain⟨n,rfl⟩:∃m,n=m+1:=⟨n - 1,by omega⟩;have e:(decide ((i:Int)<(b:Int)))=true:=Zz (by omega);have w1:i64.wrap ((i:Int) - 1)=((i - 1:Nat):Int):=wn _ (by omega) (by omega);have w2:i64.wrap ((i:Int)+1)=((i+1:Nat):Int):=wn _ (by omega) (by omega);rw [El,e,jT,w1,w2,A8 N rfl rfl (by omega) (by omega),scanSorted];dsimp only;cases hl:olt d[i]! d[i - 1]! with
  |false=>
   rw [jV,jT,Zx (by simp;omega)];exact ih (i+1) n d (by omega) (by omega) (by omega) hb h2 hs (by omega)
  |true=>rw [jU,jF,Zj (by simp)]
theorem xK3(N:Nat)(k:Int->Int->Int->Int->List Org->Option (Bool×List Org)){a b i:Nat}{s:Nat}(hs5:s<100)(d:Array Org)(hai:a<i)(hib:i<=b)(hb:b<=d.size)(h2:2<=d.size)(hs:d.size<1152921504606846976)(hN:d.size<N):
 Em N k (a:Int) (b:Int) (i:Int) (s:Int) d.toList=
  (if i=b then some (true,d.toList) else if b - a<50 then some (false,d.toList) else
    k (a:Int) (b:Int) (i:Int) ((s+1:Nat):Int) (GH b i (if i - a>=2 then shiftDown olt (i - 1) (swp d i (i - 1)) else swp d i (i - 1))).toList)/\
 (i≠b->(GH b i (if i - a>=2 then shiftDown olt (i - 1) (swp d i (i - 1)) else swp d i (i - 1))).size=d.size):=by
 have w1:i64.wrap ((b:Int) - (a:Int))=((b - a:Nat):Int):=wn _ (by omega) (by omega);have w2:i64.wrap ((i:Int) - 1)=((i - 1:Nat):Int):=wn _ (by omega) (by omega);have w3:i64.wrap ((i:Int) - (a:Int))=((i - a:Nat):Int):=wn _ (by omega) (by omega);unfold Em;rw [w1,w2,w3];by_cases h:i=b
 ·have e:(((i:Int))==(b:Int))=true:=by simp [h]
  rw [e,jT,Zx h];exact⟨rfl,fun g=>absurd h g⟩
 ·have e:(((i:Int))==(b:Int))=false:=by simp;omega
  rw [e,jF,Zj h];have hlt:i<b:=by omega
  have d1:=O7 N k (a:=a) (b:=b) (i:=i) (s:=s) (i - 1) N (swp d i (i - 1)) (by rw [yZ];omega) (by rw [yZ];exact h2) (by rw [yZ];exact hs) (by omega);rw [yZ] at d1;by_cases h50:b - a<50
  ·have e2:(decide (((b - a:Nat):Int)<50))=true:=Zz (by omega);rw [e2,jT,Zx h50];refine⟨rfl,fun _=> ?_⟩;by_cases h3:i - a>=2
   ·rw [Zx h3];rw [(He N k (a:=a) (i:=i) hs5 (shiftDown olt (i - 1) (swp d i (i - 1))) hib (by rw [d1.2];exact hb) (by rw [d1.2];exact h2) (by rw [d1.2];exact hs) (by rw [d1.2];exact hN)).2,d1.2]
   ·rw [Zj h3];rw [(He N k (a:=a) (i:=i) hs5 (swp d i (i - 1)) hib (by rw [yZ];exact hb) (by rw [yZ];exact h2) (by rw [yZ];exact hs) (by rw [yZ];exact hN)).2,yZ]
  ·have e2:(decide (((b - a:Nat):Int)<50))=false:=Zy (by omega);rw [e2,jF,Zj h50,AO N rfl rfl (by omega) (by omega) h2];by_cases h3:i - a>=2
   ·have e3:(decide (((i - a:Nat):Int)>=2))=true:=Zz (by omega);have u:=He N k (a:=a) (i:=i) hs5 (shiftDown olt (i - 1) (swp d i (i - 1))) hib (by rw [d1.2];exact hb) (by rw [d1.2];exact h2) (by rw [d1.2];exact hs) (by rw [d1.2];exact hN);rw [e3,jT,Zx h3,d1.1,u.1,u.2,d1.2];exact⟨rfl,fun _=>rfl⟩
   ·have e3:(decide (((i - a:Nat):Int)>=2))=false:=Zy (by omega);have u:=He N k (a:=a) (i:=i) hs5 (swp d i (i - 1)) hib (by rw [yZ];exact hb) (by rw [yZ];exact h2) (by rw [yZ];exact hs) (by rw [yZ];exact hN);rw [e3,jF,Zj h3,u.1,u.2,yZ];exact⟨rfl,fun _=>rfl⟩
theorem OY(N:Nat){a b:Nat}:∀(q s i n:Nat) (d:Array Org),s+q=5->a<i->i<=b->b<=d.size->2<=d.size->d.size<1152921504606846976->q<n->d.size<N->
 DR N n (a:Int) (b:Int) (i:Int) (s:Int) d.toList=some ((partialIns olt a b q i d).2,(partialIns olt a b q i d).1.toList)
 |0,s,i,n,d,hq,hai,hib,hb,h2,hs,hn,hN=>by
  obtain⟨n,rfl⟩:∃m,n=m+1:=⟨n - 1,by omega⟩;have e:(decide ((s:Int)<5))=false:=Zy (by omega);rw [DR,e,jF]
  rfl
 |q+1,s,i,n,d,hq,hai,hib,hb,h2,hs,hn,hN=>by
  obtain⟨n,rfl⟩:∃m,n=m+1:=⟨n - 1,by omega⟩;have e:(decide ((s:Int)<5))=true:=Zz (by omega);have hsc:=xLt d b _ i rfl hib;rw [DR,e,jT,xLs N _ _ i N d rfl (by omega) hib hb h2 hs (by omega),partialIns];generalize scanSorted olt d b i=i2 at hsc;obtain⟨p1,p2⟩:=xK3 N (fun z0 z1 z2 z3 z4=>(DR N n z0 z1 z2 z3 z4)) (a:=a) (b:=b) (i:=i2) (s:=s) (by omega) d (by omega) (by omega) hb h2 hs hN;rw [p1];dsimp only;by_cases h:i2=b
  ·rw [Zx h,Zx h]
  ·rw [Zj h,Zj h];by_cases h50:b - a<50
   ·rw [Zx h50,Zx h50]
   ·rw [Zj h50,Zj h50];have hsz:=p2 h;exact OY N q (s+1) i2 n _ (by omega) (by omega) (by omega) (by rw [hsz];exact hb) (by rw [hsz];exact h2) (by rw [hsz];exact hs) (by omega) (by rw [hsz];exact hN)
theorem xK4(N:Nat){a b:Nat}{d:Array Org}(hab:a<b)(hb:b<=d.size)(h2:2<=d.size)(hs:d.size<1152921504606846976)(hN:d.size+10<N):
 Hm N (a:Int) (b:Int) d.toList=some ((partialInsertionSort olt d a b).2,(partialInsertionSort olt d a b).1.toList):=by
 have wa:i64.wrap ((a:Int)+1)=((a+1:Nat):Int):=wn _ (by omega) (by omega);unfold Hm partialInsertionSort;rw [wa];exact OY N 5 0 (a+1) N d rfl (by omega) (by omega) hb h2 hs (by omega) (by omega)
end Go.Ab
end
section
open Go.IntKind (i64)
namespace Go.Ab
open Go.Sort
theorem Jl(N:Nat){x y:Int}{i j:Nat}(s:Int){d:Array Org}(hx:x=i)(hy:y=j)(hi:i<d.size)(hj:j<d.size):
 ∃(i' j' :Nat) (s' :Int),Ei N x y s d.toList=some ((i' :Int),(j' :Int),s',d.toList)/\((i' =i/\j' =j)\/(i' =j/\j' =i)):=by
 subst hx hy;unfold Ei;rw [A8 N rfl rfl hj hi];dsimp only;cases olt d[j]! d[i]! with
 |true=>exact⟨j,i,_,rfl,.inr ⟨rfl,rfl⟩⟩
 |false=>exact⟨i,j,_,rfl,.inl ⟨rfl,rfl⟩⟩
theorem Jd(N:Nat){x y z:Int}{i j k:Nat}(s:Int){d:Array Org}(hx:x=i)(hy:y=j)(hz:z=k)(hi:i<d.size)(hj:j<d.size)(hk:k<d.size):
 ∃(m:Nat) (s' :Int),Eh N x y z s d.toList=some ((m:Int),s',d.toList)/\(m=i\/m=j\/m=k):=by
 unfold Eh;obtain⟨i1,j1,s1,e1,h1⟩:=Jl N s hx hy hi hj;rw [e1];obtain⟨i2,j2,s2,e2,h2⟩:=Jl N s1 (x:=(j1:Int)) (y:=z) rfl hz (by omega) hk;simp only [jS];rw [e2];obtain⟨i3,j3,s3,e3,h3⟩:=Jl N s2 (x:=(i1:Int)) (y:=(i2:Int)) (d:=d) rfl rfl (by omega) (by omega);simp only [jS];rw [e3];exact⟨j3,s3,rfl,by omega⟩
theorem Jc(N:Nat){x:Int}{i:Nat}(s:Int){d:Array Org}(hx:x=i)(h0:0<i)(hi:i+1<d.size)(hs:d.size<1152921504606846976):
 ∃(m:Nat) (s' :Int),Eg N x s d.toList=some ((m:Int),s',d.toList)/\(m=i - 1\/m=i\/m=i+1):=by
 subst hx;unfold Eg;have w1:i64.wrap ((i:Int) - 1)=((i - 1:Nat):Int):=wn _ (by omega) (by omega);have w2:i64.wrap ((i:Int)+1)=((i+1:Nat):Int):=wn _ (by omega) (by omega);rw [w1,w2];obtain⟨m,s1,e1,h1⟩:=Jd N s (x:=((i - 1:Nat):Int)) (y:=(i:Int)) (z:=((i+1:Nat):Int)) (d:=d) rfl rfl rfl (by omega) (by omega) hi;rw [e1];exact⟨m,s1,rfl,h1⟩
theorem xEj(N:Nat){a b:Nat}{d:Array Org}(hab:a+12<b)(hb:b<=d.size)(hs:d.size<1152921504606846976):
 ∃(p:Nat) (h:Int),Hh N (a:Int) (b:Int) d.toList=some ((p:Int),h,d.toList)/\(a<=p/\p<b):=by
 have w1:i64.wrap ((b:Int) - (a:Int))=((b - a:Nat):Int):=wn _ (by omega) (by omega);have t:Int.tdiv ((b - a:Nat):Int) 4=(((b - a) / 4:Nat):Int):=rfl;have w2:i64.wrap (Int.tdiv ((b - a:Nat):Int) 4)=(((b - a) / 4:Nat):Int):=by rw [t];exact wn _ rfl (by omega)
 have q:∀c:Nat,c<=3->i64.wrap ((a:Int)+i64.wrap ((((b - a) / 4:Nat):Int)*(c:Int)))=((a+(b - a) / 4*c:Nat):Int):=by
  intro c hc;have hle:(b - a) / 4*c<=(b - a) / 4*3:=Nat.mul_le_mul_left _ hc;have e:i64.wrap ((((b - a) / 4:Nat):Int)*(c:Int))=(((b - a) / 4*c:Nat):Int):=wn _ (by simp) (by omega);rw [e];exact wn _ (by simp) (by omega)
 have q1:=q 1 (by omega);have q2:=q 2 (by omega);have q3:=q 3 (by omega);have q1:i64.wrap ((a:Int)+i64.wrap ((((b - a) / 4:Nat):Int)*1))=_:=q1;have q2:i64.wrap ((a:Int)+i64.wrap ((((b - a) / 4:Nat):Int)*2))=_:=q2;have q3:i64.wrap ((a:Int)+i64.wrap ((((b - a) / 4:Nat):Int)*3))=_:=q3;unfold Hh;rw [w1,w2,q1,q2,q3];have e8:(decide (((b - a:Nat):Int)>=8))=true:=Zz (by omega);rw [e8,jT];have k1:3<=(b - a) / 4:=by omega
 have k2:(b - a) / 4*4<=b - a:=by omega
 clear q q1 q2 q3 w2 t;generalize (b - a) / 4=q at k1 k2;by_cases h50:b - a>=50
 ·have e50:(decide (((b - a:Nat):Int)>=50))=true:=Zz (by omega);rw [e50,jT];obtain⟨m1,s1,e1,h1⟩:=Jc N 0 (x:=((a+q*1:Nat):Int)) (d:=d) rfl (by omega) (by omega) hs;rw [e1];simp only [jS];obtain⟨m2,s2,e2,h2⟩:=Jc N s1 (x:=((a+q*2:Nat):Int)) (d:=d) rfl (by omega) (by omega) hs;rw [e2];simp only [jS];obtain⟨m3,s3,e3,h3⟩:=Jc N s2 (x:=((a+q*3:Nat):Int)) (d:=d) rfl (by omega) (by omega) hs;rw [e3];simp only [jS];obtain⟨m4,s4,e4,h4⟩:=Jd N s3 (x:=(m1:Int)) (y:=(m2:Int)) (z:=(m3:Int)) (d:=d) rfl rfl rfl (by omega) (by omega) (by omega);rw [e4];simp only [jS];have hm:a<=m4/\m4<b:=by omega
  generalize (s4==(0:Int))=c1;generalize (s4==(12:Int))=c2;cases c1 <;>cases c2 <;>exact⟨m4,_,rfl,hm⟩
 ·have e50:(decide (((b - a:Nat):Int)>=50))=false:=Zy (by omega);rw [e50,jF];obtain⟨m4,s4,e4,h4⟩:=Jd N 0 (x:=((a+q*1:Nat):Int)) (y:=((a+q*2:Nat):Int)) (z:=((a+q*3:Nat):Int)) (d:=d) rfl rfl rfl (by omega) (by omega) (by omega);rw [e4];simp only [jS];have hm:a<=m4/\m4<b:=by omega
  generalize (s4==(0:Int))=c1;generalize (s4==(12:Int))=c2;cases c1 <;>cases c2 <;>exact⟨m4,_,rfl,hm⟩
theorem GI{x:Int}(h1:0<=x)(h2:x<18446744073709551616):IntKind.u64.wrap x=x:=by
 have:IntKind.u64.wrap x=x % 18446744073709551616:=by
  unfold IntKind.wrap;simp [IntKind.bits,IntKind.signed]
 rw [this];exact Int.emod_eq_of_lt h1 h2
theorem xCF{r y:Int}{m:Nat}(hy:y=m)(hm:m<9223372036854775808):∃o:Nat,rQ .u64 r y=(o:Int)/\o<=m:=by
 subst hy;unfold rQ;refine⟨(BitVec.ofInt 64 r &&& BitVec.ofInt 64 (m:Int)).toNat,?_,?_⟩
 ·show IntKind.u64.wrap (((BitVec.ofInt 64 r &&& BitVec.ofInt 64 (m:Int)).toNat:Nat):Int)=_;refine GI (by omega) ?_;have:=(BitVec.ofInt 64 r &&& BitVec.ofInt 64 (m:Int)).isLt;omega
 ·rw [BitVec.toNat_and];refine Yu Nat.and_le_right ?_;rw [BitVec.toNat_ofInt];omega
theorem xCI(N:Nat){a b M:Nat}(hl:12<b - a)(hM:M<=2*(b - a))(hM0:0<M):∀(m idx n:Nat) (st:Int) (d:Array Org),a+(b - a) / 4*2+2 - idx=m->a<=idx->b<=d.size->d.size<1152921504606846976->m<n->
 ∃d',DP N n (a:Int) ((b - a:Nat):Int) (M:Int) (idx:Int) st d.toList=some d'.toList/\PermIn a b d d' :=by
 intro m
 induction m with
 |zero=>
  intro idx n st d hm hidx hb hs hn;obtain⟨n,rfl⟩:∃m,n=m+1:=⟨n - 1,by omega⟩;have t:Int.tdiv ((b - a:Nat):Int) 4=(((b - a) / 4:Nat):Int):=rfl;have w2:i64.wrap (Int.tdiv ((b - a:Nat):Int) 4)=(((b - a) / 4:Nat):Int):=by rw [t];exact wn _ rfl (by omega)
  have w3:i64.wrap ((((b - a) / 4:Nat):Int)*2)=(((b - a) / 4*2:Nat):Int):=wn _ (by simp) (by omega);have w4:i64.wrap ((a:Int)+(((b - a) / 4*2:Nat):Int))=((a+(b - a) / 4*2:Nat):Int):=wn _ (by simp) (by omega);have w5:i64.wrap (((a+(b - a) / 4*2:Nat):Int)+1)=((a+(b - a) / 4*2+1:Nat):Int):=wn _ (by simp) (by omega);rw [DP,w2,w3,w4,w5];have e:(decide ((idx:Int)<=((a+(b - a) / 4*2+1:Nat):Int)))=false:=Zy (by omega);rw [e,jF];exact⟨d,rfl,permIn_refl d a b⟩
 |succ m ih=>
  intro idx n st d hm hidx hb hs hn;obtain⟨n,rfl⟩:∃m,n=m+1:=⟨n - 1,by omega⟩;have t:Int.tdiv ((b - a:Nat):Int) 4=(((b - a) / 4:Nat):Int):=rfl;have w2:i64.wrap (Int.tdiv ((b - a:Nat):Int) 4)=(((b - a) / 4:Nat):Int):=by rw [t];exact wn _ rfl (by omega)
  have w3:i64.wrap ((((b - a) / 4:Nat):Int)*2)=(((b - a) / 4*2:Nat):Int):=wn _ (by simp) (by omega);have w4:i64.wrap ((a:Int)+(((b - a) / 4*2:Nat):Int))=((a+(b - a) / 4*2:Nat):Int):=wn _ (by simp) (by omega);have w5:i64.wrap (((a+(b - a) / 4*2:Nat):Int)+1)=((a+(b - a) / 4*2+1:Nat):Int):=wn _ (by simp) (by omega);have w6:IntKind.u64.wrap ((M:Int) - 1)=((M - 1:Nat):Int):=by rw [GI (by omega) (by omega)];omega
  have w7:i64.wrap ((idx:Int)+1)=((idx+1:Nat):Int):=wn _ (by omega) (by omega);rw [DP,w2,w3,w4,w5,w6,w7];have e:(decide ((idx:Int)<=((a+(b - a) / 4*2+1:Nat):Int)))=true:=Zz (by omega);rw [e,jT];cases hx:Hr N st with
  |none=>unfold Hr at hx;cases hx
  |some r=>
   rw [jS];obtain⟨o,ho1,ho2⟩:=xCF (r:=r.1) (y:=((M - 1:Nat):Int)) (m:=M - 1) rfl (by omega);have w8:i64.wrap (rQ .u64 r.1 ((M - 1:Nat):Int))=(o:Int):=by rw [ho1];exact wn o rfl (by omega)
   rw [w8];by_cases hc:o>=b - a
   ·have e2:(decide ((o:Int)>=((b - a:Nat):Int)))=true:=Zz (by omega);have w9:i64.wrap ((o:Int) - ((b - a:Nat):Int))=((o - (b - a):Nat):Int):=wn _ (by omega) (by omega);have w10:i64.wrap ((a:Int)+((o - (b - a):Nat):Int))=((a+(o - (b - a)):Nat):Int):=wn _ (by omega) (by omega);rw [e2,jT,w9,w10,AO N rfl rfl (by omega) (by omega) (by omega)];obtain⟨d',h1,h2⟩:=ih (idx+1) n r.2 (swp d idx (a+(o - (b - a)))) (by omega) (by omega) (by rw [yZ];exact hb) (by rw [yZ];exact hs) (by omega);exact⟨d',h1,permIn_trans _ _ _ a b (swp_permIn d a b idx (a+(o - (b - a))) hidx (by omega) (by omega) (by omega) hb) h2⟩
   ·have e2:(decide ((o:Int)>=((b - a:Nat):Int)))=false:=Zy (by omega);have w10:i64.wrap ((a:Int)+(o:Int))=((a+o:Nat):Int):=wn _ (by omega) (by omega);rw [e2,jF,w10,AO N rfl rfl (by omega) (by omega) (by omega)];obtain⟨d',h1,h2⟩:=ih (idx+1) n r.2 (swp d idx (a+o)) (by omega) (by omega) (by rw [yZ];exact hb) (by rw [yZ];exact hs) (by omega);exact⟨d',h1,permIn_trans _ _ _ a b (swp_permIn d a b idx (a+o) hidx (by omega) (by omega) (by omega) hb) h2⟩
theorem xCH{x:Nat}(h0:0<x)(h:x<1152921504606846976):0<Lib.bitLen x/\Lib.bitLen x<=60/\2 ^ Lib.bitLen x<=2*x:=by
 obtain⟨h1,h2,h3⟩:=Lib.bitLenAux_bounds 64 x (by omega) (by omega);have h1:1<=Lib.bitLen x:=h1;have h2:2 ^ (Lib.bitLen x - 1)<=x:=h2;refine⟨by omega,Lib.bitLen_le x 60 (by omega) (by omega),?_⟩;obtain⟨k,hk⟩:∃k,Lib.bitLen x=k+1:=⟨Lib.bitLen x - 1,by omega⟩;rw [hk] at h2 ⊢;rw [Xd] at h2;rw [Nat.pow_succ];omega
theorem xKK(N:Nat){l:Nat}(h0:0<l)(h:l<1152921504606846976):∃M:Nat,Hl N (l:Int)=some (M:Int)/\0<M/\M<=2*l:=by
 obtain⟨f1,f2,f3⟩:=xCH h0 h;have w1:IntKind.u64.wrap (l:Int)=(l:Int):=GI (by omega) (by omega);have w2:IntKind.u64.wrap ((Lib.bitLen l:Nat):Int)=((Lib.bitLen l:Nat):Int):=GI (by omega) (by omega);have hp:(2:Nat) ^ Lib.bitLen l<18446744073709551616:=by omega
 unfold Hl Jb nC;rw [w1,Zx (by omega),jS,jI,w2,Zx (by omega),jI];refine⟨2 ^ Lib.bitLen l,?_,Nat.pos_of_ne_zero (by simp),f3⟩;have e:(1:Int)*2 ^ Lib.bitLen l=((2 ^ Lib.bitLen l:Nat):Int):=by simp
 rw [e];generalize (2:Nat) ^ Lib.bitLen l=P at hp;rw [GI (by omega) (by omega)]
theorem xCJ(N:Nat){a b:Nat}{d:Array Org}(hab:a+12<b)(hb:b<=d.size)(hs:d.size<1152921504606846976)(hN:5<N):
 ∃d',Hg N (a:Int) (b:Int) d.toList=some d'.toList/\PermIn a b d d' :=by
 have w1:i64.wrap ((b:Int) - (a:Int))=((b - a:Nat):Int):=wn _ (by omega) (by omega);have t:Int.tdiv ((b - a:Nat):Int) 4=(((b - a) / 4:Nat):Int):=rfl;have w2:i64.wrap (Int.tdiv ((b - a:Nat):Int) 4)=(((b - a) / 4:Nat):Int):=by rw [t];exact wn _ rfl (by omega)
 have w3:i64.wrap ((((b - a) / 4:Nat):Int)*2)=(((b - a) / 4*2:Nat):Int):=wn _ (by simp) (by omega);have w4:i64.wrap ((a:Int)+(((b - a) / 4*2:Nat):Int))=((a+(b - a) / 4*2:Nat):Int):=wn _ (by simp) (by omega);have w5:i64.wrap (((a+(b - a) / 4*2:Nat):Int) - 1)=((a+(b - a) / 4*2 - 1:Nat):Int):=wn _ (by omega) (by omega);unfold Hg;rw [w1,w2,w3,w4,w5];have e8:(decide (((b - a:Nat):Int)>=8))=true:=Zz (by omega);obtain⟨M,m1,m2,m3⟩:=xKK N (l:=b - a) (by omega) (by omega);rw [e8,jT,m1,jS];exact xCI N (by omega) m3 m2 _ _ N _ d rfl (by omega) hb hs (by omega)
def Sorts(a b:Nat)(d:Array Org)(o:Option (List Org)):Prop:=∃d',o=some d'.toList/\PermIn a b d d' /\SortedIn olt a b d'
theorem Sorts.after{a b:Nat}{d d1:Array Org}{o:Option (List Org)}(h:PermIn a b d d1)(hs:Sorts a b d1 o):Sorts a b d o:=
 hs.elim fun d' ⟨h1,h2,h3⟩=>⟨d',h1,permIn_trans _ _ _ a b h h2,h3⟩
theorem OW(N:Nat){q:Int->Int->Int->List Org->Option (List Org)}{k:Int->Int->Int->Bool->Bool->List Org->Option (List Org)}{a b p:Nat}(lim x10:Int){d:Array Org}
 (hp1:a<=p) (hp2:p<b) (hb:b<=d.size) (hab:a+12<b) (hs:d.size<1152921504606846976) (hN:d.size<N) (hB:Below olt a b d)
 (hq:∀(a' b' :Nat) (d' :Array Org),b' - a' <b - a->a' <=b' ->b' <=d'.size->d'.size=d.size->Below olt a' b' d' ->Sorts a' b' d' (q (a' :Int) (b' :Int) lim d'.toList))
 (hk:∀(a' b' :Nat) (wb wp:Bool) (d' :Array Org),b' - a' <b - a->a' <=b' ->b' <=d'.size->d'.size=d.size->Below olt a' b' d' ->Sorts a' b' d' (k (a' :Int) (b' :Int) lim wb wp d'.toList)):
 Sorts a b d (Fq N q k (a:Int) (b:Int) lim x10 (p:Int) d.toList):=by
 unfold Fq;rw [xKX N hp1 hp2 hb (by omega) (by omega) hs hN,jS];obtain⟨mid,ap,d4,hx⟩:∃mid ap d4,partition olt d a b p=(mid,ap,d4):=⟨_,_,_,rfl⟩;rw [hx];obtain⟨g1,g2,hs4,hBa,hBr,hleft,hright⟩:=round_part BR (partition_holds olt) hp1 hp2 hb hB hx;dsimp only;have w1:i64.wrap ((mid:Int) - (a:Int))=((mid - a:Nat):Int):=wn _ (by omega) (by omega);have w2:i64.wrap ((b:Int) - (mid:Int))=((b - mid:Nat):Int):=wn _ (by omega) (by omega);have w3:i64.wrap ((mid:Int)+1)=((mid+1:Nat):Int):=wn _ (by omega) (by omega);rw [w1,w2,w3];cases decide (((mid - a:Nat):Int)<((b - mid:Nat):Int)) with
 |true=>
  rw [jT];obtain⟨L,l1,l2,l3⟩:=hq a mid d4 (by omega) g1 (by omega) hs4 hBa;rw [l1,jS];obtain⟨hBL,hfin⟩:=hleft L l2 l3;obtain⟨R,r1,r2,r3⟩:=hk (mid+1) b (decide (((mid - a:Nat):Int)>=i64.wrap (Int.tdiv x10 8))) ap L (by omega) (by omega) (by rw [l2.1];omega) (by rw [l2.1];exact hs4) hBL;exact⟨R,r1,hfin R r2 r3⟩
 |false=>
  rw [jF];obtain⟨L,l1,l2,l3⟩:=hq (mid+1) b d4 (by omega) (by omega) (by omega) hs4 hBr;rw [l1,jS];obtain⟨hBL,hfin⟩:=hright L l2 l3;obtain⟨R,r1,r2,r3⟩:=hk a mid (decide (((b - mid:Nat):Int)>=i64.wrap (Int.tdiv x10 8))) ap L (by omega) g1 (by rw [l2.1];omega) (by rw [l2.1];exact hs4) hBL;exact⟨R,r1,hfin R r2 r3⟩
theorem OV(N:Nat){q:Int->Int->Int->List Org->Option (List Org)}{k:Int->Int->Int->Bool->Bool->List Org->Option (List Org)}{a b p:Nat}(lim x10:Int)(wb wp:Bool){d:Array Org}
 (hp1:a<=p) (hp2:p<b) (hb:b<=d.size) (hab:a+12<b) (hs:d.size<1152921504606846976) (hN:d.size<N) (hB:Below olt a b d)
 (hq:∀(a' b' :Nat) (d' :Array Org),b' - a' <b - a->a' <=b' ->b' <=d'.size->d'.size=d.size->Below olt a' b' d' ->Sorts a' b' d' (q (a' :Int) (b' :Int) lim d'.toList))
 (hk:∀(a' b' :Nat) (wb wp:Bool) (d' :Array Org),b' - a' <b - a->a' <=b' ->b' <=d'.size->d'.size=d.size->Below olt a' b' d' ->Sorts a' b' d' (k (a' :Int) (b' :Int) lim wb wp d'.toList)):
 Sorts a b d (DS N q k (a:Int) (b:Int) lim wb wp x10 (p:Int) d.toList):=by
 unfold DS;by_cases ha:0<a
 ·have e:(decide ((a:Int)>0))=true:=Zz (by omega);have w1:i64.wrap ((a:Int) - 1)=((a - 1:Nat):Int):=wn _ (by omega) (by omega);rw [e,jT,w1,A8 N rfl rfl (by omega) (by omega)];dsimp only;cases hl:olt d[a - 1]! d[p]! with
  |true=>rw [jU,jF];exact OW N lim x10 hp1 hp2 hb hab hs hN hB hq hk
  |false=>
   rw [jV,jT,xKZ N hp1 hp2 hb (by omega) (by omega) hs hN,jS];obtain⟨mid,d4,hx⟩:∃mid d4,partitionEqual olt d a b p=(mid,d4):=⟨_,_,rfl⟩;rw [hx];obtain⟨g1,g2,hs4,hB4,hfin⟩:=round_eq BR (partitionEqual_holds olt) ha hp1 hp2 hb hB hl hx;obtain⟨R,r1,r2,r3⟩:=hk mid b wb wp d4 (by omega) g2 (by omega) hs4 hB4;exact⟨R,r1,hfin R r2 r3⟩
 ·have e:(decide ((a:Int)>0))=false:=Zy (by omega);rw [e,jF];exact OW N lim x10 hp1 hp2 hb hab hs hN hB hq hk
theorem OU(N:Nat){q:Int->Int->Int->List Org->Option (List Org)}{k:Int->Int->Int->Bool->Bool->List Org->Option (List Org)}{a b p:Nat}(lim x10 x12:Int)(wb wp:Bool){d:Array Org}
 (hp1:a<=p) (hp2:p<b) (hb:b<=d.size) (hab:a+12<b) (hs:d.size<1152921504606846976) (hN:d.size+10<N) (hB:Below olt a b d)
 (hq:∀(a' b' :Nat) (d' :Array Org),b' - a' <b - a->a' <=b' ->b' <=d'.size->d'.size=d.size->Below olt a' b' d' ->Sorts a' b' d' (q (a' :Int) (b' :Int) lim d'.toList))
 (hk:∀(a' b' :Nat) (wb wp:Bool) (d' :Array Org),b' - a' <b - a->a' <=b' ->b' <=d'.size->d'.size=d.size->Below olt a' b' d' ->Sorts a' b' d' (k (a' :Int) (b' :Int) lim wb wp d'.toList)):
 Sorts a b d (Fp N q k (a:Int) (b:Int) lim wb wp x10 (p:Int) x12 d.toList):=by
 have go:=OV N lim x10 wb wp hp1 hp2 hb hab hs (by omega) hB hq hk;unfold Fp;cases wb with
 |false=>exact go
 |true=>
  cases wp with
  |false=>exact go
  |true=>
   simp only [jT];cases (x12:Int)==1 with
   |false=>exact go
   |true=>
    rw [jT,xK4 N (by omega) hb (by omega) hs hN,jS];obtain⟨i1,i2⟩:=partialInsertionSort_holds BR d a b (by omega) hb hB;dsimp only;cases hc:(partialInsertionSort olt d a b).2 with
    |true=>exact⟨_,rfl,i1,i2 hc⟩
    |false=>
     rw [jF];refine Sorts.after i1 ?_;exact OV N lim x10 true true hp1 hp2 (by rw [i1.1];exact hb) hab (by rw [i1.1];exact hs) (by rw [i1.1];omega) (hB.perm hb i1) (fun a' b' d' g1 g2 g3 g4=>hq a' b' d' g1 g2 g3 (g4.trans i1.1)) (fun a' b' wb wp d' g1 g2 g3 g4=>hk a' b' wb wp d' g1 g2 g3 (g4.trans i1.1))
theorem OT(N:Nat){q:Int->Int->Int->List Org->Option (List Org)}{k:Int->Int->Int->Bool->Bool->List Org->Option (List Org)}{a b:Nat}(lim x10:Int)(wb wp:Bool){d:Array Org}
 (hb:b<=d.size) (hab:a+12<b) (hs:d.size<1152921504606846976) (hN:d.size+10<N) (hB:Below olt a b d)
 (hq:∀(a' b' :Nat) (d' :Array Org),b' - a' <b - a->a' <=b' ->b' <=d'.size->d'.size=d.size->Below olt a' b' d' ->Sorts a' b' d' (q (a' :Int) (b' :Int) lim d'.toList))
 (hk:∀(a' b' :Nat) (wb wp:Bool) (d' :Array Org),b' - a' <b - a->a' <=b' ->b' <=d'.size->d'.size=d.size->Below olt a' b' d' ->Sorts a' b' d' (k (a' :Int) (b' :Int) lim wb wp d'.toList)):
 Sorts a b d (Fo N q k (a:Int) (b:Int) lim wb wp x10 d.toList):=by
 unfold Fo;obtain⟨p,h,e,hp1,hp2⟩:=xEj N hab hb hs;rw [e,jS];dsimp only;cases h==(2:Int) with
 |false=>rw [jF];exact OU N lim x10 h wb wp hp1 hp2 hb hab hs hN hB hq hk
 |true=>
  have i1:=reverseRange_holds d a b (by omega) hb;have w1:i64.wrap ((b:Int) - 1)=((b - 1:Nat):Int):=wn _ (by omega) (by omega);have w2:i64.wrap ((p:Int) - (a:Int))=((p - a:Nat):Int):=wn _ (by omega) (by omega);have w3:i64.wrap (((b - 1:Nat):Int) - ((p - a:Nat):Int))=((b - 1 - (p - a):Nat):Int):=wn _ (by omega) (by omega);rw [jT,xLf N (by omega) hb (by omega) hs (by omega),jS,w1,w2,w3];refine Sorts.after i1 ?_;exact OU N lim x10 1 wb wp (by omega) (by omega) (by rw [i1.1];exact hb) hab (by rw [i1.1];exact hs) (by rw [i1.1];omega) (hB.perm hb i1) (fun a' b' d' g1 g2 g3 g4=>hq a' b' d' g1 g2 g3 (g4.trans i1.1)) (fun a' b' wb wp d' g1 g2 g3 g4=>hk a' b' wb wp d' g1 g2 g3 (g4.trans i1.1))
theorem xK0(N:Nat):∀(m a b n dep:Nat) (lim:Int) (wb wp:Bool) (d:Array Org),b - a=m->a<=b->b<=d.size->2<=d.size->d.size<1152921504606846976->m<n->m<=dep->d.size+10<N->Below olt a b d->
 Sorts a b d (DT N (DU N dep) n (a:Int) (b:Int) lim wb wp d.toList):=by
 intro m
 induction m using Nat.strongRecOn with
 |_ m ih=>
  intro a b n dep lim wb wp d hm hab hb h2 hs hn hdep hN hB;obtain⟨n,rfl⟩:∃m,n=m+1:=⟨n - 1,by omega⟩;have w1:i64.wrap ((b:Int) - (a:Int))=((b - a:Nat):Int):=wn _ (by omega) (by omega);rw [DT,w1];by_cases h12:b - a<=12
  ·have e:(decide (((b - a:Nat):Int)<=12))=true:=Zz (by omega);rw [e,jT,xIU N hab hb h2 hs (by omega),jS];exact⟨_,rfl,insertionSort_holds BR d a b hab hb⟩
  ·have e:(decide (((b - a:Nat):Int)<=12))=false:=Zy (by omega);rw [e,jF];cases (lim==(0:Int)) with
   |true=>
    rw [jT,xGj N (by omega) hb h2 hs (by omega),jS];exact⟨_,rfl,heapSort_holds BR d a b hab hb⟩
   |false=>
    rw [jF];have hq:∀(lim:Int) (a' b' :Nat) (d' :Array Org),b' - a' <b - a->a' <=b' ->b' <=d'.size->d'.size=d.size->Below olt a' b' d' ->Sorts a' b' d' (DU N dep (a' :Int) (b' :Int) lim d'.toList):=by
     intro lim a' b' d' g1 g2 g3 g4 g5;obtain⟨dep,rfl⟩:∃m,dep=m+1:=⟨dep - 1,by omega⟩;rw [DU];exact ih (b' - a') (by omega) a' b' N dep lim true true d' rfl g2 g3 (by omega) (by omega) (by omega) (by omega) (by omega) g5
    have hk:∀(lim:Int) (a' b' :Nat) (wb wp:Bool) (d' :Array Org),b' - a' <b - a->a' <=b' ->b' <=d'.size->d'.size=d.size->Below olt a' b' d' ->Sorts a' b' d' (DT N (DU N dep) n (a' :Int) (b' :Int) lim wb wp d'.toList):=
     fun lim a' b' wb wp d' g1 g2 g3 g4 g5=>ih (b' - a') (by omega) a' b' n dep lim wb wp d' rfl g2 g3 (by omega) (by omega) (by omega) (by omega) (by omega) g5
    cases wb with
    |true=>exact OT N lim _ true wp hb (by omega) hs hN hB (hq lim) (hk lim)
    |false=>
     obtain⟨d1,e1,i1⟩:=xCJ N (a:=a) (b:=b) (d:=d) (by omega) hb hs (by omega);rw [jV,jT,e1,jS];refine Sorts.after i1 ?_
     exact OT N _ _ false wp (by rw [i1.1];exact hb) (by omega) (by rw [i1.1];exact hs) (by rw [i1.1];exact hN) (hB.perm hb i1)
      (fun a' b' d' g1 g2 g3 g4=>hq _ a' b' d' g1 g2 g3 (g4.trans i1.1)) (fun a' b' wb wp d' g1 g2 g3 g4=>hk _ a' b' wb wp d' g1 g2 g3 (g4.trans i1.1))
theorem xK1{xs:List Org}(h2:2<=xs.length)(hs:xs.length<1152921504606846976)(lim:Int):
 Jv (xs.length+11) 0 (xs.length:Int) lim xs=some (xs.mergeSort fun x y=> !olt y x):=by
 have h:=xK0 (xs.length+11) xs.length 0 xs.length (xs.length+11) (xs.length+10) lim true true xs.toArray rfl (Z3 _) (by simp) (by simpa using h2) (by simpa using hs) (by omega) (by omega) (by simp) (.inl rfl);obtain⟨d',e,h1,h3⟩:=h;have hu:=sorted_unique_holds (lt:=olt) BR Ji xs.toArray d' (by simpa using h1) (by simpa using h3);rw [show Jv (xs.length+11) 0 (xs.length:Int) lim xs=_ from e,hu]
end Go.Ab
end
section
namespace Go.Ab
open Go.Proofs Go.RowKit Go.Shelf
theorem E0:OrgT Tryz.prog 112 3 118 4 75:=⟨Tryz.underlying112,by kernel_rfl,Tryz.underlying3,Tryz.underlying118,Tryz.zeroValue4,Tryz.underlying75⟩
theorem xIQ:(Tryz.prog.info? 112).map (fun i=>(i.zero,i.size,i.bytes))=some (some (.agg #[.int .i64 0,.int .i64 0]),2,16):=by kernel_rfl
set_option maxRecDepth 100000 in
set_option maxHeartbeats 4000000 in
theorem xO1 [Inhabited Lb](srt:List Org->List Org)(hsl:∀l,(srt l).length=l.length)(xs ys:List Org)(u v:Value)(w:World)(hu:RowIn w u xs)(hv:RowIn w v ys)(hlen:xs.length+ys.length<=1000000000000)
 (hsort:∀(W:World) (g cap:Nat) (zs:List Org),zs.length<=1000000000000->Below w.heap.size w W->w.heap.size<=g->w.heap.size+1+1≠g->W.heap[w.heap.size+1+1]? =some (.cells #[.slice (some ⟨g,0,none⟩) zs.length cap] 75 (0,0))->OrgRow W g cap zs->
   Calls Tryz.prog 143 #[.iface 75 (.slice (some ⟨g,0,none⟩) zs.length cap),.func (.func 144) #[] #[.pointer (some ⟨w.heap.size+1+1,0,none⟩)]] W fun en W' =>en= .returned (.tuple #[])/\Sorted W (w.heap.size+1+1) g cap zs (srt zs) W'):
 Calls Tryz.prog 99 #[u,v] w fun e w' =>∃br cap,e= .returned (.slice (some ⟨br,0,none⟩) (srt (ded (xs++ys))).length cap)/\Below w.heap.size w w' /\w.heap.size<=br/\OrgRow w' br cap (srt (ded (xs++ys))):=by
 obtain⟨i0,hi,hz0,hz1,hz2⟩:=info_parts xIQ;have hmm:= @run_makeMap Tryz.prog
 go_enter Tryz.func99,Tryz.ntmps99
 go_wp2_with (first
  |(at_builtin;refine KY _ E0 rfl _ _ rfl i0 hi hz0 hz1 hz2 rfl (w.heap.size+1+1+1) 0 [] rfl (xLx w _ _ _ 112) u rfl xs (hu.below (I3 w _ _ _ _)) (by simp;omega) ?_;intro g1 c1 w1 r1 gr1 e1)
  |(at_builtin;refine KY _ E0 rfl _ _ rfl i0 hi hz0 hz1 hz2 rfl g1 c1 ([]++xs) rfl r1 v rfl ys (hv.below (Below.grown (I3 w _ _ _ _) gr1 (by simp;omega) (fun k hk=>by cases hk;omega))) (by simpa using hlen) ?_;intro g2 c2 w2 r2 gr2 e2))
 have hst:=URel.start r2 gr1 e1 gr2 e2;have hl2:(xs++ys).length=xs.length+ys.length:=List.length_append;clear r1 gr1 e1 r2 gr2 e2 hu hv
 go_loopw [17] (fun i wr=>∃k g cap:Nat,k<=xs.length+ys.length/\i= .int .i64 k/\URel w 112 75 w.heap.size w2.heap.size g2 c2 (xs++ys) k g cap wr) (fun i _=>xs.length+ys.length - (RowKit.intOf i).toNat)
 case atStart=>exact⟨0,_,_,Z3 _,rfl,hst⟩
 case round=>
  obtain⟨k,g,cap,hk,rfl,hr⟩:=hrel;clear hst;by_cases hlt:k<xs.length+ys.length
  ·obtain⟨c,hc⟩:∃c,(xs++ys)[k]'(by omega)=c:=⟨_,rfl⟩;have hc0:wr.cell? ⟨g2,k*2,none⟩=some (.int .i64 c.cell):=by
    have:=hr.all.cell (DM (xs++ys) k (by omega) 0 (by decide));rw [hc] at this;exact this
   have hc1:wr.cell? ⟨g2,k*2+1,none⟩=some (.int .i64 c.row):=by
    have:=hr.all.cell (DM (xs++ys) k (by omega) 1 (by decide));rw [hc] at this;exact this
   have hcb:=hr.cell;have hgl:=hr.row.lt;have hsz:=hr.size;have hga:=hr.hga;have hgg:=hr.hg;cases hct:(ded ((xs++ys).take k)).contains c with
   |true=>
    go_wp2_with (at_lookup;refine xAY _ E0 rfl _ _ rfl w.heap.size (ded ((xs++ys).take k)) rfl (hr.set.kept (zR (by omega))) c rfl true hct ?_)
    go_roundw
    case rel=>exact⟨k+1,g,cap,by omega,by go_num,hr.old (by omega) (by rw [hc];exact hct) _⟩
    case measure=>simp [RowKit.intOf];omega
   |false=>
    go_wp2_with (first
     |(at_lookup;refine xAY _ E0 rfl _ _ rfl w.heap.size (ded ((xs++ys).take k)) rfl (hr.set.kept (zR (by omega))) c rfl false hct ?_)
     |(at_mapUpdate;refine xPh _ E0 rfl _ _ _ rfl w.heap.size (ded ((xs++ys).take k)) rfl (hr.set.kept (zR (by omega))) c rfl rfl hct ?_;intro w3 hs3 hg3 hz3;obtain⟨m1,m2,m3,m4⟩:=hr.mid hg3 hz3)
     |(at_builtin;refine KY _ E0 rfl _ _ rfl i0 hi hz0 hz1 hz2 rfl g cap (ded ((xs++ys).take k)) rfl (m4 _) (.slice (some ⟨wr.heap.size+1,0,none⟩) 1 1) rfl [c] (by have h:=xLh w3 112 c;rw [hz3,y9] at h;exact h) (by have:=Ia ((xs++ys).take k);simp at this ⊢;omega) ?_;intro g' cap' w4 r4 g4 e4;obtain⟨n1,n2⟩:=hr.mid4 hg3 hz3 g4))
    go_roundw
    case rel=>exact⟨k+1,g',cap',by omega,by go_num,by
     have:=hr.new (by omega) (by rw [hc];exact hct) (by rw [hc];exact hs3) hg3 hz3 (by rw [hc];exact r4) g4 e4;rw [hc] at this;simpa using this⟩
    case measure=>simp [RowKit.intOf];omega
  ·have hk2:k=(xs++ys).length:=by omega
   have ht:(xs++ys).take k=xs++ys:=by rw [hk2];exact ZI
   have hcb:=hr.cell;have hsz:=hr.size;have hga:=hr.hga;have hgg:=hr.hg;have hs:=hsort wr g cap (ded (xs++ys)) (by have:=Ia (xs++ys);omega) hr.below (by omega) (by omega) (by have:=hr.box;rw [ht] at this;exact this) (by have:=hr.row.org;rw [ht] at this;exact this);have hgr:=hr.below;rw [ht] at hcb;clear hr hsort
   go_wp2_with (go_at_call 143;refine hs.mono ?_;rintro e W' ⟨rfl,hS⟩;obtain⟨ty',hbx⟩:=hS.box;have hcb2:W'.cell? ⟨w.heap.size+1+1,0,none⟩=some (.slice (some ⟨g,0,none⟩) (ded (xs++ys)).length cap):=by(simp only [World.cell?,hbx];rfl))
   go_ret
   exact⟨g,cap,by rw [hsl];rfl,hgr.trans ⟨hS.os,hS.tape,hS.output,hS.size,fun k hk=>hS.old k (by have:=hgr.size;omega) (by omega) (by omega)⟩,by omega,hS.row⟩
theorem xI3:∀w,(Extern.Rtype.kind 112).run Tryz.prog w= .ok 25 w:=by intro w;kernel_rfl
theorem xEv:(Tryz.prog.info? 75).map (fun i=>i.desc)=some (.slice 112):=by kernel_rfl
theorem xK5:(Tryz.prog.info? 112).map (fun i=>(i.hasPointers,i.bytes))=some (false,16):=by kernel_rfl
theorem xKT:Tryz.prog.packed 75=false:=by kernel_rfl
theorem sw1:Tryz.prog.funcs.findIdx? (·.name== "internal/reflectlite" ++ ".Swapper$1")=some 181:=by kernel_rfl
theorem sw2:Tryz.prog.funcs.findIdx? (·.name== "internal/reflectlite" ++ ".Swapper$2")=some 182:=by kernel_rfl
theorem sw9:Tryz.prog.funcs.findIdx? (·.name== "internal/reflectlite" ++ ".Swapper$9")=some 189:=by kernel_rfl
theorem xGi:typeHandle Tryz.prog 112= .pointer (some ⟨3,112,none⟩):=by kernel_rfl
theorem xAV [Inhabited Lb](xs ys:List Org)(u v:Value)(w:World)(hu:RowIn w u xs)(hv:RowIn w v ys)(hlen:xs.length+ys.length<=1000000000000)(hb:∀x∈jQ,x.1<w.heap.size/\w.heap[x.1]? =some x.2):
 Calls Tryz.prog 99 #[u,v] w fun e w' =>∃br cap,e= .returned (.slice (some ⟨br,0,none⟩) (qV xs ys).length cap)/\Below w.heap.size w w' /\w.heap.size<=br/\OrgRow w' br cap (qV xs ys):=by
 obtain⟨i,hi,hd⟩:=Za.1 xEv;obtain⟨ie,hie,he⟩:=Za.1 xK5;simp only [YW] at he;refine xO1 (fun l=>l.mergeSort fun x y=> !olt y x) (fun l=>by simp) xs ys u v w hu hv hlen fun W g cap zs hz hB hg hne hbo hrow=> ?_;refine xLE Tryz.laysGg6 75 112 i ie hi hd xKT hie 25 xI3 he.1 he.2 181 182 189 144 sw1 sw2 sw9 (fun l h2 hl=> ?_) hz hbo hrow hne (fun x hx=> ?_)
 ·rw [xGi];exact T.sort_pdqsort_func_cUnionOrigins_1_ok (xK1 h2 (by omega) (Lib.bitLen l.length))
 ·obtain⟨b1,b2⟩:=hb x hx;exact⟨ZG b1 hB.size,by omega,by omega,(hB.block _ b1).trans b2⟩
theorem xO0 [Inhabited Lb]{a0 a1 r:List Org}(h:zAt a0 a1=some r):AbsCalls Tryz.prog 99 (NA a0 a1) (NB r):=
 xKx (enters_of Tryz.func99 (by kernel_rfl) rfl) xAV h
end Go.Ab
end
section
namespace Go.Ab
open Go.Proofs Go.RowKit Go.Shelf
structure GrpT (P:Program) (ti tm tp:TypeId):Prop where
 int:P.underlying ti=some (.int .i64)
 map:P.underlying tm=some (.map ti tp)
 zero:∀w,(zeroValue tp).run P w= .ok (.pointer none) w
def pbx(b:Nat):Value:= .pointer (some ⟨b,0,none⟩)
def PMap(w:World)(b:Nat)(bx:Int->Nat)(ks:List Int):Prop:=
 ∃es clock,w.heap[b]? =some (.map es clock)/\es.toList.map (fun e=>(e.key,e.val))=ks.map fun x=>(Value.int .i64 x,pbx (bx x))
theorem PMap.kept{w w' :World}{b:Nat}{bx bx' :Int->Nat}{ks:List Int}(h:PMap w b bx ks)(e:w'.heap[b]? =w.heap[b]?)(hb:∀x∈ks,bx' x=bx x):PMap w' b bx' ks:=by
 obtain⟨es,c,h1,h2⟩:=h;refine⟨es,c,e.trans h1,h2.trans (ZM fun x hx=>by rw [hb x hx])⟩
theorem PMap.lt{w:World}{b:Nat}{bx:Int->Nat}{ks:List Int}(h:PMap w b bx ks):b<w.heap.size:=by
 obtain⟨es,c,h1,h2⟩:=h;exact(Zk.1 h1).1
theorem LQ{bx:Int->Nat}{x:Int}:∀ {es:List MapEntry} {ks:List Int} {i:Nat},es.map (fun e=>(e.key,e.val))=ks.map (fun y=>(Value.int .i64 y,pbx (bx y)))->
 ∃r,Instr.findNow (.int .i64) (.int .i64 x) es i=some r/\(x∈ks->∃j,r=some (j,pbx (bx x)))/\(x ∉ ks->r=none)
 | [],[],i,_=>⟨none,rfl,by simp,fun _=>rfl⟩
 | [],_::_,i,h=>by cases h
 |_::_,[],i,h=>by cases h
 |e::es,k::ks,i,h=>by
  simp only [Zb,Yb,YW] at h;obtain⟨⟨h1,h2⟩,h3⟩:=h;by_cases hk:x=k
  ·subst hk;exact⟨some (i,pbx (bx x)),by simp [Instr.findNow,Instr.sameNow,h1,h2],fun _=>⟨i,rfl⟩,by simp⟩
  ·obtain⟨r,r1,r2,r3⟩:=LQ (x:=x) (i:=i+1) h3;have hb:(x==k)=false:=by simpa using hk
   refine⟨r,by simp [Instr.findNow,Instr.sameNow,h1,hb,r1],fun hx=>r2 ?_,fun hx=>r3 ?_⟩
   ·rcases Zl.1 hx with e|hx
    ·exact absurd e hk
    ·exact hx
   ·exact fun h=>hx (Zr _ h)
section
variable {P:Program} {ti tm tp:TypeId} (T:GrpT P ti tm tp) {w:World}
include T
theorem O4(em:Bool)(n:Nat)(k:IntKind)(x:Int):(Instr.checkKey em (n+1) ti (.int k x)).run P w= .ok () w:=by
 unfold Instr.checkKey;simp [run_underlying T.int]
theorem LO{bx:Int->Nat}(x:Int)(es:List MapEntry)(ks:List Int)(h:es.map (fun e=>(e.key,e.val))=ks.map fun y=>(Value.int .i64 y,pbx (bx y))):
 ∃r,(Instr.findKey ti (.int .i64 x) es).run P w= .ok r w/\(x∈ks->∃j,r=some (j,pbx (bx x)))/\(x ∉ ks->r=none):=by
 obtain⟨r,h1,h2⟩:=LQ (x:=x) (i:=0) h;exact⟨r,by simp [Instr.findKey,run_underlying T.int,h1,Result.andThen],h2⟩
theorem AA{b:Nat}{bx:Int->Nat}{ks:List Int}(h:PMap w b bx ks)(x:Int):(Instr.lookup tm (.map (some b)) (.int .i64 x) false).run P w= .ok (if x∈ks then pbx (bx x) else .pointer none) w:=by
 obtain⟨es,c,h1,h2⟩:=h;obtain⟨r,hr,p1,p2⟩:=LO T (w:=w) x es.toList ks h2;unfold Instr.lookup;have hg:(getObj b).run P w= .ok (.map es c) w:=by simp [getObj,Sem.run,h1]
 have hck:(Instr.checkKey es.isEmpty 10000 ti (.int .i64 x)).run P w= .ok () w:=O4 T es.isEmpty 9999 .i64 x;by_cases hc:x∈ks
 ·obtain⟨j,rfl⟩:=p1 hc;rw [Zx hc];simp [run_underlying T.map,hg,hck,hr,Result.andThen]
 ·obtain rfl:=p2 hc;rw [Zj hc];simp [run_underlying T.map,hg,hck,hr,T.zero,Result.andThen]
theorem xLq{b:Nat}{bx:Int->Nat}{ks:List Int}(h:PMap w b bx ks)(x:Int)(hc:x ∉ ks)(n:Nat):
 ∃w',(Instr.mapUpdate tm (.map (some b)) (.int .i64 x) (pbx n)).run P w= .ok () w' /\PMap w' b (fun y=>if y=x then n else bx y) (ks++ [x])/\w.grownBy w' (some b)/\w'.heap.size=w.heap.size:=by
 obtain⟨es,c,h1,h2⟩:=h;obtain⟨r,hr,p1,p2⟩:=LO T (w:=w) x es.toList ks h2;obtain rfl:=p2 hc;have hb:b<w.heap.size:=(Zk.1 h1).1;have hg:(getObj b).run P w= .ok (.map es c) w:=by simp [getObj,Sem.run,h1]
 have hck:(Instr.checkKey false 10000 ti (.int .i64 x)).run P w= .ok () w:=O4 T false 9999 .i64 x;have hs:∀ob,(setObj b ob).run P w= .ok () { w with heap:=w.heap.setIfInBounds b ob }:=by
  intro ob;simp [setObj,Sem.run,h1]
 refine⟨{ w with heap:=w.heap.setIfInBounds b (.map (es.push { key:= .int .i64 x,val:=pbx n,born:=c }) (c+1)) },?_,?_,⟨rfl,rfl,rfl,by simp,fun k hk hne=> ?_⟩,by simp⟩
 ·unfold Instr.mapUpdate;simp [run_underlying T.map,hg,hck,hr,hs,Result.andThen]
 ·refine⟨_,_,by simp [hb];exact⟨rfl,rfl⟩,?_⟩;rw [Array.toList_push,YZ,h2,YZ];simp only [Zb,ZD,ZE]
  congr 1
  refine ZM fun y hy=> ?_;have:y≠x:=fun e=>hc (e ▸ hy);rw [Zj this]
 ·have:b≠k:=fun e=>hne (by rw [e]);simp [YX,this]
end
end Go.Ab
end
section
namespace Go.Ab
section
variable {P:Program} {ops:Array Oper} {Q:Exit->Act->World->Prop} {md:Region.Mode} {T:World->Prop} {n:Nat}
def Al(P:Program)(md:Region.Mode)(ops:Array Oper)(Q:Exit->Act->World->Prop)(T:World->Prop)(n:Nat):Nat->Array Bool->Act->World->Prop
 |0,listed,a,w=>Region.ready md ops listed=[]/\Q .normal a w
 |fuel+1,listed,a,w=>
  (Region.ready md ops listed=[]->Q .normal a w)/\
  ∀i∈Region.ready md ops listed,wpOp P ops Q i (fun a' w' =>((listed.setIfInBounds i true).getD n false=true\/T w')/\Al P md ops Q T n fuel (listed.setIfInBounds i true) a' w') a w
theorem xAX:∀(fuel:Nat) (listed:Array Bool) (a:Act) (w:World),Al P md ops Q T n fuel listed a w->wpAny P md ops Q fuel listed a w
 |0,_,_,_,h=>h
 |fuel+1,_,_,_,h=>⟨h.1,fun i hi=>wpOp_mono (fun a' w' h' =>xAX fuel _ a' w' h'.2) (h.2 i hi)⟩
theorem xPf{i:Nat}{oi:Oper}{v:Value}(hi:ops[i]? =some oi)(hsel:∀(j:Nat) (o:Oper) cs b,ops[j]? =some o->o.op≠ .select cs b)
 (hQ:∀c a w,Q (.panic c) (a.put oi.dst v) w->Q (.panic c) a w) (hni:i≠n) (hwait:∃on e,ops[n]? =some on/\e∈on.after/\Region.binds md e=true/\e.on=i):
 ∀(fuel:Nat) (listed:Array Bool) (a:Act) (w:World),listed.getD n false=false->
  (∀j oj,ops[j]? =some oj->j≠i->listed.getD j true=false->(∀e∈oj.after,Region.binds md e=true->e.on≠i)->oi.apart ops oj=true)->
  i∈Region.ready md ops listed->YieldsIf P ops T oi v a->T w->
  Al P md ops Q T n fuel (listed.setIfInBounds i true) (a.put oi.dst v) w->Al P md ops Q T n (fuel+1) listed a w:=by
 obtain⟨on,e0,hn1,hn2,hn3,hn4⟩:=hwait;intro fuel
 induction fuel with
 |zero=>
  intro listed a w _ _ hr hy hS H;refine⟨fun h=>(by rw [h] at hr;cases hr),fun j hj=> ?_⟩;by_cases hji:j=i
  ·subst hji;exact hy.wpOp hi hS ⟨.inr hS,H⟩
  ·have:=ready_mono hj hji;rw [H.1] at this;cases this
 |succ fuel ih=>
  intro listed a w hln hfree hr hy hS H;refine⟨fun h=>(by rw [h] at hr;cases hr),fun j hj=> ?_⟩;by_cases hji:j=i
  ·subst hji;exact hy.wpOp hi hS ⟨.inr hS,H⟩
  ·have h1:=H.2 j (ready_mono hj hji);obtain⟨hjun,oj,hoj,hall⟩:=mem_ready.1 hj;have hnot:∀e∈oj.after,Region.binds md e=true->e.on≠i:=fun e he hb heq=>by
    have h1:=hall e he hb;have h0:=(mem_ready.1 hr).1;rw [heq] at h1;rcases ZH i listed.size with h' |h'
    ·simp [h'] at h0 h1;rw [h0] at h1;cases h1
    ·simp [Yt h'] at h1
   have hjn:j≠n:=fun e=>by
    subst e;rw [hoj] at hn1;cases hn1;exact hnot e0 hn2 hn3 hn4
   have h2:=wpOp_putIf hoj (hfree j oj hoj hji hjun hnot) (fun cs b=>hsel i oi cs b hi) (fun cs b=>hsel j oj cs b hoj) hQ hy h1
   have hfree' :∀k ok,ops[k]? =some ok->k≠i->(listed.setIfInBounds j true).getD k true=false->
    (∀e∈ok.after,Region.binds md e=true->e.on≠i)->oi.apart ops ok=true:=fun k ok hk hki hun hno=>by
    refine hfree k ok hk hki ?_ hno;by_cases hjk:j=k
    ·subst hjk;exact hjun
    ·rw [getD_set_ne true hjk] at hun;exact hun
   refine wpOp_mono (fun a' w' h3=> ?_) h2;have hT:T w' :=by
    refine h3.2.1.resolve_left ?_;rw [getD_set_ne false hjn,getD_set_ne false hni,hln];simp
   refine⟨.inr hT,ih (listed.setIfInBounds j true) a' w' (by rw [getD_set_ne false hjn];exact hln) hfree' (ready_mono hr (Ne.symm hji)) h3.1 hT ?_⟩;rw [Array.setIfInBounds_comm _ _ hji];exact h3.2.2
def KW(md:Region.Mode)(ops:Array Oper)(n i:Nat):Bool:=
 match ops[n]? with
 |some on=>on.after.any fun e=>Region.binds md e&&e.on.beq i
 |none=>false
theorem xO7{md:Region.Mode}{ops:Array Oper}{n i:Nat}(h:KW md ops n i=true):∃on e,ops[n]? =some on/\e∈on.after/\Region.binds md e=true/\e.on=i:=by
 unfold KW at h;split at h
 ·rename_i on hon;rw [Array.any_eq_true'] at h;obtain⟨e,he,h2⟩:=h;rw [Zs] at h2;exact⟨on,e,hon,he,h2.1,Zm h2.2⟩
 ·cases h
theorem zD(i:Nat){oi:Oper}{v:Value}{fuel:Nat}{listed:Array Bool}{a:Act}{w:World}(hi:ops[i]? =some oi)
 (hs:(Region.noSelect ops&&Region.free md ops listed i&&(Region.ready md ops listed).contains i&&KW md ops n i&& !(listed.getD n false)&& !(i.beq n))=true)
 (hQ:∀c a w,Q (.panic c) (a.put oi.dst v) w->Q (.panic c) a w) (hg:oi.guard=none) (hT:T w) (hy:∀w,T w->(execOp a.eval oi).run P w= .ok (.value v) w)
 (h:Al P md ops Q T n fuel (listed.setIfInBounds i true) (a.put oi.dst v) w):Al P md ops Q T n (fuel+1) listed a w:=by
 simp only [Zs,Yg] at hs;obtain⟨⟨⟨⟨⟨h1,h2⟩,h3⟩,h4⟩,h5⟩,h6⟩:=hs;exact xPf hi (Region.noSelect_spec h1) hQ (fun e=>by subst e;rw [Xa] at h6;cases h6) (xO7 h4) fuel listed a w h5 (Region.free_spec hi h2) (by simpa using h3) (.inl ⟨by simp [Region.wanted,hg],hy⟩) hT h
theorem CA(i:Nat){oi:Oper}{fuel:Nat}{listed:Array Bool}{a:Act}{w:World}(hi:ops[i]? =some oi)(hr:Region.ready md ops listed=[i])(hg:oi.guard=none)
 (h:∀K:Act->World->Prop,(∀a' w',((listed.setIfInBounds i true).getD n false=true\/T w')/\Al P md ops Q T n fuel (listed.setIfInBounds i true) a' w' ->K a' w')->oi.wp P a w K Q):
 Al P md ops Q T n (fuel+1) listed a w:=by
 refine⟨fun h0=>(by rw [hr] at h0;cases h0),fun j hj=> ?_⟩;rw [hr] at hj;obtain rfl:j=i:=by simpa using hj
 unfold wpOp;simp only [hi,Region.wanted,hg,ZE];exact .inl (h _ fun a' w' h' =>h')
theorem KX{listed:Array Bool}{a:Act}{w:World}(hr:Region.ready md ops listed=[])(h:Q .normal a w):
 ∀fuel,Al P md ops Q T n fuel listed a w
 |0=>⟨hr,h⟩
 |_+1=>⟨fun _=>h,by rw [hr];simp⟩
theorem KZ(T:World->Prop)(n:Nat){id:Nat}{a:Act}{w:World}(hm:P.follows .mixedOrders=true)
 (h:Al P .any ops Q T n ops.size (Array.replicate ops.size false) a { w with drawn:=w.drawn+1 }):(Code.region id ops true).wp P Q a w:=
 wp_region_any hm (xAX _ _ _ _ h)
end
end Go.Ab
end
section
namespace Go.Ab
open Go.Proofs Go.RowKit Go.Shelf
inductive Tg where
 |map|keys
 |box (x:Int) |cel (x:Int) |frm (x:Int)
 deriving DecidableEq
def zV(ks:List Int)(nx:Option Int):Tg->Prop
 | .map=>True
 | .keys=>True
 | .box x=>x∈ks
 | .cel x=>x∈ks
 | .frm x=>x∈ks/\nx≠some x
def zI(blk:Tg->Nat)(t:Tg)(b:Nat):Tg->Nat:=fun t' =>if t' =t then b else blk t'
def AP{α:Type}(f:Int->α)(x:Int)(v:α):Int->α:=fun y=>if y=x then v else f y
def ORow(w:World)(te g cap sz n:Nat)(xs:List Value):Prop:=
 xs.length=n*sz/\∃cur,w.heap[g]? =some (.cells cur te (0,0))/\n<=cap/\cap<=maxLen/\cur.size=cap*sz/\cur.toList.take (n*sz)=xs
theorem ORow.kept{w w' :World}{te g cap sz n:Nat}{xs:List Value}(h:ORow w te g cap sz n xs)(e:w'.heap[g]? =w.heap[g]?):ORow w' te g cap sz n xs:=by
 obtain⟨h0,cur,h1,h2⟩:=h;exact⟨h0,cur,e.trans h1,h2⟩
theorem OrgRow.kept{w w' :World}{g cap:Nat}{xs:List Org}(h:OrgRow w g cap xs)(e:w'.heap[g]? =w.heap[g]?):OrgRow w' g cap xs:=by
 obtain⟨h0,cs,ty,lo,hi,h1,h2⟩:=h;exact⟨h0,cs,ty,lo,hi,e.trans h1,h2⟩
theorem OrgRow.lt{w:World}{g cap:Nat}{xs:List Org}(h:OrgRow w g cap xs):g<w.heap.size:=by
 obtain⟨h0,cs,ty,lo,hi,h1,h2⟩:=h;exact(Zk.1 h1).1
def frV(blk:Tg->Nat)(fc:Int->Nat)(fr:Int->List Org)(nx:Option Int)(x:Int):Value:=
 if nx=some x then .slice none 0 0 else .slice (some ⟨blk (.frm x),0,none⟩) (fr x).length (fc x)
structure GRel (w0 wr:World) (B tR tI:Nat) (blk:Tg->Nat) (ks kl:List Int) (sm:Int->Int) (fr:Int->List Org) (fc:Int->Nat) (nx:Option Int) (kc:Nat):Prop where
 map:PMap wr (blk .map) (fun x=>blk (.box x)) ks
 box:∀x∈ks,wr.heap[blk (.box x)]? =some (.cells #[.slice (some ⟨blk (.cel x),0,none⟩) 2 2,frV blk fc fr nx x] tR (0,0))
 cel:∀x∈ks,wr.heap[blk (.cel x)]? =some (.cells #[.int .i64 x,.int .i64 (sm x)] tI (0,0))
 frm:∀x∈ks,nx≠some x->OrgRow wr (blk (.frm x)) (fc x) (fr x)
 nil:∀x,nx=some x->fr x=[]
 keys:ORow wr tI (blk .keys) kc 1 kl.length (kl.map (Value.int .i64))
 nodup:ks.Nodup
 inj:∀t t',zV ks nx t->zV ks nx t' ->blk t=blk t' ->t=t'
 rng:∀t,zV ks nx t->B<=blk t/\blk t<wr.heap.size
 below:Below B w0 wr
structure Chg (w w' :World) (b:Nat) (o:Obj):Prop where
 os:w'.os=w.os
 tape:w'.tape=w.tape
 output:w'.output=w.output
 size:w'.heap.size=w.heap.size
 at' :w'.heap[b]? =some o
 other:∀k,k≠b->w'.heap[k]? =w.heap[k]?
theorem Chg.below{w w' :World}{b B:Nat}{o:Obj}(h:Chg w w' b o)(hb:B<=b):Below B w w' :=⟨h.os,h.tape,h.output,by rw [h.size];exact Zg _,fun k hk=>h.other k (by omega)⟩
section
variable {w0 wr:World} {B tR tI:Nat} {blk:Tg->Nat} {ks kl:List Int} {sm:Int->Int} {fr:Int->List Org} {fc:Int->Nat} {nx:Option Int} {kc:Nat}
theorem GRel.grow(h:GRel w0 wr B tR tI blk ks kl sm fr fc nx kc){wr' :World}(hb:Below wr.heap.size wr wr'):GRel w0 wr' B tR tI blk ks kl sm fr fc nx kc:=by
 have k:∀t,zV ks nx t->wr'.heap[blk t]? =wr.heap[blk t]? :=fun t ht=>hb.block _ (h.rng t ht).2;refine⟨h.map.kept (k .map trivial) (fun _ _=>rfl),fun x hx=>(k (.box x) hx).trans (h.box x hx),fun x hx=>(k (.cel x) hx).trans (h.cel x hx),fun x hx hn=>(h.frm x hx hn).kept (k (.frm x) ⟨hx,hn⟩),h.nil,h.keys.kept (k .keys trivial),h.nodup,h.inj,fun t ht=>⟨(h.rng t ht).1,ZG (h.rng t ht).2 hb.size⟩,?_⟩;refine h.below.trans ⟨hb.os,hb.tape,hb.output,hb.size,fun b hlt=>hb.block b ?_⟩;have:=(h.rng .map trivial);omega
theorem GRel.turn(h:GRel w0 wr B tR tI blk ks kl sm fr fc nx kc){x:Int}(hx:x∈ks)(hnx:nx=none\/nx=some x){s:Int}{os:List Org}{br cap:Nat}{w2 w3 w4:World}
 (h2:Chg wr w2 (blk (.cel x)) (.cells #[.int .i64 x,.int .i64 s] tI (0,0))) (h3:Below w2.heap.size w2 w3) (hbr:w2.heap.size<=br) (hrow:OrgRow w3 br cap os)
 (h4:Chg w3 w4 (blk (.box x)) (.cells #[.slice (some ⟨blk (.cel x),0,none⟩) 2 2,.slice (some ⟨br,0,none⟩) os.length cap] tR (0,0))):
 GRel w0 w4 B tR tI (zI blk (.frm x) br) ks kl (AP sm x s) (AP fr x os) (AP fc x cap) none kc:=by
 have hcx:=h.rng (.cel x) hx;have hbx:=h.rng (.box x) hx;have z2:=h2.size;have z3:=h3.size;have z4:=h4.size;have hbl:=hrow.lt;have keep:∀b,b<wr.heap.size->b≠blk (.cel x)->b≠blk (.box x)->w4.heap[b]? =wr.heap[b]? :=fun b hb n1 n2=>(h4.other b n2).trans ((h3.block b (by omega)).trans (h2.other b n1));have ub:∀t,t≠ .frm x->zI blk (.frm x) br t=blk t:=fun t ht=>Zj ht;have ux:zI blk (.frm x) br (.frm x)=br:=Zx rfl;have live:∀t,zV ks none t->t≠ .frm x->zV ks nx t:=by
  intro t ht hne;cases t with
  |frm y=>
   refine⟨ht.1,fun e=> ?_⟩;rcases hnx with e2|e2
   ·rw [e2] at e;cases e
   ·rw [e2] at e;cases e;exact hne rfl
  |map=>trivial
  |keys=>trivial
  |box y=>exact ht
  |cel y=>exact ht
 have ne:∀t t',zV ks nx t->zV ks nx t' ->t≠t' ->blk t≠blk t' :=fun t t' a b n e=>n (h.inj t t' a b e);refine⟨?_,fun y hy=> ?_,fun y hy=> ?_,fun y hy _=> ?_,fun y e=>by(cases e),?_,h.nodup,fun t t' a b e=> ?_,fun t ht=> ?_,?_⟩
 ·rw [ub .map (by simp)];refine h.map.kept (keep _ (h.rng .map trivial).2 (ne .map (.cel x) trivial hx (by simp)) (ne .map (.box x) trivial hx (by simp))) fun y hy=>ub _ (by simp)
 ·rw [ub (.box y) (by simp),ub (.cel y) (by simp)];by_cases e:y=x
  ·subst e;rw [h4.at'];simp [frV,ux,AP]
  ·have:=h.box y hy;rw [keep _ (h.rng (.box y) hy).2 (ne (.box y) (.cel x) hy hx (by simp)) (ne (.box y) (.box x) hy hx (by simpa using e)),this];have hn:nx≠some y:=by
    rcases hnx with e2|e2
    ·rw [e2];simp
    ·rw [e2];simpa using Ne.symm e
   simp [frV,hn,AP,e,ub (.frm y) (by simpa using e)]
 ·rw [ub (.cel y) (by simp)];by_cases e:y=x
  ·subst e;rw [h4.other _ (ne (.cel y) (.box y) hy hy (by simp)),h3.block _ (by omega),h2.at'];simp [AP]
  ·rw [keep _ (h.rng (.cel y) hy).2 (ne (.cel y) (.cel x) hy hx (by simpa using e)) (ne (.cel y) (.box x) hy hx (by simp)),h.cel y hy];simp [AP,e]
 ·by_cases e:y=x
  ·subst e;rw [ux];simp only [AP,ZE];exact hrow.kept (h4.other _ (by omega))
  ·have hn:nx≠some y:=by
    rcases hnx with e2|e2
    ·rw [e2];simp
    ·rw [e2];simpa using Ne.symm e
   rw [ub (.frm y) (by simpa using e)];simp only [AP,Zj e];exact(h.frm y hy hn).kept (keep _ (h.rng (.frm y) ⟨hy,hn⟩).2 (ne (.frm y) (.cel x) ⟨hy,hn⟩ hx (by simp)) (ne (.frm y) (.box x) ⟨hy,hn⟩ hx (by simp)))
 ·rw [ub .keys (by simp)];exact h.keys.kept (keep _ (h.rng .keys trivial).2 (ne .keys (.cel x) trivial hx (by simp)) (ne .keys (.box x) trivial hx (by simp)))
 ·by_cases e1:t= .frm x
  ·by_cases e2:t' = .frm x
   ·rw [e1,e2]
   ·rw [e1,ux,ub t' e2] at e;have:=(h.rng t' (live t' b e2)).2;omega
  ·by_cases e2:t' = .frm x
   ·rw [e2,ux,ub t e1] at e;have:=(h.rng t (live t a e1)).2;omega
   ·rw [ub t e1,ub t' e2] at e;exact h.inj t t' (live t a e1) (live t' b e2) e
 ·by_cases e1:t= .frm x
  ·rw [e1,ux];omega
  ·rw [ub t e1];have:=h.rng t (live t ht e1);omega
 ·refine h.below.trans ((h2.below hcx.1).trans (Below.trans ⟨h3.os,h3.tape,h3.output,h3.size,fun b hb=>h3.block b (by omega)⟩ (h4.below hbx.1)))
theorem GRel.add(h:GRel w0 wr B tR tI blk ks ks sm fr fc none kc){x:Int}(hx:x ∉ ks)(hs:sm x=0)(hf:fr x=[]){w1 w2 w3 w4:World}{cb bb kb' kc' :Nat}
 (h1:Below wr.heap.size wr w1) (hc1:wr.heap.size<=cb) (hb1:wr.heap.size<=bb) (hne:cb≠bb) (hcl:cb<w1.heap.size) (hbl:bb<w1.heap.size)
 (hc:w1.heap[cb]? =some (.cells #[.int .i64 x,.int .i64 0] tI (0,0))) (hb:w1.heap[bb]? =some (.cells #[.slice (some ⟨cb,0,none⟩) 2 2,.slice none 0 0] tR (0,0)))
 (hm:PMap w2 (blk .map) (fun y=>if y=x then bb else blk (.box y)) (ks++ [x])) (h2:w1.grownBy w2 (some (blk .map))) (z2:w2.heap.size=w1.heap.size)
 (h3:Below w2.heap.size w2 w3) (hk:ORow w4 tI kb' kc' 1 (ks++ [x]).length ((ks++ [x]).map (Value.int .i64))) (h4:w3.grownBy w4 (some (blk .keys))) (hkb:kb' =blk .keys\/kb' =w3.heap.size):
 GRel w0 w4 B tR tI (zI (zI (zI blk (.box x) bb) (.cel x) cb) .keys kb') (ks++ [x]) (ks++ [x]) sm fr fc (some x) kc' :=by
 have hM:=h.rng .map trivial;have hK:=h.rng .keys trivial;have z1:=h1.size;have z3:=h3.size;have z4:=h4.size;have hkl:kb' <w4.heap.size:=by
  obtain⟨_,cur,h,_⟩:=hk;exact(Zk.1 h).1
 have ne:∀t t',zV ks none t->zV ks none t' ->t≠t' ->blk t≠blk t' :=fun t t' a b n e=>n (h.inj t t' a b e);have hMK:=ne .map .keys trivial trivial (by simp);generalize hB:zI (zI (zI blk (.box x) bb) (.cel x) cb) .keys kb' =blk';have b1:blk' (.box x)=bb:=by rw [<-hB];simp [zI]
 have b2:blk' (.cel x)=cb:=by rw [<-hB];simp [zI]
 have b3:blk' .keys=kb' :=by rw [<-hB];simp [zI]
 have b4:∀t,t≠ .box x->t≠ .cel x->t≠ .keys->blk' t=blk t:=fun t n1 n2 n3=>by rw [<-hB];simp [zI,n1,n2,n3]
 have old:∀b,b<wr.heap.size->b≠blk .map->b≠blk .keys->w4.heap[b]? =wr.heap[b]? :=fun b hb n1 n2=>
  (h4.block b (by omega) (by simpa using n2)).trans ((h3.block b (by omega)).trans ((h2.block b (by omega) (by simpa using n1)).trans (h1.block b hb)))
 have mid:∀b,wr.heap.size<=b->b<w1.heap.size->w4.heap[b]? =w1.heap[b]? :=fun b hb hb2=>
  (h4.block b (by omega) (by simp;omega)).trans ((h3.block b (by omega)).trans (h2.block b hb2 (by simp;omega)))
 have hyx:∀y∈ks,y≠x:=fun y hy e=>hx (e ▸ hy);have live:∀t,zV (ks++ [x]) (some x) t->t≠ .box x->t≠ .cel x->zV ks none t:=by
  intro t ht n1 n2;cases t with
  |map=>trivial
  |keys=>trivial
  |box y=>
   rcases Z6.1 (show y∈ks++ [x] from ht) with e|e
   ·exact e
   ·simp at e;subst e;exact absurd rfl n1
  |cel y=>
   rcases Z6.1 (show y∈ks++ [x] from ht) with e|e
   ·exact e
   ·simp at e;subst e;exact absurd rfl n2
  |frm y=>
   obtain⟨e,e2⟩:=ht;rcases Z6.1 e with e|e
   ·exact⟨e,by simp⟩
   ·simp at e;subst e;exact absurd rfl e2
 refine⟨?_,fun y hy=> ?_,fun y hy=> ?_,fun y hy hn=> ?_,fun y e=>by cases e;exact hf,?_,?_,fun t t' a b e=> ?_,fun t ht=> ?_,?_⟩
 ·rw [b4 .map (by simp) (by simp) (by simp)];refine hm.kept ((h4.block _ (by omega) (by simpa using hMK)).trans (h3.block _ (by omega))) fun y hy=> ?_;by_cases e:y=x
  ·subst e;simp [b1]
  ·rw [b4 (.box y) (by simpa using e) (by simp) (by simp),Zj e]
 ·by_cases e:y=x
  ·subst e;rw [b1,b2,mid bb hb1 hbl,hb];simp [frV]
  ·have hy:y∈ks:=by
    rcases Z6.1 hy with e2|e2
    ·exact e2
    ·simp at e2;exact absurd e2 e
   rw [b4 (.box y) (by simpa using e) (by simp) (by simp),b4 (.cel y) (by simp) (by simpa using e) (by simp),old _ (h.rng (.box y) hy).2 (ne _ _ hy trivial (by simp)) (ne _ _ hy trivial (by simp)),h.box y hy];have:some x≠some y:=by simpa using Ne.symm e
   simp [frV,this,b4 (.frm y) (by simp) (by simp) (by simp)]
 ·by_cases e:y=x
  ·subst e;rw [b2,mid cb hc1 hcl,hc,hs]
  ·have hy:y∈ks:=by
    rcases Z6.1 hy with e2|e2
    ·exact e2
    ·simp at e2;exact absurd e2 e
   rw [b4 (.cel y) (by simp) (by simpa using e) (by simp),old _ (h.rng (.cel y) hy).2 (ne _ _ hy trivial (by simp)) (ne _ _ hy trivial (by simp)),h.cel y hy]
 ·have e:y≠x:=fun e=>hn (by rw [e]);have hy:y∈ks:=by
   rcases Z6.1 hy with e2|e2
   ·exact e2
   ·simp at e2;exact absurd e2 e
  rw [b4 (.frm y) (by simp) (by simp) (by simp)];exact(h.frm y hy (by simp)).kept (old _ (h.rng (.frm y) ⟨hy,by simp⟩).2 (ne (.frm y) _ ⟨hy,by simp⟩ trivial (by simp)) (ne (.frm y) _ ⟨hy,by simp⟩ trivial (by simp)))
 ·rw [b3];exact hk
 ·rw [Yp];exact⟨h.nodup,by simp,fun a ha b hb=>by simp at hb;subst hb;exact hyx a ha⟩
 ·have cls:∀t,zV (ks++ [x]) (some x) t->t= .box x\/t= .cel x\/t= .keys\/(blk' t=blk t/\zV ks none t/\t≠ .keys):=by
   intro t ht;by_cases n1:t= .box x
   ·exact .inl n1
   ·by_cases n2:t= .cel x
    ·exact .inr (.inl n2)
    ·by_cases n3:t= .keys
     ·exact .inr (.inr (.inl n3))
     ·exact .inr (.inr (.inr ⟨b4 t n1 n2 n3,live t ht n1 n2,n3⟩))
  have kr:kb' =blk .keys\/w1.heap.size<=kb' :=hkb.imp id (by omega)
  rcases cls t a with rfl|rfl|rfl|⟨e1,l1,m1⟩ <;>rcases cls t' b with rfl|rfl|rfl|⟨e2,l2,m2⟩ <;>first
   |rfl
   |(rw [e1,e2] at e;exact h.inj _ _ l1 l2 e)
   |(have r2:=(h.rng _ l2).2;have r3:=ne _ _ l2 (show zV ks none .keys from trivial) m2;simp only [b1,b2,b3,e2] at e;omega)
   |(have r1:=(h.rng _ l1).2;have r3:=ne _ _ l1 (show zV ks none .keys from trivial) m1;simp only [b1,b2,b3,e1] at e;omega)
   |(simp only [b1,b2,b3] at e;omega)
 ·by_cases n1:t= .box x
  ·subst n1;rw [b1];omega
  ·by_cases n2:t= .cel x
   ·subst n2;rw [b2];omega
   ·by_cases n3:t= .keys
    ·subst n3;rw [b3];omega
    ·rw [b4 t n1 n2 n3];have:=h.rng t (live t ht n1 n2);omega
 ·refine h.below.trans (Below.trans ⟨h1.os,h1.tape,h1.output,h1.size,fun b hb=>h1.block b (by omega)⟩ ?_);refine Below.trans (Below.grown (Below.refl _ _) h2 (by omega) (fun k hk=>by cases hk;omega)) ?_;refine Below.trans ⟨h3.os,h3.tape,h3.output,h3.size,fun b hb=>h3.block b (by omega)⟩ ?_;exact Below.grown (Below.refl _ _) h4 (by omega) (fun k hk=>by cases hk;omega)
end
end Go.Ab
end
section
namespace Go.Ab
open Go.Proofs Go.RowKit Go.Shelf
theorem xAZ{P:Program}{te ts:TypeId}(w:World){o:Oper}{a:Act}{K:Act->World->Prop}{Q:Exit->Act->World->Prop}(ht:P.underlying ts=some (.slice te))(s x:Operand)
 (hop:o.op= .call { callee:= .builtin .append,args:= #[s,x],argTypes:= #[ts,ts] }) (i:TypeInfo) (hi:P.info? te=some i) {z:Value} (hz:i.zero=some z) {sz bytes:Nat} (hsize:i.size=sz) (hby:i.bytes=bytes) (hzs:z.cells.size=sz) (hsz:0<sz) (hb:bytes<=64)
 (base:Nat) (v:Value) (n:Nat) (xs:List Value) (hs:a.eval s=v) (hown:w.ownsRow base te sz v n xs) (ad:Addr) (m c:Nat) (news:List Value) (hx:a.eval x= .slice (some ad) m c) (hl:news.length=m*sz)
 (hnews:∀j u,news[j]? =some u->w.cell? (ad.add j)=some u) (h1:∀u∈news,u.oneCell' =true) (hlen:n+m<=1000000000000) (hbase:base<=w.heap.size)
 (hK:∀v' w',w'.ownsRow base te sz v' (n+m) (xs++news)->w.grownBy w' v.ownBlock->(v' = .slice none 0 0↔v= .slice none 0 0/\m=0)->(v'.ownBlock=v.ownBlock\/v'.ownBlock=some w.heap.size)->K (a.put o.dst v') w'):
 o.wp P a w K Q:=by
 have h2:(n+m)*bytes<=1000000000000*64:=YK hlen hb;obtain⟨v',w',hr,h2,h3,h4,h5⟩:=run_append_own_at (P:=P) w base ts o.type te i z sz bytes ht hi hz hsize hby hzs hsz v n xs hown ad m c news hl hnews h1 (by unfold maxLen;omega) (by omega) hbase;unfold Oper.wp execOp;simp only [hop,resolve,invoke,builtin,Sem.run_bind,Sem.run_pure,Result.andThen_ok,List.map_toArray,Zb,ZD,hs,hx,hr];exact hK v' w' h2 h3 h4 h5
theorem xPg{P:Program}{te ts:TypeId}(w:World){ops:Array Oper}{rest:List Oper}{o:Oper}{a:Act}{Q:Exit->Act->World->Prop}(ht:P.underlying ts=some (.slice te))(hg:o.guard=none)(s x:Operand)
 (hop:o.op= .call { callee:= .builtin .append,args:= #[s,x],argTypes:= #[ts,ts] }) (i:TypeInfo) (hi:P.info? te=some i) {z:Value} (hz:i.zero=some z) {sz bytes:Nat} (hsize:i.size=sz) (hby:i.bytes=bytes) (hzs:z.cells.size=sz) (hsz:0<sz) (hb:bytes<=64)
 (base:Nat) (v:Value) (n:Nat) (xs:List Value) (hs:a.eval s=v) (hown:w.ownsRow base te sz v n xs) (ad:Addr) (m c:Nat) (news:List Value) (hx:a.eval x= .slice (some ad) m c) (hl:news.length=m*sz)
 (hnews:∀j u,news[j]? =some u->w.cell? (ad.add j)=some u) (h1:∀u∈news,u.oneCell' =true) (hlen:n+m<=1000000000000) (hbase:base<=w.heap.size)
 (hK:∀v' w',w'.ownsRow base te sz v' (n+m) (xs++news)->w.grownBy w' v.ownBlock->(v' = .slice none 0 0↔v= .slice none 0 0/\m=0)->(v'.ownBlock=v.ownBlock\/v'.ownBlock=some w.heap.size)->wpList P ops Q rest (a.put o.dst v') w'):
 wpList P ops Q (o::rest) a w:=by
 refine wpList_plain hg fun K' hK' => ?_;exact xAZ w ht s x hop i hi hz hsize hby hzs hsz hb base v n xs hs hown ad m c news hx hl hnews h1 hlen hbase fun v' w' a1 a2 a3 a4=>hK' _ _ (hK v' w' a1 a2 a3 a4)
theorem ORow.owns{w:World}{te g cap sz n:Nat}{xs:List Value}(h:ORow w te g cap sz n xs):w.ownsRow 0 te sz (.slice (some ⟨g,0,none⟩) n cap) n xs:=by
 obtain⟨h0,cur,h1,h2,h3,h4,h5⟩:=h;exact⟨h0,.inr ⟨g,cap,cur,rfl,Z3 _,h1,h2,h3,h4,h5⟩⟩
theorem ORow.of_owns{w:World}{te sz n base:Nat}{xs:List Value}{v:Value}(h:w.ownsRow base te sz v n xs)(hn:n≠0):∃g cap,v= .slice (some ⟨g,0,none⟩) n cap/\base<=g/\ORow w te g cap sz n xs:=by
 obtain⟨h0,h1⟩:=h;rcases h1 with ⟨_,h2⟩|⟨g,cap,cur,rfl,h2,h3,h4,h5,h6,h7⟩
 ·exact absurd h2 hn
 ·exact⟨g,cap,rfl,h2,h0,cur,h3,h4,h5,h6,h7⟩
def Kp(l:List Nat)(a a' :Act):Prop:=a'.defers=a.defers/\a'.tmps.size=a.tmps.size/\∀t∈l,a'.tmps[t]? =a.tmps[t]?
theorem y4{l:List Nat}{a:Act}{tm:Array Value}{d:Nat}{v:Value}(hd:l.contains d=false)(h:Kp l a { a with tmps:=tm }):Kp l a { a with tmps:=tm.setIfInBounds d v }:=by
 refine⟨rfl,by simpa using h.2.1,fun t ht=> ?_⟩;have:d≠t:=fun e=>by subst e;simp at hd;exact hd ht
 rw [<-h.2.2 t ht];simp [this]
theorem zT{l:List Nat}{a:Act}:Kp l a { a with tmps:=a.tmps }:=⟨rfl,rfl,fun _ _=>rfl⟩
theorem Kp.trans{l l' l2:List Nat}{a b c:Act}(h:Kp l a b)(g:Kp l' b c)(s:(l2.all fun t=>l.contains t&&l'.contains t)=true):Kp l2 a c:=by
 refine⟨g.1.trans h.1,g.2.1.trans h.2.1,fun t ht=> ?_⟩;have:=Zu.1 s t ht;simp only [Zs,Z5] at this;exact(g.2.2 t this.2).trans (h.2.2 t this.1)
theorem Kp.get{l:List Nat}{a b:Act}(h:Kp l a b){t:Nat}{v:Value}(hv:a.tmps[t]? =some v)(ht:l.contains t=true):b.tmps[t]? =some v:=(h.2.2 t (by simpa using ht)).trans hv
theorem zF{a:Act}{k n:Nat}{v:Value}(h:a.tmps[k]? =some v)(hs:a.tmps.size=n)(hk:k<n):a.tmps[k]'(by omega)=v:=(Zk.1 h).2
theorem B2{a:Act}{t:Nat}{v:Value}(h:a.tmps[t]? =some v):a.eval (.tmp t)=v:=by
 simp only [Act.eval,Yx,h,jG]
end Go.Ab
end
section
namespace Go.Ab
open Go.Proofs Go.RowKit Go.Shelf
theorem Ii(i:Nat)(rs:List Rowd)(r:Rowd):uK i (rs++ [r])=if gO i r∈uK i rs then uK i rs else uK i rs++ [gO i r]:=by
 unfold uK;rw [Ya]
 rfl
theorem Ma(i k:Nat)(rs:List Rowd)(r:Rowd):oN i k (rs++ [r])=AP (oN i k rs) (gO i r) (IntKind.i64.wrap (oN i k rs (gO i r)+gO k r)):=by
 funext y
 simp only [oN,Ya,List.foldl_cons,List.foldl_nil,AP];by_cases h:y=gO i r
 ·subst h;simp
 ·rw [Zj (Ne.symm h),Zj h]
theorem M7(i:Nat)(rs:List Rowd)(r:Rowd):uJ i (rs++ [r])=AP (uJ i rs) (gO i r) (qV (uJ i rs (gO i r)) r.frm):=by
 funext y
 simp only [uJ,Ya,List.foldl_cons,List.foldl_nil,AP];by_cases h:y=gO i r
 ·subst h;simp
 ·rw [Zj (Ne.symm h),Zj h]
theorem GE{rs:List Rowd}{j:Nat}(h:j<rs.length):rs.take (j+1)=rs.take j++ [rs[j]]:=by rw [Yq h]
theorem xFN{i:Nat}{x:Int}:∀(n:Nat) (rs:List Rowd),rs.length=n->x ∉ uK i rs->(∀k,oN i k rs x=0)/\uJ i rs x=[]:=by
 intro n
 induction n with
 |zero=>
  intro rs h _;have:rs=[]:=Z1.1 h;subst this;exact⟨fun _=>rfl,rfl⟩
 |succ n ih=>
  intro rs h hx;have e:rs=rs.take n++ [rs[n]'(by omega)]:=by rw [<-GE (by omega)];exact(Xm (by omega)).symm
  rw [e] at hx ⊢;rw [Ii] at hx;have hx2:x ∉ uK i (rs.take n)/\x≠gO i (rs[n]'(by omega)):=by
   split at hx
   ·rename_i hm;exact⟨hx,fun e=>hx (e ▸ hm)⟩
   ·rw [Z6] at hx;exact⟨fun h=>hx (.inl h),fun e=>hx (.inr (by simp [e]))⟩
  obtain⟨h1,h2⟩:=ih (rs.take n) (by rw [ZR];omega) hx2.1;refine⟨fun k=> ?_,?_⟩
  ·rw [Ma];simp only [AP,Zj hx2.2];exact h1 k
  ·rw [M7];simp only [AP,Zj hx2.2];exact h2
theorem xOY(a b:List Org):(qV a b).length<=a.length+b.length:=by
 unfold qV;rw [YI];have:=Ia (a++b)
 rwa [jA] at this
theorem xFM{i L:Nat}{x:Int}:∀(rs:List Rowd),(∀r∈rs,r.frm.length<=L)->(uJ i rs x).length<=rs.length*L:=by
 have key:∀(rs:List Rowd) (f:List Org),(∀r∈rs,r.frm.length<=L)->(rs.foldl (fun f r=>if gO i r=x then qV f r.frm else f) f).length<=f.length+rs.length*L:=by
  intro rs
  induction rs with
  |nil=>intro f _;simp
  |cons r rs ih=>
   intro f h;rw [List.foldl_cons];refine Yu (ih _ fun q hq=>h q (Zr _ hq)) ?_;have hr:=h r Zp;have hu:=xOY f r.frm;rw [jC,ZP];split <;>omega
 intro rs h;have:=key rs [] h;unfold uJ;simpa using this
theorem M9(i:Nat):∀(rs:List Rowd),(uK i rs).length<=rs.length:=by
 have key:∀(rs:List Rowd) (ks:List Int),(rs.foldl (fun ks r=>if gO i r∈ks then ks else ks++ [gO i r]) ks).length<=ks.length+rs.length:=by
  intro rs
  induction rs with
  |nil=>intro f;simp
  |cons r rs ih=>
   intro ks;rw [List.foldl_cons];refine Yu (ih _) ?_;split <;>simp <;>omega
 intro rs;simpa [uK] using key rs []
def K0(w:World)(v:Value)(xs:List Int):Prop:=
 ∃p c,v= .slice p xs.length c/\(xs=[]\/∃b off,p=some ⟨b,off,none⟩/\b<w.heap.size/\∀m (hm:m<xs.length),w.cell? ⟨b,off+m,none⟩=some (.int .i64 xs[m]))
def FD(w:World)(v:Value)(rs:List Rowd):Prop:=
 ∃p c,v= .slice p rs.length c/\(rs=[]\/∃b off,p=some ⟨b,off,none⟩/\b<w.heap.size/\∀j (hj:j<rs.length),∃cv fv,w.cell? ⟨b,off+j*2,none⟩=some cv/\w.cell? ⟨b,off+j*2+1,none⟩=some fv/\K0 w cv rs[j].cells/\RowIn w fv rs[j].frm)
theorem Cj{w w' :World}{b o:Nat}(h:w'.heap[b]? =w.heap[b]?):w'.cell? ⟨b,o,none⟩=w.cell? ⟨b,o,none⟩:=by simp only [World.cell?,h]
theorem E6{w:World}{b o:Nat}{v:Value}(h:w.cell? ⟨b,o,none⟩=some v):b<w.heap.size:=by
 by_cases hlt:b<w.heap.size
 ·exact hlt
 ·simp [World.cell?,Yt (X2 hlt)] at h
section
variable [Inhabited Lb]
theorem xLi{w:World}{ok:List (Nat×Nat)->Nat->Nat->Prop}{q:List (Nat×Nat)->Value->Nat->Prop}{v:Value}{os:List Org}(h:RdP w ok q v (.sl 2 (os.map Ty.org.toD))):RowIn w v os:=by
 by_cases hx:os=[]
 ·subst hx;obtain⟨ad,cap,rfl,_⟩:=RdP.shape h;exact⟨ad,cap,rfl,.inl rfl⟩
 ·obtain⟨b,off,cap,rfl,hcap,hrl,hq,u,hcl,hk⟩:=RdP.cells h (by simpa using hx);have hpos:0<(os.map Ty.org.toD).length:=by
   cases os with
   |nil=>exact absurd rfl hx
   |cons _ _=>simp
  refine⟨some ⟨b,off,none⟩,cap,by rw [Zq],.inr ⟨_,rfl,E6 (hcl 0 0 hpos (by decide)).1,fun j x hj=> ?_⟩⟩;have hj2:j<(zU os).length:=(Zv.1 hj).1;rw [E4] at hj2;have e:j=j / 2*2+j % 2:=by omega
  have hm:j / 2<os.length:=by omega
  have hk2:j % 2<2:=Xn _ (by decide);have h1:=DM os (j / 2) hm (j % 2) hk2;rw [<-e,hj] at h1;cases h1;have g1:=(hcl (j / 2) (j % 2) (by simpa using hm) hk2).1;have hr:((os.map Ty.org.toD)[j / 2]'(by simpa using hm))=Ty.org.toD os[j / 2]:=by rw [Z8]
  have g2:=hk (j / 2) (j % 2) (by simpa using hm) (by rw [hr];exact hk2);have ha:(⟨b,off,none⟩:Addr).add j=⟨b,off+(j / 2)*2+j % 2,none⟩:=by
   rw [show off+j / 2*2+j % 2=off+j by omega];unfold Addr.add;split
   ·rename_i h0;rw [h0];rfl
   ·rfl
  rw [ha,g1];simp only [hr] at g2;exact Zc some (LD g2)
theorem xIX{w:World}{ok:List (Nat×Nat)->Nat->Nat->Prop}{q:List (Nat×Nat)->Value->Nat->Prop}{v:Value}{xs:List Int}(h:RdP w ok q v (.sl 1 (xs.map fun n=> [D.int .i64 n]))):K0 w v xs:=by
 by_cases hx:xs=[]
 ·subst hx;obtain⟨ad,cap,rfl,_⟩:=RdP.shape h;exact⟨ad,cap,rfl,.inl rfl⟩
 ·obtain⟨b,off,cap,rfl,hcap,hrl,hq,u,hcl,hk⟩:=RdP.cells h (by simpa using hx);have hpos:0<(xs.map fun n=> [D.int .i64 n]).length:=by
   cases xs with
   |nil=>exact absurd rfl hx
   |cons _ _=>simp
  refine⟨some ⟨b,off,none⟩,cap,by rw [Zq],.inr ⟨b,off,rfl,E6 (hcl 0 0 hpos (by decide)).1,fun m hm=> ?_⟩⟩;have g1:=(hcl m 0 (by simpa using hm) (by decide)).1;have hr:((xs.map fun n=> [D.int .i64 n])[m]'(by simpa using hm))=[D.int .i64 xs[m]]:=by rw [Z8]
  have g2:=hk m 0 (by simpa using hm) (by rw [hr];exact Nat.zero_lt_one);rw [show off+m*1+0=off+m by omega] at g1;rw [g1];generalize u m 0=y at g2;simp only [hr,List.getElem_cons_zero] at g2;cases g2
  rfl
theorem xLl{w:World}{ok:List (Nat×Nat)->Nat->Nat->Prop}{q:List (Nat×Nat)->Value->Nat->Prop}{v:Value}{rs:List Rowd}(h:RdP w ok q v (.sl 2 (rs.map Rowd.toD))):FD w v rs:=by
 by_cases hx:rs=[]
 ·subst hx;obtain⟨ad,cap,rfl,_⟩:=RdP.shape h;exact⟨ad,cap,rfl,.inl rfl⟩
 ·obtain⟨b,off,cap,rfl,hcap,hrl,hq,u,hcl,hk⟩:=RdP.cells h (by simpa using hx);have hpos:0<(rs.map Rowd.toD).length:=by
   cases rs with
   |nil=>exact absurd rfl hx
   |cons _ _=>simp
  refine⟨some ⟨b,off,none⟩,cap,by rw [Zq],.inr ⟨b,off,rfl,E6 (hcl 0 0 hpos (by decide)).1,fun j hj=> ?_⟩⟩;have g0:=(hcl j 0 (by simpa using hj) (by decide)).1;have g1:=(hcl j 1 (by simpa using hj) (by decide)).1;have hr:((rs.map Rowd.toD)[j]'(by simpa using hj))=Rowd.toD rs[j]:=by rw [Z8]
  have k0:=hk j 0 (by simpa using hj) (by rw [hr];exact Nat.zero_lt_succ _);have k1:=hk j 1 (by simpa using hj) (by rw [hr];exact Nat.lt_succ_self _);simp only [hr] at k0 k1;exact⟨u j 0,u j 1,by simpa using g0,g1,xIX k0,xLi k1⟩
end
theorem xKO{w:World}{g cap:Nat}{xs:List Org}(h:OrgRow w g cap xs):RowIn w (.slice (some ⟨g,0,none⟩) xs.length cap) xs:=by
 have hl:=h.lt;obtain⟨h0,cs,ty,lo,hi,h1,h2,h3,h4⟩:=h;refine⟨_,cap,rfl,.inr ⟨_,rfl,hl,fun j u hj=> ?_⟩⟩;have hj2:j<(zU xs).length:=(Zv.1 hj).1;rw [E4] at hj2;have e:j=j / 2*2+j % 2:=by omega
 have hm:j / 2<xs.length:=by omega
 have hk2:j % 2<2:=Xn _ (by decide);have q1:=DM xs (j / 2) hm (j % 2) hk2;rw [<-e,hj] at q1;cases q1;have ha:(⟨g,0,none⟩:Addr).add j=⟨g,(j / 2)*2+j % 2,none⟩:=by
  rw [<-e];unfold Addr.add;split
  ·rename_i h0;rw [h0]
  ·simp
 rw [ha];simp only [World.cell?,h1];exact h4 _ hm _ hk2
end Go.Ab
end
section
namespace Go.Ab
open Go.Proofs Go.RowKit Go.Shelf
theorem ORow.cellI{w:World}{te g cap:Nat}{xs:List Int}(h:ORow w te g cap 1 xs.length (xs.map (Value.int .i64))){j:Nat}(hj:j<xs.length):w.cell? ⟨g,j,none⟩=some (.int .i64 xs[j]):=by
 obtain⟨_,cur,h1,h2,h3,h4,h5⟩:=h;simp only [World.cell?,h1];have e:(cur.toList.take (xs.length*1))[j]? =some (.int .i64 xs[j]):=by rw [h5,Zo,Zw hj];rfl
 rw [YN,Zx (by omega)] at e;simpa using e
theorem ORow.holdsI{w:World}{te g cap:Nat}{xs:List Int}(h:ORow w te g cap 1 xs.length (xs.map (Value.int .i64))):Sort.Holds (Value.int .i64) w g 0 xs.toArray:=by
 intro j hj;have hj:j<xs.length:=by simpa using hj
 rw [Zi];refine⟨?_,?_⟩
 ·rw [h.cellI hj];simp [hj]
 ·obtain⟨_,cur,h1,_⟩:=h;simp [World.frozen?,h1]
theorem xL6{w:World}{te g cap n:Nat}{xs ys:List Int}{os:Array Obj}(h:ORow w te g cap 1 xs.length (xs.map (Value.int .i64)))(hl:ys.length=xs.length):
 ORow (Sort.grow (Sort.putRow (Value.int .i64) (Sort.ahead w n) g 0 ys.toArray) os) te g cap 1 ys.length (ys.map (Value.int .i64))/\w.heap.size<=(Sort.grow (Sort.putRow (Value.int .i64) (Sort.ahead w n) g 0 ys.toArray) os).heap.size/\
  ∀b,b<w.heap.size->b≠g->(Sort.grow (Sort.putRow (Value.int .i64) (Sort.ahead w n) g 0 ys.toArray) os).heap[b]? =w.heap[b]? :=by
 have hsz:(Sort.putRow (Value.int .i64) (Sort.ahead w n) g 0 ys.toArray).heap.size=w.heap.size:=by simp [Sort.putRow,Sort.mapBlock,Sort.ahead]
 obtain⟨_,cur,h1,h2,h3,h4,h5⟩:=h;have hg:g<w.heap.size:=(Zk.1 h1).1;refine⟨⟨by simp,Sort.putCells (Value.int .i64) 0 ys.toArray cur,?_,by omega,h3,by simp [Sort.putCells,h4],?_⟩,by rw [Sort.size_grow,hsz];omega,fun b hb hne=> ?_⟩
 ·rw [Sort.heap_grow_old _ _ (by rw [hsz];exact hg)];simp only [Sort.putRow,Sort.mapBlock,Yr,ZE];show Option.map _ (w.heap[g]?)=_;rw [h1];rfl
 ·refine List.ext_getElem? fun j=> ?_;rw [YN];by_cases hj:j<ys.length
  ·rw [Zx (by omega),Zo,Zw hj];have hc:j<cur.size:=by omega
   simp [Sort.putCells,hc,hj]
  ·rw [Zj (by omega),Zo,ZN (by omega)]
   rfl
 ·rw [Sort.heap_grow_old _ _ (by rw [hsz];exact hb)];simp only [Sort.putRow,Sort.mapBlock,Yr];rw [Zj (Ne.symm hne)]
  rfl
section
variable {w0 wr:World} {B tR tI:Nat} {blk:Tg->Nat} {ks kl:List Int} {sm:Int->Int} {fr:Int->List Org} {fc:Int->Nat} {nx:Option Int} {kc:Nat}
theorem GRel.rekey(h:GRel w0 wr B tR tI blk ks kl sm fr fc nx kc){wr' :World}{kl' :List Int}(hos:wr'.os=wr.os/\wr'.tape=wr.tape/\wr'.output=wr.output)(hs:wr.heap.size<=wr'.heap.size)(ho:∀b,b<wr.heap.size->b≠blk .keys->wr'.heap[b]? =wr.heap[b]?)
 (hk:ORow wr' tI (blk .keys) kc 1 kl'.length (kl'.map (Value.int .i64))):GRel w0 wr' B tR tI blk ks kl' sm fr fc nx kc:=by
 have k:∀t,zV ks nx t->t≠ .keys->wr'.heap[blk t]? =wr.heap[blk t]? :=fun t ht hn=>ho _ (h.rng t ht).2 fun e=>hn (h.inj t .keys ht trivial e);refine⟨h.map.kept (k .map trivial (by simp)) (fun _ _=>rfl),fun x hx=>(k (.box x) hx (by simp)).trans (h.box x hx),fun x hx=>(k (.cel x) hx (by simp)).trans (h.cel x hx),fun x hx hn=>(h.frm x hx hn).kept (k (.frm x) ⟨hx,hn⟩ (by simp)),h.nil,hk,h.nodup,h.inj,fun t ht=>⟨(h.rng t ht).1,ZG (h.rng t ht).2 hs⟩,?_⟩;have rk:=h.rng .keys trivial;exact h.below.trans ⟨hos.1,hos.2.1,hos.2.2,hs,fun b hb=>ho b (by omega) (by omega)⟩
end
def DN(blk:Tg->Nat)(fr:Int->List Org)(fc:Int->Nat)(xs:List Int):List Value:=
 xs.flatMap fun x=> [.slice (some ⟨blk (.cel x),0,none⟩) 2 2,.slice (some ⟨blk (.frm x),0,none⟩) (fr x).length (fc x)]
theorem xLj(blk:Tg->Nat)(fr:Int->List Org)(fc:Int->Nat)(xs:List Int)(x:Int):
 DN blk fr fc (xs++ [x])=DN blk fr fc xs++ [.slice (some ⟨blk (.cel x),0,none⟩) 2 2,.slice (some ⟨blk (.frm x),0,none⟩) (fr x).length (fc x)]:=by simp [DN]
end Go.Ab
end
section
namespace Go.Ab
open Go.Proofs Go.RowKit Go.Shelf
section
variable [Inhabited Lb]
def Env.ended(E:Env)(w' :World)(lab:Nat->Option (Nat×List (Nat×Nat)))(hwf:Nat->Nat):Env:=
 { w:=w',hw:=fun b=>match lab b with |some _=>hwf b|none=>E.hw b,
   ow:=fun b=>match lab b with |some l=>some (.arr (.h 0) l.1 l.2) |none=>(E.ow b).bind fun l=>match l with | .arr (.h 0) _ _=>none|l=>some l,
   bx:=E.bx,hdr:=E.hdr }
theorem LN{C:Ctx}{fn:Func}{I:Info}{σ:St}{tmps:Array Value}{a' :Act}{E:Env}(hi:Inv C σ.get tmps E)(hext:∀s b,C.ext s=some b->False)(hIe:I.ext=[])(hIl:I.lnt=[]){w' :World}{B6:Nat}(hB6:E.ow B6≠none)
 (hos:w'.os=E.w.os/\w'.tape=E.w.tape/\w'.output=E.w.output) (hsz:E.w.heap.size<=w'.heap.size) (hold:∀b,b<E.w.heap.size->b≠B6->w'.heap[b]? =E.w.heap[b]?) (hd:a'.defers=[]) (hnt:a'.tmps.size=C.nt)
 {lab:Nat->Option (Nat×List (Nat×Nat))} {hwf:Nat->Nat} (inj:∀b b' l,lab b=some l->lab b' =some l->b=b') (new:∀b l,lab b=some l->E.w.heap.size<=b/\b<w'.heap.size)
 {av:AV} {v:Value} (hnb:av.nbox=none) (hres:VR (E.ended w' lab hwf) aJ (.h 0) av v) (hrun:(results fn a'.tmps).run C.P w' = .ok v w'):kL C fn I ⟨av,[],[]⟩ a' w' :=by
 have labn:∀b,b<E.w.heap.size->lab b=none:=fun b hb=>by
  cases h:lab b with
  |none=>rfl
  |some l=>have:=(new b l h).1;omega
 have hinv:Inv C (St.get []) a'.tmps (E.ended w' lab hwf):=by
  refine { os:=hos.1.trans hi.os,tape:=hos.2.1.trans hi.tape,output:=hos.2.2.trans hi.output,size:=Yu hi.size hsz,hdr:=hi.hdr,old:=fun b hb h0=> ?_,new:=fun b hb=> ?_,inj:=fun b b' l h1 h2=> ?_,boxhw:=fun b s h=> ?_,nt:=hnt,tmp:=fun t=>trivial,box:=fun s cs h=>by(cases h),ext:=fun s b h=>(hext s b h).elim,base:=hi.base }
  ·obtain⟨h1,h2,h3⟩:=hi.old b hb h0;have hlt:b<E.w.heap.size:=ZG hb hi.size;refine⟨(hold b hlt fun e=>hB6 (e ▸ h3)).trans h1,?_,?_⟩
   ·simp only [Env.ended,labn b hlt];exact h2
   ·simp only [Env.ended,labn b hlt,h3,Option.bind_none]
  ·have hb:w'.heap.size<=b:=hb;have hl:lab b=none:=by
    cases h:lab b with
    |none=>rfl
    |some l=>have:=(new b l h).2;omega
   obtain⟨h1,h2⟩:=hi.new b (by omega);simp only [Env.ended,hl,h1,Option.bind_none];exact⟨trivial,h2⟩
  ·simp only [Env.ended] at h1 h2;cases g1:lab b with
   |some l1=>
    cases g2:lab b' with
    |some l2=>
     rw [g1] at h1;rw [g2] at h2;simp only at h1 h2;cases h1;have:l1=l2:=by
      cases l1;cases l2;simpa using(ZB h2).symm
     subst this;exact inj b b' l1 g1 g2
    |none=>
     rw [g1] at h1;rw [g2] at h2;simp only at h1 h2;cases h1;rw [Zn] at h2;obtain⟨l2,_,c2⟩:=h2;split at c2
     ·cases c2
     ·rename_i hne;cases c2;exact(hne _ _ rfl).elim
   |none=>
    cases g2:lab b' with
    |some l2=>
     rw [g1] at h1;rw [g2] at h2;simp only at h1 h2;cases h2;rw [Zn] at h1;obtain⟨l1,_,c1⟩:=h1;split at c1
     ·cases c1
     ·rename_i hne;cases c1;exact(hne _ _ rfl).elim
    |none=>
     rw [g1] at h1;rw [g2] at h2;simp only at h1 h2;rw [Zn] at h1 h2;obtain⟨l1,a1,c1⟩:=h1;obtain⟨l2,a2,c2⟩:=h2;have e1:l1=l:=by split at c1 <;>first |exact ZB c1|cases c1
     have e2:l2=l:=by split at c2 <;>first |exact ZB c2|cases c2
     subst e1 e2;exact hi.inj _ _ _ a1 a2
  ·simp only [Env.ended] at h ⊢;cases g1:lab b with
   |some l1=>rw [g1] at h;simp at h
   |none=>
    rw [g1] at h;simp only at h ⊢;rw [Zn] at h;obtain⟨l1,a1,c1⟩:=h;have e1:l1= .box s:=by split at c1 <;>first |exact ZB c1|cases c1
    subst e1;exact hi.boxhw b s a1
 refine⟨hd,fun tg ht _ _ m=>⟨v,E.ended w' lab hwf,E.ended w' lab hwf,rfl,⟨[],hinv⟩,hrun,{ w:=rfl,hw:=rfl,bx:=rfl,hdr:=rfl,ow:=fun b h=>h,env:=hinv.env,res:=ResAt.of hres hnb,outs:=fun n s o h1 h2=>by rw [hIe] at h1;simp at h1,outl:=by rw [hIe];rfl,lents:= ?_ }⟩⟩;rw [hIl] at ht;obtain rfl:tg=[]:=Z1.1 ht
 trivial
theorem Reach.tail{P:Program}{fn:Func}{I:Info}{σ:St}{ro:CallO}{c1 c2:Code}
 (h:∀C:Ctx,C.P=P->C.nt=I.nt->(∀s b,C.ext s=some b->s∈I.ext)->∀a w,R C σ a w->c1.wp P (Exit.then (fun a1 w1=>c2.wp P (fun e a' w' =>e= .ret/\kL C fn I ro a' w') a1 w1) (fun _ _ _=>False)) a w):Reach P fn I [.code c1,.code c2] σ ro:=by
 intro C hP hnt hext a w hR b cs;obtain⟨e,a1,w1,hq,harr⟩:=h C hP hnt hext a w hR b [.code c2] cs;cases e with
 |normal=>
  obtain⟨e2,a2,w2,⟨rfl,hq2⟩,todo,harr2⟩:=hq b [] cs;exact⟨a2,w2,todo,hq2,harr.trans harr2⟩
 |exit id=>exact hq.elim
 |goto l=>exact hq.elim
 |ret=>exact hq.elim
 |panic c=>exact hq.elim
 |outgrown=>exact hq.elim
theorem xKP{w:World}{ok:List (Nat×Nat)->Nat->Nat->Prop}{q:List (Nat×Nat)->Value->Nat->Prop}{g cap:Nat}{xs:List Org}(h:OrgRow w g cap xs)(hok:∀o,o<xs.length*2->ok [] g o)(hq:q [] (.slice (some ⟨g,0,none⟩) xs.length cap) 2):
 RdP w ok q (.slice (some ⟨g,0,none⟩) xs.length cap) (.sl 2 (xs.map Ty.org.toD)):=by
 obtain⟨hcap,cs,ty,lo,hi,t4,t5,t6,hc⟩:=h;refine .sl g 0 xs.length cap 2 _ (fun m k=>if h:m<xs.length/\k<2 then(bH xs[m])[k]'h.2 else .bool false) (by simp) hcap (fun r hr=> ?_) hq (fun m k hm hk=> ?_) (fun m k hm hk=> ?_)
 ·obtain⟨y,_,rfl⟩:=Zh.1 hr;exact Ty.toD_length .org y
 ·rw [dif_pos ⟨hm,hk⟩];refine⟨?_,hok _ (by omega)⟩;simp only [World.cell?,t4];rw [Zi];exact hc m hm k hk
 ·have hm' :m<xs.length:=by simpa using hm
  have hr:(xs.map Ty.org.toD)[m]=Ty.org.toD xs[m]:=by rw [Z8]
  have hk' :k<2:=by rw [hr] at hk;exact hk
  rw [dif_pos ⟨hm',hk'⟩];simp only [hr]
  match k,hk' with
  |0,_=>exact .int .i64 _
  |1,_=>exact .int .i64 _
end
end Go.Ab
end
section
namespace Go.Ab
open Go.Proofs Go.RowKit Go.Shelf
def zN(n:Nat):Code->Option Code
 | .region i o d=>cond (i.beq n) (some (.region i o d)) none
 | .seq x y=>(zN n x).orElse fun _=>zN n y
 | .cond _ x y=>(zN n x).orElse fun _=>zN n y
 | .block _ x=>zN n x
 | .loop x=>zN n x
 |_=>none
noncomputable def Rg (n:Nat):Code:=((Tryz.f42.body).bind (zN n)).getD .skip
theorem zY:GrpT Tryz.prog 3 87 88:=⟨Tryz.underlying3,Tryz.underlying87,Tryz.zeroValue88⟩
theorem xIR:(Tryz.prog.info? 3).map (fun i=>(i.zero,i.size,i.bytes))=some (some (.int .i64 0),1,8):=by kernel_rfl
theorem xIS:(Tryz.prog.info? 77).map (fun i=>(i.zero,i.size,i.bytes))=some (some (.agg #[.slice none 0 0,.slice none 0 0]),2,48):=by kernel_rfl
theorem Jg:Tryz.prog.follows .mixedOrders=true:=by kernel_rfl
set_option maxRecDepth 100000
theorem xF9{a:Act}{w:World}(hs:a.tmps.size=153):(Rg 8).wp Tryz.prog (fun e a' w' =>e= .normal/\w' =w.alloc (.map #[] 0)/\a'.tmps[11]? =some (.map (some w.heap.size))/\Kp [3,4,5,6,9,10] a a') a w:=by
 dsimp only [Rg,Tryz.f42,Option.bind,zN,Option.getD,cond,Nat.beq,Option.orElse];have hmm:= @run_makeMap Tryz.prog
 go_wp2
 exact y4 rfl (y4 rfl zT)
theorem xGa{a:Act}{w:World}(hs:a.tmps.size=153):(Rg 9).wp Tryz.prog (fun e a' w' =>e= .normal/\w' =w.alloc (.cells #[] 3 (0,0))/\a'.tmps[12]? =some (.slice (some ⟨w.heap.size,0,none⟩) 0 0)/\Kp [3,4,5,6,9,10,11] a a') a w:=by
 dsimp only [Rg,Tryz.f42,Option.bind,zN,Option.getD,cond,Nat.beq,Option.orElse]
 go_wp2
 exact y4 rfl (y4 rfl zT)
theorem xFP{a:Act}{w:World}(hs:a.tmps.size=153){B5 n c:Nat}{p:Option Addr}(h5:a.tmps[5]? =some (.pointer (some ⟨B5,0,none⟩)))(hc:w.cell? ⟨B5,6,none⟩=some (.slice p n c)):(Rg 10).wp Tryz.prog (fun e a' w' =>e= .normal/\w' =w/\a'.tmps[55]? =some (.slice p n c)/\a'.tmps[56]? =some (.int .i64 n)/\a'.tmps[57]? =some (.int .i64 (0:Nat))/\Kp [3,4,5,6,9,10,11,12] a a') a w:=by
 dsimp only [Rg,Tryz.f42,Option.bind,zN,Option.getD,cond,Nat.beq,Option.orElse];have h5:=zF h5 hs (by decide)
 go_wp2
 exact y4 rfl (y4 rfl (y4 rfl (y4 rfl zT)))
theorem xFQ{a:Act}{w:World}(hs:a.tmps.size=153){j n:Nat}(h56:a.tmps[56]? =some (.int .i64 n))(h57:a.tmps[57]? =some (.int .i64 j)):(Rg 11).wp Tryz.prog (fun e a' w' =>e= .normal/\w' =w/\a'.tmps[58]? =some (.bool (decide (j<n)))/\Kp [3,4,5,6,9,10,11,12,55,56,57] a a') a w:=by
 dsimp only [Rg,Tryz.f42,Option.bind,zN,Option.getD,cond,Nat.beq,Option.orElse];have h56:=zF h56 hs (by decide);have h57:=zF h57 hs (by decide)
 go_wp2
 exact y4 rfl zT
theorem xFR{a:Act}{w:World}(hs:a.tmps.size=153){j n b off c:Nat}(hj:j<n){p1 p2:Option Addr}{n1 c1 n2 c2:Nat}(h55:a.tmps[55]? =some (.slice (some ⟨b,off,none⟩) n c))(h57:a.tmps[57]? =some (.int .i64 j))(hc:w.cell? ⟨b,off+j*2,none⟩=some (.slice p1 n1 c1))(hf:w.cell? ⟨b,off+j*2+1,none⟩=some (.slice p2 n2 c2)):
 (Rg 12).wp Tryz.prog (fun e a' w' =>e= .normal/\w' =w.alloc (.cells #[.slice p1 n1 c1,.slice p2 n2 c2] 77 (0,0))/\a'.tmps[14]? =some (.pointer (some ⟨w.heap.size,0,none⟩))/\Kp [3,4,5,6,9,10,11,12,55,56,57] a a') a w:=by
 dsimp only [Rg,Tryz.f42,Option.bind,zN,Option.getD,cond,Nat.beq,Option.orElse];have h55:=zF h55 hs (by decide);have h57:=zF h57 hs (by decide)
 go_wp2
 exact y4 rfl (y4 rfl (y4 rfl zT))
theorem xFS{a:Act}{w:World}(hs:a.tmps.size=153){rb i b off c n:Nat}(hj:i<n){x:Int}(h14:a.tmps[14]? =some (.pointer (some ⟨rb,0,none⟩)))(h9:a.tmps[9]? =some (.int .i64 i))(hc:w.cell? ⟨rb,0,none⟩=some (.slice (some ⟨b,off,none⟩) n c))(hx:w.cell? ⟨b,off+i,none⟩=some (.int .i64 x)):
 (Rg 13).wp Tryz.prog (fun e a' w' =>e= .normal/\w' =w/\a'.tmps[15]? =some (.int .i64 x)/\Kp [3,4,5,6,9,10,11,12,14,55,56,57] a a') a w:=by
 dsimp only [Rg,Tryz.f42,Option.bind,zN,Option.getD,cond,Nat.beq,Option.orElse];have h14:=zF h14 hs (by decide);have h9:=zF h9 hs (by decide)
 go_wp2
 exact y4 rfl (y4 (v:= .int .i64 x) rfl (y4 rfl (y4 rfl (y4 rfl (y4 rfl zT)))))
theorem xFT{a:Act}{w:World}(hs:a.tmps.size=153){M:Nat}{bx:Int->Nat}{ks:List Int}{x:Int}(hm:PMap w M bx ks)(h11:a.tmps[11]? =some (.map (some M)))(h15:a.tmps[15]? =some (.int .i64 x)):
 (Rg 14).wp Tryz.prog (fun e a' w' =>e= .normal/\w' =w/\a'.tmps[69]? =some (.bool (!decide (x∈ks)))/\Kp [3,4,5,6,9,10,11,12,14,15,55,56,57] a a') a w:=by
 dsimp only [Rg,Tryz.f42,Option.bind,zN,Option.getD,cond,Nat.beq,Option.orElse];have h11:=zF h11 hs (by decide);have h15:=zF h15 hs (by decide);have hl:=AA zY hm x;by_cases hx:x∈ks
 ·rw [Zx hx,pbx] at hl
  go_wp2
  exact y4 rfl (y4 rfl (y4 rfl (y4 rfl zT)))
 ·rw [Zj hx] at hl
  go_wp2
  exact y4 rfl (y4 rfl (y4 rfl (y4 rfl zT)))
theorem xFU{a:Act}{w:World}(hs:a.tmps.size=153){M:Nat}{bx:Int->Nat}{ks:List Int}{x:Int}(hm:PMap w M bx ks)(hx:x ∉ ks)(h11:a.tmps[11]? =some (.map (some M)))(h15:a.tmps[15]? =some (.int .i64 x)):
 (Rg 15).wp Tryz.prog (fun e a' w' =>e= .normal/\PMap w' M (fun y=>if y=x then w.heap.size+1 else bx y) (ks++ [x])/\((w.alloc (.cells #[.int .i64 x,.int .i64 0] 3)).alloc (.cells #[.slice (some ⟨w.heap.size,0,none⟩) 2 2,.slice none 0 0] 77)).grownBy w' (some M)/\
   w'.heap.size=((w.alloc (.cells #[.int .i64 x,.int .i64 0] 3)).alloc (.cells #[.slice (some ⟨w.heap.size,0,none⟩) 2 2,.slice none 0 0] 77)).heap.size/\Kp [3,4,5,6,9,10,11,12,14,15,55,56,57] a a') a w:=by
 dsimp only [Rg,Tryz.f42,Option.bind,zN,Option.getD,cond,Nat.beq,Option.orElse];have h11:=zF h11 hs (by decide);have h15:=zF h15 hs (by decide);have hlt:=hm.lt;obtain⟨w',hrun,r1,r2,r3⟩:=xLq zY (hm.kept ((zR (w:=w.alloc (.cells #[.int .i64 x,.int .i64 0] 3)) (o:= .cells #[.slice (some ⟨w.heap.size,0,none⟩) 2 2,.slice none 0 0] 77) (by rw [y9];omega)).trans (zR hlt)) (fun _ _=>rfl)) x hx (w.heap.size+1);rw [pbx] at hrun
 go_wp2
 exact y4 rfl (y4 rfl (y4 rfl (y4 rfl (y4 rfl (y4 rfl zT)))))
theorem xFV{a:Act}{w:World}(hs:a.tmps.size=153){kb kc:Nat}{ks:List Int}{x:Int}(hlen:ks.length<=1000)(hk:ORow w 3 kb kc 1 ks.length (ks.map (Value.int .i64)))(h12:a.tmps[12]? =some (.slice (some ⟨kb,0,none⟩) ks.length kc))(h15:a.tmps[15]? =some (.int .i64 x)):
 (Rg 16).wp Tryz.prog (fun e a' w' =>e= .normal/\∃kb' kc',ORow w' 3 kb' kc' 1 (ks++ [x]).length ((ks++ [x]).map (Value.int .i64))/\(w.alloc (.cells #[.int .i64 x] 3)).grownBy w' (some kb)/\(kb' =kb\/kb' =(w.alloc (.cells #[.int .i64 x] 3)).heap.size)/\a'.tmps[12]? =some (.slice (some ⟨kb',0,none⟩) (ks++ [x]).length kc')/\Kp [3,4,5,6,9,10,11,14,15,55,56,57] a a') a w:=by
 dsimp only [Rg,Tryz.f42,Option.bind,zN,Option.getD,cond,Nat.beq,Option.orElse];have h12:=zF h12 hs (by decide);have h15:=zF h15 hs (by decide);obtain⟨i0,hi,hz0,hz1,hz2⟩:=info_parts xIR;have hkl:kb<w.heap.size:=by
  obtain⟨_,cur,h,_⟩:=hk;exact(Zk.1 h).1
 have hnew:(w.alloc (.cells #[.int .i64 x] 3)).heap[w.heap.size]? =some (.cells #[.int .i64 x] 3 (0,0)):=by
  show(Array.push _ _)[_]? =_;rw [ZZ,Zx rfl]
 have hcell:(w.alloc (.cells #[.int .i64 x] 3)).cell? ⟨w.heap.size,0,none⟩=some (.int .i64 x):=by simp only [World.cell?,hnew];rfl
 go_wp2_with (at_builtin;go_loud (refine xPg (sz:=1) (bytes:=8) _ Tryz.underlying56 rfl _ _ rfl i0 hi hz0 hz1 hz2 rfl (by decide) (by decide) 0 (n:=ks.length) (xs:=ks.map (Value.int .i64)) (v:= .slice (some ⟨kb,0,none⟩) ks.length kc) (by simp [Act.eval,hs]) (hk.kept (zR hkl)).owns ⟨w.heap.size,0,none⟩ 1 1 [.int .i64 x] (by simp [Act.eval,hs]) rfl (fun j u hj=>by(match j,hj with |0,hj=>simp at hj;subst hj;exact hcell)) (by simp [Value.oneCell']) (by omega) (Z3 _) ?_;intro v' w' o1 o2 o3 o4;obtain⟨kb',kc',rfl,_,o5⟩:=ORow.of_owns o1 (by omega)))
 refine⟨kb',kc',by simpa using o5,o2,by simpa [Value.ownBlock] using o4,⟨rfl,rfl⟩,?_⟩;exact y4 rfl (y4 rfl (y4 rfl (y4 rfl (y4 rfl zT))))
theorem xFY{a:Act}{w:World}(hs:a.tmps.size=153){j:Nat}(hj:j<1000)(h57:a.tmps[57]? =some (.int .i64 j)):
 (Rg 19).wp Tryz.prog (fun e a' w' =>e= .normal/\w' =w/\a'.tmps[57]? =some (.int .i64 (j+1:Nat))/\Kp [3,4,5,6,9,10,11,12,55,56] a a') a w:=by
 dsimp only [Rg,Tryz.f42,Option.bind,zN,Option.getD,cond,Nat.beq,Option.orElse];have h57:=zF h57 hs (by decide)
 go_wp2
 exact y4 rfl (y4 rfl zT)
end Go.Ab
end
section
namespace Go.Ab
open Go.Proofs Go.RowKit Go.Shelf
set_option maxRecDepth 100000
theorem xFW{a:Act}{w:World}(hs:a.tmps.size=153){M rb cb k b off nn c:Nat}{bx:Int->Nat}{ks:List Int}{x s n:Int}(hm:PMap w M bx ks)(hx:x∈ks)(hk:k<nn)(h11:a.tmps[11]? =some (.map (some M)))(h15:a.tmps[15]? =some (.int .i64 x))(h10:a.tmps[10]? =some (.int .i64 k))(h14:a.tmps[14]? =some (.pointer (some ⟨rb,0,none⟩)))
 (hbox:w.cell? ⟨bx x,0,none⟩=some (.slice (some ⟨cb,0,none⟩) 2 2)) (hcel:w.cell? ⟨cb,1,none⟩=some (.int .i64 s)) (hrow:w.cell? ⟨rb,0,none⟩=some (.slice (some ⟨b,off,none⟩) nn c)) (hn:w.cell? ⟨b,off+k,none⟩=some (.int .i64 n)) (hfz:w.frozen? ⟨cb,1,none⟩=false):
 (Rg 17).wp Tryz.prog (fun e a' w' =>e= .normal/\w' =w.drew.setCell ⟨cb,1,none⟩ (.int .i64 (IntKind.i64.wrap (s+n)))/\Kp [3,4,5,6,9,10,11,12,14,15,55,56,57] a a') a w:=by
 dsimp only [Rg,Tryz.f42,Option.bind,zN,Option.getD,cond,Nat.beq,Option.orElse];have h11:=zF h11 hs (by decide);have h15:=zF h15 hs (by decide);have h10:=zF h10 hs (by decide);have h14:=zF h14 hs (by decide);have hl:=AA zY (w:=w.drew) hm x;rw [Zx hx,pbx] at hl;refine KZ (fun u=>u=w.drew) 21 Jg ?_;show Al _ _ _ _ _ _ 22 _ _ w.drew;have hT:w.drew=w.drew:=rfl;refine zD (v:=(.map (some M))) 0 rfl (by kernel_rfl) (fun _ _ _ h=>by cases h.1) rfl hT (fun w hw=> ?_) ?_
 ·obtain rfl:=hw
  any_goals go_simp
 refine zD (v:=(.int .i64 x)) 1 rfl (by kernel_rfl) (fun _ _ _ h=>by cases h.1) rfl hT (fun w hw=> ?_) ?_
 ·obtain rfl:=hw
  any_goals go_simp
 refine zD (v:=(.pointer (some ⟨bx x,0,none⟩))) 2 rfl (by kernel_rfl) (fun _ _ _ h=>by cases h.1) rfl hT (fun w hw=> ?_) ?_
 ·obtain rfl:=hw
  any_goals go_simp
 refine zD (v:=(.pointer (some ⟨bx x,0,none⟩))) 3 rfl (by kernel_rfl) (fun _ _ _ h=>by cases h.1) rfl hT (fun w hw=> ?_) ?_
 ·obtain rfl:=hw
  any_goals go_simp
 refine zD (v:=(.pointer (some ⟨bx x,0,none⟩))) 4 rfl (by kernel_rfl) (fun _ _ _ h=>by cases h.1) rfl hT (fun w hw=> ?_) ?_
 ·obtain rfl:=hw
  any_goals go_simp
 refine zD (v:=(.slice (some ⟨cb,0,none⟩) 2 2)) 5 rfl (by kernel_rfl) (fun _ _ _ h=>by cases h.1) rfl hT (fun w hw=> ?_) ?_
 ·obtain rfl:=hw
  any_goals go_simp
 refine zD (v:=(.map (some M))) 6 rfl (by kernel_rfl) (fun _ _ _ h=>by cases h.1) rfl hT (fun w hw=> ?_) ?_
 ·obtain rfl:=hw
  any_goals go_simp
 refine zD (v:=(.int .i64 x)) 7 rfl (by kernel_rfl) (fun _ _ _ h=>by cases h.1) rfl hT (fun w hw=> ?_) ?_
 ·obtain rfl:=hw
  any_goals go_simp
 refine zD (v:=(.pointer (some ⟨bx x,0,none⟩))) 8 rfl (by kernel_rfl) (fun _ _ _ h=>by cases h.1) rfl hT (fun w hw=> ?_) ?_
 ·obtain rfl:=hw
  any_goals go_simp
 refine zD (v:=(.pointer (some ⟨bx x,0,none⟩))) 9 rfl (by kernel_rfl) (fun _ _ _ h=>by cases h.1) rfl hT (fun w hw=> ?_) ?_
 ·obtain rfl:=hw
  any_goals go_simp
 refine zD (v:=(.pointer (some ⟨bx x,0,none⟩))) 10 rfl (by kernel_rfl) (fun _ _ _ h=>by cases h.1) rfl hT (fun w hw=> ?_) ?_
 ·obtain rfl:=hw
  any_goals go_simp
 refine zD (v:=(.slice (some ⟨cb,0,none⟩) 2 2)) 11 rfl (by kernel_rfl) (fun _ _ _ h=>by cases h.1) rfl hT (fun w hw=> ?_) ?_
 ·obtain rfl:=hw
  any_goals go_simp
 refine zD (v:=(.pointer (some ⟨cb,1,none⟩))) 12 rfl (by kernel_rfl) (fun _ _ _ h=>by cases h.1) rfl hT (fun w hw=> ?_) ?_
 ·obtain rfl:=hw
  any_goals go_simp
 refine zD (v:=(.int .i64 s)) 13 rfl (by kernel_rfl) (fun _ _ _ h=>by cases h.1) rfl hT (fun w hw=> ?_) ?_
 ·obtain rfl:=hw
  any_goals go_simp
 refine zD (v:=(.pointer (some ⟨rb,0,none⟩))) 14 rfl (by kernel_rfl) (fun _ _ _ h=>by cases h.1) rfl hT (fun w hw=> ?_) ?_
 ·obtain rfl:=hw
  any_goals go_simp
 refine zD (v:=(.slice (some ⟨b,off,none⟩) nn c)) 15 rfl (by kernel_rfl) (fun _ _ _ h=>by cases h.1) rfl hT (fun w hw=> ?_) ?_
 ·obtain rfl:=hw
  any_goals go_simp
 refine zD (v:=(.int .i64 k)) 16 rfl (by kernel_rfl) (fun _ _ _ h=>by cases h.1) rfl hT (fun w hw=> ?_) ?_
 ·obtain rfl:=hw
  any_goals go_simp
 refine zD (v:=(.pointer (some ⟨b,off+k,none⟩))) 17 rfl (by kernel_rfl) (fun _ _ _ h=>by cases h.1) rfl hT (fun w hw=> ?_) ?_
 ·obtain rfl:=hw
  any_goals go_simp
 refine zD (v:=(.int .i64 n)) 18 rfl (by kernel_rfl) (fun _ _ _ h=>by cases h.1) rfl hT (fun w hw=> ?_) ?_
 ·obtain rfl:=hw
  any_goals go_simp
 refine zD (v:=(.int .i64 (IntKind.i64.wrap (s+n)))) 19 rfl (by kernel_rfl) (fun _ _ _ h=>by cases h.1) rfl hT (fun w hw=> ?_) ?_
 ·obtain rfl:=hw
  any_goals go_simp
 refine zD (v:=(.pointer (some ⟨cb,1,none⟩))) 20 rfl (by kernel_rfl) (fun _ _ _ h=>by cases h.1) rfl hT (fun w hw=> ?_) ?_
 ·obtain rfl:=hw
  any_goals go_simp
 refine CA 21 rfl (by kernel_rfl) rfl fun K hK=> ?_
 go_simp
 refine hK _ _ ⟨.inl (by kernel_rfl),KX (by kernel_rfl) ⟨rfl,rfl,?_⟩ _⟩
 iterate 21 refine y4 rfl ?_
 exact zT
theorem xFX{a:Act}{w:World}(hs:a.tmps.size=153){M rb fn fc rn rc:Nat}{fp rp:Option Addr}{bx:Int->Nat}{ks:List Int}{x:Int}{os:List Org}(hm:PMap w M bx ks)(hx:x∈ks)(h11:a.tmps[11]? =some (.map (some M)))(h15:a.tmps[15]? =some (.int .i64 x))(h14:a.tmps[14]? =some (.pointer (some ⟨rb,0,none⟩)))
 (hbl:bx x<w.heap.size) (hrl:rb<w.heap.size) (hbox:w.cell? ⟨bx x,1,none⟩=some (.slice fp fn fc)) (hrow:w.cell? ⟨rb,1,none⟩=some (.slice rp rn rc)) (hfz:w.frozen? ⟨bx x,1,none⟩=false)
 (hU:Calls Tryz.prog 99 #[.slice fp fn fc,.slice rp rn rc] w.drew fun e W' =>∃br cap,e= .returned (.slice (some ⟨br,0,none⟩) os.length cap)/\Below w.heap.size w.drew W' /\w.heap.size<=br/\OrgRow W' br cap os):
 (Rg 18).wp Tryz.prog (fun e a' w' =>e= .normal/\(∃br cap W',Below w.heap.size w.drew W' /\w.heap.size<=br/\OrgRow W' br cap os/\w' =W'.setCell ⟨bx x,1,none⟩ (.slice (some ⟨br,0,none⟩) os.length cap))/\Kp [3,4,5,6,9,10,11,12,14,15,55,56,57] a a') a w:=by
 dsimp only [Rg,Tryz.f42,Option.bind,zN,Option.getD,cond,Nat.beq,Option.orElse];have h11:=zF h11 hs (by decide);have h15:=zF h15 hs (by decide);have h14:=zF h14 hs (by decide);refine KZ (fun u=>PMap u M bx ks/\u.cell? ⟨bx x,1,none⟩=some (.slice fp fn fc)/\u.cell? ⟨rb,1,none⟩=some (.slice rp rn rc)) 14 Jg ?_;show Al _ _ _ _ _ _ 15 _ _ w.drew;have hT:PMap w.drew M bx ks/\w.drew.cell? ⟨bx x,1,none⟩=some (.slice fp fn fc)/\w.drew.cell? ⟨rb,1,none⟩=some (.slice rp rn rc):=⟨hm,hbox,hrow⟩;refine zD (v:=(.map (some M))) 0 rfl (by kernel_rfl) (fun _ _ _ h=>by cases h.1) rfl hT (fun w hw=> ?_) ?_
 ·obtain⟨t1,t2,t3⟩:=hw;have hl:=AA zY t1 x;rw [Zx hx,pbx] at hl
  any_goals go_simp
 refine zD (v:=(.int .i64 x)) 1 rfl (by kernel_rfl) (fun _ _ _ h=>by cases h.1) rfl hT (fun w hw=> ?_) ?_
 ·obtain⟨t1,t2,t3⟩:=hw;have hl:=AA zY t1 x;rw [Zx hx,pbx] at hl
  any_goals go_simp
 refine zD (v:=(.pointer (some ⟨bx x,0,none⟩))) 2 rfl (by kernel_rfl) (fun _ _ _ h=>by cases h.1) rfl hT (fun w hw=> ?_) ?_
 ·obtain⟨t1,t2,t3⟩:=hw;have hl:=AA zY t1 x;rw [Zx hx,pbx] at hl
  any_goals go_simp
 refine zD (v:=(.map (some M))) 3 rfl (by kernel_rfl) (fun _ _ _ h=>by cases h.1) rfl hT (fun w hw=> ?_) ?_
 ·obtain⟨t1,t2,t3⟩:=hw;have hl:=AA zY t1 x;rw [Zx hx,pbx] at hl
  any_goals go_simp
 refine zD (v:=(.int .i64 x)) 4 rfl (by kernel_rfl) (fun _ _ _ h=>by cases h.1) rfl hT (fun w hw=> ?_) ?_
 ·obtain⟨t1,t2,t3⟩:=hw;have hl:=AA zY t1 x;rw [Zx hx,pbx] at hl
  any_goals go_simp
 refine zD (v:=(.pointer (some ⟨bx x,0,none⟩))) 5 rfl (by kernel_rfl) (fun _ _ _ h=>by cases h.1) rfl hT (fun w hw=> ?_) ?_
 ·obtain⟨t1,t2,t3⟩:=hw;have hl:=AA zY t1 x;rw [Zx hx,pbx] at hl
  any_goals go_simp
 refine zD (v:=(.pointer (some ⟨bx x,0,none⟩))) 6 rfl (by kernel_rfl) (fun _ _ _ h=>by cases h.1) rfl hT (fun w hw=> ?_) ?_
 ·obtain⟨t1,t2,t3⟩:=hw;have hl:=AA zY t1 x;rw [Zx hx,pbx] at hl
  any_goals go_simp
 refine zD (v:=(.pointer (some ⟨bx x,1,none⟩))) 7 rfl (by kernel_rfl) (fun _ _ _ h=>by cases h.1) rfl hT (fun w hw=> ?_) ?_
 ·obtain⟨t1,t2,t3⟩:=hw;have hl:=AA zY t1 x;rw [Zx hx,pbx] at hl
  any_goals go_simp
 refine zD (v:=(.slice fp fn fc)) 8 rfl (by kernel_rfl) (fun _ _ _ h=>by cases h.1) rfl hT (fun w hw=> ?_) ?_
 ·obtain⟨t1,t2,t3⟩:=hw;have hl:=AA zY t1 x;rw [Zx hx,pbx] at hl
  any_goals go_simp
 refine zD (v:=(.pointer (some ⟨rb,1,none⟩))) 9 rfl (by kernel_rfl) (fun _ _ _ h=>by cases h.1) rfl hT (fun w hw=> ?_) ?_
 ·obtain⟨t1,t2,t3⟩:=hw;have hl:=AA zY t1 x;rw [Zx hx,pbx] at hl
  any_goals go_simp
 refine zD (v:=(.slice rp rn rc)) 10 rfl (by kernel_rfl) (fun _ _ _ h=>by cases h.1) rfl hT (fun w hw=> ?_) ?_
 ·obtain⟨t1,t2,t3⟩:=hw;have hl:=AA zY t1 x;rw [Zx hx,pbx] at hl
  any_goals go_simp
 refine CA 11 rfl (by kernel_rfl) rfl fun K hK=> ?_
 go_simp
 go_at_call 99
 refine hU.mono ?_;rintro e W' ⟨br,cap,rfl,hb,hbr,hor⟩;have kb:∀b,b<w.heap.size->W'.heap[b]? =w.heap[b]? :=fun b hb' =>hb.block b hb';have c1:W'.cell? ⟨bx x,1,none⟩=some (.slice fp fn fc):=by rw [<-hbox];simp only [World.cell?,kb _ hbl]
 have c2:W'.cell? ⟨rb,1,none⟩=some (.slice rp rn rc):=by rw [<-hrow];simp only [World.cell?,kb _ hrl]
 have c3:W'.frozen? ⟨bx x,1,none⟩=false:=by rw [<-hfz];simp only [World.frozen?,kb _ hbl]
 have hT' :PMap W' M bx ks/\W'.cell? ⟨bx x,1,none⟩=some (.slice fp fn fc)/\W'.cell? ⟨rb,1,none⟩=some (.slice rp rn rc):=⟨hm.kept (kb _ hm.lt) (fun _ _=>rfl),c1,c2⟩;refine hK _ _ ⟨.inr hT',?_⟩;refine CA 12 rfl (by kernel_rfl) rfl fun K hK=> ?_
 go_simp
 refine hK _ _ ⟨.inr hT',?_⟩;refine CA 13 rfl (by kernel_rfl) rfl fun K hK=> ?_
 go_simp
 refine hK _ _ ⟨.inr hT',?_⟩;refine CA 14 rfl (by kernel_rfl) rfl fun K hK=> ?_
 go_simp
 refine hK _ _ ⟨.inl (by kernel_rfl),KX (by kernel_rfl) ⟨rfl,⟨br,cap,W',hb,hbr,hor,rfl⟩,?_⟩ _⟩
 iterate 14 refine y4 rfl ?_
 exact zT
end Go.Ab
end
section
namespace Go.Ab
open Go.Proofs Go.RowKit Go.Shelf
set_option maxRecDepth 100000
theorem xPd(a b c:Int)(w:World):Calls Tryz.prog 90 #[.int .i64 a,.int .i64 b,.int .i64 c] w fun e w' =>e= .returned (.bool (decide (b<=a)&&decide (a<=c)))/\w' =w:=by
 go_enter Tryz.func90,Tryz.ntmps90
 go_wp2
 ·rename_i h
  go_ret
  rw [Zz h,ZF];exact⟨rfl,rfl⟩
 ·rename_i h
  go_ret
  rw [Zy (by omega),ZQ];exact⟨rfl,rfl⟩
theorem xIY(n:Int)(w:World):Calls Tryz.prog 88 #[.int .i64 n] w fun e w' =>e= .returned (.bool (wP n))/\w' =w:=by
 have hs:∀(m:Int) (f:Ending->World->Prop),f (.returned (.bool (wP m))) w->Calls Tryz.prog 90 #[.int .i64 m,.int .i64 (-1000000000),.int .i64 1000000000] w f:=fun m f hf=>(xPd m _ _ w).mono fun e w' ⟨he,hw⟩=>by rw [he,hw];exact hf
 go_enter Tryz.func88,Tryz.ntmps88
 go_wp2_with (go_at_call 90;refine hs _ _ ?_)
 go_ret
 exact⟨rfl,rfl⟩
theorem Jp [Inhabited Lb]{fn:Func}{tmps:Array Value}{w:World}{t b:Nat}{u0 u1 u2 u3 u4 u5 u6:Value}{ty:TypeId}(hr:fn.results= #[.cell t 30])(ht:tmps.getD t undef= .pointer (some ⟨b,0,none⟩))(hb:w.heap[b]? =some (.cells #[u0,u1,u2,u3,u4,u5,u6] ty (0,0))):
 (results fn tmps).run Tryz.prog w= .ok (.agg #[u0,u1,u2,u3,u4,u5,u6]) w:=by
 refine p8 (rs:=[.cell t 30]) (vs:=[.agg #[u0,u1,u2,u3,u4,u5,u6]]) (by rw [hr]) rfl fun i x v hx hv=> ?_
 match i,hx,hv with
 |0,hx,hv=>
  cases hx;cases hv;have c0:w.cell? ⟨b,0,none⟩=some u0:=by simp only [World.cell?,hb];rfl
  have c1:w.cell? ⟨b,1,none⟩=some u1:=by simp only [World.cell?,hb];rfl
  have c2:w.cell? ⟨b,2,none⟩=some u2:=by simp only [World.cell?,hb];rfl
  have c3:w.cell? ⟨b,3,none⟩=some u3:=by simp only [World.cell?,hb];rfl
  have c4:w.cell? ⟨b,4,none⟩=some u4:=by simp only [World.cell?,hb];rfl
  have c5:w.cell? ⟨b,5,none⟩=some u5:=by simp only [World.cell?,hb];rfl
  have c6:w.cell? ⟨b,6,none⟩=some u6:=by simp only [World.cell?,hb];rfl
  unfold kG;simp only [ht]
  go_simp
theorem xEH [Inhabited Lb](w:World):Calls Tryz.prog 31 #[.int .i64 5] w fun e w' =>e= .returned (.agg #[.int .i64 6,.int .i64 5,.int .i64 0,.string ⟨#[]⟩,.slice none 0 0,.slice none 0 0,.slice none 0 0])/\Below w.heap.size w w' :=by
 go_enter Tryz.func31,Tryz.ntmps31
 go_wp2
 refine bodyPost_ret (Jp rfl rfl (by show(Array.push _ _)[_]? =_;rw [ZZ,Zx rfl])) rfl ?_;exact⟨rfl,(Below.refl _ _).alloc (Zg _) _⟩
theorem xFZ{a:Act}{w:World}(hs:a.tmps.size=153){R:World->Prop}{v:Value}(h12:a.tmps[12]? =some v)(hS:Calls Tryz.prog 100 #[v] w fun e w' =>e= .returned (.tuple #[])/\R w'):
 (Rg 20).wp Tryz.prog (fun e a' w' =>e= .normal/\R w' /\Kp [3,4,5,6,9,10,11,12] a a') a w:=by
 dsimp only [Rg,Tryz.f42,Option.bind,zN,Option.getD,cond,Nat.beq,Option.orElse];have h12:=zF h12 hs (by decide)
 go_wp2_with (go_at_call 100;refine hS.mono ?_;rintro e W' ⟨rfl,hR⟩)
 exact⟨hR,y4 rfl (y4 rfl zT)⟩
theorem xF0{a:Act}{w:World}(hs:a.tmps.size=153){B3 B4:Nat}{ta tb:ByteArray}(h3:a.tmps[3]? =some (.pointer (some ⟨B3,0,none⟩)))(h4:a.tmps[4]? =some (.pointer (some ⟨B4,0,none⟩)))(hc:w.cell? ⟨B3,3,none⟩=some (.string ta))(hd:w.cell? ⟨B4,3,none⟩=some (.string tb)):
 (Rg 21).wp Tryz.prog (fun e a' w' =>e= .normal/\w' =(w.alloc (.cells #[.string ta,.string tb] 9)).alloc (.cells #[.int .i64 5,.int .i64 0,.int .i64 0,.string ⟨#[]⟩,.slice none 0 0,.slice (some ⟨w.heap.size,0,none⟩) 2 2,.slice none 0 0] 30)/\a'.tmps[16]? =some (.pointer (some ⟨w.heap.size+1,0,none⟩))/\Kp [3,4,5,6,9,10,11,12] a a') a w:=by
 dsimp only [Rg,Tryz.f42,Option.bind,zN,Option.getD,cond,Nat.beq,Option.orElse];have h3:=zF h3 hs (by decide);have h4:=zF h4 hs (by decide)
 go_wp2
 iterate 7 refine y4 rfl ?_
 exact zT
theorem xF1{a:Act}{w:World}(hs:a.tmps.size=153){p:Option Addr}{n c:Nat}(h12:a.tmps[12]? =some (.slice p n c)):
 (Rg 22).wp Tryz.prog (fun e a' w' =>e= .normal/\w' =w/\a'.tmps[124]? =some (.slice p n c)/\a'.tmps[125]? =some (.int .i64 n)/\a'.tmps[126]? =some (.int .i64 (0:Nat))/\Kp [3,4,5,6,9,10,11,12,16] a a') a w:=by
 dsimp only [Rg,Tryz.f42,Option.bind,zN,Option.getD,cond,Nat.beq,Option.orElse];have h12:=zF h12 hs (by decide)
 go_wp2
 exact y4 rfl (y4 rfl (y4 rfl zT))
theorem xF2{a:Act}{w:World}(hs:a.tmps.size=153){j n:Nat}(h56:a.tmps[125]? =some (.int .i64 n))(h57:a.tmps[126]? =some (.int .i64 j)):(Rg 23).wp Tryz.prog (fun e a' w' =>e= .normal/\w' =w/\a'.tmps[127]? =some (.bool (decide (j<n)))/\Kp [3,4,5,6,9,10,11,12,16,124,125,126] a a') a w:=by
 dsimp only [Rg,Tryz.f42,Option.bind,zN,Option.getD,cond,Nat.beq,Option.orElse];have h56:=zF h56 hs (by decide);have h57:=zF h57 hs (by decide)
 go_wp2
 exact y4 rfl zT
theorem xF3{a:Act}{w:World}(hs:a.tmps.size=153){j n b c:Nat}(hj:j<n){x:Int}(h124:a.tmps[124]? =some (.slice (some ⟨b,0,none⟩) n c))(h126:a.tmps[126]? =some (.int .i64 j))(hc:w.cell? ⟨b,j,none⟩=some (.int .i64 x)):
 (Rg 24).wp Tryz.prog (fun e a' w' =>e= .normal/\w' =w/\a'.tmps[18]? =some (.int .i64 x)/\Kp [3,4,5,6,9,10,11,12,16,124,125,126] a a') a w:=by
 dsimp only [Rg,Tryz.f42,Option.bind,zN,Option.getD,cond,Nat.beq,Option.orElse];have h124:=zF h124 hs (by decide);have h126:=zF h126 hs (by decide);have hc0:w.cell? ⟨b,0+j,none⟩=some (.int .i64 x):=by rw [Zi];exact hc
 go_wp2
 exact y4 (v:= .int .i64 x) rfl (y4 rfl (y4 rfl zT))
theorem xF4{a:Act}{w:World}(hs:a.tmps.size=153){M cb:Nat}{bx:Int->Nat}{ks:List Int}{x s:Int}(hm:PMap w M bx ks)(hx:x∈ks)(h11:a.tmps[11]? =some (.map (some M)))(h18:a.tmps[18]? =some (.int .i64 x))
 (hbox:w.cell? ⟨bx x,0,none⟩=some (.slice (some ⟨cb,0,none⟩) 2 2)) (hcel:w.cell? ⟨cb,1,none⟩=some (.int .i64 s)):
 (Rg 25).wp Tryz.prog (fun e a' w' =>e= .normal/\w' =w/\a'.tmps[139]? =some (.bool (!wP s))/\Kp [3,4,5,6,9,10,11,12,16,18,124,125,126] a a') a w:=by
 dsimp only [Rg,Tryz.f42,Option.bind,zN,Option.getD,cond,Nat.beq,Option.orElse];have h11:=zF h11 hs (by decide);have h18:=zF h18 hs (by decide);have hl:=AA zY hm x;rw [Zx hx,pbx] at hl
 go_wp2_with (go_at_call 88;refine(xIY _ _).mono ?_;rintro e W' ⟨rfl,rfl⟩)
 iterate 10 refine y4 rfl ?_
 exact zT
theorem AQ{w:World}{b o:Nat}{cs cs' :Array Value}{ty:TypeId}{v:Value}(h:w.heap[b]? =some (.cells cs ty (0,0)))(e:cs.setIfInBounds o v=cs'):Chg w (w.setCell ⟨b,o,none⟩ v) b (.cells cs' ty (0,0)):=by
 subst e;refine⟨rfl,rfl,rfl,by simp [World.setCell],?_,fun k hk=>Below.heap_setCell w _ v k hk⟩;simp [World.setCell,Yr,h]
theorem Chg.trans{w w1 w2:World}{b:Nat}{o1 o2:Obj}(h:Chg w w1 b o1)(g:Chg w1 w2 b o2):Chg w w2 b o2:=
 ⟨g.os.trans h.os,g.tape.trans h.tape,g.output.trans h.output,g.size.trans h.size,g.at',fun k hk=>(g.other k hk).trans (h.other k hk)⟩
theorem xF5 [Inhabited Lb]{a:Act}{w:World}(hs:a.tmps.size=153){B6:Nat}{u0 u1 u2 u3 u4 u5 u6:Value}{ty:TypeId}(h6:a.tmps[6]? =some (.pointer (some ⟨B6,0,none⟩)))(hb:w.heap[B6]? =some (.cells #[u0,u1,u2,u3,u4,u5,u6] ty (0,0))):
 (Rg 26).wp Tryz.prog (fun e a' w' =>e= .normal/\(∃W,Below w.heap.size w W/\Chg W w' B6 (.cells #[.int .i64 6,.int .i64 5,.int .i64 0,.string ⟨#[]⟩,.slice none 0 0,.slice none 0 0,.slice none 0 0] ty (0,0)))/\Kp [3,4,5,6,9,10,11,12,16] a a') a w:=by
 dsimp only [Rg,Tryz.f42,Option.bind,zN,Option.getD,cond,Nat.beq,Option.orElse];have h6:=zF h6 hs (by decide);have hbl:B6<w.heap.size:=(Zk.1 hb).1
 go_wp2_with (go_at_call 31;refine(xEH _).mono ?_;rintro e W ⟨rfl,hW⟩;have hB:W.heap[B6]? =some (.cells #[u0,u1,u2,u3,u4,u5,u6] ty (0,0)):=(hW.block _ hbl).trans hb;have f:∀o,W.frozen? ⟨B6,o,none⟩=false:=(fun o=>by simp [World.frozen?,hB]);have c0:W.cell? ⟨B6,0,none⟩=some u0:=(by simp only [World.cell?,hB];rfl);have c1:W.cell? ⟨B6,1,none⟩=some u1:=(by simp only [World.cell?,hB];rfl);have c2:W.cell? ⟨B6,2,none⟩=some u2:=(by simp only [World.cell?,hB];rfl);have c3:W.cell? ⟨B6,3,none⟩=some u3:=(by simp only [World.cell?,hB];rfl);have c4:W.cell? ⟨B6,4,none⟩=some u4:=(by simp only [World.cell?,hB];rfl);have c5:W.cell? ⟨B6,5,none⟩=some u5:=(by simp only [World.cell?,hB];rfl);have c6:W.cell? ⟨B6,6,none⟩=some u6:=(by simp only [World.cell?,hB];rfl))
 refine⟨⟨W,hW,?_⟩,y4 rfl zT⟩;have g0:=(AQ (o:=0) (v:= .int .i64 6) hB (by simp):Chg _ _ B6 (.cells #[.int .i64 6,u1,u2,u3,u4,u5,u6] ty (0,0)));have g1:=g0.trans (AQ (o:=1) (v:= .int .i64 5) g0.at' (by simp):Chg _ _ B6 (.cells #[.int .i64 6,.int .i64 5,u2,u3,u4,u5,u6] ty (0,0)));have g2:=g1.trans (AQ (o:=2) (v:= .int .i64 0) g1.at' (by simp):Chg _ _ B6 (.cells #[.int .i64 6,.int .i64 5,.int .i64 0,u3,u4,u5,u6] ty (0,0)));have g3:=g2.trans (AQ (o:=3) (v:= .string ⟨#[]⟩) g2.at' (by simp):Chg _ _ B6 (.cells #[.int .i64 6,.int .i64 5,.int .i64 0,.string ⟨#[]⟩,u4,u5,u6] ty (0,0)));have g4:=g3.trans (AQ (o:=4) (v:= .slice none 0 0) g3.at' (by simp):Chg _ _ B6 (.cells #[.int .i64 6,.int .i64 5,.int .i64 0,.string ⟨#[]⟩,.slice none 0 0,u5,u6] ty (0,0)));have g5:=g4.trans (AQ (o:=5) (v:= .slice none 0 0) g4.at' (by simp):Chg _ _ B6 (.cells #[.int .i64 6,.int .i64 5,.int .i64 0,.string ⟨#[]⟩,.slice none 0 0,.slice none 0 0,u6] ty (0,0)));exact g5.trans (AQ (o:=6) (v:= .slice none 0 0) g5.at' (by simp):Chg _ _ B6 (.cells #[.int .i64 6,.int .i64 5,.int .i64 0,.string ⟨#[]⟩,.slice none 0 0,.slice none 0 0,.slice none 0 0] ty (0,0)))
theorem xF7{a:Act}{w:World}(hs:a.tmps.size=153){j:Nat}(hj:j<1000)(h57:a.tmps[126]? =some (.int .i64 j)):
 (Rg 28).wp Tryz.prog (fun e a' w' =>e= .normal/\w' =w/\a'.tmps[126]? =some (.int .i64 (j+1:Nat))/\Kp [3,4,5,6,9,10,11,12,16,124,125] a a') a w:=by
 dsimp only [Rg,Tryz.f42,Option.bind,zN,Option.getD,cond,Nat.beq,Option.orElse];have h57:=zF h57 hs (by decide)
 go_wp2
 exact y4 rfl (y4 rfl zT)
theorem xF8{a:Act}{w:World}(hs:a.tmps.size=153){B6 ob:Nat}{u0 u1 u2 u3 u4 u5 u6:Value}{v1 v2 v3:Int}{v4:ByteArray}{p1 p2 p3:Option Addr}{n1 n2 n3 d1 d2 d3:Nat}{ty ty' :TypeId}(h6:a.tmps[6]? =some (.pointer (some ⟨B6,0,none⟩)))(h16:a.tmps[16]? =some (.pointer (some ⟨ob,0,none⟩)))(hB:w.heap[B6]? =some (.cells #[u0,u1,u2,u3,u4,u5,u6] ty (0,0)))
 (hO:w.heap[ob]? =some (.cells #[.int .i64 v1,.int .i64 v2,.int .i64 v3,.string v4,.slice p1 n1 d1,.slice p2 n2 d2,.slice p3 n3 d3] ty' (0,0))):
 (Rg 29).wp Tryz.prog (fun e a' w' =>e= .normal/\Chg w w' B6 (.cells #[.int .i64 v1,.int .i64 v2,.int .i64 v3,.string v4,.slice p1 n1 d1,.slice p2 n2 d2,.slice p3 n3 d3] ty (0,0))/\Kp [3,4,5,6,9,10,11,12,16] a a') a w:=by
 dsimp only [Rg,Tryz.f42,Option.bind,zN,Option.getD,cond,Nat.beq,Option.orElse];have h6:=zF h6 hs (by decide);have h16:=zF h16 hs (by decide);have f:∀o,w.frozen? ⟨B6,o,none⟩=false:=fun o=>by simp [World.frozen?,hB]
 have c0:w.cell? ⟨B6,0,none⟩=some u0:=by simp only [World.cell?,hB];rfl
 have c1:w.cell? ⟨B6,1,none⟩=some u1:=by simp only [World.cell?,hB];rfl
 have c2:w.cell? ⟨B6,2,none⟩=some u2:=by simp only [World.cell?,hB];rfl
 have c3:w.cell? ⟨B6,3,none⟩=some u3:=by simp only [World.cell?,hB];rfl
 have c4:w.cell? ⟨B6,4,none⟩=some u4:=by simp only [World.cell?,hB];rfl
 have c5:w.cell? ⟨B6,5,none⟩=some u5:=by simp only [World.cell?,hB];rfl
 have c6:w.cell? ⟨B6,6,none⟩=some u6:=by simp only [World.cell?,hB];rfl
 have e0:w.cell? ⟨ob,0,none⟩=some (.int .i64 v1):=by simp only [World.cell?,hO];rfl
 have e1:w.cell? ⟨ob,1,none⟩=some (.int .i64 v2):=by simp only [World.cell?,hO];rfl
 have e2:w.cell? ⟨ob,2,none⟩=some (.int .i64 v3):=by simp only [World.cell?,hO];rfl
 have e3:w.cell? ⟨ob,3,none⟩=some (.string v4):=by simp only [World.cell?,hO];rfl
 have e4:w.cell? ⟨ob,4,none⟩=some (.slice p1 n1 d1):=by simp only [World.cell?,hO];rfl
 have e5:w.cell? ⟨ob,5,none⟩=some (.slice p2 n2 d2):=by simp only [World.cell?,hO];rfl
 have e6:w.cell? ⟨ob,6,none⟩=some (.slice p3 n3 d3):=by simp only [World.cell?,hO];rfl
 go_wp2
 refine⟨?_,y4 rfl zT⟩;have g0:=(AQ (o:=0) (v:= .int .i64 v1) hB (by simp):Chg _ _ B6 (.cells #[.int .i64 v1,u1,u2,u3,u4,u5,u6] ty (0,0)));have g1:=g0.trans (AQ (o:=1) (v:= .int .i64 v2) g0.at' (by simp):Chg _ _ B6 (.cells #[.int .i64 v1,.int .i64 v2,u2,u3,u4,u5,u6] ty (0,0)));have g2:=g1.trans (AQ (o:=2) (v:= .int .i64 v3) g1.at' (by simp):Chg _ _ B6 (.cells #[.int .i64 v1,.int .i64 v2,.int .i64 v3,u3,u4,u5,u6] ty (0,0)));have g3:=g2.trans (AQ (o:=3) (v:= .string v4) g2.at' (by simp):Chg _ _ B6 (.cells #[.int .i64 v1,.int .i64 v2,.int .i64 v3,.string v4,u4,u5,u6] ty (0,0)));have g4:=g3.trans (AQ (o:=4) (v:= .slice p1 n1 d1) g3.at' (by simp):Chg _ _ B6 (.cells #[.int .i64 v1,.int .i64 v2,.int .i64 v3,.string v4,.slice p1 n1 d1,u5,u6] ty (0,0)));have g5:=g4.trans (AQ (o:=5) (v:= .slice p2 n2 d2) g4.at' (by simp):Chg _ _ B6 (.cells #[.int .i64 v1,.int .i64 v2,.int .i64 v3,.string v4,.slice p1 n1 d1,.slice p2 n2 d2,u6] ty (0,0)));exact g5.trans (AQ (o:=6) (v:= .slice p3 n3 d3) g5.at' (by simp):Chg _ _ B6 (.cells #[.int .i64 v1,.int .i64 v2,.int .i64 v3,.string v4,.slice p1 n1 d1,.slice p2 n2 d2,.slice p3 n3 d3] ty (0,0)))
end Go.Ab
end
section
namespace Go.Ab
open Go.Proofs Go.RowKit Go.Shelf
set_option maxRecDepth 100000
theorem xF6{a:Act}{w:World}(hs:a.tmps.size=153){M ob rn rc n1 d1 n2 d2 base:Nat}{rp p1 p2:Option Addr}{bx:Int->Nat}{ks:List Int}{x:Int}{xs:List Value}(hm:PMap w M bx ks)(hx:x∈ks)(h11:a.tmps[11]? =some (.map (some M)))(h18:a.tmps[18]? =some (.int .i64 x))(h16:a.tmps[16]? =some (.pointer (some ⟨ob,0,none⟩)))
 (hlen:rn<=1000) (hbl:bx x<base) (hol:ob<base) (hMl:M<base) (hbase:base<=w.heap.size) (hrow:w.cell? ⟨ob,6,none⟩=some (.slice rp rn rc)) (hfz:w.frozen? ⟨ob,6,none⟩=false) (hb0:w.cell? ⟨bx x,0,none⟩=some (.slice p1 n1 d1)) (hb1:w.cell? ⟨bx x,1,none⟩=some (.slice p2 n2 d2))
 (hown:w.ownsRow base 77 2 (.slice rp rn rc) rn xs):
 (Rg 27).wp Tryz.prog (fun e a' w' =>e= .normal/\(∃v' W',W'.ownsRow base 77 2 v' (rn+1) (xs++ [.slice p1 n1 d1,.slice p2 n2 d2])/\Below base w W' /\w' =W'.setCell ⟨ob,6,none⟩ v')/\Kp [3,4,5,6,9,10,11,12,16,124,125,126] a a') a w:=by
 dsimp only [Rg,Tryz.f42,Option.bind,zN,Option.getD,cond,Nat.beq,Option.orElse];have h11:=zF h11 hs (by decide);have h18:=zF h18 hs (by decide);have h16:=zF h16 hs (by decide);obtain⟨i0,hi,hz0,hz1,hz2⟩:=info_parts xIS
 have keep:∀u:World,(∀b,b<base->u.heap[b]? =w.heap[b]?)->PMap u M bx ks/\u.cell? ⟨ob,6,none⟩=some (.slice rp rn rc)/\u.cell? ⟨bx x,0,none⟩=some (.slice p1 n1 d1)/\u.cell? ⟨bx x,1,none⟩=some (.slice p2 n2 d2):=fun u hu=>
  ⟨hm.kept (hu _ hMl) (fun _ _=>rfl),by rw [<-hrow];simp only [World.cell?,hu _ hol],by rw [<-hb0];simp only [World.cell?,hu _ hbl],by rw [<-hb1];simp only [World.cell?,hu _ hbl]⟩
 refine KZ (fun u=>PMap u M bx ks/\u.cell? ⟨ob,6,none⟩=some (.slice rp rn rc)/\u.cell? ⟨bx x,0,none⟩=some (.slice p1 n1 d1)/\u.cell? ⟨bx x,1,none⟩=some (.slice p2 n2 d2)) 10 Jg ?_;show Al _ _ _ _ _ _ 11 _ _ w.drew;have hT:=keep w.drew fun _ _=>rfl;refine zD (v:=(.pointer (some ⟨ob,6,none⟩))) 0 rfl (by kernel_rfl) (fun _ _ _ h=>by cases h.1) rfl hT (fun w hw=> ?_) ?_
 ·obtain⟨t1,t2,t3,t4⟩:=hw;have hl:=AA zY t1 x;rw [Zx hx,pbx] at hl
  any_goals go_simp
 refine zD (v:=(.slice rp rn rc)) 1 rfl (by kernel_rfl) (fun _ _ _ h=>by cases h.1) rfl hT (fun w hw=> ?_) ?_
 ·obtain⟨t1,t2,t3,t4⟩:=hw;have hl:=AA zY t1 x;rw [Zx hx,pbx] at hl
  any_goals go_simp
 refine zD (v:=(.map (some M))) 2 rfl (by kernel_rfl) (fun _ _ _ h=>by cases h.1) rfl hT (fun w hw=> ?_) ?_
 ·obtain⟨t1,t2,t3,t4⟩:=hw;have hl:=AA zY t1 x;rw [Zx hx,pbx] at hl
  any_goals go_simp
 refine zD (v:=(.int .i64 x)) 3 rfl (by kernel_rfl) (fun _ _ _ h=>by cases h.1) rfl hT (fun w hw=> ?_) ?_
 ·obtain⟨t1,t2,t3,t4⟩:=hw;have hl:=AA zY t1 x;rw [Zx hx,pbx] at hl
  any_goals go_simp
 refine zD (v:=(.pointer (some ⟨bx x,0,none⟩))) 4 rfl (by kernel_rfl) (fun _ _ _ h=>by cases h.1) rfl hT (fun w hw=> ?_) ?_
 ·obtain⟨t1,t2,t3,t4⟩:=hw;have hl:=AA zY t1 x;rw [Zx hx,pbx] at hl
  any_goals go_simp
 refine zD (v:=(.pointer (some ⟨bx x,0,none⟩))) 5 rfl (by kernel_rfl) (fun _ _ _ h=>by cases h.1) rfl hT (fun w hw=> ?_) ?_
 ·obtain⟨t1,t2,t3,t4⟩:=hw;have hl:=AA zY t1 x;rw [Zx hx,pbx] at hl
  any_goals go_simp
 refine zD (v:=(.agg #[.slice p1 n1 d1,.slice p2 n2 d2])) 6 rfl (by kernel_rfl) (fun _ _ _ h=>by cases h.1) rfl hT (fun w hw=> ?_) ?_
 ·obtain⟨t1,t2,t3,t4⟩:=hw;have hl:=AA zY t1 x;rw [Zx hx,pbx] at hl
  any_goals go_simp
 refine CA 7 rfl (by kernel_rfl) rfl fun K hK=> ?_
 go_simp
 have al:∀b,b<base->(w.drew.alloc (.cells #[.slice p1 n1 d1,.slice p2 n2 d2] 77)).heap[b]? =w.heap[b]? :=fun b hb=>zR (w:=w.drew) (by show b<w.heap.size;omega);have hnew:(w.drew.alloc (.cells #[.slice p1 n1 d1,.slice p2 n2 d2] 77)).heap[w.heap.size]? =some (.cells #[.slice p1 n1 d1,.slice p2 n2 d2] 77 (0,0)):=by
  show(Array.push _ _)[_]? =_;rw [ZZ,Zx (show w.heap.size=w.drew.heap.size from rfl)]
 have n0:(w.drew.alloc (.cells #[.slice p1 n1 d1,.slice p2 n2 d2] 77)).cell? ⟨w.heap.size,0,none⟩=some (.slice p1 n1 d1):=by simp only [World.cell?,hnew];rfl
 have n1' :(w.drew.alloc (.cells #[.slice p1 n1 d1,.slice p2 n2 d2] 77)).cell? ⟨w.heap.size,1,none⟩=some (.slice p2 n2 d2):=by simp only [World.cell?,hnew];rfl
 refine hK _ _ ⟨.inr (keep _ al),?_⟩;refine CA 8 rfl (by kernel_rfl) rfl fun K hK=> ?_;refine xAZ (sz:=2) (bytes:=48) _ Tryz.underlying28 _ _ rfl i0 hi hz0 hz1 hz2 rfl (by decide) (by decide) base (v:= .slice rp rn rc) (n:=rn) (xs:=xs) (by simp [Act.eval,Act.put,hs]) (hown.alloc _) ⟨w.heap.size,0,none⟩ 1 1 [.slice p1 n1 d1,.slice p2 n2 d2] (by simp [Act.eval,Act.put,hs]) rfl (fun j u hj=> ?_) (by simp [Value.oneCell']) (by omega) (by show base<=(Array.push w.heap _).size;rw [YC];omega) ?_
 ·match j,hj with
  |0,hj=>simp at hj;subst hj;exact n0
  |1,hj=>simp at hj;subst hj;exact n1'
  |j+2,hj=>simp at hj
 intro v' W' o1 o2 o3 o4;have ob1:∀g,(Value.slice rp rn rc).ownBlock=some g->base<=g:=by
  intro g hg;rcases hown.2 with ⟨e,_⟩|⟨g',cap,cur,e,h2,_⟩
  ·rw [e] at hg;cases hg
  ·rw [e] at hg;cases hg;exact h2
 have kb:∀b,b<base->W'.heap[b]? =w.heap[b]? :=fun b hb=>(o2.block b (by show b<(Array.push w.heap _).size;rw [YC];omega) (fun e=>by have:=ob1 b e.symm;omega)).trans (al b hb);have hT' :=keep W' kb;have hz:w.heap.size+1<=W'.heap.size:=by have:=o2.size;rw [show World.heap _=Array.push w.heap _ from rfl,YC] at this;exact this
 have hbw:Below base w W' :=⟨o2.os,o2.tape,o2.output,by omega,kb⟩;have cc:=hT'.2.1;have cf:W'.frozen? ⟨ob,6,none⟩=false:=by rw [<-hfz];simp only [World.frozen?,kb _ hol]
 have hv:∃q1 q2 q3,v' = .slice q1 q2 q3:=by
  obtain⟨g,cap,rfl,_⟩:=ORow.of_owns o1 (by omega);exact⟨_,_,_,rfl⟩
 obtain⟨q1,q2,q3,rfl⟩:=hv;refine hK _ _ ⟨.inr hT',?_⟩;refine CA 9 rfl (by kernel_rfl) rfl fun K hK=> ?_
 go_simp
 refine hK _ _ ⟨.inr hT',?_⟩;refine CA 10 rfl (by kernel_rfl) rfl fun K hK=> ?_
 go_simp
 refine hK _ _ ⟨.inl (by kernel_rfl),KX (by kernel_rfl) ⟨rfl,⟨_,W',o1,hbw,rfl⟩,?_⟩ _⟩
 iterate 10 refine y4 rfl ?_
 exact zT
end Go.Ab
end
section
namespace Go.Ab
open Go.Proofs Go.RowKit Go.Shelf
set_option maxRecDepth 100000
noncomputable def cH1:Code:= .seq (Rg 17) (Rg 18)
noncomputable def cB1:Code:= .seq (Rg 12) (.seq (Rg 13) (.seq (.seq (Rg 14) (.cond (.tmp 69) (.seq (Rg 15) (Rg 16)) .skip)) cH1))
noncomputable def cL1:Code:= .block 0 (.loop (.seq (Rg 11) (.seq (.cond (.tmp 58) .skip (.exit 0)) (.seq (.block 1 cB1) (Rg 19)))))
structure F1 (a:Act) (B3 B4 B6 i k M:Nat) (kv rv:Value) (n j:Nat):Prop where
 d:a.defers=[]
 s:a.tmps.size=153
 s3:a.tmps[3]? =some (.pointer (some ⟨B3,0,none⟩))
 s4:a.tmps[4]? =some (.pointer (some ⟨B4,0,none⟩))
 s6:a.tmps[6]? =some (.pointer (some ⟨B6,0,none⟩))
 s9:a.tmps[9]? =some (.int .i64 i)
 s10:a.tmps[10]? =some (.int .i64 k)
 s11:a.tmps[11]? =some (.map (some M))
 s12:a.tmps[12]? =some kv
 s55:a.tmps[55]? =some rv
 s56:a.tmps[56]? =some (.int .i64 n)
 s57:a.tmps[57]? =some (.int .i64 j)
def J1(w0:World)(rs:List Rowd)(B3 B4 B6 i k:Nat)(rv:Value)(m j:Nat)(a:Act)(w:World):Prop:=
 ∃blk fc kc,F1 a B3 B4 B6 i k (blk .map) (.slice (some ⟨blk .keys,0,none⟩) (uK i (rs.take m)).length kc) rv rs.length j/\
  GRel w0 w w0.heap.size 77 3 blk (uK i (rs.take m)) (uK i (rs.take m)) (oN i k (rs.take m)) (uJ i (rs.take m)) fc none kc
def FG [Inhabited Lb]:Prop:=∀(xs ys:List Org) (u v:Value) (w:World),RowIn w u xs->RowIn w v ys->xs.length+ys.length<=1000000000000->(∀x∈jQ,x.1<w.heap.size/\w.heap[x.1]? =some x.2)->
 Calls Tryz.prog 99 #[u,v] w fun e w' =>∃br cap,e= .returned (.slice (some ⟨br,0,none⟩) (qV xs ys).length cap)/\Below w.heap.size w w' /\w.heap.size<=br/\OrgRow w' br cap (qV xs ys)
structure RowOk (i k:Nat) (r:Rowd):Prop where
 i:i<r.cells.length
 k:k<r.cells.length
 f:r.frm.length<=100000000
theorem M8{i:Nat}{r:Rowd}(h:i<r.cells.length):r.cells[i]=gO i r:=by
 unfold gO;rw [ZW,Zw h]
 rfl
section
variable [Inhabited Lb] {w0:World} {rs:List Rowd} {B3 B4 B6 i k:Nat} {rv:Value}
theorem Mc(hU:FG)(hlaid:∀x∈jQ,x.1<w0.heap.size/\w0.heap[x.1]? =some x.2)(hok:∀r∈rs,RowOk i k r)(hn:rs.length<=1000){j:Nat}(hj:j<rs.length)
 {a:Act} {w:World} {blk:Tg->Nat} {fc:Int->Nat} {nx:Option Int} {kc rb:Nat} {cb coff cc fn fcap:Nat} {fp:Option Addr}
 (F:F1 a B3 B4 B6 i k (blk .map) (.slice (some ⟨blk .keys,0,none⟩) (uK i (rs.take (j+1))).length kc) rv rs.length j)
 (h14:a.tmps[14]? =some (.pointer (some ⟨rb,0,none⟩))) (h15:a.tmps[15]? =some (.int .i64 (gO i rs[j])))
 (hrb:w.heap[rb]? =some (.cells #[.slice (some ⟨cb,coff,none⟩) rs[j].cells.length cc,.slice fp fn fcap] 77 (0,0)))
 (hcl:cb<w0.heap.size) (hcells:∀m (hm:m<rs[j].cells.length),w0.cell? ⟨cb,coff+m,none⟩=some (.int .i64 rs[j].cells[m])) (hfr:RowIn w0 (.slice fp fn fcap) rs[j].frm)
 (hx:gO i rs[j]∈uK i (rs.take (j+1))) (hnx:nx=none\/nx=some (gO i rs[j]))
 (hne:∀t,zV (uK i (rs.take (j+1))) nx t->blk t≠rb)
 (G:GRel w0 w w0.heap.size 77 3 blk (uK i (rs.take (j+1))) (uK i (rs.take (j+1))) (oN i k (rs.take j)) (uJ i (rs.take j)) fc nx kc):
 cH1.wp Tryz.prog (fun e a' w' =>e= .normal/\J1 w0 rs B3 B4 B6 i k rv (j+1) j a' w') a w:=by
 have hr:=hok _ (ZY hj);generalize hxk:gO i rs[j]=x at h15 hx hnx;have bx:=G.box x hx;have cl:=G.cel x hx;have rbx:=G.rng (.box x) hx;have rcl:=G.rng (.cel x) hx;have rmp:=G.rng .map trivial;have nbc:blk (.box x)≠blk (.cel x):=fun e=>by have:=G.inj (.box x) (.cel x) hx hx e;cases this
 have nmc:blk .map≠blk (.cel x):=fun e=>by have:=G.inj .map (.cel x) trivial hx e;cases this
 have old:∀b,b<w0.heap.size->w.heap[b]? =w0.heap[b]? :=G.below.block;have hrbl:rb<w.heap.size:=(Zk.1 hrb).1;obtain⟨vp,vn,vc,hfv⟩:∃vp vn vc,frV blk fc (uJ i (rs.take j)) nx x= .slice vp vn vc:=by
  unfold frV;split
  ·exact⟨_,_,_,rfl⟩
  ·exact⟨_,_,_,rfl⟩
 rw [hfv] at bx;refine wp_seq (wp_mono (xFW (k:=k) F.s G.map hx hr.k F.s11 h15 F.s10 h14 (by simp only [World.cell?,bx];rfl) (by simp only [World.cell?,cl];rfl) (by simp only [World.cell?,hrb];rfl) ((Cj (old _ hcl)).trans (hcells k hr.k)) (by simp [World.frozen?,cl])) ?_);rintro e a1 w1 ⟨rfl,hw1,K1⟩;rw [M8 hr.k] at hw1;obtain⟨s',hs'⟩:∃s',IntKind.i64.wrap (oN i k (rs.take j) x+gO k rs[j])=s' :=⟨_,rfl⟩;rw [hs'] at hw1;have c1:Chg w w1 (blk (.cel x)) (.cells #[.int .i64 x,.int .i64 s'] 3 (0,0)):=by
  have:=AQ (w:=w.drew) (o:=1) (v:= .int .i64 s') (cs' := #[.int .i64 x,.int .i64 s']) (b:=blk (.cel x)) cl (by simp);rw [hw1];exact⟨this.os,this.tape,this.output,this.size,this.at',this.other⟩
 clear hw1;have z1:=c1.size;have bx1:=(c1.other _ nbc).trans bx;have rb1:=(c1.other rb (fun e=>hne (.cel x) hx e.symm)).trans hrb;have hU1:Calls Tryz.prog 99 #[.slice vp vn vc,.slice fp fn fcap] w1.drew fun e W' =>∃br cap,e= .returned (.slice (some ⟨br,0,none⟩) (qV (uJ i (rs.take j) x) rs[j].frm).length cap)/\Below w1.heap.size w1.drew W' /\w1.heap.size<=br/\OrgRow W' br cap (qV (uJ i (rs.take j) x) rs[j].frm):=by
  have oldW:∀b,b<w0.heap.size->w1.heap[b]? =w0.heap[b]? :=fun b hb=>(c1.other b (by omega)).trans (old b hb);refine hU _ _ _ _ w1.drew ?_ (hfr.kept (w' :=w1.drew) (by show w0.heap.size<=w1.heap.size;omega) oldW) ?_ fun y hy=>⟨?_,(oldW _ (hlaid y hy).1).trans (hlaid y hy).2⟩
  ·by_cases hq:nx=some x
   ·rw [frV,Zx hq] at hfv;rw [<-hfv,G.nil x hq];exact⟨none,0,rfl,.inl rfl⟩
   ·rw [frV,Zj hq] at hfv;rw [<-hfv];refine xKO (w:=w1.drew) ((G.frm x hx hq).kept (c1.other _ fun e=> ?_));have:=G.inj (.frm x) (.cel x) ⟨hx,hq⟩ hx e;cases this
  ·have h1:=xFM (i:=i) (L:=100000000) (x:=x) (rs.take j) fun r hr=>(hok r (Yi hr)).f;have h2:(rs.take j).length*100000000<=1000*100000000:=YK (by rw [ZR];omega) (Zg _);have:=hr.f;omega
  ·have:=(hlaid y hy).1;show y.1<w1.heap.size;omega
 have e1:a1.tmps.size=153:=K1.2.1.trans F.s;refine wp_mono (xFX e1 (G.map.kept (c1.other _ nmc) (fun _ _=>rfl)) hx (K1.get F.s11 rfl) (K1.get h15 rfl) (K1.get h14 rfl) (by omega) (by omega) (by simp only [World.cell?,bx1];rfl) (by simp only [World.cell?,rb1];rfl) (by simp [World.frozen?,bx1]) hU1) ?_;rintro e a2 w2 ⟨rfl,⟨br,cap,W',g1,g2,g3,g4⟩,K2⟩;have hbW:Below w1.heap.size w1 W' :=⟨g1.os,g1.tape,g1.output,g1.size,g1.block⟩;have c2:Chg W' w2 (blk (.box x)) (.cells #[.slice (some ⟨blk (.cel x),0,none⟩) 2 2,.slice (some ⟨br,0,none⟩) (qV (uJ i (rs.take j) x) rs[j].frm).length cap] 77 (0,0)):=by
  rw [g4];exact AQ ((hbW.block _ (by omega)).trans bx1) (by simp)
 have T:=G.turn hx hnx c1 hbW g2 g3 c2;have K:=K1.trans K2 (l2:=[3,4,6,9,10,11,12,55,56,57]) rfl;refine⟨rfl,zI blk (.frm x) br,AP fc x cap,kc,?_,?_⟩
 ·have e2:zI blk (.frm x) br .map=blk .map:=Zj (by simp);have e3:zI blk (.frm x) br .keys=blk .keys:=Zj (by simp);rw [e2,e3];exact⟨K.1.trans F.d,K.2.1.trans F.s,K.get F.s3 rfl,K.get F.s4 rfl,K.get F.s6 rfl,K.get F.s9 rfl,K.get F.s10 rfl,K.get F.s11 rfl,K.get F.s12 rfl,K.get F.s55 rfl,K.get F.s56 rfl,K.get F.s57 rfl⟩
 ·have q1:AP (oN i k (rs.take j)) x s' =oN i k (rs.take (j+1)):=by rw [GE hj,Ma,hxk,hs']
  have q2:AP (uJ i (rs.take j)) x (qV (uJ i (rs.take j) x) rs[j].frm)=uJ i (rs.take (j+1)):=by rw [GE hj,M7,hxk]
  rw [q1,q2] at T;exact T
theorem xGg(hU:FG)(hlaid:∀x∈jQ,x.1<w0.heap.size/\w0.heap[x.1]? =some x.2)(hrs:FD w0 rv rs)(hok:∀r∈rs,RowOk i k r)(hn:rs.length<=1000){j:Nat}(hj:j<rs.length){a:Act}{w:World}(hJ:J1 w0 rs B3 B4 B6 i k rv j j a w):
 cB1.wp Tryz.prog (fun e a' w' =>e= .normal/\J1 w0 rs B3 B4 B6 i k rv (j+1) j a' w') a w:=by
 obtain⟨blk,fc,kc,F,G⟩:=hJ;obtain⟨p,c,rfl,hrows⟩:=hrs;obtain⟨b,off,rfl,hbl,hcell⟩:=hrows.resolve_left (fun e=>by rw [e] at hj;simp at hj);obtain⟨cv,fv,e1,e2,hi1,hi2⟩:=hcell j hj;have hr:=hok _ (ZY hj);obtain⟨cp,cc,rfl,hints⟩:=hi1;obtain⟨cb,coff,rfl,hcbl,hcells⟩:=hints.resolve_left (fun e=>by have:=hr.i;rw [e] at this;simp at this);obtain⟨fp,fcap,rfl,_⟩:=id hi2;have old:∀b,b<w0.heap.size->w.heap[b]? =w0.heap[b]? :=G.below.block;have z0:=G.below.size;refine wp_seq (wp_mono (xFR F.s hj F.s55 F.s57 ((Cj (old _ hbl)).trans e1) ((Cj (old _ hbl)).trans e2)) ?_);rintro e a1 w1 ⟨rfl,hw1,h14,K1⟩;have hb1:Below w.heap.size w w1:=by rw [hw1];exact(Below.refl _ _).alloc (Zg _) _
 have z1:w1.heap.size=w.heap.size+1:=by rw [hw1,y9]
 have hrb:w1.heap[w.heap.size]? =some (.cells #[.slice (some ⟨cb,coff,none⟩) rs[j].cells.length cc,.slice fp rs[j].frm.length fcap] 77 (0,0)):=by
  rw [hw1];show(Array.push _ _)[_]? =_;rw [ZZ,Zx rfl]
 clear hw1;have G1:=G.grow hb1;have old1:∀b,b<w0.heap.size->w1.heap[b]? =w0.heap[b]? :=G1.below.block;have s1:a1.tmps.size=153:=K1.2.1.trans F.s;refine wp_seq (wp_mono (xFS s1 hr.i h14 (K1.get F.s9 rfl) (by simp only [World.cell?,hrb];rfl) ((Cj (old1 _ hcbl)).trans (hcells i hr.i))) ?_);rintro e a2 w2 ⟨rfl,rfl,h15,K2⟩;rw [M8 hr.i] at h15;have K12:=K1.trans K2 (l2:=[3,4,6,9,10,11,12,55,56,57]) rfl;have s2:a2.tmps.size=153:=K2.2.1.trans s1;refine wp_seq (wp_seq (wp_mono (xFT s2 G1.map (K12.get F.s11 rfl) h15) ?_));rintro e a3 w3 ⟨rfl,rfl,h69,K3⟩;have K13:=K12.trans K3 (l2:=[3,4,6,9,10,11,12,55,56,57]) rfl;have h14' :=K3.get (K2.get h14 rfl) rfl;have h15' :=K3.get h15 rfl;have s3:a3.tmps.size=153:=K3.2.1.trans s2;have hc69:a3.eval (.tmp 69)= .bool (!decide (gO i rs[j]∈uK i (rs.take j))):=B2 h69;have rng:=G.rng;by_cases hx:gO i rs[j]∈uK i (rs.take j)
 ·have ek:uK i (rs.take (j+1))=uK i (rs.take j):=by rw [GE hj,Ii,Zx hx]
  rw [Zz hx] at hc69;refine wp_cond_false hc69 (wp_skip ?_);refine Mc (nx:=none) hU hlaid hok hn hj (rb:=w.heap.size) (blk:=blk) (fc:=fc) (kc:=kc) ⟨K13.1.trans F.d,s3,K13.get F.s3 rfl,K13.get F.s4 rfl,K13.get F.s6 rfl,K13.get F.s9 rfl,K13.get F.s10 rfl,K13.get F.s11 rfl,by rw [ek];exact K13.get F.s12 rfl,K13.get F.s55 rfl,K13.get F.s56 rfl,K13.get F.s57 rfl⟩ h14' h15' hrb hcbl hcells hi2 (by rw [ek];exact hx) (.inl rfl) (fun t ht=> ?_) (by rw [ek];exact G1);rw [ek] at ht;have:=(rng t ht).2;omega
 ·have ek:uK i (rs.take (j+1))=uK i (rs.take j)++ [gO i rs[j]]:=by rw [GE hj,Ii,Zj hx]
  rw [Zy hx] at hc69;refine wp_cond_true hc69 (wp_seq (wp_mono (xFU s3 G1.map hx (K13.get F.s11 rfl) h15') ?_));rintro e a4 w4 ⟨rfl,hm4,hg4,z4,K4⟩;have K14:=K13.trans K4 (l2:=[3,4,6,9,10,11,12,55,56,57]) rfl;have s4:a4.tmps.size=153:=K4.2.1.trans s3;generalize hA:(w3.alloc (.cells #[.int .i64 (gO i rs[j]),.int .i64 0] 3)).alloc (.cells #[.slice (some ⟨w3.heap.size,0,none⟩) 2 2,.slice none 0 0] 77)=A at hg4 z4;have zA:A.heap.size=w3.heap.size+2:=by rw [<-hA,y9,y9]
  have hbA:Below w3.heap.size w3 A:=by rw [<-hA];exact((Below.refl _ _).alloc (Zg _) _).alloc (by rw [y9];omega) _
  have hcA:A.heap[w3.heap.size]? =some (.cells #[.int .i64 (gO i rs[j]),.int .i64 0] 3 (0,0)):=by
   rw [<-hA,zR (by rw [y9];omega)];show(Array.push _ _)[_]? =_;rw [ZZ,Zx rfl]
  have hbA2:A.heap[w3.heap.size+1]? =some (.cells #[.slice (some ⟨w3.heap.size,0,none⟩) 2 2,.slice none 0 0] 77 (0,0)):=by
   rw [<-hA];show(Array.push _ _)[_]? =_;rw [ZZ,Zx (y9 _ _).symm]
  clear hA;have rmap:=G1.rng .map trivial;have rkey:=G1.rng .keys trivial;have nmk:blk .keys≠blk .map:=fun e=>by have:=G1.inj .keys .map trivial trivial e;cases this
  have hk4:ORow w4 3 (blk .keys) kc 1 (uK i (rs.take j)).length ((uK i (rs.take j)).map (Value.int .i64)):=G1.keys.kept ((hg4.block _ (by omega) (by simpa using nmk)).trans (hbA.block _ rkey.2));have hlen:(uK i (rs.take j)).length<=1000:=Yu (M9 i _) (by rw [ZR];omega);refine wp_mono (xFV s4 hlen hk4 (K14.get F.s12 rfl) (K4.get h15' rfl)) ?_;rintro e a5 w5 ⟨rfl,kb',kc',hk5,hg5,hkb,h12,K5⟩;have K15:=K14.trans K5 (l2:=[3,4,6,9,10,11,55,56,57]) rfl;have s5:a5.tmps.size=153:=K5.2.1.trans s4;have hn0:=xFN _ (rs.take j) rfl hx;have hb45:Below w4.heap.size w4 (w4.alloc (.cells #[.int .i64 (gO i rs[j])] 3)):=(Below.refl _ _).alloc (Zg _) _;have G5:=G1.add hx (hn0.1 k) hn0.2 hbA (Zg _) (Nat.le_succ _) (by omega) (by omega) (by omega) hcA hbA2 hm4 hg4 z4 hb45 hk5 hg5 hkb;have rb5:w5.heap[w.heap.size]? =w3.heap[w.heap.size]? :=by
   have rm:=rng .map trivial;have rk:=rng .keys trivial;exact(hg5.block _ (by rw [y9];omega) (by simp;omega)).trans ((zR (by omega)).trans ((hg4.block _ (by omega) (by simp;omega)).trans (hbA.block _ (by omega))))
  have bm:zI (zI (zI blk (.box (gO i rs[j])) (w3.heap.size+1)) (.cel (gO i rs[j])) w3.heap.size) .keys kb' .map=blk .map:=by simp [zI]
  have bk:zI (zI (zI blk (.box (gO i rs[j])) (w3.heap.size+1)) (.cel (gO i rs[j])) w3.heap.size) .keys kb' .keys=kb' :=by simp [zI]
  have hne:∀t,zV (uK i (rs.take j)++ [gO i rs[j]]) (some (gO i rs[j])) t->zI (zI (zI blk (.box (gO i rs[j])) (w3.heap.size+1)) (.cel (gO i rs[j])) w3.heap.size) .keys kb' t≠w.heap.size:=by
   intro t ht;by_cases n1:t= .keys
   ·subst n1;rw [bk];have:=(rng .keys trivial).2;rcases hkb with e|e
    ·omega
    ·rw [y9] at e;omega
   ·by_cases n2:t= .cel (gO i rs[j])
    ·subst n2;simp [zI];omega
    ·by_cases n3:t= .box (gO i rs[j])
     ·subst n3;simp [zI];omega
     ·have e0:zI (zI (zI blk (.box (gO i rs[j])) (w3.heap.size+1)) (.cel (gO i rs[j])) w3.heap.size) .keys kb' t=blk t:=by simp [zI,n1,n2,n3]
      rw [e0];have hl:zV (uK i (rs.take j)) none t:=by
       cases t with
       |map=>trivial
       |keys=>trivial
       |box y=>
        rcases Z6.1 (show y∈uK i (rs.take j)++ [gO i rs[j]] from ht) with e|e
        ·exact e
        ·simp at e;subst e;exact absurd rfl n3
       |cel y=>
        rcases Z6.1 (show y∈uK i (rs.take j)++ [gO i rs[j]] from ht) with e|e
        ·exact e
        ·simp at e;subst e;exact absurd rfl n2
       |frm y=>
        obtain⟨e,e2⟩:=ht;rcases Z6.1 e with e|e
        ·exact⟨e,by simp⟩
        ·simp at e;subst e;exact absurd rfl e2
      have:=(rng t hl).2;omega
  refine Mc (nx:=some (gO i rs[j])) hU hlaid hok hn hj (rb:=w.heap.size) (blk:=zI (zI (zI blk (.box (gO i rs[j])) (w3.heap.size+1)) (.cel (gO i rs[j])) w3.heap.size) .keys kb') (fc:=fc) (kc:=kc') ⟨K15.1.trans F.d,s5,K15.get F.s3 rfl,K15.get F.s4 rfl,K15.get F.s6 rfl,K15.get F.s9 rfl,K15.get F.s10 rfl,by rw [bm];exact K15.get F.s11 rfl,by rw [ek,bk];exact h12,K15.get F.s55 rfl,K15.get F.s56 rfl,K15.get F.s57 rfl⟩ (K5.get (K4.get h14' rfl) rfl) (K5.get (K4.get h15' rfl) rfl) (rb5.trans hrb) hcbl hcells hi2 (by rw [ek];simp) (.inr rfl) (by rw [ek];exact hne) (by rw [ek];exact G5)
theorem xGe(hU:FG)(hlaid:∀x∈jQ,x.1<w0.heap.size/\w0.heap[x.1]? =some x.2)(hrs:FD w0 rv rs)(hok:∀r∈rs,RowOk i k r)(hn:rs.length<=1000){a:Act}{w:World}(hJ:J1 w0 rs B3 B4 B6 i k rv 0 0 a w):
 cL1.wp Tryz.prog (fun e a' w' =>e= .normal/\J1 w0 rs B3 B4 B6 i k rv rs.length rs.length a' w') a w:=by
 refine wp_block ?_;refine wp_loop (fun a w=>∃j,j<=rs.length/\J1 w0 rs B3 B4 B6 i k rv j j a w) (fun a _=>rs.length - (RowKit.intOf (a.tmps.getD 57 undef)).toNat) ⟨0,Z3 _,hJ⟩ ?_;rintro a w ⟨j,hj,hJ⟩;obtain⟨blk,fc,kc,F,G⟩:=id hJ;have m0:(RowKit.intOf (a.tmps.getD 57 undef)).toNat=j:=by
  rw [show a.tmps.getD 57 undef= .int .i64 j from B2 F.s57];simp [RowKit.intOf]
 refine wp_seq (wp_mono (xFQ F.s F.s56 F.s57) ?_);rintro e a1 w1 ⟨rfl,rfl,h58,K1⟩;have F1' :F1 a1 B3 B4 B6 i k (blk .map) (.slice (some ⟨blk .keys,0,none⟩) (uK i (rs.take j)).length kc) rv rs.length j:=⟨K1.1.trans F.d,K1.2.1.trans F.s,K1.get F.s3 rfl,K1.get F.s4 rfl,K1.get F.s6 rfl,K1.get F.s9 rfl,K1.get F.s10 rfl,K1.get F.s11 rfl,K1.get F.s12 rfl,K1.get F.s55 rfl,K1.get F.s56 rfl,K1.get F.s57 rfl⟩;have hc:a1.eval (.tmp 58)= .bool (decide (j<rs.length)):=B2 h58;by_cases hlt:j<rs.length
 ·rw [Zz hlt] at hc;refine wp_seq (wp_cond_true hc (wp_skip ?_));refine wp_seq (wp_block ?_);refine wp_mono (xGg hU hlaid hrs hok hn hlt ⟨blk,fc,kc,F1',G⟩) ?_;rintro e a2 w2 ⟨rfl,blk2,fc2,kc2,F2,G2⟩;refine wp_mono (xFY F2.s (by omega) F2.s57) ?_;rintro e a3 w3 ⟨rfl,rfl,h57,K3⟩;refine⟨⟨j+1,hlt,blk2,fc2,kc2,⟨K3.1.trans F2.d,K3.2.1.trans F2.s,K3.get F2.s3 rfl,K3.get F2.s4 rfl,K3.get F2.s6 rfl,K3.get F2.s9 rfl,K3.get F2.s10 rfl,K3.get F2.s11 rfl,K3.get F2.s12 rfl,K3.get F2.s55 rfl,K3.get F2.s56 rfl,h57⟩,G2⟩,?_⟩;have m1:(RowKit.intOf (a3.tmps.getD 57 undef)).toNat=j+1:=by
   rw [show a3.tmps.getD 57 undef= .int .i64 (j+1:Nat) from B2 h57];simp [RowKit.intOf] <;>omega
  rw [m0,m1];omega
 ·rw [Zy hlt] at hc;obtain rfl:j=rs.length:=by omega
  refine wp_seq (wp_cond_false hc (wp_exit ?_));simp only [Exit.then,Exit.inBlock,ZE];exact⟨trivial,blk,fc,kc,F1',G⟩
end
end Go.Ab
end
section
namespace Go.Ab
open Go.Proofs Go.RowKit Go.Shelf
set_option maxRecDepth 100000
noncomputable def cB2:Code:= .seq (Rg 24) (.seq (.seq (Rg 25) (.cond (.tmp 139) (.seq (Rg 26) .ret) .skip)) (Rg 27))
noncomputable def cL2:Code:= .block 2 (.loop (.seq (Rg 23) (.seq (.cond (.tmp 127) .skip (.exit 2)) (.seq (.block 3 cB2) (Rg 28)))))
noncomputable def cT2:Code:= .seq (Rg 29) .ret
noncomputable def cS2:Code:= .seq (.seq (Rg 22) cL2) cT2
noncomputable def cS1:Code:= .seq (Rg 20) (.seq (Rg 21) cS2)
noncomputable def LB:Code:= .seq (Rg 9) (.seq (.seq (Rg 10) cL1) cS1)
def LL:Array Value:= #[.int .i64 6,.int .i64 5,.int .i64 0,.string ⟨#[]⟩,.slice none 0 0,.slice none 0 0,.slice none 0 0]
def Dh(cb:Nat)(rv:Value):Array Value:= #[.int .i64 5,.int .i64 0,.int .i64 0,.string ⟨#[]⟩,.slice none 0 0,.slice (some ⟨cb,0,none⟩) 2 2,rv]
structure Tab (w0 W:World) (ks xs:List Int) (sm:Int->Int) (fr:Int->List Org) (ta tb:ByteArray) (blk:Tg->Nat) (fc:Int->Nat) (cb:Nat) (rv:Value):Prop where
 rel:∃kc,GRel w0 W w0.heap.size 77 3 blk ks xs sm fr fc none kc
 lt:∀t,zV ks none t->blk t<cb
 col:W.heap[cb]? =some (.cells #[.string ta,.string tb] 9 (0,0))
 rows:W.ownsRow (cb+2) 77 2 rv xs.length (DN blk fr fc xs)
 size:cb+2<=W.heap.size
def GK(w0:World)(ks xs:List Int)(sm:Int->Int)(fr:Int->List Org)(ta tb:ByteArray)(B6:Nat)(ty:TypeId)(a' :Act)(w' :World):Prop:=
 a'.defers=[]/\a'.tmps.size=153/\a'.tmps[6]? =some (.pointer (some ⟨B6,0,none⟩))/\∃W,Below w0.heap.size w0 W/\
  ((xs.all (fun x=>wP (sm x))=false/\Chg W w' B6 (.cells LL ty (0,0)))\/
   (xs.all (fun x=>wP (sm x))=true/\∃blk fc cb rv,Chg W w' B6 (.cells (Dh cb rv) ty (0,0))/\Tab w0 W ks xs sm fr ta tb blk fc cb rv))
structure F2 (a:Act) (B6 M ob:Nat) (kv:Value) (n m:Nat):Prop where
 d:a.defers=[]
 s:a.tmps.size=153
 s6:a.tmps[6]? =some (.pointer (some ⟨B6,0,none⟩))
 s11:a.tmps[11]? =some (.map (some M))
 s16:a.tmps[16]? =some (.pointer (some ⟨ob,0,none⟩))
 s124:a.tmps[124]? =some kv
 s125:a.tmps[125]? =some (.int .i64 n)
 s126:a.tmps[126]? =some (.int .i64 m)
structure W2 (w0 wS w:World) (ks xs:List Int) (sm:Int->Int) (fr:Int->List Org) (ta tb:ByteArray) (blk:Tg->Nat) (fc:Int->Nat) (kc S m:Nat) (rv:Value):Prop where
 rel:GRel w0 wS w0.heap.size 77 3 blk ks xs sm fr fc none kc
 hS:S=wS.heap.size
 below:Below S wS w
 size:S+2<=w.heap.size
 col:w.heap[S]? =some (.cells #[.string ta,.string tb] 9 (0,0))
 out:w.heap[S+1]? =some (.cells (Dh S rv) 30 (0,0))
 rows:w.ownsRow (S+2) 77 2 rv m (DN blk fr fc (xs.take m))
 nums:∀x∈xs.take m,wP (sm x)=true
section
variable [Inhabited Lb] {w0 wS:World} {ks xs:List Int} {sm:Int->Int} {fr:Int->List Org} {ta tb:ByteArray} {blk:Tg->Nat} {fc:Int->Nat} {kc S B6:Nat} {ty:TypeId} {u0 u1 u2 u3 u4 u5 u6:Value}
theorem W2.rel' {w:World}{m:Nat}{rv:Value}(h:W2 w0 wS w ks xs sm fr ta tb blk fc kc S m rv):GRel w0 w w0.heap.size 77 3 blk ks xs sm fr fc none kc:=h.rel.grow (by have:=h.below;rwa [h.hS] at this)
theorem Jm{w:World}{base te sz n:Nat}{v:Value}{xs:List Value}(h:w.ownsRow base te sz v n xs):∃p c,v= .slice p n c:=by
 rcases h.2 with ⟨rfl,rfl⟩|⟨g,cap,cur,rfl,_⟩
 ·exact⟨_,_,rfl⟩
 ·exact⟨_,_,rfl⟩
theorem xGh(hperm:∀x∈xs,x∈ks)(hn:xs.length<=1000)(h6:B6<w0.heap.size)(hB6:w0.heap[B6]? =some (.cells #[u0,u1,u2,u3,u4,u5,u6] ty (0,0))){m:Nat}(hm:m<xs.length){a:Act}{w:World}{rv:Value}
 (F:F2 a B6 (blk .map) (S+1) (.slice (some ⟨blk .keys,0,none⟩) xs.length kc) xs.length m) (H:W2 w0 wS w ks xs sm fr ta tb blk fc kc S m rv):
 cB2.wp Tryz.prog (Exit.then (fun a' w' =>F2 a' B6 (blk .map) (S+1) (.slice (some ⟨blk .keys,0,none⟩) xs.length kc) xs.length m/\∃rv',W2 w0 wS w' ks xs sm fr ta tb blk fc kc S (m+1) rv') (fun e a' w' =>e= .ret/\GK w0 ks xs sm fr ta tb B6 ty a' w')) a w:=by
 have G:=H.rel';have hx:xs[m]∈ks:=hperm _ (ZY hm);refine wp_seq (wp_mono (xF3 F.s hm F.s124 F.s126 (G.keys.cellI hm)) ?_);rintro e a1 w1 ⟨rfl,hw,h18,K1⟩;obtain rfl:w=w1:=hw.symm;have bx:=G.box _ hx;have cl:=G.cel _ hx;have s1:a1.tmps.size=153:=K1.2.1.trans F.s;refine wp_seq (wp_seq (wp_mono (xF4 s1 G.map hx (K1.get F.s11 rfl) h18 (by simp only [World.cell?,bx];rfl) (by simp only [World.cell?,cl];rfl)) ?_));rintro e a2 w2 ⟨rfl,hw,h139,K2⟩;obtain rfl:w=w2:=hw.symm;have s2:a2.tmps.size=153:=K2.2.1.trans s1;have K:=K1.trans K2 (l2:=[6,11,16,124,125,126]) rfl;have hc:a2.eval (.tmp 139)= .bool (!wP (sm xs[m])):=B2 h139;have old:∀b,b<w0.heap.size->w.heap[b]? =w0.heap[b]? :=G.below.block;have z0:=G.below.size;cases hnum:wP (sm xs[m]) with
 |false=>
  rw [hnum] at hc;refine wp_cond_true hc (wp_seq (wp_mono (xF5 s2 (K.get F.s6 rfl) ((old _ h6).trans hB6)) ?_));rintro e a3 w3 ⟨rfl,⟨W,hW,hC⟩,K3⟩;refine wp_ret ⟨rfl,K3.1.trans (K.1.trans F.d),K3.2.1.trans s2,K3.get (K.get F.s6 rfl) rfl,W,G.below.trans ⟨hW.os,hW.tape,hW.output,hW.size,fun b hb=>hW.block b (by omega)⟩,.inl ⟨?_,hC⟩⟩;rw [X6];exact⟨xs[m],ZY hm,by rw [hnum];simp⟩
 |true=>
  rw [hnum] at hc;refine wp_cond_false hc (wp_skip ?_);obtain⟨rp,rc,rfl⟩:=Jm H.rows;have hS:=H.hS;have rb:=H.rel.rng (.box xs[m]) hx;have rm:=H.rel.rng .map trivial;have hsz:=H.size;have fv:frV blk fc fr none xs[m]= .slice (some ⟨blk (.frm xs[m]),0,none⟩) (fr xs[m]).length (fc xs[m]):=Zj (by simp);rw [fv] at bx;have ho:=H.out;refine wp_mono (xF6 s2 (base:=S+2) G.map hx (K.get F.s11 rfl) (K2.get h18 rfl) (K.get F.s16 rfl) (by omega) (by omega) (by omega) (by omega) hsz (by simp only [World.cell?,ho];rfl) (by simp [World.frozen?,ho]) (by simp only [World.cell?,bx];rfl) (by simp only [World.cell?,bx];rfl) H.rows) ?_;rintro e a3 w3 ⟨rfl,⟨v',W',o1,o2,o3⟩,K3⟩;have KK:=K.trans K3 (l2:=[6,11,16,124,125,126]) rfl;refine⟨⟨KK.1.trans F.d,KK.2.1.trans F.s,KK.get F.s6 rfl,KK.get F.s11 rfl,KK.get F.s16 rfl,KK.get F.s124 rfl,KK.get F.s125 rfl,KK.get F.s126 rfl⟩,v',?_⟩;have hoW:W'.heap[S+1]? =some (.cells (Dh S (.slice rp m rc)) 30 (0,0)):=(o2.block _ (by omega)).trans ho;have C:Chg W' w3 (S+1) (.cells (Dh S v') 30 (0,0)):=by
   rw [o3];exact AQ hoW (by simp [Dh])
  have tk:xs.take (m+1)=xs.take m++ [xs[m]]:=Yq hm;refine⟨H.rel,H.hS,?_,?_,?_,C.at',?_,?_⟩
  ·exact H.below.trans ⟨C.os.trans o2.os,C.tape.trans o2.tape,C.output.trans o2.output,by rw [C.size];exact o2.size,fun b hb=>(C.other b (by omega)).trans (o2.block b (by omega))⟩
  ·rw [C.size];have:=o2.size;omega
  ·rw [C.other _ (by omega),o2.block _ (by omega)];exact H.col
  ·rw [tk,xLj];obtain⟨q0,q1⟩:=o1;refine⟨q0,?_⟩;rcases q1 with q1|⟨g,cap,cur,rfl,q2,q3,q4⟩
   ·exact .inl q1
   ·exact .inr ⟨g,cap,cur,rfl,q2,(C.other _ (by omega)).trans q3,q4⟩
  ·intro x hx;rw [tk,Z6] at hx;rcases hx with hx|hx
   ·exact H.nums x hx
   ·simp at hx;subst hx;exact hnum
theorem xGf(hperm:∀x∈xs,x∈ks)(hn:xs.length<=1000)(h6:B6<w0.heap.size)(hB6:w0.heap[B6]? =some (.cells #[u0,u1,u2,u3,u4,u5,u6] ty (0,0))){a:Act}{w:World}{rv:Value}
 (F:F2 a B6 (blk .map) (S+1) (.slice (some ⟨blk .keys,0,none⟩) xs.length kc) xs.length 0) (H:W2 w0 wS w ks xs sm fr ta tb blk fc kc S 0 rv):
 cL2.wp Tryz.prog (Exit.then (fun a' w' =>F2 a' B6 (blk .map) (S+1) (.slice (some ⟨blk .keys,0,none⟩) xs.length kc) xs.length xs.length/\∃rv',W2 w0 wS w' ks xs sm fr ta tb blk fc kc S xs.length rv') (fun e a' w' =>e= .ret/\GK w0 ks xs sm fr ta tb B6 ty a' w')) a w:=by
 refine wp_block ?_;refine wp_loop (fun a w=>∃m rv,m<=xs.length/\F2 a B6 (blk .map) (S+1) (.slice (some ⟨blk .keys,0,none⟩) xs.length kc) xs.length m/\W2 w0 wS w ks xs sm fr ta tb blk fc kc S m rv) (fun a _=>xs.length - (RowKit.intOf (a.tmps.getD 126 undef)).toNat) ⟨0,rv,Z3 _,F,H⟩ ?_;rintro a w ⟨m,rv,hm,F,H⟩;have m0:(RowKit.intOf (a.tmps.getD 126 undef)).toNat=m:=by
  rw [show a.tmps.getD 126 undef= .int .i64 m from B2 F.s126];simp [RowKit.intOf]
 refine wp_seq (wp_mono (xF2 F.s F.s125 F.s126) ?_);rintro e a1 w1 ⟨rfl,hw,h127,K1⟩;obtain rfl:w=w1:=hw.symm;have F1' :F2 a1 B6 (blk .map) (S+1) (.slice (some ⟨blk .keys,0,none⟩) xs.length kc) xs.length m:=⟨K1.1.trans F.d,K1.2.1.trans F.s,K1.get F.s6 rfl,K1.get F.s11 rfl,K1.get F.s16 rfl,K1.get F.s124 rfl,K1.get F.s125 rfl,K1.get F.s126 rfl⟩;have hc:a1.eval (.tmp 127)= .bool (decide (m<xs.length)):=B2 h127;by_cases hlt:m<xs.length
 ·rw [Zz hlt] at hc;refine wp_seq (wp_cond_true hc (wp_skip ?_));refine wp_seq (wp_block ?_);refine wp_mono (xGh hperm hn h6 hB6 hlt F1' H) ?_;intro e a2 w2 h;cases e with
  |normal=>
   obtain⟨F2',rv',H2⟩:=h;refine wp_mono (xF7 F2'.s (by omega) F2'.s126) ?_;rintro e a3 w3 ⟨rfl,hw,h126,K3⟩;obtain rfl:w2=w3:=hw.symm;refine⟨⟨m+1,rv',hlt,⟨K3.1.trans F2'.d,K3.2.1.trans F2'.s,K3.get F2'.s6 rfl,K3.get F2'.s11 rfl,K3.get F2'.s16 rfl,K3.get F2'.s124 rfl,K3.get F2'.s125 rfl,h126⟩,H2⟩,?_⟩;have m1:(RowKit.intOf (a3.tmps.getD 126 undef)).toNat=m+1:=by
    rw [show a3.tmps.getD 126 undef= .int .i64 (m+1:Nat) from B2 h126];simp [RowKit.intOf] <;>omega
   rw [m0,m1];omega
  |ret=>exact h
  |exit id=>exact absurd h.1 (by simp)
  |goto l=>exact absurd h.1 (by simp)
  |panic c=>exact absurd h.1 (by simp)
  |outgrown=>exact absurd h.1 (by simp)
 ·rw [Zy hlt] at hc;obtain rfl:m=xs.length:=by omega
  refine wp_seq (wp_cond_false hc (wp_exit ?_));simp only [Exit.then,Exit.inBlock,ZE];exact⟨F1',rv,H⟩
end
end Go.Ab
end
section
namespace Go.Ab
open Go.Proofs Go.RowKit Go.Shelf
set_option maxRecDepth 100000
structure F0 (a:Act) (B3 B4 B5 B6 i k:Nat):Prop where
 d:a.defers=[]
 s:a.tmps.size=153
 s3:a.tmps[3]? =some (.pointer (some ⟨B3,0,none⟩))
 s4:a.tmps[4]? =some (.pointer (some ⟨B4,0,none⟩))
 s5:a.tmps[5]? =some (.pointer (some ⟨B5,0,none⟩))
 s6:a.tmps[6]? =some (.pointer (some ⟨B6,0,none⟩))
 s9:a.tmps[9]? =some (.int .i64 i)
 s10:a.tmps[10]? =some (.int .i64 k)
def I1:Prop:=∀(blk cap:Nat) (zs:List Int) (w:World),Sort.Holds (Value.int .i64) w blk 0 zs.toArray->blk<w.heap.size->zs.length<4611686018427387904->
 Calls Tryz.prog 100 #[.slice (some ⟨blk,0,none⟩) zs.length cap] w fun e w' =>e= .returned (.tuple #[])/\∃n os,w' =Sort.grow (Sort.putRow (Value.int .i64) (Sort.ahead w n) blk 0 (zs.mergeSort fun x y=>decide (x<=y)).toArray) os
section
variable [Inhabited Lb] {w0:World} {rs:List Rowd} {B3 B4 B5 B6 i k:Nat} {rv:Value} {ta tb:ByteArray} {ty:TypeId} {u0 u1 u2 u3 u4 u5 u6:Value}
theorem xO9(hSo:I1)(hlen:rs.length<=1000)(h3:w0.cell? ⟨B3,3,none⟩=some (.string ta))(h4:w0.cell? ⟨B4,3,none⟩=some (.string tb))(hB6:w0.heap[B6]? =some (.cells #[u0,u1,u2,u3,u4,u5,u6] ty (0,0))){a:Act}{w:World}(hJ:J1 w0 rs B3 B4 B6 i k rv rs.length rs.length a w):
 cS1.wp Tryz.prog (fun e a' w' =>e= .ret/\GK w0 (uK i rs) (oM i rs) (oN i k rs) (uJ i rs) ta tb B6 ty a' w') a w:=by
 obtain⟨blk,fc,kc,F,G⟩:=hJ;rw [ZI] at F G;have rk:=G.rng .keys trivial;have hkl:=M9 i rs;have h6:B6<w0.heap.size:=(Zk.1 hB6).1;obtain⟨xs,hxs⟩:∃xs,oM i rs=xs:=⟨_,rfl⟩;have hxl:xs.length=(uK i rs).length:=by rw [<-hxs];exact YI _
 have hperm:∀x∈xs,x∈uK i rs:=fun x hx=>by rw [<-hxs] at hx;exact Xz.1 hx
 refine wp_seq (wp_mono (xFZ F.s F.s12 (hSo (blk .keys) kc (uK i rs) w G.keys.holdsI rk.2 (by omega))) ?_);rintro e a1 wS ⟨rfl,⟨n,os,hw⟩,K1⟩;rw [show((uK i rs).mergeSort fun x y=>decide (x<=y))=xs from hxs] at hw;obtain⟨p1,p2,p3⟩:=xL6 (n:=n) (os:=os) G.keys hxl;rw [<-hw] at p1 p2 p3;have GS:=G.rekey (wr' :=wS) (by rw [hw];exact⟨rfl,rfl,rfl⟩) p2 p3 p1;clear hw;have s1:a1.tmps.size=153:=K1.2.1.trans F.s;have b3:=E6 h3;have b4:=E6 h4;have old:∀b,b<w0.heap.size->wS.heap[b]? =w0.heap[b]? :=GS.below.block;refine wp_seq (wp_mono (xF0 s1 (K1.get F.s3 rfl) (K1.get F.s4 rfl) ((Cj (old _ b3)).trans h3) ((Cj (old _ b4)).trans h4)) ?_);rintro e a2 w2 ⟨rfl,hw2,h16,K2⟩;have K12:=K1.trans K2 (l2:=[6,11,12]) rfl;have s2:a2.tmps.size=153:=K2.2.1.trans s1;refine wp_seq (wp_seq (wp_mono (xF1 s2 (K12.get F.s12 rfl)) ?_));rintro e a3 w3 ⟨rfl,hw,h124,h125,h126,K3⟩;obtain rfl:w2=w3:=hw.symm;have K13:=K12.trans K3 (l2:=[6,11]) rfl;rw [<-hxl] at h124 h125;have z2:w2.heap.size=wS.heap.size+2:=by rw [hw2,y9,y9]
 have hcol:w2.heap[wS.heap.size]? =some (.cells #[.string ta,.string tb] 9 (0,0)):=by
  rw [hw2,zR (by rw [y9];omega)];show(Array.push _ _)[_]? =_;rw [ZZ,Zx rfl]
 have hout:w2.heap[wS.heap.size+1]? =some (.cells (Dh wS.heap.size (.slice none 0 0)) 30 (0,0)):=by
  rw [hw2];show(Array.push _ _)[_]? =_;rw [ZZ,Zx (y9 _ _).symm]
  rfl
 have hbS:Below wS.heap.size wS w2:=by rw [hw2];exact((Below.refl _ _).alloc (Zg _) _).alloc (by rw [y9];omega) _
 clear hw2;have H:W2 w0 wS w2 (uK i rs) xs (oN i k rs) (uJ i rs) ta tb blk fc kc wS.heap.size 0 (.slice none 0 0):=⟨GS,rfl,hbS,by omega,hcol,hout,⟨rfl,.inl ⟨rfl,rfl⟩⟩,fun x hx=>by simp at hx⟩;have FF:F2 a3 B6 (blk .map) (wS.heap.size+1) (.slice (some ⟨blk .keys,0,none⟩) xs.length kc) xs.length 0:=⟨K13.1.trans F.d,K3.2.1.trans s2,K13.get F.s6 rfl,K13.get F.s11 rfl,K3.get h16 rfl,h124,h125,h126⟩;rw [hxs];refine wp_mono (xGf hperm (by omega) h6 hB6 FF H) ?_;intro e a4 w4 h;cases e with
 |normal=>
  obtain⟨F4,rv',H4⟩:=h;obtain⟨rp,rc,rfl⟩:=Jm H4.rows;have G4:=H4.rel';refine wp_seq (wp_mono (xF8 F4.s F4.s6 F4.s16 ((G4.below.block _ h6).trans hB6) H4.out) ?_);rintro e a5 w5 ⟨rfl,C,K5⟩;refine wp_ret ⟨rfl,K5.1.trans F4.d,K5.2.1.trans F4.s,K5.get F4.s6 rfl,w4,G4.below,.inr ⟨?_,blk,fc,wS.heap.size,_,C,⟨⟨kc,G4⟩,fun t ht=>(GS.rng t ht).2,H4.col,?_,H4.size⟩⟩⟩
  ·rw [Zu];intro x hx;exact H4.nums x (by rw [ZI];exact hx)
  ·have:=H4.rows
   rwa [ZI] at this
 |ret=>exact h
 |exit id=>exact absurd h.1 (by simp)
 |goto l=>exact absurd h.1 (by simp)
 |panic c=>exact absurd h.1 (by simp)
 |outgrown=>exact absurd h.1 (by simp)
theorem xO8(hU:FG)(hSo:I1)(hlaid:∀x∈jQ,x.1<w0.heap.size/\w0.heap[x.1]? =some x.2)(hrs:FD w0 rv rs)(hok:∀r∈rs,RowOk i k r)(hlen:rs.length<=1000)(h3:w0.cell? ⟨B3,3,none⟩=some (.string ta))(h4:w0.cell? ⟨B4,3,none⟩=some (.string tb))(h5:w0.cell? ⟨B5,6,none⟩=some rv)
 (hB6:w0.heap[B6]? =some (.cells #[u0,u1,u2,u3,u4,u5,u6] ty (0,0))) {a:Act} (F:F0 a B3 B4 B5 B6 i k):
 (Rg 8).wp Tryz.prog (Exit.then (fun a1 w1=>LB.wp Tryz.prog (fun e a' w' =>e= .ret/\GK w0 (uK i rs) (oM i rs) (oN i k rs) (uJ i rs) ta tb B6 ty a' w') a1 w1) (fun _ _ _=>False)) a w0:=by
 refine wp_mono (xF9 F.s) ?_;rintro e a1 w1 ⟨rfl,hw1,h11,K1⟩;have s1:a1.tmps.size=153:=K1.2.1.trans F.s;refine wp_seq (wp_mono (xGa s1) ?_);rintro e a2 w2 ⟨rfl,hw2,h12,K2⟩;have K12:=K1.trans K2 (l2:=[3,4,5,6,9,10]) rfl;have s2:a2.tmps.size=153:=K2.2.1.trans s1;have z1:w1.heap.size=w0.heap.size+1:=by rw [hw1,y9]
 have z2:w2.heap.size=w0.heap.size+2:=by rw [hw2,y9,z1]
 have hb:Below w0.heap.size w0 w2:=by rw [hw2,hw1];exact((Below.refl _ _).alloc (Zg _) _).alloc (by rw [y9];omega) _
 have hM:w2.heap[w0.heap.size]? =some (.map #[] 0):=by
  rw [hw2,zR (by omega),hw1];show(Array.push _ _)[_]? =_;rw [ZZ,Zx rfl]
 have hK:w2.heap[w0.heap.size+1]? =some (.cells #[] 3 (0,0)):=by
  rw [hw2];show(Array.push _ _)[_]? =_;rw [ZZ,Zx z1.symm]
 clear hw1 hw2;have b5:=E6 h5;obtain⟨p,c,rfl,hrows⟩:=id hrs;refine wp_seq (wp_seq (wp_mono (xFP s2 (K12.get F.s5 rfl) ((Cj (hb.block _ b5)).trans h5)) ?_));rintro e a3 w3 ⟨rfl,hw,h55,h56,h57,K3⟩;obtain rfl:w2=w3:=hw.symm;have K13:=K12.trans K3 (l2:=[3,4,6,9,10]) rfl;rw [z1] at h12
 let blk:Tg->Nat:=fun t=>match t with | .map=>w0.heap.size|_=>w0.heap.size+1
 have hJ:J1 w0 rs B3 B4 B6 i k (.slice p rs.length c) 0 0 a3 w2:=by
  refine⟨blk,fun _=>0,0,⟨K13.1.trans F.d,K3.2.1.trans s2,K13.get F.s3 rfl,K13.get F.s4 rfl,K13.get F.s6 rfl,K13.get F.s9 rfl,K13.get F.s10 rfl,K3.get (K2.get h11 rfl) rfl,K3.get h12 rfl,h55,h56,h57⟩,?_⟩;refine⟨⟨#[],0,hM,rfl⟩,fun x hx=>by(cases hx),fun x hx=>by(cases hx),fun x hx=>by(cases hx),fun x e=>by(cases e),⟨rfl, #[],hK,Zg _,by decide,rfl,rfl⟩,Xj,fun t t' a b e=> ?_,fun t ht=> ?_,hb⟩
  ·cases t with
   |map=>
    cases t' with
    |map=>rfl
    |keys=>exact absurd e (by show w0.heap.size≠w0.heap.size+1;omega)
    |box x=>cases b
    |cel x=>cases b
    |frm x=>cases b.1
   |keys=>
    cases t' with
    |keys=>rfl
    |map=>exact absurd e (by show w0.heap.size+1≠w0.heap.size;omega)
    |box x=>cases b
    |cel x=>cases b
    |frm x=>cases b.1
   |box x=>cases a
   |cel x=>cases a
   |frm x=>cases a.1
  ·cases t with
   |map=>show w0.heap.size<=w0.heap.size/\w0.heap.size<_;omega
   |keys=>show w0.heap.size<=w0.heap.size+1/\w0.heap.size+1<_;omega
   |box x=>cases ht
   |cel x=>cases ht
   |frm x=>cases ht.1
 refine wp_mono (xGe hU hlaid hrs hok hlen hJ) ?_;rintro e a4 w4 ⟨rfl,hJ4⟩;exact xO9 hSo hlen h3 h4 hB6 hJ4
end
end Go.Ab
end
section
namespace Go.Ab
open Go.Proofs Go.RowKit Go.Shelf
set_option maxRecDepth 100000
def CB(blk:Tg->Nat)(xs:List Int)(cb:Nat)(rv:Value)(b:Nat)(l:Nat×List (Nat×Nat)):Prop:=
 (b=cb/\l=(5,[]))\/(rv.ownBlock=some b/\l=(6,[]))\/∃(i:Nat) (x:Int),xs[i]? =some x/\((b=blk (.cel x)/\l=(6,[(i,0)]))\/(b=blk (.frm x)/\l=(6,[(i,1)])))
def NT(xs:List Int)(fr:Int->List Org):Nat×List (Nat×Nat)->Nat
 |(5,_)=>2
 |(_,[])=>xs.length*2
 |(_,[(_,0)])=>2
 |(_,[(i,_)])=>(fr (xs.getD i 0)).length*2
 |_=>0
section
variable [Inhabited Lb]
theorem xOJ{w0 W w' :World}{ks xs:List Int}{sm:Int->Int}{fr:Int->List Org}{ta tb:ByteArray}{blk:Tg->Nat}{fc:Int->Nat}{cb:Nat}{rv:Value}(E:Env)(hEw:E.w=w0)(T:Tab w0 W ks xs sm fr ta tb blk fc cb rv)
 (hW:∀b,w0.heap.size<=b->w'.heap[b]? =W.heap[b]?) (hsz:w'.heap.size=W.heap.size) (hperm:∀x∈xs,x∈ks) (hnd:xs.Nodup):
 ∃lab hwf,(∀b b' l,lab b=some l->lab b' =some l->b=b')/\(∀b l,lab b=some l->E.w.heap.size<=b/\b<w'.heap.size)/\
  VR (E.ended w' lab hwf) aJ (.h 0) (.v true [.int .i64 5,.int .i64 0,.int .i64 0,.str [],.sl .own .val [],.sl .own .str [ta.data.toList,tb.data.toList],.sl .own .row (xs.map fun x=>(⟨[x,sm x],fr x⟩:Rowd))]) (.agg (Dh cb rv)):=by
 obtain⟨kc,G⟩:=T.rel;have lt:=T.lt;have hz0:=G.below.size;have hcs:=T.size;have lvc:∀ {i:Nat} {x:Int},xs[i]? =some x->x∈ks:=fun h=>hperm _ (Zt h);have rvb:∀ {b:Nat},rv.ownBlock=some b->cb+2<=b/\b<W.heap.size:=by
  intro b hb;rcases T.rows.2 with ⟨e,_⟩|⟨g,cap,cur,e,h2,h3,_⟩
  ·rw [e] at hb;cases hb
  ·rw [e] at hb;cases hb;exact⟨h2,(Zk.1 h3).1⟩
 have nidx:∀ {i j:Nat} {x:Int},xs[i]? =some x->xs[j]? =some x->i=j:=by
  intro i j x h1 h2;obtain⟨a1,a2⟩:=Zv.1 h1;obtain⟨b1,b2⟩:=Zv.1 h2;have hp:=Xw.1 hnd;rcases Nat.lt_trichotomy i j with h|h|h
  ·exact absurd (a2.trans b2.symm) (hp i j a1 b1 h)
  ·exact h
  ·exact absurd (b2.trans a2.symm) (hp j i b1 a1 h)
 have rng:∀ {b l},CB blk xs cb rv b l->w0.heap.size<=b/\b<W.heap.size:=by
  intro b l h;have hm:=G.rng .map trivial;have hl:=lt .map trivial;rcases h with ⟨rfl,_⟩|⟨h,_⟩|⟨i,x,hx,⟨rfl,_⟩|⟨rfl,_⟩⟩
  ·omega
  ·have:=rvb h;omega
  ·exact G.rng (.cel x) (lvc hx)
  ·exact G.rng (.frm x) ⟨lvc hx,by simp⟩
 have cls:∀ {b l},CB blk xs cb rv b l->(b=cb/\l=(5,[]))\/((cb+2<=b/\rv.ownBlock=some b)/\l=(6,[]))\/∃(i:Nat) (x:Int) (t:Tg),xs[i]? =some x/\zV ks none t/\b=blk t/\blk t<cb/\((t= .cel x/\l=(6,[(i,0)]))\/(t= .frm x/\l=(6,[(i,1)]))):=by
  intro b l h;rcases h with h|⟨h,e⟩|⟨i,x,hx,⟨rfl,e⟩|⟨rfl,e⟩⟩
  ·exact .inl h
  ·exact .inr (.inl ⟨⟨(rvb h).1,h⟩,e⟩)
  ·exact .inr (.inr ⟨i,x,.cel x,hx,lvc hx,rfl,lt _ (lvc hx),.inl ⟨rfl,e⟩⟩)
  ·exact .inr (.inr ⟨i,x,.frm x,hx,⟨lvc hx,by simp⟩,rfl,lt (.frm x) ⟨lvc hx,by simp⟩,.inr ⟨rfl,e⟩⟩)
 obtain⟨lab,hlab⟩:=iA (CB blk xs cb rv) fun b l l' h1 h2=>by
  rcases cls h1 with ⟨e1,rfl⟩|⟨⟨e1,_⟩,rfl⟩|⟨i,x,t,hx,lv,rfl,lc,q⟩ <;>rcases cls h2 with ⟨e2,rfl⟩|⟨⟨e2,_⟩,rfl⟩|⟨j,y,t',hy,lv',e,lc',q'⟩ <;>first
   |rfl
   |omega
   |skip
  have ht:=G.inj t t' lv lv' e;subst ht;rcases q with ⟨rfl,rfl⟩|⟨rfl,rfl⟩ <;>rcases q' with ⟨e',rfl⟩|⟨e',rfl⟩ <;>cases e'
  ·rw [nidx hx hy]
  ·rw [nidx hx hy]
 have linj:∀b b' l,lab b=some l->lab b' =some l->b=b' :=by
  intro b b' l h1 h2
  rcases(hlab _ _).1 h1 with ⟨rfl,rfl⟩|⟨g1,rfl⟩|⟨i,x,hx,⟨rfl,rfl⟩|⟨rfl,rfl⟩⟩ <;>rcases(hlab _ _).1 h2 with ⟨rfl,e⟩|⟨g2,e⟩|⟨j,y,hy,⟨rfl,e⟩|⟨rfl,e⟩⟩ <;>first
   |rfl
   |(cases e;done)
   |skip
  ·rw [g1] at g2;exact ZB g2
  ·cases e;rw [hx] at hy;cases hy;rfl
  ·cases e;rw [hx] at hy;cases hy;rfl
 let hwf:Nat->Nat:=fun b=>match lab b with |some l=>NT xs fr l|none=>0
 have how:∀ {b l},CB blk xs cb rv b l->(E.ended w' lab hwf).ow b=some (.arr (.h 0) l.1 l.2)/\(E.ended w' lab hwf).hw b=NT xs fr l:=by
  intro b l h;have:=(hlab _ _).2 h;simp only [Env.ended,hwf,this];exact⟨trivial,trivial⟩
 have hww:(E.ended w' lab hwf).w=w' :=rfl;refine⟨lab,hwf,linj,fun b l h=>by rw [hEw,hsz];exact rng ((hlab _ _).1 h),⟨_,rfl,rfl,rfl,rfl,⟨⟨#[]⟩,rfl,rfl⟩,.nil none 0 _ ⟨rfl,rfl⟩,?_,?_,trivial⟩⟩
 ·obtain⟨o1,o2⟩:=how (.inl ⟨rfl,rfl⟩:CB blk xs cb rv cb (5,[]));have hc:w'.heap[cb]? =some (.cells #[.string ta,.string tb] 9 (0,0)):=(hW cb (by have:=G.rng .map trivial;have:=lt .map trivial;omega)).trans T.col;refine .sl cb 0 2 2 1 _ (fun i _=>if i=0 then .string ta else .string tb) rfl (Zg _) (fun r hr=> ?_) ⟨o1,o2,Zg _,_,_,0,0,hc,rfl,fun o a b=>by omega⟩ (fun i j hi hj=> ?_) (fun i j hi hj=> ?_)
  ·obtain⟨y,_,rfl⟩:=Zh.1 hr
   rfl
  ·have hj:j<1:=hj;obtain rfl:j=0:=by omega
   have:i=0\/i=1:=by omega
   rcases this with rfl|rfl
   ·exact⟨by rw [hww];simp only [World.cell?,hc];rfl,by rw [o2];show _<2;omega,o1⟩
   ·exact⟨by rw [hww];simp only [World.cell?,hc];rfl,by rw [o2];show _<2;omega,o1⟩
  ·have hi2:i<2:=hi;have:i=0\/i=1:=by omega
   rcases this with rfl|rfl
   ·have hj' :j<1:=hj;obtain rfl:j=0:=by omega
    exact .str ta
   ·have hj' :j<1:=hj;obtain rfl:j=0:=by omega
    exact .str tb
 ·rcases T.rows with ⟨hl0,⟨e,hn0⟩|⟨g,cap,cur,e,h2,h3,h4,h5,h6,h7⟩⟩
  ·have:xs=[]:=Z1.1 hn0;subst this;rw [e];exact .nil none 0 _ ⟨rfl,rfl⟩
  ·rw [e];obtain⟨o1,o2⟩:=how (.inr (.inl ⟨by rw [e];rfl,rfl⟩):CB blk xs cb rv g (6,[]));have hg:w'.heap[g]? =some (.cells cur 77 (0,0)):=(hW g (by have:=G.rng .map trivial;have:=lt .map trivial;omega)).trans h3;have hcur:∀(i:Nat) (x:Int),xs[i]? =some x->cur[i*2]? =some (.slice (some ⟨blk (.cel x),0,none⟩) 2 2)/\cur[i*2+1]? =some (.slice (some ⟨blk (.frm x),0,none⟩) (fr x).length (fc x)):=by
    intro i x hx;obtain⟨hi,_⟩:=Zv.1 hx;have key:∀(l:List Int) (i:Nat) (x:Int),l[i]? =some x->(DN blk fr fc l)[i*2]? =some (.slice (some ⟨blk (.cel x),0,none⟩) 2 2)/\(DN blk fr fc l)[i*2+1]? =some (.slice (some ⟨blk (.frm x),0,none⟩) (fr x).length (fc x)):=by
     intro l
     induction l with
     |nil=>intro i x h;cases h
     |cons y l ih=>
      intro i x h;cases i with
      |zero=>
       simp at h;subst h;exact⟨rfl,rfl⟩
      |succ i=>
       have:=ih i x (by simpa using h);rw [show(i+1)*2=i*2+1+1 by omega];exact this
    obtain⟨k1,k2⟩:=key xs i x hx;rw [<-h7] at k1 k2;rw [YN] at k1 k2;rw [Zx (by omega)] at k1 k2;exact⟨by simpa using k1,by simpa using k2⟩
   refine .sl g 0 xs.length cap 2 _ (fun i j=>match xs[i]? with |some x=>if j=0 then .slice (some ⟨blk (.cel x),0,none⟩) 2 2 else .slice (some ⟨blk (.frm x),0,none⟩) (fr x).length (fc x) |none=>undef) (by simp) h4 (fun r hr=> ?_) ⟨o1,o2,h4,_,_,0,0,hg,h6.symm,fun o a b=>by omega⟩ (fun i j hi hj=> ?_) (fun i j hi hj=> ?_)
   ·obtain⟨y,_,rfl⟩:=Zh.1 hr
    rfl
   ·have hx:xs[i]? =some xs[i]:=Zw hi;have hj:j<2:=hj;obtain⟨k1,k2⟩:=hcur i _ hx;simp only [hx];refine⟨?_,by rw [o2];show 0+i*2+j<xs.length*2;omega,o1⟩;rw [hww];simp only [World.cell?,hg];have:j=0\/j=1:=by omega
    rcases this with rfl|rfl
    ·rw [show 0+i*2+0=i*2 by omega];exact k1
    ·rw [show 0+i*2+1=i*2+1 by omega];exact k2
   ·have hi' :i<xs.length:=by simpa using hi
    have hx:xs[i]? =some xs[i]:=Zw hi';have hm:xs[i]∈ks:=hperm _ (ZY hi');have hr:(List.map Ty.row.toD (xs.map fun x=>(⟨[x,sm x],fr x⟩:Rowd)))[i]=Rowd.toD ⟨[xs[i],sm xs[i]],fr xs[i]⟩:=by rw [Z8,Z8];rfl
    have hj2:j<2:=by rw [hr] at hj;exact hj
    simp only [hx,hr]
    match j,hj2 with
    |0,_=>
     obtain⟨p1,p2⟩:=how (.inr (.inr ⟨i,_,hx,.inl ⟨rfl,rfl⟩⟩):CB blk xs cb rv (blk (.cel xs[i])) (6,[(i,0)]));have rc:=G.rng (.cel xs[i]) hm;have hc:w'.heap[blk (.cel xs[i])]? =some (.cells #[.int .i64 xs[i],.int .i64 (sm xs[i])] 3 (0,0)):=(hW _ rc.1).trans (G.cel _ hm);refine .sl (blk (.cel xs[i])) 0 2 2 1 [[.int .i64 xs[i]],[.int .i64 (sm xs[i])]] (fun i' _=>if i' =0 then .int .i64 xs[i] else .int .i64 (sm xs[i])) rfl (Zg _) (fun r hr=> ?_) ⟨p1,p2,Zg _,_,_,0,0,hc,rfl,fun o a b=>by omega⟩ (fun i' j hi hj=> ?_) (fun i' j hi hj=> ?_)
     ·simp at hr;rcases hr with rfl|rfl <;>rfl
     ·have hj:j<1:=hj;obtain rfl:j=0:=by omega
      have:i' =0\/i' =1:=by omega
      rcases this with rfl|rfl
      ·exact⟨by rw [hww];simp only [World.cell?,hc];rfl,by rw [p2];show _<2;omega,p1⟩
      ·exact⟨by rw [hww];simp only [World.cell?,hc];rfl,by rw [p2];show _<2;omega,p1⟩
     ·have hi2:i' <2:=hi;have:i' =0\/i' =1:=by omega
      rcases this with rfl|rfl
      ·have hj' :j<1:=hj;obtain rfl:j=0:=by omega
       exact .int .i64 _
      ·have hj' :j<1:=hj;obtain rfl:j=0:=by omega
       exact .int .i64 _
    |1,_=>
     obtain⟨p1,p2⟩:=how (.inr (.inr ⟨i,_,hx,.inr ⟨rfl,rfl⟩⟩):CB blk xs cb rv (blk (.frm xs[i])) (6,[(i,1)]));have p2:(E.ended w' lab hwf).hw (blk (.frm xs[i]))=(fr xs[i]).length*2:=by
      rw [p2];show(fr (xs.getD i 0)).length*2=_;rw [ZW,hx]
      rfl
     have rc:=G.rng (.frm xs[i]) ⟨hm,by simp⟩;have ho:=(G.frm _ hm (by simp)).kept (hW _ rc.1);have ho' :=ho;obtain⟨q1,cs,ty,lo,hi',q2,q3,q4,_⟩:=ho';exact xKP (w:=(E.ended w' lab hwf).w) ho (fun o ho=>⟨by rw [p2];exact ho,p1⟩) ⟨p1,p2,q1,cs,ty,lo,hi',q2,q3,q4⟩
end
end Go.Ab
end
section
namespace Go.Ab
open Go.Proofs Go.RowKit Go.Shelf
set_option maxRecDepth 100000
theorem xLI:I1:=fun blk cap zs w h1 h2 h3=>Any.sort_Ints Tryz.lays191 blk 0 cap zs w h1 h2 h3
section
variable [Inhabited Lb]
theorem xOZ:FG:=xAV
theorem IW{E:Env}{bxs:Nat->Prop}{pl:Pl}{c0 c1 c2 c3 c4 c5 c6:CV}{l:List Value}(h:VRs E bxs pl 0 [c0,c1,c2,c3,c4,c5,c6] l):
 ∃v0 v1 v2 v3 v4 v5 v6,l=[v0,v1,v2,v3,v4,v5,v6]/\VRc E bxs pl 3 c3 v3/\VRc E bxs pl 6 c6 v6:=by
 rcases l with _|⟨v0,l⟩
 ·exact h.elim
 obtain⟨_,h⟩:=h;rcases l with _|⟨v1,l⟩
 ·exact h.elim
 obtain⟨_,h⟩:=h;rcases l with _|⟨v2,l⟩
 ·exact h.elim
 obtain⟨_,h⟩:=h;rcases l with _|⟨v3,l⟩
 ·exact h.elim
 obtain⟨q3,h⟩:=h;rcases l with _|⟨v4,l⟩
 ·exact h.elim
 obtain⟨_,h⟩:=h;rcases l with _|⟨v5,l⟩
 ·exact h.elim
 obtain⟨_,h⟩:=h;rcases l with _|⟨v6,l⟩
 ·exact h.elim
 obtain⟨q6,h⟩:=h;rcases l with _|⟨v7,l⟩
 ·exact⟨v0,v1,v2,v3,v4,v5,v6,rfl,q3,q6⟩
 ·exact h.elim
theorem Dp{a:Act}{k:Nat}{v:Value}(hs:a.tmps.size=153)(hk:k<153)(h:a.tmps.getD k undef=v):a.tmps[k]? =some v:=by
 have hk:k<a.tmps.size:=by omega
 rw [Yx,Xt hk] at h;rw [Xt hk];exact Zc some h
theorem xGd{x9 x10:Int}{b3 b4 b5:Val}{r:Val×Bool}{I:Info}{σ:St}{c0 c1 c2 c3 c4 c5 c6:CV}(hst:zAr 8 I.body=[.code (Rg 8),.code LB])(hx:I.ext=[])(hl:I.lnt=[])(hn:I.nt=153)
 (g6:σ.get 6= .v false [.ptr 3 0]) (g8:σ.get 8= .v false [.ptr 4 0]) (g10:σ.get 10= .v false [.ptr 5 0]) (g12:σ.get 12= .v false [.ptr 6 0]) (g18:σ.get 18= .v false [.int .i64 x9]) (g20:σ.get 20= .v false [.int .i64 x10])
 (g7:σ.get 7= .v true [.int .i64 (Val.kind b3),.int .i64 (Val.n b3),.int .i64 (Val.step b3),.str (Val.text b3),.sl .ro .val (Val.list b3),.sl .ro .str (Val.columns b3),.sl .ro .row (Val.rows b3)])
 (g9:σ.get 9= .v true [.int .i64 (Val.kind b4),.int .i64 (Val.n b4),.int .i64 (Val.step b4),.str (Val.text b4),.sl .ro .val (Val.list b4),.sl .ro .str (Val.columns b4),.sl .ro .row (Val.rows b4)])
 (g11:σ.get 11= .v true [.int .i64 (Val.kind b5),.int .i64 (Val.n b5),.int .i64 (Val.step b5),.str (Val.text b5),.sl .ro .val (Val.list b5),.sl .ro .str (Val.columns b5),.sl .ro .row (Val.rows b5)])
 (g13:σ.get 13= .v true [c0,c1,c2,c3,c4,c5,c6])
 (h:zAj x9 x10 b3 b4 b5=some r):Reach Tryz.prog Tryz.f42 I (zAr 8 I.body) σ (Iq r):=by
 unfold zAj at h;split at h
 case isFalse=>cases h
 rename_i hc;obtain⟨hi0,hk0,hall,hlen⟩:=hc;obtain⟨i,rfl⟩:∃i:Nat,x9=i:=⟨x9.toNat,by omega⟩;obtain⟨k,rfl⟩:∃k:Nat,x10=k:=⟨x10.toNat,by omega⟩;rw [jI,jI] at h hall;have hok:∀r∈Val.rows b5,RowOk i k r:=fun r hr=>by
  have:=Zu.1 hall r hr;simp only [xN,Zs,ZU] at this;exact⟨this.1.1,this.1.2,this.2⟩
 rw [hst];refine Reach.tail fun C hP hnt hext a w hR=> ?_;obtain⟨hd,E,rfl,hi⟩:=hR;have hs:a.tmps.size=153:=hi.nt.trans (hnt.trans hn);have t3:=hi.tmp 3;rw [show 2*3=6 from rfl,g6] at t3;have t4:=hi.tmp 4;rw [show 2*4=8 from rfl,g8] at t4;have t5:=hi.tmp 5;rw [show 2*5=10 from rfl,g10] at t5;have t6:=hi.tmp 6;rw [show 2*6=12 from rfl,g12] at t6;have t9:=hi.tmp 9;rw [show 2*9=18 from rfl,g18] at t9;have t10:=hi.tmp 10;rw [show 2*10=20 from rfl,g20] at t10;obtain⟨⟨e3,_⟩,_⟩:=t3;obtain⟨⟨e4,_⟩,_⟩:=t4;obtain⟨⟨e5,_⟩,_⟩:=t5;obtain⟨⟨e6,_⟩,_⟩:=t6;obtain⟨e9,_⟩:=t9;obtain⟨e10,_⟩:=t10;obtain⟨o3,vals3,ty3,hb3,hv3⟩:=hi.box 3 _ g7;obtain⟨o4,vals4,ty4,hb4,hv4⟩:=hi.box 4 _ g9;obtain⟨o5,vals5,ty5,hb5,hv5⟩:=hi.box 5 _ g11;obtain⟨o6,vals6,ty6,hb6,hv6⟩:=hi.box 6 _ g13;obtain⟨_,_,_,v3,_,_,_,l3,⟨ta,rfl,hta⟩,_⟩:=IW hv3;obtain⟨_,_,_,v4,_,_,_,l4,⟨tb,rfl,htb⟩,_⟩:=IW hv4;obtain⟨_,_,_,_,_,_,v5,l5,_,hrow⟩:=IW hv5;obtain⟨u0,u1,u2,u3,u4,u5,u6,l6,_,_⟩:=IW hv6;have hB6:E.w.heap[E.bx 6]? =some (.cells #[u0,u1,u2,u3,u4,u5,u6] ty6 (0,0)):=by rw [hb6,show vals6= #[u0,u1,u2,u3,u4,u5,u6] from Y8 l6]
 have k3:E.w.cell? ⟨E.bx 3,3,none⟩=some (.string ta):=by
  have:vals3[3]? =some (.string ta):=by rw [<-Z4,l3];rfl
  simp only [World.cell?,hb3];exact this
 have k4:E.w.cell? ⟨E.bx 4,3,none⟩=some (.string tb):=by
  have:vals4[3]? =some (.string tb):=by rw [<-Z4,l4];rfl
  simp only [World.cell?,hb4];exact this
 have k5:E.w.cell? ⟨E.bx 5,6,none⟩=some v5:=by
  have:vals5[6]? =some v5:=by rw [<-Z4,l5];rfl
  simp only [World.cell?,hb5];exact this
 have hlaid:∀x∈jQ,x.1<E.w.heap.size/\E.w.heap[x.1]? =some x.2:=fun x hx=>by
  obtain⟨b1,b2,b3,_⟩:=hi.base x hx;exact⟨ZG b1 hi.size,(hi.old x.1 b1 b2).1.trans b3⟩
 have hrs:FD E.w v5 (Val.rows b5):=xLl hrow;have W:=xO8 xOZ xLI hlaid hrs hok hlen k3 k4 k5 hB6 (a:=a) ⟨hd,hs,Dp hs (by decide) e3,Dp hs (by decide) e4,Dp hs (by decide) e5,Dp hs (by decide) e6,Dp hs (by decide) e9,Dp hs (by decide) e10⟩;have hex:∀s b,C.ext s=some b->False:=fun s b hb=>by have:=hext s b hb;rw [hx] at this;simp at this
 have hB6l:E.bx 6<E.w.heap.size:=(Zk.1 hB6).1;refine wp_mono W ?_;intro e a1 w1 h1;cases e with
 |normal=>
  refine wp_mono h1 ?_;rintro e a' w' ⟨rfl,d1,d2,d3,Wd,hbel,hcase⟩;refine⟨rfl,?_⟩;have d3' :a'.tmps.getD 6 undef= .pointer (some ⟨E.bx 6,0,none⟩):=B2 d3;rcases hcase with ⟨hall,hC⟩|⟨hall,blk,fc,cb,rv,hC,T⟩
  ·rw [Zj (by rw [hall];simp)] at h;cases h;have hz:=hbel.size;refine LN (B6:=E.bx 6) (lab:=fun _=>none) (hwf:=fun _=>0) hi hex hx hl (by rw [o6];simp) ⟨hC.os.trans hbel.os,hC.tape.trans hbel.tape,hC.output.trans hbel.output⟩ (by rw [hC.size];exact hz) (fun b hb hne=>(hC.other b hne).trans (hbel.block b hb)) d1 (d2.trans (hn.symm.trans hnt.symm)) (fun b b' l h=>by cases h) (fun b l h=>by cases h) (v:= .agg LL) rfl ?_ ?_
   ·exact⟨_,rfl,rfl,rfl,rfl,⟨⟨#[]⟩,rfl,rfl⟩,.nil none 0 _ ⟨rfl,rfl⟩,.nil none 0 _ ⟨rfl,rfl⟩,.nil none 0 _ ⟨rfl,rfl⟩,trivial⟩
   ·rw [hP];exact Jp rfl d3' hC.at'
  ·rw [Zx hall] at h;cases h;have hz:=hbel.size;obtain⟨rp,rc,rfl⟩:=Jm T.rows;have hperm:∀x∈oM i (Val.rows b5),x∈uK i (Val.rows b5):=fun x hx=>Xz.1 hx;obtain⟨kc,G⟩:=T.rel;have hnd:(oM i (Val.rows b5)).Nodup:=(Xg _ _).nodup_iff.2 G.nodup;obtain⟨lab,hwf,j1,j2,j3⟩:=xOJ E rfl T (w' :=w') (fun b hb=>hC.other b (by omega)) hC.size hperm hnd;rw [hta,htb] at j3;refine LN (B6:=E.bx 6) (lab:=lab) (hwf:=hwf) hi hex hx hl (by rw [o6];simp) ⟨hC.os.trans hbel.os,hC.tape.trans hbel.tape,hC.output.trans hbel.output⟩ (by rw [hC.size];exact hz) (fun b hb hne=>(hC.other b hne).trans (hbel.block b hb)) d1 (d2.trans (hn.symm.trans hnt.symm)) j1 j2 rfl j3 ?_;rw [hP];exact Jp rfl d3' hC.at'
 |exit id=>exact h1.elim
 |goto l=>exact h1.elim
 |ret=>exact h1.elim
 |panic c=>exact h1.elim
 |outgrown=>exact h1.elim
end
end Go.Ab
end
section
open Go.Proofs
namespace Go.Ab.T
set_option maxRecDepth 100000
variable [Inhabited Lb]
theorem LR:FnOk Tryz.prog 17 Tryz.f17 (mI Tryz.f17 63 [.tmp 4] [0,2,8,10,18] [(2,[0,2,10])] []):=fO Tryz.func17
def xA1(x1 x5:Int):St:=[(0,(vS .ro .val [])),(2,(vI x1)),(10,(vI x5))]
theorem xCK{N}:∀n x1 x5 r,JX N n x1 x5=some r->RS LR 2 (xA1 x1 x5) (Ni r):=
 nI (fun _ _ _ h=>nE h) fun n ih x1 x5 r h=>cE (oA h) (fun h=>nE (iE h).2) fun h=>dS h
theorem xJK{N a0 a1 r}(h:JW N a0 a1=some r):AbC 17 (xJJ a0 a1) (Ni r):=
 oK LR <| tE (oA h) (xCK _ _ _ _ h)
theorem L7:FnOk Tryz.prog 125 Tryz.f125 (mI Tryz.f125 28 [.tmp 4] [0,2,8,10,22,30,52] [(5,[0,2,10])] []):=fO Tryz.func125
def xBm(x0:List Str)(x1 x5:Int):St:=[(0,(vS .ro .str x0)),(2,(vI x1)),(10,(vI x5))]
theorem xC3{N}:∀n x0 x1 x5 r,HN N n x0 x1 x5=some r->RS L7 5 (xBm x0 x1 x5) (Nm r):=
 nI (fun _ _ _ _ h=>nE h) fun n ih x0 x1 x5 r h=>cE (oA h) (fun h=>cE (iE h) (fun h=>dS h) fun h=>tS h (ih _ _ _ _ h.2)) fun h=>dS h
theorem xJ4{N a0 a1 r}(h:J4 N a0 a1=some r):AbC 125 (xJ3 a0 a1) (Nm r):=
 oK L7 <| cE (oA h) (fun h=>dE h) fun h=>tE h (xC3 _ _ _ _ _ h.2)
theorem xE9:FnOk Tryz.prog 173 Tryz.f173 (mI Tryz.f173 12 [.tmp 4] [0,2,8,20] [] []):=fO Tryz.func173
theorem xJT{N a0 a1 r}(h:J0 N a0 a1=some r):AbC 173 (xJS a0 a1) (xJU r):=
 oK xE9 <| cE (oA h) (fun h=>dE h) fun h=>dE h
theorem xFa:FnOk Tryz.prog 174 Tryz.f174 (mI Tryz.f174 12 [.tmp 4] [0,2,8,20] [] []):=fO Tryz.func174
theorem xJW{N a0 a1 r}(h:J2 N a0 a1=some r):AbC 174 (xJV a0 a1) (xJX r):=
 oK xFa <| cE (oA h) (fun h=>dE h) fun h=>dE h
theorem xE6:FnOk Tryz.prog 156 Tryz.f156 (mI Tryz.f156 18 [.tmp 4] [0,2,4,8,20,32,5] [] []):=fO Tryz.func156
theorem xJ1{N a0 a1 r}(h:HL N a0 a1=some r):AbC 156 (xJ0 a0 a1) (xJ2 r):=
 oK xE6 <| bE (oA h) xJT fun r1 h=>cE h (fun h=>dE h) fun h=>bE h xJW fun r2 h=>cE h (fun h=>dE h) fun h=>dE h
theorem L8:FnOk Tryz.prog 126 Tryz.f126 (mI Tryz.f126 27 [.tmp 4] [0,2,8,10,22,30,50] [(5,[0,2,10])] []):=fO Tryz.func126
def xBn(x0:List Rowd)(x1 x5:Int):St:=[(0,(vS .ro .row x0)),(2,(vI x1)),(10,(vI x5))]
theorem xC4{N}:∀n x0 x1 x5 r,HM N n x0 x1 x5=some r->RS L8 5 (xBn x0 x1 x5) (Nl r):=
 nI (fun _ _ _ _ h=>nE h) fun n ih x0 x1 x5 r h=>cE (oA h) (fun h=>bE (iE h) xJ1 fun r1 h=>cE h (fun h=>dS h) fun h=>tS h (ih _ _ _ _ h.2)) fun h=>dS h
theorem xJZ{N a0 a1 r}(h:J3 N a0 a1=some r):AbC 126 (xJY a0 a1) (Nl r):=
 oK L8 <| cE (oA h) (fun h=>dE h) fun h=>tE h (xC4 _ _ _ _ _ h.2)
def G67(q:Val->Int->Option (Int)):Prop:=∀a0 a1 r,q a0 a1=some r->AbC 67 (No a0 a1) (Nq r)
def G13(q:(List Val)->Int->Option (Int)):Prop:=∀a0 a1 r,q a0 a1=some r->AbC 13 (J6 a0 a1) (HO r)
theorem xFy:FnOk Tryz.prog 67 Tryz.f67 (mI Tryz.f67 31 [.tmp 4] [0,2,4,8,22,34,46,58,5] [] []):=fO Tryz.func67
theorem xJ7{N}{q0}(g0:G67 q0){q1}(g1:G13 q1){a0 a1 r}(h:Np N q0 q1 a0 a1=some r):AbC 67 (No a0 a1) (Nq r):=
 oK xFy <| cE (oA h) (fun h=>dE h) fun h=>bE h (g1 _ _ _) fun r1 h=>cE h (fun h=>dE h) fun h=>bE h xJ4 fun r2 h=>cE h (fun h=>dE h) fun h=>bE h xJZ fun r3 h=>cE h (fun h=>dE h) fun h=>dE h
theorem Lc:FnOk Tryz.prog 13 Tryz.f13 (mI Tryz.f13 27 [.tmp 4] [0,2,8,10,22,30,50] [(5,[0,2,10])] []):=fO Tryz.func13
def xBv(x0:List Val)(x1 x5:Int):St:=[(0,(vS .ro .val x0)),(2,(vI x1)),(10,(vI x5))]
theorem xDb{N}{q0}(g0:G67 q0){q1}(g1:G13 q1):∀n x0 x1 x5 r,Fb N q0 q1 n x0 x1 x5=some r->RS Lc 5 (xBv x0 x1 x5) (HO r):=
 nI (fun _ _ _ _ h=>nE h) fun n ih x0 x1 x5 r h=>cE (oA h) (fun h=>bE (iE h) (g0 _ _ _) fun r1 h=>cE h (fun h=>dS h) fun h=>tS h (ih _ _ _ _ h.2)) fun h=>dS h
theorem xJ5{N}{q0}(g0:G67 q0){q1}(g1:G13 q1){a0 a1 r}(h:Nn N q0 q1 a0 a1=some r):AbC 13 (J6 a0 a1) (HO r):=
 oK Lc <| cE (oA h) (fun h=>dE h) fun h=>tE h (xDb g0 g1 _ _ _ _ _ h.2)
theorem xJ8{N:Nat}:∀d,G67 (A3 N d).c_laws_szValue/\G13 (A3 N d).c_laws_szValueS:=by
 intro d
 induction d with
 |zero=>exact⟨fun _ _ _ h=>nE h,fun _ _ _ h=>nE h⟩
 |succ d ih=>
  obtain⟨ih0,ih1⟩:=ih;exact⟨fun _ _ _ h=>xJ7 (N:=N) ih0 ih1 h,fun _ _ _ h=>xJ5 (N:=N) ih0 ih1 h⟩
theorem xJ6{N:Nat}{a0:List Val}{a1:Int}{r:Int}(h:J5 N a0 a1=some r):AbC 13 (J6 a0 a1) (HO r):=(xJ8 N).2 _ _ r h
theorem L9:FnOk Tryz.prog 127 Tryz.f127 (mI Tryz.f127 22 [.tmp 2] [0,4,6,8,22] [(3,[0,6,8])] [(5,[(0,.ref,false)]),(6,[(0,.take,false)])]):=fO Tryz.func127
def xBo(x0 x3:List Str)(x4:Int):St:=[(0,(vS .ro .str x0)),(6,(vS .own .str x3)),(8,(vI x4))]
theorem xC5{N}:∀n x0 x3 x4 r,HW N n x0 x3 x4=some r->RS L9 3 (xBo x0 x3 x4) (Nu r):=
 nI (fun _ _ _ _ h=>nE h) fun n ih x0 x3 x4 r h=>cE (oA h) (fun h=>tS (iE (iE h)) (ih _ _ _ _ (iE (iE h)).2)) fun h=>dS h
theorem xKm{N a0 r}(h:HV N a0=some r):AbC 127 (xKl a0) (Nu r):=
 oK L9 <| tE (iE (oA h)) (xC5 _ _ _ _ _ (iE (oA h)).2)
theorem MB:FnOk Tryz.prog 175 Tryz.f175 (mI Tryz.f175 22 [.tmp 2] [0,4,6,8,22] [(3,[0,6,8])] [(5,[(0,.ref,false)]),(6,[(0,.take,false)])]):=fO Tryz.func175
def xBL(x0 x3:List Int)(x4:Int):St:=[(0,(vS .ro .int x0)),(6,(vS .own .int x3)),(8,(vI x4))]
theorem xDs{N}:∀n x0 x3 x4 r,HQ N n x0 x3 x4=some r->RS MB 3 (xBL x0 x3 x4) (Nr r):=
 nI (fun _ _ _ _ h=>nE h) fun n ih x0 x3 x4 r h=>cE (oA h) (fun h=>tS (iE (iE h)) (ih _ _ _ _ (iE (iE h)).2)) fun h=>dS h
theorem xKa{N a0 r}(h:HP N a0=some r):AbC 175 (xJ9 a0) (Nr r):=
 oK MB <| tE (iE (oA h)) (xDs _ _ _ _ _ (iE (oA h)).2)
theorem xFe:FnOk Tryz.prog 209 Tryz.f209 (mI Tryz.f209 11 [.cell 2 112] [0,2,4,6,3,5,7] [] []):=fO Tryz.func209
theorem xKe{N a0 r}(h:J7 N a0=some r):AbC 209 (xKd a0) (xKf r):=
 oK xFe <| dE (oA h)
theorem MC:FnOk Tryz.prog 176 Tryz.f176 (mI Tryz.f176 23 [.tmp 2] [0,4,6,8,22] [(3,[0,6,8])] [(5,[(0,.ref,false)]),(6,[(0,.take,false)])]):=fO Tryz.func176
def xBM(x0 x3:List Org)(x4:Int):St:=[(0,(vS .ro .org x0)),(6,(vS .own .org x3)),(8,(vI x4))]
theorem xDt{N}:∀n x0 x3 x4 r,HS N n x0 x3 x4=some r->RS MC 3 (xBM x0 x3 x4) (Ns r):=
 nI (fun _ _ _ _ h=>nE h) fun n ih x0 x3 x4 r h=>cE (oA h) (fun h=>bE (iE h) xKe fun r1 h=>tS (iE h) (ih _ _ _ _ (iE h).2)) fun h=>dS h
theorem xKc{N a0 r}(h:HR N a0=some r):AbC 176 (xKb a0) (Ns r):=
 oK MC <| tE (iE (oA h)) (xDt _ _ _ _ _ (iE (oA h)).2)
theorem xE7:FnOk Tryz.prog 157 Tryz.f157 (mI Tryz.f157 13 [.cell 2 77] [0,2,4,6,3,5,7] [] [(4,[(0,.take,false)])]):=fO Tryz.func157
theorem xKj{N a0 r}(h:Fc N a0=some r):AbC 157 (xKi a0) (xKk r):=
 oK xE7 <| bE (oA h) xKa fun r1 h=>bE h xKc fun r2 h=>dE h
theorem La:FnOk Tryz.prog 128 Tryz.f128 (mI Tryz.f128 23 [.tmp 2] [0,4,6,8,22] [(3,[0,6,8])] [(5,[(0,.ref,false)]),(6,[(0,.take,false)])]):=fO Tryz.func128
def xBp(x0 x3:List Rowd)(x4:Int):St:=[(0,(vS .ro .row x0)),(6,(vS .own .row x3)),(8,(vI x4))]
theorem xC6{N}:∀n x0 x3 x4 r,HU N n x0 x3 x4=some r->RS La 3 (xBp x0 x3 x4) (Nt r):=
 nI (fun _ _ _ _ h=>nE h) fun n ih x0 x3 x4 r h=>cE (oA h) (fun h=>bE (iE h) xKj fun r1 h=>tS (iE h) (ih _ _ _ _ (iE h).2)) fun h=>dS h
theorem xKh{N a0 r}(h:HT N a0=some r):AbC 128 (xKg a0) (Nt r):=
 oK La <| tE (iE (oA h)) (xC6 _ _ _ _ _ (iE (oA h)).2)
def G68(q:Val->Option (Val)):Prop:=∀a0 r,q a0=some r->AbC 68 (Nv a0) (Nw r)
def G14(q:(List Val)->Option ((List Val))):Prop:=∀a0 r,q a0=some r->AbC 14 (J8 a0) (HZ r)
theorem xFz:FnOk Tryz.prog 68 Tryz.f68 (mI Tryz.f68 29 [.cell 2 30] [0,2,4,6,3,5,7] [] [(9,[(0,.take,false)])]):=fO Tryz.func68
theorem xKo{N}{q0}(g0:G68 q0){q1}(g1:G14 q1){a0 r}(h:H0 N q0 q1 a0=some r):AbC 68 (Nv a0) (Nw r):=
 oK xFz <| bE (oA h) (g1 _ _) fun r1 h=>bE h xKm fun r2 h=>bE h xKh fun r3 h=>dE h
theorem Lk:FnOk Tryz.prog 14 Tryz.f14 (mI Tryz.f14 23 [.tmp 2] [0,4,6,8,22] [(3,[0,6,8])] [(5,[(0,.ref,false)]),(6,[(0,.take,false)])]):=fO Tryz.func14
def xBA(x0 x3:List Val)(x4:Int):St:=[(0,(vS .ro .val x0)),(6,(vS .own .val x3)),(8,(vI x4))]
theorem xDg{N}{q0}(g0:G68 q0){q1}(g1:G14 q1):∀n x0 x3 x4 r,HX N q0 q1 n x0 x3 x4=some r->RS Lk 3 (xBA x0 x3 x4) (HZ r):=
 nI (fun _ _ _ _ h=>nE h) fun n ih x0 x3 x4 r h=>cE (oA h) (fun h=>bE (iE h) (g0 _ _) fun r1 h=>tS (iE h) (ih _ _ _ _ (iE h).2)) fun h=>dS h
theorem xKn{N}{q0}(g0:G68 q0){q1}(g1:G14 q1){a0 r}(h:HY N q0 q1 a0=some r):AbC 14 (J8 a0) (HZ r):=
 oK Lk <| tE (iE (oA h)) (xDg g0 g1 _ _ _ _ _ (iE (oA h)).2)
theorem xKp{N:Nat}:∀d,G68 (AL N d).c_laws_toValue/\G14 (AL N d).c_laws_toValueS:=by
 intro d
 induction d with
 |zero=>exact⟨fun _ _ h=>nE h,fun _ _ h=>nE h⟩
 |succ d ih=>
  obtain⟨ih0,ih1⟩:=ih;exact⟨fun _ _ h=>xKo (N:=N) ih0 ih1 h,fun _ _ h=>xKn (N:=N) ih0 ih1 h⟩
theorem EZ{N:Nat}{a0:List Val}{r:(List Val)}(h:CS N a0=some r):AbC 14 (J8 a0) (HZ r):=(xKp N).2 _ r h
theorem xFh:FnOk Tryz.prog 22 Tryz.f22 (mI Tryz.f22 26 [.tmp 2] [0,4,6,8,12,24,40,48] [] []):=fO Tryz.func22
theorem xMh{N a0 r}(h:Bl N a0=some r):AbC 22 (xMg a0) (xMi r):=
 oK xFh <| cE (oA h) (fun h=>dE h) fun h=>cE h (fun h=>dE (rb Y 0 h)) fun h=>cE h (fun h=>dE (rb Y 0 h)) fun h=>cE h (fun h=>dE (rb Y 0 h)) fun h=>cE h (fun h=>dE (rb Y 0 h)) fun h=>cE h (fun h=>dE h) fun h=>cE h (fun h=>dE (rb Y 0 h)) fun h=>cE h (fun h=>dE (rb Y 0 h)) fun h=>cE h (fun h=>dE (rb Y 0 h)) fun h=>cE h (fun h=>dE (rb Y 0 h)) fun h=>cE h (fun h=>dE (rb Y 0 h)) fun h=>cE h (fun h=>dE (rb Y 0 h)) fun h=>cE h (fun h=>dE h) fun h=>cE h (fun h=>dE (rb Y 0 h)) fun h=>cE h (fun h=>dE (rb Y 0 h)) fun h=>cE h (fun h=>dE h) fun h=>cE h (fun h=>dE h) fun h=>dE h
theorem xES:FnOk Tryz.prog 12 Tryz.f12 (mI Tryz.f12 5 [.cell 2 30] [0,4,5] [] []):=fO Tryz.func12
theorem zH{N a0 r}(h:yV N a0=some r):AbC 12 (xMy a0) (xMz r):=
 oK xES <| dE (oA h)
theorem xFx:FnOk Tryz.prog 66 Tryz.f66 (mI Tryz.f66 15 [.tmp 6] [0,2,4,12] [] [(1,[(3,.take,false)])]):=fO Tryz.func66
theorem IE{N a0 a1 a2 r}(h:D7 N a0 a1 a2=some r):AbC 66 (xNz a0 a1 a2) (xNA r):=
 oK xFx <| cE (oA h) (fun h=>dE h) fun h=>dE h
theorem xFw:FnOk Tryz.prog 62 Tryz.f62 (mI Tryz.f62 5 [.tmp 2] [0,4] [] []):=fO Tryz.func62
theorem Dc{N a0 r}(h:BW N a0=some r):AbC 62 (xNY a0) (xNZ r):=
 oK xFw <| bE (oA h) IE fun r1 h=>dE h
theorem MR:FnOk Tryz.prog 63 Tryz.f63 (mI Tryz.f63 29 [.tmp 2] [0,4,6,14,50] [(2,[0,6])] [(4,[(4,.take,false),(10,.take,false)])]):=fO Tryz.func63
def xCi(x0:Str)(x3:Int):St:=[(0,(vT x0)),(6,(vI x3))]
theorem xDT{N}:∀n x0 x3 r,C7 N n x0 x3=some r->RS MR 2 (xCi x0 x3) (xAg r):=
 nI (fun _ _ _ h=>nE h) fun n ih x0 x3 r h=>cE (oA h) (fun h=>cE (iE h) (fun h=>dS (cb Y (cb Y h))) fun h=>cE (rp 1 h) (fun h=>dS (cb Y h)) fun h=>cE (rp 3 h) (fun h=>dS h) fun h=>tS h (ih _ _ _ h.2)) fun h=>dS h
theorem xMM{N a0 r}(h:KB N a0=some r):AbC 63 (xML a0) (xAg r):=
 oK MR <| tE (oA h) (xDT _ _ _ _ h)
theorem xEV:FnOk Tryz.prog 122 Tryz.f122 (mI Tryz.f122 16 [.tmp 2] [0,2,4,3] [] [(1,[(3,.take,false),(8,.take,false)])]):=fO Tryz.func122
theorem xNV{N a0 r}(h:KN N a0=some r):AbC 122 (xNU a0) (xNW r):=
 oK xEV <| cE (oA h) (fun h=>dE (cb Y h)) fun h=>cE h (fun h=>dE h) fun h=>dE h
theorem xE4:FnOk Tryz.prog 154 Tryz.f154 (mI Tryz.f154 10 [.tmp 4] [0,2,8,14] [] []):=fO Tryz.func154
theorem xNC{N a0 a1 r}(h:IF N a0 a1=some r):AbC 154 (xNB a0 a1) (xND r):=
 oK xE4 <| cE (oA h) (fun h=>dE h) fun h=>dE h
def IX(q:Val->Option (Int)):Prop:=∀a0 r,q a0=some r->AbC 123 (Jy a0) (Hv r)
theorem L5:FnOk Tryz.prog 123 Tryz.f123 (mI Tryz.f123 22 [.tmp 2] [0,2,4,6,8,18,3] [(3,[2,6,8,3])] []):=fO Tryz.func123
def xBk(x3 x4:Int)(b1:Val):St:=[(2,(vP 1)),(6,(vI x3)),(8,(vI x4)),(3,(vV .ro b1))]
theorem xC1{N}{q0}(g0:IX q0):∀n x3 x4 b1 r,Et N q0 n x3 x4 b1=some r->RS L5 3 (xBk x3 x4 b1) (Hv r):=
 nI (fun _ _ _ _ h=>nE h) fun n ih x3 x4 b1 r h=>cE (oA h) (fun h=>bE (iE h) (g0 _ _) fun r1 h=>bE h xNC fun r2 h=>tS h (ih _ _ _ _ h.2)) fun h=>dS h
theorem xMv{N}{q0}(g0:IX q0){a0 r}(h:xAa N q0 a0=some r):AbC 123 (Jy a0) (Hv r):=
 oK L5 <| tE (oA h) (xC1 g0 _ _ _ _ _ h)
theorem xAb{N:Nat}:∀d,IX (DY N d)
 |0=>fun _ _ h=>nE h
 |d+1=>fun _ _ h=>xMv (N:=N) (xAb d) h
theorem xMw{N:Nat}{a0:Val}{r:Int}(h:Hu N a0=some r):AbC 123 (Jy a0) (Hv r):=xAb N _ r h
theorem Lu:FnOk Tryz.prog 152 Tryz.f152 (mI Tryz.f152 45 [.tmp 2] [0,4,6,8,10,18,82] [(2,[0,6])] [(4,[(4,.take,false)]),(5,[(4,.take,false)]),(6,[(0,.take,false),(2,.take,false),(5,.take,false),(6,.take,false)])]):=fO Tryz.func152
def xBD(x0:Str)(x3:Int):St:=[(0,(vT x0)),(6,(vI x3))]
theorem xDj{N}:∀n x0 x3 r,BV N n x0 x3=some r->RS Lu 2 (xBD x0 x3) (xAv r):=
 nI (fun _ _ _ h=>nE h) fun n ih x0 x3 r h=>cE (oA h) (fun h=>cE (iE h) (fun h=>cE (rp 2 (rp 1 h)) (fun h=>cE (rp 4 h) (fun h=>cE h (fun h=>dS (cb Y h)) fun h=>cE h (fun h=>dS h) fun h=>tS h (ih _ _ _ h.2)) fun h=>tS (cb F h) (ih _ _ _ (cb F h).2)) fun h=>cE h (fun h=>cE h (fun h=>dS (cb Y h)) fun h=>dS (cb Y h)) fun h=>tS (cb F h) (ih _ _ _ (cb F h).2)) fun h=>cE (rp 1 h) (fun h=>cE (cb Y (rp 3 h)) (fun h=>dS (cb Y h)) fun h=>cE h (fun h=>dS h) fun h=>tS h (ih _ _ _ h.2)) fun h=>cE (cb Y h) (fun h=>dS (cb Y h)) fun h=>dS (cb Y h)) fun h=>dS h
theorem xNM{N a0 r}(h:KH N a0=some r):AbC 152 (xNK a0) (xAv r):=
 oK Lu <| tE (oA h) (xDj _ _ _ _ h)
theorem xE8:FnOk Tryz.prog 172 Tryz.f172 (mI Tryz.f172 2 [.tmp 0] [0] [] []):=fO Tryz.func172
theorem xNI{N  r}(h:KG N  =some r):AbC 172 (xNH ) (xNJ r):=
 oK xE8 <| dE (oA h)
theorem Lr:FnOk Tryz.prog 150 Tryz.f150 (mI Tryz.f150 18 [.tmp 4] [0,2,8,10,18,34] [(2,[0,2,10])] []):=fO Tryz.func150
def xBB(x0:List Str)(x1:Str)(x5:Int):St:=[(0,(vS .ro .str x0)),(2,(vT x1)),(10,(vI x5))]
theorem xDh{N}:∀n x0 x1 x5 r,D6 N n x0 x1 x5=some r->RS Lr 2 (xBB x0 x1 x5) (xAu r):=
 nI (fun _ _ _ _ h=>nE h) fun n ih x0 x1 x5 r h=>cE (oA h) (fun h=>cE (iE h) (fun h=>dS h) fun h=>tS h (ih _ _ _ _ h.2)) fun h=>dS h
theorem xAt{N a0 a1 r}(h:ID N a0 a1=some r):AbC 150 (xNy a0 a1) (xAu r):=
 oK Lr <| tE (oA h) (xDh _ _ _ _ _ h)
theorem xE3:FnOk Tryz.prog 153 Tryz.f153 (mI Tryz.f153 6 [.tmp 2] [0,4] [] []):=fO Tryz.func153
theorem xMH{N a0 r}(h:Hw N a0=some r):AbC 153 (xMF a0) (xMI r):=
 oK xE3 <| bE (oA h) xNI fun r1 h=>bE h xAt fun r2 h=>dE h
theorem xEU:FnOk Tryz.prog 121 Tryz.f121 (mI Tryz.f121 15 [.tmp 2] [0,4] [] [(1,[(2,.take,false),(7,.take,false)])]):=fO Tryz.func121
theorem xAe{N a0 r}(h:Fs N a0=some r):AbC 121 (xMJ a0) (xMK r):=
 oK xEU <| bE (oA h) xNM fun r1 h=>cE h (fun h=>cE h (fun h=>bE h xMH fun r2 h=>dE h) fun h=>dE h) fun h=>dE (cb F h)
theorem LZ:FnOk Tryz.prog 115 Tryz.f115 (mI Tryz.f115 18 [.tmp 2] [0,4,6,14,34] [(2,[0,6])] []):=fO Tryz.func115
def xBf(x0:List Str)(x3:Int):St:=[(0,(vS .ro .str x0)),(6,(vI x3))]
theorem xCW{N}:∀n x0 x3 r,DV N n x0 x3=some r->RS LZ 2 (xBf x0 x3) (Oj r):=
 nI (fun _ _ _ h=>nE h) fun n ih x0 x3 r h=>cE (oA h) (fun h=>bE (iE (iE h)) xAt fun r1 h=>cE h (fun h=>dS h) fun h=>tS h (ih _ _ _ h.2)) fun h=>dS h
theorem Jx{N a0 r}(h:Fr N a0=some r):AbC 115 (xMf a0) (Oj r):=
 oK LZ <| tE (oA h) (xCW _ _ _ _ h)
theorem L1:FnOk Tryz.prog 116 Tryz.f116 (mI Tryz.f116 23 [.tmp 2] [0,4,6,14,30] [(2,[0,6])] [(6,[(3,.take,false)])]):=fO Tryz.func116
def xBg(x0:List Str)(x3:Int):St:=[(0,(vS .ro .str x0)),(6,(vI x3))]
theorem xCX{N}:∀n x0 x3 r,Ex N n x0 x3=some r->RS L1 2 (xBg x0 x3) (xAz r):=
 nI (fun _ _ _ h=>nE h) fun n ih x0 x3 r h=>cE (oA h) (fun h=>bE (iE h) xAe fun r1 h=>cE h (fun h=>dS h) fun h=>tS h (ih _ _ _ h.2)) fun h=>bE h IE fun r1 h=>cE h (fun h=>bE h Jx fun r2 h=>dS h) fun h=>dS h
theorem xAy{N a0 r}(h:II N a0=some r):AbC 116 (xNS a0) (xAz r):=
 oK L1 <| tE (oA h) (xCX _ _ _ _ h)
theorem xE5:FnOk Tryz.prog 155 Tryz.f155 (mI Tryz.f155 24 [.tmp 4] [0,2,4,6,8,5,7] [] [(1,[(5,.take,false),(11,.take,false)])]):=fO Tryz.func155
theorem IH{N a0 a1 r}(h:D8 N a0 a1=some r):AbC 155 (xNQ a0 a1) (xNR r):=
 oK xE5 <| cE (oA h) (fun h=>dE h) fun h=>cE h (fun h=>dE h) fun h=>dE h
theorem L6:FnOk Tryz.prog 124 Tryz.f124 (mI Tryz.f124 41 [.tmp 2] [0,4,6,14,80] [(2,[0,6])] [(4,[(6,.take,false),(14,.take,false),(17,.take,false)])]):=fO Tryz.func124
def xBl(x0:List Org)(x3:Int):St:=[(0,(vS .ro .org x0)),(6,(vI x3))]
theorem xC2{N}:∀n x0 x3 r,Ca N n x0 x3=some r->RS L6 2 (xBl x0 x3) (xAw r):=
 nI (fun _ _ _ h=>nE h) fun n ih x0 x3 r h=>cE (oA h) (fun h=>cE (iE h) (fun h=>dS (cb Y (cb Y h))) fun h=>cE (rp 1 h) (fun h=>dS (cb Y h)) fun h=>cE h (fun h=>bE (rp 5 (iE h)) IH fun r1 h=>cE h (fun h=>dS h) fun h=>tS h (ih _ _ _ h.2)) fun h=>tS (cb F h) (ih _ _ _ (cb F h).2)) fun h=>dS h
theorem xNP{N a0 r}(h:KI N a0=some r):AbC 124 (xNN a0) (xAw r):=
 oK L6 <| tE (oA h) (xC2 _ _ _ _ h)
theorem GW:FnOk Tryz.prog 65 Tryz.f65 (mI Tryz.f65 55 [.tmp 2] [0,2,4,6,8,10,30,40,80,90,108,3,9] [(4,[2,6,3]),(10,[2,6,8,10,3,9])] [(1,[(4,.take,false)]),(7,[(7,.take,false)])]):=fO Tryz.func65
def Ke(x3:Int)(b1:Val):St:=[(2,(vP 1)),(6,(vI x3)),(3,(vV .ro b1))]
def xCk(x3 x5:Int)(b1:Val)(b4:Rowd):St:=[(2,(vP 1)),(6,(vI x3)),(8,(vP 4)),(10,(vI x5)),(3,(vV .ro b1)),(9,.v true [.sl .ro .int b4.cells,.sl .ro .org b4.frm])]
theorem xDV{N}{k4}(hk4:∀z0 z1 r,k4 z0 z1=some r->RS GW 4 (Ke z0 z1) (IL r)):∀n x3 x5 b1 b4 r,Dd N k4 n x3 x5 b1 b4=some r->RS GW 10 (xCk x3 x5 b1 b4) (IL r):=
 nI (fun _ _ _ _ _ h=>nE h) fun n ih x3 x5 b1 b4 r h=>cE (oA h) (fun h=>bE (iE h) Dc fun r1 h=>cE h (fun h=>dS h) fun h=>tS h (ih _ _ _ _ _ h.2)) fun h=>tS h (hk4 _ _ _ h.2)
theorem xDW{N}:∀n x3 b1 r,De N n x3 b1=some r->RS GW 4 (Ke x3 b1) (IL r):=
 nI (fun _ _ _ h=>nE h) fun n ih x3 b1 r h=>cE (oA h) (fun h=>cE (iE h) (fun h=>dS (cb Y h)) fun h=>bE h xNP fun r1 h=>cE h (fun h=>dS h) fun h=>tS h (xDV ih _ _ _ _ _ _ h.2)) fun h=>dS h
theorem xN5{N a0 r}(h:IK N a0=some r):AbC 65 (xN2 a0) (IL r):=
 oK GW <| bE (oA h) xAy fun r1 h=>cE h (fun h=>dE (cb Y h)) fun h=>cE h (fun h=>dE h) fun h=>tE h (xDW _ _ _ _ h.2)
def G10(q:Val->Option (Bool)):Prop:=∀a0 r,q a0=some r->AbC 10 (KD a0) (KE r)
def G64(q:Val->Option (Bool)):Prop:=∀a0 r,q a0=some r->AbC 64 (xAB a0) (KO r)
theorem xEJ:FnOk Tryz.prog 10 Tryz.f10 (mI Tryz.f10 95 [.tmp 2] [0,2,4,52,88,92,94,104,124,142,162,180,3] [] [(1,[(3,.take,false),(9,.take,false),(13,.take,false)]),(3,[(3,.take,false),(8,.take,false),(12,.take,false)]),(9,[(3,.take,false)]),(11,[(3,.take,false)]),(13,[(3,.take,false)]),(15,[(3,.take,false)])]):=fO Tryz.func10
theorem xMN{N}{q0}(g0:G10 q0){q1}(g1:G64 q1){a0 r}(h:Hx N q0 q1 a0=some r):AbC 10 (KD a0) (KE r):=
 oK xEJ <| cE (oA h) (fun h=>cE h (fun h=>dE (cb Y h)) fun h=>cE h (fun h=>cE h (fun h=>dE h) fun h=>cE h (fun h=>cE h (fun h=>dE (cb Y h)) fun h=>cE h (fun h=>cE h (fun h=>dE h) fun h=>cE h (fun h=>bE h Dc fun r1 h=>dE h) fun h=>cE (ax ((a0.kind:Int)==5) false (zAq (gt 9 (ax ((a0.kind:Int)==4) false (zAq (gt 4 (ax ((a0.kind:Int)==3) false (zAq (gt 9 (ax ((a0.kind:Int)==2) false (zAq (gt 4 h)) h))) (ax ((a0.kind:Int)==2) false (zAq (gt 4 h)) h)))) (ax ((a0.kind:Int)==3) false (zAq (gt 9 (ax ((a0.kind:Int)==2) false (zAq (gt 4 h)) h))) (ax ((a0.kind:Int)==2) false (zAq (gt 4 h)) h))))) (ax ((a0.kind:Int)==4) false (zAq (gt 4 (ax ((a0.kind:Int)==3) false (zAq (gt 9 (ax ((a0.kind:Int)==2) false (zAq (gt 4 h)) h))) (ax ((a0.kind:Int)==2) false (zAq (gt 4 h)) h)))) (ax ((a0.kind:Int)==3) false (zAq (gt 9 (ax ((a0.kind:Int)==2) false (zAq (gt 4 h)) h))) (ax ((a0.kind:Int)==2) false (zAq (gt 4 h)) h)))) (fun h=>bE h IE fun r1 h=>dE h) fun h=>dE h) fun h=>bE (ax ((a0.kind:Int)==4) true (zAq (gt 4 (ax ((a0.kind:Int)==3) false (zAq (gt 9 (ax ((a0.kind:Int)==2) false (zAq (gt 4 (ax ((a0.kind:Int)==1) false (zAi (zAq (gt 1 (cb F h))) rfl) (cb F h)))) (ax ((a0.kind:Int)==1) false (zAi (zAq (gt 1 (cb F h))) rfl) (cb F h))))) (ax ((a0.kind:Int)==2) false (zAq (gt 4 (ax ((a0.kind:Int)==1) false (zAi (zAq (gt 1 (cb F h))) rfl) (cb F h)))) (ax ((a0.kind:Int)==1) false (zAi (zAq (gt 1 (cb F h))) rfl) (cb F h)))))) (ax ((a0.kind:Int)==3) false (zAq (gt 9 (ax ((a0.kind:Int)==2) false (zAq (gt 4 (ax ((a0.kind:Int)==1) false (zAi (zAq (gt 1 (cb F h))) rfl) (cb F h)))) (ax ((a0.kind:Int)==1) false (zAi (zAq (gt 1 (cb F h))) rfl) (cb F h))))) (ax ((a0.kind:Int)==2) false (zAq (gt 4 (ax ((a0.kind:Int)==1) false (zAi (zAq (gt 1 (cb F h))) rfl) (cb F h)))) (ax ((a0.kind:Int)==1) false (zAi (zAq (gt 1 (cb F h))) rfl) (cb F h))))) Dc fun r1 h=>cE h (fun h=>bE h Dc fun r2 h=>dE h) fun h=>dE h) fun h=>cE (ax ((a0.kind:Int) != 4) true (zAo (zAi (zAq (gt 1 (cb F h))) rfl)) (cb F h)) (fun h=>dE h) fun h=>cE (ax ((a0.kind:Int)==2) true (zAq (gt 4 (ax ((a0.kind:Int)==1) false (zAi (zAq (gt 3 h)) rfl) h))) (ax ((a0.kind:Int)==1) false (zAi (zAq (gt 3 h)) rfl) h)) (fun h=>bE h xMM fun r1 h=>dE h) fun h=>dE h) fun h=>cE (ax ((a0.kind:Int) != 2) true (zAo (zAi (zAq (gt 1 (cb F h))) rfl)) (cb F h)) (fun h=>dE (cb Y h)) fun h=>cE (ax ((a0.kind:Int) != 4) true (zAo (zAi (zAq (gt 3 h)) rfl)) h) (fun h=>dE h) fun h=>cE (ax ((a0.kind:Int)==5) true (zAq (gt 9 (ax ((a0.kind:Int)==4) false (zAi (zAq (gt 8 (ax ((a0.kind:Int)==3) false (zAq (gt 9 (ax ((a0.kind:Int)==2) false (zAi (zAq (gt 6 (ax ((a0.kind:Int)==1) false (zAi (zAq (gt 5 h)) rfl) h))) rfl) (ax ((a0.kind:Int)==1) false (zAi (zAq (gt 5 h)) rfl) h)))) (ax ((a0.kind:Int)==2) false (zAi (zAq (gt 6 (ax ((a0.kind:Int)==1) false (zAi (zAq (gt 5 h)) rfl) h))) rfl) (ax ((a0.kind:Int)==1) false (zAi (zAq (gt 5 h)) rfl) h))))) rfl) (ax ((a0.kind:Int)==3) false (zAq (gt 9 (ax ((a0.kind:Int)==2) false (zAi (zAq (gt 6 (ax ((a0.kind:Int)==1) false (zAi (zAq (gt 5 h)) rfl) h))) rfl) (ax ((a0.kind:Int)==1) false (zAi (zAq (gt 5 h)) rfl) h)))) (ax ((a0.kind:Int)==2) false (zAi (zAq (gt 6 (ax ((a0.kind:Int)==1) false (zAi (zAq (gt 5 h)) rfl) h))) rfl) (ax ((a0.kind:Int)==1) false (zAi (zAq (gt 5 h)) rfl) h)))))) (ax ((a0.kind:Int)==4) false (zAi (zAq (gt 8 (ax ((a0.kind:Int)==3) false (zAq (gt 9 (ax ((a0.kind:Int)==2) false (zAi (zAq (gt 6 (ax ((a0.kind:Int)==1) false (zAi (zAq (gt 5 h)) rfl) h))) rfl) (ax ((a0.kind:Int)==1) false (zAi (zAq (gt 5 h)) rfl) h)))) (ax ((a0.kind:Int)==2) false (zAi (zAq (gt 6 (ax ((a0.kind:Int)==1) false (zAi (zAq (gt 5 h)) rfl) h))) rfl) (ax ((a0.kind:Int)==1) false (zAi (zAq (gt 5 h)) rfl) h))))) rfl) (ax ((a0.kind:Int)==3) false (zAq (gt 9 (ax ((a0.kind:Int)==2) false (zAi (zAq (gt 6 (ax ((a0.kind:Int)==1) false (zAi (zAq (gt 5 h)) rfl) h))) rfl) (ax ((a0.kind:Int)==1) false (zAi (zAq (gt 5 h)) rfl) h)))) (ax ((a0.kind:Int)==2) false (zAi (zAq (gt 6 (ax ((a0.kind:Int)==1) false (zAi (zAq (gt 5 h)) rfl) h))) rfl) (ax ((a0.kind:Int)==1) false (zAi (zAq (gt 5 h)) rfl) h))))) (fun h=>bE h xN5 fun r1 h=>dE h) fun h=>dE h) fun h=>cE (ax ((a0.kind:Int) != 5) true (zAo (zAi (zAq (gt 1 (cb F h))) rfl)) (cb F h)) (fun h=>dE h) fun h=>cE (ax ((a0.kind:Int) != 2) true (zAo (zAi (zAq (gt 3 h)) rfl)) h) (fun h=>dE (cb Y h)) fun h=>cE (ax ((a0.kind:Int) != 4) true (zAo (zAi (zAq (gt 5 h)) rfl)) h) (fun h=>dE h) fun h=>cE (ax ((a0.kind:Int)==3) true (zAq (gt 9 (ax ((a0.kind:Int)==2) false (zAi (zAq (gt 8 (ax ((a0.kind:Int)==1) false (zAi (zAq (gt 7 h)) rfl) h))) rfl) (ax ((a0.kind:Int)==1) false (zAi (zAq (gt 7 h)) rfl) h)))) (ax ((a0.kind:Int)==2) false (zAi (zAq (gt 8 (ax ((a0.kind:Int)==1) false (zAi (zAq (gt 7 h)) rfl) h))) rfl) (ax ((a0.kind:Int)==1) false (zAi (zAq (gt 7 h)) rfl) h))) (fun h=>bE h (g1 _ _) fun r1 h=>dE h) fun h=>dE h
theorem MS:FnOk Tryz.prog 64 Tryz.f64 (mI Tryz.f64 36 [.tmp 2] [0,2,4,6,16,52,3] [(2,[2,6,3])] [(4,[(7,.take,false)]),(6,[(4,.take,false)])]):=fO Tryz.func64
def xCj(x3:Int)(b1:Val):St:=[(2,(vP 1)),(6,(vI x3)),(3,(vV .ro b1))]
theorem xDU{N}{q0}(g0:G10 q0){q1}(g1:G64 q1):∀n x3 b1 r,Cb N q0 q1 n x3 b1=some r->RS MS 2 (xCj x3 b1) (KO r):=
 nI (fun _ _ _ h=>nE h) fun n ih x3 b1 r h=>cE (oA h) (fun h=>bE (iE h) xNV fun r1 h=>cE h (fun h=>dS (cb Y h)) fun h=>bE (rp 2 h) (g0 _ _) fun r2 h=>cE h (fun h=>dS h) fun h=>tS h (ih _ _ _ h.2)) fun h=>cE h (fun h=>bE h xMw fun r1 h=>dS h) fun h=>dS h
theorem xNX{N}{q0}(g0:G10 q0){q1}(g1:G64 q1){a0 r}(h:xAC N q0 q1 a0=some r):AbC 64 (xAB a0) (KO r):=
 oK MS <| tE (oA h) (xDU g0 g1 _ _ _ _ h)
theorem xMO{N:Nat}:∀d,G10 (AB N d).c_spec_IsValidValue/\G64 (AB N d).c_spec_l3List:=by
 intro d
 induction d with
 |zero=>exact⟨fun _ _ h=>nE h,fun _ _ h=>nE h⟩
 |succ d ih=>
  obtain⟨ih0,ih1⟩:=ih;exact⟨fun _ _ h=>xMN (N:=N) ih0 ih1 h,fun _ _ h=>xNX (N:=N) ih0 ih1 h⟩
theorem xMP{N:Nat}{a0:Val}{r:Bool}(h:KC N a0=some r):AbC 10 (KD a0) (KE r):=(xMO N).1 _ r h
theorem LV:FnOk Tryz.prog 106 Tryz.f106 (mI Tryz.f106 31 [.cell 2 30,.tmp 3] [0,4,6,8,16,32,46,5] [(2,[0,4,8,5])] []):=fO Tryz.func106
def xA6(x0:List Val)(x4:Int)(b2:Val):St:=[(0,(vS .ro .val x0)),(4,(vP 2)),(8,(vI x4)),(5,(vV .own b2))]
theorem xCP{N}:∀n x0 x4 b2 r,Cc N n x0 x4 b2=some r->RS LV 2 (xA6 x0 x4 b2) (xAE r):=
 nI (fun _ _ _ _ h=>nE h) fun n ih x0 x4 b2 r h=>cE (oA h) (fun h=>bE (iE h) xMP fun r1 h=>cE h (fun h=>bE h zH fun r2 h=>dS h) fun h=>cE (rp 2 h) (fun h=>bE (rp 4 h) zH fun r2 h=>dS h) fun h=>tS h (ih _ _ _ _ h.2)) fun h=>dS h
theorem IM{N a0 r}(h:Ez N a0=some r):AbC 106 (xN6 a0) (xAE r):=
 oK LV <| tE (oA h) (xCP _ _ _ _ _ h)
theorem xEO:FnOk Tryz.prog 11 Tryz.f11 (mI Tryz.f11 5 [.cell 2 30] [0,4,5] [] []):=fO Tryz.func11
theorem C9{N a0 r}(h:AT N a0=some r):AbC 11 (xM2 a0) (xM3 r):=
 oK xEO <| dE (oA h)
theorem xFq:FnOk Tryz.prog 48 Tryz.f48 (mI Tryz.f48 31 [.cell 2 30] [0,2,4,6,8,22,28,44,3,5,7] [] [(1,[(3,.take,false)]),(2,[(0,.take,false)]),(3,[(0,.take,false)])]):=fO Tryz.func48
theorem xMV{N a0 r}(h:Hz N a0=some r):AbC 48 (xMU a0) (xMW r):=
 oK xFq <| bE (oA h) IM fun r1 h=>cE h (fun h=>dE h) fun h=>cE h (fun h=>bE h C9 fun r2 h=>dE h) fun h=>cE h (fun h=>bE h C9 fun r2 h=>dE h) fun h=>bE h zH fun r2 h=>dE h
theorem xEM:FnOk Tryz.prog 107 Tryz.f107 (mI Tryz.f107 9 [.cell 2 30] [0,4,10,5] [] []):=fO Tryz.func107
theorem Ol{N a0 r}(h:DW N a0=some r):AbC 107 (xMm a0) (xMn r):=
 oK xEM <| bE (oA h) Dc fun r1 h=>cE h (fun h=>bE h zH fun r2 h=>dE h) fun h=>bE h C9 fun r2 h=>dE h
theorem MK:FnOk Tryz.prog 49 Tryz.f49 (mI Tryz.f49 50 [.cell 2 30] [0,2,4,6,8,10,12,26,34,48,66,94,3,5,7,11] [(8,[2,4,10,12,3,5,11])] [(1,[(3,.take,false)]),(2,[(0,.take,false)]),(3,[(0,.take,false)]),(14,[(0,.take,false)]),(15,[(0,.take,false)])]):=fO Tryz.func49
def xB6(x6:Int)(b1 b2 b5:Val):St:=[(2,(vP 1)),(4,(vP 2)),(10,(vP 5)),(12,(vI x6)),(3,(vV .ro b1)),(5,(vV .own b2)),(11,(vV .own b5))]
theorem xDF{N}:∀n x6 b1 b2 b5 r,Bq N n x6 b1 b2 b5=some r->RS MK 8 (xB6 x6 b1 b2 b5) (xAm r):=
 nI (fun _ _ _ _ _ h=>nE h) fun n ih x6 b1 b2 b5 r h=>cE (oA h) (fun h=>cE (iE h) (fun h=>bE h zH fun r1 h=>dS h) fun h=>bE (rp 1 h) Ol fun r1 h=>cE h (fun h=>dS h) fun h=>tS h (ih _ _ _ _ _ h.2)) fun h=>dS h
theorem xNb{N a0 r}(h:IB N a0=some r):AbC 49 (xNa a0) (xAm r):=
 oK MK <| bE (oA h) IM fun r1 h=>cE h (fun h=>dE h) fun h=>cE h (fun h=>bE h zH fun r2 h=>dE h) fun h=>bE h C9 fun r2 h=>tE h (xDF _ _ _ _ _ _ h.2)
theorem LW:FnOk Tryz.prog 108 Tryz.f108 (mI Tryz.f108 34 [.cell 4 30,.tmp 5] [0,2,8,10,12,14,16,28,38,62,9,13] [(5,[0,2,8,16,9])] [(1,[(2,.take,false)]),(2,[(0,.take,false)]),(3,[(0,.take,false)])]):=fO Tryz.func108
def xA7(x0:List Val)(x1:List Int)(x8:Int)(b4:Val):St:=[(0,(vS .ro .val x0)),(2,(vS .ro .int x1)),(8,(vP 4)),(16,(vI x8)),(9,(vV .own b4))]
theorem xCQ{N}:∀n x0 x1 x8 b4 r,Cd N n x0 x1 x8 b4=some r->RS LW 5 (xA7 x0 x1 x8 b4) (xAF r):=
 nI (fun _ _ _ _ _ h=>nE h) fun n ih x0 x1 x8 b4 r h=>cE (oA h) (fun h=>cE (iE (iE h)) (fun h=>bE h zH fun r1 h=>dS h) fun h=>tS h (ih _ _ _ _ _ h.2)) fun h=>dS h
theorem Bu{N a0 a1 r}(h:Av N a0 a1=some r):AbC 108 (xN9 a0 a1) (xAF r):=
 oK LW <| bE (oA h) IM fun r1 h=>cE h (fun h=>dE h) fun h=>tE h (xCQ _ _ _ _ _ _ h.2)
theorem xFr:FnOk Tryz.prog 50 Tryz.f50 (mI Tryz.f50 18 [.cell 2 30] [0,2,4,6,8,24,3,5,7] [] [(1,[(4,.take,false)]),(2,[(0,.take,false)]),(3,[(0,.take,false)])]):=fO Tryz.func50
theorem xMt{N a0 r}(h:Ht N a0=some r):AbC 50 (xMs a0) (xMu r):=
 oK xFr <| bE (oA h) Bu fun r1 h=>cE h (fun h=>dE h) fun h=>bE h C9 fun r2 h=>dE h
theorem xEN:FnOk Tryz.prog 109 Tryz.f109 (mI Tryz.f109 32 [.cell 4 30,.tmp 5] [0,2,4,6,8,10,12,14,30,58,5,7,9,13] [] [(1,[(4,.take,false)]),(2,[(0,.take,false)]),(3,[(0,.take,false)]),(4,[(3,.take,false),(7,.take,false)])]):=fO Tryz.func109
theorem KQ{N a0 a1 r}(h:FA N a0 a1=some r):AbC 109 (xN7 a0 a1) (xN8 r):=
 oK xEN <| bE (oA h) IM fun r1 h=>cE h (fun h=>dE h) fun h=>cE h (fun h=>bE (cb Y h) zH fun r2 h=>dE h) fun h=>cE h (fun h=>cE h (fun h=>bE h zH fun r2 h=>dE h) fun h=>dE h) fun h=>dE (cb F h)
theorem xER:FnOk Tryz.prog 118 Tryz.f118 (mI Tryz.f118 12 [.cell 2 77] [0,2,4,3,5] [] []):=fO Tryz.func118
theorem xAD{N a0 r}(h:Fz N a0=some r):AbC 118 (xN0 a0) (xN1 r):=
 oK xER <| dE (iE (iE (oA h)))
def GJ(q:Val->Option (Val)):Prop:=∀a0 r,q a0=some r->AbC 112 (KL a0) (Fy r)
theorem Ie:FnOk Tryz.prog 112 Tryz.f112 (mI Tryz.f112 56 [.cell 2 30] [0,2,4,6,8,10,46,82,3,5,7] [(3,[2,4,6,8,3,5,7]),(7,[2,4,6,10,3,5,7])] [(5,[(1,.take,false),(9,.take,false)]),(9,[(1,.take,false),(9,.take,false)]),(10,[(0,.take,false)])]):=fO Tryz.func112
def xBc(x4:Int)(b1 b2 b3:Val):St:=[(2,(vP 1)),(4,(vP 2)),(6,(vP 3)),(8,(vI x4)),(3,(vV .ro b1)),(5,(vV .own b2)),(7,(vV .own b3))]
def xBd(x5:Int)(b1 b2 b3:Val):St:=[(2,(vP 1)),(4,(vP 2)),(6,(vP 3)),(10,(vI x5)),(3,(vV .ro b1)),(5,(vV .own b2)),(7,(vV .own b3))]
theorem xCU{N}{q0}(g0:GJ q0):∀n x5 b1 b2 b3 r,Da N q0 n x5 b1 b2 b3=some r->RS Ie 7 (xBd x5 b1 b2 b3) (Fy r):=
 nI (fun _ _ _ _ _ h=>nE h) fun n ih x5 b1 b2 b3 r h=>cE (oA h) (fun h=>bE (iE h) xAD fun r1 h=>tS (iE h) (ih _ _ _ _ _ (iE h).2)) fun h=>dS h
theorem xCT{N}{q0}(g0:GJ q0):∀n x4 b1 b2 b3 r,Ey N q0 n x4 b1 b2 b3=some r->RS Ie 3 (xBc x4 b1 b2 b3) (Fy r):=
 nI (fun _ _ _ _ _ h=>nE h) fun n ih x4 b1 b2 b3 r h=>cE (oA h) (fun h=>bE (iE h) (g0 _ _) fun r1 h=>tS (iE h) (ih _ _ _ _ _ (iE h).2)) fun h=>tS h (xCU g0 _ _ _ _ _ _ h.2)
theorem xNT{N}{q0}(g0:GJ q0){a0 r}(h:IJ N q0 a0=some r):AbC 112 (KL a0) (Fy r):=
 oK Ie <| tE (iE (oA h)) (xCT g0 _ _ _ _ _ _ (iE (oA h)).2)
theorem xAA{N:Nat}:∀d,GJ (Db N d)
 |0=>fun _ _ h=>nE h
 |d+1=>fun _ _ h=>xNT (N:=N) (xAA d) h
theorem KM{N:Nat}{a0:Val}{r:Val}(h:D9 N a0=some r):AbC 112 (KL a0) (Fy r):=xAA N _ r h
theorem xFt:FnOk Tryz.prog 53 Tryz.f53 (mI Tryz.f53 51 [.cell 4 30] [0,2,4,6,8,10,12,26,60,68,5,7,9,11] [] [(1,[(3,.take,false)]),(2,[(0,.take,false)]),(3,[(0,.take,false)]),(4,[(3,.take,false),(7,.take,false)])]):=fO Tryz.func53
theorem IA{N a0 a1 r}(h:A4 N a0 a1=some r):AbC 53 (xM0 a0 a1) (xM1 r):=
 oK xFt <| bE (oA h) KQ fun r1 h=>cE h (fun h=>dE h) fun h=>cE h (fun h=>bE (cb Y h) zH fun r2 h=>dE h) fun h=>cE h (fun h=>cE h (fun h=>bE h zH fun r2 h=>dE h) fun h=>bE (iE (rb Y 1 h)) KM fun r2 h=>dE h) fun h=>bE (rb F 1 (cb F h)) Ol fun r2 h=>dE h
theorem MM:FnOk Tryz.prog 51 Tryz.f51 (mI Tryz.f51 56 [.cell 4 30] [0,2,4,6,8,10,12,14,16,18,32,42,54,78,94,5,7,9,11,15,19] [(8,[4,6,8,14,16,5,7,9,15])] [(1,[(3,.take,false)]),(2,[(0,.take,false)]),(3,[(0,.take,false)]),(10,[(3,.take,false)]),(11,[(0,.take,false)]),(14,[(0,.take,false)]),(15,[(1,.take,false),(2,.take,false),(4,.take,false)]),(16,[(0,.take,false)])]):=fO Tryz.func51
def xB8(x8:Int)(b2 b3 b4 b7:Val):St:=[(4,(vP 2)),(6,(vP 3)),(8,(vP 4)),(14,(vP 7)),(16,(vI x8)),(5,(vV .ro b2)),(7,(vV .ro b3)),(9,(vV .own b4)),(15,(vV .own b7))]
theorem xDH{N}:∀n x8 b2 b3 b4 b7 r,BF N n x8 b2 b3 b4 b7=some r->RS MM 8 (xB8 x8 b2 b3 b4 b7) (xAo r):=
 nI (fun _ _ _ _ _ _ h=>nE h) fun n ih x8 b2 b3 b4 b7 r h=>cE (oA h) (fun h=>cE h (fun h=>cE h (fun h=>dS h) fun h=>bE h C9 fun r1 h=>bE h IA fun r2 h=>cE h (fun h=>dS h) fun h=>tS (iE h) (ih _ _ _ _ _ _ (iE h).2)) fun h=>bE (cb F h) C9 fun r1 h=>bE h IA fun r2 h=>cE h (fun h=>dS h) fun h=>tS (iE h) (ih _ _ _ _ _ _ (iE h).2)) fun h=>dS h
theorem xNf{N a0 a1 r}(h:D5 N a0 a1=some r):AbC 51 (xNe a0 a1) (xAo r):=
 oK MM <| bE (oA h) KQ fun r1 h=>cE h (fun h=>dE h) fun h=>bE h IE fun r2 h=>cE h (fun h=>bE h zH fun r3 h=>dE h) fun h=>tE h (xDH _ _ _ _ _ _ _ h.2)
theorem xEP:FnOk Tryz.prog 111 Tryz.f111 (mI Tryz.f111 10 [.tmp 4] [0,2,8,14] [] []):=fO Tryz.func111
theorem xNF{N a0 a1 r}(h:IG N a0 a1=some r):AbC 111 (xNE a0 a1) (xNG r):=
 oK xEP <| cE (oA h) (fun h=>dE h) fun h=>dE h
theorem LX:FnOk Tryz.prog 110 Tryz.f110 (mI Tryz.f110 23 [.cell 2 30] [0,4,6,8,18,5,7] [(3,[0,4,6,8,5,7])] [(5,[(1,.take,false),(8,.take,false)]),(6,[(0,.take,false)])]):=fO Tryz.func110
def xBb(x0:List Val)(x4:Int)(b2 b3:Val):St:=[(0,(vS .ro .val x0)),(4,(vP 2)),(6,(vP 3)),(8,(vI x4)),(5,(vV .own b2)),(7,(vV .own b3))]
theorem xCS{N}:∀n x0 x4 b2 b3 r,Eu N n x0 x4 b2 b3=some r->RS LX 3 (xBb x0 x4 b2 b3) (xAh r):=
 nI (fun _ _ _ _ _ h=>nE h) fun n ih x0 x4 b2 b3 r h=>cE (oA h) (fun h=>bE (iE h) KM fun r1 h=>tS (iE h) (ih _ _ _ _ _ (iE h).2)) fun h=>dS h
theorem xMZ{N a0 r}(h:KF N a0=some r):AbC 110 (xMX a0) (xAh r):=
 oK LX <| tE (oA h) (xCS _ _ _ _ _ _ h)
theorem xFA:FnOk Tryz.prog 83 Tryz.f83 (mI Tryz.f83 8 [.cell 4 30] [0,2,8,9] [] []):=fO Tryz.func83
theorem xAl{N a0 a1 r}(h:Fw N a0 a1=some r):AbC 83 (xM8 a0 a1) (xM9 r):=
 oK xFA <| dE (oA h)
theorem xFs:FnOk Tryz.prog 52 Tryz.f52 (mI Tryz.f52 45 [.cell 4 30] [0,2,4,6,8,10,12,14,28,36,44,76,5,7,9,11,15] [] [(1,[(3,.take,false)]),(2,[(0,.take,false)]),(3,[(0,.take,false)]),(10,[(0,.take,false)])]):=fO Tryz.func52
theorem xM5{N a0 a1 r}(h:D4 N a0 a1=some r):AbC 52 (xM4 a0 a1) (xM6 r):=
 oK xFs <| bE (oA h) KQ fun r1 h=>cE h (fun h=>dE h) fun h=>cE h (fun h=>bE h zH fun r2 h=>dE h) fun h=>cE h (fun h=>bE h xNF fun r2 h=>bE (iE h) xMZ fun r3 h=>dE h) fun h=>bE h IA fun r2 h=>cE h (fun h=>dE h) fun h=>bE h xAl fun r3 h=>dE h
theorem xFu:FnOk Tryz.prog 54 Tryz.f54 (mI Tryz.f54 22 [.cell 4 30] [0,2,4,6,8,10,12,30,5,7,9,11] [] [(1,[(5,.take,false)]),(2,[(0,.take,false)]),(3,[(0,.take,false)])]):=fO Tryz.func54
theorem xNw{N a0 a1 r}(h:IC N a0 a1=some r):AbC 54 (xNv a0 a1) (xNx r):=
 oK xFu <| bE (oA h) Bu fun r1 h=>cE h (fun h=>dE h) fun h=>bE h xAl fun r2 h=>dE h
theorem LY:FnOk Tryz.prog 113 Tryz.f113 (mI Tryz.f113 36 [.tmp 4] [0,2,8,10,12,14,24,50] [(4,[0,2,10,12,14])] [(6,[(4,.take,false)]),(7,[(0,.take,false),(2,.take,false)]),(9,[(0,.take,false)])]):=fO Tryz.func113
def xBe(x0:Str)(x1:Int)(x5:List Str)(x6 x7:Int):St:=[(0,(vT x0)),(2,.v false [.int .u8 x1]),(10,(vS .own .str x5)),(12,(vI x6)),(14,(vI x7))]
theorem xCV{N}:∀n x0 x1 x5 x6 x7 r,Bp N n x0 x1 x5 x6 x7=some r->RS LY 4 (xBe x0 x1 x5 x6 x7) (xAk r):=
 nI (fun _ _ _ _ _ _ h=>nE h) fun n ih x0 x1 x5 x6 x7 r h=>cE (oA h) (fun h=>cE h (fun h=>tS (iE (iE (cb Y h))) (ih _ _ _ _ _ _ (iE (iE (cb Y h))).2)) fun h=>cE (iE h) (fun h=>tS (iE (iE h)) (ih _ _ _ _ _ _ (iE (iE h)).2)) fun h=>tS h (ih _ _ _ _ _ _ h.2)) fun h=>dS h
theorem xAj{N a0 a1 r}(h:Fv N a0 a1=some r):AbC 113 (xM7 a0 a1) (xAk r):=
 oK LY <| tE (oA h) (xCV _ _ _ _ _ _ _ h)
theorem Lq:FnOk Tryz.prog 149 Tryz.f149 (mI Tryz.f149 19 [.tmp 4] [0,2,8,10,18,34] [(2,[0,2,10])] []):=fO Tryz.func149
def xBz(x0:List Str)(x1:Str)(x5:Int):St:=[(0,(vS .ro .str x0)),(2,(vT x1)),(10,(vI x5))]
theorem xDf{N}:∀n x0 x1 x5 r,D0 N n x0 x1 x5=some r->RS Lq 2 (xBz x0 x1 x5) (xAc r):=
 nI (fun _ _ _ _ h=>nE h) fun n ih x0 x1 x5 r h=>cE (oA h) (fun h=>cE (iE h) (fun h=>dS h) fun h=>tS h (ih _ _ _ _ h.2)) fun h=>dS h
theorem xME{N a0 a1 r}(h:KA N a0 a1=some r):AbC 149 (xMC a0 a1) (xAc r):=
 oK Lq <| tE (oA h) (xDf _ _ _ _ _ h)
theorem xEQ:FnOk Tryz.prog 114 Tryz.f114 (mI Tryz.f114 9 [.tmp 4] [0,2,4,8,5] [] []):=fO Tryz.func114
theorem BE{N a0 a1 r}(h:Ac N a0 a1=some r):AbC 114 (xMo a0 a1) (xMp r):=
 oK xEQ <| bE (oA h) xME fun r1 h=>dE h
theorem FM:FnOk Tryz.prog 55 Tryz.f55 (mI Tryz.f55 95 [.cell 4 30] [0,2,4,6,8,10,12,14,16,18,20,22,24,42,62,90,102,132,5,7,9,11,17,23] [(7,[6,8,14,16,18,7,9,17]),(12,[6,8,14,16,20,7,9,17]),(16,[6,8,14,16,20,22,24,7,9,17,23])] [(1,[(5,.take,false)]),(2,[(0,.take,false)]),(3,[(0,.take,false)]),(4,[(2,.cp,true)]),(9,[(7,.take,false)]),(18,[(1,.take,false)]),(19,[(1,.take,false),(2,.take,false),(4,.take,false)]),(20,[(0,.take,false)])] (fcast:=[(9,4,true),(9,5,true),(9,6,true)])):=fO Tryz.func55
def xCa(x7:List Str)(x9:Int)(b3 b4 b8:Val):St:=[(6,(vP 3)),(8,(vP 4)),(14,(vS .ro .str x7)),(16,(vP 8)),(18,(vI x9)),(7,(vV .ro b3)),(9,(vV .own b4)),(17,.v true [.int .i64 b8.kind,.int .i64 b8.n,.int .i64 b8.step,.str b8.text,.sl .own .val b8.list,.sl .ro .str b8.columns,.sl .own .row b8.rows])]
def Kc(x7:List Str)(x10:Int)(b3 b4 b8:Val):St:=[(6,(vP 3)),(8,(vP 4)),(14,(vS .ro .str x7)),(16,(vP 8)),(20,(vI x10)),(7,(vV .ro b3)),(9,(vV .own b4)),(17,.v true [.int .i64 b8.kind,.int .i64 b8.n,.int .i64 b8.step,.str b8.text,.sl .own .val b8.list,.sl .ro .str b8.columns,.sl .own .row b8.rows])]
def xB9(x7:List Str)(x10 x12:Int)(b3 b4 b8:Val)(b11:Rowd):St:=[(6,(vP 3)),(8,(vP 4)),(14,(vS .ro .str x7)),(16,(vP 8)),(20,(vI x10)),(22,(vP 11)),(24,(vI x12)),(7,(vV .ro b3)),(9,(vV .own b4)),(17,.v true [.int .i64 b8.kind,.int .i64 b8.n,.int .i64 b8.step,.str b8.text,.sl .own .val b8.list,.sl .ro .str b8.columns,.sl .own .row b8.rows]),(23,.v true [.sl .own .int b11.cells,.sl .own .org b11.frm])]
theorem xDJ{N}{k12}(hk12:∀z0 z1 z2 z3 z4 r,k12 z0 z1 z2 z3 z4=some r->RS FM 12 (Kc z0 z1 z2 z3 z4) (Fu r)):∀n x7 x10 x12 b3 b4 b8 b11 r,D3 N k12 n x7 x10 x12 b3 b4 b8 b11=some r->RS FM 16 (xB9 x7 x10 x12 b3 b4 b8 b11) (Fu r):=
 nI (fun _ _ _ _ _ _ _ _ h=>nE h) fun n ih x7 x10 x12 b3 b4 b8 b11 r h=>cE (oA h) (fun h=>bE (iE (iE h)) BE fun r1 h=>tS (iE (iE h)) (ih _ _ _ _ _ _ _ _ (iE (iE h)).2)) fun h=>tS (iE h) (hk12 _ _ _ _ _ _ (iE h).2)
theorem xDI{N}:∀n x7 x10 b3 b4 b8 r,Bn N n x7 x10 b3 b4 b8=some r->RS FM 12 (Kc x7 x10 b3 b4 b8) (Fu r):=
 nI (fun _ _ _ _ _ _ h=>nE h) fun n ih x7 x10 b3 b4 b8 r h=>cE (oA h) (fun h=>tS (iE (iE h)) (xDJ ih _ _ _ _ _ _ _ _ _ (iE (iE h)).2)) fun h=>dS h
theorem xDK{N}:∀n x7 x9 b3 b4 b8 r,Bo N n x7 x9 b3 b4 b8=some r->RS FM 7 (xCa x7 x9 b3 b4 b8) (Fu r):=
 nI (fun _ _ _ _ _ _ h=>nE h) fun n ih x7 x9 b3 b4 b8 r h=>cE (oA h) (fun h=>bE (iE h) BE fun r1 h=>cE h (fun h=>bE (cb Y h) zH fun r2 h=>dS h) fun h=>bE h Jx fun r2 h=>cE h (fun h=>bE h zH fun r3 h=>dS h) fun h=>tS h (ih _ _ _ _ _ _ h.2)) fun h=>tS h (xDI _ _ _ _ _ _ _ h.2)
theorem xMT{N a0 a1 r}(h:Ft N a0 a1=some r):AbC 55 (xMS a0 a1) (Fu r):=
 oK FM <| bE (oA h) Bu fun r1 h=>cE h (fun h=>dE h) fun h=>bE h xAj fun r2 h=>tE h (xDK _ _ _ _ _ _ _ h.2)
theorem MN:FnOk Tryz.prog 56 Tryz.f56 (mI Tryz.f56 56 [.cell 4 30] [0,2,4,6,8,10,12,14,16,18,36,50,60,74,5,7,9,11,17] [(11,[6,8,14,16,18,7,9,17])] [(1,[(5,.take,false)]),(2,[(0,.take,false)]),(3,[(0,.take,false)]),(13,[(1,.take,false),(13,.take,false)]),(14,[(0,.take,false)])]):=fO Tryz.func56
def xCb(x7 x9:Int)(b3 b4 b8:Val):St:=[(6,(vP 3)),(8,(vP 4)),(14,(vI x7)),(16,(vP 8)),(18,(vI x9)),(7,(vV .ro b3)),(9,(vV .own b4)),(17,(vV .own b8))]
theorem xDL{N}:∀n x7 x9 b3 b4 b8 r,DX N n x7 x9 b3 b4 b8=some r->RS MN 11 (xCb x7 x9 b3 b4 b8) (Om r):=
 nI (fun _ _ _ _ _ _ h=>nE h) fun n ih x7 x9 b3 b4 b8 r h=>cE (oA h) (fun h=>bE (iE (iE h)) C9 fun r1 h=>tS (iE h) (ih _ _ _ _ _ _ (iE h).2)) fun h=>dS h
theorem xMr{N a0 a1 r}(h:Es N a0 a1=some r):AbC 56 (xMq a0 a1) (Om r):=
 oK MN <| bE (oA h) Bu fun r1 h=>cE h (fun h=>dE h) fun h=>bE h BE fun r2 h=>cE h (fun h=>bE h zH fun r3 h=>dE h) fun h=>cE h (fun h=>bE h zH fun r3 h=>dE h) fun h=>tE h (xDL _ _ _ _ _ _ _ h.2)
theorem L2:FnOk Tryz.prog 117 Tryz.f117 (mI Tryz.f117 35 [.tmp 2,.tmp 3] [0,2,4,6,8,10,22,40,3] [(3,[2,8,10,3])] [(6,[(0,.take,false)]),(7,[(0,.take,false)]),(8,[(0,.take,false)])]):=fO Tryz.func117
def xBh(x4:List Int)(x5:Int)(b1:Val):St:=[(2,(vP 1)),(8,(vS .own .int x4)),(10,(vI x5)),(3,(vV .ro b1))]
theorem xCY{N}:∀n x4 x5 b1 r,Df N n x4 x5 b1=some r->RS L2 3 (xBh x4 x5 b1) (xAG r):=
 nI (fun _ _ _ _ h=>nE h) fun n ih x4 x5 b1 r h=>cE (oA h) (fun h=>cE (iE h) (fun h=>dS h) fun h=>tS (iE (rp 1 h)) (ih _ _ _ _ (iE (rp 1 h)).2)) fun h=>dS h
theorem xOb{N a0 r}(h:IN N a0=some r):AbC 117 (xOa a0) (xAG r):=
 oK L2 <| tE (oA h) (xCY _ _ _ _ _ h)
theorem MO:FnOk Tryz.prog 57 Tryz.f57 (mI Tryz.f57 65 [.cell 4 30] [0,2,4,6,8,10,12,14,16,18,20,38,56,68,110,5,7,9,11,15] [(8,[6,8,14,16,7,9,15])] [(1,[(5,.take,false)]),(2,[(0,.take,false)]),(3,[(0,.take,false)]),(10,[(6,.take,false)]),(11,[(0,.take,false),(2,.take,false)]),(13,[(1,.take,false),(2,.take,false),(5,.take,false)]),(14,[(0,.take,false)])]):=fO Tryz.func57
def xCc(x8:Int)(b3 b4 b7:Val):St:=[(6,(vP 3)),(8,(vP 4)),(14,(vP 7)),(16,(vI x8)),(7,(vV .ro b3)),(9,(vV .own b4)),(15,(vV .own b7))]
theorem xDM{N}:∀n x8 b3 b4 b7 r,Br N n x8 b3 b4 b7=some r->RS MO 8 (xCc x8 b3 b4 b7) (xAn r):=
 nI (fun _ _ _ _ _ h=>nE h) fun n ih x8 b3 b4 b7 r h=>cE (oA h) (fun h=>bE (iE h) xOb fun r1 h=>cE h (fun h=>bE (cb Y h) zH fun r2 h=>dS h) fun h=>cE h (fun h=>bE h zH fun r2 h=>dS h) fun h=>tS (iE h) (ih _ _ _ _ _ (iE h).2)) fun h=>dS h
theorem xNd{N a0 a1 r}(h:Fx N a0 a1=some r):AbC 57 (xNc a0 a1) (xAn r):=
 oK MO <| bE (oA h) Bu fun r1 h=>cE h (fun h=>dE h) fun h=>bE h xAj fun r2 h=>bE h xAy fun r3 h=>cE h (fun h=>bE h zH fun r4 h=>dE h) fun h=>tE h (xDM _ _ _ _ _ _ h.2)
theorem MP:FnOk Tryz.prog 58 Tryz.f58 (mI Tryz.f58 66 [.cell 6 30] [0,2,4,6,8,10,12,14,16,18,20,22,42,56,78,106,7,9,11,13,15,21] [(9,[8,10,12,18,20,22,9,11,13,21])] [(1,[(6,.take,false)]),(2,[(0,.take,false)]),(3,[(0,.take,false)]),(12,[(1,.take,false),(9,.take,false)]),(13,[(0,.take,false)])]):=fO Tryz.func58
def xCd(x9 x11:Int)(b4 b5 b6 b10:Val):St:=[(8,(vP 4)),(10,(vP 5)),(12,(vP 6)),(18,(vI x9)),(20,(vP 10)),(22,(vI x11)),(9,(vV .ro b4)),(11,(vV .ro b5)),(13,(vV .own b6)),(21,(vV .own b10))]
theorem xDN{N}:∀n x9 x11 b4 b5 b6 b10 r,Bs N n x9 x11 b4 b5 b6 b10=some r->RS MP 9 (xCd x9 x11 b4 b5 b6 b10) (xAp r):=
 nI (fun _ _ _ _ _ _ _ h=>nE h) fun n ih x9 x11 b4 b5 b6 b10 r h=>cE (oA h) (fun h=>cE (iE (iE h)) (fun h=>bE (rp 2 h) xAD fun r1 h=>tS (iE h) (ih _ _ _ _ _ _ _ (iE h).2)) fun h=>tS h (ih _ _ _ _ _ _ _ h.2)) fun h=>dS h
theorem xNi{N a0 a1 a2 r}(h:Ev N a0 a1 a2=some r):AbC 58 (xNh a0 a1 a2) (xAp r):=
 oK MP <| bE (oA h) Bu fun r1 h=>cE h (fun h=>dE h) fun h=>bE h BE fun r2 h=>cE h (fun h=>bE h zH fun r3 h=>dE h) fun h=>tE (iE h) (xDN _ _ _ _ _ _ _ _ (iE h).2)
theorem Ls:FnOk Tryz.prog 151 Tryz.f151 (mI Tryz.f151 87 [.tmp 4] [0,2,8,10,12,14,36,60,122] [(4,[0,2,10,12,14])] [(4,[(4,.take,false)]),(5,[(0,.take,false)]),(8,[(4,.take,false),(9,.take,false)]),(9,[(0,.take,false)]),(11,[(4,.take,false)]),(12,[(0,.take,false)]),(14,[(0,.take,false)])]):=fO Tryz.func151
def xBC(x0 x1 x5:List Org)(x6 x7:Int):St:=[(0,(vS .ro .org x0)),(2,(vS .ro .org x1)),(10,(vS .own .org x5)),(12,(vI x6)),(14,(vI x7))]
theorem xDi{N}:∀n x0 x1 x5 x6 x7 r,AN N n x0 x1 x5 x6 x7=some r->RS Ls 4 (xBC x0 x1 x5 x6 x7) (xAK r):=
 nI (fun _ _ _ _ _ _ h=>nE h) fun n ih x0 x1 x5 x6 x7 r h=>cE (oA h) (fun h=>cE (cb Y h) (fun h=>tS (iE (iE (cb Y h))) (ih _ _ _ _ _ _ (iE (iE (cb Y h))).2)) fun h=>bE (iE (iE (rb Y 2 h))) IH fun r1 h=>cE h (fun h=>tS (iE (rp 3 h)) (ih _ _ _ _ _ _ (iE (rp 3 h)).2)) fun h=>cE h (fun h=>tS (iE (rp 4 (cb Y h))) (ih _ _ _ _ _ _ (iE (rp 4 (cb Y h))).2)) fun h=>bE (rp 5 (rp 3 h)) IH fun r2 h=>cE h (fun h=>tS (iE (rp 7 h)) (ih _ _ _ _ _ _ (iE (rp 7 h)).2)) fun h=>tS (iE (rp 8 h)) (ih _ _ _ _ _ _ (iE (rp 8 h)).2)) fun h=>cE h (fun h=>cE h (fun h=>tS (iE (iE (cb Y h))) (ih _ _ _ _ _ _ (iE (iE (cb Y h))).2)) fun h=>cE (cb F (rb F 2 h)) (fun h=>tS (iE (iE (cb Y h))) (ih _ _ _ _ _ _ (iE (iE (cb Y h))).2)) fun h=>bE (iE (iE h)) IH fun r1 h=>cE h (fun h=>tS (iE (rp 3 h)) (ih _ _ _ _ _ _ (iE (rp 3 h)).2)) fun h=>tS (iE (rp 2 h)) (ih _ _ _ _ _ _ (iE (rp 2 h)).2)) fun h=>dS h
theorem xAJ{N a0 a1 r}(h:GA N a0 a1=some r):AbC 151 (xOi a0 a1) (xAK r):=
 oK Ls <| tE (oA h) (xDi _ _ _ _ _ _ _ h)
theorem L3:FnOk Tryz.prog 119 Tryz.f119 (mI Tryz.f119 80 [.tmp 8] [0,2,4,6,16,18,20,22,24,34,58,104,136,25] [(4,[0,2,4,6,18,20,22])] [(10,[(6,.take,false)]),(11,[(0,.take,false),(9,.take,false)]),(13,[(0,.take,false),(1,.take,false),(3,.take,false)]),(15,[(0,.take,false),(9,.take,false)]),(16,[(0,.take,false)])] (casts:=[(4,[(18,0,false)])])):=fO Tryz.func119
def xBi(x0:List Rowd)(x1 x2:Int)(x3:List Org)(x9:List Rowd)(x10:Bool)(x11:Int):St:=[(0,(vS .ro .row x0)),(2,(vI x1)),(4,(vI x2)),(6,(vS .ro .org x3)),(18,(vS .tip .row x9)),(20,(vB x10)),(22,(vI x11))]
theorem xCZ{N}:∀n x0 x1 x2 x3 x9 x10 x11 r,A5 N n x0 x1 x2 x3 x9 x10 x11=some r->RS L3 4 (xBi x0 x1 x2 x3 x9 x10 x11) (xAH r):=
 nI (fun _ _ _ _ _ _ _ _ h=>nE h) fun n ih x0 x1 x2 x3 x9 x10 x11 r h=>cE (oA h) (fun h=>cE (iE (iE h)) (fun h=>bE (iE h) xAJ fun r1 h=>cE (iE h) (fun h=>tS (iE (cb F h)) (ih _ _ _ _ _ _ _ _ (iE (cb F h)).2)) fun h=>tS (iE (cb F h)) (ih _ _ _ _ _ _ _ _ (iE (cb F h)).2)) fun h=>cE (rp 1 h) (fun h=>cE h (fun h=>tS (iE (iE (iE h))) (ih _ _ _ _ _ _ _ _ (iE (iE (iE h))).2)) fun h=>tS (iE h) (ih _ _ _ _ _ _ _ _ (iE h).2)) fun h=>tS (iE (cb F h)) (ih _ _ _ _ _ _ _ _ (iE (cb F h)).2)) fun h=>cE h (fun h=>dS (iE (iE h))) fun h=>dS h
theorem xOh{N a0 a1 a2 a3 r}(h:KR N a0 a1 a2 a3=some r):AbC 119 (xOf a0 a1 a2 a3) (xAH r):=
 oK L3 <| tE (oA h) (xCZ _ _ _ _ _ _ _ _ _ h)
theorem Ig:FnOk Tryz.prog 59 Tryz.f59 (mI Tryz.f59 105 [.cell 6 30] [0,2,4,6,8,10,12,14,16,18,20,22,24,26,46,86,110,180,204,7,9,11,13,15,23] [(10,[10,12,18,20,22,24,11,13,23]),(14,[12,22,26,13,23])] [(1,[(6,.take,false)]),(2,[(0,.take,false)]),(3,[(0,.take,false)]),(6,[(2,.take,false),(6,.take,false)]),(18,[(0,.take,false)])] (casts:=[(10,[(23,6,true)])]) (fcast:=[(13,4,true),(13,5,true),(13,6,true)])):=fO Tryz.func59
def xCe(x9 x10 x12:Int)(b5 b6 b11:Val):St:=[(10,(vP 5)),(12,(vP 6)),(18,(vI x9)),(20,(vI x10)),(22,(vP 11)),(24,(vI x12)),(11,(vV .ro b5)),(13,(vV .own b6)),(23,.v true [.int .i64 b11.kind,.int .i64 b11.n,.int .i64 b11.step,.str b11.text,.sl .own .val b11.list,.sl .own .str b11.columns,.sl .ro .row b11.rows])]
def xCf(x13:Int)(b6 b11:Val):St:=[(12,(vP 6)),(22,(vP 11)),(26,(vI x13)),(13,(vV .own b6)),(23,.v true [.int .i64 b11.kind,.int .i64 b11.n,.int .i64 b11.step,.str b11.text,.sl .own .val b11.list,.sl .own .str b11.columns,.sl .ro .row b11.rows])]
theorem xDP{N}:∀n x13 b6 b11 r,C6 N n x13 b6 b11=some r->RS Ig 14 (xCf x13 b6 b11) (Jz r):=
 nI (fun _ _ _ _ h=>nE h) fun n ih x13 b6 b11 r h=>cE (oA h) (fun h=>bE (iE (iE h)) Dc fun r1 h=>cE h (fun h=>bE h zH fun r2 h=>dS h) fun h=>tS h (ih _ _ _ _ h.2)) fun h=>dS h
theorem xDO{N}:∀n x9 x10 x12 b5 b6 b11 r,DZ N n x9 x10 x12 b5 b6 b11=some r->RS Ig 10 (xCe x9 x10 x12 b5 b6 b11) (Jz r):=
 nI (fun _ _ _ _ _ _ _ h=>nE h) fun n ih x9 x10 x12 b5 b6 b11 r h=>cE (oA h) (fun h=>bE (rp 3 (iE (rp 1 (iE (iE h))))) xOh fun r1 h=>tS h (ih _ _ _ _ _ _ _ h.2)) fun h=>tS h (xDP _ _ _ _ _ h.2)
theorem xMB{N a0 a1 a2 r}(h:C5 N a0 a1 a2=some r):AbC 59 (xMA a0 a1 a2) (Jz r):=
 oK Ig <| bE (oA h) Bu fun r1 h=>cE h (fun h=>dE h) fun h=>bE h BE fun r2 h=>bE h BE fun r3 h=>cE h (fun h=>bE (cb Y (cb Y h)) zH fun r4 h=>dE h) fun h=>cE h (fun h=>bE (cb Y h) zH fun r4 h=>dE h) fun h=>cE h (fun h=>bE h zH fun r4 h=>dE h) fun h=>tE h (xDO _ _ _ _ _ _ _ _ h.2)
theorem xET:FnOk Tryz.prog 120 Tryz.f120 (mI Tryz.f120 33 [.cell 6 77] [0,2,4,6,8,12,14,7,9,13,15] [] [(2,[(1,.take,false)]),(3,[(0,.take,false)])]):=fO Tryz.func120
theorem xOd{N a0 a1 a2 r}(h:IP N a0 a1 a2=some r):AbC 120 (xOc a0 a1 a2) (xOe r):=
 oK xET <| bE (iE (oA h)) xAJ fun r1 h=>dE (iE (iE (iE (iE h))))
theorem GV:FnOk Tryz.prog 60 Tryz.f60 (mI Tryz.f60 125 [.cell 6 30] [0,2,4,6,8,10,12,14,16,18,20,22,24,26,46,76,124,134,146,160,202,244,7,9,11,13,15,23] [(15,[8,10,12,18,20,22,24,9,11,13,23]),(18,[8,10,12,18,20,22,24,26,9,11,13,23])] [(1,[(6,.take,false)]),(2,[(0,.take,false)]),(3,[(0,.take,false)]),(6,[(2,.take,false)]),(9,[(1,.take,false)]),(21,[(1,.take,false),(15,.take,false)]),(24,[(0,.take,false)])]):=fO Tryz.func60
def Kd(x9 x10 x12:Int)(b4 b5 b6 b11:Val):St:=[(8,(vP 4)),(10,(vP 5)),(12,(vP 6)),(18,(vI x9)),(20,(vI x10)),(22,(vP 11)),(24,(vI x12)),(9,(vV .ro b4)),(11,(vV .ro b5)),(13,(vV .own b6)),(23,(vV .own b11))]
def xCg(x9 x10 x12 x13:Int)(b4 b5 b6 b11:Val):St:=[(8,(vP 4)),(10,(vP 5)),(12,(vP 6)),(18,(vI x9)),(20,(vI x10)),(22,(vP 11)),(24,(vI x12)),(26,(vI x13)),(9,(vV .ro b4)),(11,(vV .ro b5)),(13,(vV .own b6)),(23,(vV .own b11))]
theorem xDR{N}{k15}(hk15:∀z0 z1 z2 z3 z4 z5 z6 r,k15 z0 z1 z2 z3 z4 z5 z6=some r->RS GV 15 (Kd z0 z1 z2 z3 z4 z5 z6) (Hy r)):∀n x9 x10 x12 x13 b4 b5 b6 b11 r,D2 N k15 n x9 x10 x12 x13 b4 b5 b6 b11=some r->RS GV 18 (xCg x9 x10 x12 x13 b4 b5 b6 b11) (Hy r):=
 nI (fun _ _ _ _ _ _ _ _ _ h=>nE h) fun n ih x9 x10 x12 x13 b4 b5 b6 b11 r h=>cE (oA h) (fun h=>cE (iE (iE (iE (iE h)))) (fun h=>bE (rp 3 (rp 4 h)) xOd fun r1 h=>tS (iE h) (ih _ _ _ _ _ _ _ _ _ (iE h).2)) fun h=>tS h (ih _ _ _ _ _ _ _ _ _ h.2)) fun h=>tS h (hk15 _ _ _ _ _ _ _ _ h.2)
theorem xDQ{N}:∀n x9 x10 x12 b4 b5 b6 b11 r,C8 N n x9 x10 x12 b4 b5 b6 b11=some r->RS GV 15 (Kd x9 x10 x12 b4 b5 b6 b11) (Hy r):=
 nI (fun _ _ _ _ _ _ _ _ h=>nE h) fun n ih x9 x10 x12 b4 b5 b6 b11 r h=>cE (oA h) (fun h=>tS h (xDR ih _ _ _ _ _ _ _ _ _ _ h.2)) fun h=>cE h (fun h=>bE h zH fun r1 h=>dS h) fun h=>dS h
theorem xMR{N a0 a1 a2 r}(h:D1 N a0 a1 a2=some r):AbC 60 (xMQ a0 a1 a2) (Hy r):=
 oK GV <| bE (oA h) Bu fun r1 h=>cE h (fun h=>dE h) fun h=>bE h BE fun r2 h=>bE h BE fun r3 h=>cE h (fun h=>bE (cb Y h) zH fun r4 h=>dE h) fun h=>cE h (fun h=>bE h zH fun r4 h=>dE h) fun h=>bE (iE (iE (iE (iE (iE h))))) Jx fun r4 h=>cE h (fun h=>bE h zH fun r5 h=>dE h) fun h=>cE h (fun h=>bE h zH fun r5 h=>dE h) fun h=>tE h (xDQ _ _ _ _ _ _ _ _ _ h.2)
theorem MQ:FnOk Tryz.prog 61 Tryz.f61 (mI Tryz.f61 115 [.cell 8 30] [0,2,4,6,8,10,12,14,16,18,20,22,24,26,28,30,52,108,118,148,196,9,11,13,15,17,19,27] [(13,[14,16,22,24,26,28,15,17,27])] [(1,[(7,.take,false)]),(2,[(0,.take,false)]),(3,[(0,.take,false)]),(6,[(4,.take,false),(11,.take,false),(15,.take,false)]),(11,[(1,.take,false)]),(18,[(1,.ref,false),(4,.ref,false),(8,.ref,false)]),(19,[(0,.take,false)])]):=fO Tryz.func61
def xCh(x11 x12 x14:Int)(b7 b8 b13:Val):St:=[(14,(vP 7)),(16,(vP 8)),(22,(vI x11)),(24,(vI x12)),(26,(vP 13)),(28,(vI x14)),(15,(vV .ro b7)),(17,(vV .own b8)),(27,(vV .own b13))]
theorem xDS{N}:∀n x11 x12 x14 b7 b8 b13 r,C4 N n x11 x12 x14 b7 b8 b13=some r->RS MQ 13 (xCh x11 x12 x14 b7 b8 b13) (Oi r):=
 nI (fun _ _ _ _ _ _ _ h=>nE h) fun n ih x11 x12 x14 b7 b8 b13 r h=>cE (oA h) (fun h=>bE (iE (rp 1 (iE (iE h)))) Dc fun r1 h=>cE h (fun h=>bE h zH fun r2 h=>dS h) fun h=>tS (ap (show(27:Nat)=27/\(6:Nat)=6/\([(x14.toNat,0)]:List (Nat×Nat))=[(x14.toNat,0)] from⟨rfl,rfl,rfl⟩) (rp 1 (iE (iE h)))) (ih _ _ _ _ _ _ _ (ap (show(27:Nat)=27/\(6:Nat)=6/\([(x14.toNat,0)]:List (Nat×Nat))=[(x14.toNat,0)] from⟨rfl,rfl,rfl⟩) (rp 1 (iE (iE h)))).2)) fun h=>dS h
theorem xMe{N a0 a1 a2 a3 r}(h:BU N a0 a1 a2 a3=some r):AbC 61 (xMd a0 a1 a2 a3) (Oi r):=
 oK MQ <| bE (oA h) Bu fun r1 h=>cE h (fun h=>dE h) fun h=>bE h BE fun r2 h=>bE h BE fun r3 h=>bE h xAe fun r4 h=>cE h (fun h=>bE (cb Y (cb Y (cb Y h))) zH fun r5 h=>dE h) fun h=>bE h BE fun r5 h=>cE h (fun h=>bE (cb Y (cb Y h)) zH fun r6 h=>dE h) fun h=>cE h (fun h=>bE (cb Y h) zH fun r6 h=>dE h) fun h=>cE h (fun h=>bE h zH fun r6 h=>dE h) fun h=>cE h (fun h=>bE h zH fun r6 h=>dE h) fun h=>bE h KM fun r6 h=>tE (iE h) (xDS _ _ _ _ _ _ _ _ (iE h).2)
theorem fk9:FnOk Tryz.prog 9 Tryz.f9 (mI Tryz.f9 145 [.cell 4 30] [0,2,8,18,22,24,36,48,60,78,96,114,132,150,168,186,210,234,258,9] [] [] (fcast:=[(9,4,true),(9,5,true),(9,6,true)])):=fO Tryz.func9
theorem xMk{N a0 a1 r}(h:Bm N a0 a1=some r):AbC 9 (xMj a0 a1) (xMl r):=
 oK fk9 <| bE (oA h) xMh fun r1 h=>cE h (fun h=>bE h zH fun r2 h=>dE h) fun h=>cE h (fun h=>bE (iE h) xMV fun r2 h=>dE h) fun h=>cE h (fun h=>bE (iE h) xNb fun r2 h=>dE h) fun h=>cE h (fun h=>bE (iE h) xMt fun r2 h=>dE h) fun h=>cE h (fun h=>bE (iE (iE h)) xNf fun r2 h=>dE h) fun h=>cE h (fun h=>bE (iE (iE h)) xM5 fun r2 h=>dE h) fun h=>cE h (fun h=>bE (iE (iE h)) IA fun r2 h=>dE h) fun h=>cE h (fun h=>bE (iE (iE h)) xNw fun r2 h=>dE h) fun h=>cE h (fun h=>bE (iE (iE h)) xMT fun r2 h=>dE h) fun h=>cE h (fun h=>bE (iE (iE h)) xMr fun r2 h=>dE h) fun h=>cE h (fun h=>bE (iE (iE h)) xNd fun r2 h=>dE h) fun h=>cE h (fun h=>bE (iE (iE (iE h))) xNi fun r2 h=>dE h) fun h=>cE h (fun h=>bE (iE (iE (iE h))) xMB fun r2 h=>dE h) fun h=>cE h (fun h=>bE (iE (iE (iE h))) xMR fun r2 h=>dE h) fun h=>cE h (fun h=>bE (iE (iE (iE (iE h)))) xMe fun r2 h=>dE h) fun h=>bE h zH fun r2 h=>dE h
theorem xFi:FnOk Tryz.prog 29 Tryz.f29 (mI Tryz.f29 13 [.tmp 2] [0,4] [] [(1,[(2,.take,false),(6,.take,false)])]):=fO Tryz.func29
theorem xIb{N a0 r}(h:Gs N a0=some r):AbC 29 (xIa a0) (xIc r):=
 oK xFi <| cE (oA h) (fun h=>dE (cb Y h)) fun h=>cE h (fun h=>dE h) fun h=>dE h
theorem xFj:FnOk Tryz.prog 30 Tryz.f30 (mI Tryz.f30 26 [.tmp 2] [0,4,6,8,12,24,40,48] [] []):=fO Tryz.func30
theorem Mn{N a0 r}(h:Du N a0=some r):AbC 30 (xGq a0) (xGs r):=
 oK xFj <| cE (oA h) (fun h=>dE h) fun h=>cE h (fun h=>dE (rb Y 0 h)) fun h=>cE h (fun h=>dE (rb Y 0 h)) fun h=>cE h (fun h=>dE (rb Y 0 h)) fun h=>cE h (fun h=>dE (rb Y 0 h)) fun h=>cE h (fun h=>dE h) fun h=>cE h (fun h=>dE (rb Y 0 h)) fun h=>cE h (fun h=>dE (rb Y 0 h)) fun h=>cE h (fun h=>dE (rb Y 0 h)) fun h=>cE h (fun h=>dE (rb Y 0 h)) fun h=>cE h (fun h=>dE (rb Y 0 h)) fun h=>cE h (fun h=>dE (rb Y 0 h)) fun h=>cE h (fun h=>dE h) fun h=>cE h (fun h=>dE (rb Y 0 h)) fun h=>cE h (fun h=>dE (rb Y 0 h)) fun h=>cE h (fun h=>dE h) fun h=>cE h (fun h=>dE h) fun h=>dE h
theorem xFk:FnOk Tryz.prog 31 Tryz.f31 (mI Tryz.f31 5 [.cell 2 30] [0,4,5] [] []):=fO Tryz.func31
theorem yY{N a0 r}(h:yT N a0=some r):AbC 31 (xGN a0) (xGO r):=
 oK xFk <| dE (oA h)
theorem xFE:FnOk Tryz.prog 90 Tryz.f90 (mI Tryz.f90 15 [.tmp 6] [0,2,4,12] [] [(1,[(3,.take,false)])]):=fO Tryz.func90
theorem EI{N a0 a1 a2 r}(h:Bg N a0 a1 a2=some r):AbC 90 (xIL a0 a1 a2) (xIM r):=
 oK xFE <| cE (oA h) (fun h=>dE h) fun h=>dE h
theorem xFC:FnOk Tryz.prog 88 Tryz.f88 (mI Tryz.f88 5 [.tmp 2] [0,4] [] []):=fO Tryz.func88
theorem DB{N a0 r}(h:BP N a0=some r):AbC 88 (xId a0) (xIe r):=
 oK xFC <| bE (oA h) EI fun r1 h=>dE h
theorem Ly:FnOk Tryz.prog 162 Tryz.f162 (mI Tryz.f162 29 [.tmp 2] [0,4,6,14,50] [(2,[0,6])] [(4,[(4,.take,false),(10,.take,false)])]):=fO Tryz.func162
def xBG(x0:Str)(x3:Int):St:=[(0,(vT x0)),(6,(vI x3))]
theorem xDm{N}:∀n x0 x3 r,FSq N n x0 x3=some r->RS Ly 2 (xBG x0 x3) (Mv r):=
 nI (fun _ _ _ h=>nE h) fun n ih x0 x3 r h=>cE (oA h) (fun h=>cE (iE h) (fun h=>dS (cb Y (cb Y h))) fun h=>cE (rp 1 h) (fun h=>dS (cb Y h)) fun h=>cE (rp 3 h) (fun h=>dS h) fun h=>tS h (ih _ _ _ h.2)) fun h=>dS h
theorem xG3{N a0 r}(h:It N a0=some r):AbC 162 (xG0 a0) (Mv r):=
 oK Ly <| tE (oA h) (xDm _ _ _ _ h)
theorem Lp:FnOk Tryz.prog 147 Tryz.f147 (mI Tryz.f147 42 [.tmp 2] [0,4,6,8,16,76] [(2,[0,6])] [(4,[(4,.take,false)]),(5,[(0,.take,false),(2,.take,false),(5,.take,false),(11,.take,false)])]):=fO Tryz.func147
def xBy(x0:Str)(x3:Int):St:=[(0,(vT x0)),(6,(vI x3))]
theorem xDe{N}:∀n x0 x3 r,Bc N n x0 x3=some r->RS Lp 2 (xBy x0 x3) (NN r):=
 nI (fun _ _ _ h=>nE h) fun n ih x0 x3 r h=>cE (oA h) (fun h=>cE (iE h) (fun h=>cE (rp 1 h) (fun h=>cE h (fun h=>dS (cb Y (cb Y h))) fun h=>cE (rp 4 h) (fun h=>dS (cb Y h)) fun h=>cE (rp 6 h) (fun h=>dS h) fun h=>tS h (ih _ _ _ h.2)) fun h=>tS (cb F h) (ih _ _ _ (cb F h).2)) fun h=>cE (cb Y h) (fun h=>dS (cb Y (cb Y h))) fun h=>cE (rp 3 h) (fun h=>dS (cb Y h)) fun h=>cE (rp 5 h) (fun h=>dS h) fun h=>tS h (ih _ _ _ h.2)) fun h=>bE h EI fun r1 h=>dS h
theorem xIl{N a0 r}(h:JC N a0=some r):AbC 147 (xIj a0) (NN r):=
 oK Lp <| tE (oA h) (xDe _ _ _ _ h)
theorem xE0:FnOk Tryz.prog 148 Tryz.f148 (mI Tryz.f148 15 [.tmp 2] [0,4,6,8] [] []):=fO Tryz.func148
theorem xGW{N a0 r}(h:G8 N a0=some r):AbC 148 (xGU a0) (xGX r):=
 oK xE0 <| cE (oA h) (fun h=>dE (rb Y 0 h)) fun h=>cE h (fun h=>dE (rb Y 0 h)) fun h=>cE h (fun h=>dE (rb Y 0 h)) fun h=>cE h (fun h=>dE (rb Y 0 h)) fun h=>cE h (fun h=>dE (rb Y 0 h)) fun h=>cE h (fun h=>dE (rb Y 0 h)) fun h=>cE h (fun h=>dE h) fun h=>bE h Mn fun r1 h=>dE h
theorem xEL:FnOk Tryz.prog 102 Tryz.f102 (mI Tryz.f102 10 [.tmp 2] [0,4] [] [(1,[(2,.take,false)])]):=fO Tryz.func102
theorem Is{N a0 r}(h:Dy N a0=some r):AbC 102 (xGY a0) (xGZ r):=
 oK xEL <| bE (oA h) xIl fun r1 h=>cE h (fun h=>bE h xGW fun r2 h=>dE h) fun h=>dE h
theorem Lo:FnOk Tryz.prog 142 Tryz.f142 (mI Tryz.f142 19 [.tmp 4] [0,2,8,10,12,14,16,18,20,32] [(2,[2,14,16,18])] [(4,[(0,.take,false)]),(5,[(0,.take,false)]),(6,[(1,.take,false)])]):=fO Tryz.func142
def xBx(x1:Str)(x7:List Str)(x8 x9:Int):St:=[(2,(vT x1)),(14,(vS .ro .str x7)),(16,(vI x8)),(18,(vI x9))]
theorem xDd{N}:∀n x1 x7 x8 x9 r,Cq N n x1 x7 x8 x9=some r->RS Lo 2 (xBx x1 x7 x8 x9) (Mt r):=
 nI (fun _ _ _ _ _ h=>nE h) fun n ih x1 x7 x8 x9 r h=>cE (oA h) (fun h=>cE (iE h) (fun h=>dS h) fun h=>tS h (ih _ _ _ _ _ h.2)) fun h=>dS h
theorem Ir{N a0 a1 r}(h:FR N a0 a1=some r):AbC 142 (xGT a0 a1) (Mt r):=
 oK Lo <| tE (oA h) (xDd _ _ _ _ _ _ h)
theorem M4:FnOk Tryz.prog 96 Tryz.f96 (mI Tryz.f96 18 [.tmp 2] [0,4,6,8,10,12,14,16,32] [(2,[0,10,12,14])] [(4,[(1,.take,false),(3,.take,false)]),(6,[(1,.take,false)])]):=fO Tryz.func96
def xCB(x0 x5:List Str)(x6 x7:Int):St:=[(0,(vS .ro .str x0)),(10,(vS .ro .str x5)),(12,(vI x6)),(14,(vI x7))]
theorem xEc{N}:∀n x0 x5 x6 x7 r,Co N n x0 x5 x6 x7=some r->RS M4 2 (xCB x0 x5 x6 x7) (Mm r):=
 nI (fun _ _ _ _ _ h=>nE h) fun n ih x0 x5 x6 x7 r h=>cE (oA h) (fun h=>bE (iE h) Ir fun r1 h=>cE h (fun h=>dS h) fun h=>tS h (ih _ _ _ _ _ h.2)) fun h=>dS h
theorem GY{N a0 r}(h:Dt N a0=some r):AbC 96 (xGp a0) (Mm r):=
 oK M4 <| tE (oA h) (xEc _ _ _ _ _ _ h)
theorem M5:FnOk Tryz.prog 97 Tryz.f97 (mI Tryz.f97 22 [.tmp 2] [0,4,8,10,12,14,16,26] [(2,[0,10,12,14])] [(4,[(0,.take,false)]),(6,[(1,.take,false)]),(7,[(3,.take,false)])]):=fO Tryz.func97
def xCC(x0 x5:List Str)(x6 x7:Int):St:=[(0,(vS .ro .str x0)),(10,(vS .ro .str x5)),(12,(vI x6)),(14,(vI x7))]
theorem xEd{N}:∀n x0 x5 x6 x7 r,EC N n x0 x5 x6 x7=some r->RS M5 2 (xCC x0 x5 x6 x7) (NG r):=
 nI (fun _ _ _ _ _ h=>nE h) fun n ih x0 x5 x6 x7 r h=>cE (oA h) (fun h=>bE (iE h) Is fun r1 h=>cE h (fun h=>dS h) fun h=>tS h (ih _ _ _ _ _ h.2)) fun h=>bE h EI fun r1 h=>cE h (fun h=>bE h GY fun r2 h=>dS h) fun h=>dS h
theorem Ix{N a0 r}(h:FX N a0=some r):AbC 97 (xHZ a0) (NG r):=
 oK M5 <| tE (oA h) (xEd _ _ _ _ _ _ h)
theorem Dm:FnOk Tryz.prog 163 Tryz.f163 (mI Tryz.f163 77 [.tmp 2] [0,2,4,8,12,14,16,36,40,42,44,46,64,68,70,72,74,84,90,92,94,96,148,3,9,17] [(4,[2,40,42,44,3]),(9,[2,8,40,42,44,68,70,72,3,9]),(15,[2,8,40,42,44,90,92,94,3,9])] [(1,[(4,.take,false)]),(11,[(0,.take,false)]),(13,[(1,.take,false)]),(17,[(3,.take,false),(8,.take,false),(11,.take,false)]),(19,[(1,.take,false)]),(20,[(1,.take,false)])]):=fO Tryz.func163
def I0(x20:List Rowd)(x21 x22:Int)(b1:Val):St:=[(2,(vP 1)),(40,(vS .ro .row x20)),(42,(vI x21)),(44,(vI x22)),(3,(vV .ro b1))]
def xBI(x20:List Rowd)(x21 x22:Int)(x34:List Int)(x35 x36:Int)(b1:Val)(b4:Rowd):St:=[(2,(vP 1)),(8,(vP 4)),(40,(vS .ro .row x20)),(42,(vI x21)),(44,(vI x22)),(68,(vS .ro .int x34)),(70,(vI x35)),(72,(vI x36)),(3,(vV .ro b1)),(9,.v true [.sl .ro .int b4.cells,.sl .ro .org b4.frm])]
def xBH(x20:List Rowd)(x21 x22:Int)(x45:List Org)(x46 x47:Int)(b1:Val)(b4:Rowd):St:=[(2,(vP 1)),(8,(vP 4)),(40,(vS .ro .row x20)),(42,(vI x21)),(44,(vI x22)),(90,(vS .ro .org x45)),(92,(vI x46)),(94,(vI x47)),(3,(vV .ro b1)),(9,.v true [.sl .ro .int b4.cells,.sl .ro .org b4.frm])]
theorem xDn{N}{k4}(hk4:∀z0 z1 z2 z3 r,k4 z0 z1 z2 z3=some r->RS Dm 4 (I0 z0 z1 z2 z3) (EE r)):∀n x20 x21 x22 x45 x46 x47 b1 b4 r,CL N k4 n x20 x21 x22 x45 x46 x47 b1 b4=some r->RS Dm 15 (xBH x20 x21 x22 x45 x46 x47 b1 b4) (EE r):=
 nI (fun _ _ _ _ _ _ _ _ _ h=>nE h) fun n ih x20 x21 x22 x45 x46 x47 b1 b4 r h=>cE (oA h) (fun h=>cE (iE h) (fun h=>dS (cb Y (cb Y h))) fun h=>cE h (fun h=>dS (cb Y h)) fun h=>cE h (fun h=>bE (iE h) NO fun r1 h=>cE h (fun h=>dS h) fun h=>tS h (ih _ _ _ _ _ _ _ _ _ h.2)) fun h=>tS (cb F h) (ih _ _ _ _ _ _ _ _ _ (cb F h).2)) fun h=>tS h (hk4 _ _ _ _ _ h.2)
theorem xDp{N}{k4}(hk4:∀z0 z1 z2 z3 r,k4 z0 z1 z2 z3=some r->RS Dm 4 (I0 z0 z1 z2 z3) (EE r)):∀n x20 x21 x22 x34 x35 x36 b1 b4 r,DD N k4 n x20 x21 x22 x34 x35 x36 b1 b4=some r->RS Dm 9 (xBI x20 x21 x22 x34 x35 x36 b1 b4) (EE r):=
 nI (fun _ _ _ _ _ _ _ _ _ h=>nE h) fun n ih x20 x21 x22 x34 x35 x36 b1 b4 r h=>cE (oA h) (fun h=>bE (iE h) DB fun r1 h=>cE h (fun h=>dS h) fun h=>tS h (ih _ _ _ _ _ _ _ _ _ h.2)) fun h=>tS h (xDn hk4 _ _ _ _ _ _ _ _ _ _ h.2)
theorem xDo{N}:∀n x20 x21 x22 b1 r,DC N n x20 x21 x22 b1=some r->RS Dm 4 (I0 x20 x21 x22 b1) (EE r):=
 nI (fun _ _ _ _ _ h=>nE h) fun n ih x20 x21 x22 b1 r h=>cE (oA h) (fun h=>cE (iE h) (fun h=>dS h) fun h=>tS h (xDp ih _ _ _ _ _ _ _ _ _ _ h.2)) fun h=>dS h
theorem NM{N a0 r}(h:FY N a0=some r):AbC 163 (xIf a0) (EE r):=
 oK Dm <| bE (oA h) Ix fun r1 h=>cE h (fun h=>dE (cb Y h)) fun h=>cE h (fun h=>dE h) fun h=>tE h (xDo _ _ _ _ _ _ h.2)
def IZ(q:Val->Option (Int)):Prop:=∀a0 r,q a0=some r->AbC 164 (Ip a0) (G3 r)
theorem Lz:FnOk Tryz.prog 164 Tryz.f164 (mI Tryz.f164 20 [.tmp 2] [0,2,4,6,10,14,16,18,20,3,11] [(3,[6,14,16,18])] [(6,[(1,.take,false)])]):=fO Tryz.func164
def xBJ(x3:Int)(x7:List Val)(x8 x9:Int):St:=[(6,(vI x3)),(14,(vS .ro .val x7)),(16,(vI x8)),(18,(vI x9))]
theorem xDq{N}{q0}(g0:IZ q0):∀n x3 x7 x8 x9 r,Dx N q0 n x3 x7 x8 x9=some r->RS Lz 3 (xBJ x3 x7 x8 x9) (G3 r):=
 nI (fun _ _ _ _ _ h=>nE h) fun n ih x3 x7 x8 x9 r h=>cE (oA h) (fun h=>bE (iE h) (g0 _ _) fun r1 h=>tS h (ih _ _ _ _ _ h.2)) fun h=>dS h
theorem xGK{N}{q0}(g0:IZ q0){a0 r}(h:Mq N q0 a0=some r):AbC 164 (Ip a0) (G3 r):=
 oK Lz <| tE (oA h) (xDq g0 _ _ _ _ _ _ h)
theorem Ms{N:Nat}:∀d,IZ (Cp N d)
 |0=>fun _ _ h=>nE h
 |d+1=>fun _ _ h=>xGK (N:=N) (Ms d) h
theorem xGL{N:Nat}{a0:Val}{r:Int}(h:FQ N a0=some r):AbC 164 (Ip a0) (G3 r):=Ms N _ r h
def IY(q:Val->Option (Bool)):Prop:=∀a0 r,q a0=some r->AbC 139 (Iv a0) (Ga r)
theorem Lj:FnOk Tryz.prog 139 Tryz.f139 (mI Tryz.f139 185 [.tmp 2] [0,2,4,6,10,46,48,84,120,156,192,242,248,250,252,254,294,3,11] [(15,[2,248,250,252,3])] [(1,[(4,.take,false),(10,.take,false)]),(4,[(1,.take,false),(6,.take,false),(11,.take,false)]),(6,[(1,.take,false),(6,.take,false),(11,.take,false)]),(8,[(1,.take,false),(6,.take,false),(11,.take,false)]),(10,[(1,.take,false),(6,.take,false),(11,.take,false)]),(12,[(3,.take,false),(8,.take,false),(13,.take,false),(19,.take,false)]),(17,[(3,.take,false),(8,.take,false),(13,.take,false)]),(19,[(1,.take,false)]),(20,[(3,.take,false),(8,.take,false),(13,.take,false),(19,.take,false),(25,.take,false),(31,.take,false)])]):=fO Tryz.func139
def xBu(x124:List Val)(x125 x126:Int)(b1:Val):St:=[(2,(vP 1)),(248,(vS .ro .val x124)),(250,(vI x125)),(252,(vI x126)),(3,(vV .ro b1))]
theorem I5{N}{q0}(g0:IY q0):∀n x124 x125 x126 b1 r,Ap N q0 n x124 x125 x126 b1=some r->RS Lj 15 (xBu x124 x125 x126 b1) (Ga r):=
 nI (fun _ _ _ _ _ h=>nE h) fun n ih x124 x125 x126 b1 r h=>cE (oA h) (fun h=>cE (iE h) (fun h=>cE h (fun h=>cE h (fun h=>dS (cb Y h)) fun h=>bE h (g0 _ _) fun r1 h=>cE h (fun h=>dS h) fun h=>tS h (ih _ _ _ _ _ h.2)) fun h=>bE (cb F h) (g0 _ _) fun r1 h=>cE h (fun h=>dS h) fun h=>tS h (ih _ _ _ _ _ h.2)) fun h=>bE (cb F (cb F h)) (g0 _ _) fun r1 h=>cE h (fun h=>dS h) fun h=>tS h (ih _ _ _ _ _ h.2)) fun h=>cE h (fun h=>cE h (fun h=>cE h (fun h=>cE h (fun h=>cE h (fun h=>cE h (fun h=>bE h xGL fun r1 h=>dS h) fun h=>dS h) fun h=>dS (cb F h)) fun h=>dS (cb F (cb F h))) fun h=>dS (cb F (cb F (cb F h)))) fun h=>dS (cb F (cb F (cb F (cb F h))))) fun h=>dS (cb F (cb F (cb F (cb F (cb F h)))))
theorem xG4{N}{q0}(g0:IY q0){a0 r}(h:G9 N q0 a0=some r):AbC 139 (Iv a0) (Ga r):=
 oK Lj <| cE (oA h) (fun h=>cE h (fun h=>cE h (fun h=>cE h (fun h=>cE h (fun h=>cE h (fun h=>bE h DB fun r1 h=>dE h) fun h=>dE h) fun h=>dE (cb F h)) fun h=>dE (cb F (cb F h))) fun h=>cE h (fun h=>cE h (fun h=>cE h (fun h=>cE h (fun h=>bE h xG3 fun r1 h=>dE h) fun h=>dE h) fun h=>dE (cb F h)) fun h=>dE (cb F (cb F h))) fun h=>cE h (fun h=>cE h (fun h=>cE h (fun h=>bE h DB fun r1 h=>cE h (fun h=>bE h DB fun r2 h=>dE h) fun h=>dE h) fun h=>dE (cb F h)) fun h=>dE (cb F (cb F h))) fun h=>cE h (fun h=>cE h (fun h=>cE h (fun h=>cE h (fun h=>bE h EI fun r1 h=>dE h) fun h=>dE h) fun h=>dE (cb F h)) fun h=>dE (cb F (cb F h))) fun h=>cE h (fun h=>cE h (fun h=>cE h (fun h=>cE h (fun h=>bE (rb Y 9 h) NM fun r1 h=>dE h) fun h=>dE (cb F h)) fun h=>dE (cb F (cb F h))) fun h=>dE (cb F (cb F (cb F h)))) fun h=>cE h (fun h=>tE h (I5 g0 _ _ _ _ _ _ h.2)) fun h=>dE h) fun h=>cE h (fun h=>dE (cb F (cb F (cb F h)))) fun h=>cE h (fun h=>dE (cb F (cb F (cb F h)))) fun h=>cE h (fun h=>dE (cb F (cb F (cb F h)))) fun h=>cE h (fun h=>dE (cb F (cb F (cb F h)))) fun h=>cE h (fun h=>cE h (fun h=>cE h (fun h=>cE h (fun h=>bE (rb Y 9 h) NM fun r1 h=>dE h) fun h=>dE (cb F h)) fun h=>dE (cb F (cb F h))) fun h=>dE (cb F (cb F (cb F h)))) fun h=>cE h (fun h=>tE h (I5 g0 _ _ _ _ _ _ h.2)) fun h=>dE h) fun h=>cE (cb F h) (fun h=>dE (cb F (cb F (cb F h)))) fun h=>cE h (fun h=>dE (cb F (cb F (cb F h)))) fun h=>cE h (fun h=>dE (cb F (cb F (cb F h)))) fun h=>cE h (fun h=>dE (cb F (cb F (cb F h)))) fun h=>cE h (fun h=>cE h (fun h=>cE h (fun h=>cE h (fun h=>dE (rb F 9 h)) fun h=>dE (cb F h)) fun h=>dE (cb F (cb F h))) fun h=>dE (cb F (cb F (cb F h)))) fun h=>cE h (fun h=>tE h (I5 g0 _ _ _ _ _ _ h.2)) fun h=>dE h
theorem Mw{N:Nat}:∀d,IY (Aq N d)
 |0=>fun _ _ h=>nE h
 |d+1=>fun _ _ h=>xG4 (N:=N) (Mw d) h
theorem xG5{N:Nat}{a0:Val}{r:Bool}(h:Iu N a0=some r):AbC 139 (Iv a0) (Ga r):=Mw N _ r h
theorem xIy{P:Program}{f:FuncId}{ags:List Arg}{r:Val×Bool×Bool}(h:AbsCalls P f ags (F3 r))(ht:r.2.2=true):AbsCalls P f ags (JE r):=by
 unfold F3 at h;rw [ht] at h;exact h
theorem JF{P:Program}{f:FuncId}{ags:List Arg}{r:Val×Bool×Bool}(h:AbsCalls P f ags (F3 r))(ht:r.2.2=true)(e0:List.isEmpty (Val.list r.1)=true)(e1:List.isEmpty (Val.columns r.1)=true)(e2:List.isEmpty (Val.rows r.1)=true):AbsCalls P f ags (xIw r):=by
 have h:=xIy h ht;unfold JE at h;rw [Yy.1 e0,Yy.1 e1,Yy.1 e2] at h;exact h
theorem M2:FnOk Tryz.prog 86 Tryz.f86 (mI Tryz.f86 22 [.cell 2 30,.tmp 3] [0,4,6,10,12,14,16,18,28,36,5,11] [(2,[4,12,14,16,5])] [(8,[(1,.take,false)])]):=fO Tryz.func86
def xCz(x6:List Val)(x7 x8:Int)(b2:Val):St:=[(4,(vP 2)),(12,(vS .ro .val x6)),(14,(vI x7)),(16,(vI x8)),(5,(vV .own b2))]
theorem xEa{N}:∀n x6 x7 x8 b2 r,CM N n x6 x7 x8 b2=some r->RS M2 2 (xCz x6 x7 x8 b2) (F3 r):=
 nI (fun _ _ _ _ _ h=>nE h) fun n ih x6 x7 x8 b2 r h=>cE (oA h) (fun h=>bE (iE h) xG5 fun r1 h=>cE h (fun h=>bE h yY fun r2 h=>dS h) fun h=>cE h (fun h=>dS h) fun h=>tS h (ih _ _ _ _ _ h.2)) fun h=>dS h
theorem Gu{N a0 r}(h:EF N a0=some r):AbC 86 (xIv a0) (F3 r):=
 oK M2 <| tE (oA h) (xEa _ _ _ _ _ _ h)
theorem xFB:FnOk Tryz.prog 87 Tryz.f87 (mI Tryz.f87 5 [.cell 2 30] [0,4,5] [] []):=fO Tryz.func87
theorem BM{N a0 r}(h:AW N a0=some r):AbC 87 (xHq a0) (xHr r):=
 oK xFB <| dE (oA h)
theorem xFl:FnOk Tryz.prog 32 Tryz.f32 (mI Tryz.f32 28 [.cell 2 30] [0,2,4,6,8,22,28,30,42,3,5,7] [] [(1,[(2,.take,true),(3,.take,false)]),(2,[(0,.take,false)]),(3,[(0,.take,false)])]):=fO Tryz.func32
theorem xHf{N a0 r}(h:Gc N a0=some r):AbC 32 (xHe a0) (xHg r):=
 oK xFl <| bK (oA h) Gu fun r1 k h=>cN k h (JF k) (fun h=>cE h (fun h=>dE h) fun h=>cE h (fun h=>bE h BM fun r2 h=>dE h) fun h=>cE h (fun h=>bE h BM fun r2 h=>dE h) fun h=>bE h yY fun r2 h=>dE h) fun h=>cE h (fun h=>dE h) fun h=>cE h (fun h=>bE h BM fun r2 h=>dE h) fun h=>cE h (fun h=>bE h BM fun r2 h=>dE h) fun h=>bE h yY fun r2 h=>dE h
theorem MD:FnOk Tryz.prog 33 Tryz.f33 (mI Tryz.f33 42 [.cell 2 30] [0,2,4,6,8,10,14,28,36,42,44,46,48,58,74,3,5,7,15] [(8,[4,10,42,44,46,5])] [(1,[(2,.take,true),(3,.take,false)]),(2,[(0,.take,false)]),(3,[(0,.take,false)]),(15,[(1,.take,false)])]):=fO Tryz.func33
def xBT(x5:Int)(x21:List Val)(x22 x23:Int)(b2:Val):St:=[(4,(vP 2)),(10,(vI x5)),(42,(vS .ro .val x21)),(44,(vI x22)),(46,(vI x23)),(5,(vV .own b2))]
theorem Kr{N}:∀n x5 x21 x22 x23 b2 r,BN N n x5 x21 x22 x23 b2=some r->RS MD 8 (xBT x5 x21 x22 x23 b2) (My r):=
 nI (fun _ _ _ _ _ _ h=>nE h) fun n ih x5 x21 x22 x23 b2 r h=>cE (oA h) (fun h=>cE (iE h) (fun h=>bE h yY fun r1 h=>dS h) fun h=>bE h DB fun r1 h=>cE h (fun h=>bE h yY fun r2 h=>dS h) fun h=>tS h (ih _ _ _ _ _ _ h.2)) fun h=>bE h BM fun r1 h=>dS h
theorem xHC{N a0 r}(h:Gi N a0=some r):AbC 33 (xHB a0) (My r):=
 oK MD <| bK (oA h) Gu fun r1 k h=>cN k h (JF k) (fun h=>cE h (fun h=>dE h) fun h=>cE h (fun h=>bE h yY fun r2 h=>dE h) fun h=>tE h (Kr _ _ _ _ _ _ _ h.2)) fun h=>cE h (fun h=>dE h) fun h=>cE h (fun h=>bE h yY fun r2 h=>dE h) fun h=>tE h (Kr _ _ _ _ _ _ _ h.2)
theorem xIu{P:Program}{f:FuncId}{ags:List Arg}{r:Val×Bool×Bool}(h:AbsCalls P f ags (FZ r))(ht:r.2.2=true):AbsCalls P f ags (JD r):=by
 unfold FZ at h;rw [ht] at h;exact h
theorem Bf{P:Program}{f:FuncId}{ags:List Arg}{r:Val×Bool×Bool}(h:AbsCalls P f ags (FZ r))(ht:r.2.2=true)(e0:List.isEmpty (Val.list r.1)=true)(e1:List.isEmpty (Val.columns r.1)=true)(e2:List.isEmpty (Val.rows r.1)=true):AbsCalls P f ags (xIs r):=by
 have h:=xIu h ht;unfold JD at h;rw [Yy.1 e0,Yy.1 e1,Yy.1 e2] at h;exact h
theorem MJ:FnOk Tryz.prog 45 Tryz.f45 (mI Tryz.f45 34 [.cell 4 30,.tmp 5] [0,2,8,10,12,14,16,18,30,34,36,38,40,60,9,13,19] [(5,[0,8,34,36,38,9])] [(1,[(2,.take,false)]),(2,[(0,.take,false)]),(3,[(0,.take,false)]),(7,[(3,.take,false)]),(9,[(1,.take,false)])]):=fO Tryz.func45
def xB5(x0:List Int)(x17:List Val)(x18 x19:Int)(b4:Val):St:=[(0,(vS .ro .int x0)),(8,(vP 4)),(34,(vS .ro .val x17)),(36,(vI x18)),(38,(vI x19)),(9,(vV .own b4))]
theorem Kz{N}:∀n x0 x17 x18 x19 b4 r,Bd N n x0 x17 x18 x19 b4=some r->RS MJ 5 (xB5 x0 x17 x18 x19 b4) (FZ r):=
 nI (fun _ _ _ _ _ _ h=>nE h) fun n ih x0 x17 x18 x19 b4 r h=>cE (oA h) (fun h=>cE (iE (iE h)) (fun h=>bE h yY fun r1 h=>dS h) fun h=>tS h (ih _ _ _ _ _ _ h.2)) fun h=>dS h
theorem Be{N a0 a1 r}(h:Ah N a0 a1=some r):AbC 45 (xIr a0 a1) (FZ r):=
 oK MJ <| bK (oA h) Gu fun r1 k h=>cM k h (fun h=>cE h (fun h=>dE h) fun h=>tE h (Kz _ _ _ _ _ _ _ h.2)) fun h=>cE h (fun h=>dE h) fun h=>tE h (Kz _ _ _ _ _ _ _ h.2)
theorem xFm:FnOk Tryz.prog 34 Tryz.f34 (mI Tryz.f34 18 [.cell 2 30] [0,2,4,6,8,24,3,5,7] [] [(1,[(3,.take,true),(4,.take,false)]),(2,[(0,.take,false)]),(3,[(0,.take,false)])]):=fO Tryz.func34
theorem xGG{N a0 r}(h:G0 N a0=some r):AbC 34 (xGF a0) (xGH r):=
 oK xFm <| bK (oA h) Be fun r1 k h=>cN k h (Bf k) (fun h=>cE h (fun h=>dE h) fun h=>bE h BM fun r2 h=>dE h) fun h=>cE h (fun h=>dE h) fun h=>bE h BM fun r2 h=>dE h
theorem xFD:FnOk Tryz.prog 89 Tryz.f89 (mI Tryz.f89 31 [.cell 4 30,.tmp 5] [0,2,4,6,8,10,12,14,30,5,7,9,13] [] [(1,[(3,.take,true),(4,.take,false)]),(2,[(0,.take,false)]),(3,[(0,.take,false)]),(4,[(4,.take,false),(8,.take,false)])]):=fO Tryz.func89
theorem JG{N a0 a1 r}(h:EH N a0 a1=some r):AbC 89 (xID a0 a1) (xIE r):=
 oK xFD <| bK (oA h) Gu fun r1 k h=>cN k h (JF k) (fun h=>cE h (fun h=>dE h) fun h=>bE h yY fun r2 h=>cE h (fun h=>dE h) fun h=>cE h (fun h=>dE h) fun h=>dE h) fun h=>cE h (fun h=>dE h) fun h=>bE h yY fun r2 h=>cE h (fun h=>dE h) fun h=>cE h (fun h=>dE h) fun h=>dE h
theorem xFK:FnOk Tryz.prog 98 Tryz.f98 (mI Tryz.f98 12 [.cell 2 77] [0,2,4,3,5] [] []):=fO Tryz.func98
theorem NK{N a0 r}(h:Gl N a0=some r):AbC 98 (xH2 a0) (xH3 r):=
 oK xFK <| dE (iE (iE (oA h)))
def G92(q:Val->Option (Val)):Prop:=∀a0 r,q a0=some r->AbC 92 (Iy a0) (Gp r)
def FB(q:(List Val)->Option ((List Val))):Prop:=∀a0 r,q a0=some r->AbC 140 (JA a0) (Gr r)
theorem M3:FnOk Tryz.prog 92 Tryz.f92 (mI Tryz.f92 33 [.cell 2 30] [0,2,4,6,10,36,38,40,42,3,5,7,11] [(6,[4,6,36,38,40,5,7])] [(8,[(1,.take,false),(5,.take,false)]),(9,[(1,.take,false)]),(10,[(0,.take,false)])]):=fO Tryz.func92
def xCA(x18:List Rowd)(x19 x20:Int)(b2 b3:Val):St:=[(4,(vP 2)),(6,(vP 3)),(36,(vS .ro .row x18)),(38,(vI x19)),(40,(vI x20)),(5,(vV .own b2)),(7,(vV .own b3))]
theorem xEb{N}{q0}(g0:G92 q0){q1}(g1:FB q1):∀n x18 x19 x20 b2 b3 r,Cz N q0 q1 n x18 x19 x20 b2 b3=some r->RS M3 6 (xCA x18 x19 x20 b2 b3) (Gp r):=
 nI (fun _ _ _ _ _ _ h=>nE h) fun n ih x18 x19 x20 b2 b3 r h=>cE (oA h) (fun h=>bE (iE h) NK fun r1 h=>tS (iE h) (ih _ _ _ _ _ _ (iE h).2)) fun h=>dS h
theorem xH4{N}{q0}(g0:G92 q0){q1}(g1:FB q1){a0 r}(h:Gm N q0 q1 a0=some r):AbC 92 (Iy a0) (Gp r):=
 oK M3 <| bE (oA h) (g1 _ _) fun r1 h=>tE (iE h) (xEb g0 g1 _ _ _ _ _ _ _ (iE h).2)
theorem Ll:FnOk Tryz.prog 140 Tryz.f140 (mI Tryz.f140 20 [.tmp 2] [0,4,6,10,14,16,18,20,11] [(3,[6,14,16,18])] [(5,[(0,.take,false),(4,.take,false)]),(6,[(1,.take,false)]),(7,[(0,.take,false)])]):=fO Tryz.func140
def xBw(x3 x7:List Val)(x8 x9:Int):St:=[(6,(vS .own .val x3)),(14,(vS .ro .val x7)),(16,(vI x8)),(18,(vI x9))]
theorem xDc{N}{q0}(g0:G92 q0){q1}(g1:FB q1):∀n x3 x7 x8 x9 r,ED N q0 q1 n x3 x7 x8 x9=some r->RS Ll 3 (xBw x3 x7 x8 x9) (Gr r):=
 nI (fun _ _ _ _ _ h=>nE h) fun n ih x3 x7 x8 x9 r h=>cE (oA h) (fun h=>bE (iE h) (g0 _ _) fun r1 h=>tS (iE h) (ih _ _ _ _ _ (iE h).2)) fun h=>dS h
theorem xH5{N}{q0}(g0:G92 q0){q1}(g1:FB q1){a0 r}(h:Gq N q0 q1 a0=some r):AbC 140 (JA a0) (Gr r):=
 oK Ll <| tE (oA h) (xDc g0 g1 _ _ _ _ _ _ h)
theorem NL{N:Nat}:∀d,G92 (AC N d).c_impl_copyValue/\FB (AC N d).c_impl_copyValues:=by
 intro d
 induction d with
 |zero=>exact⟨fun _ _ h=>nE h,fun _ _ h=>nE h⟩
 |succ d ih=>
  obtain⟨ih0,ih1⟩:=ih;exact⟨fun _ _ h=>xH4 (N:=N) ih0 ih1 h,fun _ _ h=>xH5 (N:=N) ih0 ih1 h⟩
theorem Gn{N:Nat}{a0:Val}{r:Val}(h:Cy N a0=some r):AbC 92 (Iy a0) (Gp r):=(NL N).1 _ r h
theorem xH6{N:Nat}{a0:List Val}{r:(List Val)}(h:Iz N a0=some r):AbC 140 (JA a0) (Gr r):=(NL N).2 _ r h
theorem xFG:FnOk Tryz.prog 91 Tryz.f91 (mI Tryz.f91 6 [.cell 2 30] [0,4,5] [] []):=fO Tryz.func91
theorem Gd{N a0 r}(h:Cu N a0=some r):AbC 91 (xHj a0) (xHk r):=
 oK xFG <| bE (oA h) xH6 fun r1 h=>dE h
theorem xFH:FnOk Tryz.prog 93 Tryz.f93 (mI Tryz.f93 9 [.cell 2 30] [0,4,10,5] [] []):=fO Tryz.func93
theorem Mo{N a0 r}(h:FP N a0=some r):AbC 93 (xGx a0) (xGy r):=
 oK xFH <| bE (oA h) DB fun r1 h=>cE h (fun h=>bE h yY fun r2 h=>dE h) fun h=>bE h BM fun r2 h=>dE h
theorem xHp{P:Program}{f:FuncId}{ags:List Arg}{r:Val×Bool}(h:AbsCalls P f ags (Gg r))(ht:r.2=true):AbsCalls P f ags (Iw r):=by
 unfold Gg at h;rw [ht] at h;exact h
theorem xHo{P:Program}{f:FuncId}{ags:List Arg}{r:Val×Bool}(h:AbsCalls P f ags (Gg r))(ht:r.2=true)(e0:List.isEmpty (Val.list r.1)=true)(e1:List.isEmpty (Val.columns r.1)=true)(e2:List.isEmpty (Val.rows r.1)=true):AbsCalls P f ags (xHm r):=by
 have h:=xHp h ht;unfold Iw at h;rw [Yy.1 e0,Yy.1 e1,Yy.1 e2] at h;exact h
theorem xFo:FnOk Tryz.prog 37 Tryz.f37 (mI Tryz.f37 53 [.cell 4 30] [0,2,4,6,8,10,12,26,30,66,5,7,9,11] [] [(1,[(3,.take,false)]),(2,[(0,.take,false)]),(3,[(0,.take,false)]),(4,[(3,.take,false),(7,.take,false)])]):=fO Tryz.func37
theorem Gf{N a0 a1 r}(h:A7 N a0 a1=some r):AbC 37 (xHl a0 a1) (Gg r):=
 oK xFo <| bK (oA h) JG fun r1 k h=>cM k h (fun h=>cE h (fun h=>dE h) fun h=>cE h (fun h=>bE (cb Y h) yY fun r2 h=>dE h) fun h=>cE h (fun h=>cE h (fun h=>bE h yY fun r2 h=>dE h) fun h=>bE (iE (rb Y 1 h)) Gn fun r2 h=>dE h) fun h=>bE (rb F 1 (cb F h)) Mo fun r2 h=>dE h) fun h=>cE h (fun h=>dE h) fun h=>cE h (fun h=>bE (cb Y h) yY fun r2 h=>dE h) fun h=>cE h (fun h=>cE h (fun h=>bE h yY fun r2 h=>dE h) fun h=>bE (iE (rb Y 1 h)) Gn fun r2 h=>dE h) fun h=>bE (rb F 1 (cb F h)) Mo fun r2 h=>dE h
theorem ME:FnOk Tryz.prog 35 Tryz.f35 (mI Tryz.f35 58 [.cell 4 30] [0,2,4,6,8,10,12,14,16,18,32,42,50,80,98,5,7,9,11,15,19] [(10,[4,6,8,14,16,5,7,9,15])] [(1,[(3,.take,false)]),(2,[(0,.take,false)]),(3,[(0,.take,false)]),(12,[(3,.take,true)]),(14,[(0,.take,false)]),(15,[(1,.take,false),(2,.take,false),(4,.take,false)]),(16,[(0,.take,false)])]):=fO Tryz.func35
def xBU(x8:Int)(b2 b3 b4 b7:Val):St:=[(4,(vP 2)),(6,(vP 3)),(8,(vP 4)),(14,(vP 7)),(16,(vI x8)),(5,(vV .ro b2)),(7,(vV .ro b3)),(9,(vV .own b4)),(15,(vV .own b7))]
theorem xDy{N}:∀n x8 b2 b3 b4 b7 r,EA N n x8 b2 b3 b4 b7=some r->RS ME 10 (xBU x8 b2 b3 b4 b7) (Mz r):=
 nI (fun _ _ _ _ _ _ h=>nE h) fun n ih x8 b2 b3 b4 b7 r h=>cE (oA h) (fun h=>bE h BM fun r1 h=>bK h Gf fun r2 k h=>cN k h (xHo k) (fun h=>cE h (fun h=>dS h) fun h=>nE (iE h).2) fun h=>cE h (fun h=>dS h) fun h=>tS (iE h) (ih _ _ _ _ _ _ (iE h).2)) fun h=>dS h
theorem xHK{N a0 a1 r}(h:Cx N a0 a1=some r):AbC 35 (xHJ a0 a1) (Mz r):=
 oK ME <| bK (oA h) JG fun r1 k h=>cM k h (fun h=>cE h (fun h=>dE h) fun h=>bE h EI fun r2 h=>cE h (fun h=>bE h yY fun r3 h=>dE h) fun h=>cE h (fun h=>bE (iE h) Gd fun r3 h=>dE h) fun h=>nE h.2) fun h=>cE h (fun h=>dE h) fun h=>bE h EI fun r2 h=>cE h (fun h=>bE h yY fun r3 h=>dE h) fun h=>cE h (fun h=>bE (iE h) Gd fun r3 h=>dE h) fun h=>tE h (xDy _ _ _ _ _ _ _ h.2)
theorem xFp:FnOk Tryz.prog 46 Tryz.f46 (mI Tryz.f46 8 [.cell 4 30] [0,2,8,9] [] []):=fO Tryz.func46
theorem Dz{N a0 a1 r}(h:CH N a0 a1=some r):AbC 46 (xHz a0 a1) (xHA r):=
 oK xFp <| dE (oA h)
theorem xFn:FnOk Tryz.prog 36 Tryz.f36 (mI Tryz.f36 45 [.cell 4 30] [0,2,4,6,8,10,12,14,28,36,44,76,5,7,9,11,15] [] [(1,[(3,.take,false)]),(2,[(0,.take,false)]),(3,[(0,.take,false)]),(10,[(0,.take,false)])]):=fO Tryz.func36
theorem xHt{N a0 a1 r}(h:Cv N a0 a1=some r):AbC 36 (xHs a0 a1) (xHu r):=
 oK xFn <| bK (oA h) JG fun r1 k h=>cM k h (fun h=>cE h (fun h=>dE h) fun h=>cE h (fun h=>bE h yY fun r2 h=>dE h) fun h=>cE h (fun h=>bE (iE h) Gd fun r2 h=>dE h) fun h=>bK h Gf fun r2 k h=>cM k h (fun h=>cE h (fun h=>dE h) fun h=>bE h Dz fun r3 h=>dE h) fun h=>cE h (fun h=>dE h) fun h=>bE h Dz fun r3 h=>dE h) fun h=>cE h (fun h=>dE h) fun h=>cE h (fun h=>bE h yY fun r2 h=>dE h) fun h=>cE h (fun h=>bE (iE h) Gd fun r2 h=>dE h) fun h=>bK h Gf fun r2 k h=>cM k h (fun h=>cE h (fun h=>dE h) fun h=>bE h Dz fun r3 h=>dE h) fun h=>cE h (fun h=>dE h) fun h=>bE h Dz fun r3 h=>dE h
theorem xOv{N:Nat}{a0 a1:Str}{r:List Str}(h:IQ N a0 a1=some r):AbC 141 (xOt a0 a1) (xOw r):=
 zAm (xEx Tryz.lays146) (fun s c w hs=>xOs Tryz.lays146 (by kernel_rfl) s c w hs) h
theorem xFI:FnOk Tryz.prog 94 Tryz.f94 (mI Tryz.f94 10 [.tmp 4] [0,2,8] [] []):=fO Tryz.func94
theorem Gh{N a0 a1 r}(h:Cw N a0 a1=some r):AbC 94 (xHx a0 a1) (xHy r):=
 oK xFI <| bE (oA h) xOv fun r1 h=>dE h
theorem xFJ:FnOk Tryz.prog 95 Tryz.f95 (mI Tryz.f95 9 [.tmp 4] [0,2,4,8,5] [] []):=fO Tryz.func95
theorem AE{N a0 a1 r}(h:zZ N a0 a1=some r):AbC 95 (xGz a0 a1) (xGA r):=
 oK xFJ <| bE (oA h) Ir fun r1 h=>dE h
theorem FL:FnOk Tryz.prog 38 Tryz.f38 (mI Tryz.f38 92 [.cell 4 30] [0,2,4,6,8,10,12,14,16,20,22,26,28,32,50,66,68,70,72,86,106,112,114,116,118,134,136,138,140,5,7,9,11,15,27,29] [(7,[6,8,14,16,66,68,70,7,9,15]),(17,[8,14,16,112,114,116,9,15]),(21,[8,14,16,26,28,112,114,116,134,136,138,9,15,27,29])] [(1,[(4,.take,true),(5,.take,false)]),(2,[(0,.take,false)]),(3,[(0,.take,false)]),(9,[(1,.take,false)]),(12,[(0,.take,false)]),(13,[(1,.take,false)]),(23,[(1,.take,false),(4,.take,false)]),(24,[(1,.take,false)]),(25,[(1,.take,false),(2,.take,false),(4,.take,false)]),(26,[(1,.take,false)]),(27,[(0,.take,false)])]):=fO Tryz.func38
def xBW(x8:List Int)(x33:List Str)(x34 x35:Int)(b3 b4 b7:Val):St:=[(6,(vP 3)),(8,(vP 4)),(14,(vP 7)),(16,(vS .own .int x8)),(66,(vS .bor .str x33)),(68,(vI x34)),(70,(vI x35)),(7,(vV .ro b3)),(9,(vV .own b4)),(15,(vV .own b7))]
def K9(x8:List Int)(x56:List Rowd)(x57 x58:Int)(b4 b7:Val):St:=[(8,(vP 4)),(14,(vP 7)),(16,(vS .own .int x8)),(112,(vS .ro .row x56)),(114,(vI x57)),(116,(vI x58)),(9,(vV .own b4)),(15,(vV .own b7))]
def xBV(x8:List Int)(x56:List Rowd)(x57 x58:Int)(x67:List Int)(x68 x69:Int)(b4 b7:Val)(b13 b14:Rowd):St:=[(8,(vP 4)),(14,(vP 7)),(16,(vS .own .int x8)),(26,(vP 13)),(28,(vP 14)),(112,(vS .ro .row x56)),(114,(vI x57)),(116,(vI x58)),(134,(vS .bor .int x67)),(136,(vI x68)),(138,(vI x69)),(9,(vV .own b4)),(15,(vV .own b7)),(27,.v true [.sl .ro .int b13.cells,.sl .ro .org b13.frm]),(29,.v true [.sl .own .int b14.cells,.sl .own .org b14.frm])]
theorem xDA{N}{k17}(hk17:∀z0 z1 z2 z3 z4 z5 r,k17 z0 z1 z2 z3 z4 z5=some r->RS FL 17 (K9 z0 z1 z2 z3 z4 z5) (FU r)):∀n x8 x56 x57 x58 x67 x68 x69 b4 b7 b13 b14 r,Ct N k17 n x8 x56 x57 x58 x67 x68 x69 b4 b7 b13 b14=some r->RS FL 21 (xBV x8 x56 x57 x58 x67 x68 x69 b4 b7 b13 b14) (FU r):=
 nI (fun _ _ _ _ _ _ _ _ _ _ _ _ h=>nE h) fun n ih x8 x56 x57 x58 x67 x68 x69 b4 b7 b13 b14 r h=>cE (oA h) (fun h=>tS (iE (iE (iE h))) (ih _ _ _ _ _ _ _ _ _ _ _ _ (iE (iE (iE h))).2)) fun h=>tS (iE h) (hk17 _ _ _ _ _ _ _ (iE h).2)
theorem xDz{N}:∀n x8 x56 x57 x58 b4 b7 r,Ba N n x8 x56 x57 x58 b4 b7=some r->RS FL 17 (K9 x8 x56 x57 x58 b4 b7) (FU r):=
 nI (fun _ _ _ _ _ _ _ h=>nE h) fun n ih x8 x56 x57 x58 b4 b7 r h=>cE (oA h) (fun h=>tS (iE (iE h)) (xDA ih _ _ _ _ _ _ _ _ _ _ _ _ _ (iE (iE h)).2)) fun h=>dS h
theorem Ks{N}:∀n x8 x33 x34 x35 b3 b4 b7 r,Bb N n x8 x33 x34 x35 b3 b4 b7=some r->RS FL 7 (xBW x8 x33 x34 x35 b3 b4 b7) (FU r):=
 nI (fun _ _ _ _ _ _ _ _ h=>nE h) fun n ih x8 x33 x34 x35 b3 b4 b7 r h=>cE (oA h) (fun h=>bE (iE h) AE fun r1 h=>cE h (fun h=>bE h yY fun r2 h=>dS h) fun h=>tS (iE h) (ih _ _ _ _ _ _ _ _ (iE h).2)) fun h=>bE h GY fun r1 h=>cE h (fun h=>bE h yY fun r2 h=>dS h) fun h=>tS h (xDz _ _ _ _ _ _ _ _ h.2)
theorem xHb{N a0 a1 r}(h:FT N a0 a1=some r):AbC 38 (xHa a0 a1) (FU r):=
 oK FL <| bK (oA h) Be fun r1 k h=>cN k h (Bf k) (fun h=>cE h (fun h=>dE h) fun h=>bE h Gh fun r2 h=>tE h (Ks _ _ _ _ _ _ _ _ _ h.2)) fun h=>cE h (fun h=>dE h) fun h=>bE h Gh fun r2 h=>tE h (Ks _ _ _ _ _ _ _ _ _ h.2)
theorem MF:FnOk Tryz.prog 39 Tryz.f39 (mI Tryz.f39 54 [.cell 4 30] [0,2,4,6,8,10,12,14,16,20,38,52,62,70,72,74,76,5,7,9,11,17,21] [(11,[8,14,16,70,72,74,9,17])] [(1,[(4,.take,true),(5,.take,false)]),(2,[(0,.take,false)]),(3,[(0,.take,false)]),(13,[(1,.take,false),(9,.take,false)]),(14,[(1,.take,false)]),(15,[(0,.take,false)])]):=fO Tryz.func39
def xBX(x7:Int)(x35:List Rowd)(x36 x37:Int)(b4 b8:Val):St:=[(8,(vP 4)),(14,(vI x7)),(16,(vP 8)),(70,(vS .ro .row x35)),(72,(vI x36)),(74,(vI x37)),(9,(vV .own b4)),(17,(vV .own b8))]
theorem Kt{N}:∀n x7 x35 x36 x37 b4 b8 r,CF N n x7 x35 x36 x37 b4 b8=some r->RS MF 11 (xBX x7 x35 x36 x37 b4 b8) (Mp r):=
 nI (fun _ _ _ _ _ _ _ h=>nE h) fun n ih x7 x35 x36 x37 b4 b8 r h=>cE (oA h) (fun h=>bE (iE (iE h)) BM fun r1 h=>tS (iE h) (ih _ _ _ _ _ _ _ (iE h).2)) fun h=>dS h
theorem xGC{N a0 a1 r}(h:Dw N a0 a1=some r):AbC 39 (xGB a0 a1) (Mp r):=
 oK MF <| bK (oA h) Be fun r1 k h=>cN k h (Bf k) (fun h=>cE h (fun h=>dE h) fun h=>bE h AE fun r2 h=>cE h (fun h=>bE h yY fun r3 h=>dE h) fun h=>cE h (fun h=>bE h yY fun r3 h=>dE h) fun h=>tE h (Kt _ _ _ _ _ _ _ _ h.2)) fun h=>cE h (fun h=>dE h) fun h=>bE h AE fun r2 h=>cE h (fun h=>bE h yY fun r3 h=>dE h) fun h=>cE h (fun h=>bE h yY fun r3 h=>dE h) fun h=>tE h (Kt _ _ _ _ _ _ _ _ h.2)
theorem GT:FnOk Tryz.prog 40 Tryz.f40 (mI Tryz.f40 80 [.cell 4 30] [0,2,4,6,8,10,12,14,18,20,24,42,60,66,68,70,72,100,108,110,112,114,124,5,7,9,11,15,19,21,25] [(8,[8,14,66,68,70,9,15]),(14,[8,14,20,66,68,70,108,110,112,9,15,21])] [(1,[(4,.take,true),(5,.take,false)]),(2,[(0,.take,false)]),(3,[(0,.take,false)]),(10,[(3,.take,false)]),(18,[(1,.take,false)]),(19,[(1,.take,false)]),(20,[(1,.take,false),(2,.take,false),(4,.take,false)]),(21,[(1,.take,false)]),(22,[(0,.take,false)])]):=fO Tryz.func40
def Ka(x33:List Val)(x34 x35:Int)(b4 b7:Val):St:=[(8,(vP 4)),(14,(vP 7)),(66,(vS .ro .val x33)),(68,(vI x34)),(70,(vI x35)),(9,(vV .own b4)),(15,(vV .own b7))]
def xB0(x33:List Val)(x34 x35:Int)(x54:List Val)(x55 x56:Int)(b4 b7:Val)(b10:Rowd):St:=[(8,(vP 4)),(14,(vP 7)),(20,(vP 10)),(66,(vS .ro .val x33)),(68,(vI x34)),(70,(vI x35)),(108,(vS .ro .val x54)),(110,(vI x55)),(112,(vI x56)),(9,(vV .own b4)),(15,(vV .own b7)),(21,.v true [.sl .own .int b10.cells,.sl .own .org b10.frm])]
theorem xDD{N}{k8}(hk8:∀z0 z1 z2 z3 z4 r,k8 z0 z1 z2 z3 z4=some r->RS GT 8 (Ka z0 z1 z2 z3 z4) (Gj r)):∀n x33 x34 x35 x54 x55 x56 b4 b7 b10 r,CI N k8 n x33 x34 x35 x54 x55 x56 b4 b7 b10=some r->RS GT 14 (xB0 x33 x34 x35 x54 x55 x56 b4 b7 b10) (Gj r):=
 nI (fun _ _ _ _ _ _ _ _ _ _ h=>nE h) fun n ih x33 x34 x35 x54 x55 x56 b4 b7 b10 r h=>cE (oA h) (fun h=>cE (iE h) (fun h=>bE h yY fun r1 h=>dS h) fun h=>tS (iE h) (ih _ _ _ _ _ _ _ _ _ _ (iE h).2)) fun h=>tS (iE h) (hk8 _ _ _ _ _ _ (iE h).2)
theorem Ku{N}:∀n x33 x34 x35 b4 b7 r,Ar N n x33 x34 x35 b4 b7=some r->RS GT 8 (Ka x33 x34 x35 b4 b7) (Gj r):=
 nI (fun _ _ _ _ _ _ h=>nE h) fun n ih x33 x34 x35 b4 b7 r h=>cE (oA h) (fun h=>cE (iE h) (fun h=>bE (cb Y h) yY fun r1 h=>dS h) fun h=>cE h (fun h=>bE h yY fun r1 h=>dS h) fun h=>tS h (xDD ih _ _ _ _ _ _ _ _ _ _ _ h.2)) fun h=>dS h
theorem xHG{N a0 a1 r}(h:FV N a0 a1=some r):AbC 40 (xHF a0 a1) (Gj r):=
 oK GT <| bK (oA h) Be fun r1 k h=>cN k h (Bf k) (fun h=>cE h (fun h=>dE h) fun h=>bE h Gh fun r2 h=>bE h Ix fun r3 h=>cE h (fun h=>bE h yY fun r4 h=>dE h) fun h=>tE h (Ku _ _ _ _ _ _ _ h.2)) fun h=>cE h (fun h=>dE h) fun h=>bE h Gh fun r2 h=>bE h Ix fun r3 h=>cE h (fun h=>bE h yY fun r4 h=>dE h) fun h=>tE h (Ku _ _ _ _ _ _ _ h.2)
theorem MG:FnOk Tryz.prog 41 Tryz.f41 (mI Tryz.f41 60 [.cell 6 30] [0,2,4,6,8,10,12,14,16,18,20,24,44,58,74,76,78,80,100,7,9,11,13,15,21,25] [(9,[8,12,18,20,74,76,78,9,13,21])] [(1,[(5,.take,true),(6,.take,false)]),(2,[(0,.take,false)]),(3,[(0,.take,false)]),(12,[(1,.take,false),(5,.take,false)]),(13,[(1,.take,false)]),(14,[(0,.take,false)])]):=fO Tryz.func41
def xB1(x9:Int)(x37:List Rowd)(x38 x39:Int)(b4 b6 b10:Val):St:=[(8,(vP 4)),(12,(vP 6)),(18,(vI x9)),(20,(vP 10)),(74,(vS .ro .row x37)),(76,(vI x38)),(78,(vI x39)),(9,(vV .ro b4)),(13,(vV .own b6)),(21,(vV .own b10))]
theorem Kv{N}:∀n x9 x37 x38 x39 b4 b6 b10 r,BO N n x9 x37 x38 x39 b4 b6 b10=some r->RS MG 9 (xB1 x9 x37 x38 x39 b4 b6 b10) (NC r):=
 nI (fun _ _ _ _ _ _ _ _ h=>nE h) fun n ih x9 x37 x38 x39 b4 b6 b10 r h=>cE (oA h) (fun h=>cE (iE (iE h)) (fun h=>bE h NK fun r1 h=>tS (iE h) (ih _ _ _ _ _ _ _ _ (iE h).2)) fun h=>tS h (ih _ _ _ _ _ _ _ _ h.2)) fun h=>dS h
theorem xHT{N a0 a1 a2 r}(h:EB N a0 a1 a2=some r):AbC 41 (xHS a0 a1 a2) (NC r):=
 oK MG <| bK (oA h) Be fun r1 k h=>cN k h (Bf k) (fun h=>cE h (fun h=>dE h) fun h=>bE h AE fun r2 h=>cE h (fun h=>bE h yY fun r3 h=>dE h) fun h=>tE (iE h) (Kv _ _ _ _ _ _ _ _ _ (iE h).2)) fun h=>cE h (fun h=>dE h) fun h=>bE h AE fun r2 h=>cE h (fun h=>bE h yY fun r3 h=>dE h) fun h=>tE (iE h) (Kv _ _ _ _ _ _ _ _ _ (iE h).2)
theorem xHQ{N:Nat}{a0 a1 r:List Org}(h:Gk N a0 a1=some r):AbC 99 (NA a0 a1) (NB r):=xO0 h
theorem MH:FnOk Tryz.prog 42 Tryz.f42 (mI Tryz.f42 153 [.cell 6 30] [0,2,4,6,8,10,12,14,16,18,20,22,24,28,30,32,36,56,100,110,112,114,116,138,248,250,252,254,278,7,9,11,13,15,29,33,151] [(8,[6,8,10,12,18,20,7,9,11,13])] [(1,[(5,.take,true),(6,.take,false)]),(2,[(0,.take,false)]),(3,[(0,.take,false)]),(6,[(2,.take,false),(6,.take,false)]),(19,[(1,.take,false)]),(28,[(1,.take,false)])]):=fO Tryz.func42
def xB2(x9 x10:Int)(b3 b4 b5 b6:Val):St:=[(6,(vP 3)),(8,(vP 4)),(10,(vP 5)),(12,(vP 6)),(18,(vI x9)),(20,(vI x10)),(7,(vV .ro b3)),(9,(vV .ro b4)),(11,(vV .ro b5)),(13,(vV .own b6))]
theorem Kw{N}:∀x9 x10 b3 b4 b5 b6 r,G6 N x9 x10 b3 b4 b5 b6=some r->RS MH 8 (xB2 x9 x10 b3 b4 b5 b6) (Iq r):=
 fun x9 x10 b3 b4 b5 b6 r h=>xGd (by kernel_rfl) rfl rfl rfl (by kernel_rfl) (by kernel_rfl) (by kernel_rfl) (by kernel_rfl) (by kernel_rfl) (by kernel_rfl) (by kernel_rfl) (by kernel_rfl) (by kernel_rfl) rfl h
theorem xGQ{N a0 a1 a2 r}(h:CG N a0 a1 a2=some r):AbC 42 (xGP a0 a1 a2) (Iq r):=
 oK MH <| bK (oA h) Be fun r1 k h=>cN k h (Bf k) (fun h=>cE h (fun h=>dE h) fun h=>bE h AE fun r2 h=>bE h AE fun r3 h=>cE h (fun h=>bE (cb Y (cb Y h)) yY fun r4 h=>dE h) fun h=>cE h (fun h=>bE (cb Y h) yY fun r4 h=>dE h) fun h=>cE h (fun h=>bE h yY fun r4 h=>dE h) fun h=>tE h (Kw _ _ _ _ _ _ _ h.2)) fun h=>cE h (fun h=>dE h) fun h=>bE h AE fun r2 h=>bE h AE fun r3 h=>cE h (fun h=>bE (cb Y (cb Y h)) yY fun r4 h=>dE h) fun h=>cE h (fun h=>bE (cb Y h) yY fun r4 h=>dE h) fun h=>cE h (fun h=>bE h yY fun r4 h=>dE h) fun h=>tE h (Kw _ _ _ _ _ _ _ h.2)
theorem LU:FnOk Tryz.prog 101 Tryz.f101 (mI Tryz.f101 25 [.tmp 4] [0,2,8,10,14,18,20,22,24,36] [(3,[2,10,18,20,22])] [(6,[(0,.take,false)]),(7,[(1,.take,false)]),(8,[(0,.take,false)])]):=fO Tryz.func101
def xA5(x1 x5 x9:List Str)(x10 x11:Int):St:=[(2,(vS .ro .str x1)),(10,(vS .own .str x5)),(18,(vS .ro .str x9)),(20,(vI x10)),(22,(vI x11))]
theorem xCO{N}:∀n x1 x5 x9 x10 x11 r,CJ N n x1 x5 x9 x10 x11=some r->RS LU 3 (xA5 x1 x5 x9 x10 x11) (NE r):=
 nI (fun _ _ _ _ _ _ h=>nE h) fun n ih x1 x5 x9 x10 x11 r h=>cE (oA h) (fun h=>bE (iE h) Ir fun r1 h=>cE h (fun h=>tS (iE h) (ih _ _ _ _ _ _ (iE h).2)) fun h=>tS h (ih _ _ _ _ _ _ h.2)) fun h=>dS h
theorem ND{N a0 a1 r}(h:FW N a0 a1=some r):AbC 101 (xHW a0 a1) (NE r):=
 oK LU <| tE (oA h) (xCO _ _ _ _ _ _ _ h)
end Go.Ab.T
end
section
open Go.Proofs
namespace Go.Ab.T
set_option maxRecDepth 100000
variable [Inhabited Lb]
theorem GU:FnOk Tryz.prog 43 Tryz.f43 (mI Tryz.f43 128 [.cell 6 30] [0,2,4,6,8,10,12,14,16,18,20,22,24,28,32,34,54,122,132,138,140,142,144,152,154,156,158,184,250,7,9,11,13,15,25,29,33] [(13,[10,12,18,20,24,138,140,142,11,13,25]),(16,[10,12,18,20,24,28,138,140,142,152,154,156,11,13,25,29])] [(1,[(5,.take,true),(6,.take,false)]),(2,[(0,.take,false)]),(3,[(0,.take,false)]),(7,[(4,.take,false)]),(8,[(2,.take,false),(6,.take,false)]),(20,[(1,.take,false),(2,.take,false),(10,.take,false)]),(21,[(1,.take,false)]),(22,[(1,.take,false)]),(25,[(0,.take,false)])]):=fO Tryz.func43
def Kb(x9 x10:Int)(x69:List Rowd)(x70 x71:Int)(b5 b6 b12:Val):St:=[(10,(vP 5)),(12,(vP 6)),(18,(vI x9)),(20,(vI x10)),(24,(vP 12)),(138,(vS .ro .row x69)),(140,(vI x70)),(142,(vI x71)),(11,(vV .ro b5)),(13,(vV .own b6)),(25,(vV .own b12))]
def xB3(x9 x10:Int)(x69:List Rowd)(x70 x71:Int)(x76:List Rowd)(x77 x78:Int)(b5 b6 b12:Val)(b14:Rowd):St:=[(10,(vP 5)),(12,(vP 6)),(18,(vI x9)),(20,(vI x10)),(24,(vP 12)),(28,(vP 14)),(138,(vS .ro .row x69)),(140,(vI x70)),(142,(vI x71)),(152,(vS .ro .row x76)),(154,(vI x77)),(156,(vI x78)),(11,(vV .ro b5)),(13,(vV .own b6)),(25,(vV .own b12)),(29,.v true [.sl .ro .int b14.cells,.sl .ro .org b14.frm])]
theorem xDE{N}{k13}(hk13:∀z0 z1 z2 z3 z4 z5 z6 z7 r,k13 z0 z1 z2 z3 z4 z5 z6 z7=some r->RS GU 13 (Kb z0 z1 z2 z3 z4 z5 z6 z7) (Gb r)):∀n x9 x10 x69 x70 x71 x76 x77 x78 b5 b6 b12 b14 r,Cs N k13 n x9 x10 x69 x70 x71 x76 x77 x78 b5 b6 b12 b14=some r->RS GU 16 (xB3 x9 x10 x69 x70 x71 x76 x77 x78 b5 b6 b12 b14) (Gb r):=
 nI (fun _ _ _ _ _ _ _ _ _ _ _ _ _ h=>nE h) fun n ih x9 x10 x69 x70 x71 x76 x77 x78 b5 b6 b12 b14 r h=>cE (oA h) (fun h=>cE (iE (iE (iE h))) (fun h=>tS h (ih _ _ _ _ _ _ _ _ _ _ _ _ _ h.2)) fun h=>bE (iE (iE (iE (iE (iE h))))) xHQ fun r1 h=>tS (iE h) (ih _ _ _ _ _ _ _ _ _ _ _ _ _ (iE h).2)) fun h=>tS h (hk13 _ _ _ _ _ _ _ _ _ h.2)
theorem Kx{N}:∀n x9 x10 x69 x70 x71 b5 b6 b12 r,B9 N n x9 x10 x69 x70 x71 b5 b6 b12=some r->RS GU 13 (Kb x9 x10 x69 x70 x71 b5 b6 b12) (Gb r):=
 nI (fun _ _ _ _ _ _ _ _ _ h=>nE h) fun n ih x9 x10 x69 x70 x71 b5 b6 b12 r h=>cE (oA h) (fun h=>tS (iE h) (xDE ih _ _ _ _ _ _ _ _ _ _ _ _ _ _ (iE h).2)) fun h=>cE h (fun h=>bE h yY fun r1 h=>dS h) fun h=>dS h
theorem xG7{N a0 a1 a2 r}(h:Cr N a0 a1 a2=some r):AbC 43 (xG6 a0 a1 a2) (Gb r):=
 oK GU <| bK (oA h) Be fun r1 k h=>cN k h (Bf k) (fun h=>cE h (fun h=>dE h) fun h=>bE h AE fun r2 h=>bE h AE fun r3 h=>bE h ND fun r4 h=>cE (iE (iE h)) (fun h=>bE (cb Y (cb Y h)) yY fun r5 h=>dE h) fun h=>cE h (fun h=>bE (cb Y h) yY fun r5 h=>dE h) fun h=>bE h GY fun r5 h=>cE h (fun h=>bE h yY fun r6 h=>dE h) fun h=>cE h (fun h=>bE h yY fun r6 h=>dE h) fun h=>tE h (Kx _ _ _ _ _ _ _ _ _ _ h.2)) fun h=>cE h (fun h=>dE h) fun h=>bE h AE fun r2 h=>bE h AE fun r3 h=>bE h ND fun r4 h=>cE (iE (iE h)) (fun h=>bE (cb Y (cb Y h)) yY fun r5 h=>dE h) fun h=>cE h (fun h=>bE (cb Y h) yY fun r5 h=>dE h) fun h=>bE h GY fun r5 h=>cE h (fun h=>bE h yY fun r6 h=>dE h) fun h=>cE h (fun h=>bE h yY fun r6 h=>dE h) fun h=>tE h (Kx _ _ _ _ _ _ _ _ _ _ h.2)
theorem MI:FnOk Tryz.prog 44 Tryz.f44 (mI Tryz.f44 110 [.cell 8 30] [0,2,4,6,8,10,12,14,16,18,20,22,24,26,28,30,32,54,110,120,144,146,148,150,184,9,11,13,15,17,19,27,31] [(13,[16,22,24,26,144,146,148,17,27])] [(1,[(6,.take,true),(7,.take,false)]),(2,[(0,.take,false)]),(3,[(0,.take,false)]),(6,[(4,.take,false),(11,.take,false),(15,.take,false)]),(11,[(1,.take,false)]),(18,[(1,.ref,false),(4,.ref,false),(8,.ref,false)]),(19,[(1,.take,false)]),(20,[(0,.take,false)])]):=fO Tryz.func44
def xB4(x11 x12:Int)(x72:List Rowd)(x73 x74:Int)(b8 b13:Val):St:=[(16,(vP 8)),(22,(vI x11)),(24,(vI x12)),(26,(vP 13)),(144,(vS .ro .row x72)),(146,(vI x73)),(148,(vI x74)),(17,(vV .own b8)),(27,(vV .own b13))]
theorem Ky{N}:∀n x11 x12 x72 x73 x74 b8 b13 r,B7 N n x11 x12 x72 x73 x74 b8 b13=some r->RS MI 13 (xB4 x11 x12 x72 x73 x74 b8 b13) (Ml r):=
 nI (fun _ _ _ _ _ _ _ _ h=>nE h) fun n ih x11 x12 x72 x73 x74 b8 b13 r h=>cE (oA h) (fun h=>bE (iE (iE (iE h))) DB fun r1 h=>cE h (fun h=>bE h yY fun r2 h=>dS h) fun h=>tS (ap (show(27:Nat)=27/\(6:Nat)=6/\([(x74.toNat,0)]:List (Nat×Nat))=[(x74.toNat,0)] from⟨rfl,rfl,rfl⟩) (rp 1 (iE (iE h)))) (ih _ _ _ _ _ _ _ _ (ap (show(27:Nat)=27/\(6:Nat)=6/\([(x74.toNat,0)]:List (Nat×Nat))=[(x74.toNat,0)] from⟨rfl,rfl,rfl⟩) (rp 1 (iE (iE h)))).2)) fun h=>dS h
theorem xGm{N a0 a1 a2 a3 r}(h:BL N a0 a1 a2 a3=some r):AbC 44 (xGl a0 a1 a2 a3) (Ml r):=
 oK MI <| bK (oA h) Be fun r1 k h=>cN k h (Bf k) (fun h=>cE h (fun h=>dE h) fun h=>bE h AE fun r2 h=>bE h AE fun r3 h=>bE h Is fun r4 h=>cE h (fun h=>bE (cb Y (cb Y (cb Y h))) yY fun r5 h=>dE h) fun h=>bE h AE fun r5 h=>cE h (fun h=>bE (cb Y (cb Y h)) yY fun r6 h=>dE h) fun h=>cE h (fun h=>bE (cb Y h) yY fun r6 h=>dE h) fun h=>cE h (fun h=>bE h yY fun r6 h=>dE h) fun h=>cE h (fun h=>bE h yY fun r6 h=>dE h) fun h=>bE h Gn fun r6 h=>tE (iE h) (Ky _ _ _ _ _ _ _ _ _ (iE h).2)) fun h=>cE h (fun h=>dE h) fun h=>bE h AE fun r2 h=>bE h AE fun r3 h=>bE h Is fun r4 h=>cE h (fun h=>bE (cb Y (cb Y (cb Y h))) yY fun r5 h=>dE h) fun h=>bE h AE fun r5 h=>cE h (fun h=>bE (cb Y (cb Y h)) yY fun r6 h=>dE h) fun h=>cE h (fun h=>bE (cb Y h) yY fun r6 h=>dE h) fun h=>cE h (fun h=>bE h yY fun r6 h=>dE h) fun h=>cE h (fun h=>bE h yY fun r6 h=>dE h) fun h=>bE h Gn fun r6 h=>tE (iE h) (Ky _ _ _ _ _ _ _ _ _ (iE h).2)
theorem xGw{P:Program}{f:FuncId}{ags:List Arg}{r:Val×Bool}(h:AbsCalls P f ags (GZ r))(ht:r.2=true):AbsCalls P f ags (Im r):=by
 unfold GZ at h;rw [ht] at h;exact h
theorem In{P:Program}{f:FuncId}{ags:List Arg}{r:Val×Bool}(h:AbsCalls P f ags (GZ r))(ht:r.2=true)(e0:List.isEmpty (Val.list r.1)=true)(e1:List.isEmpty (Val.columns r.1)=true)(e2:List.isEmpty (Val.rows r.1)=true):AbsCalls P f ags (xGu r):=by
 have h:=xGw h ht;unfold Im at h;rw [Yy.1 e0,Yy.1 e1,Yy.1 e2] at h;exact h
theorem fk7:FnOk Tryz.prog 7 Tryz.f7 (mI Tryz.f7 158 [.cell 4 30] [0,2,8,10,12,30,34,36,48,60,72,90,108,126,144,162,180,204,228,252,294,9,11] [] [(1,[(2,.take,false)]),(30,[(2,.take,true),(3,.take,false)]),(31,[(0,.take,false)]),(32,[(0,.take,false)])]):=fO Tryz.func7
theorem Il{N a0 a1 r}(h:BA N a0 a1=some r):AbC 7 (xGt a0 a1) (GZ r):=
 oK fk7 <| bE (oA h) xIb fun r1 h=>cE h (fun h=>bE (cb Y h) yY fun r2 h=>dE h) fun h=>bE h Mn fun r2 h=>cE h (fun h=>bE h yY fun r3 h=>dE h) fun h=>cE h (fun h=>bK (iE h) xHf fun r3 k h=>cM k h (fun h=>dE h) fun h=>dE h) fun h=>cE h (fun h=>bK (iE h) xHC fun r3 k h=>cM k h (fun h=>dE h) fun h=>dE h) fun h=>cE h (fun h=>bK (iE h) xGG fun r3 k h=>cM k h (fun h=>dE h) fun h=>dE h) fun h=>cE h (fun h=>bK (iE (iE h)) xHK fun r3 k h=>cM k h (fun h=>dE h) fun h=>dE h) fun h=>cE h (fun h=>bK (iE (iE h)) xHt fun r3 k h=>cM k h (fun h=>dE h) fun h=>dE h) fun h=>cE h (fun h=>bK (iE (iE h)) Gf fun r3 k h=>cM k h (fun h=>dE h) fun h=>dE h) fun h=>cE h (fun h=>bK (iE (iE h)) xHb fun r3 k h=>cM k h (fun h=>dE h) fun h=>dE h) fun h=>cE h (fun h=>bK (iE (iE h)) xGC fun r3 k h=>cM k h (fun h=>dE h) fun h=>dE h) fun h=>cE h (fun h=>bK (iE (iE h)) xHG fun r3 k h=>cM k h (fun h=>dE h) fun h=>dE h) fun h=>cE h (fun h=>bK (iE (iE (iE h))) xHT fun r3 k h=>cM k h (fun h=>dE h) fun h=>dE h) fun h=>cE h (fun h=>bK (iE (iE (iE h))) xGQ fun r3 k h=>cM k h (fun h=>dE h) fun h=>dE h) fun h=>cE h (fun h=>bK (iE (iE (iE h))) xG7 fun r3 k h=>cM k h (fun h=>dE h) fun h=>dE h) fun h=>cE h (fun h=>bK (iE (iE (iE (iE h)))) xGm fun r3 k h=>cM k h (fun h=>dE h) fun h=>dE h) fun h=>bK h Be fun r3 k h=>cN k h (Bf k) (fun h=>cE h (fun h=>dE h) fun h=>bE (iE (iE h)) Dz fun r4 h=>dE h) fun h=>cE h (fun h=>dE h) fun h=>bE (iE (iE h)) Dz fun r4 h=>dE h
theorem MT:FnOk Tryz.prog 69 Tryz.f69 (mI Tryz.f69 26 [.tmp 4] [0,2,8,10,20,28,50] [(4,[0,2,10])] []):=fO Tryz.func69
def xCl(x0 x1:List Str)(x5:Int):St:=[(0,(vS .ro .str x0)),(2,(vS .ro .str x1)),(10,(vI x5))]
theorem xDX{N}:∀n x0 x1 x5 r,EM N n x0 x1 x5=some r->RS MT 4 (xCl x0 x1 x5) (NY r):=
 nI (fun _ _ _ _ h=>nE h) fun n ih x0 x1 x5 r h=>cE (oA h) (fun h=>cE (iE (iE h)) (fun h=>dS h) fun h=>tS h (ih _ _ _ _ h.2)) fun h=>dS h
theorem xJl{N a0 a1 r}(h:HA N a0 a1=some r):AbC 69 (xJk a0 a1) (NY r):=
 oK MT <| cE (oA h) (fun h=>dE h) fun h=>tE h (xDX _ _ _ _ _ h.2)
theorem Lv:FnOk Tryz.prog 158 Tryz.f158 (mI Tryz.f158 26 [.tmp 4] [0,2,8,10,20,28,50] [(4,[0,2,10])] []):=fO Tryz.func158
def xBE(x0 x1:List Int)(x5:Int):St:=[(0,(vS .ro .int x0)),(2,(vS .ro .int x1)),(10,(vI x5))]
theorem xDk{N}:∀n x0 x1 x5 r,EJ N n x0 x1 x5=some r->RS Lv 4 (xBE x0 x1 x5) (NV r):=
 nI (fun _ _ _ _ h=>nE h) fun n ih x0 x1 x5 r h=>cE (oA h) (fun h=>cE (iE (iE h)) (fun h=>dS h) fun h=>tS h (ih _ _ _ _ h.2)) fun h=>dS h
theorem xI9{N a0 a1 r}(h:Gv N a0 a1=some r):AbC 158 (xI8 a0 a1) (NV r):=
 oK Lv <| cE (oA h) (fun h=>dE h) fun h=>tE h (xDk _ _ _ _ _ h.2)
theorem xFb:FnOk Tryz.prog 177 Tryz.f177 (mI Tryz.f177 15 [.tmp 4] [0,2,4,6,8,18,28,5,7] [] []):=fO Tryz.func177
theorem xJd{N a0 a1 r}(h:Gw N a0 a1=some r):AbC 177 (xJc a0 a1) (xJe r):=
 oK xFb <| cE (oA h) (fun h=>dE h) fun h=>cE h (fun h=>dE h) fun h=>dE h
theorem Lw:FnOk Tryz.prog 159 Tryz.f159 (mI Tryz.f159 27 [.tmp 4] [0,2,8,10,20,28,52] [(4,[0,2,10])] []):=fO Tryz.func159
def xBF(x0 x1:List Org)(x5:Int):St:=[(0,(vS .ro .org x0)),(2,(vS .ro .org x1)),(10,(vI x5))]
theorem xDl{N}:∀n x0 x1 x5 r,EK N n x0 x1 x5=some r->RS Lw 4 (xBF x0 x1 x5) (NW r):=
 nI (fun _ _ _ _ h=>nE h) fun n ih x0 x1 x5 r h=>cE (oA h) (fun h=>bE (iE (iE h)) xJd fun r1 h=>cE h (fun h=>dS h) fun h=>tS h (ih _ _ _ _ h.2)) fun h=>dS h
theorem xJb{N a0 a1 r}(h:Gx N a0 a1=some r):AbC 159 (xJa a0 a1) (NW r):=
 oK Lw <| cE (oA h) (fun h=>dE h) fun h=>tE h (xDl _ _ _ _ _ h.2)
theorem xEW:FnOk Tryz.prog 129 Tryz.f129 (mI Tryz.f129 17 [.tmp 4] [0,2,4,6,8,20,32,5,7] [] []):=fO Tryz.func129
theorem xJi{N a0 a1 r}(h:Gy N a0 a1=some r):AbC 129 (xJh a0 a1) (xJj r):=
 oK xEW <| bE (oA h) xI9 fun r1 h=>cE h (fun h=>dE h) fun h=>bE h xJb fun r2 h=>cE h (fun h=>dE h) fun h=>dE h
theorem MU:FnOk Tryz.prog 70 Tryz.f70 (mI Tryz.f70 27 [.tmp 4] [0,2,8,10,20,28,52] [(4,[0,2,10])] []):=fO Tryz.func70
def xCn(x0 x1:List Rowd)(x5:Int):St:=[(0,(vS .ro .row x0)),(2,(vS .ro .row x1)),(10,(vI x5))]
theorem xDZ{N}:∀n x0 x1 x5 r,EL N n x0 x1 x5=some r->RS MU 4 (xCn x0 x1 x5) (NX r):=
 nI (fun _ _ _ _ h=>nE h) fun n ih x0 x1 x5 r h=>cE (oA h) (fun h=>bE (iE (iE h)) xJi fun r1 h=>cE h (fun h=>dS h) fun h=>tS h (ih _ _ _ _ h.2)) fun h=>dS h
theorem xJg{N a0 a1 r}(h:Gz N a0 a1=some r):AbC 70 (xJf a0 a1) (NX r):=
 oK MU <| cE (oA h) (fun h=>dE h) fun h=>tE h (xDZ _ _ _ _ _ h.2)
def G15(q:Val->Val->Option (Bool)):Prop:=∀a0 a1 r,q a0 a1=some r->AbC 15 (JK a0 a1) (JL r)
def G16(q:(List Val)->(List Val)->Option (Bool)):Prop:=∀a0 a1 r,q a0 a1=some r->AbC 16 (JJ a0 a1) (HD r)
theorem xE1:FnOk Tryz.prog 15 Tryz.f15 (mI Tryz.f15 43 [.tmp 4] [0,2,4,6,8,18,28,38,48,60,72,84,5,7] [] []):=fO Tryz.func15
theorem xJn{N}{q0}(g0:G15 q0){q1}(g1:G16 q1){a0 a1 r}(h:HE N q0 q1 a0 a1=some r):AbC 15 (JK a0 a1) (JL r):=
 oK xE1 <| cE (oA h) (fun h=>dE h) fun h=>cE h (fun h=>dE h) fun h=>cE h (fun h=>dE h) fun h=>cE h (fun h=>dE h) fun h=>bE h (g1 _ _ _) fun r1 h=>cE h (fun h=>dE h) fun h=>bE h xJl fun r2 h=>cE h (fun h=>dE h) fun h=>bE h xJg fun r3 h=>cE h (fun h=>dE h) fun h=>dE h
theorem Lx:FnOk Tryz.prog 16 Tryz.f16 (mI Tryz.f16 27 [.tmp 4] [0,2,8,10,20,28,52] [(4,[0,2,10])] []):=fO Tryz.func16
def xBK(x0 x1:List Val)(x5:Int):St:=[(0,(vS .ro .val x0)),(2,(vS .ro .val x1)),(10,(vI x5))]
theorem xDr{N}{q0}(g0:G15 q0){q1}(g1:G16 q1):∀n x0 x1 x5 r,EN N q0 q1 n x0 x1 x5=some r->RS Lx 4 (xBK x0 x1 x5) (HD r):=
 nI (fun _ _ _ _ h=>nE h) fun n ih x0 x1 x5 r h=>cE (oA h) (fun h=>bE (iE (iE h)) (g0 _ _ _) fun r1 h=>cE h (fun h=>dS h) fun h=>tS h (ih _ _ _ _ h.2)) fun h=>dS h
theorem xJm{N}{q0}(g0:G15 q0){q1}(g1:G16 q1){a0 a1 r}(h:HC N q0 q1 a0 a1=some r):AbC 16 (JJ a0 a1) (HD r):=
 oK Lx <| cE (oA h) (fun h=>dE h) fun h=>tE h (xDr g0 g1 _ _ _ _ _ h.2)
theorem N0{N:Nat}:∀d,G15 (AK N d).c_laws_eqValue/\G16 (AK N d).c_laws_eqValueS:=by
 intro d
 induction d with
 |zero=>exact⟨fun _ _ _ h=>nE h,fun _ _ _ h=>nE h⟩
 |succ d ih=>
  obtain⟨ih0,ih1⟩:=ih;exact⟨fun _ _ _ h=>xJn (N:=N) ih0 ih1 h,fun _ _ _ h=>xJm (N:=N) ih0 ih1 h⟩
theorem CQ{N:Nat}{a0:Val}{a1:Val}{r:Bool}(h:BQ N a0 a1=some r):AbC 15 (JK a0 a1) (JL r):=(N0 N).1 _ _ r h
theorem NZ{N:Nat}{a0:List Val}{a1:List Val}{r:Bool}(h:HB N a0 a1=some r):AbC 16 (JJ a0 a1) (HD r):=(N0 N).2 _ _ r h
theorem MW:FnOk Tryz.prog 71 Tryz.f71 (mI Tryz.f71 20 [.tmp 2] [0,4,6,10,14] [(4,[0,6])] []):=fO Tryz.func71
def xCo(x0:Int)(x3:Str):St:=[(0,(vI x0)),(6,(vT x3))]
theorem xD0{N}:∀n x0 x3 r,EW N n x0 x3=some r->RS MW 4 (xCo x0 x3) (Nh r):=
 nI (fun _ _ _ h=>nE h) fun n ih x0 x3 r h=>cE (oA h) (fun h=>tS (rp 1 (iE (ap (show 10≠(0:Int) by decide) h))) (ih _ _ _ (rp 1 (iE (ap (show 10≠(0:Int) by decide) h))).2)) fun h=>dS (iE h)
theorem F8{N a0 r}(h:CR N a0=some r):AbC 71 (xJI a0) (Nh r):=
 oK MW <| cE (oA h) (fun h=>dE h) fun h=>tE h (xD0 _ _ _ _ h.2)
theorem LS:FnOk Tryz.prog 72 Tryz.f72 (mI Tryz.f72 20 [.tmp 4] [0,2,8,10,18] [(2,[0,2,10])] []):=fO Tryz.func72
def xA3(x1 x5:Int):St:=[(0,(vS .ro .str [])),(2,(vI x1)),(10,(vI x5))]
theorem xCM{N}:∀n x1 x5 r,JV N n x1 x5=some r->RS LS 2 (xA3 x1 x5) (Nd r):=
 nI (fun _ _ _ h=>nE h) fun n ih x1 x5 r h=>cE (oA h) (fun h=>bE h F8 fun r1 h=>nE (iE h).2) fun h=>dS h
theorem xJG{N a0 a1 r}(h:JU N a0 a1=some r):AbC 72 (xJF a0 a1) (Nd r):=
 oK LS <| tE (oA h) (xCM _ _ _ _ h)
theorem MX:FnOk Tryz.prog 72 Tryz.f72 (mI Tryz.f72 20 [.tmp 4] [0,2,8,10,18] [(2,[0,2,10])] [(4,[(0,.ref,false)])] (lnt:=[(0,0)])):=fO Tryz.func72
def xCp(x0:List Str)(x1 x5:Int):St:=[(0,(vS (.lnt 0) .str x0)),(2,(vI x1)),(10,(vI x5))]
theorem xD1{N}:∀n x0 x1 x5 r,EV N n x0 x1 x5=some r->RS MX 2 (xCp x0 x1 x5) (Ng r):=
 nI (fun _ _ _ _ h=>nE h) fun n ih x0 x1 x5 r h=>cE (oA h) (fun h=>bE h F8 fun r1 h=>tS (iE h) (ih _ _ _ _ (iE h).2)) fun h=>dS h
theorem Nf{N a0 a1 r}(h:HI N a0 a1=some r):AbC 72 (xJH a0 a1) (Ng r):=
 oK MX <| tE (oA h) (xD1 _ _ _ _ _ h)
theorem Ld:FnOk Tryz.prog 130 Tryz.f130 (mI Tryz.f130 19 [.tmp 4] [0,2,8,10,18] [(2,[0,2,10])] [(4,[(0,.ref,false)])] (lnt:=[(0,0)])):=fO Tryz.func130
def xBq(x0:List Int)(x1 x5:Int):St:=[(0,(vS (.lnt 0) .int x0)),(2,(vI x1)),(10,(vI x5))]
theorem xC7{N}:∀n x0 x1 x5 r,ES N n x0 x1 x5=some r->RS Ld 2 (xBq x0 x1 x5) (N8 r):=
 nI (fun _ _ _ _ h=>nE h) fun n ih x0 x1 x5 r h=>cE (oA h) (fun h=>tS (iE h) (ih _ _ _ _ (iE h).2)) fun h=>dS h
theorem xJz{N a0 a1 r}(h:JQ N a0 a1=some r):AbC 130 (xJy a0 a1) (N8 r):=
 oK Ld <| tE (oA h) (xC7 _ _ _ _ _ h)
theorem LT:FnOk Tryz.prog 73 Tryz.f73 (mI Tryz.f73 27 [.tmp 4] [0,2,8,10,18] [(2,[0,2,10])] []):=fO Tryz.func73
def xA4(x1 x5:Int):St:=[(0,(vS .ro .row [])),(2,(vI x1)),(10,(vI x5))]
theorem xCN{N}:∀n x1 x5 r,JT N n x1 x5=some r->RS LT 2 (xA4 x1 x5) (Na r):=
 nI (fun _ _ _ h=>nE h) fun n ih x1 x5 r h=>cE (oA h) (fun h=>nE (iE h).2) fun h=>dS h
theorem xJD{N a0 a1 r}(h:JS N a0 a1=some r):AbC 73 (xJC a0 a1) (Na r):=
 oK LT <| tE (oA h) (xCN _ _ _ _ h)
theorem xEK:FnOk Tryz.prog 18 Tryz.f18 (mI Tryz.f18 18 [.tmp 4] [0,2,4,8,5] [] []):=fO Tryz.func18
theorem xJN{N a0 a1 r}(h:HK N a0 a1=some r):AbC 18 (xJM a0 a1) (xJO r):=
 oK xEK <| bE (oA h) xJK fun r1 h=>bE h xJG fun r2 h=>bE h xJD fun r3 h=>dE h
theorem Lf:FnOk Tryz.prog 131 Tryz.f131 (mI Tryz.f131 27 [.tmp 4] [0,2,8,10,18] [(2,[0,2,10])] [(4,[(0,.ref,false)]),(6,[(0,.ref,false)])] (lnt:=[(0,0)])):=fO Tryz.func131
def xBr(x0:List Org)(x1 x5:Int):St:=[(0,(vS (.lnt 0) .org x0)),(2,(vI x1)),(10,(vI x5))]
theorem xC8{N}:∀n x0 x1 x5 r,ET N n x0 x1 x5=some r->RS Lf 2 (xBr x0 x1 x5) (N9 r):=
 nI (fun _ _ _ _ h=>nE h) fun n ih x0 x1 x5 r h=>cE (oA h) (fun h=>tS (iE (iE h)) (ih _ _ _ _ (iE (iE h)).2)) fun h=>dS h
theorem xJB{N a0 a1 r}(h:JR N a0 a1=some r):AbC 131 (xJA a0 a1) (N9 r):=
 oK Lf <| tE (oA h) (xC8 _ _ _ _ _ h)
theorem MY:FnOk Tryz.prog 73 Tryz.f73 (mI Tryz.f73 27 [.tmp 4] [0,2,8,10,18] [(2,[0,2,10])] [(4,[(0,.ref,false),(4,.ref,false),(6,.ref,false)]),(5,[(0,.ref,false),(4,.ref,false),(6,.ref,false)])] (lnt:=[(0,0)])):=fO Tryz.func73
def xCq(x0:List Rowd)(x1 x5:Int):St:=[(0,(vS (.lnt 0) .row x0)),(2,(vI x1)),(10,(vI x5))]
theorem xD2{N}:∀n x0 x1 x5 r,EU N n x0 x1 x5=some r->RS MY 2 (xCq x0 x1 x5) (Nc r):=
 nI (fun _ _ _ _ h=>nE h) fun n ih x0 x1 x5 r h=>cE (oA h) (fun h=>bE (iE h) xJz fun r1 h=>bE (iE (iE (ap (show x5.toNat=x5.toNat from rfl) h))) xJB fun r2 h=>tS (iE (ap (show x5.toNat=x5.toNat from rfl) h)) (ih _ _ _ _ (iE (ap (show x5.toNat=x5.toNat from rfl) h)).2)) fun h=>dS h
theorem Nb{N a0 a1 r}(h:HH N a0 a1=some r):AbC 73 (xJE a0 a1) (Nc r):=
 oK MY <| tE (oA h) (xD2 _ _ _ _ _ h)
def G17(q:(List Val)->Int->Option (Int×(List Val))):Prop:=∀a0 a1 r,q a0 a1=some r->AbC 17 (JY a0 a1) (HJ r)
theorem MA:FnOk Tryz.prog 17 Tryz.f17 (mI Tryz.f17 63 [.tmp 4] [0,2,8,10,18] [(2,[0,2,10])] [(4,[(0,.ref,false)]),(6,[(0,.ref,false)]),(8,[(0,.ref,false)]),(10,[(0,.ref,false)]),(12,[(0,.ref,false),(4,.ref,false),(6,.ref,false)]),(13,[(0,.ref,false),(4,.ref,false),(6,.ref,false)]),(14,[(0,.ref,false),(4,.ref,false),(6,.ref,false)])] (lnt:=[(0,0)])):=fO Tryz.func17
def xBN(x0:List Val)(x1 x5:Int):St:=[(0,(vS (.lnt 0) .val x0)),(2,(vI x1)),(10,(vI x5))]
theorem xDu{N}{q0}(g0:G17 q0):∀n x0 x1 x5 r,EY N q0 n x0 x1 x5=some r->RS MA 2 (xBN x0 x1 x5) (HJ r):=
 nI (fun _ _ _ _ h=>nE h) fun n ih x0 x1 x5 r h=>cE (oA h) (fun h=>bE (iE (iE (iE h))) F8 fun r1 h=>bE (iE (iE h)) (g0 _ _ _) fun r2 h=>bE (iE (iE (ap (show x5.toNat=x5.toNat from rfl) h))) Nf fun r3 h=>bE (iE (iE (ap (show x5.toNat=x5.toNat from rfl) h))) Nb fun r4 h=>tS (iE (ap (show x5.toNat=x5.toNat from rfl) h)) (ih _ _ _ _ (iE (ap (show x5.toNat=x5.toNat from rfl) h)).2)) fun h=>dS h
theorem xJL{N}{q0}(g0:G17 q0){a0 a1 r}(h:Nj N q0 a0 a1=some r):AbC 17 (JY a0 a1) (HJ r):=
 oK MA <| tE (oA h) (xDu g0 _ _ _ _ _ h)
theorem Nk{N:Nat}:∀d,G17 (Fa N d)
 |0=>fun _ _ _ h=>nE h
 |d+1=>fun _ _ _ h=>xJL (N:=N) (Nk d) h
theorem JZ{N:Nat}{a0:List Val}{a1:Int}{r:Int×(List Val)}(h:EX N a0 a1=some r):AbC 17 (JY a0 a1) (HJ r):=Nk N _ _ r h
theorem xFc:FnOk Tryz.prog 18 Tryz.f18 (mI Tryz.f18 18 [.tmp 4] [0,2,4,8,5] [] [(1,[(1,.ref,false),(3,.ref,false)]),(2,[(1,.ref,false),(3,.ref,false)]),(3,[(1,.ref,false),(3,.ref,false)])] (lnt:=[(5,4),(5,5),(5,6)])):=fO Tryz.func18
theorem xJQ{N a0 a1 r}(h:F9 N a0 a1=some r):AbC 18 (xJP a0 a1) (xJR r):=
 oK xFc <| bE (oA h) JZ fun r1 h=>bE (iE h) Nf fun r2 h=>bE (iE h) Nb fun r3 h=>dE (iE h)
theorem M0:FnOk Tryz.prog 75 Tryz.f75 (mI Tryz.f75 22 [.tmp 4] [0,2,8,10,18,36] [(2,[0,2,10])] []):=fO Tryz.func75
def xCs(x0:List Str)(x1 x5:Int):St:=[(0,(vS .ro .str x0)),(2,(vI x1)),(10,(vI x5))]
theorem xD4{N}:∀n x0 x1 x5 r,DG N n x0 x1 x5=some r->RS M0 2 (xCs x0 x1 x5) (N6 r):=
 nI (fun _ _ _ _ h=>nE h) fun n ih x0 x1 x5 r h=>cE (oA h) (fun h=>bE (iE h) F8 fun r1 h=>cE h (fun h=>dS h) fun h=>tS h (ih _ _ _ _ h.2)) fun h=>dS h
theorem N5{N a0 a1 r}(h:F7 N a0 a1=some r):AbC 75 (xJt a0 a1) (N6 r):=
 oK M0 <| tE (oA h) (xD4 _ _ _ _ _ h)
theorem Lg:FnOk Tryz.prog 132 Tryz.f132 (mI Tryz.f132 21 [.tmp 4] [0,2,8,10,18,34] [(2,[0,2,10])] []):=fO Tryz.func132
def xBs(x0:List Int)(x1 x5:Int):St:=[(0,(vS .ro .int x0)),(2,(vI x1)),(10,(vI x5))]
theorem xC9{N}:∀n x0 x1 x5 r,EO N n x0 x1 x5=some r->RS Lg 2 (xBs x0 x1 x5) (N1 r):=
 nI (fun _ _ _ _ h=>nE h) fun n ih x0 x1 x5 r h=>cE (oA h) (fun h=>cE (iE h) (fun h=>dS h) fun h=>tS h (ih _ _ _ _ h.2)) fun h=>dS h
theorem xJp{N a0 a1 r}(h:JM N a0 a1=some r):AbC 132 (xJo a0 a1) (N1 r):=
 oK Lg <| tE (oA h) (xC9 _ _ _ _ _ h)
theorem Li:FnOk Tryz.prog 133 Tryz.f133 (mI Tryz.f133 31 [.tmp 4] [0,2,8,10,18,36,54] [(2,[0,2,10])] []):=fO Tryz.func133
def xBt(x0:List Org)(x1 x5:Int):St:=[(0,(vS .ro .org x0)),(2,(vI x1)),(10,(vI x5))]
theorem xDa{N}:∀n x0 x1 x5 r,EP N n x0 x1 x5=some r->RS Li 2 (xBt x0 x1 x5) (N2 r):=
 nI (fun _ _ _ _ h=>nE h) fun n ih x0 x1 x5 r h=>cE (oA h) (fun h=>cE (iE h) (fun h=>dS h) fun h=>cE (rp 1 h) (fun h=>dS h) fun h=>tS h (ih _ _ _ _ h.2)) fun h=>dS h
theorem xJr{N a0 a1 r}(h:JN N a0 a1=some r):AbC 133 (xJq a0 a1) (N2 r):=
 oK Li <| tE (oA h) (xDa _ _ _ _ _ h)
theorem M1:FnOk Tryz.prog 76 Tryz.f76 (mI Tryz.f76 31 [.tmp 4] [0,2,8,10,18,40,58] [(2,[0,2,10])] []):=fO Tryz.func76
def xCt(x0:List Rowd)(x1 x5:Int):St:=[(0,(vS .ro .row x0)),(2,(vI x1)),(10,(vI x5))]
theorem xD5{N}:∀n x0 x1 x5 r,DF N n x0 x1 x5=some r->RS M1 2 (xCt x0 x1 x5) (N4 r):=
 nI (fun _ _ _ _ h=>nE h) fun n ih x0 x1 x5 r h=>cE (oA h) (fun h=>bE (iE h) xJp fun r1 h=>cE h (fun h=>dS h) fun h=>bE (rp 2 h) xJr fun r2 h=>cE h (fun h=>dS h) fun h=>tS h (ih _ _ _ _ h.2)) fun h=>dS h
theorem N3{N a0 a1 r}(h:F6 N a0 a1=some r):AbC 76 (xJs a0 a1) (N4 r):=
 oK M1 <| tE (oA h) (xD5 _ _ _ _ _ h)
def G74(q:(List Val)->Int->Option (Int)):Prop:=∀a0 a1 r,q a0 a1=some r->AbC 74 (JO a0 a1) (HG r)
theorem MZ:FnOk Tryz.prog 74 Tryz.f74 (mI Tryz.f74 77 [.tmp 4] [0,2,8,10,18,36,54,72,92,114,132,150] [(2,[0,2,10])] []):=fO Tryz.func74
def xCr(x0:List Val)(x1 x5:Int):St:=[(0,(vS .ro .val x0)),(2,(vI x1)),(10,(vI x5))]
theorem xD3{N}{q0}(g0:G74 q0):∀n x0 x1 x5 r,DH N q0 n x0 x1 x5=some r->RS MZ 2 (xCr x0 x1 x5) (HG r):=
 nI (fun _ _ _ _ h=>nE h) fun n ih x0 x1 x5 r h=>cE (oA h) (fun h=>cE (iE h) (fun h=>dS h) fun h=>cE (rp 1 h) (fun h=>dS h) fun h=>cE (rp 3 h) (fun h=>dS h) fun h=>bE (rp 5 h) F8 fun r1 h=>cE h (fun h=>dS h) fun h=>bE (rp 8 h) (g0 _ _ _) fun r2 h=>cE h (fun h=>dS h) fun h=>bE (rp 11 h) N5 fun r3 h=>cE h (fun h=>dS h) fun h=>bE (rp 14 h) N3 fun r4 h=>cE h (fun h=>dS h) fun h=>tS h (ih _ _ _ _ h.2)) fun h=>dS h
theorem xJu{N}{q0}(g0:G74 q0){a0 a1 r}(h:JP N q0 a0 a1=some r):AbC 74 (JO a0 a1) (HG r):=
 oK MZ <| tE (oA h) (xD3 g0 _ _ _ _ _ h)
theorem N7{N:Nat}:∀d,G74 (EQ N d)
 |0=>fun _ _ _ h=>nE h
 |d+1=>fun _ _ _ h=>xJu (N:=N) (N7 d) h
theorem xJv{N:Nat}{a0:List Val}{a1:Int}{r:Int}(h:HF N a0 a1=some r):AbC 74 (JO a0 a1) (HG r):=N7 N _ _ r h
theorem xFd:FnOk Tryz.prog 19 Tryz.f19 (mI Tryz.f19 24 [.tmp 4] [0,2,4,8,20,32,44,5] [] []):=fO Tryz.func19
theorem ER{N a0 a1 r}(h:Aj N a0 a1=some r):AbC 19 (xJw a0 a1) (xJx r):=
 oK xFd <| bE (oA h) xJv fun r1 h=>cE h (fun h=>dE h) fun h=>bE h N5 fun r2 h=>cE h (fun h=>dE h) fun h=>bE h N3 fun r3 h=>cE h (fun h=>dE h) fun h=>dE h
theorem fk4:FnOk Tryz.prog 4 Tryz.f4 (mI Tryz.f4 77 [.tmp 4] [0,2,8,10,12,14,16,18,20,22,24,30,40,66,76,98,114,120,136,146,152,13,17,25] [] [(7,[(2,.cp,true)]),(9,[(2,.take,true)]),(15,[(0,.ref,false),(2,.ref,false)]),(16,[(2,.take,false)]),(19,[(0,.ref,false),(2,.ref,false)]),(26,[(3,.take,true)])]):=fO Tryz.func4
theorem laws_FnExactCallFunction_ok{N a0 a1 r}(h:F5 N a0 a1=some r):AbC 4 (xI5 a0 a1) (xI6 r):=
 oK fk4 <| cE (oA h) (fun h=>dE h) fun h=>bE h xJ6 fun r1 h=>cE h (fun h=>dE h) fun h=>bE h EZ fun r2 h=>bE h xMk fun r3 h=>bE h EZ fun r4 h=>bK h Il fun r5 k h=>cN k h (In k) (fun h=>bE h CQ fun r6 h=>cE h (fun h=>dE h) fun h=>bE h EZ fun r7 h=>bE h NZ fun r8 h=>cE h (fun h=>dE h) fun h=>bE h JZ fun r9 h=>cE (iE h) (fun h=>dE (cb Y h)) fun h=>bE h CQ fun r10 h=>cE h (fun h=>dE h) fun h=>bE h xJN fun r11 h=>bE h ER fun r12 h=>cE h (fun h=>dE h) fun h=>cE h (fun h=>dE h) fun h=>bE h EZ fun r13 h=>bK h Il fun r14 k h=>cN k h (In k) (fun h=>bE h CQ fun r15 h=>cE h (fun h=>dE h) fun h=>bE h ER fun r16 h=>cE h (fun h=>dE h) fun h=>cE h (fun h=>dE h) fun h=>dE h) fun h=>bE h CQ fun r15 h=>cE h (fun h=>dE h) fun h=>bE h ER fun r16 h=>cE h (fun h=>dE h) fun h=>cE h (fun h=>dE h) fun h=>dE h) fun h=>bE h CQ fun r6 h=>cE h (fun h=>dE h) fun h=>bE h EZ fun r7 h=>bE h NZ fun r8 h=>cE h (fun h=>dE h) fun h=>bE h JZ fun r9 h=>cE (iE h) (fun h=>dE (cb Y h)) fun h=>bE h CQ fun r10 h=>cE h (fun h=>dE h) fun h=>bE h xJQ fun r11 h=>bE (iE (iE (iE h))) ER fun r12 h=>cE h (fun h=>dE h) fun h=>cE h (fun h=>dE h) fun h=>bE h EZ fun r13 h=>bK h Il fun r14 k h=>cN k h (In k) (fun h=>bE h CQ fun r15 h=>cE h (fun h=>dE h) fun h=>bE h ER fun r16 h=>cE h (fun h=>dE h) fun h=>cE h (fun h=>dE h) fun h=>dE h) fun h=>bE h CQ fun r15 h=>cE h (fun h=>dE h) fun h=>bE h ER fun r16 h=>cE h (fun h=>dE h) fun h=>cE h (fun h=>dE h) fun h=>dE h
end Go.Ab.T
end
section
namespace Go.Ab
inductive DK (K:Nat):D->Prop where
 |int {k n} (h:(Lit.int k n).wf=true):DK K (.int k n)
 |bool (b):DK K (.bool b)
 |str {s:Str} (h:s.length<=K):DK K (.str s)
 |sl {sz rows} (h:rows.length<=K) (hr:∀r∈rows,∀x∈r,DK K x):DK K (.sl sz rows)
theorem DFit.dk{d:D}(h:DFit d):DK maxLen d:=by
 induction h with
 |int h=>exact .int h
 |bool b=>exact .bool b
 |str h=>exact .str h
 |sl h _ ih=>exact .sl h ih
theorem DK.mono{K M:Nat}(hKM:K<=M){d:D}(h:DK K d):DK M d:=by
 induction h with
 |int h=>exact .int h
 |bool b=>exact .bool b
 |str h=>exact .str (by omega)
 |sl h _ ih=>exact .sl (by omega) ih
theorem xAW{n:Int}:(Lit.int .i64 n).wf=true↔I64 n:=by
 show(decide (_<=n)&&decide (n<=_))=true↔_;rw [Zs,ZU,ZU];exact Iff.rfl
theorem DK.i64{K:Nat}{n:Int}:DK K (.int .i64 n)↔I64 n:=⟨fun h=>by cases h with |int h=>exact xAW.1 h,fun h=> .int (xAW.2 h)⟩
theorem DK.str_iff{K:Nat}{s:Str}:DK K (.str s)↔s.length<=K:=⟨fun h=>by cases h;assumption,.str⟩
theorem DK.sl_iff{K sz:Nat}{α:Type}{f:α->List D}{xs:List α}:DK K (.sl sz (xs.map f))↔xs.length<=K/\∀x∈xs,∀d∈f x,DK K d:=by
 constructor
 ·intro h;cases h with
  |sl h hr=>exact⟨by simpa using h,fun x hx=>hr _ (List.mem_map_of_mem hx)⟩
 ·rintro ⟨h,hr⟩;refine .sl (by simpa using h) fun r hr' => ?_;obtain⟨x,hx,rfl⟩:=Zh.1 hr';exact hr x hx
def zE{α:Type}(K:Nat)(p:α->Prop)(l:List α):Prop:=l.length<=K/\∀x∈l,p x
def Ty.Fit(K:Nat)(T:Ty)(x:T.den):Prop:=∀d∈T.toD x,DK K d
def Org.Fit(o:Org):Prop:=I64 o.cell/\I64 o.row
def Rowd.Fit(K:Nat)(r:Rowd):Prop:=zE K I64 r.cells/\zE K Org.Fit r.frm
def Str.Fit(K:Nat)(s:Str):Prop:=s.length<=K
def Val.Fit(K:Nat)(v:Val):Prop:=∀d∈Val.toD v,DK K d
def Fil.Fit(K:Nat)(v:Fil):Prop:=Str.Fit K v.name/\I64 v.n
theorem xLk{K:Nat}{r:Rowd}:(∀d∈Rowd.toD r,DK K d)↔r.Fit K:=by
 simp only [Rowd.toD,Zl,ZT,or_false,forall_eq_or_imp,forall_eq,DK.sl_iff,DK.i64,Rowd.Fit,zE,Org.Fit]
theorem xPj{K:Nat}{r:Fil}:Ty.Fit K .fil r↔r.Fit K:=by
 simp only [Ty.Fit,Ty.toD,Zl,ZT,or_false,forall_eq_or_imp,forall_eq,DK.str_iff,DK.i64,Fil.Fit,Str.Fit]
theorem Val.fit_iff{K:Nat}{v:Val}:v.Fit K↔I64 v.kind/\I64 v.n/\I64 v.step/\Str.Fit K v.text/\zE K (Val.Fit K) v.list/\zE K (Str.Fit K) v.columns/\zE K (Rowd.Fit K) v.rows:=by
 cases v;simp only [Val.Fit,Val.toD,Val.toDs_eq,Zl,ZT,or_false,forall_eq_or_imp,forall_eq,DK.sl_iff,DK.i64,DK.str_iff,Str.Fit,zE,Val.kind,Val.n,Val.step,Val.text,Val.list,Val.columns,Val.rows,xLk]
theorem xLB{l:List Val}{x:Val}(h:x∈l)(k n s:Int)(t:Str)(c:List Str)(r:List Rowd):SizeOf.sizeOf x<SizeOf.sizeOf (Val.mk k n s t l c r):=by
 have:=List.sizeOf_lt_of_mem h;simp only [Val.mk.sizeOf_spec];omega
theorem Val.ind{p:Val->Prop}(h:∀k n s t l c r,(∀x∈l,p x)->p (.mk k n s t l c r)):∀v,p v
 | .mk k n s t l c r=>h k n s t l c r fun x hx=>Val.ind h x
termination_by v=>SizeOf.sizeOf v
decreasing_by exact xLB hx k n s t c r
theorem xEi{T:Ty}{f:Fl}{xs:List T.den}(h:DK maxLen (CV.sl f T xs).toD):zE maxLen (T.Fit maxLen) xs:=DK.sl_iff.1 h
end Go.Ab
end
