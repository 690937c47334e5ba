/- The statement FnMonotone holds: plain functions, certificates, laws. Conditions: none. -/
import Derived.Test.YtchkdijelkdpaaaGreatL2
import Derived.Test.YtchkdijelkdpaaaGreatFnMonotoneP0
set_option linter.all false
section
open Go.IntKind (i64)
namespace Go.Ab
open Go.Sort
abbrev qUp(d:Array Org)(a:Nat):Org→Bool:=fun x=> !olt d[a]! x
abbrev qDn(d:Array Org)(a:Nat):Org→Bool:=fun x=>olt d[a]! x
theorem xXd(N:Nat)(k:Int→Int→Int→List Org→Option (Int×List Org)){a i:Nat}:∀(j n:Nat) (d:Array Org),a<i→i≤j+1→j<d.size→2≤d.size→d.size<1152921504606846976→j<n→
 xBl N k n (a:Int) (i:Int) (j:Int) d.toList=
  (if i>scanDown (qDn d a) d i j then some ((i:Int),d.toList)
   else k (a:Int) ((i+1:Nat):Int) ((scanDown (qDn d a) d i j - 1:Nat):Int) (swp d i (scanDown (qDn d a) d i j)).toList)
 |0,n,d,ha,hij,hj,h2,hs,hn=>by
  obtain⟨n,rfl⟩:∃m,n=m+1:=⟨n - 1,by omega⟩
  have e:(decide ((i:Int)≤((0:Nat):Int)))=false:=decide_eq_false (by omega)
  have e2:(decide ((i:Int)>((0:Nat):Int)))=true:=decide_eq_true (by omega)
  rw [xBl,e,cond_false,e2,cond_true,scanDown,if_pos (by omega)]
 |j+1,n,d,ha,hij,hj,h2,hs,hn=>by
  obtain⟨n,rfl⟩:∃m,n=m+1:=⟨n - 1,by omega⟩
  have wi:i64.wrap ((i:Int)+1)=((i+1:Nat):Int):=wn _ (by omega) (by omega)
  have wj:i64.wrap (((j+1:Nat):Int) - 1)=((j:Nat):Int):=wn _ (by omega) (by omega)
  rw [xBl,wi,wj]
  by_cases h:i≤j+1
  ·have e:(decide ((i:Int)≤((j+1:Nat):Int)))=true:=decide_eq_true (by omega)
   have e2:(decide ((i:Int)>((j+1:Nat):Int)))=false:=decide_eq_false (by omega)
   rw [e,cond_true,xGD N rfl rfl (by omega) hj,e2,cond_false]
   dsimp only
   cases hl:olt d[a]! d[j+1]! with
   |true=>
    rw [jT,xXd N k j n d ha (by omega) (by omega) h2 hs (by omega),xKw (p:=qDn d a) h (by simp [qDn,hl])]
   |false=>
    rw [jF,xE6 N rfl rfl (by omega) hj h2,xG9 (p:=qDn d a) (by simp [qDn,hl]),if_neg (by omega)]
    rfl
  ·have e:(decide ((i:Int)≤((j+1:Nat):Int)))=false:=decide_eq_false (by omega)
   have e2:(decide ((i:Int)>((j+1:Nat):Int)))=true:=decide_eq_true (by omega)
   rw [e,cond_false,e2,cond_true,xG9 (p:=qDn d a) (by omega),if_pos (by omega)]
theorem vG6(N:Nat){a:Nat}:∀(m i j n:Nat) (d:Array Org),j+1 - i=m→a<i→i≤j+1→j<d.size→2≤d.size→d.size<1152921504606846976→m<n→d.size<N→
 xBk N n (a:Int) (i:Int) (j:Int) d.toList=some (((partEqLoop olt a i j d).1:Int),(partEqLoop olt a i j d).2.toList):=by
 intro m
 induction m using Nat.strongRecOn with
 |_ m ih=>
  intro i j n d hm ha hij hj h2 hs hn hN
  obtain⟨n,rfl⟩:∃m,n=m+1:=⟨n - 1,by omega⟩
  have wi:i64.wrap ((i:Int)+1)=((i+1:Nat):Int):=wn _ (by omega) (by omega)
  rw [xBk,wi]
  have stop:∀(hc:¬(i≤j∧qUp d a d[i]! =true)),xBl N (fun z0 z1 z2 z3=>(xBk N n z0 z1 z2 z3)) N (a:Int) (i:Int) (j:Int) d.toList=
   some (((partEqLoop olt a i j d).1:Int),(partEqLoop olt a i j d).2.toList):=by
   intro hc
   rw [xXd N _ j N d ha hij hj h2 hs (by omega),partEqLoop_eq,xIQ (p:=qUp d a) hc]
   have hb:=xJw (p:=qDn d a) (d:=d) (by omega:0<i) j hij
   split
   ·rfl
   ·rename_i hg
    have hne:i≠scanDown (qDn d a) d i j:=by
     intro e
     have h1:=xJ5 (p:=qDn d a) (d:=d) (by omega:0<i) j hij (by omega)
     rw [←e] at h1
     have h2:qUp d a d[i]! =true:=by simpa [qDn,qUp] using h1
     exact hc ⟨by omega,h2⟩
    exact ih (scanDown (qDn d a) d i j - 1+1 - (i+1)) (by omega) (i+1) (scanDown (qDn d a) d i j - 1) n _ rfl (by omega) (by omega) (by rw [xDe];omega) (by rw [xDe];exact h2) (by rw [xDe];exact hs) (by omega) (by rw [xDe];exact hN)
  by_cases h:i≤j
  ·have e:(decide ((i:Int)≤(j:Int)))=true:=decide_eq_true (by omega)
   rw [e,cond_true,xGD N rfl rfl (by omega) (by omega)]
   dsimp only
   cases hl:olt d[a]! d[i]! with
   |false=>
    rw [Bool.not_false,cond_true,ih (m - 1) (by omega) (i+1) j n d (by omega) (by omega) (by omega) hj h2 hs (by omega) hN]
    have:partEqLoop olt a i j d=partEqLoop olt a (i+1) j d:=by
     rw [partEqLoop_eq,partEqLoop_eq (i:=i+1),xMl (p:=qUp d a) h (by simp [qUp,hl])]
    rw [this]
   |true=>rw [Bool.not_true,cond_false];exact stop (by simp [qUp,hl])
  ·have e:(decide ((i:Int)≤(j:Int)))=false:=decide_eq_false (by omega)
   rw [e,cond_false];exact stop (by omega)
theorem xXe(N:Nat){a b pivot:Nat}{d:Array Org}(hp1:a≤pivot)(hp2:pivot<b)(hb:b≤d.size)(hab:a+1<b)(h2:2≤d.size)(hs:d.size<1152921504606846976)(hN:d.size<N):
 xCu N (a:Int) (b:Int) (pivot:Int) d.toList=some (((partitionEqual olt d a b pivot).1:Int),(partitionEqual olt d a b pivot).2.toList):=by
 have wa:i64.wrap ((a:Int)+1)=((a+1:Nat):Int):=wn _ (by omega) (by omega)
 have wb:i64.wrap ((b:Int) - 1)=((b - 1:Nat):Int):=wn _ (by omega) (by omega)
 have hs1:(swp d a pivot).size=d.size:=xDe
 unfold xCu partitionEqual
 rw [xE6 N rfl rfl (by omega) (by omega) h2,wa,wb]
 exact vG6 N _ (a+1) (b - 1) N _ rfl (by omega) (by omega) (by omega) (by omega) (by omega) (by omega) (by omega)
theorem vI0(N:Nat)(k:Int→Int→Int→Int→List Org→Option (Bool×List Org)){a b i:Nat}{s:Nat}(hs5:s<100):∀(m j n:Nat) (d:Array Org),b - j=m→0<j→j<1152921504606846976→b≤d.size→2≤d.size→d.size<1152921504606846976→m<n→
 xBt N k n (a:Int) (b:Int) (i:Int) (s:Int) (j:Int) d.toList=k (a:Int) (b:Int) (i:Int) ((s+1:Nat):Int) (shiftUp olt b j d).toList∧(shiftUp olt b j d).size=d.size:=by
 have ws:i64.wrap ((s:Int)+1)=((s+1:Nat):Int):=wn _ (by omega) (by omega)
 intro m
 induction m with
 |zero=>
  intro j n d hm hj hjb hb h2 hs hn
  obtain⟨n,rfl⟩:∃m,n=m+1:=⟨n - 1,by omega⟩
  have e:(decide ((j:Int)<(b:Int)))=false:=decide_eq_false (by omega)
  rw [xBt,e,cond_false,shiftUp,if_neg (by omega),ws]
  exact⟨rfl,rfl⟩
 |succ m ih=>
  intro j n d hm hj hjb hb h2 hs hn
  obtain⟨n,rfl⟩:∃m,n=m+1:=⟨n - 1,by omega⟩
  have e:(decide ((j:Int)<(b:Int)))=true:=decide_eq_true (by omega)
  have w1:i64.wrap ((j:Int) - 1)=((j - 1:Nat):Int):=wn _ (by omega) (by omega)
  have w2:i64.wrap ((j:Int)+1)=((j+1:Nat):Int):=wn _ (by omega) (by omega)
  rw [xBt,e,cond_true,w1,w2,ws,xGD N rfl rfl (by omega) (by omega),shiftUp,if_pos (by omega)]
  dsimp only
  cases hl:olt d[j]! d[j - 1]! with
  |false=>exact⟨rfl,rfl⟩
  |true=>
   rw [Bool.not_true,cond_false,xE6 N rfl rfl (by omega) (by omega) h2]
   have:=ih (j+1) n (swp d j (j - 1)) (by omega) (by omega) (by omega) (by rw [xDe];exact hb) (by rw [xDe];exact h2) (by rw [xDe];exact hs) (by omega)
   rw [xDe] at this
   exact this
def up18(b i:Nat)(d:Array Org):Array Org:=if b - i≥2 then shiftUp olt b (i+1) d else d
theorem xUV(N:Nat)(k:Int→Int→Int→Int→List Org→Option (Bool×List Org)){a b i:Nat}{s:Nat}(hs5:s<100)(d:Array Org)(hib:i≤b)(hb:b≤d.size)(h2:2≤d.size)(hs:d.size<1152921504606846976)(hN:d.size<N):
 xBg N k (a:Int) (b:Int) (i:Int) (s:Int) d.toList=k (a:Int) (b:Int) (i:Int) ((s+1:Nat):Int) (up18 b i d).toList∧(up18 b i d).size=d.size:=by
 have ws:i64.wrap ((s:Int)+1)=((s+1:Nat):Int):=wn _ (by omega) (by omega)
 have w1:i64.wrap ((b:Int) - (i:Int))=((b - i:Nat):Int):=wn _ (by omega) (by omega)
 have w2:i64.wrap ((i:Int)+1)=((i+1:Nat):Int):=wn _ (by omega) (by omega)
 unfold xBg up18
 rw [ws,w1,w2]
 by_cases h:b - i≥2
 ·have e:(decide (((b - i:Nat):Int)≥2))=true:=decide_eq_true (by omega)
  rw [e,cond_true,if_pos h]
  exact vI0 N k hs5 _ (i+1) N d rfl (by omega) (by omega) hb h2 hs (by omega)
 ·have e:(decide (((b - i:Nat):Int)≥2))=false:=decide_eq_false (by omega)
  rw [e,cond_false,if_neg h]
  exact⟨rfl,rfl⟩
theorem vCe(N:Nat)(k:Int→Int→Int→Int→List Org→Option (Bool×List Org)){a b i:Nat}{s:Nat}:∀(j n:Nat) (d:Array Org),j<d.size→2≤d.size→d.size<1152921504606846976→j<n→
 xBs N k n (a:Int) (b:Int) (i:Int) (s:Int) (j:Int) d.toList=xBg N k (a:Int) (b:Int) (i:Int) (s:Int) (shiftDown olt j d).toList∧(shiftDown olt j d).size=d.size
 |0,n,d,hj,h2,hs,hn=>by
  obtain⟨n,rfl⟩:∃m,n=m+1:=⟨n - 1,by omega⟩
  have e:(decide (((0:Nat):Int)≥1))=false:=decide_eq_false (by omega)
  rw [xBs,e,cond_false]
  exact⟨rfl,rfl⟩
 |j+1,n,d,hj,h2,hs,hn=>by
  obtain⟨n,rfl⟩:∃m,n=m+1:=⟨n - 1,by omega⟩
  have e:(decide (((j+1:Nat):Int)≥1))=true:=decide_eq_true (by omega)
  have w1:i64.wrap (((j+1:Nat):Int) - 1)=((j:Nat):Int):=wn _ (by omega) (by omega)
  rw [xBs,e,cond_true,w1,xGD N rfl rfl hj (by omega),shiftDown]
  dsimp only
  cases hl:olt d[j+1]! d[j]! with
  |false=>exact⟨rfl,rfl⟩
  |true=>
   rw [Bool.not_true,cond_false,xE6 N rfl rfl hj (by omega) h2]
   have:=vCe N k (a:=a) (b:=b) (i:=i) (s:=s) j n (swp d (j+1) j) (by rw [xDe];omega) (by rw [xDe];exact h2) (by rw [xDe];exact hs) (by omega)
   rw [xDe] at this
   exact this
theorem xOy(d:Array Org)(b:Nat):∀(m i:Nat),b - i=m→i≤b→i≤scanSorted olt d b i∧scanSorted olt d b i≤b:=by
 intro m
 induction m with
 |zero=>intro i hm hi;rw [scanSorted,if_neg (by simp;omega)];omega
 |succ m ih=>
  intro i hm hi
  rw [scanSorted]
  split
  ·have:=ih (i+1) (by omega) (by omega);omega
  ·omega
theorem vKu(N:Nat)(k:Int→Int→Int→Int→List Org→Option (Bool×List Org)){a b:Nat}{s:Nat}:∀(m i n:Nat) (d:Array Org),b - i=m→0<i→i≤b→b≤d.size→2≤d.size→d.size<1152921504606846976→m<n→
 xBv N k n (a:Int) (b:Int) (i:Int) (s:Int) d.toList=xBw N k (a:Int) (b:Int) ((scanSorted olt d b i:Nat):Int) (s:Int) d.toList:=by
 intro m
 induction m with
 |zero=>
  intro i n d hm hi hib hb h2 hs hn
  obtain⟨n,rfl⟩:∃m,n=m+1:=⟨n - 1,by omega⟩
  have e:(decide ((i:Int)<(b:Int)))=false:=decide_eq_false (by omega)
  rw [xBv,e,cond_false,scanSorted,if_neg (by simp;omega)]
 |succ m ih=>
  intro i n d hm hi hib hb h2 hs hn
  obtain⟨n,rfl⟩:∃m,n=m+1:=⟨n - 1,by omega⟩
  have e:(decide ((i:Int)<(b:Int)))=true:=decide_eq_true (by omega)
  have w1:i64.wrap ((i:Int) - 1)=((i - 1:Nat):Int):=wn _ (by omega) (by omega)
  have w2:i64.wrap ((i:Int)+1)=((i+1:Nat):Int):=wn _ (by omega) (by omega)
  rw [xBv,e,cond_true,w1,w2,xGD N rfl rfl (by omega) (by omega),scanSorted]
  dsimp only
  cases hl:olt d[i]! d[i - 1]! with
  |false=>
   rw [Bool.not_false,cond_true,if_pos (by simp;omega)]
   exact ih (i+1) n d (by omega) (by omega) (by omega) hb h2 hs (by omega)
  |true=>rw [Bool.not_true,cond_false,if_neg (by simp)]
theorem vKs(N:Nat)(k:Int→Int→Int→Int→List Org→Option (Bool×List Org)){a b i:Nat}{s:Nat}(hs5:s<100)(d:Array Org)(hai:a<i)(hib:i≤b)(hb:b≤d.size)(h2:2≤d.size)(hs:d.size<1152921504606846976)(hN:d.size<N):
 xBw N k (a:Int) (b:Int) (i:Int) (s:Int) d.toList=
  (if i=b then some (true,d.toList) else if b - a<50 then some (false,d.toList) else
    k (a:Int) (b:Int) (i:Int) ((s+1:Nat):Int) (up18 b i (if i - a≥2 then shiftDown olt (i - 1) (swp d i (i - 1)) else swp d i (i - 1))).toList)∧
 (i≠b→(up18 b i (if i - a≥2 then shiftDown olt (i - 1) (swp d i (i - 1)) else swp d i (i - 1))).size=d.size):=by
 have w1:i64.wrap ((b:Int) - (a:Int))=((b - a:Nat):Int):=wn _ (by omega) (by omega)
 have w2:i64.wrap ((i:Int) - 1)=((i - 1:Nat):Int):=wn _ (by omega) (by omega)
 have w3:i64.wrap ((i:Int) - (a:Int))=((i - a:Nat):Int):=wn _ (by omega) (by omega)
 unfold xBw
 rw [w1,w2,w3]
 by_cases h:i=b
 ·have e:(((i:Int))==(b:Int))=true:=by simp [h]
  rw [e,cond_true,if_pos h]
  exact⟨rfl,fun g=>absurd h g⟩
 ·have e:(((i:Int))==(b:Int))=false:=by simp;omega
  rw [e,cond_false,if_neg h]
  have hlt:i<b:=by omega
  have d1:=vCe N k (a:=a) (b:=b) (i:=i) (s:=s) (i - 1) N (swp d i (i - 1)) (by rw [xDe];omega) (by rw [xDe];exact h2) (by rw [xDe];exact hs) (by omega)
  rw [xDe] at d1
  by_cases h50:b - a<50
  ·have e2:(decide (((b - a:Nat):Int)<50))=true:=decide_eq_true (by omega)
   rw [e2,cond_true,if_pos h50]
   refine⟨rfl,fun _=> ?_⟩
   by_cases h3:i - a≥2
   ·rw [if_pos h3]
    rw [(xUV N k (a:=a) (i:=i) hs5 (shiftDown olt (i - 1) (swp d i (i - 1))) hib (by rw [d1.2];exact hb) (by rw [d1.2];exact h2) (by rw [d1.2];exact hs) (by rw [d1.2];exact hN)).2,d1.2]
   ·rw [if_neg h3]
    rw [(xUV N k (a:=a) (i:=i) hs5 (swp d i (i - 1)) hib (by rw [xDe];exact hb) (by rw [xDe];exact h2) (by rw [xDe];exact hs) (by rw [xDe];exact hN)).2,xDe]
  ·have e2:(decide (((b - a:Nat):Int)<50))=false:=decide_eq_false (by omega)
   rw [e2,cond_false,if_neg h50,xE6 N rfl rfl (by omega) (by omega) h2]
   by_cases h3:i - a≥2
   ·have e3:(decide (((i - a:Nat):Int)≥2))=true:=decide_eq_true (by omega)
    have u:=xUV N k (a:=a) (i:=i) hs5 (shiftDown olt (i - 1) (swp d i (i - 1))) hib (by rw [d1.2];exact hb) (by rw [d1.2];exact h2) (by rw [d1.2];exact hs) (by rw [d1.2];exact hN)
    rw [e3,cond_true,if_pos h3,d1.1,u.1,u.2,d1.2]
    exact⟨rfl,fun _=>rfl⟩
   ·have e3:(decide (((i - a:Nat):Int)≥2))=false:=decide_eq_false (by omega)
    have u:=xUV N k (a:=a) (i:=i) hs5 (swp d i (i - 1)) hib (by rw [xDe];exact hb) (by rw [xDe];exact h2) (by rw [xDe];exact hs) (by rw [xDe];exact hN)
    rw [e3,cond_false,if_neg h3,u.1,u.2,xDe]
    exact⟨rfl,fun _=>rfl⟩
theorem vIY(N:Nat){a b:Nat}:∀(q s i n:Nat) (d:Array Org),s+q=5→a<i→i≤b→b≤d.size→2≤d.size→d.size<1152921504606846976→q<n→d.size<N→
 xBi N n (a:Int) (b:Int) (i:Int) (s:Int) d.toList=some ((partialIns olt a b q i d).2,(partialIns olt a b q i d).1.toList)
 |0,s,i,n,d,hq,hai,hib,hb,h2,hs,hn,hN=>by
  obtain⟨n,rfl⟩:∃m,n=m+1:=⟨n - 1,by omega⟩
  have e:(decide ((s:Int)<5))=false:=decide_eq_false (by omega)
  rw [xBi,e,cond_false]
  rfl
 |q+1,s,i,n,d,hq,hai,hib,hb,h2,hs,hn,hN=>by
  obtain⟨n,rfl⟩:∃m,n=m+1:=⟨n - 1,by omega⟩
  have e:(decide ((s:Int)<5))=true:=decide_eq_true (by omega)
  have hsc:=xOy d b _ i rfl hib
  rw [xBi,e,cond_true,vKu N _ _ i N d rfl (by omega) hib hb h2 hs (by omega),partialIns]
  generalize scanSorted olt d b i=i2 at hsc
  obtain⟨p1,p2⟩:=vKs N (fun z0 z1 z2 z3 z4=>(xBi N n z0 z1 z2 z3 z4)) (a:=a) (b:=b) (i:=i2) (s:=s) (by omega) d (by omega) (by omega) hb h2 hs hN
  rw [p1]
  dsimp only
  by_cases h:i2=b
  ·rw [if_pos h,if_pos h]
  ·rw [if_neg h,if_neg h]
   by_cases h50:b - a<50
   ·rw [if_pos h50,if_pos h50]
   ·rw [if_neg h50,if_neg h50]
    have hsz:=p2 h
    exact vIY N q (s+1) i2 n _ (by omega) (by omega) (by omega) (by rw [hsz];exact hb) (by rw [hsz];exact h2) (by rw [hsz];exact hs) (by omega) (by rw [hsz];exact hN)
theorem vG7(N:Nat){a b:Nat}{d:Array Org}(hab:a<b)(hb:b≤d.size)(h2:2≤d.size)(hs:d.size<1152921504606846976)(hN:d.size+10<N):
 xB3 N (a:Int) (b:Int) d.toList=some ((partialInsertionSort olt d a b).2,(partialInsertionSort olt d a b).1.toList):=by
 have wa:i64.wrap ((a:Int)+1)=((a+1:Nat):Int):=wn _ (by omega) (by omega)
 unfold xB3 partialInsertionSort
 rw [wa]
 exact vIY N 5 0 (a+1) N d rfl (by omega) (by omega) hb h2 hs (by omega) (by omega)
end Go.Ab
end
section
open Go.IntKind (i64)
namespace Go.Ab
open Go.Sort
theorem xPn(N:Nat){x y:Int}{i j:Nat}(s:Int){d:Array Org}(hx:x=i)(hy:y=j)(hi:i<d.size)(hj:j<d.size):
 ∃(i' j' :Nat) (s' :Int),xCo N x y s d.toList=some ((i' :Int),(j' :Int),s',d.toList)∧((i' =i∧j' =j)∨(i' =j∧j' =i)):=by
 subst hx hy
 unfold xCo
 rw [xGD N rfl rfl hj hi]
 dsimp only
 cases olt d[j]! d[i]! with
 |true=>exact⟨j,i,_,rfl,.inr ⟨rfl,rfl⟩⟩
 |false=>exact⟨i,j,_,rfl,.inl ⟨rfl,rfl⟩⟩
theorem xO7(N:Nat){x y z:Int}{i j k:Nat}(s:Int){d:Array Org}(hx:x=i)(hy:y=j)(hz:z=k)(hi:i<d.size)(hj:j<d.size)(hk:k<d.size):
 ∃(m:Nat) (s' :Int),xCn N x y z s d.toList=some ((m:Int),s',d.toList)∧(m=i∨m=j∨m=k):=by
 unfold xCn
 obtain⟨i1,j1,s1,e1,h1⟩:=xPn N s hx hy hi hj
 rw [e1]
 obtain⟨i2,j2,s2,e2,h2⟩:=xPn N s1 (x:=(j1:Int)) (y:=z) rfl hz (by omega) hk
 simp only [jS]
 rw [e2]
 obtain⟨i3,j3,s3,e3,h3⟩:=xPn N s2 (x:=(i1:Int)) (y:=(i2:Int)) (d:=d) rfl rfl (by omega) (by omega)
 simp only [jS]
 rw [e3]
 exact⟨j3,s3,rfl,by omega⟩
theorem xO6(N:Nat){x:Int}{i:Nat}(s:Int){d:Array Org}(hx:x=i)(h0:0<i)(hi:i+1<d.size)(hs:d.size<1152921504606846976):
 ∃(m:Nat) (s' :Int),xBE N x s d.toList=some ((m:Int),s',d.toList)∧(m=i - 1∨m=i∨m=i+1):=by
 subst hx
 unfold xBE
 have w1:i64.wrap ((i:Int) - 1)=((i - 1:Nat):Int):=wn _ (by omega) (by omega)
 have w2:i64.wrap ((i:Int)+1)=((i+1:Nat):Int):=wn _ (by omega) (by omega)
 rw [w1,w2]
 obtain⟨m,s1,e1,h1⟩:=xO7 N s (x:=((i - 1:Nat):Int)) (y:=(i:Int)) (z:=((i+1:Nat):Int)) (d:=d) rfl rfl rfl (by omega) (by omega) hi
 rw [e1]
 exact⟨m,s1,rfl,h1⟩
theorem xVV(N:Nat){a b:Nat}{d:Array Org}(hab:a+12<b)(hb:b≤d.size)(hs:d.size<1152921504606846976):
 ∃(p:Nat) (h:Int),xCO N (a:Int) (b:Int) d.toList=some ((p:Int),h,d.toList)∧(a≤p∧p<b):=by
 have w1:i64.wrap ((b:Int) - (a:Int))=((b - a:Nat):Int):=wn _ (by omega) (by omega)
 have t:Int.tdiv ((b - a:Nat):Int) 4=(((b - a) / 4:Nat):Int):=rfl
 have w2:i64.wrap (Int.tdiv ((b - a:Nat):Int) 4)=(((b - a) / 4:Nat):Int):=by rw [t];exact wn _ rfl (by omega)
 have q:∀c:Nat,c≤3→i64.wrap ((a:Int)+i64.wrap ((((b - a) / 4:Nat):Int)*(c:Int)))=((a+(b - a) / 4*c:Nat):Int):=by
  intro c hc
  have hle:(b - a) / 4*c≤(b - a) / 4*3:=Nat.mul_le_mul_left _ hc
  have e:i64.wrap ((((b - a) / 4:Nat):Int)*(c:Int))=(((b - a) / 4*c:Nat):Int):=wn _ (by simp) (by omega)
  rw [e]
  exact wn _ (by simp) (by omega)
 have q1:=q 1 (by omega)
 have q2:=q 2 (by omega)
 have q3:=q 3 (by omega)
 have q1:i64.wrap ((a:Int)+i64.wrap ((((b - a) / 4:Nat):Int)*1))=_:=q1
 have q2:i64.wrap ((a:Int)+i64.wrap ((((b - a) / 4:Nat):Int)*2))=_:=q2
 have q3:i64.wrap ((a:Int)+i64.wrap ((((b - a) / 4:Nat):Int)*3))=_:=q3
 unfold xCO
 rw [w1,w2,q1,q2,q3]
 have e8:(decide (((b - a:Nat):Int)≥8))=true:=decide_eq_true (by omega)
 rw [e8,cond_true]
 have k1:3≤(b - a) / 4:=by omega
 have k2:(b - a) / 4*4≤b - a:=by omega
 clear q q1 q2 q3 w2 t
 generalize (b - a) / 4=q at k1 k2
 by_cases h50:b - a≥50
 ·have e50:(decide (((b - a:Nat):Int)≥50))=true:=decide_eq_true (by omega)
  rw [e50,cond_true]
  obtain⟨m1,s1,e1,h1⟩:=xO6 N 0 (x:=((a+q*1:Nat):Int)) (d:=d) rfl (by omega) (by omega) hs
  rw [e1]
  simp only [jS]
  obtain⟨m2,s2,e2,h2⟩:=xO6 N s1 (x:=((a+q*2:Nat):Int)) (d:=d) rfl (by omega) (by omega) hs
  rw [e2]
  simp only [jS]
  obtain⟨m3,s3,e3,h3⟩:=xO6 N s2 (x:=((a+q*3:Nat):Int)) (d:=d) rfl (by omega) (by omega) hs
  rw [e3]
  simp only [jS]
  obtain⟨m4,s4,e4,h4⟩:=xO7 N s3 (x:=(m1:Int)) (y:=(m2:Int)) (z:=(m3:Int)) (d:=d) rfl rfl rfl (by omega) (by omega) (by omega)
  rw [e4]
  simp only [jS]
  have hm:a≤m4∧m4<b:=by omega
  generalize (s4==(0:Int))=c1
  generalize (s4==(12:Int))=c2
  cases c1 <;>cases c2 <;>exact⟨m4,_,rfl,hm⟩
 ·have e50:(decide (((b - a:Nat):Int)≥50))=false:=decide_eq_false (by omega)
  rw [e50,cond_false]
  obtain⟨m4,s4,e4,h4⟩:=xO7 N 0 (x:=((a+q*1:Nat):Int)) (y:=((a+q*2:Nat):Int)) (z:=((a+q*3:Nat):Int)) (d:=d) rfl rfl rfl (by omega) (by omega) (by omega)
  rw [e4]
  simp only [jS]
  have hm:a≤m4∧m4<b:=by omega
  generalize (s4==(0:Int))=c1
  generalize (s4==(12:Int))=c2
  cases c1 <;>cases c2 <;>exact⟨m4,_,rfl,hm⟩
theorem xND{x:Int}(h1:0≤x)(h2:x<18446744073709551616):IntKind.u64.wrap x=x:=by
 have:IntKind.u64.wrap x=x % 18446744073709551616:=by
  unfold IntKind.wrap
  simp [IntKind.bits,IntKind.signed]
 rw [this]
 exact Int.emod_eq_of_lt h1 h2
theorem vCi{r y:Int}{m:Nat}(hy:y=m)(hm:m<9223372036854775808):∃o:Nat,andI .u64 r y=(o:Int)∧o≤m:=by
 subst hy
 unfold andI
 refine⟨(BitVec.ofInt 64 r &&& BitVec.ofInt 64 (m:Int)).toNat,?_,?_⟩
 ·show IntKind.u64.wrap (((BitVec.ofInt 64 r &&& BitVec.ofInt 64 (m:Int)).toNat:Nat):Int)=_
  refine xND (by omega) ?_
  have:=(BitVec.ofInt 64 r &&& BitVec.ofInt 64 (m:Int)).isLt
  omega
 ·rw [BitVec.toNat_and]
  refine Nat.le_trans Nat.and_le_right ?_
  rw [BitVec.toNat_ofInt]
  omega
theorem brk6(N:Nat){a b M:Nat}(hl:12<b - a)(hM:M≤2*(b - a))(hM0:0<M):∀(m idx n:Nat) (st:Int) (d:Array Org),a+(b - a) / 4*2+2 - idx=m→a≤idx→b≤d.size→d.size<1152921504606846976→m<n→
 ∃d',xBz N n (a:Int) ((b - a:Nat):Int) (M:Int) (idx:Int) st d.toList=some d'.toList∧PermIn a b d d' :=by
 intro m
 induction m with
 |zero=>
  intro idx n st d hm hidx hb hs hn
  obtain⟨n,rfl⟩:∃m,n=m+1:=⟨n - 1,by omega⟩
  have t:Int.tdiv ((b - a:Nat):Int) 4=(((b - a) / 4:Nat):Int):=rfl
  have w2:i64.wrap (Int.tdiv ((b - a:Nat):Int) 4)=(((b - a) / 4:Nat):Int):=by rw [t];exact wn _ rfl (by omega)
  have w3:i64.wrap ((((b - a) / 4:Nat):Int)*2)=(((b - a) / 4*2:Nat):Int):=wn _ (by simp) (by omega)
  have w4:i64.wrap ((a:Int)+(((b - a) / 4*2:Nat):Int))=((a+(b - a) / 4*2:Nat):Int):=wn _ (by simp) (by omega)
  have w5:i64.wrap (((a+(b - a) / 4*2:Nat):Int)+1)=((a+(b - a) / 4*2+1:Nat):Int):=wn _ (by simp) (by omega)
  rw [xBz,w2,w3,w4,w5]
  have e:(decide ((idx:Int)≤((a+(b - a) / 4*2+1:Nat):Int)))=false:=decide_eq_false (by omega)
  rw [e,cond_false]
  exact⟨d,rfl,permIn_refl d a b⟩
 |succ m ih=>
  intro idx n st d hm hidx hb hs hn
  obtain⟨n,rfl⟩:∃m,n=m+1:=⟨n - 1,by omega⟩
  have t:Int.tdiv ((b - a:Nat):Int) 4=(((b - a) / 4:Nat):Int):=rfl
  have w2:i64.wrap (Int.tdiv ((b - a:Nat):Int) 4)=(((b - a) / 4:Nat):Int):=by rw [t];exact wn _ rfl (by omega)
  have w3:i64.wrap ((((b - a) / 4:Nat):Int)*2)=(((b - a) / 4*2:Nat):Int):=wn _ (by simp) (by omega)
  have w4:i64.wrap ((a:Int)+(((b - a) / 4*2:Nat):Int))=((a+(b - a) / 4*2:Nat):Int):=wn _ (by simp) (by omega)
  have w5:i64.wrap (((a+(b - a) / 4*2:Nat):Int)+1)=((a+(b - a) / 4*2+1:Nat):Int):=wn _ (by simp) (by omega)
  have w6:IntKind.u64.wrap ((M:Int) - 1)=((M - 1:Nat):Int):=by rw [xND (by omega) (by omega)];omega
  have w7:i64.wrap ((idx:Int)+1)=((idx+1:Nat):Int):=wn _ (by omega) (by omega)
  rw [xBz,w2,w3,w4,w5,w6,w7]
  have e:(decide ((idx:Int)≤((a+(b - a) / 4*2+1:Nat):Int)))=true:=decide_eq_true (by omega)
  rw [e,cond_true]
  cases hx:xGF N st with
  |none=>unfold xGF at hx;cases hx
  |some r=>
   rw [jS]
   obtain⟨o,ho1,ho2⟩:=vCi (r:=r.1) (y:=((M - 1:Nat):Int)) (m:=M - 1) rfl (by omega)
   have w8:i64.wrap (andI .u64 r.1 ((M - 1:Nat):Int))=(o:Int):=by rw [ho1];exact wn o rfl (by omega)
   rw [w8]
   by_cases hc:o≥b - a
   ·have e2:(decide ((o:Int)≥((b - a:Nat):Int)))=true:=decide_eq_true (by omega)
    have w9:i64.wrap ((o:Int) - ((b - a:Nat):Int))=((o - (b - a):Nat):Int):=wn _ (by omega) (by omega)
    have w10:i64.wrap ((a:Int)+((o - (b - a):Nat):Int))=((a+(o - (b - a)):Nat):Int):=wn _ (by omega) (by omega)
    rw [e2,cond_true,w9,w10,xE6 N rfl rfl (by omega) (by omega) (by omega)]
    obtain⟨d',h1,h2⟩:=ih (idx+1) n r.2 (swp d idx (a+(o - (b - a)))) (by omega) (by omega) (by rw [xDe];exact hb) (by rw [xDe];exact hs) (by omega)
    exact⟨d',h1,permIn_trans _ _ _ a b (swp_permIn d a b idx (a+(o - (b - a))) hidx (by omega) (by omega) (by omega) hb) h2⟩
   ·have e2:(decide ((o:Int)≥((b - a:Nat):Int)))=false:=decide_eq_false (by omega)
    have w10:i64.wrap ((a:Int)+(o:Int))=((a+o:Nat):Int):=wn _ (by omega) (by omega)
    rw [e2,cond_false,w10,xE6 N rfl rfl (by omega) (by omega) (by omega)]
    obtain⟨d',h1,h2⟩:=ih (idx+1) n r.2 (swp d idx (a+o)) (by omega) (by omega) (by rw [xDe];exact hb) (by rw [xDe];exact hs) (by omega)
    exact⟨d',h1,permIn_trans _ _ _ a b (swp_permIn d a b idx (a+o) hidx (by omega) (by omega) (by omega) hb) h2⟩
theorem xSE{x:Nat}(h0:0<x)(h:x<1152921504606846976):0<Lib.bitLen x∧Lib.bitLen x≤60∧2 ^ Lib.bitLen x≤2*x:=by
 obtain⟨h1,h2,h3⟩:=Lib.bitLenAux_bounds 64 x (by omega) (by omega)
 have h1:1≤Lib.bitLen x:=h1
 have h2:2 ^ (Lib.bitLen x - 1)≤x:=h2
 refine⟨by omega,Lib.bitLen_le x 60 (by omega) (by omega),?_⟩
 obtain⟨k,hk⟩:∃k,Lib.bitLen x=k+1:=⟨Lib.bitLen x - 1,by omega⟩
 rw [hk] at h2 ⊢
 rw [Nat.add_sub_cancel] at h2
 rw [Nat.pow_succ]
 omega
theorem xVF(N:Nat){l:Nat}(h0:0<l)(h:l<1152921504606846976):∃M:Nat,xGh N (l:Int)=some (M:Int)∧0<M∧M≤2*l:=by
 obtain⟨f1,f2,f3⟩:=xSE h0 h
 have w1:IntKind.u64.wrap (l:Int)=(l:Int):=xND (by omega) (by omega)
 have w2:IntKind.u64.wrap ((Lib.bitLen l:Nat):Int)=((Lib.bitLen l:Nat):Int):=xND (by omega) (by omega)
 have hp:(2:Nat) ^ Lib.bitLen l<18446744073709551616:=by omega
 unfold xGh xLC zFJ
 rw [w1,if_pos (by omega),Option.bind_some,Int.toNat_natCast,w2,if_pos (by omega),Int.toNat_natCast]
 refine⟨2 ^ Lib.bitLen l,?_,Nat.pos_of_ne_zero (by simp),f3⟩
 have e:(1:Int)*2 ^ Lib.bitLen l=((2 ^ Lib.bitLen l:Nat):Int):=by simp
 rw [e]
 generalize (2:Nat) ^ Lib.bitLen l=P at hp
 rw [xND (by omega) (by omega)]
theorem vHf(N:Nat){a b:Nat}{d:Array Org}(hab:a+12<b)(hb:b≤d.size)(hs:d.size<1152921504606846976)(hN:5<N):
 ∃d',xCv N (a:Int) (b:Int) d.toList=some d'.toList∧PermIn a b d d' :=by
 have w1:i64.wrap ((b:Int) - (a:Int))=((b - a:Nat):Int):=wn _ (by omega) (by omega)
 have t:Int.tdiv ((b - a:Nat):Int) 4=(((b - a) / 4:Nat):Int):=rfl
 have w2:i64.wrap (Int.tdiv ((b - a:Nat):Int) 4)=(((b - a) / 4:Nat):Int):=by rw [t];exact wn _ rfl (by omega)
 have w3:i64.wrap ((((b - a) / 4:Nat):Int)*2)=(((b - a) / 4*2:Nat):Int):=wn _ (by simp) (by omega)
 have w4:i64.wrap ((a:Int)+(((b - a) / 4*2:Nat):Int))=((a+(b - a) / 4*2:Nat):Int):=wn _ (by simp) (by omega)
 have w5:i64.wrap (((a+(b - a) / 4*2:Nat):Int) - 1)=((a+(b - a) / 4*2 - 1:Nat):Int):=wn _ (by omega) (by omega)
 unfold xCv
 rw [w1,w2,w3,w4,w5]
 have e8:(decide (((b - a:Nat):Int)≥8))=true:=decide_eq_true (by omega)
 obtain⟨M,m1,m2,m3⟩:=xVF N (l:=b - a) (by omega) (by omega)
 rw [e8,cond_true,m1,Option.bind_some]
 exact brk6 N (by omega) m3 m2 _ _ N _ d rfl (by omega) hb hs (by omega)
def Sorts(a b:Nat)(d:Array Org)(o:Option (List Org)):Prop:=∃d',o=some d'.toList∧PermIn a b d d' ∧SortedIn olt a b d'
theorem Sorts.after{a b:Nat}{d d1:Array Org}{o:Option (List Org)}(h:PermIn a b d d1)(hs:Sorts a b d1 o):Sorts a b d o:=
 hs.elim fun d' ⟨h1,h2,h3⟩=>⟨d',h1,permIn_trans _ _ _ a b h h2,h3⟩
theorem vIX(N:Nat){q:Int→Int→Int→List Org→Option (List Org)}{k:Int→Int→Int→Bool→Bool→List Org→Option (List Org)}{a b p:Nat}(lim x10:Int){d:Array Org}
 (hp1:a≤p) (hp2:p<b) (hb:b≤d.size) (hab:a+12<b) (hs:d.size<1152921504606846976) (hN:d.size<N) (hB:Below olt a b d)
 (hq:∀(a' b' :Nat) (d' :Array Org),b' - a' <b - a→a' ≤b' →b' ≤d'.size→d'.size=d.size→Below olt a' b' d' →Sorts a' b' d' (q (a' :Int) (b' :Int) lim d'.toList))
 (hk:∀(a' b' :Nat) (wb wp:Bool) (d' :Array Org),b' - a' <b - a→a' ≤b' →b' ≤d'.size→d'.size=d.size→Below olt a' b' d' →Sorts a' b' d' (k (a' :Int) (b' :Int) lim wb wp d'.toList)):
 Sorts a b d (xCR N q k (a:Int) (b:Int) lim x10 (p:Int) d.toList):=by
 unfold xCR
 rw [vG5 N hp1 hp2 hb (by omega) (by omega) hs hN,Option.bind_some]
 obtain⟨mid,ap,d4,hx⟩:∃mid ap d4,partition olt d a b p=(mid,ap,d4):=⟨_,_,_,rfl⟩
 rw [hx]
 obtain⟨g1,g2,hs4,hBa,hBr,hleft,hright⟩:=round_part xK6 (partition_holds olt) hp1 hp2 hb hB hx
 dsimp only
 have w1:i64.wrap ((mid:Int) - (a:Int))=((mid - a:Nat):Int):=wn _ (by omega) (by omega)
 have w2:i64.wrap ((b:Int) - (mid:Int))=((b - mid:Nat):Int):=wn _ (by omega) (by omega)
 have w3:i64.wrap ((mid:Int)+1)=((mid+1:Nat):Int):=wn _ (by omega) (by omega)
 rw [w1,w2,w3]
 cases decide (((mid - a:Nat):Int)<((b - mid:Nat):Int)) with
 |true=>
  rw [jT]
  obtain⟨L,l1,l2,l3⟩:=hq a mid d4 (by omega) g1 (by omega) hs4 hBa
  rw [l1,Option.bind_some]
  obtain⟨hBL,hfin⟩:=hleft L l2 l3
  obtain⟨R,r1,r2,r3⟩:=hk (mid+1) b (decide (((mid - a:Nat):Int)≥i64.wrap (Int.tdiv x10 8))) ap L (by omega) (by omega) (by rw [l2.1];omega) (by rw [l2.1];exact hs4) hBL
  exact⟨R,r1,hfin R r2 r3⟩
 |false=>
  rw [jF]
  obtain⟨L,l1,l2,l3⟩:=hq (mid+1) b d4 (by omega) (by omega) (by omega) hs4 hBr
  rw [l1,Option.bind_some]
  obtain⟨hBL,hfin⟩:=hright L l2 l3
  obtain⟨R,r1,r2,r3⟩:=hk a mid (decide (((b - mid:Nat):Int)≥i64.wrap (Int.tdiv x10 8))) ap L (by omega) g1 (by rw [l2.1];omega) (by rw [l2.1];exact hs4) hBL
  exact⟨R,r1,hfin R r2 r3⟩
theorem vIW(N:Nat){q:Int→Int→Int→List Org→Option (List Org)}{k:Int→Int→Int→Bool→Bool→List Org→Option (List Org)}{a b p:Nat}(lim x10:Int)(wb wp:Bool){d:Array Org}
 (hp1:a≤p) (hp2:p<b) (hb:b≤d.size) (hab:a+12<b) (hs:d.size<1152921504606846976) (hN:d.size<N) (hB:Below olt a b d)
 (hq:∀(a' b' :Nat) (d' :Array Org),b' - a' <b - a→a' ≤b' →b' ≤d'.size→d'.size=d.size→Below olt a' b' d' →Sorts a' b' d' (q (a' :Int) (b' :Int) lim d'.toList))
 (hk:∀(a' b' :Nat) (wb wp:Bool) (d' :Array Org),b' - a' <b - a→a' ≤b' →b' ≤d'.size→d'.size=d.size→Below olt a' b' d' →Sorts a' b' d' (k (a' :Int) (b' :Int) lim wb wp d'.toList)):
 Sorts a b d (xBR N q k (a:Int) (b:Int) lim wb wp x10 (p:Int) d.toList):=by
 unfold xBR
 by_cases ha:0<a
 ·have e:(decide ((a:Int)>0))=true:=decide_eq_true (by omega)
  have w1:i64.wrap ((a:Int) - 1)=((a - 1:Nat):Int):=wn _ (by omega) (by omega)
  rw [e,cond_true,w1,xGD N rfl rfl (by omega) (by omega)]
  dsimp only
  cases hl:olt d[a - 1]! d[p]! with
  |true=>rw [Bool.not_true,cond_false];exact vIX N lim x10 hp1 hp2 hb hab hs hN hB hq hk
  |false=>
   rw [Bool.not_false,cond_true,xXe N hp1 hp2 hb (by omega) (by omega) hs hN,Option.bind_some]
   obtain⟨mid,d4,hx⟩:∃mid d4,partitionEqual olt d a b p=(mid,d4):=⟨_,_,rfl⟩
   rw [hx]
   obtain⟨g1,g2,hs4,hB4,hfin⟩:=round_eq xK6 (partitionEqual_holds olt) ha hp1 hp2 hb hB hl hx
   obtain⟨R,r1,r2,r3⟩:=hk mid b wb wp d4 (by omega) g2 (by omega) hs4 hB4
   exact⟨R,r1,hfin R r2 r3⟩
 ·have e:(decide ((a:Int)>0))=false:=decide_eq_false (by omega)
  rw [e,cond_false];exact vIX N lim x10 hp1 hp2 hb hab hs hN hB hq hk
theorem vIV(N:Nat){q:Int→Int→Int→List Org→Option (List Org)}{k:Int→Int→Int→Bool→Bool→List Org→Option (List Org)}{a b p:Nat}(lim x10 x12:Int)(wb wp:Bool){d:Array Org}
 (hp1:a≤p) (hp2:p<b) (hb:b≤d.size) (hab:a+12<b) (hs:d.size<1152921504606846976) (hN:d.size+10<N) (hB:Below olt a b d)
 (hq:∀(a' b' :Nat) (d' :Array Org),b' - a' <b - a→a' ≤b' →b' ≤d'.size→d'.size=d.size→Below olt a' b' d' →Sorts a' b' d' (q (a' :Int) (b' :Int) lim d'.toList))
 (hk:∀(a' b' :Nat) (wb wp:Bool) (d' :Array Org),b' - a' <b - a→a' ≤b' →b' ≤d'.size→d'.size=d.size→Below olt a' b' d' →Sorts a' b' d' (k (a' :Int) (b' :Int) lim wb wp d'.toList)):
 Sorts a b d (xCQ N q k (a:Int) (b:Int) lim wb wp x10 (p:Int) x12 d.toList):=by
 have go:=vIW N lim x10 wb wp hp1 hp2 hb hab hs (by omega) hB hq hk
 unfold xCQ
 cases wb with
 |false=>exact go
 |true=>
  cases wp with
  |false=>exact go
  |true=>
   simp only [jT]
   cases (x12:Int)==1 with
   |false=>exact go
   |true=>
    rw [jT,vG7 N (by omega) hb (by omega) hs hN,Option.bind_some]
    obtain⟨i1,i2⟩:=partialInsertionSort_holds xK6 d a b (by omega) hb hB
    dsimp only
    cases hc:(partialInsertionSort olt d a b).2 with
    |true=>exact⟨_,rfl,i1,i2 hc⟩
    |false=>
     rw [jF]
     refine Sorts.after i1 ?_
     exact vIW N lim x10 true true hp1 hp2 (by rw [i1.1];exact hb) hab (by rw [i1.1];exact hs) (by rw [i1.1];omega) (hB.perm hb i1) (fun a' b' d' g1 g2 g3 g4=>hq a' b' d' g1 g2 g3 (g4.trans i1.1)) (fun a' b' wb wp d' g1 g2 g3 g4=>hk a' b' wb wp d' g1 g2 g3 (g4.trans i1.1))
theorem vIU(N:Nat){q:Int→Int→Int→List Org→Option (List Org)}{k:Int→Int→Int→Bool→Bool→List Org→Option (List Org)}{a b:Nat}(lim x10:Int)(wb wp:Bool){d:Array Org}
 (hb:b≤d.size) (hab:a+12<b) (hs:d.size<1152921504606846976) (hN:d.size+10<N) (hB:Below olt a b d)
 (hq:∀(a' b' :Nat) (d' :Array Org),b' - a' <b - a→a' ≤b' →b' ≤d'.size→d'.size=d.size→Below olt a' b' d' →Sorts a' b' d' (q (a' :Int) (b' :Int) lim d'.toList))
 (hk:∀(a' b' :Nat) (wb wp:Bool) (d' :Array Org),b' - a' <b - a→a' ≤b' →b' ≤d'.size→d'.size=d.size→Below olt a' b' d' →Sorts a' b' d' (k (a' :Int) (b' :Int) lim wb wp d'.toList)):
 Sorts a b d (xCP N q k (a:Int) (b:Int) lim wb wp x10 d.toList):=by
 unfold xCP
 obtain⟨p,h,e,hp1,hp2⟩:=xVV N hab hb hs
 rw [e,Option.bind_some]
 dsimp only
 cases h==(2:Int) with
 |false=>rw [jF];exact vIV N lim x10 h wb wp hp1 hp2 hb hab hs hN hB hq hk
 |true=>
  have i1:=reverseRange_holds d a b (by omega) hb
  have w1:i64.wrap ((b:Int) - 1)=((b - 1:Nat):Int):=wn _ (by omega) (by omega)
  have w2:i64.wrap ((p:Int) - (a:Int))=((p - a:Nat):Int):=wn _ (by omega) (by omega)
  have w3:i64.wrap (((b - 1:Nat):Int) - ((p - a:Nat):Int))=((b - 1 - (p - a):Nat):Int):=wn _ (by omega) (by omega)
  rw [jT,vIZ N (by omega) hb (by omega) hs (by omega),Option.bind_some,w1,w2,w3]
  refine Sorts.after i1 ?_
  exact vIV N lim x10 1 wb wp (by omega) (by omega) (by rw [i1.1];exact hb) hab (by rw [i1.1];exact hs) (by rw [i1.1];omega) (hB.perm hb i1) (fun a' b' d' g1 g2 g3 g4=>hq a' b' d' g1 g2 g3 (g4.trans i1.1)) (fun a' b' wb wp d' g1 g2 g3 g4=>hk a' b' wb wp d' g1 g2 g3 (g4.trans i1.1))
theorem pdq3(N:Nat):∀(m a b n dep:Nat) (lim:Int) (wb wp:Bool) (d:Array Org),b - a=m→a≤b→b≤d.size→2≤d.size→d.size<1152921504606846976→m<n→m≤dep→d.size+10<N→Below olt a b d→
 Sorts a b d (xBY N (xBS N dep) n (a:Int) (b:Int) lim wb wp d.toList):=by
 intro m
 induction m using Nat.strongRecOn with
 |_ m ih=>
  intro a b n dep lim wb wp d hm hab hb h2 hs hn hdep hN hB
  obtain⟨n,rfl⟩:∃m,n=m+1:=⟨n - 1,by omega⟩
  have w1:i64.wrap ((b:Int) - (a:Int))=((b - a:Nat):Int):=wn _ (by omega) (by omega)
  rw [xBY,w1]
  by_cases h12:b - a≤12
  ·have e:(decide (((b - a:Nat):Int)≤12))=true:=decide_eq_true (by omega)
   rw [e,cond_true,vIy N hab hb h2 hs (by omega),Option.bind_some]
   exact⟨_,rfl,insertionSort_holds xK6 d a b hab hb⟩
  ·have e:(decide (((b - a:Nat):Int)≤12))=false:=decide_eq_false (by omega)
   rw [e,cond_false]
   cases (lim==(0:Int)) with
   |true=>
    rw [jT,vCw N (by omega) hb h2 hs (by omega),Option.bind_some]
    exact⟨_,rfl,heapSort_holds xK6 d a b hab hb⟩
   |false=>
    rw [jF]
    have hq:∀(lim:Int) (a' b' :Nat) (d' :Array Org),b' - a' <b - a→a' ≤b' →b' ≤d'.size→d'.size=d.size→Below olt a' b' d' →Sorts a' b' d' (xBS N dep (a' :Int) (b' :Int) lim d'.toList):=by
     intro lim a' b' d' g1 g2 g3 g4 g5
     obtain⟨dep,rfl⟩:∃m,dep=m+1:=⟨dep - 1,by omega⟩
     rw [xBS]
     exact ih (b' - a') (by omega) a' b' N dep lim true true d' rfl g2 g3 (by omega) (by omega) (by omega) (by omega) (by omega) g5
    have hk:∀(lim:Int) (a' b' :Nat) (wb wp:Bool) (d' :Array Org),b' - a' <b - a→a' ≤b' →b' ≤d'.size→d'.size=d.size→Below olt a' b' d' →Sorts a' b' d' (xBY N (xBS N dep) n (a' :Int) (b' :Int) lim wb wp d'.toList):=
     fun lim a' b' wb wp d' g1 g2 g3 g4 g5=>ih (b' - a') (by omega) a' b' n dep lim wb wp d' rfl g2 g3 (by omega) (by omega) (by omega) (by omega) (by omega) g5
    cases wb with
    |true=>exact vIU N lim _ true wp hb (by omega) hs hN hB (hq lim) (hk lim)
    |false=>
     obtain⟨d1,e1,i1⟩:=vHf N (a:=a) (b:=b) (d:=d) (by omega) hb hs (by omega)
     rw [Bool.not_false,cond_true,e1,Option.bind_some]
     refine Sorts.after i1 ?_
     exact vIU N _ _ false wp (by rw [i1.1];exact hb) (by omega) (by rw [i1.1];exact hs) (by rw [i1.1];exact hN) (hB.perm hb i1)
      (fun a' b' d' g1 g2 g3 g4=>hq _ a' b' d' g1 g2 g3 (g4.trans i1.1)) (fun a' b' wb wp d' g1 g2 g3 g4=>hk _ a' b' wb wp d' g1 g2 g3 (g4.trans i1.1))
theorem xXf{xs:List Org}(h2:2≤xs.length)(hs:xs.length<1152921504606846976)(lim:Int):
 xEQ (xs.length+11) 0 (xs.length:Int) lim xs=some (xs.mergeSort fun x y=> !olt y x):=by
 have h:=pdq3 (xs.length+11) xs.length 0 xs.length (xs.length+11) (xs.length+10) lim true true xs.toArray rfl (Nat.zero_le _) (by simp) (by simpa using h2) (by simpa using hs) (by omega) (by omega) (by simp) (.inl rfl)
 obtain⟨d',e,h1,h3⟩:=h
 have hu:=sorted_unique_holds (lt:=olt) xK6 xRo xs.toArray d' (by simpa using h1) (by simpa using h3)
 rw [show xEQ (xs.length+11) 0 (xs.length:Int) lim xs=_ from e,hu]
end Go.Ab
end
section
namespace Go.Ab
open Go.Proofs Go.RowKit Go.Shelf
theorem orgT:OrgT Tryz.prog 80 3 78 4 43:=⟨Tryz.underlying80,by kernel_rfl,Tryz.underlying3,Tryz.underlying78,Tryz.zeroValue4,Tryz.underlying43⟩
theorem vKn:(Tryz.prog.info? 80).map (fun i=>(i.zero,i.size,i.bytes))=some (some (.agg #[.int .i64 0,.int .i64 0]),2,16):=by kernel_rfl
set_option maxRecDepth 100000 in
set_option maxHeartbeats 4000000 in
theorem xVK [Inhabited Lb](srt:List Org→List Org)(hsl:∀l,(srt l).length=l.length)(xs ys:List Org)(u v:Value)(w:World)(hu:RowIn w u xs)(hv:RowIn w v ys)(hlen:xs.length+ys.length≤1000000000000)
 (hsort:∀(W:World) (g cap:Nat) (zs:List Org),zs.length≤1000000000000→Below w.heap.size w W→w.heap.size≤g→w.heap.size+1+1≠g→W.heap[w.heap.size+1+1]? =some (.cells #[.slice (some ⟨g,0,none⟩) zs.length cap] 43 (0,0))→OrgRow W g cap zs→
   Calls Tryz.prog 63 #[.iface 43 (.slice (some ⟨g,0,none⟩) zs.length cap),.func (.func 64) #[] #[.pointer (some ⟨w.heap.size+1+1,0,none⟩)]] W fun en W' =>en= .returned (.tuple #[])∧Sorted W (w.heap.size+1+1) g cap zs (srt zs) W'):
 Calls Tryz.prog 20 #[u,v] w fun e w' =>∃br cap,e= .returned (.slice (some ⟨br,0,none⟩) (srt (ded (xs++ys))).length cap)∧Below w.heap.size w w' ∧w.heap.size≤br∧OrgRow w' br cap (srt (ded (xs++ys))):=by
 obtain⟨i0,hi,hz0,hz1,hz2⟩:=info_parts vKn
 have hmm:= @run_makeMap Tryz.prog
 go_enter Tryz.func20,Tryz.ntmps20
 go_wp2_with (first
  |(at_builtin;refine xJ1 _ orgT rfl _ _ rfl i0 hi hz0 hz1 hz2 rfl (w.heap.size+1+1+1) 0 [] rfl (set4 w _ _ _ 80) u rfl xs (hu.below (xVT w _ _ _ _)) (by simp;omega) ?_;intro g1 c1 w1 r1 gr1 e1)
  |(at_builtin;refine xJ1 _ orgT rfl _ _ rfl i0 hi hz0 hz1 hz2 rfl g1 c1 ([]++xs) rfl r1 v rfl ys (hv.below (Below.grown (xVT w _ _ _ _) gr1 (by simp;omega) (fun k hk=>by cases hk;omega))) (by simpa using hlen) ?_;intro g2 c2 w2 r2 gr2 e2))
 have hst:=URel.start r2 gr1 e1 gr2 e2
 have hl2:(xs++ys).length=xs.length+ys.length:=List.length_append
 clear r1 gr1 e1 r2 gr2 e2 hu hv
 go_loopw [17] (fun i wr=>∃k g cap:Nat,k≤xs.length+ys.length∧i= .int .i64 k∧URel w 80 43 w.heap.size w2.heap.size g2 c2 (xs++ys) k g cap wr) (fun i _=>xs.length+ys.length - (RowKit.intOf i).toNat)
 case atStart=>exact⟨0,_,_,Nat.zero_le _,rfl,hst⟩
 case round=>
  obtain⟨k,g,cap,hk,rfl,hr⟩:=hrel
  clear hst
  by_cases hlt:k<xs.length+ys.length
  ·obtain⟨c,hc⟩:∃c,(xs++ys)[k]'(by omega)=c:=⟨_,rfl⟩
   have hc0:wr.cell? ⟨g2,k*2,none⟩=some (.int .i64 c.cell):=by
    have:=hr.all.cell (xPo (xs++ys) k (by omega) 0 (by decide))
    rw [hc] at this
    exact this
   have hc1:wr.cell? ⟨g2,k*2+1,none⟩=some (.int .i64 c.row):=by
    have:=hr.all.cell (xPo (xs++ys) k (by omega) 1 (by decide))
    rw [hc] at this
    exact this
   have hcb:=hr.cell
   have hgl:=hr.row.lt
   have hsz:=hr.size
   have hga:=hr.hga
   have hgg:=hr.hg
   cases hct:(ded ((xs++ys).take k)).contains c with
   |true=>
    go_wp2_with (at_lookup;refine xLu _ orgT rfl _ _ rfl w.heap.size (ded ((xs++ys).take k)) rfl (hr.set.kept (xKd (by omega))) c rfl true hct ?_)
    go_roundw
    case rel=>exact⟨k+1,g,cap,by omega,by go_num,hr.old (by omega) (by rw [hc];exact hct) _⟩
    case measure=>simp [RowKit.intOf];omega
   |false=>
    go_wp2_with (first
     |(at_lookup;refine xLu _ orgT rfl _ _ rfl w.heap.size (ded ((xs++ys).take k)) rfl (hr.set.kept (xKd (by omega))) c rfl false hct ?_)
     |(at_mapUpdate;refine xN5 _ orgT rfl _ _ _ rfl w.heap.size (ded ((xs++ys).take k)) rfl (hr.set.kept (xKd (by omega))) c rfl rfl hct ?_;intro w3 hs3 hg3 hz3;obtain⟨m1,m2,m3,m4⟩:=hr.mid hg3 hz3)
     |(at_builtin;refine xJ1 _ orgT rfl _ _ rfl i0 hi hz0 hz1 hz2 rfl g cap (ded ((xs++ys).take k)) rfl (m4 _) (.slice (some ⟨wr.heap.size+1,0,none⟩) 1 1) rfl [c] (by have h:=xXi w3 80 c;rw [hz3,xIW] at h;exact h) (by have:=vB8 ((xs++ys).take k);simp at this ⊢;omega) ?_;intro g' cap' w4 r4 g4 e4;obtain⟨n1,n2⟩:=hr.mid4 hg3 hz3 g4))
    go_roundw
    case rel=>exact⟨k+1,g',cap',by omega,by go_num,by
     have:=hr.new (by omega) (by rw [hc];exact hct) (by rw [hc];exact hs3) hg3 hz3 (by rw [hc];exact r4) g4 e4
     rw [hc] at this
     simpa using this⟩
    case measure=>simp [RowKit.intOf];omega
  ·have hk2:k=(xs++ys).length:=by omega
   have ht:(xs++ys).take k=xs++ys:=by rw [hk2];exact List.take_length
   have hcb:=hr.cell
   have hsz:=hr.size
   have hga:=hr.hga
   have hgg:=hr.hg
   have hs:=hsort wr g cap (ded (xs++ys)) (by have:=vB8 (xs++ys);omega) hr.below (by omega) (by omega) (by have:=hr.box;rw [ht] at this;exact this) (by have:=hr.row.org;rw [ht] at this;exact this)
   have hgr:=hr.below
   rw [ht] at hcb
   clear hr hsort
   go_wp2_with (go_at_call 63;refine hs.mono ?_;rintro e W' ⟨rfl,hS⟩;obtain⟨ty',hbx⟩:=hS.box;have hcb2:W'.cell? ⟨w.heap.size+1+1,0,none⟩=some (.slice (some ⟨g,0,none⟩) (ded (xs++ys)).length cap):=by(simp only [World.cell?,hbx];rfl))
   go_ret
   exact⟨g,cap,by rw [hsl];rfl,hgr.trans ⟨hS.os,hS.tape,hS.output,hS.size,fun k hk=>hS.old k (by have:=hgr.size;omega) (by omega) (by omega)⟩,by omega,hS.row⟩
theorem vKo:∀w,(Extern.Rtype.kind 80).run Tryz.prog w= .ok 25 w:=by intro w;kernel_rfl
theorem vKl:(Tryz.prog.info? 43).map (fun i=>i.desc)=some (.slice 80):=by kernel_rfl
theorem vKt:(Tryz.prog.info? 80).map (fun i=>(i.hasPointers,i.bytes))=some (false,16):=by kernel_rfl
theorem vKq:Tryz.prog.packed 43=false:=by kernel_rfl
theorem sw1:Tryz.prog.funcs.findIdx? (·.name== "internal/reflectlite" ++ ".Swapper$1")=some 133:=by kernel_rfl
theorem sw2:Tryz.prog.funcs.findIdx? (·.name== "internal/reflectlite" ++ ".Swapper$2")=some 134:=by kernel_rfl
theorem sw9:Tryz.prog.funcs.findIdx? (·.name== "internal/reflectlite" ++ ".Swapper$9")=some 141:=by kernel_rfl
theorem vCv:typeHandle Tryz.prog 80= .pointer (some ⟨0,80,none⟩):=by kernel_rfl
theorem vB5 [Inhabited Lb]{a0 a1 r:List Org}(h:zJr a0 a1=some r):AbsCalls Tryz.prog 20 (xIg a0 a1) (xGU r):=by
 obtain⟨i,hi,hd⟩:=Option.map_eq_some_iff.1 vKl
 obtain⟨ie,hie,he⟩:=Option.map_eq_some_iff.1 vKt
 simp only [Prod.mk.injEq] at he
 refine xWa (enters_of Tryz.func20 (by kernel_rfl) rfl) (fun xs ys u v w hu hv hlen hb=>xVK (fun l=>l.mergeSort fun x y=> !olt y x) (fun l=>by simp) xs ys u v w hu hv hlen fun W g cap zs hz hB hg hne hbo hrow=> ?_) h
 refine vG9 Tryz.laysGg6 43 80 i ie hi hd vKq hie 25 vKo he.1 he.2 133 134 141 64 sw1 sw2 sw9 (fun l h2 hl=> ?_) hz hbo hrow hne (fun x hx=> ?_)
 ·rw [vCv]
  exact T.sort_pdqsort_func_cUnionOrigins_1_ok (xXf h2 (by omega) (Lib.bitLen l.length))
 ·obtain⟨b1,b2⟩:=hb x hx
  exact⟨Nat.lt_of_lt_of_le b1 hB.size,by omega,by omega,(hB.block _ b1).trans b2⟩
end Go.Ab
end
section
open Go.Proofs
namespace Go.Ab.T
set_option maxRecDepth 100000
variable [Inhabited Lb]
noncomputable def I120:Info:= { body:=(Tryz.f120.body).getD .skip,nt:=15,results:=[.tmp 6],keep:=[0,2,4,12],live:=[],modes:=[(1,[(3,.take,false)])] }
theorem vCr:FnOk Tryz.prog 120 Tryz.f120 I120:=by refine⟨Tryz.func120,?_,?_,?_,?_⟩<;>kernel_rfl
def xY6(a0 a1 a2):rE I120 (xHa a0 a1 a2) [Y] []=dn (xEX (dc (a0≤a2))) [iY (dc (a0≥a1))]:=by kernel_rfl
def xY7(a0 a1 a2):rE I120 (xHa a0 a1 a2) [F] []=dn (xEX false) [iN (dc (a0≥a1))]:=by kernel_rfl
theorem vHI{N:Nat}:∀a0 a1 a2 r,xKC N a0 a1 a2=some r→RE Tryz.f120 I120 (xHa a0 a1 a2) (xEX r):=fun a0 a1 a2 r h=>cE h (fun h0 h=>dE h vCr (xY6 a0 a1 a2) (oc h0 on)) fun h0 h=>dE h vCr (xY7 a0 a1 a2) (oc h0 on)
theorem xKT{N:Nat}{a0:Int}{a1:Int}{a2:Int}{r:Bool}(h:xKC N  a0 a1 a2=some r):AbC 120 (xHa a0 a1 a2) (xEX r):=
 AbsCalls.of_reach vCr rfl rfl rfl (jL rfl) (vHI a0 a1 a2 r h)
noncomputable def I80:Info:= { body:=(Tryz.f80.body).getD .skip,nt:=5,results:=[.tmp 2],keep:=[0,4],live:=[],modes:=[] }
theorem fk80:FnOk Tryz.prog 80 Tryz.f80 I80:=by refine⟨Tryz.func80,?_,?_,?_,?_⟩<;>kernel_rfl
def vGp(a0 r1):rE I80 (xEv a0) [] [xEX r1]=dn (xCI r1) [AbC 120 (xHa a0 (-1000000000) 1000000000) (xEX r1)]:=by kernel_rfl
theorem vJ4{N:Nat}:∀a0 r,xGL N a0=some r→RE Tryz.f80 I80 (xEv a0) (xCI r):=fun a0 r h=>bE h fun r1 h0 h=>dE h fk80 (vGp a0 r1) (oc (xKT h0) on)
theorem xGy{N:Nat}{a0:Int}{r:Bool}(h:xGL N  a0=some r):AbC 80 (xEv a0) (xCI r):=
 AbsCalls.of_reach fk80 rfl rfl rfl (jL rfl) (vJ4 a0 r h)
noncomputable def I117:Info:= { body:=(Tryz.f117.body).getD .skip,nt:=29,results:=[.tmp 2],keep:=[0,4,6,14,50],live:=[(2,[0,6])],modes:=[(4,[(4,.take,false),(10,.take,false)])] }
theorem xTY:FnOk Tryz.prog 117 Tryz.f117 I117:=by refine⟨Tryz.func117,?_,?_,?_,?_⟩<;>kernel_rfl
def xN9(x0:Str)(x3:Int):St:=[(0,.v false [.str x0]),(6,.v false [.int .i64 x3])]
abbrev xGE(v0:Int)(v1:Str):Prop:=iY (dc (v0<(Ln v1:Int)))
abbrev xCb(v0:Int)(v1:Str):Prop:=(0:Int)≤v0∧v0<(Ln v1)
abbrev xUd(v0:Str)(v1:Int):=dc ((((gD v0 (tN v1) 0).toNat:Int):Int)<32)
def xYz(x0 x3):rS 2 I117 (xN9 x0 x3) [Y,Y,Y,Y] []=dn (xDG false) [xGE x3 x0,xCb x3 x0,iY (xUd x0 x3),iY true,iY true]:=by kernel_rfl
abbrev xQx(v0:Str)(v1:Int):Prop:=iN (xUd v0 v1)
abbrev xUe(v0:Str)(v1:Int):=dc ((((gD v0 (tN v1) 0).toNat:Int):Int)>126)
def xYA(x0 x3):rS 2 I117 (xN9 x0 x3) [Y,F,Y,Y] []=dn (xDG false) [xGE x3 x0,xCb x3 x0,xQx x0 x3,xCb x3 x0,iY (xUe x0 x3),iY true]:=by kernel_rfl
abbrev xUN(v0:Str)(v1:Int):Prop:=iN (xUe v0 v1)
abbrev xRd(v0:Str)(v1:Int):=(((gD v0 (tN v1) 0).toNat:Int):Int)==34
def xYB(x0 x3):rS 2 I117 (xN9 x0 x3) [Y,F,F,Y] []=dn (xDG false) [xGE x3 x0,xCb x3 x0,xQx x0 x3,xCb x3 x0,xUN x0 x3,xCb x3 x0,iY (xRd x0 x3)]:=by kernel_rfl
def xYC(x0 x3):rS 2 I117 (xN9 x0 x3) [Y,F,F,F] []=st 2 I117 (xN9 x0 (W (x3+1))) [xGE x3 x0,xCb x3 x0,xQx x0 x3,xCb x3 x0,xUN x0 x3,xCb x3 x0,iN (xRd x0 x3)]:=by kernel_rfl
def xYD(x0 x3):rS 2 I117 (xN9 x0 x3) [F] []=dn (xDG (dc ((Ln x0:Int)≤20))) [iN (dc (x3<(Ln x0:Int)))]:=by kernel_rfl
def xYE(a0):rE I117 (xHj a0) [] []=st 2 I117 (xN9 a0 0) []:=by kernel_rfl
theorem vHB{N:Nat}:∀n x0 x3 r,xD1 N n x0 x3=some r→RS Tryz.f117 I117 2 (xN9 x0 x3) (xDG r):=by
 intro n
 induction n with
 |zero=>exact fun _ _ _ h=>nE h
 |succ n ih=>
  exact fun x0 x3 r h=>cE h (fun h0 h=>iE h fun h1 h=>cE h (fun h2 h=>dS h xTY (xYz x0 x3) (oc5 h0 h1 h2 rfl rfl on)) fun h2 h=>cE h (fun h4 h=>dS h xTY (xYA x0 x3) (oc6 h0 h1 h2 h1 h4 rfl on)) fun h4 h=>cE h (fun h6 h=>dS h xTY (xYB x0 x3) (oc7 h0 h1 h2 h1 h4 h1 h6 on)) fun h6 h=>tS xTY (xYC x0 x3) (oc7 h0 h1 h2 h1 h4 h1 h6 on) (ih _ _ _ h)) fun h0 h=>dS h xTY (xYD x0 x3) (oc h0 on)
theorem vHC{N:Nat}:∀a0 r,xIy N a0=some r→RE Tryz.f117 I117 (xHj a0) (xDG r):=fun a0 r h=>tE xTY (xYE a0) on (vHB _ _ _ _ h)
theorem xM2{N:Nat}{a0:Str}{r:Bool}(h:xIy N  a0=some r):AbC 117 (xHj a0) (xDG r):=
 AbsCalls.of_reach xTY rfl rfl rfl (jL rfl) (vHC a0 r h)
noncomputable def I158:Info:= { body:=(Tryz.f158.body).getD .skip,nt:=16,results:=[.tmp 2],keep:=[0,2,4,3],live:=[],modes:=[(1,[(3,.take,false),(8,.take,false)])] }
theorem xXy:FnOk Tryz.prog 158 Tryz.f158 I158:=by refine⟨Tryz.func158,?_,?_,?_,?_⟩<;>kernel_rfl
abbrev xOi(v0:Val):Prop:=iY (v0.kind==1)
def xZy(a0):rE I158 (xEG a0) [Y,Y] []=dn (xDv true) [xOi a0,iY true]:=by kernel_rfl
abbrev xDX(v0:Val):Prop:=iN (v0.kind==1)
abbrev xNm(v0:Val):Prop:=iY (v0.kind==2)
def xZz(a0):rE I158 (xEG a0) [F,Y] []=dn (xDv true) [xDX a0,xNm a0]:=by kernel_rfl
abbrev xEP(v0:Val):Prop:=iN (v0.kind==2)
def xZA(a0):rE I158 (xEG a0) [F,F] []=dn (xDv (a0.kind==3)) [xDX a0,xEP a0]:=by kernel_rfl
theorem vHY{N:Nat}:∀a0 r,xJB N a0=some r→RE Tryz.f158 I158 (xEG a0) (xDv r):=fun a0 r h=>cE h (fun h0 h=>dE h xXy (xZy a0) (oc2 h0 rfl on)) fun h0 h=>cE h (fun h1 h=>dE h xXy (xZz a0) (oc2 h0 h1 on)) fun h1 h=>dE h xXy (xZA a0) (oc2 h0 h1 on)
theorem xJs{N:Nat}{a0:Val}{r:Bool}(h:xJB N  a0=some r):AbC 158 (xEG a0) (xDv r):=
 AbsCalls.of_reach xXy rfl rfl rfl (jL rfl) (vHY a0 r h)
noncomputable def I173:Info:= { body:=(Tryz.f173.body).getD .skip,nt:=10,results:=[.tmp 4],keep:=[0,2,8,14],live:=[],modes:=[] }
theorem vCu:FnOk Tryz.prog 173 Tryz.f173 I173:=by refine⟨Tryz.func173,?_,?_,?_,?_⟩<;>kernel_rfl
def xZ0(a0 a1):rE I173 (xI6 a0 a1) [Y] []=dn (xIb a0) [iY (dc (a0>a1))]:=by kernel_rfl
def xZ1(a0 a1):rE I173 (xI6 a0 a1) [F] []=dn (xIb a1) [iN (dc (a0>a1))]:=by kernel_rfl
theorem vIa{N:Nat}:∀a0 a1 r,xLp N a0 a1=some r→RE Tryz.f173 I173 (xI6 a0 a1) (xIb r):=fun a0 a1 r h=>cE h (fun h0 h=>dE h vCu (xZ0 a0 a1) (oc h0 on)) fun h0 h=>dE h vCu (xZ1 a0 a1) (oc h0 on)
theorem xSp{N:Nat}{a0:Int}{a1:Int}{r:Int}(h:xLp N  a0 a1=some r):AbC 173 (xI6 a0 a1) (xIb r):=
 AbsCalls.of_reach vCu rfl rfl rfl (jL rfl) (vIa a0 a1 r h)
def G159(q:Val→Option (Int)):Prop:=∀a0 r,q a0=some r→AbC 159 (xGj a0) (xEn r)
noncomputable def I159:Info:= { body:=(Tryz.f159.body).getD .skip,nt:=22,results:=[.tmp 2],keep:=[0,2,4,6,8,18,3],live:=[(3,[2,6,8,3])],modes:=[] }
theorem xXz:FnOk Tryz.prog 159 Tryz.f159 I159:=by refine⟨Tryz.func159,?_,?_,?_,?_⟩<;>kernel_rfl
def xSB(x3 x4:Int)(b1:Val):St:=[(2,.v false [.ptr 1 0]),(6,.v false [.int .i64 x3]),(8,.v false [.int .i64 x4]),(3,.v true (Va .ro b1))]
abbrev xKq(v0:Val):=(Ln v0.list:Int)
abbrev xPe(v0:Int)(v1:Val):Prop:=iY (dc (v0<(xKq v1)))
abbrev xMd(v0:Int)(v1:Val):Prop:=(0:Int)≤v0∧v0<(Ln v1.list)
abbrev xKr(v0:Val)(v1:Int):=gD v0.list (tN v1) vd
def xZB(x3 x4 b1 r1 r2):rS 3 I159 (xSB x3 x4 b1) [Y] [xEn r1,xIb r2]=st 3 I159 (xSB r2 (W (x4+1)) b1) [xPe x4 b1,xMd x4 b1,AbC 159 (xGj (xKr b1 x4)) (xEn r1),AbC 173 (xI6 x3 r1) (xIb r2)]:=by kernel_rfl
abbrev xSR(v0:Int)(v1:Val):Prop:=iN (dc (v0<(xKq v1)))
def xZC(x3 x4 b1):rS 3 I159 (xSB x3 x4 b1) [F] []=dn (xEn (W (x3+1))) [xSR x4 b1]:=by kernel_rfl
def xZD(a0):rE I159 (xGj a0) [] []=st 3 I159 (xSB 0 0 a0) []:=by kernel_rfl
theorem vHZ{N q0}(g0:G159 q0):∀n x3 x4 b1 r,xGY N q0 n x3 x4 b1=some r→RS Tryz.f159 I159 3 (xSB x3 x4 b1) (xEn r):=by
 intro n
 induction n with
 |zero=>exact fun _ _ _ _ h=>nE h
 |succ n ih=>
  exact fun x3 x4 b1 r h=>cE h (fun h0 h=>iE h fun h1 h=>bE h fun r1 h2 h=>bE h fun r2 h3 h=>tS xXz (xZB x3 x4 b1 r1 r2) (oc4 h0 h1 (g0 _ _ h2) (xSp h3) on) (ih _ _ _ _ h)) fun h0 h=>dS h xXz (xZC x3 x4 b1) (oc h0 on)
theorem vH0{N q0}(g0:G159 q0):∀a0 r,xJq N q0 a0=some r→RE Tryz.f159 I159 (xGj a0) (xEn r):=fun a0 r h=>tE xXz (xZD a0) on (vHZ g0 _ _ _ _ _ h)
theorem xMC{N q0}(g0:G159 q0){a0}{r}(h:xJq N q0 a0=some r):AbC 159 (xGj a0) (xEn r):=
 AbsCalls.of_reach xXz rfl rfl rfl (jL rfl) (vH0 g0 a0 r h)
theorem xKz{N:Nat}:∀d,G159 (xFK N d)
 |0=>fun _ _ h=>nE h
 |d+1=>fun _ _ h=>xMC (N:=N) (xKz d) h
theorem xPu{N:Nat}{a0:Val}{r:Int}(h:xJR N a0=some r):AbC 159 (xGj a0) (xEn r):=xKz N _ r h
noncomputable def I187:Info:= { body:=(Tryz.f187.body).getD .skip,nt:=45,results:=[.tmp 2],keep:=[0,4,6,8,10,18,82],live:=[(2,[0,6])],modes:=[(4,[(4,.take,false)]),(5,[(4,.take,false)]),(6,[(0,.take,false),(2,.take,false),(5,.take,false),(6,.take,false)])] }
theorem xMO:FnOk Tryz.prog 187 Tryz.f187 I187:=by refine⟨Tryz.func187,?_,?_,?_,?_⟩<;>kernel_rfl
def xIU(x0:Str)(x3:Int):St:=[(0,.v false [.str x0]),(6,.v false [.int .i64 x3])]
abbrev xNU(v0:Str)(v1:Int):=(((gD v0 (tN v1) 0).toNat:Int):Int)
abbrev xLR(v0:Str)(v1:Int):Prop:=iY (dc ((xNU v0 v1)≥97))
abbrev xPg(v0:Str)(v1:Int):Prop:=iY (dc ((xNU v0 v1)≥48))
abbrev xNn(v0:Str)(v1:Int):Prop:=iY (!(dc ((xNU v0 v1)≤122)))
def vAn(x0 x3):rS 2 I187 (xIU x0 x3) [Y,Y,Y,Y,Y,Y] []=dn (xCr false) [xGE x3 x0,xCb x3 x0,xLR x0 x3,xCb x3 x0,xCb x3 x0,xPg x0 x3,xCb x3 x0,xNn x0 x3,iY (x3==0),iY true]:=by kernel_rfl
abbrev xRe(v0:Str)(v1:Int):=dc ((((gD v0 (tN v1) 0).toNat:Int):Int)≤57)
def vAo(x0 x3):rS 2 I187 (xIU x0 x3) [Y,Y,Y,Y,F,Y] []=dn (xCr false) [xGE x3 x0,xCb x3 x0,xLR x0 x3,xCb x3 x0,xCb x3 x0,xPg x0 x3,xCb x3 x0,xNn x0 x3,xKN x3,iY (!(xRe x0 x3))]:=by kernel_rfl
def vAp(x0 x3):rS 2 I187 (xIU x0 x3) [Y,Y,Y,Y,F,F] []=st 2 I187 (xIU x0 (W (x3+1))) [xGE x3 x0,xCb x3 x0,xLR x0 x3,xCb x3 x0,xCb x3 x0,xPg x0 x3,xCb x3 x0,xNn x0 x3,xKN x3,iN (!(xRe x0 x3))]:=by kernel_rfl
abbrev xWy(v0:Str)(v1:Int):Prop:=iN (!(dc ((xNU v0 v1)≤122)))
def vAq(x0 x3):rS 2 I187 (xIU x0 x3) [Y,Y,Y,F,F] []=st 2 I187 (xIU x0 (W (x3+1))) [xGE x3 x0,xCb x3 x0,xLR x0 x3,xCb x3 x0,xCb x3 x0,xPg x0 x3,xCb x3 x0,xWy x0 x3,iN false]:=by kernel_rfl
abbrev xSS(v0:Str)(v1:Int):Prop:=iN (dc ((xNU v0 v1)≥48))
def vAr(x0 x3):rS 2 I187 (xIU x0 x3) [Y,Y,F,Y,Y,Y] []=dn (xCr false) [xGE x3 x0,xCb x3 x0,xLR x0 x3,xCb x3 x0,xCb x3 x0,xSS x0 x3,xNn x0 x3,iY (x3==0),iY true]:=by kernel_rfl
def vAs(x0 x3):rS 2 I187 (xIU x0 x3) [Y,Y,F,Y,F,Y] []=dn (xCr false) [xGE x3 x0,xCb x3 x0,xLR x0 x3,xCb x3 x0,xCb x3 x0,xSS x0 x3,xNn x0 x3,xKN x3,iY (!false)]:=by kernel_rfl
def vAt(x0 x3):rS 2 I187 (xIU x0 x3) [Y,Y,F,F,F] []=st 2 I187 (xIU x0 (W (x3+1))) [xGE x3 x0,xCb x3 x0,xLR x0 x3,xCb x3 x0,xCb x3 x0,xSS x0 x3,xWy x0 x3,iN false]:=by kernel_rfl
abbrev xNo(v0:Str)(v1:Int):Prop:=iN (dc ((xNU v0 v1)≥97))
def vAu(x0 x3):rS 2 I187 (xIU x0 x3) [Y,F,Y,Y,Y,Y] []=dn (xCr false) [xGE x3 x0,xCb x3 x0,xNo x0 x3,xCb x3 x0,xPg x0 x3,xCb x3 x0,iY (!false),iY (x3==0),iY true]:=by kernel_rfl
def vAv(x0 x3):rS 2 I187 (xIU x0 x3) [Y,F,Y,Y,F,Y] []=dn (xCr false) [xGE x3 x0,xCb x3 x0,xNo x0 x3,xCb x3 x0,xPg x0 x3,xCb x3 x0,iY (!false),xKN x3,iY (!(xRe x0 x3))]:=by kernel_rfl
def vAw(x0 x3):rS 2 I187 (xIU x0 x3) [Y,F,Y,Y,F,F] []=st 2 I187 (xIU x0 (W (x3+1))) [xGE x3 x0,xCb x3 x0,xNo x0 x3,xCb x3 x0,xPg x0 x3,xCb x3 x0,iY (!false),xKN x3,iN (!(xRe x0 x3))]:=by kernel_rfl
def xWW(x0 x3):rS 2 I187 (xIU x0 x3) [Y,F,F,Y,Y,Y] []=dn (xCr false) [xGE x3 x0,xCb x3 x0,xNo x0 x3,xCb x3 x0,xSS x0 x3,iY (!false),iY (x3==0),iY true]:=by kernel_rfl
def xWX(x0 x3):rS 2 I187 (xIU x0 x3) [Y,F,F,Y,F,Y] []=dn (xCr false) [xGE x3 x0,xCb x3 x0,xNo x0 x3,xCb x3 x0,xSS x0 x3,iY (!false),xKN x3,iY (!false)]:=by kernel_rfl
def xWY(x0 x3):rS 2 I187 (xIU x0 x3) [F] []=dn (xCr (dc ((Ln x0:Int)>0))) [iN (dc (x3<(Ln x0:Int)))]:=by kernel_rfl
def xWZ(a0):rE I187 (xG0 a0) [] []=st 2 I187 (xIU a0 0) []:=by kernel_rfl
theorem vIf{N:Nat}:∀n x0 x3 r,xEr N n x0 x3=some r→RS Tryz.f187 I187 2 (xIU x0 x3) (xCr r):=by
 intro n
 induction n with
 |zero=>exact fun _ _ _ h=>nE h
 |succ n ih=>
  exact fun x0 x3 r h=>cE h (fun h0 h=>iE h fun h1 h=>cE h (fun h2 h=>cE h (fun h5 h=>cE h (fun h7 h=>cE h (fun h8 h=>dS h xMO (vAn x0 x3) (oc10 h0 h1 h2 h1 h1 h5 h1 h7 h8 rfl on)) fun h8 h=>cE h (fun h9 h=>dS h xMO (vAo x0 x3) (oc10 h0 h1 h2 h1 h1 h5 h1 h7 h8 h9 on)) fun h9 h=>tS xMO (vAp x0 x3) (oc10 h0 h1 h2 h1 h1 h5 h1 h7 h8 h9 on) (ih _ _ _ h)) fun h7 h=>tS xMO (vAq x0 x3) (oc9 h0 h1 h2 h1 h1 h5 h1 h7 rfl on) (ih _ _ _ h)) fun h5 h=>cE h (fun h6 h=>cE h (fun h7 h=>dS h xMO (vAr x0 x3) (oc9 h0 h1 h2 h1 h1 h5 h6 h7 rfl on)) fun h7 h=>dS h xMO (vAs x0 x3) (oc9 h0 h1 h2 h1 h1 h5 h6 h7 rfl on)) fun h6 h=>tS xMO (vAt x0 x3) (oc8 h0 h1 h2 h1 h1 h5 h6 rfl on) (ih _ _ _ h)) fun h2 h=>cE h (fun h4 h=>cE h (fun h7 h=>dS h xMO (vAu x0 x3) (oc9 h0 h1 h2 h1 h4 h1 rfl h7 rfl on)) fun h7 h=>cE h (fun h8 h=>dS h xMO (vAv x0 x3) (oc9 h0 h1 h2 h1 h4 h1 rfl h7 h8 on)) fun h8 h=>tS xMO (vAw x0 x3) (oc9 h0 h1 h2 h1 h4 h1 rfl h7 h8 on) (ih _ _ _ h)) fun h4 h=>cE h (fun h6 h=>dS h xMO (xWW x0 x3) (oc8 h0 h1 h2 h1 h4 rfl h6 rfl on)) fun h6 h=>dS h xMO (xWX x0 x3) (oc8 h0 h1 h2 h1 h4 rfl h6 rfl on)) fun h0 h=>dS h xMO (xWY x0 x3) (oc h0 on)
theorem vIg{N:Nat}:∀a0 r,xKU N a0=some r→RE Tryz.f187 I187 (xG0 a0) (xCr r):=fun a0 r h=>tE xMO (xWZ a0) on (vIf _ _ _ _ h)
theorem xKE{N:Nat}{a0:Str}{r:Bool}(h:xKU N  a0=some r):AbC 187 (xG0 a0) (xCr r):=
 AbsCalls.of_reach xMO rfl rfl rfl (jL rfl) (vIg a0 r h)
noncomputable def I196:Info:= { body:=(Tryz.f196.body).getD .skip,nt:=2,results:=[.tmp 0],keep:=[0],live:=[],modes:=[] }
theorem vIv:FnOk Tryz.prog 196 Tryz.f196 I196:=by refine⟨Tryz.func196,?_,?_,?_,?_⟩<;>kernel_rfl
def vAI:rE I196 (xHR ) [] []=dn (xGJ [[108,101,116],[105,110],[105,102],[116,104,101,110],[101,108,115,101],[102,111,114],[100,111],[108,101,110],[115,117,109],[116,97,107,101],[115,107,105,112],[114,97,110,103,101],[110,116,104],[119,104,101,114,101],[107,101,101,112],[97,100,100],[103,114,111,117,112],[106,111,105,110],[99,111,108,117,109,110],[114,111,119,115],[99,108,111,99,107],[99,104,97,110,99,101],[102,105,108,101],[116,97,98,108,101]]) []:=by kernel_rfl
theorem vIj{N:Nat}:∀r,xI9 N=some r→RE Tryz.f196 I196 (xHR ) (xGJ r):=fun r h=>dE h vIv (vAI) on
theorem xNy{N:Nat}{r:(List Str)}(h:xI9 N   =some r):AbC 196 (xHR ) (xGJ r):=
 AbsCalls.of_reach vIv rfl rfl rfl (jL rfl) (vIj  r h)
noncomputable def I86:Info:= { body:=(Tryz.f86.body).getD .skip,nt:=18,results:=[.tmp 4],keep:=[0,2,8,10,18,34],live:=[(2,[0,2,10])],modes:=[] }
theorem fk86:FnOk Tryz.prog 86 Tryz.f86 I86:=by refine⟨Tryz.func86,?_,?_,?_,?_⟩<;>kernel_rfl
def xVa(x0:List Str)(x1:Str)(x5:Int):St:=[(0,.v false [.sl .ro .str x0]),(2,.v false [.str x1]),(10,.v false [.int .i64 x5])]
abbrev xMH(v0:Int)(v1:List Str):Prop:=iY (dc (v0<(Ln v1:Int)))
abbrev xIO(v0:Int)(v1:List Str):Prop:=(0:Int)≤v0∧v0<(Ln v1)
abbrev xNV(v0:List Str)(v1:Int)(v2:Str):=((gD v0 (tN v1) Ty.str.dflt):Str)==v2
def vGw(x0 x1 x5):rS 2 I86 (xVa x0 x1 x5) [Y,Y] []=dn (xES true) [xMH x5 x0,xIO x5 x0,iY (xNV x0 x5 x1)]:=by kernel_rfl
def vGx(x0 x1 x5):rS 2 I86 (xVa x0 x1 x5) [Y,F] []=st 2 I86 (xVa x0 x1 (W (x5+1))) [xMH x5 x0,xIO x5 x0,iN (xNV x0 x5 x1)]:=by kernel_rfl
abbrev xQy(v0:Int)(v1:List Str):Prop:=iN (dc (v0<(Ln v1:Int)))
def vGy(x0 x1 x5):rS 2 I86 (xVa x0 x1 x5) [F] []=dn (xES false) [xQy x5 x0]:=by kernel_rfl
def vGz(a0 a1):rE I86 (xIa a0 a1) [] []=st 2 I86 (xVa a0 a1 0) []:=by kernel_rfl
theorem vJ8{N:Nat}:∀n x0 x1 x5 r,xHn N n x0 x1 x5=some r→RS Tryz.f86 I86 2 (xVa x0 x1 x5) (xES r):=by
 intro n
 induction n with
 |zero=>exact fun _ _ _ _ h=>nE h
 |succ n ih=>
  exact fun x0 x1 x5 r h=>cE h (fun h0 h=>iE h fun h1 h=>cE h (fun h2 h=>dS h fk86 (vGw x0 x1 x5) (oc3 h0 h1 h2 on)) fun h2 h=>tS fk86 (vGx x0 x1 x5) (oc3 h0 h1 h2 on) (ih _ _ _ _ h)) fun h0 h=>dS h fk86 (vGy x0 x1 x5) (oc h0 on)
theorem vJ9{N:Nat}:∀a0 a1 r,xLo N a0 a1=some r→RE Tryz.f86 I86 (xIa a0 a1) (xES r):=fun a0 a1 r h=>tE fk86 (vGz a0 a1) on (vJ8 _ _ _ _ _ h)
theorem xLI{N:Nat}{a0:List Str}{a1:Str}{r:Bool}(h:xLo N  a0 a1=some r):AbC 86 (xIa a0 a1) (xES r):=
 AbsCalls.of_reach fk86 rfl rfl rfl (jL rfl) (vJ9 a0 a1 r h)
noncomputable def I188:Info:= { body:=(Tryz.f188.body).getD .skip,nt:=6,results:=[.tmp 2],keep:=[0,4],live:=[],modes:=[] }
theorem vIu:FnOk Tryz.prog 188 Tryz.f188 I188:=by refine⟨Tryz.func188,?_,?_,?_,?_⟩<;>kernel_rfl
def vAx(a0 r1 r2):rE I188 (xHQ a0) [] [xGJ r1,xES r2]=dn (xGH r2) [AbC 196 xHR (xGJ r1),AbC 86 (xIa r1 a0) (xES r2)]:=by kernel_rfl
theorem vIh{N:Nat}:∀a0 r,xHZ N a0=some r→RE Tryz.f188 I188 (xHQ a0) (xGH r):=fun a0 r h=>bE h fun r1 h0 h=>bE h fun r2 h1 h=>dE h vIu (vAx a0 r1 r2) (oc2 (xNy h0) (xLI h1) on)
theorem xNw{N:Nat}{a0:Str}{r:Bool}(h:xHZ N  a0=some r):AbC 188 (xHQ a0) (xGH r):=
 AbsCalls.of_reach vIu rfl rfl rfl (jL rfl) (vIh a0 r h)
noncomputable def I174:Info:= { body:=(Tryz.f174.body).getD .skip,nt:=15,results:=[.tmp 2],keep:=[0,4],live:=[],modes:=[(1,[(2,.take,false),(7,.take,false)])] }
theorem xXA:FnOk Tryz.prog 174 Tryz.f174 I174:=by refine⟨Tryz.func174,?_,?_,?_,?_⟩<;>kernel_rfl
def xZ2(a0 r1 r2):rE I174 (xEA a0) [Y,Y] [xCr r1,xGH r2]=dn (xDF (!r2)) [AbC 187 (xG0 a0) (xCr r1),iY r1,iY (dc ((Ln a0:Int)≤8)),AbC 188 (xHQ a0) (xGH r2)]:=by kernel_rfl
def xZ3(a0 r1):rE I174 (xEA a0) [Y,F] [xCr r1]=dn (xDF false) [AbC 187 (xG0 a0) (xCr r1),iY r1,iN (dc ((Ln a0:Int)≤8))]:=by kernel_rfl
def xZ4(a0 r1):rE I174 (xEA a0) [F,F] [xCr r1]=dn (xDF false) [AbC 187 (xG0 a0) (xCr r1),iN r1,iN false]:=by kernel_rfl
theorem vIb{N:Nat}:∀a0 r,xHw N a0=some r→RE Tryz.f174 I174 (xEA a0) (xDF r):=fun a0 r h=>bE h fun r1 h0 h=>cE h (fun h1 h=>cE h (fun h2 h=>bE h fun r2 h3 h=>dE h xXA (xZ2 a0 r1 r2) (oc4 (xKE h0) h1 h2 (xNw h3) on)) fun h2 h=>dE h xXA (xZ3 a0 r1) (oc3 (xKE h0) h1 h2 on)) fun h1 h=>dE h xXA (xZ4 a0 r1) (oc3 (xKE h0) h1 rfl on)
theorem xKA{N:Nat}{a0:Str}{r:Bool}(h:xHw N  a0=some r):AbC 174 (xEA a0) (xDF r):=
 AbsCalls.of_reach xXA rfl rfl rfl (jL rfl) (vIb a0 r h)
noncomputable def I37:Info:= { body:=(Tryz.f37.body).getD .skip,nt:=18,results:=[.tmp 2],keep:=[0,4,6,14,34],live:=[(2,[0,6])],modes:=[] }
theorem fk37:FnOk Tryz.prog 37 Tryz.f37 I37:=by refine⟨Tryz.func37,?_,?_,?_,?_⟩<;>kernel_rfl
def xU2(x0:List Str)(x3:Int):St:=[(0,.v false [.sl .ro .str x0]),(6,.v false [.int .i64 x3])]
abbrev xKs(v0:List Str)(v1:Int):=gD v0 (tN v1) Ty.str.dflt
def vDk(x0 x3 r1):rS 2 I37 (xU2 x0 x3) [Y,Y] [xES r1]=dn (xC7 false) [xMH x3 x0,(0:Int)≤x3∧x3≤(Ln x0),xIO x3 x0,AbC 86 (xIa (List.take (tN x3) x0) (xKs x0 x3)) (xES r1),iY r1]:=by kernel_rfl
def vDl(x0 x3 r1):rS 2 I37 (xU2 x0 x3) [Y,F] [xES r1]=st 2 I37 (xU2 x0 (W (x3+1))) [xMH x3 x0,(0:Int)≤x3∧x3≤(Ln x0),xIO x3 x0,AbC 86 (xIa (List.take (tN x3) x0) (xKs x0 x3)) (xES r1),iN r1]:=by kernel_rfl
def vDm(x0 x3):rS 2 I37 (xU2 x0 x3) [F] []=dn (xC7 true) [xQy x3 x0]:=by kernel_rfl
def vDn(a0):rE I37 (xGi a0) [] []=st 2 I37 (xU2 a0 0) []:=by kernel_rfl
theorem vJm{N:Nat}:∀n x0 x3 r,xEz N n x0 x3=some r→RS Tryz.f37 I37 2 (xU2 x0 x3) (xC7 r):=by
 intro n
 induction n with
 |zero=>exact fun _ _ _ h=>nE h
 |succ n ih=>
  exact fun x0 x3 r h=>cE h (fun h0 h=>iE h fun h1 h=>iE h fun h2 h=>bE h fun r1 h3 h=>cE h (fun h4 h=>dS h fk37 (vDk x0 x3 r1) (oc5 h0 h1 h2 (xLI h3) h4 on)) fun h4 h=>tS fk37 (vDl x0 x3 r1) (oc5 h0 h1 h2 (xLI h3) h4 on) (ih _ _ _ h)) fun h0 h=>dS h fk37 (vDm x0 x3) (oc h0 on)
theorem vJn{N:Nat}:∀a0 r,xHv N a0=some r→RE Tryz.f37 I37 (xGi a0) (xC7 r):=fun a0 r h=>tE fk37 (vDn a0) on (vJm _ _ _ _ h)
theorem xHh{N:Nat}{a0:List Str}{r:Bool}(h:xHv N  a0=some r):AbC 37 (xGi a0) (xC7 r):=
 AbsCalls.of_reach fk37 rfl rfl rfl (jL rfl) (vJn a0 r h)
noncomputable def I160:Info:= { body:=(Tryz.f160.body).getD .skip,nt:=23,results:=[.tmp 2],keep:=[0,4,6,14,30],live:=[(2,[0,6])],modes:=[(6,[(3,.take,false)])] }
theorem xVy:FnOk Tryz.prog 160 Tryz.f160 I160:=by refine⟨Tryz.func160,?_,?_,?_,?_⟩<;>kernel_rfl
def xOK(x0:List Str)(x3:Int):St:=[(0,.v false [.sl .ro .str x0]),(6,.v false [.int .i64 x3])]
def xZE(x0 x3 r1):rS 2 I160 (xOK x0 x3) [Y,Y] [xDF r1]=dn (xDg false) [xMH x3 x0,xIO x3 x0,AbC 174 (xEA (xKs x0 x3)) (xDF r1),iY (!r1)]:=by kernel_rfl
def xZF(x0 x3 r1):rS 2 I160 (xOK x0 x3) [Y,F] [xDF r1]=st 2 I160 (xOK x0 (W (x3+1))) [xMH x3 x0,xIO x3 x0,AbC 174 (xEA (xKs x0 x3)) (xDF r1),xBT r1]:=by kernel_rfl
def xZG(x0 x3 r1 r2):rS 2 I160 (xOK x0 x3) [F,Y] [xEX r1,xC7 r2]=dn (xDg r2) [xQy x3 x0,AbC 120 (xHa (Ln x0:Int) 1 4) (xEX r1),iY r1,AbC 37 (xGi x0) (xC7 r2)]:=by kernel_rfl
def xZH(x0 x3 r1):rS 2 I160 (xOK x0 x3) [F,F] [xEX r1]=dn (xDg false) [xQy x3 x0,AbC 120 (xHa (Ln x0:Int) 1 4) (xEX r1),iN r1]:=by kernel_rfl
def xZI(a0):rE I160 (xF2 a0) [] []=st 2 I160 (xOK a0 0) []:=by kernel_rfl
theorem vH1{N:Nat}:∀n x0 x3 r,xF3 N n x0 x3=some r→RS Tryz.f160 I160 2 (xOK x0 x3) (xDg r):=by
 intro n
 induction n with
 |zero=>exact fun _ _ _ h=>nE h
 |succ n ih=>
  exact fun x0 x3 r h=>cE h (fun h0 h=>iE h fun h1 h=>bE h fun r1 h2 h=>cE h (fun h3 h=>dS h xVy (xZE x0 x3 r1) (oc4 h0 h1 (xKA h2) h3 on)) fun h3 h=>tS xVy (xZF x0 x3 r1) (oc4 h0 h1 (xKA h2) h3 on) (ih _ _ _ h)) fun h0 h=>bE h fun r1 h1 h=>cE h (fun h2 h=>bE h fun r2 h3 h=>dS h xVy (xZG x0 x3 r1 r2) (oc4 h0 (xKT h1) h2 (xHh h3) on)) fun h2 h=>dS h xVy (xZH x0 x3 r1) (oc3 h0 (xKT h1) h2 on)
theorem vH2{N:Nat}:∀a0 r,xJA N a0=some r→RE Tryz.f160 I160 (xF2 a0) (xDg r):=fun a0 r h=>tE xVy (xZI a0) on (vH1 _ _ _ _ h)
theorem xJr{N:Nat}{a0:List Str}{r:Bool}(h:xJA N  a0=some r):AbC 160 (xF2 a0) (xDg r):=
 AbsCalls.of_reach xVy rfl rfl rfl (jL rfl) (vH2 a0 r h)
noncomputable def I126:Info:= { body:=(Tryz.f126.body).getD .skip,nt:=24,results:=[.tmp 4],keep:=[0,2,4,6,8,5,7],live:=[],modes:=[(1,[(5,.take,false),(11,.take,false)])] }
theorem xXu:FnOk Tryz.prog 126 Tryz.f126 I126:=by refine⟨Tryz.func126,?_,?_,?_,?_⟩<;>kernel_rfl
def xZc(a0 a1):rE I126 (xEY a0 a1) [Y] []=dn (xB9 true) [iY (dc (a0.cell<a1.cell))]:=by kernel_rfl
def xZd(a0 a1):rE I126 (xEY a0 a1) [F,Y] []=dn (xB9 (dc (a0.row<a1.row))) [iN (dc (a0.cell<a1.cell)),iY (a0.cell==a1.cell)]:=by kernel_rfl
def xZe(a0 a1):rE I126 (xEY a0 a1) [F,F] []=dn (xB9 false) [iN (dc (a0.cell<a1.cell)),iN (a0.cell==a1.cell)]:=by kernel_rfl
theorem vHL{N:Nat}:∀a0 a1 r,xGK N a0 a1=some r→RE Tryz.f126 I126 (xEY a0 a1) (xB9 r):=fun a0 a1 r h=>cE h (fun h0 h=>dE h xXu (xZc a0 a1) (oc h0 on)) fun h0 h=>cE h (fun h1 h=>dE h xXu (xZd a0 a1) (oc2 h0 h1 on)) fun h1 h=>dE h xXu (xZe a0 a1) (oc2 h0 h1 on)
theorem xD6{N:Nat}{a0:Org}{a1:Org}{r:Bool}(h:xGK N  a0 a1=some r):AbC 126 (xEY a0 a1) (xB9 r):=
 AbsCalls.of_reach xXu rfl rfl rfl (jL rfl) (vHL a0 a1 r h)
noncomputable def I161:Info:= { body:=(Tryz.f161.body).getD .skip,nt:=41,results:=[.tmp 2],keep:=[0,4,6,14,80],live:=[(2,[0,6])],modes:=[(4,[(6,.take,false),(14,.take,false),(17,.take,false)])] }
theorem xSI:FnOk Tryz.prog 161 Tryz.f161 I161:=by refine⟨Tryz.func161,?_,?_,?_,?_⟩<;>kernel_rfl
def xMD(x0:List Org)(x3:Int):St:=[(0,.v false [.sl .ro .org x0]),(6,.v false [.int .i64 x3])]
abbrev xHO(v0:Int)(v1:List Org):Prop:=iY (dc (v0<(Ln v1:Int)))
abbrev xUf(v0:List Org)(v1:Int):=dc (((Org.cell (gD v0 (tN v1) Ty.org.dflt)):Int)<0)
def xZJ(x0 x3):rS 2 I161 (xMD x0 x3) [Y,Y,Y,Y] []=dn (xC8 false) [xHO x3 x0,xFb x3 x0,iY (xUf x0 x3),iY true,iY true]:=by kernel_rfl
abbrev xOj(v0:List Org)(v1:Int):Prop:=iN (xUf v0 v1)
abbrev xUg(v0:List Org)(v1:Int):=dc (((Org.row (gD v0 (tN v1) Ty.org.dflt)):Int)<0)
def xZK(x0 x3):rS 2 I161 (xMD x0 x3) [Y,F,Y,Y] []=dn (xC8 false) [xHO x3 x0,xFb x3 x0,xOj x0 x3,xFb x3 x0,iY (xUg x0 x3),iY true]:=by kernel_rfl
abbrev xQz(v0:List Org)(v1:Int):Prop:=iN (xUg v0 v1)
def xZL(x0 x3 r1):rS 2 I161 (xMD x0 x3) [Y,F,F,Y,Y] [xB9 r1]=dn (xC8 false) [xHO x3 x0,xFb x3 x0,xOj x0 x3,xFb x3 x0,xQz x0 x3,iY (dc (x3>0)),(0:Int)≤(W (x3 - 1))∧(W (x3 - 1))<(Ln x0),xFb x3 x0,AbC 126 (xEY (gD x0 (tN (W (x3 - 1))) Ty.org.dflt) (xGN x0 x3)) (xB9 r1),iY (!r1)]:=by kernel_rfl
def xZM(x0 x3 r1):rS 2 I161 (xMD x0 x3) [Y,F,F,Y,F] [xB9 r1]=st 2 I161 (xMD x0 (W (x3+1))) [xHO x3 x0,xFb x3 x0,xOj x0 x3,xFb x3 x0,xQz x0 x3,iY (dc (x3>0)),(0:Int)≤(W (x3 - 1))∧(W (x3 - 1))<(Ln x0),xFb x3 x0,AbC 126 (xEY (gD x0 (tN (W (x3 - 1))) Ty.org.dflt) (xGN x0 x3)) (xB9 r1),xBT r1]:=by kernel_rfl
def xZN(x0 x3):rS 2 I161 (xMD x0 x3) [Y,F,F,F,F] []=st 2 I161 (xMD x0 (W (x3+1))) [xHO x3 x0,xFb x3 x0,xOj x0 x3,xFb x3 x0,xQz x0 x3,iN (dc (x3>0)),iN false]:=by kernel_rfl
abbrev xLj(v0:Int)(v1:List Org):Prop:=iN (dc (v0<(Ln v1:Int)))
def xZO(x0 x3):rS 2 I161 (xMD x0 x3) [F] []=dn (xC8 true) [xLj x3 x0]:=by kernel_rfl
def xZP(a0):rE I161 (xGo a0) [] []=st 2 I161 (xMD a0 0) []:=by kernel_rfl
theorem vH3{N:Nat}:∀n x0 x3 r,xD4 N n x0 x3=some r→RS Tryz.f161 I161 2 (xMD x0 x3) (xC8 r):=by
 intro n
 induction n with
 |zero=>exact fun _ _ _ h=>nE h
 |succ n ih=>
  exact fun x0 x3 r h=>cE h (fun h0 h=>iE h fun h1 h=>cE h (fun h2 h=>dS h xSI (xZJ x0 x3) (oc5 h0 h1 h2 rfl rfl on)) fun h2 h=>cE h (fun h4 h=>dS h xSI (xZK x0 x3) (oc6 h0 h1 h2 h1 h4 rfl on)) fun h4 h=>cE h (fun h5 h=>iE h fun h6 h=>bE h fun r1 h8 h=>cE h (fun h9 h=>dS h xSI (xZL x0 x3 r1) (oc10 h0 h1 h2 h1 h4 h5 h6 h1 (xD6 h8) h9 on)) fun h9 h=>tS xSI (xZM x0 x3 r1) (oc10 h0 h1 h2 h1 h4 h5 h6 h1 (xD6 h8) h9 on) (ih _ _ _ h)) fun h5 h=>tS xSI (xZN x0 x3) (oc7 h0 h1 h2 h1 h4 h5 rfl on) (ih _ _ _ h)) fun h0 h=>dS h xSI (xZO x0 x3) (oc h0 on)
theorem vH4{N:Nat}:∀a0 r,xIz N a0=some r→RE Tryz.f161 I161 (xGo a0) (xC8 r):=fun a0 r h=>tE xSI (xZP a0) on (vH3 _ _ _ _ h)
theorem xKF{N:Nat}{a0:List Org}{r:Bool}(h:xIz N  a0=some r):AbC 161 (xGo a0) (xC8 r):=
 AbsCalls.of_reach xSI rfl rfl rfl (jL rfl) (vH4 a0 r h)
noncomputable def I119:Info:= { body:=(Tryz.f119.body).getD .skip,nt:=55,results:=[.tmp 2],keep:=[0,2,4,6,8,10,30,40,80,90,108,3,9],live:=[(4,[2,6,3]),(10,[2,6,8,10,3,9])],modes:=[(1,[(4,.take,false)]),(7,[(7,.take,false)])] }
theorem xOV:FnOk Tryz.prog 119 Tryz.f119 I119:=by refine⟨Tryz.func119,?_,?_,?_,?_⟩<;>kernel_rfl
def xOb(x3:Int)(b1:Val):St:=[(2,.v false [.ptr 1 0]),(6,.v false [.int .i64 x3]),(3,.v true (Va .ro b1))]
def xNE(x3 x5:Int)(b1:Val)(b4:Rowd):St:=[(2,.v false [.ptr 1 0]),(6,.v false [.int .i64 x3]),(8,.v false [.ptr 4 0]),(10,.v false [.int .i64 x5]),(3,.v true (Va .ro b1)),(9,.v true [.sl .ro .int b4.cells,.sl .ro .org b4.frm])]
abbrev xUO(v0:Int)(v1:Rowd):Prop:=(0:Int)≤v0∧v0<(Ln v1.cells)
def xWS(x3 x5 b1 b4 r1):rS 10 I119 (xNE x3 x5 b1 b4) [Y,Y] [xCI r1]=dn (xDw false) [iY (dc (x5<(Ln b4.cells:Int))),xUO x5 b4,AbC 80 (xEv (gD b4.cells (tN x5) Ty.int.dflt)) (xCI r1),iY (!r1)]:=by kernel_rfl
def xWT(x3 x5 b1 b4 r1):rS 10 I119 (xNE x3 x5 b1 b4) [Y,F] [xCI r1]=st 10 I119 (xNE x3 (W (x5+1)) b1 b4) [iY (dc (x5<(Ln b4.cells:Int))),xUO x5 b4,AbC 80 (xEv (gD b4.cells (tN x5) Ty.int.dflt)) (xCI r1),xBT r1]:=by kernel_rfl
def xWU(x3 x5 b1 b4):rS 10 I119 (xNE x3 x5 b1 b4) [F] []=st 4 I119 (xOb (W (x3+1)) b1) [iN (dc (x5<(Ln b4.cells:Int)))]:=by kernel_rfl
abbrev xHJ(v0:Val):=(Ln v0.rows:Int)
abbrev xJ2(v0:Int)(v1:Val):Prop:=iY (dc (v0<(xHJ v1)))
abbrev xFP(v0:Int)(v1:Val):Prop:=(0:Int)≤v0∧v0<(Ln v1.rows)
abbrev xWq(v0:Val)(v1:Int):=((Ln (Rowd.cells (gD v0.rows (tN v1) rd)):Int):Int) != (Ln v0.columns:Int)
def xYL(x3 b1):rS 4 I119 (xOb x3 b1) [Y,Y,Y] []=dn (xDw false) [xJ2 x3 b1,xFP x3 b1,iY (xWq b1 x3),iY true]:=by kernel_rfl
abbrev vB9(v0:Val)(v1:Int):Prop:=iN (xWq v0 v1)
abbrev xMa(v0:Val)(v1:Int):=Rowd.frm (gD v0.rows (tN v1) rd)
def xYM(x3 b1 r1):rS 4 I119 (xOb x3 b1) [Y,F,Y] [xC8 r1]=dn (xDw false) [xJ2 x3 b1,xFP x3 b1,vB9 b1 x3,AbC 161 (xGo (xMa b1 x3)) (xC8 r1),iY (!r1)]:=by kernel_rfl
abbrev xPc(v0:Val)(v1:Int):=gD v0.rows (tN v1) rd
def xYN(x3 b1 r1):rS 4 I119 (xOb x3 b1) [Y,F,F] [xC8 r1]=st 10 I119 (xNE x3 0 b1 (xPc b1 x3)) [xJ2 x3 b1,xFP x3 b1,vB9 b1 x3,AbC 161 (xGo (xMa b1 x3)) (xC8 r1),xBT r1]:=by kernel_rfl
abbrev xMe(v0:Int)(v1:Val):Prop:=iN (dc (v0<(xHJ v1)))
def xYO(x3 b1):rS 4 I119 (xOb x3 b1) [F] []=dn (xDw true) [xMe x3 b1]:=by kernel_rfl
def xYP(a0 r1):rE I119 (xG1 a0) [Y,Y] [xDg r1]=dn (xDw false) [AbC 160 (xF2 a0.columns) (xDg r1),iY (!r1),iY true]:=by kernel_rfl
abbrev xUP(v0:Val):Prop:=iY (dc ((xHJ v0)>12))
def xYQ(a0 r1):rE I119 (xG1 a0) [F,Y] [xDg r1]=dn (xDw false) [AbC 160 (xF2 a0.columns) (xDg r1),xBT r1,xUP a0]:=by kernel_rfl
abbrev xUQ(v0:Val):Prop:=iN (dc ((xHJ v0)>12))
def xYR(a0 r1):rE I119 (xG1 a0) [F,F] [xDg r1]=st 4 I119 (xOb 0 a0) [AbC 160 (xF2 a0.columns) (xDg r1),xBT r1,xUQ a0]:=by kernel_rfl
theorem vCl{N:Nat}{k4:Int→Val→Option (Bool)}(hk4:∀z0 z1 r,k4 z0 z1=some r→RS Tryz.f119 I119 4 (xOb z0 z1) (xDw r)):∀n x3 x5 b1 b4 r,xFL N k4 n x3 x5 b1 b4=some r→RS Tryz.f119 I119 10 (xNE x3 x5 b1 b4) (xDw r):=by
 intro n
 induction n with
 |zero=>exact fun _ _ _ _ _ h=>nE h
 |succ n ih=>
  exact fun x3 x5 b1 b4 r h=>cE h (fun h0 h=>iE h fun h1 h=>bE h fun r1 h2 h=>cE h (fun h3 h=>dS h xOV (xWS x3 x5 b1 b4 r1) (oc4 h0 h1 (xGy h2) h3 on)) fun h3 h=>tS xOV (xWT x3 x5 b1 b4 r1) (oc4 h0 h1 (xGy h2) h3 on) (ih _ _ _ _ _ h)) fun h0 h=>tS xOV (xWU x3 x5 b1 b4) (oc h0 on) (hk4 _ _ _ h)
theorem vHF{N:Nat}:∀n x3 b1 r,xGq N n x3 b1=some r→RS Tryz.f119 I119 4 (xOb x3 b1) (xDw r):=by
 intro n
 induction n with
 |zero=>exact fun _ _ _ h=>nE h
 |succ n ih=>
  exact fun x3 b1 r h=>cE h (fun h0 h=>iE h fun h1 h=>cE h (fun h2 h=>dS h xOV (xYL x3 b1) (oc4 h0 h1 h2 rfl on)) fun h2 h=>bE h fun r1 h3 h=>cE h (fun h4 h=>dS h xOV (xYM x3 b1 r1) (oc5 h0 h1 h2 (xKF h3) h4 on)) fun h4 h=>tS xOV (xYN x3 b1 r1) (oc5 h0 h1 h2 (xKF h3) h4 on) (vCl ih _ _ _ _ _ _ h)) fun h0 h=>dS h xOV (xYO x3 b1) (oc h0 on)
theorem vHG{N:Nat}:∀a0 r,xJS N a0=some r→RE Tryz.f119 I119 (xG1 a0) (xDw r):=fun a0 r h=>bE h fun r1 h0 h=>cE h (fun h1 h=>dE h xOV (xYP a0 r1) (oc3 (xJr h0) h1 rfl on)) fun h1 h=>cE h (fun h2 h=>dE h xOV (xYQ a0 r1) (oc3 (xJr h0) h1 h2 on)) fun h2 h=>tE xOV (xYR a0 r1) (oc3 (xJr h0) h1 h2 on) (vHF _ _ _ _ h)
theorem xPA{N:Nat}{a0:Val}{r:Bool}(h:xJS N  a0=some r):AbC 119 (xG1 a0) (xDw r):=
 AbsCalls.of_reach xOV rfl rfl rfl (jL rfl) (vHG a0 r h)
def G75(q:Val→Option (Bool)):Prop:=∀a0 r,q a0=some r→AbC 75 (xAR a0) (xAK r)
def G118(q:Val→Option (Bool)):Prop:=∀a0 r,q a0=some r→AbC 118 (xIr a0) (xEJ r)
noncomputable def I75:Info:= { body:=(Tryz.f75.body).getD .skip,nt:=95,results:=[.tmp 2],keep:=[0,2,4,52,88,92,94,104,124,142,162,180,3],live:=[],modes:=[(1,[(3,.take,false),(9,.take,false),(13,.take,false)]),(3,[(3,.take,false),(8,.take,false),(12,.take,false)]),(9,[(3,.take,false)]),(11,[(3,.take,false)]),(13,[(3,.take,false)]),(15,[(3,.take,false)])] }
theorem fk75:FnOk Tryz.prog 75 Tryz.f75 I75:=by refine⟨Tryz.func75,?_,?_,?_,?_⟩<;>kernel_rfl
abbrev xJ3(v0:Val):Prop:=iY (v0.kind != 3)
def vF5(a0):rE I75 (xAR a0) [Y,Y,Y] []=dn (xAK false) [xJ3 a0,iY (dc ((xKq a0)>0)),iY true]:=by kernel_rfl
abbrev xKt(v0:Val):Prop:=iN (dc ((xKq v0)>0))
abbrev xI3(v0:Val):Prop:=iY (v0.kind != 5)
abbrev xWr(v0:Val):=dc (((W ((Ln v0.columns:Int)+(Ln v0.rows:Int))):Int)>0)
abbrev vCa(v0:Val):Prop:=iY (xWr v0)
def vF6(a0):rE I75 (xAR a0) [Y,F,Y,Y] []=dn (xAK false) [xJ3 a0,xKt a0,xI3 a0,vCa a0]:=by kernel_rfl
abbrev xKO(v0:Val):Prop:=iN (xWr v0)
abbrev xKu(v0:Val):Prop:=iY (v0.kind != 2)
abbrev xNW(v0:Val):=(v0.text:Str)== []
def vF7(a0):rE I75 (xAR a0) [Y,F,Y,F,Y,Y,Y] []=dn (xAK false) [xJ3 a0,xKt a0,xI3 a0,xKO a0,xKu a0,iY (!(xNW a0)),iY true]:=by kernel_rfl
abbrev xLS(v0:Val):Prop:=iN (!(xNW v0))
abbrev xLk(v0:Val):Prop:=iY (v0.kind != 4)
def vF8(a0):rE I75 (xAR a0) [Y,F,Y,F,Y,F,Y,Y] []=dn (xAK false) [xJ3 a0,xKt a0,xI3 a0,xKO a0,xKu a0,xLS a0,xLk a0,iY (a0.step != 0)]:=by kernel_rfl
abbrev xNp(v0:Val):Prop:=iN (v0.step != 0)
def vF9(a0 r1):rE I75 (xAR a0) [Y,F,Y,F,Y,F,Y,F,Y] [xCI r1]=dn (xAK r1) [xJ3 a0,xKt a0,xI3 a0,xKO a0,xKu a0,xLS a0,xLk a0,xNp a0,xOi a0,AbC 80 (xEv a0.n) (xCI r1)]:=by kernel_rfl
abbrev xNq(v0:Val):Prop:=iN (v0.kind==3)
abbrev xGS(v0:Val):Prop:=iN (v0.kind==4)
abbrev xOk(v0:Val):Prop:=iN (v0.kind==5)
abbrev xPh(v0:Val):Prop:=iY (v0.kind==6)
def vGa(a0 r1):rE I75 (xAR a0) [Y,F,Y,F,Y,F,Y,F,F,F,F,F,F,Y] [xEX r1]=dn (xAK r1) [xJ3 a0,xKt a0,xI3 a0,xKO a0,xKu a0,xLS a0,xLk a0,xNp a0,xDX a0,xEP a0,xNq a0,xGS a0,xOk a0,xPh a0,AbC 120 (xHa a0.n 1 8) (xEX r1)]:=by kernel_rfl
abbrev xI4(v0:Val):Prop:=iN (v0.kind==6)
def vGb(a0):rE I75 (xAR a0) [Y,F,Y,F,Y,F,Y,F,F,F,F,F,F,F] []=dn (xAK false) [xJ3 a0,xKt a0,xI3 a0,xKO a0,xKu a0,xLS a0,xLk a0,xNp a0,xDX a0,xEP a0,xNq a0,xGS a0,xOk a0,xI4 a0]:=by kernel_rfl
abbrev xOl(v0:Val):Prop:=iY (v0.kind==4)
def vGc(a0 r1 r2):rE I75 (xAR a0) [Y,F,Y,F,Y,F,F,F,F,F,F,Y,Y] [xCI r1,xCI r2]=dn (xAK r2) [xJ3 a0,xKt a0,xI3 a0,xKO a0,xKu a0,xLS a0,iN (a0.kind != 4),iN false,xDX a0,xEP a0,xNq a0,xOl a0,AbC 80 (xEv a0.n) (xCI r1),iY r1,AbC 80 (xEv a0.step) (xCI r2)]:=by kernel_rfl
def vGd(a0 r1):rE I75 (xAR a0) [Y,F,Y,F,Y,F,F,F,F,F,F,Y,F] [xCI r1]=dn (xAK false) [xJ3 a0,xKt a0,xI3 a0,xKO a0,xKu a0,xLS a0,iN (a0.kind != 4),iN false,xDX a0,xEP a0,xNq a0,xOl a0,AbC 80 (xEv a0.n) (xCI r1),iN r1]:=by kernel_rfl
def vGe(a0):rE I75 (xAR a0) [Y,F,Y,F,F,F,Y,Y] []=dn (xAK false) [xJ3 a0,xKt a0,xI3 a0,xKO a0,iN (a0.kind != 2),iN false,xLk a0,iY (a0.step != 0)]:=by kernel_rfl
abbrev xIP(v0:Val):Prop:=iY (v0.n==0)
def vBK(a0 r1):rE I75 (xAR a0) [Y,F,Y,F,F,F,Y,F,F,Y,Y] [xDG r1]=dn (xAK r1) [xJ3 a0,xKt a0,xI3 a0,xKO a0,iN (a0.kind != 2),iN false,xLk a0,xNp a0,xDX a0,xNm a0,xIP a0,AbC 117 (xHj a0.text) (xDG r1)]:=by kernel_rfl
abbrev xOm(v0:Val):Prop:=iN (v0.n==0)
def vBL(a0):rE I75 (xAR a0) [Y,F,Y,F,F,F,Y,F,F,Y,F] []=dn (xAK false) [xJ3 a0,xKt a0,xI3 a0,xKO a0,iN (a0.kind != 2),iN false,xLk a0,xNp a0,xDX a0,xNm a0,xOm a0]:=by kernel_rfl
abbrev xMf(v0:Val):Prop:=iN (v0.kind != 5)
def vBM(a0):rE I75 (xAR a0) [Y,F,F,F,Y,Y,Y] []=dn (xAK false) [xJ3 a0,xKt a0,xMf a0,iN false,xKu a0,iY (!(xNW a0)),iY true]:=by kernel_rfl
def vBN(a0):rE I75 (xAR a0) [Y,F,F,F,Y,F,Y,Y] []=dn (xAK false) [xJ3 a0,xKt a0,xMf a0,iN false,xKu a0,xLS a0,xLk a0,iY (a0.step != 0)]:=by kernel_rfl
abbrev xKP(v0:Val):Prop:=iY (v0.kind==5)
def vBO(a0 r1):rE I75 (xAR a0) [Y,F,F,F,Y,F,Y,F,F,F,F,F,Y,Y] [xDw r1]=dn (xAK r1) [xJ3 a0,xKt a0,xMf a0,iN false,xKu a0,xLS a0,xLk a0,xNp a0,xDX a0,xEP a0,xNq a0,xGS a0,xKP a0,xIP a0,AbC 119 (xG1 a0) (xDw r1)]:=by kernel_rfl
def vBP(a0):rE I75 (xAR a0) [Y,F,F,F,Y,F,Y,F,F,F,F,F,Y,F] []=dn (xAK false) [xJ3 a0,xKt a0,xMf a0,iN false,xKu a0,xLS a0,xLk a0,xNp a0,xDX a0,xEP a0,xNq a0,xGS a0,xKP a0,xOm a0]:=by kernel_rfl
def vBQ(a0):rE I75 (xAR a0) [F,F,Y,Y] []=dn (xAK false) [iN (a0.kind != 3),iN false,xI3 a0,vCa a0]:=by kernel_rfl
def vBR(a0):rE I75 (xAR a0) [F,F,Y,F,Y,Y,Y] []=dn (xAK false) [iN (a0.kind != 3),iN false,xI3 a0,xKO a0,xKu a0,iY (!(xNW a0)),iY true]:=by kernel_rfl
def vBS(a0):rE I75 (xAR a0) [F,F,Y,F,Y,F,Y,Y] []=dn (xAK false) [iN (a0.kind != 3),iN false,xI3 a0,xKO a0,xKu a0,xLS a0,xLk a0,iY (a0.step != 0)]:=by kernel_rfl
def vBT(a0 r1):rE I75 (xAR a0) [F,F,Y,F,Y,F,Y,F,F,F,Y,Y] [xEJ r1]=dn (xAK r1) [iN (a0.kind != 3),iN false,xI3 a0,xKO a0,xKu a0,xLS a0,xLk a0,xNp a0,xDX a0,xEP a0,iY (a0.kind==3),xIP a0,AbC 118 (xIr a0) (xEJ r1)]:=by kernel_rfl
def vBU(a0):rE I75 (xAR a0) [F,F,Y,F,Y,F,Y,F,F,F,Y,F] []=dn (xAK false) [iN (a0.kind != 3),iN false,xI3 a0,xKO a0,xKu a0,xLS a0,xLk a0,xNp a0,xDX a0,xEP a0,iY (a0.kind==3),xOm a0]:=by kernel_rfl
theorem vJX{N q0 q1}(g0:G75 q0)(g1:G118 q1):∀a0 r,xE5 N q0 q1 a0=some r→RE Tryz.f75 I75 (xAR a0) (xAK r):=fun a0 r h=>cE h (fun h0 h=>cE h (fun h1 h=>dE h fk75 (vF5 a0) (oc3 h0 h1 rfl on)) fun h1 h=>cE h (fun h2 h=>cE h (fun h3 h=>dE h fk75 (vF6 a0) (oc4 h0 h1 h2 h3 on)) fun h3 h=>cE h (fun h4 h=>cE h (fun h5 h=>dE h fk75 (vF7 a0) (oc7 h0 h1 h2 h3 h4 h5 rfl on)) fun h5 h=>cE h (fun h6 h=>cE h (fun h7 h=>dE h fk75 (vF8 a0) (oc8 h0 h1 h2 h3 h4 h5 h6 h7 on)) fun h7 h=>cE h (fun h8 h=>bE h fun r1 h9 h=>dE h fk75 (vF9 a0 r1) (oc10 h0 h1 h2 h3 h4 h5 h6 h7 h8 (xGy h9) on)) fun h8 h=>cE h (fun h13 h=>bE h fun r1 h14 h=>dE h fk75 (vGa a0 r1) (oc12 h0 h1 h2 h3 h4 h5 h6 h7 h8 (zJq h4) (zJq h0) (zJq h6) (oc3 (zJq h2) h13 (xKT h14) on))) fun h13 h=>dE h fk75 (vGb a0) (oc12 h0 h1 h2 h3 h4 h5 h6 h7 h8 (zJq h4) (zJq h0) (zJq h6) (oc2 (zJq h2) h13 on))) fun h6 h=>bE h fun r1 h12 h=>cE h (fun h13 h=>bE h fun r2 h14 h=>dE h fk75 (vGc a0 r1 r2) (oc12 h0 h1 h2 h3 h4 h5 h6 rfl (eq_ne (zJq h6) rfl) (zJq h4) (zJq h0) (zJq h6) (oc3 (xGy h12) h13 (xGy h14) on))) fun h13 h=>dE h fk75 (vGd a0 r1) (oc12 h0 h1 h2 h3 h4 h5 h6 rfl (eq_ne (zJq h6) rfl) (zJq h4) (zJq h0) (zJq h6) (oc2 (xGy h12) h13 on))) fun h4 h=>cE h (fun h7 h=>dE h fk75 (vGe a0) (oc8 h0 h1 h2 h3 h4 rfl (zJp (eq_ne (zJq h4) rfl)) h7 on)) fun h7 h=>cE h (fun h10 h=>bE h fun r1 h11 h=>dE h fk75 (vBK a0 r1) (oc12 h0 h1 h2 h3 h4 rfl (zJp (eq_ne (zJq h4) rfl)) h7 (eq_ne (zJq h4) rfl) (zJq h4) h10 (xM2 h11) on)) fun h10 h=>dE h fk75 (vBL a0) (oc11 h0 h1 h2 h3 h4 rfl (zJp (eq_ne (zJq h4) rfl)) h7 (eq_ne (zJq h4) rfl) (zJq h4) h10 on)) fun h2 h=>
 cE h (fun h5 h=>dE h fk75 (vBM a0) (oc7 h0 h1 h2 rfl (zJp (eq_ne (zJq h2) rfl)) h5 rfl on)) fun h5 h=>cE h (fun h7 h=>dE h fk75 (vBN a0) (oc8 h0 h1 h2 rfl (zJp (eq_ne (zJq h2) rfl)) h5 (zJp (eq_ne (zJq h2) rfl)) h7 on)) fun h7 h=>cE h (fun h13 h=>bE h fun r1 h14 h=>dE h fk75 (vBO a0 r1) (oc12 h0 h1 h2 rfl (zJp (eq_ne (zJq h2) rfl)) h5 (zJp (eq_ne (zJq h2) rfl)) h7 (eq_ne (zJq h2) rfl) (eq_ne (zJq h2) rfl) (zJq h0) (eq_ne (zJq h2) rfl) (oc3 (zJq h2) h13 (xPA h14) on))) fun h13 h=>dE h fk75 (vBP a0) (oc12 h0 h1 h2 rfl (zJp (eq_ne (zJq h2) rfl)) h5 (zJp (eq_ne (zJq h2) rfl)) h7 (eq_ne (zJq h2) rfl) (eq_ne (zJq h2) rfl) (zJq h0) (eq_ne (zJq h2) rfl) (oc2 (zJq h2) h13 on))) fun h0 h=>cE h (fun h3 h=>dE h fk75 (vBQ a0) (oc4 h0 rfl (zJp (eq_ne (zJq h0) rfl)) h3 on)) fun h3 h=>cE h (fun h5 h=>dE h fk75 (vBR a0) (oc7 h0 rfl (zJp (eq_ne (zJq h0) rfl)) h3 (zJp (eq_ne (zJq h0) rfl)) h5 rfl on)) fun h5 h=>cE h (fun h7 h=>dE h fk75 (vBS a0) (oc8 h0 rfl (zJp (eq_ne (zJq h0) rfl)) h3 (zJp (eq_ne (zJq h0) rfl)) h5 (zJp (eq_ne (zJq h0) rfl)) h7 on)) fun h7 h=>cE h (fun h11 h=>bE h fun r1 h12 h=>dE h fk75 (vBT a0 r1) (oc12 h0 rfl (zJp (eq_ne (zJq h0) rfl)) h3 (zJp (eq_ne (zJq h0) rfl)) h5 (zJp (eq_ne (zJq h0) rfl)) h7 (eq_ne (zJq h0) rfl) (eq_ne (zJq h0) rfl) (zJq h0) h11 (oc (g1 _ _ h12) on))) fun h11 h=>dE h fk75 (vBU a0) (oc12 h0 rfl (zJp (eq_ne (zJq h0) rfl)) h3 (zJp (eq_ne (zJq h0) rfl)) h5 (zJp (eq_ne (zJq h0) rfl)) h7 (eq_ne (zJq h0) rfl) (eq_ne (zJq h0) rfl) (zJq h0) h11 on)
theorem xK8{N q0 q1}(g0:G75 q0)(g1:G118 q1){a0}{r}(h:xE5 N q0 q1 a0=some r):AbC 75 (xAR a0) (xAK r):=
 AbsCalls.of_reach fk75 rfl rfl rfl (jL rfl) (vJX g0 g1 a0 r h)
noncomputable def I118:Info:= { body:=(Tryz.f118.body).getD .skip,nt:=36,results:=[.tmp 2],keep:=[0,2,4,6,16,52,3],live:=[(2,[2,6,3])],modes:=[(4,[(7,.take,false)]),(6,[(4,.take,false)])] }
theorem xTZ:FnOk Tryz.prog 118 Tryz.f118 I118:=by refine⟨Tryz.func118,?_,?_,?_,?_⟩<;>kernel_rfl
def xOa(x3:Int)(b1:Val):St:=[(2,.v false [.ptr 1 0]),(6,.v false [.int .i64 x3]),(3,.v true (Va .ro b1))]
def xYF(x3 b1 r1):rS 2 I118 (xOa x3 b1) [Y,Y,Y] [xDv r1]=dn (xEJ false) [xPe x3 b1,xMd x3 b1,AbC 158 (xEG (xKr b1 x3)) (xDv r1),iY (!r1),iY true]:=by kernel_rfl
def xYG(x3 b1 r1 r2):rS 2 I118 (xOa x3 b1) [Y,F,Y] [xDv r1,xAK r2]=dn (xEJ false) [xPe x3 b1,xMd x3 b1,AbC 158 (xEG (xKr b1 x3)) (xDv r1),xBT r1,xMd x3 b1,AbC 75 (xAR (xKr b1 x3)) (xAK r2),iY (!r2)]:=by kernel_rfl
def xYH(x3 b1 r1 r2):rS 2 I118 (xOa x3 b1) [Y,F,F] [xDv r1,xAK r2]=st 2 I118 (xOa (W (x3+1)) b1) [xPe x3 b1,xMd x3 b1,AbC 158 (xEG (xKr b1 x3)) (xDv r1),xBT r1,xMd x3 b1,AbC 75 (xAR (xKr b1 x3)) (xAK r2),xBT r2]:=by kernel_rfl
abbrev xRg(v0:Val):=dc ((Ln v0.list:Int)≤8)
def xYI(x3 b1 r1):rS 2 I118 (xOa x3 b1) [F,Y] [xEn r1]=dn (xEJ (dc (r1≤3))) [xSR x3 b1,iY (xRg b1),AbC 159 (xGj b1) (xEn r1)]:=by kernel_rfl
def xYJ(x3 b1):rS 2 I118 (xOa x3 b1) [F,F] []=dn (xEJ false) [xSR x3 b1,iN (xRg b1)]:=by kernel_rfl
def xYK(a0):rE I118 (xIr a0) [] []=st 2 I118 (xOa 0 a0) []:=by kernel_rfl
theorem vHD{N q0 q1}(g0:G75 q0)(g1:G118 q1):∀n x3 b1 r,xFX N q0 q1 n x3 b1=some r→RS Tryz.f118 I118 2 (xOa x3 b1) (xEJ r):=by
 intro n
 induction n with
 |zero=>exact fun _ _ _ h=>nE h
 |succ n ih=>
  exact fun x3 b1 r h=>cE h (fun h0 h=>iE h fun h1 h=>bE h fun r1 h2 h=>cE h (fun h3 h=>dS h xTZ (xYF x3 b1 r1) (oc5 h0 h1 (xJs h2) h3 rfl on)) fun h3 h=>bE h fun r2 h5 h=>cE h (fun h6 h=>dS h xTZ (xYG x3 b1 r1 r2) (oc7 h0 h1 (xJs h2) h3 h1 (g0 _ _ h5) h6 on)) fun h6 h=>tS xTZ (xYH x3 b1 r1 r2) (oc7 h0 h1 (xJs h2) h3 h1 (g0 _ _ h5) h6 on) (ih _ _ _ h)) fun h0 h=>cE h (fun h1 h=>bE h fun r1 h2 h=>dS h xTZ (xYI x3 b1 r1) (oc3 h0 h1 (xPu h2) on)) fun h1 h=>dS h xTZ (xYJ x3 b1) (oc2 h0 h1 on)
theorem vHE{N q0 q1}(g0:G75 q0)(g1:G118 q1):∀a0 r,xJ0 N q0 q1 a0=some r→RE Tryz.f118 I118 (xIr a0) (xEJ r):=fun a0 r h=>tE xTZ (xYK a0) on (vHD g0 g1 _ _ _ _ h)
theorem xM8{N q0 q1}(g0:G75 q0)(g1:G118 q1){a0}{r}(h:xJ0 N q0 q1 a0=some r):AbC 118 (xIr a0) (xEJ r):=
 AbsCalls.of_reach xTZ rfl rfl rfl (jL rfl) (vHE g0 g1 a0 r h)
theorem xLn{N:Nat}:∀d,G75 (xBb N d).c_spec_IsValidValue∧G118 (xBb N d).c_spec_l3List:=by
 intro d
 induction d with
 |zero=>exact⟨fun _ _ h=>nE h,fun _ _ h=>nE h⟩
 |succ d ih=>
  obtain⟨ih0,ih1⟩:=ih
  exact⟨fun _ _ h=>xK8 (N:=N) ih0 ih1 h,fun _ _ h=>xM8 (N:=N) ih0 ih1 h⟩
theorem xDR{N:Nat}{a0:Val}{r:Bool}(h:xFd N a0=some r):AbC 75 (xAR a0) (xAK r):=(xLn N).1 _ r h
noncomputable def I36:Info:= { body:=(Tryz.f36.body).getD .skip,nt:=5,results:=[.cell 2 31],keep:=[0,4,5],live:=[],modes:=[] }
theorem fk36:FnOk Tryz.prog 36 Tryz.f36 I36:=by refine⟨Tryz.func36,?_,?_,?_,?_⟩<;>kernel_rfl
def vDj(a0):rE I36 (xDi a0) [] []=dn (xBm (Val.mk 6 a0 0 [] [] [] [])) []:=by kernel_rfl
theorem vJl{N:Nat}:∀a0 r,xBN N a0=some r→RE Tryz.f36 I36 (xDi a0) (xBm r):=fun a0 r h=>dE h fk36 (vDj a0) on
theorem xC4{N:Nat}{a0:Int}{r:Val}(h:xBN N  a0=some r):AbC 36 (xDi a0) (xBm r):=
 AbsCalls.of_reach fk36 rfl rfl rfl (jL rfl) (vJl a0 r h)
noncomputable def I85:Info:= { body:=(Tryz.f85.body).getD .skip,nt:=31,results:=[.cell 2 31,.tmp 3],keep:=[0,4,6,8,16,32,46,5],live:=[(2,[0,4,8,5])],modes:=[] }
theorem fk85:FnOk Tryz.prog 85 Tryz.f85 I85:=by refine⟨Tryz.func85,?_,?_,?_,?_⟩<;>kernel_rfl
def xTG(x0:List Val)(x4:Int)(b2:Val):St:=[(0,.v false [.sl .ro .val x0]),(4,.v false [.ptr 2 0]),(8,.v false [.int .i64 x4]),(5,.v true (Va .own b2))]
abbrev xST(v0:Int)(v1:List Val):Prop:=iY (dc (v0<(Ln v1:Int)))
abbrev xIf(v0:Int)(v1:List Val):Prop:=(0:Int)≤v0∧v0<(Ln v1)
abbrev xSU(v0:Val):Prop:=AbC 36 (xDi 4) (xBm v0)
abbrev xMb(v0:List Val)(v1:Int):=gD v0 (tN v1) vd
def vGr(x0 x4 b2 r1 r2):rS 2 I85 (xTG x0 x4 b2) [Y,Y] [xAK r1,xBm r2]=dn (xEt (r2,true)) [xST x4 x0,xIf x4 x0,AbC 75 (xAR (xMb x0 x4)) (xAK r1),iY (!r1),xSU r2]:=by kernel_rfl
abbrev xRh(v0:List Val)(v1:Int):=((Val.kind (gD v0 (tN v1) vd)):Int)==6
def vGs(x0 x4 b2 r1 r2):rS 2 I85 (xTG x0 x4 b2) [Y,F,Y] [xAK r1,xBm r2]=dn (xEt (r2,true)) [xST x4 x0,xIf x4 x0,AbC 75 (xAR (xMb x0 x4)) (xAK r1),xBT r1,xIf x4 x0,iY (xRh x0 x4),xIf x4 x0,AbC 36 (xDi (Val.n (xMb x0 x4))) (xBm r2)]:=by kernel_rfl
def vGt(x0 x4 b2 r1):rS 2 I85 (xTG x0 x4 b2) [Y,F,F] [xAK r1]=st 2 I85 (xTG x0 (W (x4+1)) b2) [xST x4 x0,xIf x4 x0,AbC 75 (xAR (xMb x0 x4)) (xAK r1),xBT r1,xIf x4 x0,iN (xRh x0 x4)]:=by kernel_rfl
def vGu(x0 x4 b2):rS 2 I85 (xTG x0 x4 b2) [F] []=dn (xEt ((Val.mk 0 0 0 [] [] [] []),false)) [iN (dc (x4<(Ln x0:Int)))]:=by kernel_rfl
def vGv(a0):rE I85 (xH1 a0) [] []=st 2 I85 (xTG a0 0 (Val.mk 0 0 0 [] [] [] [])) []:=by kernel_rfl
theorem vJ6{N:Nat}:∀n x0 x4 b2 r,xFx N n x0 x4 b2=some r→RS Tryz.f85 I85 2 (xTG x0 x4 b2) (xEt r):=by
 intro n
 induction n with
 |zero=>exact fun _ _ _ _ h=>nE h
 |succ n ih=>
  exact fun x0 x4 b2 r h=>cE h (fun h0 h=>iE h fun h1 h=>bE h fun r1 h2 h=>cE h (fun h3 h=>bE h fun r2 h4 h=>dS h fk85 (vGr x0 x4 b2 r1 r2) (oc5 h0 h1 (xDR h2) h3 (xC4 h4) on)) fun h3 h=>cE h (fun h5 h=>bE h fun r2 h7 h=>dS h fk85 (vGs x0 x4 b2 r1 r2) (oc8 h0 h1 (xDR h2) h3 h1 h5 h1 (xC4 h7) on)) fun h5 h=>tS fk85 (vGt x0 x4 b2 r1) (oc6 h0 h1 (xDR h2) h3 h1 h5 on) (ih _ _ _ _ h)) fun h0 h=>dS h fk85 (vGu x0 x4 b2) (oc h0 on)
theorem vJ7{N:Nat}:∀a0 r,xKX N a0=some r→RE Tryz.f85 I85 (xH1 a0) (xEt r):=fun a0 r h=>tE fk85 (vGv a0) on (vJ6 _ _ _ _ _ h)
theorem xMp{N:Nat}{a0:List Val}{r:Val×Bool}(h:xKX N  a0=some r):AbC 85 (xH1 a0) (xEt r):=
 AbsCalls.of_reach fk85 rfl rfl rfl (jL rfl) (vJ7 a0 r h)
noncomputable def I35:Info:= { body:=(Tryz.f35.body).getD .skip,nt:=34,results:=[.cell 4 31,.tmp 5],keep:=[0,2,8,10,12,14,16,28,38,62,9,13],live:=[(5,[0,2,8,16,9])],modes:=[(1,[(2,.take,false)]),(2,[(0,.take,false)]),(3,[(0,.take,false)])] }
theorem fk35:FnOk Tryz.prog 35 Tryz.f35 I35:=by refine⟨Tryz.func35,?_,?_,?_,?_⟩<;>kernel_rfl
def xU1(x0:List Val)(x1:List Int)(x8:Int)(b4:Val):St:=[(0,.v false [.sl .ro .val x0]),(2,.v false [.sl .ro .int x1]),(8,.v false [.ptr 4 0]),(16,.v false [.int .i64 x8]),(9,.v true (Va .own b4))]
abbrev xMh(v0:Int)(v1:List Int):Prop:=(0:Int)≤v0∧v0<(Ln v1)
abbrev xRi(v0:List Val)(v1:Int)(v2:List Int):=((Val.kind (gD v0 (tN v1) vd)):Int) != (gD v2 (tN v1) Ty.int.dflt)
def vDe(x0 x1 x8 b4 r1):rS 5 I35 (xU1 x0 x1 x8 b4) [Y,Y] [xBm r1]=dn (xDx (r1,true)) [xST x8 x0,xIf x8 x0,xMh x8 x1,iY (xRi x0 x8 x1),xSU r1]:=by kernel_rfl
def vDf(x0 x1 x8 b4):rS 5 I35 (xU1 x0 x1 x8 b4) [Y,F] []=st 5 I35 (xU1 x0 x1 (W (x8+1)) b4) [xST x8 x0,xIf x8 x0,xMh x8 x1,iN (xRi x0 x8 x1)]:=by kernel_rfl
def vDg(x0 x1 x8 b4):rS 5 I35 (xU1 x0 x1 x8 b4) [F] []=dn (xDx ((Val.mk 0 0 0 [] [] [] []),false)) [iN (dc (x8<(Ln x0:Int)))]:=by kernel_rfl
def vDh(a0 a1 r1):rE I35 (xH2 a0 a1) [Y] [xEt r1]=dn (xDx (r1.1,true)) [AbC 85 (xH1 a0) (xEt r1),iY r1.2]:=by kernel_rfl
def vDi(a0 a1 r1):rE I35 (xH2 a0 a1) [F] [xEt r1]=st 5 I35 (xU1 a0 a1 0 (Val.mk 0 0 0 [] [] [] [])) [AbC 85 (xH1 a0) (xEt r1),iN r1.2]:=by kernel_rfl
theorem vJj{N:Nat}:∀n x0 x1 x8 b4 r,xFy N n x0 x1 x8 b4=some r→RS Tryz.f35 I35 5 (xU1 x0 x1 x8 b4) (xDx r):=by
 intro n
 induction n with
 |zero=>exact fun _ _ _ _ _ h=>nE h
 |succ n ih=>
  exact fun x0 x1 x8 b4 r h=>cE h (fun h0 h=>iE h fun h1 h=>iE h fun h2 h=>cE h (fun h3 h=>bE h fun r1 h4 h=>dS h fk35 (vDe x0 x1 x8 b4 r1) (oc5 h0 h1 h2 h3 (xC4 h4) on)) fun h3 h=>tS fk35 (vDf x0 x1 x8 b4) (oc4 h0 h1 h2 h3 on) (ih _ _ _ _ _ h)) fun h0 h=>dS h fk35 (vDg x0 x1 x8 b4) (oc h0 on)
theorem vJk{N:Nat}:∀a0 a1 r,xJU N a0 a1=some r→RE Tryz.f35 I35 (xH2 a0 a1) (xDx r):=fun a0 a1 r h=>bE h fun r1 h0 h=>cE h (fun h1 h=>dE h fk35 (vDh a0 a1 r1) (oc2 (xMp h0) h1 on)) fun h1 h=>tE fk35 (vDi a0 a1 r1) (oc2 (xMp h0) h1 on) (vJj _ _ _ _ _ _ h)
theorem xG3{N:Nat}{a0:List Val}{a1:List Int}{r:Val×Bool}(h:xJU N  a0 a1=some r):AbC 35 (xH2 a0 a1) (xDx r):=
 AbsCalls.of_reach fk35 rfl rfl rfl (jL rfl) (vJk a0 a1 r h)
noncomputable def I61:Info:= { body:=(Tryz.f61.body).getD .skip,nt:=19,results:=[.tmp 4],keep:=[0,2,8,10,18,34],live:=[(2,[0,2,10])],modes:=[] }
theorem fk61:FnOk Tryz.prog 61 Tryz.f61 I61:=by refine⟨Tryz.func61,?_,?_,?_,?_⟩<;>kernel_rfl
def xU6(x0:List Str)(x1:Str)(x5:Int):St:=[(0,.v false [.sl .ro .str x0]),(2,.v false [.str x1]),(10,.v false [.int .i64 x5])]
def vFw(x0 x1 x5):rS 2 I61 (xU6 x0 x1 x5) [Y,Y] []=dn (xGl x5) [xMH x5 x0,xIO x5 x0,iY (xNV x0 x5 x1)]:=by kernel_rfl
def vFx(x0 x1 x5):rS 2 I61 (xU6 x0 x1 x5) [Y,F] []=st 2 I61 (xU6 x0 x1 (W (x5+1))) [xMH x5 x0,xIO x5 x0,iN (xNV x0 x5 x1)]:=by kernel_rfl
def vFy(x0 x1 x5):rS 2 I61 (xU6 x0 x1 x5) [F] []=dn (xGl (-1)) [xQy x5 x0]:=by kernel_rfl
def vFz(a0 a1):rE I61 (xI5 a0 a1) [] []=st 2 I61 (xU6 a0 a1 0) []:=by kernel_rfl
theorem vJG{N:Nat}:∀n x0 x1 x5 r,xGk N n x0 x1 x5=some r→RS Tryz.f61 I61 2 (xU6 x0 x1 x5) (xGl r):=by
 intro n
 induction n with
 |zero=>exact fun _ _ _ _ h=>nE h
 |succ n ih=>
  exact fun x0 x1 x5 r h=>cE h (fun h0 h=>iE h fun h1 h=>cE h (fun h2 h=>dS h fk61 (vFw x0 x1 x5) (oc3 h0 h1 h2 on)) fun h2 h=>tS fk61 (vFx x0 x1 x5) (oc3 h0 h1 h2 on) (ih _ _ _ _ h)) fun h0 h=>dS h fk61 (vFy x0 x1 x5) (oc h0 on)
theorem vJH{N:Nat}:∀a0 a1 r,xKS N a0 a1=some r→RE Tryz.f61 I61 (xI5 a0 a1) (xGl r):=fun a0 a1 r h=>tE fk61 (vFz a0 a1) on (vJG _ _ _ _ _ h)
theorem xPw{N:Nat}{a0:List Str}{a1:Str}{r:Int}(h:xKS N  a0 a1=some r):AbC 61 (xI5 a0 a1) (xGl r):=
 AbsCalls.of_reach fk61 rfl rfl rfl (jL rfl) (vJH a0 a1 r h)
noncomputable def I18:Info:= { body:=(Tryz.f18.body).getD .skip,nt:=9,results:=[.tmp 4],keep:=[0,2,4,8,5],live:=[],modes:=[] }
theorem fk18:FnOk Tryz.prog 18 Tryz.f18 I18:=by refine⟨Tryz.func18,?_,?_,?_,?_⟩<;>kernel_rfl
def vCP(a0 a1 r1):rE I18 (xHi a0 a1) [] [xGl r1]=dn (xCf r1) [AbC 61 (xI5 a0.columns a1) (xGl r1)]:=by kernel_rfl
theorem vJb{N:Nat}:∀a0 a1 r,xGx N a0 a1=some r→RE Tryz.f18 I18 (xHi a0 a1) (xCf r):=fun a0 a1 r h=>bE h fun r1 h0 h=>dE h fk18 (vCP a0 a1 r1) (oc (xPw h0) on)
theorem xDk{N:Nat}{a0:Val}{a1:Str}{r:Int}(h:xGx N  a0 a1=some r):AbC 18 (xHi a0 a1) (xCf r):=
 AbsCalls.of_reach fk18 rfl rfl rfl (jL rfl) (vJb a0 a1 r h)
noncomputable def I87:Info:= { body:=(Tryz.f87.body).getD .skip,nt:=87,results:=[.tmp 4],keep:=[0,2,8,10,12,14,36,60,122],live:=[(4,[0,2,10,12,14])],modes:=[(4,[(4,.take,false)]),(5,[(0,.take,false)]),(8,[(4,.take,false),(9,.take,false)]),(9,[(0,.take,false)]),(11,[(4,.take,false)]),(12,[(0,.take,false)]),(14,[(0,.take,false)])] }
theorem fk87:FnOk Tryz.prog 87 Tryz.f87 I87:=by refine⟨Tryz.func87,?_,?_,?_,?_⟩<;>kernel_rfl
def xKZ(x0 x1 x5:List Org)(x6 x7:Int):St:=[(0,.v false [.sl .ro .org x0]),(2,.v false [.sl .ro .org x1]),(10,.v false [.sl .own .org x5]),(12,.v false [.int .i64 x6]),(14,.v false [.int .i64 x7])]
abbrev xNr(v0 v1:List Org)(v2:Int):Prop:=Ln v0+Ln [(xGN v1 v2)]≤Lim
def vGA(x0 x1 x5 x6 x7):rS 4 I87 (xKZ x0 x1 x5 x6 x7) [Y,Y,Y,Y] []=st 4 I87 (xKZ x0 x1 (x5++ [(xGN x0 x6)]) (W (x6+1)) x7) [xHO x6 x0,iY true,iY (x7==(Ln x1:Int)),iY true,xFb x6 x0,xNr x5 x0 x6]:=by kernel_rfl
abbrev xMi(v0:Int)(v1:List Org):Prop:=iN (v0==(Ln v1:Int))
abbrev xOn(v0:List Org)(v1:Int)(v2:List Org)(v3:Int)(v4:Bool):Prop:=AbC 126 (xEY (xGN v0 v1) (xGN v2 v3)) (xB9 v4)
def vGB(x0 x1 x5 x6 x7 r1):rS 4 I87 (xKZ x0 x1 x5 x6 x7) [Y,Y,F,Y,Y] [xB9 r1]=st 4 I87 (xKZ x0 x1 (x5++ [(xGN x0 x6)]) (W (x6+1)) x7) [xHO x6 x0,iY true,xMi x7 x1,xHO x6 x0,xFb x6 x0,xFb x7 x1,xOn x0 x6 x1 x7 r1,iY r1,xFb x6 x0,xNr x5 x0 x6]:=by kernel_rfl
def vGC(x0 x1 x5 x6 x7 r1):rS 4 I87 (xKZ x0 x1 x5 x6 x7) [Y,Y,F,Y,F,Y,Y] [xB9 r1]=st 4 I87 (xKZ x0 x1 (x5++ [(xGN x1 x7)]) x6 (W (x7+1))) [xHO x6 x0,iY true,xMi x7 x1,xHO x6 x0,xFb x6 x0,xFb x7 x1,xOn x0 x6 x1 x7 r1,iN r1,iY (x6==(Ln x0:Int)),iY true,xFb x7 x1,xNr x5 x1 x7]:=by kernel_rfl
def vGD(x0 x1 x5 x6 x7 r1 r2):rS 4 I87 (xKZ x0 x1 x5 x6 x7) [Y,Y,F,Y,F,F,Y] [xB9 r1,xB9 r2]=st 4 I87 (xKZ x0 x1 (x5++ [(xGN x1 x7)]) x6 (W (x7+1))) [xHO x6 x0,iY true,xMi x7 x1,xHO x6 x0,xFb x6 x0,xFb x7 x1,xOn x0 x6 x1 x7 r1,iN r1,xMi x6 x0,xFb x7 x1,xFb x6 x0,xOn x1 x7 x0 x6 r2,iY r2,xFb x7 x1,xNr x5 x1 x7]:=by kernel_rfl
def vGE(x0 x1 x5 x6 x7 r1 r2):rS 4 I87 (xKZ x0 x1 x5 x6 x7) [Y,Y,F,Y,F,F,F] [xB9 r1,xB9 r2]=st 4 I87 (xKZ x0 x1 (x5++ [(xGN x0 x6)]) (W (x6+1)) (W (x7+1))) [xHO x6 x0,iY true,xMi x7 x1,xHO x6 x0,xFb x6 x0,xFb x7 x1,xOn x0 x6 x1 x7 r1,iN r1,xMi x6 x0,xFb x7 x1,xFb x6 x0,xOn x1 x7 x0 x6 r2,iN r2,xFb x6 x0,xNr x5 x0 x6]:=by kernel_rfl
def vGF(x0 x1 x5 x6 x7):rS 4 I87 (xKZ x0 x1 x5 x6 x7) [F,Y,Y,Y] []=st 4 I87 (xKZ x0 x1 (x5++ [(xGN x0 x6)]) (W (x6+1)) x7) [xLj x6 x0,xHO x7 x1,iY (x7==(Ln x1:Int)),iY true,xFb x6 x0,xNr x5 x0 x6]:=by kernel_rfl
def vGG(x0 x1 x5 x6 x7):rS 4 I87 (xKZ x0 x1 x5 x6 x7) [F,Y,F,F,F,Y,Y] []=st 4 I87 (xKZ x0 x1 (x5++ [(xGN x1 x7)]) x6 (W (x7+1))) [xLj x6 x0,xHO x7 x1,xMi x7 x1,xLj x6 x0,iN false,iY (x6==(Ln x0:Int)),iY true,xFb x7 x1,xNr x5 x1 x7]:=by kernel_rfl
def vGH(x0 x1 x5 x6 x7 r1):rS 4 I87 (xKZ x0 x1 x5 x6 x7) [F,Y,F,F,F,F,Y] [xB9 r1]=st 4 I87 (xKZ x0 x1 (x5++ [(xGN x1 x7)]) x6 (W (x7+1))) [xLj x6 x0,xHO x7 x1,xMi x7 x1,xLj x6 x0,iN false,xMi x6 x0,xFb x7 x1,xFb x6 x0,xOn x1 x7 x0 x6 r1,iY r1,xFb x7 x1,xNr x5 x1 x7]:=by kernel_rfl
def vGI(x0 x1 x5 x6 x7 r1):rS 4 I87 (xKZ x0 x1 x5 x6 x7) [F,Y,F,F,F,F,F] [xB9 r1]=st 4 I87 (xKZ x0 x1 (x5++ [(xGN x0 x6)]) (W (x6+1)) (W (x7+1))) [xLj x6 x0,xHO x7 x1,xMi x7 x1,xLj x6 x0,iN false,xMi x6 x0,xFb x7 x1,xFb x6 x0,xOn x1 x7 x0 x6 r1,iN r1,xFb x6 x0,xNr x5 x0 x6]:=by kernel_rfl
def vGJ(x0 x1 x5 x6 x7):rS 4 I87 (xKZ x0 x1 x5 x6 x7) [F,F] []=dn (xG5 x5) [xLj x6 x0,xLj x7 x1]:=by kernel_rfl
def vBV(a0 a1):rE I87 (xJb a0 a1) [] []=st 4 I87 (xKZ a0 a1 [] 0 0) []:=by kernel_rfl
theorem vKa{N:Nat}:∀n x0 x1 x5 x6 x7 r,xCs N n x0 x1 x5 x6 x7=some r→RS Tryz.f87 I87 4 (xKZ x0 x1 x5 x6 x7) (xG5 r):=by
 intro n
 induction n with
 |zero=>exact fun _ _ _ _ _ _ h=>nE h
 |succ n ih=>
  exact fun x0 x1 x5 x6 x7 r h=>cE h (fun h0 h=>cE h (fun h2 h=>iE h fun h4 h=>iE h fun h5 h=>tS fk87 (vGA x0 x1 x5 x6 x7) (oc6 h0 rfl h2 rfl h4 h5 on) (ih _ _ _ _ _ _ h)) fun h2 h=>iE h fun h4 h=>iE h fun h5 h=>bE h fun r1 h6 h=>cE h (fun h7 h=>iE h fun h9 h=>tS fk87 (vGB x0 x1 x5 x6 x7 r1) (oc10 h0 rfl h2 h0 h4 h5 (xD6 h6) h7 h4 h9 on) (ih _ _ _ _ _ _ h)) fun h7 h=>cE h (fun h8 h=>iE h fun h11 h=>tS fk87 (vGC x0 x1 x5 x6 x7 r1) (oc12 h0 rfl h2 h0 h4 h5 (xD6 h6) h7 h8 rfl h5 h11 on) (ih _ _ _ _ _ _ h)) fun h8 h=>bE h fun r2 h11 h=>cE h (fun h12 h=>iE h fun h14 h=>tS fk87 (vGD x0 x1 x5 x6 x7 r1 r2) (oc12 h0 rfl h2 h0 h4 h5 (xD6 h6) h7 h8 h5 h4 (xD6 h11) (oc3 h12 h5 h14 on)) (ih _ _ _ _ _ _ h)) fun h12 h=>iE h fun h14 h=>tS fk87 (vGE x0 x1 x5 x6 x7 r1 r2) (oc12 h0 rfl h2 h0 h4 h5 (xD6 h6) h7 h8 h5 h4 (xD6 h11) (oc3 h12 h4 h14 on)) (ih _ _ _ _ _ _ h)) fun h0 h=>cE h (fun h1 h=>cE h (fun h2 h=>iE h fun h4 h=>iE h fun h5 h=>tS fk87 (vGF x0 x1 x5 x6 x7) (oc6 h0 h1 h2 rfl h4 h5 on) (ih _ _ _ _ _ _ h)) fun h2 h=>cE h (fun h5 h=>iE h fun h7 h=>iE h fun h8 h=>tS fk87 (vGG x0 x1 x5 x6 x7) (oc9 h0 h1 h2 h0 rfl h5 rfl h7 h8 on) (ih _ _ _ _ _ _ h)) fun h5 h=>iE h fun h6 h=>iE h fun h7 h=>bE h fun r1 h8 h=>cE h (fun h9 h=>iE h fun h11 h=>tS fk87 (vGH x0 x1 x5 x6 x7 r1) (oc12 h0 h1 h2 h0 rfl h5 h6 h7 (xD6 h8) h9 h6 h11 on) (ih _ _ _ _ _ _ h)) fun h9 h=>iE h fun h11 h=>tS fk87 (vGI x0 x1 x5 x6 x7 r1) (oc12 h0 h1 h2 h0 rfl h5 h6 h7 (xD6 h8) h9 h7 h11 on) (ih _ _ _ _ _ _ h)) fun h1 h=>dS h fk87 (vGJ x0 x1 x5 x6 x7) (oc2 h0 h1 on)
theorem vKb{N:Nat}:∀a0 a1 r,xJV N a0 a1=some r→RE Tryz.f87 I87 (xJb a0 a1) (xG5 r):=fun a0 a1 r h=>tE fk87 (vBV a0 a1) on (vKa _ _ _ _ _ _ _ h)
theorem xPC{N:Nat}{a0:List Org}{a1:List Org}{r:(List Org)}(h:xJV N  a0 a1=some r):AbC 87 (xJb a0 a1) (xG5 r):=
 AbsCalls.of_reach fk87 rfl rfl rfl (jL rfl) (vKb a0 a1 r h)
noncomputable def I38:Info:= { body:=(Tryz.f38.body).getD .skip,nt:=33,results:=[.cell 6 45],keep:=[0,2,4,6,8,12,14,7,9,13,15],live:=[],modes:=[(2,[(1,.take,false)]),(3,[(0,.take,false)])] }
theorem fk38:FnOk Tryz.prog 38 Tryz.f38 I38:=by refine⟨Tryz.func38,?_,?_,?_,?_⟩<;>kernel_rfl
abbrev xWs(v0:Int):=tN (W (v0+1))
def vDo(a0 a1 a2 r1):rE I38 (xJF a0 a1 a2) [] [xG5 r1]=dn (xIt (Rowd.mk ((([]++a0.cells)++(List.take (tN a2) a1.cells))++(List.drop (xWs a2) a1.cells)) r1)) [0+Ln a0.cells≤Lim,AbC 87 (xJb a0.frm a1.frm) (xG5 r1),(0:Int)≤a2∧a2≤(Ln a1.cells),Ln ([]++a0.cells)+Ln (List.take (tN a2) a1.cells)≤Lim,(0:Int)≤(W (a2+1))∧(W (a2+1))≤(Ln a1.cells),Ln (([]++a0.cells)++(List.take (tN a2) a1.cells))+Ln (List.drop (xWs a2) a1.cells)≤Lim]:=by kernel_rfl
theorem vJo{N:Nat}:∀a0 a1 a2 r,xKI N a0 a1 a2=some r→RE Tryz.f38 I38 (xJF a0 a1 a2) (xIt r):=fun a0 a1 a2 r h=>iE h fun h0 h=>bE h fun r1 h1 h=>iE h fun h2 h=>iE h fun h3 h=>iE h fun h4 h=>iE h fun h5 h=>dE h fk38 (vDo a0 a1 a2 r1) (oc6 h0 (xPC h1) h2 h3 h4 h5 on)
theorem xQe{N:Nat}{a0:Rowd}{a1:Rowd}{a2:Int}{r:Rowd}(h:xKI N  a0 a1 a2=some r):AbC 38 (xJF a0 a1 a2) (xIt r):=
 AbsCalls.of_reach fk38 rfl rfl rfl (jL rfl) (vJo a0 a1 a2 r h)
end Go.Ab.T
end
section
open Go.Proofs
namespace Go.Ab.T
set_option maxRecDepth 100000
variable [Inhabited Lb]
noncomputable def I9:Info:= { body:=(Tryz.f9.body).getD .skip,nt:=125,results:=[.cell 6 31],keep:=[0,2,4,6,8,10,12,14,16,18,20,22,24,26,46,76,124,134,146,160,202,244,7,9,11,13,15,23],live:=[(15,[8,10,12,18,20,22,24,9,11,13,23]),(18,[8,10,12,18,20,22,24,26,9,11,13,23])],modes:=[(1,[(6,.take,false)]),(2,[(0,.take,false)]),(3,[(0,.take,false)]),(6,[(2,.take,false)]),(9,[(1,.take,false)]),(21,[(1,.take,false),(15,.take,false)]),(24,[(0,.take,false)])] }
theorem fk9:FnOk Tryz.prog 9 Tryz.f9 I9:=by refine⟨Tryz.func9,?_,?_,?_,?_⟩<;>kernel_rfl
def xTI(x9 x10 x12:Int)(b4 b5 b6 b11:Val):St:=[(8,.v false [.ptr 4 0]),(10,.v false [.ptr 5 0]),(12,.v false [.ptr 6 0]),(18,.v false [.int .i64 x9]),(20,.v false [.int .i64 x10]),(22,.v false [.ptr 11 0]),(24,.v false [.int .i64 x12]),(9,.v true (Va .ro b4)),(11,.v true (Va .ro b5)),(13,.v true (Va .own b6)),(23,.v true (Va .own b11))]
def xTJ(x9 x10 x12 x13:Int)(b4 b5 b6 b11:Val):St:=[(8,.v false [.ptr 4 0]),(10,.v false [.ptr 5 0]),(12,.v false [.ptr 6 0]),(18,.v false [.int .i64 x9]),(20,.v false [.int .i64 x10]),(22,.v false [.ptr 11 0]),(24,.v false [.int .i64 x12]),(26,.v false [.int .i64 x13]),(9,.v true (Va .ro b4)),(11,.v true (Va .ro b5)),(13,.v true (Va .own b6)),(23,.v true (Va .own b11))]
abbrev xRf(v0:Val)(v1:Int):=Rowd.cells (gD v0.rows (tN v1) rd)
abbrev xQA(v0:Int)(v1:Val)(v2:Int):Prop:=(0:Int)≤v0∧v0<(Ln (xRf v1 v2))
abbrev xPi(v0:Val)(v1:Rowd):Prop:=Ln v0.rows+Ln [v1]≤Lim
abbrev xRj(v0:Val)(v1 v2:Int):=gD (Rowd.cells (gD v0.rows (tN v1) rd)) (tN v2) Ty.int.dflt
def vG0(x9 x10 x12 x13 b4 b5 b6 b11 r1):rS 18 I9 (xTJ x9 x10 x12 x13 b4 b5 b6 b11) [Y,Y] [xIt r1]=st 18 I9 (xTJ x9 x10 x12 (W (x13+1)) b4 b5 b6 (Val.mk b11.kind b11.n b11.step b11.text b11.list b11.columns (b11.rows++ [r1]))) [xJ2 x13 b5,xFP x12 b4,xQA x9 b4 x12,xFP x13 b5,xQA x10 b5 x13,iY (((xRj b4 x12 x9):Int)==(xRj b5 x13 x10)),xFP x12 b4,xFP x13 b5,AbC 38 (xJF (xPc b4 x12) (xPc b5 x13) x10) (xIt r1),xPi b11 r1]:=by kernel_rfl
def vG1(x9 x10 x12 x13 b4 b5 b6 b11):rS 18 I9 (xTJ x9 x10 x12 x13 b4 b5 b6 b11) [Y,F] []=st 18 I9 (xTJ x9 x10 x12 (W (x13+1)) b4 b5 b6 b11) [xJ2 x13 b5,xFP x12 b4,xQA x9 b4 x12,xFP x13 b5,xQA x10 b5 x13,iN (((xRj b4 x12 x9):Int)==(xRj b5 x13 x10))]:=by kernel_rfl
def vG2(x9 x10 x12 x13 b4 b5 b6 b11):rS 18 I9 (xTJ x9 x10 x12 x13 b4 b5 b6 b11) [F] []=st 15 I9 (xTI x9 x10 (W (x12+1)) b4 b5 b6 b11) [xMe x13 b5]:=by kernel_rfl
def vGX(x9 x10 x12 b4 b5 b6 b11):rS 15 I9 (xTI x9 x10 x12 b4 b5 b6 b11) [Y] []=st 18 I9 (xTJ x9 x10 x12 0 b4 b5 b6 b11) [xJ2 x12 b4]:=by kernel_rfl
def vGY(x9 x10 x12 b4 b5 b6 b11 r1):rS 15 I9 (xTI x9 x10 x12 b4 b5 b6 b11) [F,Y] [xBm r1]=dn (xAD r1) [xMe x12 b4,xUP b11,AbC 36 (xDi 6) (xBm r1)]:=by kernel_rfl
def vGZ(x9 x10 x12 b4 b5 b6 b11):rS 15 I9 (xTI x9 x10 x12 b4 b5 b6 b11) [F,F] []=dn (xAD b11) [xMe x12 b4,xUQ b11]:=by kernel_rfl
abbrev xQB(v0 v1 v2:Val)(v3:Val×Bool):Prop:=AbC 35 (xH2 [v0.re,v1.re,v2.re] [2,5,5]) (xDx v3)
def vIM(a0 a1 a2 r1):rE I9 (xFo a0 a1 a2) [Y] [xDx r1]=dn (xAD r1.1) [xQB a0 a1 a2 r1,iY r1.2]:=by kernel_rfl
abbrev xMI(v0 v1:Val)(v2:Int):Prop:=AbC 18 (xHi v0 v1.text) (xCf v2)
abbrev xMJ(v0:Int):Prop:=iY (dc (v0<0))
def vIN(a0 a1 a2 r1 r2 r3 r4):rE I9 (xFo a0 a1 a2) [F,Y,Y] [xDx r1,xCf r2,xCf r3,xBm r4]=dn (xAD r4) [xQB a0 a1 a2 r1,iN r1.2,xMI a1 a0 r2,xMI a2 a0 r3,xMJ r2,iY true,AbC 36 (xDi 7) (xBm r4)]:=by kernel_rfl
abbrev xHs(v0:Int):Prop:=iN (dc (v0<0))
def vIO(a0 a1 a2 r1 r2 r3 r4):rE I9 (xFo a0 a1 a2) [F,F,Y] [xDx r1,xCf r2,xCf r3,xBm r4]=dn (xAD r4) [xQB a0 a1 a2 r1,iN r1.2,xMI a1 a0 r2,xMI a2 a0 r3,xHs r2,xMJ r3,AbC 36 (xDi 7) (xBm r4)]:=by kernel_rfl
abbrev xJe(v0:Val):Prop:=0+Ln v0.columns≤Lim
abbrev xNY(v0:Int)(v1:Val):=List.take (tN v0) v1.columns
abbrev xWz(v0:Val)(v1:Int)(v2:Val):Prop:=Ln ([]++v0.columns)+Ln (xNY v1 v2)≤Lim
abbrev xWA(v0:Int)(v1:Val):Prop:=(0:Int)≤(W (v0+1))∧(W (v0+1))≤(Ln v1.columns)
abbrev xPd(v0:Int)(v1:Val):=List.drop (tN (W (v0+1))) v1.columns
abbrev xWB(v0:Val)(v1:Int)(v2:Val):Prop:=Ln (([]++v0.columns)++(xNY v1 v2))+Ln (xPd v1 v2)≤Lim
abbrev xWC(v0:Val)(v1:Int)(v2:Val)(v3:Bool):Prop:=AbC 37 (xGi ((([]++v0.columns)++(xNY v1 v2))++(xPd v1 v2))) (xC7 v3)
def vIP(a0 a1 a2 r1 r2 r3 r4 r5):rE I9 (xFo a0 a1 a2) [F,F,F,Y] [xDx r1,xCf r2,xCf r3,xC7 r4,xBm r5]=dn (xAD r5) [xQB a0 a1 a2 r1,iN r1.2,xMI a1 a0 r2,xMI a2 a0 r3,xHs r2,xHs r3,xJe a1,(0:Int)≤r3∧r3≤(Ln a2.columns),xWz a1 r3 a2,xWA r3 a2,xWB a1 r3 a2,xWC a1 r3 a2 r4,iY (!r4),AbC 36 (xDi 7) (xBm r5)]:=by kernel_rfl
def vG3(a0 a1 a2 r1 r2 r3 r4 r5):rE I9 (xFo a0 a1 a2) [F,F,F,F,Y] [xDx r1,xCf r2,xCf r3,xC7 r4,xBm r5]=dn (xAD r5) [xQB a0 a1 a2 r1,iN r1.2,xMI a1 a0 r2,xMI a2 a0 r3,xHs r2,xHs r3,xJe a1,(0:Int)≤r3∧r3≤(Ln a2.columns),xWz a1 r3 a2,xWA r3 a2,xWB a1 r3 a2,xWC a1 r3 a2 r4,xBT r4,iY (dc (((Ln ((([]++a1.columns)++(xNY r3 a2))++(xPd r3 a2)):Int):Int)>4)),AbC 36 (xDi 6) (xBm r5)]:=by kernel_rfl
def vG4(a0 a1 a2 r1 r2 r3 r4):rE I9 (xFo a0 a1 a2) [F,F,F,F,F] [xDx r1,xCf r2,xCf r3,xC7 r4]=st 15 I9 (xTI r2 r3 0 a1 a2 (Val.mk 0 0 0 [] [] [] []) (Val.mk 5 0 0 [] [] ((([]++a1.columns)++(xNY r3 a2))++(xPd r3 a2)) [])) [xQB a0 a1 a2 r1,iN r1.2,xMI a1 a0 r2,xMI a2 a0 r3,xHs r2,xHs r3,xJe a1,(0:Int)≤r3∧r3≤(Ln a2.columns),xWz a1 r3 a2,xWA r3 a2,xWB a1 r3 a2,xWC a1 r3 a2 r4,xBT r4,iN (dc (((Ln ((([]++a1.columns)++(xNY r3 a2))++(xPd r3 a2)):Int):Int)>4))]:=by kernel_rfl
theorem vKk{N:Nat}{k15:Int→Int→Int→Val→Val→Val→Val→Option (Val)}(hk15:∀z0 z1 z2 z3 z4 z5 z6 r,k15 z0 z1 z2 z3 z4 z5 z6=some r→RS Tryz.f9 I9 15 (xTI z0 z1 z2 z3 z4 z5 z6) (xAD r)):∀n x9 x10 x12 x13 b4 b5 b6 b11 r,xGm N k15 n x9 x10 x12 x13 b4 b5 b6 b11=some r→RS Tryz.f9 I9 18 (xTJ x9 x10 x12 x13 b4 b5 b6 b11) (xAD r):=by
 intro n
 induction n with
 |zero=>exact fun _ _ _ _ _ _ _ _ _ h=>nE h
 |succ n ih=>
  exact fun x9 x10 x12 x13 b4 b5 b6 b11 r h=>cE h (fun h0 h=>iE h fun h1 h=>iE h fun h2 h=>iE h fun h3 h=>iE h fun h4 h=>cE h (fun h5 h=>bE h fun r1 h8 h=>iE h fun h9 h=>tS fk9 (vG0 x9 x10 x12 x13 b4 b5 b6 b11 r1) (oc10 h0 h1 h2 h3 h4 h5 h1 h3 (xQe h8) h9 on) (ih _ _ _ _ _ _ _ _ _ h)) fun h5 h=>tS fk9 (vG1 x9 x10 x12 x13 b4 b5 b6 b11) (oc6 h0 h1 h2 h3 h4 h5 on) (ih _ _ _ _ _ _ _ _ _ h)) fun h0 h=>tS fk9 (vG2 x9 x10 x12 x13 b4 b5 b6 b11) (oc h0 on) (hk15 _ _ _ _ _ _ _ _ h)
theorem vKj{N:Nat}:∀n x9 x10 x12 b4 b5 b6 b11 r,xFw N n x9 x10 x12 b4 b5 b6 b11=some r→RS Tryz.f9 I9 15 (xTI x9 x10 x12 b4 b5 b6 b11) (xAD r):=by
 intro n
 induction n with
 |zero=>exact fun _ _ _ _ _ _ _ _ h=>nE h
 |succ n ih=>
  exact fun x9 x10 x12 b4 b5 b6 b11 r h=>cE h (fun h0 h=>tS fk9 (vGX x9 x10 x12 b4 b5 b6 b11) (oc h0 on) (vKk ih _ _ _ _ _ _ _ _ _ _ h)) fun h0 h=>cE h (fun h1 h=>bE h fun r1 h2 h=>dS h fk9 (vGY x9 x10 x12 b4 b5 b6 b11 r1) (oc3 h0 h1 (xC4 h2) on)) fun h1 h=>dS h fk9 (vGZ x9 x10 x12 b4 b5 b6 b11) (oc2 h0 h1 on)
theorem c9_e{N:Nat}:∀a0 a1 a2 r,xAU N a0 a1 a2=some r→RE Tryz.f9 I9 (xFo a0 a1 a2) (xAD r):=fun a0 a1 a2 r h=>bE h fun r1 h0 h=>cE h (fun h1 h=>dE h fk9 (vIM a0 a1 a2 r1) (oc2 (xG3 h0) h1 on)) fun h1 h=>bE h fun r2 h2 h=>bE h fun r3 h3 h=>cE h (fun h4 h=>bE h fun r4 h6 h=>dE h fk9 (vIN a0 a1 a2 r1 r2 r3 r4) (oc7 (xG3 h0) h1 (xDk h2) (xDk h3) h4 rfl (xC4 h6) on)) fun h4 h=>cE h (fun h5 h=>bE h fun r4 h6 h=>dE h fk9 (vIO a0 a1 a2 r1 r2 r3 r4) (oc7 (xG3 h0) h1 (xDk h2) (xDk h3) h4 h5 (xC4 h6) on)) fun h5 h=>iE h fun h6 h=>iE h fun h7 h=>iE h fun h8 h=>iE h fun h9 h=>iE h fun h10 h=>bE h fun r4 h11 h=>cE h (fun h12 h=>bE h fun r5 h13 h=>dE h fk9 (vIP a0 a1 a2 r1 r2 r3 r4 r5) (oc12 (xG3 h0) h1 (xDk h2) (xDk h3) h4 h5 h6 h7 h8 h9 h10 (xHh h11) (oc2 h12 (xC4 h13) on))) fun h12 h=>cE h (fun h13 h=>bE h fun r5 h14 h=>dE h fk9 (vG3 a0 a1 a2 r1 r2 r3 r4 r5) (oc12 (xG3 h0) h1 (xDk h2) (xDk h3) h4 h5 h6 h7 h8 h9 h10 (xHh h11) (oc3 h12 h13 (xC4 h14) on))) fun h13 h=>tE fk9 (vG4 a0 a1 a2 r1 r2 r3 r4) (oc12 (xG3 h0) h1 (xDk h2) (xDk h3) h4 h5 h6 h7 h8 h9 h10 (xHh h11) (oc2 h12 h13 on)) (vKj _ _ _ _ _ _ _ _ _ h)
theorem xAN{N:Nat}{a0:Val}{a1:Val}{a2:Val}{r:Val}(h:xAU N  a0 a1 a2=some r):AbC 9 (xFo a0 a1 a2) (xAD r):=
 AbsCalls.of_reach fk9 rfl rfl rfl (jL rfl) (c9_e a0 a1 a2 r h)
noncomputable def I114:Info:= { body:=(Tryz.f114.body).getD .skip,nt:=15,results:=[.tmp 6],keep:=[0,2,4,12],live:=[],modes:=[(1,[(3,.take,false)])] }
theorem vCq:FnOk Tryz.prog 114 Tryz.f114 I114:=by refine⟨Tryz.func114,?_,?_,?_,?_⟩<;>kernel_rfl
def xYq(a0 a1 a2):rE I114 (xFm a0 a1 a2) [Y] []=dn (xDA (dc (a0≤a2))) [xMB a1 a0]:=by kernel_rfl
def xYr(a0 a1 a2):rE I114 (xFm a0 a1 a2) [F] []=dn (xDA false) [xPP a1 a0]:=by kernel_rfl
theorem vHv{N:Nat}:∀a0 a1 a2 r,xHX N a0 a1 a2=some r→RE Tryz.f114 I114 (xFm a0 a1 a2) (xDA r):=fun a0 a1 a2 r h=>cE h (fun h0 h=>dE h vCq (xYq a0 a1 a2) (oc h0 on)) fun h0 h=>dE h vCq (xYr a0 a1 a2) (oc h0 on)
theorem xIm{N:Nat}{a0:Int}{a1:Int}{a2:Int}{r:Bool}(h:xHX N  a0 a1 a2=some r):AbC 114 (xFm a0 a1 a2) (xDA r):=
 AbsCalls.of_reach vCq rfl rfl rfl (jL rfl) (vHv a0 a1 a2 r h)
noncomputable def I82:Info:= { body:=(Tryz.f82.body).getD .skip,nt:=5,results:=[.tmp 2],keep:=[0,4],live:=[],modes:=[] }
theorem fk82:FnOk Tryz.prog 82 Tryz.f82 I82:=by refine⟨Tryz.func82,?_,?_,?_,?_⟩<;>kernel_rfl
def vGq(a0 r1):rE I82 (xEu a0) [] [xDA r1]=dn (xCF r1) [AbC 114 (xFm a0 (-1000000000) 1000000000) (xDA r1)]:=by kernel_rfl
theorem vJ5{N:Nat}:∀a0 r,xGC N a0=some r→RE Tryz.f82 I82 (xEu a0) (xCF r):=fun a0 r h=>bE h fun r1 h0 h=>dE h fk82 (vGq a0 r1) (oc (xIm h0) on)
theorem xGw{N:Nat}{a0:Int}{r:Bool}(h:xGC N  a0=some r):AbC 82 (xEu a0) (xCF r):=
 AbsCalls.of_reach fk82 rfl rfl rfl (jL rfl) (vJ5 a0 r h)
noncomputable def I113:Info:= { body:=(Tryz.f113.body).getD .skip,nt:=29,results:=[.tmp 2],keep:=[0,4,6,14,50],live:=[(2,[0,6])],modes:=[(4,[(4,.take,false),(10,.take,false)])] }
theorem xTX:FnOk Tryz.prog 113 Tryz.f113 I113:=by refine⟨Tryz.func113,?_,?_,?_,?_⟩<;>kernel_rfl
def xN7(x0:Str)(x3:Int):St:=[(0,.v false [.str x0]),(6,.v false [.int .i64 x3])]
def xYk(x0 x3):rS 2 I113 (xN7 x0 x3) [Y,Y,Y,Y] []=dn (xDE false) [xGE x3 x0,xCb x3 x0,iY (xUd x0 x3),iY true,iY true]:=by kernel_rfl
def xYl(x0 x3):rS 2 I113 (xN7 x0 x3) [Y,F,Y,Y] []=dn (xDE false) [xGE x3 x0,xCb x3 x0,xQx x0 x3,xCb x3 x0,iY (xUe x0 x3),iY true]:=by kernel_rfl
def xYm(x0 x3):rS 2 I113 (xN7 x0 x3) [Y,F,F,Y] []=dn (xDE false) [xGE x3 x0,xCb x3 x0,xQx x0 x3,xCb x3 x0,xUN x0 x3,xCb x3 x0,iY (xRd x0 x3)]:=by kernel_rfl
def xYn(x0 x3):rS 2 I113 (xN7 x0 x3) [Y,F,F,F] []=st 2 I113 (xN7 x0 (W (x3+1))) [xGE x3 x0,xCb x3 x0,xQx x0 x3,xCb x3 x0,xUN x0 x3,xCb x3 x0,iN (xRd x0 x3)]:=by kernel_rfl
def xYo(x0 x3):rS 2 I113 (xN7 x0 x3) [F] []=dn (xDE (dc ((Ln x0:Int)≤20))) [iN (dc (x3<(Ln x0:Int)))]:=by kernel_rfl
def xYp(a0):rE I113 (xHf a0) [] []=st 2 I113 (xN7 a0 0) []:=by kernel_rfl
theorem vHt{N:Nat}:∀n x0 x3 r,xGb N n x0 x3=some r→RS Tryz.f113 I113 2 (xN7 x0 x3) (xDE r):=by
 intro n
 induction n with
 |zero=>exact fun _ _ _ h=>nE h
 |succ n ih=>
  exact fun x0 x3 r h=>cE h (fun h0 h=>iE h fun h1 h=>cE h (fun h2 h=>dS h xTX (xYk x0 x3) (oc5 h0 h1 h2 rfl rfl on)) fun h2 h=>cE h (fun h4 h=>dS h xTX (xYl x0 x3) (oc6 h0 h1 h2 h1 h4 rfl on)) fun h4 h=>cE h (fun h6 h=>dS h xTX (xYm x0 x3) (oc7 h0 h1 h2 h1 h4 h1 h6 on)) fun h6 h=>tS xTX (xYn x0 x3) (oc7 h0 h1 h2 h1 h4 h1 h6 on) (ih _ _ _ h)) fun h0 h=>dS h xTX (xYo x0 x3) (oc h0 on)
theorem vHu{N:Nat}:∀a0 r,xIw N a0=some r→RE Tryz.f113 I113 (xHf a0) (xDE r):=fun a0 r h=>tE xTX (xYp a0) on (vHt _ _ _ _ h)
theorem xMR{N:Nat}{a0:Str}{r:Bool}(h:xIw N  a0=some r):AbC 113 (xHf a0) (xDE r):=
 AbsCalls.of_reach xTX rfl rfl rfl (jL rfl) (vHu a0 r h)
noncomputable def I185:Info:= { body:=(Tryz.f185.body).getD .skip,nt:=42,results:=[.tmp 2],keep:=[0,4,6,8,16,76],live:=[(2,[0,6])],modes:=[(4,[(4,.take,false)]),(5,[(0,.take,false),(2,.take,false),(5,.take,false),(11,.take,false)])] }
theorem xOs:FnOk Tryz.prog 185 Tryz.f185 I185:=by refine⟨Tryz.func185,?_,?_,?_,?_⟩<;>kernel_rfl
def xKa(x0:Str)(x3:Int):St:=[(0,.v false [.str x0]),(6,.v false [.int .i64 x3])]
def xZ5(x0 x3):rS 2 I185 (xKa x0 x3) [Y,Y,Y,Y,Y,Y] []=dn (xDz false) [xGE x3 x0,xCb x3 x0,xLR x0 x3,xCb x3 x0,xNn x0 x3,iY (x3==0),iY true,iY true]:=by kernel_rfl
abbrev xUh(v0:Str)(v1:Int):=dc ((((gD v0 (tN v1) 0).toNat:Int):Int)<48)
def xZ6(x0 x3):rS 2 I185 (xKa x0 x3) [Y,Y,Y,F,Y,Y] []=dn (xDz false) [xGE x3 x0,xCb x3 x0,xLR x0 x3,xCb x3 x0,xNn x0 x3,xKN x3,xCb x3 x0,iY (xUh x0 x3),iY true]:=by kernel_rfl
abbrev xUR(v0:Str)(v1:Int):Prop:=iN (xUh v0 v1)
abbrev xRk(v0:Str)(v1:Int):=dc ((((gD v0 (tN v1) 0).toNat:Int):Int)>57)
def xZ7(x0 x3):rS 2 I185 (xKa x0 x3) [Y,Y,Y,F,F,Y] []=dn (xDz false) [xGE x3 x0,xCb x3 x0,xLR x0 x3,xCb x3 x0,xNn x0 x3,xKN x3,xCb x3 x0,xUR x0 x3,xCb x3 x0,iY (xRk x0 x3)]:=by kernel_rfl
def xZ8(x0 x3):rS 2 I185 (xKa x0 x3) [Y,Y,Y,F,F,F] []=st 2 I185 (xKa x0 (W (x3+1))) [xGE x3 x0,xCb x3 x0,xLR x0 x3,xCb x3 x0,xNn x0 x3,xKN x3,xCb x3 x0,xUR x0 x3,xCb x3 x0,iN (xRk x0 x3)]:=by kernel_rfl
def xZ9(x0 x3):rS 2 I185 (xKa x0 x3) [Y,Y,F,F] []=st 2 I185 (xKa x0 (W (x3+1))) [xGE x3 x0,xCb x3 x0,xLR x0 x3,xCb x3 x0,xWy x0 x3,iN false]:=by kernel_rfl
def vAa(x0 x3):rS 2 I185 (xKa x0 x3) [Y,F,Y,Y,Y,Y] []=dn (xDz false) [xGE x3 x0,xCb x3 x0,xNo x0 x3,iY (!false),iY (x3==0),iY true,iY true]:=by kernel_rfl
def vAb(x0 x3):rS 2 I185 (xKa x0 x3) [Y,F,Y,F,Y,Y] []=dn (xDz false) [xGE x3 x0,xCb x3 x0,xNo x0 x3,iY (!false),xKN x3,xCb x3 x0,iY (xUh x0 x3),iY true]:=by kernel_rfl
def vAc(x0 x3):rS 2 I185 (xKa x0 x3) [Y,F,Y,F,F,Y] []=dn (xDz false) [xGE x3 x0,xCb x3 x0,xNo x0 x3,iY (!false),xKN x3,xCb x3 x0,xUR x0 x3,xCb x3 x0,iY (xRk x0 x3)]:=by kernel_rfl
def vAd(x0 x3):rS 2 I185 (xKa x0 x3) [Y,F,Y,F,F,F] []=st 2 I185 (xKa x0 (W (x3+1))) [xGE x3 x0,xCb x3 x0,xNo x0 x3,iY (!false),xKN x3,xCb x3 x0,xUR x0 x3,xCb x3 x0,iN (xRk x0 x3)]:=by kernel_rfl
def vAe(x0 x3 r1):rS 2 I185 (xKa x0 x3) [F] [xDA r1]=dn (xDz r1) [iN (dc (x3<(Ln x0:Int))),AbC 114 (xFm (Ln x0:Int) 1 8) (xDA r1)]:=by kernel_rfl
def xWV(a0):rE I185 (xIl a0) [] []=st 2 I185 (xKa a0 0) []:=by kernel_rfl
theorem vIc{N:Nat}:∀n x0 x3 r,xFl N n x0 x3=some r→RS Tryz.f185 I185 2 (xKa x0 x3) (xDz r):=by
 intro n
 induction n with
 |zero=>exact fun _ _ _ h=>nE h
 |succ n ih=>
  exact fun x0 x3 r h=>cE h (fun h0 h=>iE h fun h1 h=>cE h (fun h2 h=>cE h (fun h4 h=>cE h (fun h5 h=>dS h xOs (xZ5 x0 x3) (oc8 h0 h1 h2 h1 h4 h5 rfl rfl on)) fun h5 h=>cE h (fun h7 h=>dS h xOs (xZ6 x0 x3) (oc9 h0 h1 h2 h1 h4 h5 h1 h7 rfl on)) fun h7 h=>cE h (fun h9 h=>dS h xOs (xZ7 x0 x3) (oc10 h0 h1 h2 h1 h4 h5 h1 h7 h1 h9 on)) fun h9 h=>tS xOs (xZ8 x0 x3) (oc10 h0 h1 h2 h1 h4 h5 h1 h7 h1 h9 on) (ih _ _ _ h)) fun h4 h=>tS xOs (xZ9 x0 x3) (oc6 h0 h1 h2 h1 h4 rfl on) (ih _ _ _ h)) fun h2 h=>cE h (fun h4 h=>dS h xOs (vAa x0 x3) (oc7 h0 h1 h2 rfl h4 rfl rfl on)) fun h4 h=>cE h (fun h6 h=>dS h xOs (vAb x0 x3) (oc8 h0 h1 h2 rfl h4 h1 h6 rfl on)) fun h6 h=>cE h (fun h8 h=>dS h xOs (vAc x0 x3) (oc9 h0 h1 h2 rfl h4 h1 h6 h1 h8 on)) fun h8 h=>tS xOs (vAd x0 x3) (oc9 h0 h1 h2 rfl h4 h1 h6 h1 h8 on) (ih _ _ _ h)) fun h0 h=>bE h fun r1 h1 h=>dS h xOs (vAe x0 x3 r1) (oc2 h0 (xIm h1) on)
theorem vId{N:Nat}:∀a0 r,xLy N a0=some r→RE Tryz.f185 I185 (xIl a0) (xDz r):=fun a0 r h=>tE xOs (xWV a0) on (vIc _ _ _ _ h)
theorem xMF{N:Nat}{a0:Str}{r:Bool}(h:xLy N  a0=some r):AbC 185 (xIl a0) (xDz r):=
 AbsCalls.of_reach xOs rfl rfl rfl (jL rfl) (vId a0 r h)
noncomputable def I195:Info:= { body:=(Tryz.f195.body).getD .skip,nt:=26,results:=[.tmp 2],keep:=[0,4,6,8,12,24,40,48],live:=[],modes:=[] }
theorem xLw:FnOk Tryz.prog 195 Tryz.f195 I195:=by refine⟨Tryz.func195,?_,?_,?_,?_⟩<;>kernel_rfl
def vAy(a0):rE I195 (xA9 a0) [Y] []=dn (xA1 0) [iY ((a0:Str)== [99,108,111,99,107])]:=by kernel_rfl
abbrev xJP(v0:Str):Prop:=iN ((v0:Str)== [99,108,111,99,107])
def vAz(a0):rE I195 (xA9 a0) [F,Y,Y] []=dn (xA1 1) [xJP a0,iY ((a0:Str)== [108,101,110]),iY ((a0:Str)== [108,101,110])]:=by kernel_rfl
abbrev xJ4(v0:Str):Prop:=iN ((v0:Str)== [108,101,110])
def vAA(a0):rE I195 (xA9 a0) [F,F,Y,Y] []=dn (xA1 1) [xJP a0,xJ4 a0,iY ((a0:Str)== [115,117,109]),iY ((a0:Str)== [115,117,109])]:=by kernel_rfl
abbrev xKv(v0:Str):Prop:=iN ((v0:Str)== [115,117,109])
abbrev xUi(v0:Str):=(v0:Str)== [114,111,119,115]
def vAB(a0):rE I195 (xA9 a0) [F,F,F,Y,Y] []=dn (xA1 1) [xJP a0,xJ4 a0,xKv a0,iY (xUi a0),iY (xUi a0)]:=by kernel_rfl
abbrev xKQ(v0:Str):Prop:=iN (xUi v0)
abbrev xUj(v0:Str):=(v0:Str)== [99,104,97,110,99,101]
def vAC(a0):rE I195 (xA9 a0) [F,F,F,F,Y,Y] []=dn (xA1 1) [xJP a0,xJ4 a0,xKv a0,xKQ a0,iY (xUj a0),iY (xUj a0)]:=by kernel_rfl
abbrev xLl(v0:Str):Prop:=iN (xUj v0)
def vAD(a0):rE I195 (xA9 a0) [F,F,F,F,F,Y] []=dn (xA1 1) [xJP a0,xJ4 a0,xKv a0,xKQ a0,xLl a0,iY ((a0:Str)== [102,105,108,101])]:=by kernel_rfl
abbrev xLT(v0:Str):Prop:=iN ((v0:Str)== [102,105,108,101])
abbrev xUk(v0:Str):=(v0:Str)== [116,97,107,101]
def vAE(a0):rE I195 (xA9 a0) [F,F,F,F,F,F,Y,Y] []=dn (xA1 2) [xJP a0,xJ4 a0,xKv a0,xKQ a0,xLl a0,xLT a0,iY (xUk a0),iY (xUk a0)]:=by kernel_rfl
abbrev xMj(v0:Str):Prop:=iN (xUk v0)
abbrev xUl(v0:Str):=(v0:Str)== [115,107,105,112]
def vAF(a0):rE I195 (xA9 a0) [F,F,F,F,F,F,F,Y,Y] []=dn (xA1 2) [xJP a0,xJ4 a0,xKv a0,xKQ a0,xLl a0,xLT a0,xMj a0,iY (xUl a0),iY (xUl a0)]:=by kernel_rfl
abbrev xMK(v0:Str):Prop:=iN (xUl v0)
abbrev xUm(v0:Str):=(v0:Str)== [114,97,110,103,101]
def vAG(a0):rE I195 (xA9 a0) [F,F,F,F,F,F,F,F,Y,Y] []=dn (xA1 2) [xJP a0,xJ4 a0,xKv a0,xKQ a0,xLl a0,xLT a0,xMj a0,xMK a0,iY (xUm a0),iY (xUm a0)]:=by kernel_rfl
abbrev xNs(v0:Str):Prop:=iN (xUm v0)
def vAH(a0):rE I195 (xA9 a0) [F,F,F,F,F,F,F,F,F,Y,Y] []=dn (xA1 2) [xJP a0,xJ4 a0,xKv a0,xKQ a0,xLl a0,xLT a0,xMj a0,xMK a0,xNs a0,iY ((a0:Str)== [110,116,104]),iY ((a0:Str)== [110,116,104])]:=by kernel_rfl
abbrev xOo(v0:Str):Prop:=iN ((v0:Str)== [110,116,104])
abbrev xUn(v0:Str):=(v0:Str)== [107,101,101,112]
def xW0(a0):rE I195 (xA9 a0) [F,F,F,F,F,F,F,F,F,F,Y,Y] []=dn (xA1 2) [xJP a0,xJ4 a0,xKv a0,xKQ a0,xLl a0,xLT a0,xMj a0,xMK a0,xNs a0,xOo a0,iY (xUn a0),iY (xUn a0)]:=by kernel_rfl
abbrev xPj(v0:Str):Prop:=iN (xUn v0)
abbrev xUo(v0:Str):=(v0:Str)== [99,111,108,117,109,110]
def xW1(a0):rE I195 (xA9 a0) [F,F,F,F,F,F,F,F,F,F,F,Y,Y] []=dn (xA1 2) [xJP a0,xJ4 a0,xKv a0,xKQ a0,xLl a0,xLT a0,xMj a0,xMK a0,xNs a0,xOo a0,xPj a0,iY (xUo a0),iY (xUo a0)]:=by kernel_rfl
abbrev xQC(v0:Str):Prop:=iN (xUo v0)
def xW2(a0):rE I195 (xA9 a0) [F,F,F,F,F,F,F,F,F,F,F,F,Y] []=dn (xA1 2) [xJP a0,xJ4 a0,xKv a0,xKQ a0,xLl a0,xLT a0,xMj a0,xMK a0,xNs a0,xOo a0,xPj a0,xQC a0,iY ((a0:Str)== [116,97,98,108,101])]:=by kernel_rfl
abbrev xSW(v0:Str):Prop:=iN ((v0:Str)== [116,97,98,108,101])
abbrev xUp(v0:Str):=(v0:Str)== [119,104,101,114,101]
def xW3(a0):rE I195 (xA9 a0) [F,F,F,F,F,F,F,F,F,F,F,F,F,Y,Y] []=dn (xA1 3) [xJP a0,xJ4 a0,xKv a0,xKQ a0,xLl a0,xLT a0,xMj a0,xMK a0,xNs a0,xOo a0,xPj a0,xQC a0,xSW a0,iY (xUp a0),iY (xUp a0)]:=by kernel_rfl
abbrev xQ3(v0:Str):Prop:=iN (xUp v0)
abbrev xUq(v0:Str):=(v0:Str)== [103,114,111,117,112]
def xW4(a0):rE I195 (xA9 a0) [F,F,F,F,F,F,F,F,F,F,F,F,F,F,Y,Y] []=dn (xA1 3) [xJP a0,xJ4 a0,xKv a0,xKQ a0,xLl a0,xLT a0,xMj a0,xMK a0,xNs a0,xOo a0,xPj a0,xQC a0,xSW a0,xQ3 a0,iY (xUq a0),iY (xUq a0)]:=by kernel_rfl
abbrev xT6(v0:Str):Prop:=iN (xUq v0)
abbrev xUr(v0:Str):=(v0:Str)== [106,111,105,110]
def xW5(a0):rE I195 (xA9 a0) [F,F,F,F,F,F,F,F,F,F,F,F,F,F,F,Y] []=dn (xA1 3) [xJP a0,xJ4 a0,xKv a0,xKQ a0,xLl a0,xLT a0,xMj a0,xMK a0,xNs a0,xOo a0,xPj a0,xQC a0,xSW a0,xQ3 a0,xT6 a0,iY (xUr a0)]:=by kernel_rfl
def xW6(a0):rE I195 (xA9 a0) [F,F,F,F,F,F,F,F,F,F,F,F,F,F,F,F,Y] []=dn (xA1 4) [xJP a0,xJ4 a0,xKv a0,xKQ a0,xLl a0,xLT a0,xMj a0,xMK a0,xNs a0,xOo a0,xPj a0,xQC a0,xSW a0,xQ3 a0,xT6 a0,iN (xUr a0),iY ((a0:Str)== [97,100,100])]:=by kernel_rfl
def xW7(a0):rE I195 (xA9 a0) [F,F,F,F,F,F,F,F,F,F,F,F,F,F,F,F,F] []=dn (xA1 (-1)) [xJP a0,xJ4 a0,xKv a0,xKQ a0,xLl a0,xLT a0,xMj a0,xMK a0,xNs a0,xOo a0,xPj a0,xQC a0,xSW a0,xQ3 a0,xT6 a0,iN (xUr a0),iN ((a0:Str)== [97,100,100])]:=by kernel_rfl
theorem vIi{N:Nat}:∀a0 r,xHM N a0=some r→RE Tryz.f195 I195 (xA9 a0) (xA1 r):=fun a0 r h=>cE h (fun h0 h=>dE h xLw (vAy a0) (oc h0 on)) fun h0 h=>cE h (fun h1 h=>dE h xLw (vAz a0) (oc3 h0 h1 h1 on)) fun h1 h=>cE h (fun h2 h=>dE h xLw (vAA a0) (oc4 h0 h1 h2 h2 on)) fun h2 h=>cE h (fun h3 h=>dE h xLw (vAB a0) (oc5 h0 h1 h2 h3 h3 on)) fun h3 h=>cE h (fun h4 h=>dE h xLw (vAC a0) (oc6 h0 h1 h2 h3 h4 h4 on)) fun h4 h=>cE h (fun h5 h=>dE h xLw (vAD a0) (oc6 h0 h1 h2 h3 h4 h5 on)) fun h5 h=>cE h (fun h6 h=>dE h xLw (vAE a0) (oc8 h0 h1 h2 h3 h4 h5 h6 h6 on)) fun h6 h=>cE h (fun h7 h=>dE h xLw (vAF a0) (oc9 h0 h1 h2 h3 h4 h5 h6 h7 h7 on)) fun h7 h=>cE h (fun h8 h=>dE h xLw (vAG a0) (oc10 h0 h1 h2 h3 h4 h5 h6 h7 h8 h8 on)) fun h8 h=>cE h (fun h9 h=>dE h xLw (vAH a0) (oc11 h0 h1 h2 h3 h4 h5 h6 h7 h8 h9 h9 on)) fun h9 h=>cE h (fun h10 h=>dE h xLw (xW0 a0) (oc12 h0 h1 h2 h3 h4 h5 h6 h7 h8 h9 h10 h10 on)) fun h10 h=>cE h (fun h11 h=>dE h xLw (xW1 a0) (oc12 h0 h1 h2 h3 h4 h5 h6 h7 h8 h9 h10 h11 (oc h11 on))) fun h11 h=>cE h (fun h12 h=>dE h xLw (xW2 a0) (oc12 h0 h1 h2 h3 h4 h5 h6 h7 h8 h9 h10 h11 (oc h12 on))) fun h12 h=>cE h (fun h13 h=>dE h xLw (xW3 a0) (oc12 h0 h1 h2 h3 h4 h5 h6 h7 h8 h9 h10 h11 (oc3 h12 h13 h13 on))) fun h13 h=>cE h (fun h14 h=>dE h xLw (xW4 a0) (oc12 h0 h1 h2 h3 h4 h5 h6 h7 h8 h9 h10 h11 (oc4 h12 h13 h14 h14 on))) fun h14 h=>cE h (fun h15 h=>dE h xLw (xW5 a0) (oc12 h0 h1 h2 h3 h4 h5 h6 h7 h8 h9 h10 h11 (oc4 h12 h13 h14 h15 on))) fun h15 h=>cE h (fun h16 h=>dE h xLw (xW6 a0) (oc12 h0 h1 h2 h3 h4 h5 h6 h7 h8 h9 h10 h11 (oc5 h12 h13 h14 h15 h16 on))) fun h16 h=>
 dE h xLw (xW7 a0) (oc12 h0 h1 h2 h3 h4 h5 h6 h7 h8 h9 h10 h11 (oc5 h12 h13 h14 h15 h16 on))
theorem xL2{N:Nat}{a0:Str}{r:Int}(h:xHM N  a0=some r):AbC 195 (xA9 a0) (xA1 r):=
 AbsCalls.of_reach xLw rfl rfl rfl (jL rfl) (vIi a0 r h)
noncomputable def I186:Info:= { body:=(Tryz.f186.body).getD .skip,nt:=15,results:=[.tmp 2],keep:=[0,4,6,8],live:=[],modes:=[] }
theorem xQR:FnOk Tryz.prog 186 Tryz.f186 I186:=by refine⟨Tryz.func186,?_,?_,?_,?_⟩<;>kernel_rfl
def vAf(a0):rE I186 (xDh a0) [Y,Y] []=dn (xC0 true) [iY ((a0:Str)== [108,101,116]),iY ((a0:Str)== [108,101,116])]:=by kernel_rfl
abbrev xMV(v0:Str):Prop:=iN ((v0:Str)== [108,101,116])
def vAg(a0):rE I186 (xDh a0) [F,Y,Y] []=dn (xC0 true) [xMV a0,iY ((a0:Str)== [105,110]),iY ((a0:Str)== [105,110])]:=by kernel_rfl
abbrev xNO(v0:Str):Prop:=iN ((v0:Str)== [105,110])
def vAh(a0):rE I186 (xDh a0) [F,F,Y,Y] []=dn (xC0 true) [xMV a0,xNO a0,iY ((a0:Str)== [105,102]),iY ((a0:Str)== [105,102])]:=by kernel_rfl
abbrev xO9(v0:Str):Prop:=iN ((v0:Str)== [105,102])
abbrev xUs(v0:Str):=(v0:Str)== [116,104,101,110]
def vAi(a0):rE I186 (xDh a0) [F,F,F,Y,Y] []=dn (xC0 true) [xMV a0,xNO a0,xO9 a0,iY (xUs a0),iY (xUs a0)]:=by kernel_rfl
abbrev xQ4(v0:Str):Prop:=iN (xUs v0)
abbrev xUt(v0:Str):=(v0:Str)== [101,108,115,101]
def vAj(a0):rE I186 (xDh a0) [F,F,F,F,Y,Y] []=dn (xC0 true) [xMV a0,xNO a0,xO9 a0,xQ4 a0,iY (xUt a0),iY (xUt a0)]:=by kernel_rfl
abbrev xT7(v0:Str):Prop:=iN (xUt v0)
abbrev xRl(v0:Str):=(v0:Str)== [102,111,114]
def vAk(a0):rE I186 (xDh a0) [F,F,F,F,F,Y,Y] []=dn (xC0 true) [xMV a0,xNO a0,xO9 a0,xQ4 a0,xT7 a0,iY (xRl a0),iY (xRl a0)]:=by kernel_rfl
def vAl(a0):rE I186 (xDh a0) [F,F,F,F,F,F,Y] []=dn (xC0 true) [xMV a0,xNO a0,xO9 a0,xQ4 a0,xT7 a0,iN (xRl a0),iY ((a0:Str)== [100,111])]:=by kernel_rfl
def vAm(a0 r1):rE I186 (xDh a0) [F,F,F,F,F,F,F] [xA1 r1]=dn (xC0 (dc (r1≥0))) [xMV a0,xNO a0,xO9 a0,xQ4 a0,xT7 a0,iN (xRl a0),iN ((a0:Str)== [100,111]),AbC 195 (xA9 a0) (xA1 r1)]:=by kernel_rfl
theorem vIe{N:Nat}:∀a0 r,xHW N a0=some r→RE Tryz.f186 I186 (xDh a0) (xC0 r):=fun a0 r h=>cE h (fun h0 h=>dE h xQR (vAf a0) (oc2 h0 h0 on)) fun h0 h=>cE h (fun h1 h=>dE h xQR (vAg a0) (oc3 h0 h1 h1 on)) fun h1 h=>cE h (fun h2 h=>dE h xQR (vAh a0) (oc4 h0 h1 h2 h2 on)) fun h2 h=>cE h (fun h3 h=>dE h xQR (vAi a0) (oc5 h0 h1 h2 h3 h3 on)) fun h3 h=>cE h (fun h4 h=>dE h xQR (vAj a0) (oc6 h0 h1 h2 h3 h4 h4 on)) fun h4 h=>cE h (fun h5 h=>dE h xQR (vAk a0) (oc7 h0 h1 h2 h3 h4 h5 h5 on)) fun h5 h=>cE h (fun h6 h=>dE h xQR (vAl a0) (oc7 h0 h1 h2 h3 h4 h5 h6 on)) fun h6 h=>bE h fun r1 h7 h=>dE h xQR (vAm a0 r1) (oc8 h0 h1 h2 h3 h4 h5 h6 (xL2 h7) on)
theorem xNg{N:Nat}{a0:Str}{r:Bool}(h:xHW N  a0=some r):AbC 186 (xDh a0) (xC0 r):=
 AbsCalls.of_reach xQR rfl rfl rfl (jL rfl) (vIe a0 r h)
noncomputable def I172:Info:= { body:=(Tryz.f172.body).getD .skip,nt:=10,results:=[.tmp 2],keep:=[0,4],live:=[],modes:=[(1,[(2,.take,false)])] }
theorem vCt:FnOk Tryz.prog 172 Tryz.f172 I172:=by refine⟨Tryz.func172,?_,?_,?_,?_⟩<;>kernel_rfl
def xZY(a0 r1 r2):rE I172 (xE7 a0) [Y] [xDz r1,xC0 r2]=dn (xDY (!r2)) [AbC 185 (xIl a0) (xDz r1),iY r1,AbC 186 (xDh a0) (xC0 r2)]:=by kernel_rfl
def xZZ(a0 r1):rE I172 (xE7 a0) [F] [xDz r1]=dn (xDY false) [AbC 185 (xIl a0) (xDz r1),iN r1]:=by kernel_rfl
theorem vH9{N:Nat}:∀a0 r,xHq N a0=some r→RE Tryz.f172 I172 (xE7 a0) (xDY r):=fun a0 r h=>bE h fun r1 h0 h=>cE h (fun h1 h=>bE h fun r2 h2 h=>dE h vCt (xZY a0 r1 r2) (oc3 (xMF h0) h1 (xNg h2) on)) fun h1 h=>dE h vCt (xZZ a0 r1) (oc2 (xMF h0) h1 on)
theorem xKi{N:Nat}{a0:Str}{r:Bool}(h:xHq N  a0=some r):AbC 172 (xE7 a0) (xDY r):=
 AbsCalls.of_reach vCt rfl rfl rfl (jL rfl) (vH9 a0 r h)
noncomputable def I90:Info:= { body:=(Tryz.f90.body).getD .skip,nt:=19,results:=[.tmp 4],keep:=[0,2,8,10,12,14,16,18,20,32],live:=[(2,[2,14,16,18])],modes:=[(4,[(0,.take,false)]),(5,[(0,.take,false)]),(6,[(1,.take,false)])] }
theorem fk90:FnOk Tryz.prog 90 Tryz.f90 I90:=by refine⟨Tryz.func90,?_,?_,?_,?_⟩<;>kernel_rfl
def xVb(x1:Str)(x7:List Str)(x8 x9:Int):St:=[(2,.v false [.str x1]),(14,.v false [.sl .ro .str x7]),(16,.v false [.int .i64 x8]),(18,.v false [.int .i64 x9])]
def vGP(x1 x7 x8 x9):rS 2 I90 (xVb x1 x7 x8 x9) [Y,Y] []=dn (xDJ x9) [xFn x9 x8,xIO x9 x7,iY (xNV x7 x9 x1)]:=by kernel_rfl
def vGQ(x1 x7 x8 x9):rS 2 I90 (xVb x1 x7 x8 x9) [Y,F] []=st 2 I90 (xVb x1 x7 x8 (W (x9+1))) [xFn x9 x8,xIO x9 x7,iN (xNV x7 x9 x1)]:=by kernel_rfl
def vGR(x1 x7 x8 x9):rS 2 I90 (xVb x1 x7 x8 x9) [F] []=dn (xDJ (-1)) [xHr x9 x8]:=by kernel_rfl
def vGS(a0 a1):rE I90 (xHU a0 a1) [] []=st 2 I90 (xVb a1 a0 (Ln a0:Int) 0) []:=by kernel_rfl
theorem vKe{N:Nat}:∀n x1 x7 x8 x9 r,xGa N n x1 x7 x8 x9=some r→RS Tryz.f90 I90 2 (xVb x1 x7 x8 x9) (xDJ r):=by
 intro n
 induction n with
 |zero=>exact fun _ _ _ _ _ h=>nE h
 |succ n ih=>
  exact fun x1 x7 x8 x9 r h=>cE h (fun h0 h=>iE h fun h1 h=>cE h (fun h2 h=>dS h fk90 (vGP x1 x7 x8 x9) (oc3 h0 h1 h2 on)) fun h2 h=>tS fk90 (vGQ x1 x7 x8 x9) (oc3 h0 h1 h2 on) (ih _ _ _ _ _ h)) fun h0 h=>dS h fk90 (vGR x1 x7 x8 x9) (oc h0 on)
theorem vKf{N:Nat}:∀a0 a1 r,xIJ N a0 a1=some r→RE Tryz.f90 I90 (xHU a0 a1) (xDJ r):=fun a0 a1 r h=>tE fk90 (vGS a0 a1) on (vKe _ _ _ _ _ _ h)
theorem xHV{N:Nat}{a0:List Str}{a1:Str}{r:Int}(h:xIJ N  a0 a1=some r):AbC 90 (xHU a0 a1) (xDJ r):=
 AbsCalls.of_reach fk90 rfl rfl rfl (jL rfl) (vKf a0 a1 r h)
noncomputable def I45:Info:= { body:=(Tryz.f45.body).getD .skip,nt:=18,results:=[.tmp 2],keep:=[0,4,6,8,10,12,14,16,32],live:=[(2,[0,10,12,14])],modes:=[(4,[(1,.take,false),(3,.take,false)]),(6,[(1,.take,false)])] }
theorem fk45:FnOk Tryz.prog 45 Tryz.f45 I45:=by refine⟨Tryz.func45,?_,?_,?_,?_⟩<;>kernel_rfl
def xU3(x0 x5:List Str)(x6 x7:Int):St:=[(0,.v false [.sl .ro .str x0]),(10,.v false [.sl .ro .str x5]),(12,.v false [.int .i64 x6]),(14,.v false [.int .i64 x7])]
abbrev xQ5(v0 v1:List Str)(v2 v3:Int):Prop:=AbC 90 (xHU v0 (xKs v1 v2)) (xDJ v3)
def vDB(x0 x5 x6 x7 r1):rS 2 I45 (xU3 x0 x5 x6 x7) [Y,Y] [xDJ r1]=dn (xCc false) [xFn x7 x6,xIO x7 x5,xQ5 x0 x5 x7 r1,iY (r1 != x7)]:=by kernel_rfl
def vDC(x0 x5 x6 x7 r1):rS 2 I45 (xU3 x0 x5 x6 x7) [Y,F] [xDJ r1]=st 2 I45 (xU3 x0 x5 x6 (W (x7+1))) [xFn x7 x6,xIO x7 x5,xQ5 x0 x5 x7 r1,iN (r1 != x7)]:=by kernel_rfl
def vDD(x0 x5 x6 x7):rS 2 I45 (xU3 x0 x5 x6 x7) [F] []=dn (xCc true) [xHr x7 x6]:=by kernel_rfl
def vDE(a0):rE I45 (xF8 a0) [] []=st 2 I45 (xU3 a0 a0 (Ln a0:Int) 0) []:=by kernel_rfl
theorem vJt{N:Nat}:∀n x0 x5 x6 x7 r,xEw N n x0 x5 x6 x7=some r→RS Tryz.f45 I45 2 (xU3 x0 x5 x6 x7) (xCc r):=by
 intro n
 induction n with
 |zero=>exact fun _ _ _ _ _ h=>nE h
 |succ n ih=>
  exact fun x0 x5 x6 x7 r h=>cE h (fun h0 h=>iE h fun h1 h=>bE h fun r1 h2 h=>cE h (fun h3 h=>dS h fk45 (vDB x0 x5 x6 x7 r1) (oc4 h0 h1 (xHV h2) h3 on)) fun h3 h=>tS fk45 (vDC x0 x5 x6 x7 r1) (oc4 h0 h1 (xHV h2) h3 on) (ih _ _ _ _ _ h)) fun h0 h=>dS h fk45 (vDD x0 x5 x6 x7) (oc h0 on)
theorem vJu{N:Nat}:∀a0 r,xGv N a0=some r→RE Tryz.f45 I45 (xF8 a0) (xCc r):=fun a0 r h=>tE fk45 (vDE a0) on (vJt _ _ _ _ _ _ h)
theorem xEx{N:Nat}{a0:List Str}{r:Bool}(h:xGv N  a0=some r):AbC 45 (xF8 a0) (xCc r):=
 AbsCalls.of_reach fk45 rfl rfl rfl (jL rfl) (vJu a0 r h)
noncomputable def I157:Info:= { body:=(Tryz.f157.body).getD .skip,nt:=22,results:=[.tmp 2],keep:=[0,4,8,10,12,14,16,26],live:=[(2,[0,10,12,14])],modes:=[(4,[(0,.take,false)]),(6,[(1,.take,false)]),(7,[(3,.take,false)])] }
theorem xVx:FnOk Tryz.prog 157 Tryz.f157 I157:=by refine⟨Tryz.func157,?_,?_,?_,?_⟩<;>kernel_rfl
def xOJ(x0 x5:List Str)(x6 x7:Int):St:=[(0,.v false [.sl .ro .str x0]),(10,.v false [.sl .ro .str x5]),(12,.v false [.int .i64 x6]),(14,.v false [.int .i64 x7])]
def xZt(x0 x5 x6 x7 r1):rS 2 I157 (xOJ x0 x5 x6 x7) [Y,Y] [xDY r1]=dn (xC2 false) [xFn x7 x6,xIO x7 x5,AbC 172 (xE7 (xKs x5 x7)) (xDY r1),iY (!r1)]:=by kernel_rfl
def xZu(x0 x5 x6 x7 r1):rS 2 I157 (xOJ x0 x5 x6 x7) [Y,F] [xDY r1]=st 2 I157 (xOJ x0 x5 x6 (W (x7+1))) [xFn x7 x6,xIO x7 x5,AbC 172 (xE7 (xKs x5 x7)) (xDY r1),xBT r1]:=by kernel_rfl
def xZv(x0 x5 x6 x7 r1 r2):rS 2 I157 (xOJ x0 x5 x6 x7) [F,Y] [xDA r1,xCc r2]=dn (xC2 r2) [xHr x7 x6,AbC 114 (xFm (Ln x0:Int) 1 4) (xDA r1),iY r1,AbC 45 (xF8 x0) (xCc r2)]:=by kernel_rfl
def xZw(x0 x5 x6 x7 r1):rS 2 I157 (xOJ x0 x5 x6 x7) [F,F] [xDA r1]=dn (xC2 false) [xHr x7 x6,AbC 114 (xFm (Ln x0:Int) 1 4) (xDA r1),iN r1]:=by kernel_rfl
def xZx(a0):rE I157 (xFC a0) [] []=st 2 I157 (xOJ a0 a0 (Ln a0:Int) 0) []:=by kernel_rfl
theorem vHW{N:Nat}:∀n x0 x5 x6 x7 r,xFD N n x0 x5 x6 x7=some r→RS Tryz.f157 I157 2 (xOJ x0 x5 x6 x7) (xC2 r):=by
 intro n
 induction n with
 |zero=>exact fun _ _ _ _ _ h=>nE h
 |succ n ih=>
  exact fun x0 x5 x6 x7 r h=>cE h (fun h0 h=>iE h fun h1 h=>bE h fun r1 h2 h=>cE h (fun h3 h=>dS h xVx (xZt x0 x5 x6 x7 r1) (oc4 h0 h1 (xKi h2) h3 on)) fun h3 h=>tS xVx (xZu x0 x5 x6 x7 r1) (oc4 h0 h1 (xKi h2) h3 on) (ih _ _ _ _ _ h)) fun h0 h=>bE h fun r1 h1 h=>cE h (fun h2 h=>bE h fun r2 h3 h=>dS h xVx (xZv x0 x5 x6 x7 r1 r2) (oc4 h0 (xIm h1) h2 (xEx h3) on)) fun h2 h=>dS h xVx (xZw x0 x5 x6 x7 r1) (oc3 h0 (xIm h1) h2 on)
theorem vHX{N:Nat}:∀a0 r,xIZ N a0=some r→RE Tryz.f157 I157 (xFC a0) (xC2 r):=fun a0 r h=>tE xVx (xZx a0) on (vHW _ _ _ _ _ _ h)
theorem xI0{N:Nat}{a0:List Str}{r:Bool}(h:xIZ N  a0=some r):AbC 157 (xFC a0) (xC2 r):=
 AbsCalls.of_reach xVx rfl rfl rfl (jL rfl) (vHX a0 r h)
noncomputable def I115:Info:= { body:=(Tryz.f115.body).getD .skip,nt:=77,results:=[.tmp 2],keep:=[0,2,4,8,12,14,16,36,40,42,44,46,64,68,70,72,74,84,90,92,94,96,148,3,9,17],live:=[(4,[2,40,42,44,3]),(9,[2,8,40,42,44,68,70,72,3,9]),(15,[2,8,40,42,44,90,92,94,3,9])],modes:=[(1,[(4,.take,false)]),(11,[(0,.take,false)]),(13,[(1,.take,false)]),(17,[(3,.take,false),(8,.take,false),(11,.take,false)]),(19,[(1,.take,false)]),(20,[(1,.take,false)])] }
theorem xMv:FnOk Tryz.prog 115 Tryz.f115 I115:=by refine⟨Tryz.func115,?_,?_,?_,?_⟩<;>kernel_rfl
def xN8(x20:List Rowd)(x21 x22:Int)(b1:Val):St:=[(2,.v false [.ptr 1 0]),(40,.v false [.sl .ro .row x20]),(42,.v false [.int .i64 x21]),(44,.v false [.int .i64 x22]),(3,.v true (Va .ro b1))]
def xQj(x20:List Rowd)(x21 x22:Int)(x34:List Int)(x35 x36:Int)(b1:Val)(b4:Rowd):St:=[(2,.v false [.ptr 1 0]),(8,.v false [.ptr 4 0]),(40,.v false [.sl .ro .row x20]),(42,.v false [.int .i64 x21]),(44,.v false [.int .i64 x22]),(68,.v false [.sl .ro .int x34]),(70,.v false [.int .i64 x35]),(72,.v false [.int .i64 x36]),(3,.v true (Va .ro b1)),(9,.v true [.sl .ro .int b4.cells,.sl .ro .org b4.frm])]
def xKY(x20:List Rowd)(x21 x22:Int)(x45:List Org)(x46 x47:Int)(b1:Val)(b4:Rowd):St:=[(2,.v false [.ptr 1 0]),(8,.v false [.ptr 4 0]),(40,.v false [.sl .ro .row x20]),(42,.v false [.int .i64 x21]),(44,.v false [.int .i64 x22]),(90,.v false [.sl .ro .org x45]),(92,.v false [.int .i64 x46]),(94,.v false [.int .i64 x47]),(3,.v true (Va .ro b1)),(9,.v true [.sl .ro .int b4.cells,.sl .ro .org b4.frm])]
def xWH(x20 x21 x22 x45 x46 x47 b1 b4):rS 15 I115 (xKY x20 x21 x22 x45 x46 x47 b1 b4) [Y,Y,Y,Y] []=dn (xCd false) [xFn x47 x46,xFb x47 x45,iY (xUf x45 x47),iY true,iY true]:=by kernel_rfl
def xWI(x20 x21 x22 x45 x46 x47 b1 b4):rS 15 I115 (xKY x20 x21 x22 x45 x46 x47 b1 b4) [Y,F,Y,Y] []=dn (xCd false) [xFn x47 x46,xFb x47 x45,xOj x45 x47,iY (xUg x45 x47),iY true]:=by kernel_rfl
def xWJ(x20 x21 x22 x45 x46 x47 b1 b4 r1):rS 15 I115 (xKY x20 x21 x22 x45 x46 x47 b1 b4) [Y,F,F,Y,Y] [xCJ r1]=dn (xCd false) [xFn x47 x46,xFb x47 x45,xOj x45 x47,xQz x45 x47,iY (dc (x47>0)),(0:Int)≤(W (x47 - 1))∧(W (x47 - 1))<(Ln b4.frm),AbC 65 (xDQ (gD b4.frm (tN (W (x47 - 1))) Ty.org.dflt) (xGN x45 x47)) (xCJ r1),iY (!r1)]:=by kernel_rfl
def xWK(x20 x21 x22 x45 x46 x47 b1 b4 r1):rS 15 I115 (xKY x20 x21 x22 x45 x46 x47 b1 b4) [Y,F,F,Y,F] [xCJ r1]=st 15 I115 (xKY x20 x21 x22 x45 x46 (W (x47+1)) b1 b4) [xFn x47 x46,xFb x47 x45,xOj x45 x47,xQz x45 x47,iY (dc (x47>0)),(0:Int)≤(W (x47 - 1))∧(W (x47 - 1))<(Ln b4.frm),AbC 65 (xDQ (gD b4.frm (tN (W (x47 - 1))) Ty.org.dflt) (xGN x45 x47)) (xCJ r1),xBT r1]:=by kernel_rfl
def xWL(x20 x21 x22 x45 x46 x47 b1 b4):rS 15 I115 (xKY x20 x21 x22 x45 x46 x47 b1 b4) [Y,F,F,F,F] []=st 15 I115 (xKY x20 x21 x22 x45 x46 (W (x47+1)) b1 b4) [xFn x47 x46,xFb x47 x45,xOj x45 x47,xQz x45 x47,iN (dc (x47>0)),iN false]:=by kernel_rfl
def xWM(x20 x21 x22 x45 x46 x47 b1 b4):rS 15 I115 (xKY x20 x21 x22 x45 x46 x47 b1 b4) [F] []=st 4 I115 (xN8 x20 x21 (W (x22+1)) b1) [xHr x47 x46]:=by kernel_rfl
abbrev xNX(v0:List Int)(v1:Int):=gD v0 (tN v1) Ty.int.dflt
def xYt(x20 x21 x22 x34 x35 x36 b1 b4 r1):rS 9 I115 (xQj x20 x21 x22 x34 x35 x36 b1 b4) [Y,Y] [xCF r1]=dn (xCd false) [xFn x36 x35,xMh x36 x34,AbC 82 (xEu (xNX x34 x36)) (xCF r1),iY (!r1)]:=by kernel_rfl
def xYu(x20 x21 x22 x34 x35 x36 b1 b4 r1):rS 9 I115 (xQj x20 x21 x22 x34 x35 x36 b1 b4) [Y,F] [xCF r1]=st 9 I115 (xQj x20 x21 x22 x34 x35 (W (x36+1)) b1 b4) [xFn x36 x35,xMh x36 x34,AbC 82 (xEu (xNX x34 x36)) (xCF r1),xBT r1]:=by kernel_rfl
def xYv(x20 x21 x22 x34 x35 x36 b1 b4):rS 9 I115 (xQj x20 x21 x22 x34 x35 x36 b1 b4) [F] []=st 15 I115 (xKY x20 x21 x22 b4.frm (Ln b4.frm:Int) 0 b1 b4) [xHr x36 x35]:=by kernel_rfl
abbrev xLD(v0:Int)(v1:List Rowd):Prop:=(0:Int)≤v0∧v0<(Ln v1)
abbrev xM0(v0:List Rowd)(v1:Int):=Rowd.cells (gD v0 (tN v1) rd)
abbrev xMZ(v0:Val):=(Ln v0.columns:Int)
def xYs(x20 x21 x22 b1):rS 4 I115 (xN8 x20 x21 x22 b1) [Y,Y] []=dn (xCd false) [xFn x22 x21,xLD x22 x20,iY (((Ln (xM0 x20 x22):Int):Int) != (xMZ b1))]:=by kernel_rfl
abbrev xMc(v0:List Rowd)(v1:Int):=gD v0 (tN v1) rd
def xWN(x20 x21 x22 b1):rS 4 I115 (xN8 x20 x21 x22 b1) [Y,F] []=st 9 I115 (xQj x20 x21 x22 (xM0 x20 x22) (Ln (xM0 x20 x22):Int) 0 b1 (xMc x20 x22)) [xFn x22 x21,xLD x22 x20,iN (((Ln (xM0 x20 x22):Int):Int) != (xMZ b1))]:=by kernel_rfl
def xWO(x20 x21 x22 b1):rS 4 I115 (xN8 x20 x21 x22 b1) [F] []=dn (xCd true) [xHr x22 x21]:=by kernel_rfl
def xWP(a0 r1):rE I115 (xGe a0) [Y,Y] [xC2 r1]=dn (xCd false) [AbC 157 (xFC a0.columns) (xC2 r1),iY (!r1),iY true]:=by kernel_rfl
def xWQ(a0 r1):rE I115 (xGe a0) [F,Y] [xC2 r1]=dn (xCd false) [AbC 157 (xFC a0.columns) (xC2 r1),xBT r1,xUP a0]:=by kernel_rfl
def xWR(a0 r1):rE I115 (xGe a0) [F,F] [xC2 r1]=st 4 I115 (xN8 a0.rows (xHJ a0) 0 a0) [AbC 157 (xFC a0.columns) (xC2 r1),xBT r1,xUQ a0]:=by kernel_rfl
theorem vCk{N:Nat}{k4:(List Rowd)→Int→Int→Val→Option (Bool)}(hk4:∀z0 z1 z2 z3 r,k4 z0 z1 z2 z3=some r→RS Tryz.f115 I115 4 (xN8 z0 z1 z2 z3) (xCd r)):∀n x20 x21 x22 x45 x46 x47 b1 b4 r,xEW N k4 n x20 x21 x22 x45 x46 x47 b1 b4=some r→RS Tryz.f115 I115 15 (xKY x20 x21 x22 x45 x46 x47 b1 b4) (xCd r):=by
 intro n
 induction n with
 |zero=>exact fun _ _ _ _ _ _ _ _ _ h=>nE h
 |succ n ih=>
  exact fun x20 x21 x22 x45 x46 x47 b1 b4 r h=>cE h (fun h0 h=>iE h fun h1 h=>cE h (fun h2 h=>dS h xMv (xWH x20 x21 x22 x45 x46 x47 b1 b4) (oc5 h0 h1 h2 rfl rfl on)) fun h2 h=>cE h (fun h3 h=>dS h xMv (xWI x20 x21 x22 x45 x46 x47 b1 b4) (oc5 h0 h1 h2 h3 rfl on)) fun h3 h=>cE h (fun h4 h=>iE h fun h5 h=>bE h fun r1 h6 h=>cE h (fun h7 h=>dS h xMv (xWJ x20 x21 x22 x45 x46 x47 b1 b4 r1) (oc8 h0 h1 h2 h3 h4 h5 (xIh h6) h7 on)) fun h7 h=>tS xMv (xWK x20 x21 x22 x45 x46 x47 b1 b4 r1) (oc8 h0 h1 h2 h3 h4 h5 (xIh h6) h7 on) (ih _ _ _ _ _ _ _ _ _ h)) fun h4 h=>tS xMv (xWL x20 x21 x22 x45 x46 x47 b1 b4) (oc6 h0 h1 h2 h3 h4 rfl on) (ih _ _ _ _ _ _ _ _ _ h)) fun h0 h=>tS xMv (xWM x20 x21 x22 x45 x46 x47 b1 b4) (oc h0 on) (hk4 _ _ _ _ _ h)
theorem vHx{N:Nat}{k4:(List Rowd)→Int→Int→Val→Option (Bool)}(hk4:∀z0 z1 z2 z3 r,k4 z0 z1 z2 z3=some r→RS Tryz.f115 I115 4 (xN8 z0 z1 z2 z3) (xCd r)):∀n x20 x21 x22 x34 x35 x36 b1 b4 r,xGg N k4 n x20 x21 x22 x34 x35 x36 b1 b4=some r→RS Tryz.f115 I115 9 (xQj x20 x21 x22 x34 x35 x36 b1 b4) (xCd r):=by
 intro n
 induction n with
 |zero=>exact fun _ _ _ _ _ _ _ _ _ h=>nE h
 |succ n ih=>
  exact fun x20 x21 x22 x34 x35 x36 b1 b4 r h=>cE h (fun h0 h=>iE h fun h1 h=>bE h fun r1 h2 h=>cE h (fun h3 h=>dS h xMv (xYt x20 x21 x22 x34 x35 x36 b1 b4 r1) (oc4 h0 h1 (xGw h2) h3 on)) fun h3 h=>tS xMv (xYu x20 x21 x22 x34 x35 x36 b1 b4 r1) (oc4 h0 h1 (xGw h2) h3 on) (ih _ _ _ _ _ _ _ _ _ h)) fun h0 h=>tS xMv (xYv x20 x21 x22 x34 x35 x36 b1 b4) (oc h0 on) (vCk hk4 _ _ _ _ _ _ _ _ _ _ h)
theorem vHw{N:Nat}:∀n x20 x21 x22 b1 r,xGf N n x20 x21 x22 b1=some r→RS Tryz.f115 I115 4 (xN8 x20 x21 x22 b1) (xCd r):=by
 intro n
 induction n with
 |zero=>exact fun _ _ _ _ _ h=>nE h
 |succ n ih=>
  exact fun x20 x21 x22 b1 r h=>cE h (fun h0 h=>iE h fun h1 h=>cE h (fun h2 h=>dS h xMv (xYs x20 x21 x22 b1) (oc3 h0 h1 h2 on)) fun h2 h=>tS xMv (xWN x20 x21 x22 b1) (oc3 h0 h1 h2 on) (vHx ih _ _ _ _ _ _ _ _ _ _ h)) fun h0 h=>dS h xMv (xWO x20 x21 x22 b1) (oc h0 on)
theorem vHy{N:Nat}:∀a0 r,xIN N a0=some r→RE Tryz.f115 I115 (xGe a0) (xCd r):=fun a0 r h=>bE h fun r1 h0 h=>cE h (fun h1 h=>dE h xMv (xWP a0 r1) (oc3 (xI0 h0) h1 rfl on)) fun h1 h=>cE h (fun h2 h=>dE h xMv (xWQ a0 r1) (oc3 (xI0 h0) h1 h2 on)) fun h2 h=>tE xMv (xWR a0 r1) (oc3 (xI0 h0) h1 h2 on) (vHw _ _ _ _ _ _ h)
theorem xL4{N:Nat}{a0:Val}{r:Bool}(h:xIN N  a0=some r):AbC 115 (xGe a0) (xCd r):=
 AbsCalls.of_reach xMv rfl rfl rfl (jL rfl) (vHy a0 r h)
def G116(q:Val→Option (Int)):Prop:=∀a0 r,q a0=some r→AbC 116 (xF9 a0) (xEl r)
noncomputable def I116:Info:= { body:=(Tryz.f116.body).getD .skip,nt:=20,results:=[.tmp 2],keep:=[0,2,4,6,10,14,16,18,20,3,11],live:=[(3,[6,14,16,18])],modes:=[(6,[(1,.take,false)])] }
theorem xXt:FnOk Tryz.prog 116 Tryz.f116 I116:=by refine⟨Tryz.func116,?_,?_,?_,?_⟩<;>kernel_rfl
def xSx(x3:Int)(x7:List Val)(x8 x9:Int):St:=[(6,.v false [.int .i64 x3]),(14,.v false [.sl .ro .val x7]),(16,.v false [.int .i64 x8]),(18,.v false [.int .i64 x9])]
def xYw(x3 x7 x8 x9 r1):rS 3 I116 (xSx x3 x7 x8 x9) [Y] [xEl r1]=st 3 I116 (xSx (if r1>x3 then r1 else x3) x7 x8 (W (x9+1))) [xFn x9 x8,xIf x9 x7,AbC 116 (xF9 (xMb x7 x9)) (xEl r1)]:=by kernel_rfl
def xYx(x3 x7 x8 x9):rS 3 I116 (xSx x3 x7 x8 x9) [F] []=dn (xEl (W (x3+1))) [xHr x9 x8]:=by kernel_rfl
def xYy(a0):rE I116 (xF9 a0) [] []=st 3 I116 (xSx 0 a0.list (xKq a0) 0) []:=by kernel_rfl
theorem vHz{N q0}(g0:G116 q0):∀n x3 x7 x8 x9 r,xGW N q0 n x3 x7 x8 x9=some r→RS Tryz.f116 I116 3 (xSx x3 x7 x8 x9) (xEl r):=by
 intro n
 induction n with
 |zero=>exact fun _ _ _ _ _ h=>nE h
 |succ n ih=>
  exact fun x3 x7 x8 x9 r h=>cE h (fun h0 h=>iE h fun h1 h=>bE h fun r1 h2 h=>tS xXt (xYw x3 x7 x8 x9 r1) (oc3 h0 h1 (g0 _ _ h2) on) (ih _ _ _ _ _ h)) fun h0 h=>dS h xXt (xYx x3 x7 x8 x9) (oc h0 on)
theorem vHA{N q0}(g0:G116 q0):∀a0 r,xJn N q0 a0=some r→RE Tryz.f116 I116 (xF9 a0) (xEl r):=fun a0 r h=>tE xXt (xYy a0) on (vHz g0 _ _ _ _ _ _ h)
theorem xMw{N q0}(g0:G116 q0){a0}{r}(h:xJn N q0 a0=some r):AbC 116 (xF9 a0) (xEl r):=
 AbsCalls.of_reach xXt rfl rfl rfl (jL rfl) (vHA g0 a0 r h)
theorem xKh{N:Nat}:∀d,G116 (xFI N d)
 |0=>fun _ _ h=>nE h
 |d+1=>fun _ _ h=>xMw (N:=N) (xKh d) h
theorem xOW{N:Nat}{a0:Val}{r:Int}(h:xJL N a0=some r):AbC 116 (xF9 a0) (xEl r):=xKh N _ r h
def G72(q:Val→Option (Bool)):Prop:=∀a0 r,q a0=some r→AbC 72 (xAE a0) (xAy r)
noncomputable def I72:Info:= { body:=(Tryz.f72.body).getD .skip,nt:=185,results:=[.tmp 2],keep:=[0,2,4,6,10,46,48,84,120,156,192,242,248,250,252,254,294,3,11],live:=[(15,[2,248,250,252,3])],modes:=[(1,[(4,.take,false),(10,.take,false)]),(4,[(1,.take,false),(6,.take,false),(11,.take,false)]),(6,[(1,.take,false),(6,.take,false),(11,.take,false)]),(8,[(1,.take,false),(6,.take,false),(11,.take,false)]),(10,[(1,.take,false),(6,.take,false),(11,.take,false)]),(12,[(3,.take,false),(8,.take,false),(13,.take,false),(19,.take,false)]),(17,[(3,.take,false),(8,.take,false),(13,.take,false)]),(19,[(1,.take,false)]),(20,[(3,.take,false),(8,.take,false),(13,.take,false),(19,.take,false),(25,.take,false),(31,.take,false)])] }
theorem fk72:FnOk Tryz.prog 72 Tryz.f72 I72:=by refine⟨Tryz.func72,?_,?_,?_,?_⟩<;>kernel_rfl
def xIV(x124:List Val)(x125 x126:Int)(b1:Val):St:=[(2,.v false [.ptr 1 0]),(248,.v false [.sl .ro .val x124]),(250,.v false [.int .i64 x125]),(252,.v false [.int .i64 x126]),(3,.v true (Va .ro b1))]
abbrev xLH(v0:List Val)(v1:Int):=((Val.kind (gD v0 (tN v1) vd)):Int)
abbrev xPa(v0:List Val)(v1:Int):Prop:=iY ((xLH v0 v1) != 1)
abbrev xT8(v0:List Val)(v1:Int):Prop:=iY ((xLH v0 v1) != 2)
def vAU(x124 x125 x126 b1):rS 15 I72 (xIV x124 x125 x126 b1) [Y,Y,Y,Y,Y] []=dn (xAy false) [xFn x126 x125,xIf x126 x124,xPa x124 x126,xT8 x124 x126,iY ((xLH x124 x126) != 3),iY true]:=by kernel_rfl
abbrev xLE(v0:List Val)(v1:Int)(v2:Bool):Prop:=AbC 72 (xAE (xMb v0 v1)) (xAy v2)
def vAV(x124 x125 x126 b1 r1):rS 15 I72 (xIV x124 x125 x126 b1) [Y,Y,Y,F,Y] [xAy r1]=dn (xAy false) [xFn x126 x125,xIf x126 x124,xPa x124 x126,xT8 x124 x126,iN ((xLH x124 x126) != 3),xLE x124 x126 r1,iY (!r1)]:=by kernel_rfl
def vAW(x124 x125 x126 b1 r1):rS 15 I72 (xIV x124 x125 x126 b1) [Y,Y,Y,F,F] [xAy r1]=st 15 I72 (xIV x124 x125 (W (x126+1)) b1) [xFn x126 x125,xIf x126 x124,xPa x124 x126,xT8 x124 x126,iN ((xLH x124 x126) != 3),xLE x124 x126 r1,xBT r1]:=by kernel_rfl
def vAX(x124 x125 x126 b1 r1):rS 15 I72 (xIV x124 x125 x126 b1) [Y,Y,F,F,Y] [xAy r1]=dn (xAy false) [xFn x126 x125,xIf x126 x124,xPa x124 x126,iN ((xLH x124 x126) != 2),iN false,xLE x124 x126 r1,iY (!r1)]:=by kernel_rfl
def vAY(x124 x125 x126 b1 r1):rS 15 I72 (xIV x124 x125 x126 b1) [Y,Y,F,F,F] [xAy r1]=st 15 I72 (xIV x124 x125 (W (x126+1)) b1) [xFn x126 x125,xIf x126 x124,xPa x124 x126,iN ((xLH x124 x126) != 2),iN false,xLE x124 x126 r1,xBT r1]:=by kernel_rfl
def vAZ(x124 x125 x126 b1 r1):rS 15 I72 (xIV x124 x125 x126 b1) [Y,F,F,F,Y] [xAy r1]=dn (xAy false) [xFn x126 x125,xIf x126 x124,iN ((xLH x124 x126) != 1),iN false,iN false,xLE x124 x126 r1,iY (!r1)]:=by kernel_rfl
def vA0(x124 x125 x126 b1 r1):rS 15 I72 (xIV x124 x125 x126 b1) [Y,F,F,F,F] [xAy r1]=st 15 I72 (xIV x124 x125 (W (x126+1)) b1) [xFn x126 x125,xIf x126 x124,iN ((xLH x124 x126) != 1),iN false,iN false,xLE x124 x126 r1,xBT r1]:=by kernel_rfl
abbrev xIi(v0:Val):Prop:=iY (v0.step==0)
abbrev xKm(v0:Val):Prop:=iY (xNW v0)
abbrev xFJ(v0:Val):Prop:=iY ((xMZ v0)==0)
abbrev xI2(v0:Val):Prop:=iY ((xHJ v0)==0)
def vA1(x124 x125 x126 b1 r1):rS 15 I72 (xIV x124 x125 x126 b1) [F,Y,Y,Y,Y,Y,Y] [xEl r1]=dn (xAy (dc (r1≤3))) [xHr x126 x125,xIP b1,xIi b1,xKm b1,xFJ b1,xI2 b1,iY (xRg b1),AbC 116 (xF9 b1) (xEl r1)]:=by kernel_rfl
def vA2(x124 x125 x126 b1):rS 15 I72 (xIV x124 x125 x126 b1) [F,Y,Y,Y,Y,Y,F] []=dn (xAy false) [xHr x126 x125,xIP b1,xIi b1,xKm b1,xFJ b1,xI2 b1,iN (xRg b1)]:=by kernel_rfl
abbrev xPb(v0:Val):Prop:=iN ((xHJ v0)==0)
def vA3(x124 x125 x126 b1):rS 15 I72 (xIV x124 x125 x126 b1) [F,Y,Y,Y,Y,F,F] []=dn (xAy false) [xHr x126 x125,xIP b1,xIi b1,xKm b1,xFJ b1,xPb b1,iN false]:=by kernel_rfl
abbrev xKn(v0:Val):Prop:=iN ((xMZ v0)==0)
def xW8(x124 x125 x126 b1):rS 15 I72 (xIV x124 x125 x126 b1) [F,Y,Y,Y,F,F,F] []=dn (xAy false) [xHr x126 x125,xIP b1,xIi b1,xKm b1,xKn b1,iN false,iN false]:=by kernel_rfl
abbrev xMW(v0:Val):Prop:=iN (xNW v0)
def xW9(x124 x125 x126 b1):rS 15 I72 (xIV x124 x125 x126 b1) [F,Y,Y,F,F,F,F] []=dn (xAy false) [xHr x126 x125,xIP b1,xIi b1,xMW b1,iN false,iN false,iN false]:=by kernel_rfl
abbrev xMX(v0:Val):Prop:=iN (v0.step==0)
def xXa(x124 x125 x126 b1):rS 15 I72 (xIV x124 x125 x126 b1) [F,Y,F,F,F,F,F] []=dn (xAy false) [xHr x126 x125,xIP b1,xMX b1,iN false,iN false,iN false,iN false]:=by kernel_rfl
def xXb(x124 x125 x126 b1):rS 15 I72 (xIV x124 x125 x126 b1) [F,F,F,F,F,F,F] []=dn (xAy false) [xHr x126 x125,xOm b1,iN false,iN false,iN false,iN false,iN false]:=by kernel_rfl
abbrev xEb(v0:Val):Prop:=iY ((xKq v0)==0)
def vA4(a0 r1):rE I72 (xAE a0) [Y,Y,Y,Y,Y,Y] [xCF r1]=dn (xAy r1) [xEb a0,xFJ a0,xOi a0,xI2 a0,xIi a0,xKm a0,AbC 82 (xEu a0.n) (xCF r1)]:=by kernel_rfl
def vA5(a0):rE I72 (xAE a0) [Y,Y,Y,Y,Y,F] []=dn (xAy false) [xEb a0,xFJ a0,xOi a0,xI2 a0,xIi a0,xMW a0]:=by kernel_rfl
def vA6(a0):rE I72 (xAE a0) [Y,Y,Y,Y,F,F] []=dn (xAy false) [xEb a0,xFJ a0,xOi a0,xI2 a0,xMX a0,iN false]:=by kernel_rfl
def vA7(a0):rE I72 (xAE a0) [Y,Y,Y,F,F,F] []=dn (xAy false) [xEb a0,xFJ a0,xOi a0,xPb a0,iN false,iN false]:=by kernel_rfl
def vA8(a0 r1):rE I72 (xAE a0) [Y,Y,F,Y,Y,Y,Y] [xDE r1]=dn (xAy r1) [xEb a0,xFJ a0,xDX a0,xNm a0,xI2 a0,xIP a0,xIi a0,AbC 113 (xHf a0.text) (xDE r1)]:=by kernel_rfl
def vA9(a0):rE I72 (xAE a0) [Y,Y,F,Y,Y,Y,F] []=dn (xAy false) [xEb a0,xFJ a0,xDX a0,xNm a0,xI2 a0,xIP a0,xMX a0]:=by kernel_rfl
def vBa(a0):rE I72 (xAE a0) [Y,Y,F,Y,Y,F,F] []=dn (xAy false) [xEb a0,xFJ a0,xDX a0,xNm a0,xI2 a0,xOm a0,iN false]:=by kernel_rfl
def vBb(a0):rE I72 (xAE a0) [Y,Y,F,Y,F,F,F] []=dn (xAy false) [xEb a0,xFJ a0,xDX a0,xNm a0,xPb a0,iN false,iN false]:=by kernel_rfl
def vBc(a0 r1 r2):rE I72 (xAE a0) [Y,Y,F,F,Y,Y,Y,Y] [xCF r1,xCF r2]=dn (xAy r2) [xEb a0,xFJ a0,xDX a0,xEP a0,xOl a0,xI2 a0,xKm a0,AbC 82 (xEu a0.n) (xCF r1),iY r1,AbC 82 (xEu a0.step) (xCF r2)]:=by kernel_rfl
def vBd(a0 r1):rE I72 (xAE a0) [Y,Y,F,F,Y,Y,Y,F] [xCF r1]=dn (xAy false) [xEb a0,xFJ a0,xDX a0,xEP a0,xOl a0,xI2 a0,xKm a0,AbC 82 (xEu a0.n) (xCF r1),iN r1]:=by kernel_rfl
def vBe(a0):rE I72 (xAE a0) [Y,Y,F,F,Y,Y,F,F] []=dn (xAy false) [xEb a0,xFJ a0,xDX a0,xEP a0,xOl a0,xI2 a0,xMW a0,iN false]:=by kernel_rfl
def vBf(a0):rE I72 (xAE a0) [Y,Y,F,F,Y,F,F,F] []=dn (xAy false) [xEb a0,xFJ a0,xDX a0,xEP a0,xOl a0,xPb a0,iN false,iN false]:=by kernel_rfl
def vBg(a0 r1):rE I72 (xAE a0) [Y,Y,F,F,F,Y,Y,Y,Y] [xDA r1]=dn (xAy r1) [xEb a0,xFJ a0,xDX a0,xEP a0,xGS a0,xPh a0,xI2 a0,xIi a0,xKm a0,AbC 114 (xFm a0.n 1 8) (xDA r1)]:=by kernel_rfl
def vBh(a0):rE I72 (xAE a0) [Y,Y,F,F,F,Y,Y,Y,F] []=dn (xAy false) [xEb a0,xFJ a0,xDX a0,xEP a0,xGS a0,xPh a0,xI2 a0,xIi a0,xMW a0]:=by kernel_rfl
def vBi(a0):rE I72 (xAE a0) [Y,Y,F,F,F,Y,Y,F,F] []=dn (xAy false) [xEb a0,xFJ a0,xDX a0,xEP a0,xGS a0,xPh a0,xI2 a0,xMX a0,iN false]:=by kernel_rfl
def vBj(a0):rE I72 (xAE a0) [Y,Y,F,F,F,Y,F,F,F] []=dn (xAy false) [xEb a0,xFJ a0,xDX a0,xEP a0,xGS a0,xPh a0,xPb a0,iN false,iN false]:=by kernel_rfl
def vBk(a0 r1):rE I72 (xAE a0) [Y,Y,F,F,F,F,Y,Y,Y,Y,Y] [xCd r1]=dn (xAy r1) [xEb a0,xFJ a0,xDX a0,xEP a0,xGS a0,xI4 a0,xKP a0,xIP a0,xIi a0,xKm a0,xEb a0,AbC 115 (xGe a0) (xCd r1)]:=by kernel_rfl
def vBl(a0):rE I72 (xAE a0) [Y,Y,F,F,F,F,Y,Y,Y,F,F] []=dn (xAy false) [xEb a0,xFJ a0,xDX a0,xEP a0,xGS a0,xI4 a0,xKP a0,xIP a0,xIi a0,xMW a0,iN false]:=by kernel_rfl
def vBm(a0):rE I72 (xAE a0) [Y,Y,F,F,F,F,Y,Y,F,F,F] []=dn (xAy false) [xEb a0,xFJ a0,xDX a0,xEP a0,xGS a0,xI4 a0,xKP a0,xIP a0,xMX a0,iN false,iN false]:=by kernel_rfl
def vBn(a0):rE I72 (xAE a0) [Y,Y,F,F,F,F,Y,F,F,F,F] []=dn (xAy false) [xEb a0,xFJ a0,xDX a0,xEP a0,xGS a0,xI4 a0,xKP a0,xOm a0,iN false,iN false,iN false]:=by kernel_rfl
abbrev xUu(v0:Val):=xIV v0.list (Ln v0.list:Int) 0 v0
def vBo(a0):rE I72 (xAE a0) [Y,Y,F,F,F,F,F,Y] []=st 15 I72 (xUu a0) [xEb a0,xFJ a0,xDX a0,xEP a0,xGS a0,xI4 a0,xOk a0,iY (a0.kind==3)]:=by kernel_rfl
def vBp(a0):rE I72 (xAE a0) [Y,Y,F,F,F,F,F,F] []=dn (xAy false) [xEb a0,xFJ a0,xDX a0,xEP a0,xGS a0,xI4 a0,xOk a0,xNq a0]:=by kernel_rfl
def vBq(a0):rE I72 (xAE a0) [Y,F,Y,F,F,F] []=dn (xAy false) [xEb a0,xKn a0,xOi a0,iN false,iN false,iN false]:=by kernel_rfl
def vBr(a0):rE I72 (xAE a0) [Y,F,F,Y,F,F,F] []=dn (xAy false) [xEb a0,xKn a0,xDX a0,xNm a0,iN false,iN false,iN false]:=by kernel_rfl
def vBs(a0):rE I72 (xAE a0) [Y,F,F,F,Y,F,F,F] []=dn (xAy false) [xEb a0,xKn a0,xDX a0,xEP a0,xOl a0,iN false,iN false,iN false]:=by kernel_rfl
def vBt(a0):rE I72 (xAE a0) [Y,F,F,F,F,Y,F,F,F] []=dn (xAy false) [xEb a0,xKn a0,xDX a0,xEP a0,xGS a0,xPh a0,iN false,iN false,iN false]:=by kernel_rfl
def vBu(a0 r1):rE I72 (xAE a0) [Y,F,F,F,F,F,Y,Y,Y,Y,Y] [xCd r1]=dn (xAy r1) [xEb a0,xKn a0,xDX a0,xEP a0,xGS a0,xI4 a0,xKP a0,xIP a0,xIi a0,xKm a0,xEb a0,AbC 115 (xGe a0) (xCd r1)]:=by kernel_rfl
def vBv(a0):rE I72 (xAE a0) [Y,F,F,F,F,F,Y,Y,Y,F,F] []=dn (xAy false) [xEb a0,xKn a0,xDX a0,xEP a0,xGS a0,xI4 a0,xKP a0,xIP a0,xIi a0,xMW a0,iN false]:=by kernel_rfl
def vBw(a0):rE I72 (xAE a0) [Y,F,F,F,F,F,Y,Y,F,F,F] []=dn (xAy false) [xEb a0,xKn a0,xDX a0,xEP a0,xGS a0,xI4 a0,xKP a0,xIP a0,xMX a0,iN false,iN false]:=by kernel_rfl
def vBx(a0):rE I72 (xAE a0) [Y,F,F,F,F,F,Y,F,F,F,F] []=dn (xAy false) [xEb a0,xKn a0,xDX a0,xEP a0,xGS a0,xI4 a0,xKP a0,xOm a0,iN false,iN false,iN false]:=by kernel_rfl
def vBy(a0):rE I72 (xAE a0) [Y,F,F,F,F,F,F,Y] []=st 15 I72 (xUu a0) [xEb a0,xKn a0,xDX a0,xEP a0,xGS a0,xI4 a0,xOk a0,iY (a0.kind==3)]:=by kernel_rfl
def vBz(a0):rE I72 (xAE a0) [Y,F,F,F,F,F,F,F] []=dn (xAy false) [xEb a0,xKn a0,xDX a0,xEP a0,xGS a0,xI4 a0,xOk a0,xNq a0]:=by kernel_rfl
abbrev xKo(v0:Val):Prop:=iN ((xKq v0)==0)
def vBA(a0):rE I72 (xAE a0) [F,F,Y,F,F,F] []=dn (xAy false) [xKo a0,iN false,xOi a0,iN false,iN false,iN false]:=by kernel_rfl
def vBB(a0):rE I72 (xAE a0) [F,F,F,Y,F,F,F] []=dn (xAy false) [xKo a0,iN false,xDX a0,xNm a0,iN false,iN false,iN false]:=by kernel_rfl
def vBC(a0):rE I72 (xAE a0) [F,F,F,F,Y,F,F,F] []=dn (xAy false) [xKo a0,iN false,xDX a0,xEP a0,xOl a0,iN false,iN false,iN false]:=by kernel_rfl
def vBD(a0):rE I72 (xAE a0) [F,F,F,F,F,Y,F,F,F] []=dn (xAy false) [xKo a0,iN false,xDX a0,xEP a0,xGS a0,xPh a0,iN false,iN false,iN false]:=by kernel_rfl
def vBE(a0):rE I72 (xAE a0) [F,F,F,F,F,F,Y,Y,Y,Y,F] []=dn (xAy false) [xKo a0,iN false,xDX a0,xEP a0,xGS a0,xI4 a0,xKP a0,xIP a0,xIi a0,xKm a0,xKo a0]:=by kernel_rfl
def vBF(a0):rE I72 (xAE a0) [F,F,F,F,F,F,Y,Y,Y,F,F] []=dn (xAy false) [xKo a0,iN false,xDX a0,xEP a0,xGS a0,xI4 a0,xKP a0,xIP a0,xIi a0,xMW a0,iN false]:=by kernel_rfl
def vBG(a0):rE I72 (xAE a0) [F,F,F,F,F,F,Y,Y,F,F,F] []=dn (xAy false) [xKo a0,iN false,xDX a0,xEP a0,xGS a0,xI4 a0,xKP a0,xIP a0,xMX a0,iN false,iN false]:=by kernel_rfl
def vBH(a0):rE I72 (xAE a0) [F,F,F,F,F,F,Y,F,F,F,F] []=dn (xAy false) [xKo a0,iN false,xDX a0,xEP a0,xGS a0,xI4 a0,xKP a0,xOm a0,iN false,iN false,iN false]:=by kernel_rfl
def vBI(a0):rE I72 (xAE a0) [F,F,F,F,F,F,F,Y] []=st 15 I72 (xUu a0) [xKo a0,iN false,xDX a0,xEP a0,xGS a0,xI4 a0,xOk a0,iY (a0.kind==3)]:=by kernel_rfl
def vBJ(a0):rE I72 (xAE a0) [F,F,F,F,F,F,F,F] []=dn (xAy false) [xKo a0,iN false,xDX a0,xEP a0,xGS a0,xI4 a0,xOk a0,xNq a0]:=by kernel_rfl
theorem xVU{N q0}(g0:G72 q0):∀n x124 x125 x126 b1 r,xCk N q0 n x124 x125 x126 b1=some r→RS Tryz.f72 I72 15 (xIV x124 x125 x126 b1) (xAy r):=by
 intro n
 induction n with
 |zero=>exact fun _ _ _ _ _ h=>nE h
 |succ n ih=>
  exact fun x124 x125 x126 b1 r h=>cE h (fun h0 h=>iE h fun h1 h=>cE h (fun h2 h=>cE h (fun h3 h=>cE h (fun h4 h=>dS h fk72 (vAU x124 x125 x126 b1) (oc6 h0 h1 h2 h3 h4 rfl on)) fun h4 h=>bE h fun r1 h5 h=>cE h (fun h6 h=>dS h fk72 (vAV x124 x125 x126 b1 r1) (oc7 h0 h1 h2 h3 h4 (g0 _ _ h5) h6 on)) fun h6 h=>tS fk72 (vAW x124 x125 x126 b1 r1) (oc7 h0 h1 h2 h3 h4 (g0 _ _ h5) h6 on) (ih _ _ _ _ _ h)) fun h3 h=>bE h fun r1 h5 h=>cE h (fun h6 h=>dS h fk72 (vAX x124 x125 x126 b1 r1) (oc7 h0 h1 h2 h3 rfl (g0 _ _ h5) h6 on)) fun h6 h=>tS fk72 (vAY x124 x125 x126 b1 r1) (oc7 h0 h1 h2 h3 rfl (g0 _ _ h5) h6 on) (ih _ _ _ _ _ h)) fun h2 h=>bE h fun r1 h5 h=>cE h (fun h6 h=>dS h fk72 (vAZ x124 x125 x126 b1 r1) (oc7 h0 h1 h2 rfl rfl (g0 _ _ h5) h6 on)) fun h6 h=>tS fk72 (vA0 x124 x125 x126 b1 r1) (oc7 h0 h1 h2 rfl rfl (g0 _ _ h5) h6 on) (ih _ _ _ _ _ h)) fun h0 h=>cE h (fun h1 h=>cE h (fun h2 h=>cE h (fun h3 h=>cE h (fun h4 h=>cE h (fun h5 h=>cE h (fun h6 h=>bE h fun r1 h7 h=>dS h fk72 (vA1 x124 x125 x126 b1 r1) (oc8 h0 h1 h2 h3 h4 h5 h6 (xOW h7) on)) fun h6 h=>dS h fk72 (vA2 x124 x125 x126 b1) (oc7 h0 h1 h2 h3 h4 h5 h6 on)) fun h5 h=>dS h fk72 (vA3 x124 x125 x126 b1) (oc7 h0 h1 h2 h3 h4 h5 rfl on)) fun h4 h=>dS h fk72 (xW8 x124 x125 x126 b1) (oc7 h0 h1 h2 h3 h4 rfl rfl on)) fun h3 h=>dS h fk72 (xW9 x124 x125 x126 b1) (oc7 h0 h1 h2 h3 rfl rfl rfl on)) fun h2 h=>dS h fk72 (xXa x124 x125 x126 b1) (oc7 h0 h1 h2 rfl rfl rfl rfl on)) fun h1 h=>dS h fk72 (xXb x124 x125 x126 b1) (oc7 h0 h1 rfl rfl rfl rfl rfl on)
theorem vJT{N q0}(g0:G72 q0):∀a0 r,xE2 N q0 a0=some r→RE Tryz.f72 I72 (xAE a0) (xAy r):=fun a0 r h=>cE h (fun h0 h=>cE h (fun h1 h=>cE h (fun h2 h=>cE h (fun h3 h=>cE h (fun h4 h=>cE h (fun h5 h=>bE h fun r1 h6 h=>dE h fk72 (vA4 a0 r1) (oc7 h0 h1 h2 h3 h4 h5 (xGw h6) on)) fun h5 h=>dE h fk72 (vA5 a0) (oc6 h0 h1 h2 h3 h4 h5 on)) fun h4 h=>dE h fk72 (vA6 a0) (oc6 h0 h1 h2 h3 h4 rfl on)) fun h3 h=>dE h fk72 (vA7 a0) (oc6 h0 h1 h2 h3 rfl rfl on)) fun h2 h=>cE h (fun h3 h=>cE h (fun h4 h=>cE h (fun h5 h=>cE h (fun h6 h=>bE h fun r1 h7 h=>dE h fk72 (vA8 a0 r1) (oc8 h0 h1 h2 h3 h4 h5 h6 (xMR h7) on)) fun h6 h=>dE h fk72 (vA9 a0) (oc7 h0 h1 h2 h3 h4 h5 h6 on)) fun h5 h=>dE h fk72 (vBa a0) (oc7 h0 h1 h2 h3 h4 h5 rfl on)) fun h4 h=>dE h fk72 (vBb a0) (oc7 h0 h1 h2 h3 h4 rfl rfl on)) fun h3 h=>cE h (fun h4 h=>cE h (fun h5 h=>cE h (fun h6 h=>bE h fun r1 h7 h=>cE h (fun h8 h=>bE h fun r2 h9 h=>dE h fk72 (vBc a0 r1 r2) (oc10 h0 h1 h2 h3 h4 h5 h6 (xGw h7) h8 (xGw h9) on)) fun h8 h=>dE h fk72 (vBd a0 r1) (oc9 h0 h1 h2 h3 h4 h5 h6 (xGw h7) h8 on)) fun h6 h=>dE h fk72 (vBe a0) (oc8 h0 h1 h2 h3 h4 h5 h6 rfl on)) fun h5 h=>dE h fk72 (vBf a0) (oc8 h0 h1 h2 h3 h4 h5 rfl rfl on)) fun h4 h=>cE h (fun h5 h=>cE h (fun h6 h=>cE h (fun h7 h=>cE h (fun h8 h=>bE h fun r1 h9 h=>dE h fk72 (vBg a0 r1) (oc10 h0 h1 h2 h3 h4 h5 h6 h7 h8 (xIm h9) on)) fun h8 h=>dE h fk72 (vBh a0) (oc9 h0 h1 h2 h3 h4 h5 h6 h7 h8 on)) fun h7 h=>dE h fk72 (vBi a0) (oc9 h0 h1 h2 h3 h4 h5 h6 h7 rfl on)) fun h6 h=>dE h fk72 (vBj a0) (oc9 h0 h1 h2 h3 h4 h5 h6 rfl rfl on)) fun h5 h=>
 cE h (fun h6 h=>cE h (fun h7 h=>cE h (fun h8 h=>cE h (fun h9 h=>bE h fun r1 h11 h=>dE h fk72 (vBk a0 r1) (oc12 h0 h1 h2 h3 h4 h5 h6 h7 h8 h9 h0 (xL4 h11) on)) fun h9 h=>dE h fk72 (vBl a0) (oc11 h0 h1 h2 h3 h4 h5 h6 h7 h8 h9 rfl on)) fun h8 h=>dE h fk72 (vBm a0) (oc11 h0 h1 h2 h3 h4 h5 h6 h7 h8 rfl rfl on)) fun h7 h=>dE h fk72 (vBn a0) (oc11 h0 h1 h2 h3 h4 h5 h6 h7 rfl rfl rfl on)) fun h6 h=>cE h (fun h7 h=>tE fk72 (vBo a0) (oc8 h0 h1 h2 h3 h4 h5 h6 h7 on) (xVU g0 _ _ _ _ _ _ h)) fun h7 h=>dE h fk72 (vBp a0) (oc8 h0 h1 h2 h3 h4 h5 h6 h7 on)) fun h1 h=>cE h (fun h2 h=>dE h fk72 (vBq a0) (oc6 h0 h1 h2 rfl rfl rfl on)) fun h2 h=>cE h (fun h3 h=>dE h fk72 (vBr a0) (oc7 h0 h1 h2 h3 rfl rfl rfl on)) fun h3 h=>cE h (fun h4 h=>dE h fk72 (vBs a0) (oc8 h0 h1 h2 h3 h4 rfl rfl rfl on)) fun h4 h=>cE h (fun h5 h=>dE h fk72 (vBt a0) (oc9 h0 h1 h2 h3 h4 h5 rfl rfl rfl on)) fun h5 h=>cE h (fun h6 h=>cE h (fun h7 h=>cE h (fun h8 h=>cE h (fun h9 h=>bE h fun r1 h11 h=>dE h fk72 (vBu a0 r1) (oc12 h0 h1 h2 h3 h4 h5 h6 h7 h8 h9 h0 (xL4 h11) on)) fun h9 h=>dE h fk72 (vBv a0) (oc11 h0 h1 h2 h3 h4 h5 h6 h7 h8 h9 rfl on)) fun h8 h=>dE h fk72 (vBw a0) (oc11 h0 h1 h2 h3 h4 h5 h6 h7 h8 rfl rfl on)) fun h7 h=>dE h fk72 (vBx a0) (oc11 h0 h1 h2 h3 h4 h5 h6 h7 rfl rfl rfl on)) fun h6 h=>cE h (fun h7 h=>tE fk72 (vBy a0) (oc8 h0 h1 h2 h3 h4 h5 h6 h7 on) (xVU g0 _ _ _ _ _ _ h)) fun h7 h=>dE h fk72 (vBz a0) (oc8 h0 h1 h2 h3 h4 h5 h6 h7 on)) fun h0 h=>cE h (fun h2 h=>dE h fk72 (vBA a0) (oc6 h0 rfl h2 rfl rfl rfl on)) fun h2 h=>
 cE h (fun h3 h=>dE h fk72 (vBB a0) (oc7 h0 rfl h2 h3 rfl rfl rfl on)) fun h3 h=>cE h (fun h4 h=>dE h fk72 (vBC a0) (oc8 h0 rfl h2 h3 h4 rfl rfl rfl on)) fun h4 h=>cE h (fun h5 h=>dE h fk72 (vBD a0) (oc9 h0 rfl h2 h3 h4 h5 rfl rfl rfl on)) fun h5 h=>cE h (fun h6 h=>cE h (fun h7 h=>cE h (fun h8 h=>cE h (fun h9 h=>dE h fk72 (vBE a0) (oc11 h0 rfl h2 h3 h4 h5 h6 h7 h8 h9 h0 on)) fun h9 h=>dE h fk72 (vBF a0) (oc11 h0 rfl h2 h3 h4 h5 h6 h7 h8 h9 rfl on)) fun h8 h=>dE h fk72 (vBG a0) (oc11 h0 rfl h2 h3 h4 h5 h6 h7 h8 rfl rfl on)) fun h7 h=>dE h fk72 (vBH a0) (oc11 h0 rfl h2 h3 h4 h5 h6 h7 rfl rfl rfl on)) fun h6 h=>cE h (fun h7 h=>tE fk72 (vBI a0) (oc8 h0 rfl h2 h3 h4 h5 h6 h7 on) (xVU g0 _ _ _ _ _ _ h)) fun h7 h=>dE h fk72 (vBJ a0) (oc8 h0 rfl h2 h3 h4 h5 h6 h7 on)
theorem xK1{N q0}(g0:G72 q0){a0}{r}(h:xE2 N q0 a0=some r):AbC 72 (xAE a0) (xAy r):=
 AbsCalls.of_reach fk72 rfl rfl rfl (jL rfl) (vJT g0 a0 r h)
theorem xIK{N:Nat}:∀d,G72 (xCl N d)
 |0=>fun _ _ h=>nE h
 |d+1=>fun _ _ h=>xK1 (N:=N) (xIK d) h
theorem xFN{N:Nat}{a0:Val}{r:Bool}(h:xH5 N a0=some r):AbC 72 (xAE a0) (xAy r):=xIK N _ r h
noncomputable def I46:Info:= { body:=(Tryz.f46.body).getD .skip,nt:=5,results:=[.cell 2 31],keep:=[0,4,5],live:=[],modes:=[] }
theorem fk46:FnOk Tryz.prog 46 Tryz.f46 I46:=by refine⟨Tryz.func46,?_,?_,?_,?_⟩<;>kernel_rfl
def vDF(a0):rE I46 (xDT a0) [] []=dn (xBq (Val.mk 6 a0 0 [] [] [] [])) []:=by kernel_rfl
theorem vJv{N:Nat}:∀a0 r,xBL N a0=some r→RE Tryz.f46 I46 (xDT a0) (xBq r):=fun a0 r h=>dE h fk46 (vDF a0) on
theorem xCz{N:Nat}{a0:Int}{r:Val}(h:xBL N  a0=some r):AbC 46 (xDT a0) (xBq r):=
 AbsCalls.of_reach fk46 rfl rfl rfl (jL rfl) (vJv a0 r h)
theorem xJN{P:Program}{f:FuncId}{ags:List Arg}{r:Val×Bool×Bool}(h:AbsCalls P f ags (xDa r))(ht:r.2.2=true):AbsCalls P f ags (xEF r):=by
 unfold xDa at h;rw [ht] at h;exact h
theorem xJM{P:Program}{f:FuncId}{ags:List Arg}{r:Val×Bool×Bool}(h:AbsCalls P f ags (xDa r))(ht:r.2.2=false):AbsCalls P f ags (xEE r):=by
 unfold xDa at h;rw [ht] at h;exact h
noncomputable def I89:Info:= { body:=(Tryz.f89.body).getD .skip,nt:=22,results:=[.cell 2 31,.tmp 3],keep:=[0,4,6,10,12,14,16,18,28,36,5,11],live:=[(2,[4,12,14,16,5])],modes:=[(8,[(1,.take,false)])] }
theorem fk89:FnOk Tryz.prog 89 Tryz.f89 I89:=by refine⟨Tryz.func89,?_,?_,?_,?_⟩<;>kernel_rfl
def xTH(x6:List Val)(x7 x8:Int)(b2:Val):St:=[(4,.v false [.ptr 2 0]),(12,.v false [.sl .ro .val x6]),(14,.v false [.int .i64 x7]),(16,.v false [.int .i64 x8]),(5,.v true (Va .own b2))]
def vGK(x6 x7 x8 b2 r1 r2):rS 2 I89 (xTH x6 x7 x8 b2) [Y,Y] [xAy r1,xBq r2]=dn (xDa (r2,true,false)) [xFn x8 x7,xIf x8 x6,xLE x6 x8 r1,iY (!r1),AbC 46 (xDT 4) (xBq r2)]:=by kernel_rfl
def vGL(x6 x7 x8 b2 r1):rS 2 I89 (xTH x6 x7 x8 b2) [Y,F,Y] [xAy r1]=dn (xDa ((xMb x6 x8),true,true)) [xFn x8 x7,xIf x8 x6,xLE x6 x8 r1,xBT r1,iY (xRh x6 x8)]:=by kernel_rfl
def vGM(x6 x7 x8 b2 r1):rS 2 I89 (xTH x6 x7 x8 b2) [Y,F,F] [xAy r1]=st 2 I89 (xTH x6 x7 (W (x8+1)) b2) [xFn x8 x7,xIf x8 x6,xLE x6 x8 r1,xBT r1,iN (xRh x6 x8)]:=by kernel_rfl
def vGN(x6 x7 x8 b2):rS 2 I89 (xTH x6 x7 x8 b2) [F] []=dn (xDa ((Val.mk 0 0 0 [] [] [] []),false,false)) [xHr x8 x7]:=by kernel_rfl
def vGO(a0):rE I89 (xEg a0) [] []=st 2 I89 (xTH a0 (Ln a0:Int) 0 (Val.mk 0 0 0 [] [] [] [])) []:=by kernel_rfl
theorem vKc{N:Nat}:∀n x6 x7 x8 b2 r,xDP N n x6 x7 x8 b2=some r→RS Tryz.f89 I89 2 (xTH x6 x7 x8 b2) (xDa r):=by
 intro n
 induction n with
 |zero=>exact fun _ _ _ _ _ h=>nE h
 |succ n ih=>
  exact fun x6 x7 x8 b2 r h=>cE h (fun h0 h=>iE h fun h1 h=>bE h fun r1 h2 h=>cE h (fun h3 h=>bE h fun r2 h4 h=>dS h fk89 (vGK x6 x7 x8 b2 r1 r2) (oc5 h0 h1 (xFN h2) h3 (xCz h4) on)) fun h3 h=>cE h (fun h4 h=>dS h fk89 (vGL x6 x7 x8 b2 r1) (oc5 h0 h1 (xFN h2) h3 h4 on)) fun h4 h=>tS fk89 (vGM x6 x7 x8 b2 r1) (oc5 h0 h1 (xFN h2) h3 h4 on) (ih _ _ _ _ _ h)) fun h0 h=>dS h fk89 (vGN x6 x7 x8 b2) (oc h0 on)
theorem vKd{N:Nat}:∀a0 r,xH8 N a0=some r→RE Tryz.f89 I89 (xEg a0) (xDa r):=fun a0 r h=>tE fk89 (vGO a0) on (vKc _ _ _ _ _ _ h)
theorem xGV{N:Nat}{a0:List Val}{r:Val×Bool×Bool}(h:xH8 N  a0=some r):AbC 89 (xEg a0) (xDa r):=
 AbsCalls.of_reach fk89 rfl rfl rfl (jL rfl) (vKd a0 r h)
theorem xNj{P:Program}{f:FuncId}{ags:List Arg}{r:Val×Bool×Bool}(h:AbsCalls P f ags (xDf r))(ht:r.2.2=true):AbsCalls P f ags (xI1 r):=by
 unfold xDf at h;rw [ht] at h;exact h
theorem xDV{P:Program}{f:FuncId}{ags:List Arg}{r:Val×Bool×Bool}(h:AbsCalls P f ags (xDf r))(ht:r.2.2=false):AbsCalls P f ags (xCe r):=by
 unfold xDf at h;rw [ht] at h;exact h
theorem xDU{P:Program}{f:FuncId}{ags:List Arg}{r:Val×Bool×Bool}(h:AbsCalls P f ags (xDf r))(ht:r.2.2=true)(e0:List.isEmpty (Val.list r.1)=true)(e1:List.isEmpty (Val.columns r.1)=true)(e2:List.isEmpty (Val.rows r.1)=true):AbsCalls P f ags (xCt r):=by
 have h:=xNj h ht
 unfold xI1 at h;rw [List.isEmpty_iff.1 e0,List.isEmpty_iff.1 e1,List.isEmpty_iff.1 e2] at h;exact h
noncomputable def I42:Info:= { body:=(Tryz.f42.body).getD .skip,nt:=34,results:=[.cell 4 31,.tmp 5],keep:=[0,2,8,10,12,14,16,18,30,34,36,38,40,60,9,13,19],live:=[(5,[0,8,34,36,38,9])],modes:=[(1,[(2,.take,false)]),(2,[(0,.take,false)]),(3,[(0,.take,false)]),(7,[(3,.take,false)]),(9,[(1,.take,false)])] }
theorem fk42:FnOk Tryz.prog 42 Tryz.f42 I42:=by refine⟨Tryz.func42,?_,?_,?_,?_⟩<;>kernel_rfl
def xTC(x0:List Int)(x17:List Val)(x18 x19:Int)(b4:Val):St:=[(0,.v false [.sl .ro .int x0]),(8,.v false [.ptr 4 0]),(34,.v false [.sl .ro .val x17]),(36,.v false [.int .i64 x18]),(38,.v false [.int .i64 x19]),(9,.v true (Va .own b4))]
def vDp(x0 x17 x18 x19 b4 r1):rS 5 I42 (xTC x0 x17 x18 x19 b4) [Y,Y] [xBq r1]=dn (xDf (r1,true,false)) [xFn x19 x18,xIf x19 x17,xMh x19 x0,iY (xRi x17 x19 x0),AbC 46 (xDT 4) (xBq r1)]:=by kernel_rfl
def vDq(x0 x17 x18 x19 b4):rS 5 I42 (xTC x0 x17 x18 x19 b4) [Y,F] []=st 5 I42 (xTC x0 x17 x18 (W (x19+1)) b4) [xFn x19 x18,xIf x19 x17,xMh x19 x0,iN (xRi x17 x19 x0)]:=by kernel_rfl
def vDr(x0 x17 x18 x19 b4):rS 5 I42 (xTC x0 x17 x18 x19 b4) [F] []=dn (xDf ((Val.mk 0 0 0 [] [] [] []),false,false)) [xHr x19 x18]:=by kernel_rfl
def vDs(a0 a1 r1):rE I42 (xD9 a0 a1) [Y] [xEF r1]=dn (xDf (r1.1,true,true)) [AbC 89 (xEg a1) (xEF r1),iY r1.2.1]:=by kernel_rfl
def vDt(a0 a1 r1):rE I42 (xD9 a0 a1) [F] [xEF r1]=st 5 I42 (xTC a0 a1 (Ln a1:Int) 0 (Val.mk 0 0 0 [] [] [] [])) [AbC 89 (xEg a1) (xEF r1),iN r1.2.1]:=by kernel_rfl
def vDu(a0 a1 r1):rE I42 (xD9 a0 a1) [Y] [xEE r1]=dn (xDf (r1.1,true,false)) [AbC 89 (xEg a1) (xEE r1),iY r1.2.1]:=by kernel_rfl
def vDv(a0 a1 r1):rE I42 (xD9 a0 a1) [F] [xEE r1]=st 5 I42 (xTC a0 a1 (Ln a1:Int) 0 (Val.mk 0 0 0 [] [] [] [])) [AbC 89 (xEg a1) (xEE r1),iN r1.2.1]:=by kernel_rfl
theorem vIm{N:Nat}:∀n x0 x17 x18 x19 b4 r,xEa N n x0 x17 x18 x19 b4=some r→RS Tryz.f42 I42 5 (xTC x0 x17 x18 x19 b4) (xDf r):=by
 intro n
 induction n with
 |zero=>exact fun _ _ _ _ _ _ h=>nE h
 |succ n ih=>
  exact fun x0 x17 x18 x19 b4 r h=>cE h (fun h0 h=>iE h fun h1 h=>iE h fun h2 h=>cE h (fun h3 h=>bE h fun r1 h4 h=>dS h fk42 (vDp x0 x17 x18 x19 b4 r1) (oc5 h0 h1 h2 h3 (xCz h4) on)) fun h3 h=>tS fk42 (vDq x0 x17 x18 x19 b4) (oc4 h0 h1 h2 h3 on) (ih _ _ _ _ _ _ h)) fun h0 h=>dS h fk42 (vDr x0 x17 x18 x19 b4) (oc h0 on)
theorem vJp{N:Nat}:∀a0 a1 r,xHB N a0 a1=some r→RE Tryz.f42 I42 (xD9 a0 a1) (xDf r):=fun a0 a1 r h=>bE h fun r1 h0 h=>cE h (fun h1 h=>cE h (fun h2 h=>dE h fk42 (vDs a0 a1 r1) (oc2 (xJN (xGV h0) h1) h2 on)) fun h2 h=>tE fk42 (vDt a0 a1 r1) (oc2 (xJN (xGV h0) h1) h2 on) (vIm _ _ _ _ _ _ _ h)) fun h1 h=>cE h (fun h2 h=>dE h fk42 (vDu a0 a1 r1) (oc2 (xJM (xGV h0) h1) h2 on)) fun h2 h=>tE fk42 (vDv a0 a1 r1) (oc2 (xJM (xGV h0) h1) h2 on) (vIm _ _ _ _ _ _ _ h)
theorem xBU{N:Nat}{a0:List Int}{a1:List Val}{r:Val×Bool×Bool}(h:xHB N  a0 a1=some r):AbC 42 (xD9 a0 a1) (xDf r):=
 AbsCalls.of_reach fk42 rfl rfl rfl (jL rfl) (vJp a0 a1 r h)
noncomputable def I43:Info:= { body:=(Tryz.f43.body).getD .skip,nt:=9,results:=[.tmp 4],keep:=[0,2,4,8,5],live:=[],modes:=[] }
theorem fk43:FnOk Tryz.prog 43 Tryz.f43 I43:=by refine⟨Tryz.func43,?_,?_,?_,?_⟩<;>kernel_rfl
def vDw(a0 a1 r1):rE I43 (xHe a0 a1) [] [xDJ r1]=dn (xA0 r1) [AbC 90 (xHU a0.columns a1) (xDJ r1)]:=by kernel_rfl
theorem vJq{N:Nat}:∀a0 a1 r,xD5 N a0 a1=some r→RE Tryz.f43 I43 (xHe a0 a1) (xA0 r):=fun a0 a1 r h=>bE h fun r1 h0 h=>dE h fk43 (vDw a0 a1 r1) (oc (xHV h0) on)
theorem xA6{N:Nat}{a0:Val}{a1:Str}{r:Int}(h:xD5 N  a0 a1=some r):AbC 43 (xHe a0 a1) (xA0 r):=
 AbsCalls.of_reach fk43 rfl rfl rfl (jL rfl) (vJq a0 a1 r h)
noncomputable def I44:Info:= { body:=(Tryz.f44.body).getD .skip,nt:=25,results:=[.tmp 4],keep:=[0,2,8,10,14,18,20,22,24,36],live:=[(3,[2,10,18,20,22])],modes:=[(6,[(0,.take,false)]),(7,[(1,.take,false)]),(8,[(0,.take,false)])] }
theorem fk44:FnOk Tryz.prog 44 Tryz.f44 I44:=by refine⟨Tryz.func44,?_,?_,?_,?_⟩<;>kernel_rfl
def xTD(x1 x5 x9:List Str)(x10 x11:Int):St:=[(2,.v false [.sl .ro .str x1]),(10,.v false [.sl .own .str x5]),(18,.v false [.sl .ro .str x9]),(20,.v false [.int .i64 x10]),(22,.v false [.int .i64 x11])]
def vDx(x1 x5 x9 x10 x11 r1):rS 3 I44 (xTD x1 x5 x9 x10 x11) [Y,Y] [xDJ r1]=st 3 I44 (xTD x1 (x5++ [(xKs x9 x11)]) x9 x10 (W (x11+1))) [xFn x11 x10,xIO x11 x9,xQ5 x1 x9 x11 r1,xMJ r1,Ln x5+Ln [(xKs x9 x11)]≤Lim]:=by kernel_rfl
def vDy(x1 x5 x9 x10 x11 r1):rS 3 I44 (xTD x1 x5 x9 x10 x11) [Y,F] [xDJ r1]=st 3 I44 (xTD x1 x5 x9 x10 (W (x11+1))) [xFn x11 x10,xIO x11 x9,xQ5 x1 x9 x11 r1,xHs r1]:=by kernel_rfl
def vDz(x1 x5 x9 x10 x11):rS 3 I44 (xTD x1 x5 x9 x10 x11) [F] []=dn (xC5 x5) [xHr x11 x10]:=by kernel_rfl
def vDA(a0 a1):rE I44 (xIY a0 a1) [] []=st 3 I44 (xTD a1 [] a0 (Ln a0:Int) 0) []:=by kernel_rfl
theorem vJr{N:Nat}:∀n x1 x5 x9 x10 x11 r,xFu N n x1 x5 x9 x10 x11=some r→RS Tryz.f44 I44 3 (xTD x1 x5 x9 x10 x11) (xC5 r):=by
 intro n
 induction n with
 |zero=>exact fun _ _ _ _ _ _ h=>nE h
 |succ n ih=>
  exact fun x1 x5 x9 x10 x11 r h=>cE h (fun h0 h=>iE h fun h1 h=>bE h fun r1 h2 h=>cE h (fun h3 h=>iE h fun h4 h=>tS fk44 (vDx x1 x5 x9 x10 x11 r1) (oc5 h0 h1 (xHV h2) h3 h4 on) (ih _ _ _ _ _ _ h)) fun h3 h=>tS fk44 (vDy x1 x5 x9 x10 x11 r1) (oc4 h0 h1 (xHV h2) h3 on) (ih _ _ _ _ _ _ h)) fun h0 h=>dS h fk44 (vDz x1 x5 x9 x10 x11) (oc h0 on)
theorem vJs{N:Nat}:∀a0 a1 r,xIL N a0 a1=some r→RE Tryz.f44 I44 (xIY a0 a1) (xC5 r):=fun a0 a1 r h=>tE fk44 (vDA a0 a1) on (vJr _ _ _ _ _ _ _ h)
theorem xEm{N:Nat}{a0:List Str}{a1:List Str}{r:(List Str)}(h:xIL N  a0 a1=some r):AbC 44 (xIY a0 a1) (xC5 r):=
 AbsCalls.of_reach fk44 rfl rfl rfl (jL rfl) (vJs a0 a1 r h)
theorem xMy{N:Nat}{a0 a1 r:List Org}(h:xH6 N a0 a1=some r):AbC 20 (xIg a0 a1) (xGU r):=vB5 h
end Go.Ab.T
end
section
open Go.Proofs
namespace Go.Ab.T
set_option maxRecDepth 100000
variable [Inhabited Lb]
theorem xOY{P:Program}{f:FuncId}{ags:List Arg}{r:Val×Bool}(h:AbsCalls P f ags (xDL r))(ht:r.2=true):AbsCalls P f ags (xKj r):=by
 unfold xDL at h;rw [ht] at h;exact h
theorem xAA{P:Program}{f:FuncId}{ags:List Arg}{r:Val×Bool}(h:AbsCalls P f ags (xDL r))(ht:r.2=false):AbsCalls P f ags (xAw r):=by
 unfold xDL at h;rw [ht] at h;exact h
theorem xAz{P:Program}{f:FuncId}{ags:List Arg}{r:Val×Bool}(h:AbsCalls P f ags (xDL r))(ht:r.2=true)(e0:List.isEmpty (Val.list r.1)=true)(e1:List.isEmpty (Val.columns r.1)=true)(e2:List.isEmpty (Val.rows r.1)=true):AbsCalls P f ags (xAx r):=by
 have h:=xOY h ht
 unfold xKj at h;rw [List.isEmpty_iff.1 e0,List.isEmpty_iff.1 e1,List.isEmpty_iff.1 e2] at h;exact h
noncomputable def I11:Info:= { body:=(Tryz.f11.body).getD .skip,nt:=128,results:=[.cell 6 31],keep:=[0,2,4,6,8,10,12,14,16,18,20,22,24,28,32,34,54,122,132,138,140,142,144,152,154,156,158,184,250,7,9,11,13,15,25,29,33],live:=[(13,[10,12,18,20,24,138,140,142,11,13,25]),(16,[10,12,18,20,24,28,138,140,142,152,154,156,11,13,25,29])],modes:=[(1,[(5,.take,true),(6,.take,false)]),(2,[(0,.take,false)]),(3,[(0,.take,false)]),(7,[(4,.take,false)]),(8,[(2,.take,false),(6,.take,false)]),(20,[(1,.take,false),(2,.take,false),(10,.take,false)]),(21,[(1,.take,false)]),(22,[(1,.take,false)]),(25,[(0,.take,false)])] }
theorem fk11:FnOk Tryz.prog 11 Tryz.f11 I11:=by refine⟨Tryz.func11,?_,?_,?_,?_⟩<;>kernel_rfl
def xOc(x9 x10:Int)(x69:List Rowd)(x70 x71:Int)(b5 b6 b12:Val):St:=[(10,.v false [.ptr 5 0]),(12,.v false [.ptr 6 0]),(18,.v false [.int .i64 x9]),(20,.v false [.int .i64 x10]),(24,.v false [.ptr 12 0]),(138,.v false [.sl .ro .row x69]),(140,.v false [.int .i64 x70]),(142,.v false [.int .i64 x71]),(11,.v true (Va .ro b5)),(13,.v true (Va .own b6)),(25,.v true (Va .own b12))]
def xOI(x9 x10:Int)(x69:List Rowd)(x70 x71:Int)(x76:List Rowd)(x77 x78:Int)(b5 b6 b12:Val)(b14:Rowd):St:=[(10,.v false [.ptr 5 0]),(12,.v false [.ptr 6 0]),(18,.v false [.int .i64 x9]),(20,.v false [.int .i64 x10]),(24,.v false [.ptr 12 0]),(28,.v false [.ptr 14 0]),(138,.v false [.sl .ro .row x69]),(140,.v false [.int .i64 x70]),(142,.v false [.int .i64 x71]),(152,.v false [.sl .ro .row x76]),(154,.v false [.int .i64 x77]),(156,.v false [.int .i64 x78]),(11,.v true (Va .ro b5)),(13,.v true (Va .own b6)),(25,.v true (Va .own b12)),(29,.v true [.sl .ro .int b14.cells,.sl .ro .org b14.frm])]
abbrev xQ6(v0:Int)(v1:List Rowd)(v2:Int):Prop:=(0:Int)≤v0∧v0<(Ln (xM0 v1 v2))
abbrev xRm(v0:List Rowd)(v1 v2:Int):=gD (Rowd.cells (gD v0 (tN v1) rd)) (tN v2) Ty.int.dflt
def xYV(x9 x10 x69 x70 x71 x76 x77 x78 b5 b6 b12 b14):rS 16 I11 (xOI x9 x10 x69 x70 x71 x76 x77 x78 b5 b6 b12 b14) [Y,Y] []=st 16 I11 (xOI x9 x10 x69 x70 x71 x76 x77 (W (x78+1)) b5 b6 b12 b14) [xFn x78 x77,xLD x78 x76,xUO x9 b14,xQ6 x10 x76 x78,iY ((gD b14.cells (tN x9) Ty.int.dflt) != (xRm x76 x78 x10))]:=by kernel_rfl
abbrev xUv(v0:Int)(v1:List Rowd)(v2:Int):=List.drop (tN (W (v0+1))) (Rowd.cells (gD v1 (tN v2) rd))
abbrev xRn(v0:Int)(v1:List Rowd)(v2:Int):=List.take (tN v0) (Rowd.cells (gD v1 (tN v2) rd))
def xYW(x9 x10 x69 x70 x71 x76 x77 x78 b5 b6 b12 b14 r1):rS 16 I11 (xOI x9 x10 x69 x70 x71 x76 x77 x78 b5 b6 b12 b14) [Y,F] [xGU r1]=st 16 I11 (xOI x9 x10 x69 x70 x71 x76 x77 (W (x78+1)) b5 b6 (Val.mk b12.kind b12.n b12.step b12.text b12.list b12.columns (b12.rows++ [(Rowd.mk ((([]++b14.cells)++(xRn x10 x76 x78))++(xUv x10 x76 x78)) r1)])) b14) [xFn x78 x77,xLD x78 x76,xUO x9 b14,xQ6 x10 x76 x78,iN ((gD b14.cells (tN x9) Ty.int.dflt) != (xRm x76 x78 x10)),0+Ln b14.cells≤Lim,(0:Int)≤x10∧x10≤(Ln (xM0 x76 x78)),Ln ([]++b14.cells)+Ln (xRn x10 x76 x78)≤Lim,(0:Int)≤(W (x10+1))∧(W (x10+1))≤(Ln (xM0 x76 x78)),Ln (([]++b14.cells)++(xRn x10 x76 x78))+Ln (xUv x10 x76 x78)≤Lim,AbC 20 (xIg b14.frm (Rowd.frm (xMc x76 x78))) (xGU r1),Ln b12.rows+Ln [(Rowd.mk ((([]++b14.cells)++(xRn x10 x76 x78))++(xUv x10 x76 x78)) r1)]≤Lim]:=by kernel_rfl
def xYX(x9 x10 x69 x70 x71 x76 x77 x78 b5 b6 b12 b14):rS 16 I11 (xOI x9 x10 x69 x70 x71 x76 x77 x78 b5 b6 b12 b14) [F] []=st 13 I11 (xOc x9 x10 x69 x70 (W (x71+1)) b5 b6 b12) [xHr x78 x77]:=by kernel_rfl
def xYS(x9 x10 x69 x70 x71 b5 b6 b12):rS 13 I11 (xOc x9 x10 x69 x70 x71 b5 b6 b12) [Y] []=st 16 I11 (xOI x9 x10 x69 x70 x71 b5.rows (xHJ b5) 0 b5 b6 b12 (xMc x69 x71)) [xFn x71 x70,xLD x71 x69]:=by kernel_rfl
abbrev xK5(v0:Val):=xDL (v0,false)
def xYT(x9 x10 x69 x70 x71 b5 b6 b12 r1):rS 13 I11 (xOc x9 x10 x69 x70 x71 b5 b6 b12) [F,Y] [xBq r1]=dn (xK5 r1) [xHr x71 x70,xUP b12,AbC 46 (xDT 6) (xBq r1)]:=by kernel_rfl
def xYU(x9 x10 x69 x70 x71 b5 b6 b12):rS 13 I11 (xOc x9 x10 x69 x70 x71 b5 b6 b12) [F,F] []=dn (xK5 b12) [xHr x71 x70,xUQ b12]:=by kernel_rfl
abbrev xNP(v0 v1 v2:Val)(v3:Val×Bool×Bool):Prop:=AbC 42 (xD9 [2,5,5] [v0.re,v1.re,v2.re]) (xCt v3)
def vCF(a0 a1 a2 r1):rE I11 (xCE a0 a1 a2) [Y] [xCt r1]=dn (xDL ((Val.mk r1.1.kind r1.1.n r1.1.step r1.1.text [] [] []),true)) [xNP a0 a1 a2 r1,iY r1.2.1]:=by kernel_rfl
abbrev xFT(v0 v1:Val)(v2:Int):Prop:=AbC 43 (xHe v0 v1.text) (xA0 v2)
abbrev xK3(v0 v1:Val)(v2:(List Str)):Prop:=AbC 44 (xIY v0.columns [v1.text]) (xC5 v2)
abbrev xK4(v0:Val)(v1:(List Str)):Prop:=Ln ([]++v0.columns)+Ln v1≤Lim
abbrev xL5(v0:Val):Prop:=AbC 46 (xDT 7) (xBq v0)
def vCG(a0 a1 a2 r1 r2 r3 r4 r5):rE I11 (xCE a0 a1 a2) [F,Y,Y,Y] [xCt r1,xA0 r2,xA0 r3,xC5 r4,xBq r5]=dn (xK5 r5) [xNP a0 a1 a2 r1,iN r1.2.1,xFT a1 a0 r2,xFT a2 a0 r3,xK3 a2 a0 r4,xJe a1,xK4 a1 r4,xMJ r2,iY true,iY true,xL5 r5]:=by kernel_rfl
def vCH(a0 a1 a2 r1 r2 r3 r4 r5):rE I11 (xCE a0 a1 a2) [F,F,Y,Y] [xCt r1,xA0 r2,xA0 r3,xC5 r4,xBq r5]=dn (xK5 r5) [xNP a0 a1 a2 r1,iN r1.2.1,xFT a1 a0 r2,xFT a2 a0 r3,xK3 a2 a0 r4,xJe a1,xK4 a1 r4,xHs r2,xMJ r3,iY true,xL5 r5]:=by kernel_rfl
abbrev xNQ(v0:Val)(v1:(List Str))(v2:Bool):Prop:=AbC 45 (xF8 (([]++v0.columns)++v1)) (xCc v2)
def vCI(a0 a1 a2 r1 r2 r3 r4 r5 r6):rE I11 (xCE a0 a1 a2) [F,F,F,Y] [xCt r1,xA0 r2,xA0 r3,xC5 r4,xCc r5,xBq r6]=dn (xK5 r6) [xNP a0 a1 a2 r1,iN r1.2.1,xFT a1 a0 r2,xFT a2 a0 r3,xK3 a2 a0 r4,xJe a1,xK4 a1 r4,xHs r2,xHs r3,xNQ a1 r4 r5,iY (!r5),xL5 r6]:=by kernel_rfl
def xYY(a0 a1 a2 r1 r2 r3 r4 r5 r6):rE I11 (xCE a0 a1 a2) [F,F,F,F,Y] [xCt r1,xA0 r2,xA0 r3,xC5 r4,xCc r5,xBq r6]=dn (xK5 r6) [xNP a0 a1 a2 r1,iN r1.2.1,xFT a1 a0 r2,xFT a2 a0 r3,xK3 a2 a0 r4,xJe a1,xK4 a1 r4,xHs r2,xHs r3,xNQ a1 r4 r5,xBT r5,iY (dc (((Ln (([]++a1.columns)++r4):Int):Int)>4)),AbC 46 (xDT 6) (xBq r6)]:=by kernel_rfl
def xYZ(a0 a1 a2 r1 r2 r3 r4 r5):rE I11 (xCE a0 a1 a2) [F,F,F,F,F] [xCt r1,xA0 r2,xA0 r3,xC5 r4,xCc r5]=st 13 I11 (xOc r2 r3 a1.rows (xHJ a1) 0 a2 (Val.mk 0 0 0 [] [] [] []) (Val.mk 5 0 0 [] [] (([]++a1.columns)++r4) [])) [xNP a0 a1 a2 r1,iN r1.2.1,xFT a1 a0 r2,xFT a2 a0 r3,xK3 a2 a0 r4,xJe a1,xK4 a1 r4,xHs r2,xHs r3,xNQ a1 r4 r5,xBT r5,iN (dc (((Ln (([]++a1.columns)++r4):Int):Int)>4))]:=by kernel_rfl
abbrev xNR(v0 v1 v2:Val)(v3:Val×Bool×Bool):Prop:=AbC 42 (xD9 [2,5,5] [v0.re,v1.re,v2.re]) (xCe v3)
def xY0(a0 a1 a2 r1):rE I11 (xCE a0 a1 a2) [Y] [xCe r1]=dn (xDL (r1.1,false)) [xNR a0 a1 a2 r1,iY r1.2.1]:=by kernel_rfl
def xY1(a0 a1 a2 r1 r2 r3 r4 r5):rE I11 (xCE a0 a1 a2) [F,Y,Y,Y] [xCe r1,xA0 r2,xA0 r3,xC5 r4,xBq r5]=dn (xK5 r5) [xNR a0 a1 a2 r1,iN r1.2.1,xFT a1 a0 r2,xFT a2 a0 r3,xK3 a2 a0 r4,xJe a1,xK4 a1 r4,xMJ r2,iY true,iY true,xL5 r5]:=by kernel_rfl
def xY2(a0 a1 a2 r1 r2 r3 r4 r5):rE I11 (xCE a0 a1 a2) [F,F,Y,Y] [xCe r1,xA0 r2,xA0 r3,xC5 r4,xBq r5]=dn (xK5 r5) [xNR a0 a1 a2 r1,iN r1.2.1,xFT a1 a0 r2,xFT a2 a0 r3,xK3 a2 a0 r4,xJe a1,xK4 a1 r4,xHs r2,xMJ r3,iY true,xL5 r5]:=by kernel_rfl
def xY3(a0 a1 a2 r1 r2 r3 r4 r5 r6):rE I11 (xCE a0 a1 a2) [F,F,F,Y] [xCe r1,xA0 r2,xA0 r3,xC5 r4,xCc r5,xBq r6]=dn (xK5 r6) [xNR a0 a1 a2 r1,iN r1.2.1,xFT a1 a0 r2,xFT a2 a0 r3,xK3 a2 a0 r4,xJe a1,xK4 a1 r4,xHs r2,xHs r3,xNQ a1 r4 r5,iY (!r5),xL5 r6]:=by kernel_rfl
def xY4(a0 a1 a2 r1 r2 r3 r4 r5 r6):rE I11 (xCE a0 a1 a2) [F,F,F,F,Y] [xCe r1,xA0 r2,xA0 r3,xC5 r4,xCc r5,xBq r6]=dn (xK5 r6) [xNR a0 a1 a2 r1,iN r1.2.1,xFT a1 a0 r2,xFT a2 a0 r3,xK3 a2 a0 r4,xJe a1,xK4 a1 r4,xHs r2,xHs r3,xNQ a1 r4 r5,xBT r5,iY (dc (((Ln (([]++a1.columns)++r4):Int):Int)>4)),AbC 46 (xDT 6) (xBq r6)]:=by kernel_rfl
def xY5(a0 a1 a2 r1 r2 r3 r4 r5):rE I11 (xCE a0 a1 a2) [F,F,F,F,F] [xCe r1,xA0 r2,xA0 r3,xC5 r4,xCc r5]=st 13 I11 (xOc r2 r3 a1.rows (xHJ a1) 0 a2 (Val.mk 0 0 0 [] [] [] []) (Val.mk 5 0 0 [] [] (([]++a1.columns)++r4) [])) [xNR a0 a1 a2 r1,iN r1.2.1,xFT a1 a0 r2,xFT a2 a0 r3,xK3 a2 a0 r4,xJe a1,xK4 a1 r4,xHs r2,xHs r3,xNQ a1 r4 r5,xBT r5,iN (dc (((Ln (([]++a1.columns)++r4):Int):Int)>4))]:=by kernel_rfl
theorem vHH{N:Nat}{k13:Int→Int→(List Rowd)→Int→Int→Val→Val→Val→Option (Val×Bool)}(hk13:∀z0 z1 z2 z3 z4 z5 z6 z7 r,k13 z0 z1 z2 z3 z4 z5 z6 z7=some r→RS Tryz.f11 I11 13 (xOc z0 z1 z2 z3 z4 z5 z6 z7) (xDL r)):∀n x9 x10 x69 x70 x71 x76 x77 x78 b5 b6 b12 b14 r,xGc N k13 n x9 x10 x69 x70 x71 x76 x77 x78 b5 b6 b12 b14=some r→RS Tryz.f11 I11 16 (xOI x9 x10 x69 x70 x71 x76 x77 x78 b5 b6 b12 b14) (xDL r):=by
 intro n
 induction n with
 |zero=>exact fun _ _ _ _ _ _ _ _ _ _ _ _ _ h=>nE h
 |succ n ih=>
  exact fun x9 x10 x69 x70 x71 x76 x77 x78 b5 b6 b12 b14 r h=>cE h (fun h0 h=>iE h fun h1 h=>iE h fun h2 h=>iE h fun h3 h=>cE h (fun h4 h=>tS fk11 (xYV x9 x10 x69 x70 x71 x76 x77 x78 b5 b6 b12 b14) (oc5 h0 h1 h2 h3 h4 on) (ih _ _ _ _ _ _ _ _ _ _ _ _ _ h)) fun h4 h=>iE h fun h5 h=>iE h fun h6 h=>iE h fun h7 h=>iE h fun h8 h=>iE h fun h9 h=>bE h fun r1 h10 h=>iE h fun h11 h=>tS fk11 (xYW x9 x10 x69 x70 x71 x76 x77 x78 b5 b6 b12 b14 r1) (oc12 h0 h1 h2 h3 h4 h5 h6 h7 h8 h9 (xMy h10) h11 on) (ih _ _ _ _ _ _ _ _ _ _ _ _ _ h)) fun h0 h=>tS fk11 (xYX x9 x10 x69 x70 x71 x76 x77 x78 b5 b6 b12 b14) (oc h0 on) (hk13 _ _ _ _ _ _ _ _ _ h)
theorem vB6{N:Nat}:∀n x9 x10 x69 x70 x71 b5 b6 b12 r,xEL N n x9 x10 x69 x70 x71 b5 b6 b12=some r→RS Tryz.f11 I11 13 (xOc x9 x10 x69 x70 x71 b5 b6 b12) (xDL r):=by
 intro n
 induction n with
 |zero=>exact fun _ _ _ _ _ _ _ _ _ h=>nE h
 |succ n ih=>
  exact fun x9 x10 x69 x70 x71 b5 b6 b12 r h=>cE h (fun h0 h=>iE h fun h1 h=>tS fk11 (xYS x9 x10 x69 x70 x71 b5 b6 b12) (oc2 h0 h1 on) (vHH ih _ _ _ _ _ _ _ _ _ _ _ _ _ _ h)) fun h0 h=>cE h (fun h1 h=>bE h fun r1 h2 h=>dS h fk11 (xYT x9 x10 x69 x70 x71 b5 b6 b12 r1) (oc3 h0 h1 (xCz h2) on)) fun h1 h=>dS h fk11 (xYU x9 x10 x69 x70 x71 b5 b6 b12) (oc2 h0 h1 on)
theorem vI6{N:Nat}:∀a0 a1 a2 r,xB4 N a0 a1 a2=some r→RE Tryz.f11 I11 (xCE a0 a1 a2) (xDL r):=fun a0 a1 a2 r h=>bE h fun r1 h0 h=>cE h (fun h1 h=>iE h fun h2 h=>iE h fun h3 h=>iE h fun h4 h=>cE h (fun h5 h=>dE h fk11 (vCF a0 a1 a2 r1) (oc2 (xDU (xBU h0) h1 h2 h3 h4) h5 on)) fun h5 h=>bE h fun r2 h6 h=>bE h fun r3 h7 h=>bE h fun r4 h8 h=>iE h fun h9 h=>iE h fun h10 h=>cE h (fun h11 h=>bE h fun r5 h14 h=>dE h fk11 (vCG a0 a1 a2 r1 r2 r3 r4 r5) (oc11 (xDU (xBU h0) h1 h2 h3 h4) h5 (xA6 h6) (xA6 h7) (xEm h8) h9 h10 h11 rfl rfl (xCz h14) on)) fun h11 h=>cE h (fun h12 h=>bE h fun r5 h14 h=>dE h fk11 (vCH a0 a1 a2 r1 r2 r3 r4 r5) (oc11 (xDU (xBU h0) h1 h2 h3 h4) h5 (xA6 h6) (xA6 h7) (xEm h8) h9 h10 h11 h12 rfl (xCz h14) on)) fun h12 h=>bE h fun r5 h13 h=>cE h (fun h14 h=>bE h fun r6 h15 h=>dE h fk11 (vCI a0 a1 a2 r1 r2 r3 r4 r5 r6) (oc12 (xDU (xBU h0) h1 h2 h3 h4) h5 (xA6 h6) (xA6 h7) (xEm h8) h9 h10 h11 h12 (xEx h13) h14 (xCz h15) on)) fun h14 h=>cE h (fun h15 h=>bE h fun r6 h16 h=>dE h fk11 (xYY a0 a1 a2 r1 r2 r3 r4 r5 r6) (oc12 (xDU (xBU h0) h1 h2 h3 h4) h5 (xA6 h6) (xA6 h7) (xEm h8) h9 h10 h11 h12 (xEx h13) h14 h15 (oc (xCz h16) on))) fun h15 h=>tE fk11 (xYZ a0 a1 a2 r1 r2 r3 r4 r5) (oc12 (xDU (xBU h0) h1 h2 h3 h4) h5 (xA6 h6) (xA6 h7) (xEm h8) h9 h10 h11 h12 (xEx h13) h14 h15 on) (vB6 _ _ _ _ _ _ _ _ _ _ h)) fun h1 h=>cE h (fun h2 h=>dE h fk11 (xY0 a0 a1 a2 r1) (oc2 (xDV (xBU h0) h1) h2 on)) fun h2 h=>bE h fun r2 h3 h=>bE h fun r3 h4 h=>bE h fun r4 h5 h=>iE h fun h6 h=>iE h fun h7 h=>cE h (fun h8 h=>bE h fun r5 h11 h=>dE h fk11 (xY1 a0 a1 a2 r1 r2 r3 r4 r5) (oc11 (xDV (xBU h0) h1) h2 (xA6 h3) (xA6 h4) (xEm h5) h6 h7 h8 rfl rfl (xCz h11) on)) fun h8 h=>
 cE h (fun h9 h=>bE h fun r5 h11 h=>dE h fk11 (xY2 a0 a1 a2 r1 r2 r3 r4 r5) (oc11 (xDV (xBU h0) h1) h2 (xA6 h3) (xA6 h4) (xEm h5) h6 h7 h8 h9 rfl (xCz h11) on)) fun h9 h=>bE h fun r5 h10 h=>cE h (fun h11 h=>bE h fun r6 h12 h=>dE h fk11 (xY3 a0 a1 a2 r1 r2 r3 r4 r5 r6) (oc12 (xDV (xBU h0) h1) h2 (xA6 h3) (xA6 h4) (xEm h5) h6 h7 h8 h9 (xEx h10) h11 (xCz h12) on)) fun h11 h=>cE h (fun h12 h=>bE h fun r6 h13 h=>dE h fk11 (xY4 a0 a1 a2 r1 r2 r3 r4 r5 r6) (oc12 (xDV (xBU h0) h1) h2 (xA6 h3) (xA6 h4) (xEm h5) h6 h7 h8 h9 (xEx h10) h11 h12 (oc (xCz h13) on))) fun h12 h=>tE fk11 (xY5 a0 a1 a2 r1 r2 r3 r4 r5) (oc12 (xDV (xBU h0) h1) h2 (xA6 h3) (xA6 h4) (xEm h5) h6 h7 h8 h9 (xEx h10) h11 h12 on) (vB6 _ _ _ _ _ _ _ _ _ _ h)
theorem xAh{N:Nat}{a0:Val}{a1:Val}{a2:Val}{r:Val×Bool}(h:xB4 N  a0 a1 a2=some r):AbC 11 (xCE a0 a1 a2) (xDL r):=
 AbsCalls.of_reach fk11 rfl rfl rfl (jL rfl) (vI6 a0 a1 a2 r h)
end Go.Ab.T
end
section
open Go.Proofs
namespace Go.Ab.T
set_option maxRecDepth 100000
variable [Inhabited Lb]
noncomputable def I15:Info:= { body:=(Tryz.f15.body).getD .skip,nt:=6,results:=[.tmp 2],keep:=[0,4],live:=[],modes:=[] }
theorem fk15:FnOk Tryz.prog 15 Tryz.f15 I15:=by refine⟨Tryz.func15,?_,?_,?_,?_⟩<;>kernel_rfl
def vCJ(a0):rE I15 (xLA a0) [] []=dn (xAF (dc ((Ln a0:Int)>1048576))) []:=by kernel_rfl
theorem vI7{N:Nat}:∀a0 r,xMr N a0=some r→RE Tryz.f15 I15 (xLA a0) (xAF r):=fun a0 r h=>dE h fk15 (vCJ a0) on
theorem xAG{N:Nat}{a0:List Int}{r:Bool}(h:xMr N  a0=some r):AbC 15 (xLA a0) (xAF r):=
 AbsCalls.of_reach fk15 rfl rfl rfl (jL rfl) (vI7 a0 r h)
noncomputable def I56:Info:= { body:=(Tryz.f56.body).getD .skip,nt:=32,results:=[.tmp 2],keep:=[0,4,6,8,30,63],live:=[(3,[0,6,8])],modes:=[(3,[(4,.take,false)])] }
theorem fk56:FnOk Tryz.prog 56 Tryz.f56 I56:=by refine⟨Tryz.func56,?_,?_,?_,?_⟩<;>kernel_rfl
def xU4(x0:List Int)(x3 x4:Int):St:=[(0,.v false [.sl .ro .byte x0]),(6,.v false [.int .i64 x3]),(8,.v false [.int .i64 x4])]
def vDG(x0 x3 x4):rS 3 I56 (xU4 x0 x3 x4) [Y,Y] []=st 3 I56 (xU4 x0 (andI .i64 (W ((W ((W (x3*131))+(W ((gD x0 (tN x4) Ty.byte.dflt)))))+7)) 1073741823) (W (x4+1))) [iY (dc (x4<(Ln x0:Int))),iY (dc (x4<4000)),xMh x4 x0]:=by kernel_rfl
def vDH(x0 x3 x4):rS 3 I56 (xU4 x0 x3 x4) [Y,F] []=dn (xDI (Cur.mk x0 0 x3)) [iY (dc (x4<(Ln x0:Int))),iN (dc (x4<4000))]:=by kernel_rfl
def vDI(x0 x3 x4):rS 3 I56 (xU4 x0 x3 x4) [F,F] []=dn (xDI (Cur.mk x0 0 x3)) [iN (dc (x4<(Ln x0:Int))),iN false]:=by kernel_rfl
def vDJ(a0):rE I56 (xGI a0) [] []=st 3 I56 (xU4 a0 (W (26583+(Ln a0:Int))) 0) []:=by kernel_rfl
theorem vJw{N:Nat}:∀n x0 x3 x4 r,xIc N n x0 x3 x4=some r→RS Tryz.f56 I56 3 (xU4 x0 x3 x4) (xDI r):=by
 intro n
 induction n with
 |zero=>exact fun _ _ _ _ h=>nE h
 |succ n ih=>
  exact fun x0 x3 x4 r h=>cE h (fun h0 h=>cE h (fun h1 h=>iE h fun h2 h=>tS fk56 (vDG x0 x3 x4) (oc3 h0 h1 h2 on) (ih _ _ _ _ h)) fun h1 h=>dS h fk56 (vDH x0 x3 x4) (oc2 h0 h1 on)) fun h0 h=>dS h fk56 (vDI x0 x3 x4) (oc2 h0 rfl on)
theorem vJx{N:Nat}:∀a0 r,xIR N a0=some r→RE Tryz.f56 I56 (xGI a0) (xDI r):=fun a0 r h=>tE fk56 (vDJ a0) on (vJw _ _ _ _ _ h)
theorem xI7{N:Nat}{a0:List Int}{r:Cur}(h:xIR N  a0=some r):AbC 56 (xGI a0) (xDI r):=
 AbsCalls.of_reach fk56 rfl rfl rfl (jL rfl) (vJx a0 r h)
noncomputable def I108:Info:= { body:=(Tryz.f108.body).getD .skip,nt:=58,results:=[.tmp 2],keep:=[0,4,6,68,1],live:=[],modes:=[],ext:=[0] }
theorem vCo:FnOk Tryz.prog 108 Tryz.f108 I108:=by refine⟨Tryz.func108,?_,?_,?_,?_⟩<;>kernel_rfl
abbrev xWu(v0:Cur):=andI .i64 (xorI .i64 (Int.fdiv (W ((W (v0.h*6364136223846793005))+1442695040888963407)) ((2:Int) ^ (tN 33))) (Int.fdiv (W ((W (v0.h*6364136223846793005))+1442695040888963407)) ((2:Int) ^ (tN 45)))) 255
abbrev xWt(v0:Cur):=W ((W (v0.h*6364136223846793005))+1442695040888963407)
def xXY(a0):rE I108 (xFq a0) [Y] []=dn (xDB ((andI .i64 (W ((xWu a0)+(W ((gD a0.b (tN a0.i) Ty.byte.dflt))))) 255),(Cur.mk a0.b (W (a0.i+1)) (xWt a0)))) [(0:Int)≤33∧(33:Int)<64,(0:Int)≤45∧(45:Int)<64,iY (dc (a0.i<(Ln a0.b:Int))),(0:Int)≤a0.i∧a0.i<(Ln a0.b)]:=by kernel_rfl
def xXZ(a0):rE I108 (xFq a0) [F] []=dn (xDB ((xWu a0),(Cur.mk a0.b a0.i (xWt a0)))) [(0:Int)≤33∧(33:Int)<64,(0:Int)≤45∧(45:Int)<64,iN (dc (a0.i<(Ln a0.b:Int)))]:=by kernel_rfl
theorem vHm{N:Nat}:∀a0 r,xHm N a0=some r→RE Tryz.f108 I108 (xFq a0) (xDB r):=fun a0 r h=>cE h (fun h2 h=>iE h fun h3 h=>dE h vCo (xXY a0) (oc4 (by decide) (by decide) h2 h3 on)) fun h2 h=>dE h vCo (xXZ a0) (oc3 (by decide) (by decide) h2 on)
theorem xIo{N:Nat}{a0:Cur}{r:Int×Cur}(h:xHm N  a0=some r):AbC 108 (xFq a0) (xDB r):=
 AbsCalls.of_reach vCo rfl rfl rfl (jL rfl) (vHm a0 r h)
noncomputable def I67:Info:= { body:=(Tryz.f67.body).getD .skip,nt:=37,results:=[.tmp 4],keep:=[0,2,8,10,12,14,16,20,24,1],live:=[],modes:=[(9,[(0,.take,false),(2,.take,false),(5,.take,false),(8,.take,false)])],ext:=[0] }
theorem fk67:FnOk Tryz.prog 67 Tryz.f67 I67:=by refine⟨Tryz.func67,?_,?_,?_,?_⟩<;>kernel_rfl
def vFE(a0 a1):rE I67 (xBp a0 a1) [Y] []=dn (xAH (0,a0)) [iY (dc (a1≤0))]:=by kernel_rfl
def vFF(a0 a1 r1):rE I67 (xBp a0 a1) [F,Y] [xDB r1]=dn (xAH ((Int.tmod r1.1 a1),r1.2)) [iN (dc (a1≤0)),iY (dc (a1≤256)),AbC 108 (xFq a0) (xDB r1),a1≠(0:Int)]:=by kernel_rfl
def vFG(a0 a1 r1 r2 r3 r4):rE I67 (xBp a0 a1) [F,F] [xDB r1,xDB r2,xDB r3,xDB r4]=dn (xAH ((Int.tmod (W ((W ((W ((W (r1.1*16777216))+(W (r2.1*65536))))+(W (r3.1*256))))+r4.1)) a1),r4.2)) [iN (dc (a1≤0)),iN (dc (a1≤256)),AbC 108 (xFq a0) (xDB r1),AbC 108 (xFq r1.2) (xDB r2),AbC 108 (xFq r2.2) (xDB r3),AbC 108 (xFq r3.2) (xDB r4),a1≠(0:Int)]:=by kernel_rfl
theorem vJK{N:Nat}:∀a0 a1 r,xB0 N a0 a1=some r→RE Tryz.f67 I67 (xBp a0 a1) (xAH r):=fun a0 a1 r h=>cE h (fun h0 h=>dE h fk67 (vFE a0 a1) (oc h0 on)) fun h0 h=>cE h (fun h1 h=>bE h fun r1 h2 h=>iE h fun h3 h=>dE h fk67 (vFF a0 a1 r1) (oc4 h0 h1 (xIo h2) h3 on)) fun h1 h=>bE h fun r1 h2 h=>bE h fun r2 h3 h=>bE h fun r3 h4 h=>bE h fun r4 h5 h=>iE h fun h6 h=>dE h fk67 (vFG a0 a1 r1 r2 r3 r4) (oc7 h0 h1 (xIo h2) (xIo h3) (xIo h4) (xIo h5) h6 on)
theorem xAZ{N:Nat}{a0:Cur}{a1:Int}{r:Int×Cur}(h:xB0 N  a0 a1=some r):AbC 67 (xBp a0 a1) (xAH r):=
 AbsCalls.of_reach fk67 rfl rfl rfl (jL rfl) (vJK a0 a1 r h)
noncomputable def I58:Info:= { body:=(Tryz.f58.body).getD .skip,nt:=9,results:=[.tmp 4],keep:=[0,2,8,1],live:=[],modes:=[],ext:=[0] }
theorem fk58:FnOk Tryz.prog 58 Tryz.f58 I58:=by refine⟨Tryz.func58,?_,?_,?_,?_⟩<;>kernel_rfl
def vDR(a0 a1 r1):rE I58 (xBx a0 a1) [] [xAH r1]=dn (xAS ((r1.1==0),r1.2)) [AbC 67 (xBp a0 a1) (xAH r1)]:=by kernel_rfl
theorem vJB{N:Nat}:∀a0 a1 r,xDS N a0 a1=some r→RE Tryz.f58 I58 (xBx a0 a1) (xAS r):=fun a0 a1 r h=>bE h fun r1 h0 h=>dE h fk58 (vDR a0 a1 r1) (oc (xAZ h0) on)
theorem xBG{N:Nat}{a0:Cur}{a1:Int}{r:Bool×Cur}(h:xDS N  a0 a1=some r):AbC 58 (xBx a0 a1) (xAS r):=
 AbsCalls.of_reach fk58 rfl rfl rfl (jL rfl) (vJB a0 a1 r h)
noncomputable def I131:Info:= { body:=(Tryz.f131.body).getD .skip,nt:=31,results:=[.tmp 2],keep:=[0,4,6,8,10,12,24,1],live:=[(5,[0,6,8,10,12,1])],modes:=[(5,[(1,.take,false)]),(7,[(0,.take,false)]),(9,[(0,.take,false)])],ext:=[0] }
theorem xXv:FnOk Tryz.prog 131 Tryz.f131 I131:=by refine⟨Tryz.func131,?_,?_,?_,?_⟩<;>kernel_rfl
def xSy(x3:List Org)(x4 x5 x6:Int)(b0:Cur):St:=[(0,.v false [.ptr 0 0]),(6,.v false [.sl .own .org x3]),(8,.v false [.int .i64 x4]),(10,.v false [.int .i64 x5]),(12,.v false [.int .i64 x6]),(1,.v true (Cu .ro b0))]
def xZf(x3 x4 x5 x6 b0 r1 r2):rS 5 I131 (xSy x3 x4 x5 x6 b0) [Y] [xAH r1,xAH r2]=st 5 I131 (xSy (x3++ [(Org.mk x4 (W (x6+(W (r1.1*2)))))]) (W ((W (x4+1))+r2.1)) x5 (W (x6+1)) r2.2) [xFn x6 x5,AbC 67 (xBp b0 2) (xAH r1),Ln x3+Ln [(Org.mk x4 (W (x6+(W (r1.1*2)))))]≤Lim,AbC 67 (xBp r1.2 2) (xAH r2)]:=by kernel_rfl
def xZg(x3 x4 x5 x6 b0):rS 5 I131 (xSy x3 x4 x5 x6 b0) [F] []=dn (xHF (x3,b0)) [xHr x6 x5]:=by kernel_rfl
def xZh(a0 r1):rE I131 (xJC a0) [] [xAH r1]=st 5 I131 (xSy [] 1 r1.1 0 r1.2) [AbC 67 (xBp a0 3) (xAH r1)]:=by kernel_rfl
theorem vHM{N:Nat}:∀n x3 x4 x5 x6 b0 r,xHE N n x3 x4 x5 x6 b0=some r→RS Tryz.f131 I131 5 (xSy x3 x4 x5 x6 b0) (xHF r):=by
 intro n
 induction n with
 |zero=>exact fun _ _ _ _ _ _ h=>nE h
 |succ n ih=>
  exact fun x3 x4 x5 x6 b0 r h=>cE h (fun h0 h=>bE h fun r1 h1 h=>iE h fun h2 h=>bE h fun r2 h3 h=>tS xXv (xZf x3 x4 x5 x6 b0 r1 r2) (oc4 h0 (xAZ h1) h2 (xAZ h3) on) (ih _ _ _ _ _ _ h)) fun h0 h=>dS h xXv (xZg x3 x4 x5 x6 b0) (oc h0 on)
theorem vHN{N:Nat}:∀a0 r,xLL N a0=some r→RE Tryz.f131 I131 (xJC a0) (xHF r):=fun a0 r h=>bE h fun r1 h0 h=>tE xXv (xZh a0 r1) (oc (xAZ h0) on) (vHM _ _ _ _ _ _ _ h)
theorem xQc{N:Nat}{a0:Cur}{r:(List Org)×Cur}(h:xLL N  a0=some r):AbC 131 (xJC a0) (xHF r):=
 AbsCalls.of_reach xXv rfl rfl rfl (jL rfl) (vHN a0 r h)
noncomputable def I165:Info:= { body:=(Tryz.f165.body).getD .skip,nt:=12,results:=[.tmp 4],keep:=[0,2,8,1],live:=[],modes:=[],ext:=[0] }
theorem vIr:FnOk Tryz.prog 165 Tryz.f165 I165:=by refine⟨Tryz.func165,?_,?_,?_,?_⟩<;>kernel_rfl
def xZQ(a0 a1 r1):rE I165 (xGZ a0 a1) [] [xAH r1]=dn (xFg ((gD a1 (tN r1.1) Ty.int.dflt),r1.2)) [AbC 67 (xBp a0 (Ln a1:Int)) (xAH r1),(0:Int)≤r1.1∧r1.1<(Ln a1)]:=by kernel_rfl
theorem vH5{N:Nat}:∀a0 a1 r,xGO N a0 a1=some r→RE Tryz.f165 I165 (xGZ a0 a1) (xFg r):=fun a0 a1 r h=>bE h fun r1 h0 h=>iE h fun h1 h=>dE h vIr (xZQ a0 a1 r1) (oc2 (xAZ h0) h1 on)
theorem xLq{N:Nat}{a0:Cur}{a1:List Int}{r:Int×Cur}(h:xGO N  a0 a1=some r):AbC 165 (xGZ a0 a1) (xFg r):=
 AbsCalls.of_reach vIr rfl rfl rfl (jL rfl) (vH5 a0 a1 r h)
noncomputable def I132:Info:= { body:=(Tryz.f132.body).getD .skip,nt:=11,results:=[.tmp 2],keep:=[0,4,8,1],live:=[],modes:=[(2,[(1,.cp,true)])],ext:=[0] }
theorem vCs:FnOk Tryz.prog 132 Tryz.f132 I132:=by refine⟨Tryz.func132,?_,?_,?_,?_⟩<;>kernel_rfl
def xZi(a0 r1 r2):rE I132 (xEd a0) [Y] [xAS r1,xFg r2]=dn (xCp (r2.1,r2.2)) [AbC 58 (xBx a0 12) (xAS r1),iY r1.1,AbC 165 (xGZ r1.2 [1000000000,(-1000000000),999999999,500000000,40000]) (xFg r2)]:=by kernel_rfl
def xZj(a0 r1 r2):rE I132 (xEd a0) [F] [xAS r1,xAH r2]=dn (xCp ((W (r2.1 - 3)),r2.2)) [AbC 58 (xBx a0 12) (xAS r1),iN r1.1,AbC 67 (xBp r1.2 12) (xAH r2)]:=by kernel_rfl
theorem vHO{N:Nat}:∀a0 r,xFh N a0=some r→RE Tryz.f132 I132 (xEd a0) (xCp r):=fun a0 r h=>bE h fun r1 h0 h=>cE h (fun h1 h=>bE h fun r2 h2 h=>dE h vCs (xZi a0 r1 r2) (oc3 (xBG h0) h1 (xLq h2) on)) fun h1 h=>bE h fun r2 h2 h=>dE h vCs (xZj a0 r1 r2) (oc3 (xBG h0) h1 (xAZ h2) on)
theorem xFU{N:Nat}{a0:Cur}{r:Int×Cur}(h:xFh N  a0=some r):AbC 132 (xEd a0) (xCp r):=
 AbsCalls.of_reach vCs rfl rfl rfl (jL rfl) (vHO a0 r h)
noncomputable def I97:Info:= { body:=(Tryz.f97.body).getD .skip,nt:=58,results:=[.cell 2 31],keep:=[0,4,6,8,10,12,14,16,18,42,66,82,1,5,11,17],live:=[(10,[0,4,8,10,12,14,1,5,11]),(14,[0,4,8,10,12,14,16,18,1,5,11,17])],modes:=[(3,[(1,.take,false)]),(5,[(1,.ref,false)]),(6,[(1,.take,false),(2,.take,false)]),(10,[(1,.take,false)]),(16,[(1,.take,false)]),(17,[(1,.take,false),(2,.take,false),(4,.take,false)]),(18,[(0,.take,false)])],ext:=[0] }
theorem fk97:FnOk Tryz.prog 97 Tryz.f97 I97:=by refine⟨Tryz.func97,?_,?_,?_,?_⟩<;>kernel_rfl
def xOL(x4 x6 x7:Int)(b0:Cur)(b2 b5:Val):St:=[(0,.v false [.ptr 0 0]),(4,.v false [.ptr 2 0]),(8,.v false [.int .i64 x4]),(10,.v false [.ptr 5 0]),(12,.v false [.int .i64 x6]),(14,.v false [.int .i64 x7]),(1,.v true (Cu .ro b0)),(5,.v true (Va .own b2)),(11,.v true (Va .own b5))]
def xSD(x4 x6 x7 x9:Int)(b0:Cur)(b2 b5:Val)(b8:Rowd):St:=[(0,.v false [.ptr 0 0]),(4,.v false [.ptr 2 0]),(8,.v false [.int .i64 x4]),(10,.v false [.ptr 5 0]),(12,.v false [.int .i64 x6]),(14,.v false [.int .i64 x7]),(16,.v false [.ptr 8 0]),(18,.v false [.int .i64 x9]),(1,.v true (Cu .ro b0)),(5,.v true (Va .own b2)),(11,.v true (Va .own b5)),(17,.v true [.sl .own .int b8.cells,.sl .own .org b8.frm])]
def vBY(x4 x6 x7 x9 b0 b2 b5 b8 r1):rS 14 I97 (xSD x4 x6 x7 x9 b0 b2 b5 b8) [Y] [xCp r1]=st 14 I97 (xSD x4 x6 x7 (W (x9+1)) r1.2 b2 b5 (Rowd.mk (b8.cells++ [r1.1]) b8.frm)) [xFn x9 x4,AbC 132 (xEd b0) (xCp r1),Ln b8.cells+Ln [r1.1]≤Lim]:=by kernel_rfl
def vBZ(x4 x6 x7 x9 b0 b2 b5 b8):rS 14 I97 (xSD x4 x6 x7 x9 b0 b2 b5 b8) [F] []=st 10 I97 (xOL x4 x6 (W (x7+1)) b0 b2 (Val.mk b5.kind b5.n b5.step b5.text b5.list b5.columns (b5.rows++ [b8]))) [xHr x9 x4,xPi b5 b8]:=by kernel_rfl
def vBW(x4 x6 x7 b0 b2 b5 r1):rS 10 I97 (xOL x4 x6 x7 b0 b2 b5) [Y] [xHF r1]=st 14 I97 (xSD x4 x6 x7 0 r1.2 b2 b5 (Rowd.mk [] r1.1)) [xFn x7 x6,AbC 131 (xJC b0) (xHF r1)]:=by kernel_rfl
def vBX(x4 x6 x7 b0 b2 b5):rS 10 I97 (xOL x4 x6 x7 b0 b2 b5) [F] []=dn (xCH (b5,b0)) [xHr x7 x6]:=by kernel_rfl
abbrev xWk(v0:Int×Cur):Prop:=(0:Int)≤(W (1+v0.1))∧(W (1+v0.1))≤(Ln ([[97],[98],[99],[120]]:List Str))
abbrev xPf(v0:Int×Cur):=List.take (tN (W (1+v0.1))) ([[97],[98],[99],[120]]:List Str)
abbrev xWl(v0:Int×Cur):Prop:=0+Ln (xPf v0)≤Lim
def vGT(a0 r1 r2 r3):rE I97 (xEC a0) [Y] [xAH r1,xAS r2,xAH r3]=st 10 I97 (xOL 1 r3.1 0 r3.2 (Val.mk 0 0 0 [] [] [] []) (Val.mk 5 0 0 [] [] (List.take (tN 1) ((fun(z8:List Str)=>z8.set (tN 0) [120]) ([]++(xPf r1)))) [])) [AbC 67 (xBp a0 3) (xAH r1),xWk r1,xWl r1,AbC 58 (xBx r1.2 5) (xAS r2),iY r2.1,(0:Int)≤0∧(0:Int)<(Ln ([]++(xPf r1))),(0:Int)≤1∧(1:Int)≤(Ln ((fun(z8:List Str)=>z8.set (tN 0) [120]) ([]++(xPf r1)))),AbC 67 (xBp r2.2 6) (xAH r3)]:=by kernel_rfl
def vGU(a0 r1 r2 r3):rE I97 (xEC a0) [F] [xAH r1,xAS r2,xAH r3]=st 10 I97 (xOL (W (1+r1.1)) r3.1 0 r3.2 (Val.mk 0 0 0 [] [] [] []) (Val.mk 5 0 0 [] [] ([]++(xPf r1)) [])) [AbC 67 (xBp a0 3) (xAH r1),xWk r1,xWl r1,AbC 58 (xBx r1.2 5) (xAS r2),iN r2.1,AbC 67 (xBp r2.2 6) (xAH r3)]:=by kernel_rfl
theorem vIn{N:Nat}{k10:Int→Int→Int→Cur→Val→Val→Option (Val×Cur)}(hk10:∀z0 z1 z2 z3 z4 z5 r,k10 z0 z1 z2 z3 z4 z5=some r→RS Tryz.f97 I97 10 (xOL z0 z1 z2 z3 z4 z5) (xCH r)):∀n x4 x6 x7 x9 b0 b2 b5 b8 r,xEh N k10 n x4 x6 x7 x9 b0 b2 b5 b8=some r→RS Tryz.f97 I97 14 (xSD x4 x6 x7 x9 b0 b2 b5 b8) (xCH r):=by
 intro n
 induction n with
 |zero=>exact fun _ _ _ _ _ _ _ _ _ h=>nE h
 |succ n ih=>
  exact fun x4 x6 x7 x9 b0 b2 b5 b8 r h=>cE h (fun h0 h=>bE h fun r1 h1 h=>iE h fun h2 h=>tS fk97 (vBY x4 x6 x7 x9 b0 b2 b5 b8 r1) (oc3 h0 (xFU h1) h2 on) (ih _ _ _ _ _ _ _ _ _ h)) fun h0 h=>iE h fun h1 h=>tS fk97 (vBZ x4 x6 x7 x9 b0 b2 b5 b8) (oc2 h0 h1 on) (hk10 _ _ _ _ _ _ _ h)
theorem vB7{N:Nat}:∀n x4 x6 x7 b0 b2 b5 r,xDc N n x4 x6 x7 b0 b2 b5=some r→RS Tryz.f97 I97 10 (xOL x4 x6 x7 b0 b2 b5) (xCH r):=by
 intro n
 induction n with
 |zero=>exact fun _ _ _ _ _ _ _ h=>nE h
 |succ n ih=>
  exact fun x4 x6 x7 b0 b2 b5 r h=>cE h (fun h0 h=>bE h fun r1 h1 h=>tS fk97 (vBW x4 x6 x7 b0 b2 b5 r1) (oc2 h0 (xQc h1) on) (vIn ih _ _ _ _ _ _ _ _ _ _ h)) fun h0 h=>dS h fk97 (vBX x4 x6 x7 b0 b2 b5) (oc h0 on)
theorem vKg{N:Nat}:∀a0 r,xEZ N a0=some r→RE Tryz.f97 I97 (xEC a0) (xCH r):=fun a0 r h=>bE h fun r1 h0 h=>iE h fun h1 h=>iE h fun h2 h=>bE h fun r2 h3 h=>cE h (fun h4 h=>iE h fun h5 h=>iE h fun h6 h=>bE h fun r3 h7 h=>tE fk97 (vGT a0 r1 r2 r3) (oc8 (xAZ h0) h1 h2 (xBG h3) h4 h5 h6 (xAZ h7) on) (vB7 _ _ _ _ _ _ _ _ h)) fun h4 h=>bE h fun r3 h5 h=>tE fk97 (vGU a0 r1 r2 r3) (oc6 (xAZ h0) h1 h2 (xBG h3) h4 (xAZ h5) on) (vB7 _ _ _ _ _ _ _ _ h)
theorem xIH{N:Nat}{a0:Cur}{r:Val×Cur}(h:xEZ N  a0=some r):AbC 97 (xEC a0) (xCH r):=
 AbsCalls.of_reach fk97 rfl rfl rfl (jL rfl) (vKg a0 r h)
noncomputable def I66:Info:= { body:=(Tryz.f66.body).getD .skip,nt:=5,results:=[.cell 2 31],keep:=[0,4,5],live:=[],modes:=[] }
theorem fk66:FnOk Tryz.prog 66 Tryz.f66 I66:=by refine⟨Tryz.func66,?_,?_,?_,?_⟩<;>kernel_rfl
def vFD(a0):rE I66 (xHk a0) [] []=dn (xCG (Val.mk 1 a0 0 [] [] [] [])) []:=by kernel_rfl
theorem vJJ{N:Nat}:∀a0 r,xDs N a0=some r→RE Tryz.f66 I66 (xHk a0) (xCG r):=fun a0 r h=>dE h fk66 (vFD a0) on
theorem xD2{N:Nat}{a0:Int}{r:Val}(h:xDs N  a0=some r):AbC 66 (xHk a0) (xCG r):=
 AbsCalls.of_reach fk66 rfl rfl rfl (jL rfl) (vJJ a0 r h)
noncomputable def I99:Info:= { body:=(Tryz.f99.body).getD .skip,nt:=12,results:=[.tmp 4],keep:=[0,2,8,1],live:=[],modes:=[],ext:=[0] }
theorem fk99:FnOk Tryz.prog 99 Tryz.f99 I99:=by refine⟨Tryz.func99,?_,?_,?_,?_⟩<;>kernel_rfl
def vGW(a0 a1 r1):rE I99 (xGP a0 a1) [] [xAH r1]=dn (xEq ((gD a1 (tN r1.1) Ty.str.dflt),r1.2)) [AbC 67 (xBp a0 (Ln a1:Int)) (xAH r1),(0:Int)≤r1.1∧r1.1<(Ln a1)]:=by kernel_rfl
theorem vKi{N:Nat}:∀a0 a1 r,xHo N a0 a1=some r→RE Tryz.f99 I99 (xGP a0 a1) (xEq r):=fun a0 a1 r h=>bE h fun r1 h0 h=>iE h fun h1 h=>dE h fk99 (vGW a0 a1 r1) (oc2 (xAZ h0) h1 on)
theorem xJy{N:Nat}{a0:Cur}{a1:List Str}{r:Str×Cur}(h:xHo N  a0 a1=some r):AbC 99 (xGP a0 a1) (xEq r):=
 AbsCalls.of_reach fk99 rfl rfl rfl (jL rfl) (vKi a0 a1 r h)
noncomputable def I152:Info:= { body:=(Tryz.f152.body).getD .skip,nt:=6,results:=[.tmp 2],keep:=[0,4,1],live:=[],modes:=[(1,[(1,.cp,true)])],ext:=[0] }
theorem vIo:FnOk Tryz.prog 152 Tryz.f152 I152:=by refine⟨Tryz.func152,?_,?_,?_,?_⟩<;>kernel_rfl
def xZk(a0 r1):rE I152 (xHH a0) [] [xEq r1]=dn (xFt (r1.1,r1.2)) [AbC 99 (xGP a0 [[],[97],[98],[97,98],[104,101,108,108,111],[116,119,101,110,116,121,32,99,104,97,114,97,99,116,101,114,115,32,111,107],[110,105,110,101,116,101,101,110,32,99,104,97,114,97,99,116,101,114,46]]) (xEq r1)]:=by kernel_rfl
theorem vHP{N:Nat}:∀a0 r,xII N a0=some r→RE Tryz.f152 I152 (xHH a0) (xFt r):=fun a0 r h=>bE h fun r1 h0 h=>dE h vIo (xZk a0 r1) (oc (xJy h0) on)
theorem xLb{N:Nat}{a0:Cur}{r:Str×Cur}(h:xII N  a0=some r):AbC 152 (xHH a0) (xFt r):=
 AbsCalls.of_reach vIo rfl rfl rfl (jL rfl) (vHP a0 r h)
noncomputable def I98:Info:= { body:=(Tryz.f98.body).getD .skip,nt:=5,results:=[.cell 2 31],keep:=[0,4,5],live:=[],modes:=[] }
theorem fk98:FnOk Tryz.prog 98 Tryz.f98 I98:=by refine⟨Tryz.func98,?_,?_,?_,?_⟩<;>kernel_rfl
def vGV(a0):rE I98 (xFf a0) [] []=dn (xDu (Val.mk 2 0 0 a0 [] [] [])) []:=by kernel_rfl
theorem vKh{N:Nat}:∀a0 r,xFp N a0=some r→RE Tryz.f98 I98 (xFf a0) (xDu r):=fun a0 r h=>dE h fk98 (vGV a0) on
theorem xH9{N:Nat}{a0:Str}{r:Val}(h:xFp N  a0=some r):AbC 98 (xFf a0) (xDu r):=
 AbsCalls.of_reach fk98 rfl rfl rfl (jL rfl) (vKh a0 r h)
def G153(q:Cur→Int→Option (Val×Cur)):Prop:=∀a0 a1 r,q a0 a1=some r→AbC 153 (xET a0 a1) (xDC r)
def G171(q:Cur→Int→Option (Val×Cur)):Prop:=∀a0 a1 r,q a0 a1=some r→AbC 171 (xDW a0 a1) (xDD r)
noncomputable def I153:Info:= { body:=(Tryz.f153.body).getD .skip,nt:=26,results:=[.cell 4 31],keep:=[0,2,8,10,12,14,28,1,9,11],live:=[(4,[0,2,8,10,12,14,1,9,11])],modes:=[(2,[(1,.cp,true)]),(4,[(1,.take,false)]),(6,[(1,.take,false),(6,.take,false)]),(7,[(0,.take,false)])],ext:=[0] }
theorem xXw:FnOk Tryz.prog 153 Tryz.f153 I153:=by refine⟨Tryz.func153,?_,?_,?_,?_⟩<;>kernel_rfl
def xSz(x1 x6 x7:Int)(b0:Cur)(b4 b5:Val):St:=[(0,.v false [.ptr 0 0]),(2,.v false [.int .i64 x1]),(8,.v false [.ptr 4 0]),(10,.v false [.ptr 5 0]),(12,.v false [.int .i64 x6]),(14,.v false [.int .i64 x7]),(1,.v true (Cu .ro b0)),(9,.v true (Va .own b4)),(11,.v true (Va .own b5))]
def xZl(x1 x6 x7 b0 b4 b5 r1):rS 4 I153 (xSz x1 x6 x7 b0 b4 b5) [Y] [xDD r1]=st 4 I153 (xSz x1 x6 (W (x7+1)) r1.2 b4 (Val.mk b5.kind b5.n b5.step b5.text (b5.list++ [r1.1.re]) b5.columns b5.rows)) [xFn x7 x6,AbC 171 (xDW b0 x1) (xDD r1),Ln b5.list+Ln [r1.1.re]≤Lim]:=by kernel_rfl
def xZm(x1 x6 x7 b0 b4 b5):rS 4 I153 (xSz x1 x6 x7 b0 b4 b5) [F] []=dn (xDC (b5,b0)) [xHr x7 x6]:=by kernel_rfl
def xZn(a0 a1 r1):rE I153 (xET a0 a1) [] [xFg r1]=st 4 I153 (xSz a1 r1.1 0 r1.2 (Val.mk 0 0 0 [] [] [] []) (Val.mk 3 0 0 [] [] [] [])) [AbC 165 (xGZ a0 [0,1,2,3,3,4,5,8]) (xFg r1)]:=by kernel_rfl
theorem vHQ{N q0 q1}(g0:G153 q0)(g1:G171 q1):∀n x1 x6 x7 b0 b4 b5 r,xEU N q0 q1 n x1 x6 x7 b0 b4 b5=some r→RS Tryz.f153 I153 4 (xSz x1 x6 x7 b0 b4 b5) (xDC r):=by
 intro n
 induction n with
 |zero=>exact fun _ _ _ _ _ _ _ h=>nE h
 |succ n ih=>
  exact fun x1 x6 x7 b0 b4 b5 r h=>cE h (fun h0 h=>bE h fun r1 h1 h=>iE h fun h2 h=>tS xXw (xZl x1 x6 x7 b0 b4 b5 r1) (oc3 h0 (g1 _ _ _ h1) h2 on) (ih _ _ _ _ _ _ _ h)) fun h0 h=>dS h xXw (xZm x1 x6 x7 b0 b4 b5) (oc h0 on)
theorem vHR{N q0 q1}(g0:G153 q0)(g1:G171 q1):∀a0 a1 r,xFR N q0 q1 a0 a1=some r→RE Tryz.f153 I153 (xET a0 a1) (xDC r):=fun a0 a1 r h=>bE h fun r1 h0 h=>tE xXw (xZn a0 a1 r1) (oc (xLq h0) on) (vHQ g0 g1 _ _ _ _ _ _ _ _ h)
theorem xLJ{N q0 q1}(g0:G153 q0)(g1:G171 q1){a0}{a1}{r}(h:xFR N q0 q1 a0 a1=some r):AbC 153 (xET a0 a1) (xDC r):=
 AbsCalls.of_reach xXw rfl rfl rfl (jL rfl) (vHR g0 g1 a0 a1 r h)
noncomputable def I171:Info:= { body:=(Tryz.f171.body).getD .skip,nt:=23,results:=[.cell 4 31],keep:=[0,2,8,20,32,1,9],live:=[],modes:=[(1,[(2,.take,false)])],ext:=[0] }
theorem xVz:FnOk Tryz.prog 171 Tryz.f171 I171:=by refine⟨Tryz.func171,?_,?_,?_,?_⟩<;>kernel_rfl
def xZT(a0 a1 r1 r2):rE I171 (xDW a0 a1) [Y,Y] [xAS r1,xDC r2]=dn (xDD (r2.1,r2.2)) [iY (dc (a1>1)),AbC 58 (xBx a0 4) (xAS r1),iY r1.1,AbC 153 (xET r1.2 (W (a1 - 1))) (xDC r2)]:=by kernel_rfl
def xZU(a0 a1 r1 r2 r3 r4):rE I171 (xDW a0 a1) [Y,F,Y] [xAS r1,xAS r2,xFt r3,xDu r4]=dn (xDD (r4,r3.2)) [iY (dc (a1>1)),AbC 58 (xBx a0 4) (xAS r1),iN r1.1,AbC 58 (xBx r1.2 4) (xAS r2),iY r2.1,AbC 152 (xHH r2.2) (xFt r3),AbC 98 (xFf r3.1) (xDu r4)]:=by kernel_rfl
abbrev xL6(v0:Int×Cur)(v1:Val):Prop:=AbC 66 (xHk v0.1) (xCG v1)
def xZV(a0 a1 r1 r2 r3 r4):rE I171 (xDW a0 a1) [Y,F,F] [xAS r1,xAS r2,xCp r3,xCG r4]=dn (xDD (r4,r3.2)) [iY (dc (a1>1)),AbC 58 (xBx a0 4) (xAS r1),iN r1.1,AbC 58 (xBx r1.2 4) (xAS r2),iN r2.1,AbC 132 (xEd r2.2) (xCp r3),xL6 r3 r4]:=by kernel_rfl
def xZW(a0 a1 r1 r2 r3):rE I171 (xDW a0 a1) [F,F,Y] [xAS r1,xFt r2,xDu r3]=dn (xDD (r3,r2.2)) [iN (dc (a1>1)),iN false,AbC 58 (xBx a0 4) (xAS r1),iY r1.1,AbC 152 (xHH r1.2) (xFt r2),AbC 98 (xFf r2.1) (xDu r3)]:=by kernel_rfl
def xZX(a0 a1 r1 r2 r3):rE I171 (xDW a0 a1) [F,F,F] [xAS r1,xCp r2,xCG r3]=dn (xDD (r3,r2.2)) [iN (dc (a1>1)),iN false,AbC 58 (xBx a0 4) (xAS r1),iN r1.1,AbC 132 (xEd r1.2) (xCp r2),xL6 r2 r3]:=by kernel_rfl
theorem vH8{N q0 q1}(g0:G153 q0)(g1:G171 q1):∀a0 a1 r,xFS N q0 q1 a0 a1=some r→RE Tryz.f171 I171 (xDW a0 a1) (xDD r):=fun a0 a1 r h=>cE h (fun h0 h=>bE h fun r1 h1 h=>cE h (fun h2 h=>bE h fun r2 h3 h=>dE h xVz (xZT a0 a1 r1 r2) (oc4 h0 (xBG h1) h2 (g0 _ _ _ h3) on)) fun h2 h=>bE h fun r2 h3 h=>cE h (fun h4 h=>bE h fun r3 h5 h=>bE h fun r4 h6 h=>dE h xVz (xZU a0 a1 r1 r2 r3 r4) (oc7 h0 (xBG h1) h2 (xBG h3) h4 (xLb h5) (xH9 h6) on)) fun h4 h=>bE h fun r3 h5 h=>bE h fun r4 h6 h=>dE h xVz (xZV a0 a1 r1 r2 r3 r4) (oc7 h0 (xBG h1) h2 (xBG h3) h4 (xFU h5) (xD2 h6) on)) fun h0 h=>bE h fun r1 h2 h=>cE h (fun h3 h=>bE h fun r2 h4 h=>bE h fun r3 h5 h=>dE h xVz (xZW a0 a1 r1 r2 r3) (oc6 h0 rfl (xBG h2) h3 (xLb h4) (xH9 h5) on)) fun h3 h=>bE h fun r2 h4 h=>bE h fun r3 h5 h=>dE h xVz (xZX a0 a1 r1 r2 r3) (oc6 h0 rfl (xBG h2) h3 (xFU h4) (xD2 h5) on)
theorem xLK{N q0 q1}(g0:G153 q0)(g1:G171 q1){a0}{a1}{r}(h:xFS N q0 q1 a0 a1=some r):AbC 171 (xDW a0 a1) (xDD r):=
 AbsCalls.of_reach xVz rfl rfl rfl (jL rfl) (vH8 g0 g1 a0 a1 r h)
theorem xLZ{N:Nat}:∀d,G153 (xBr N d).c_spec_l3DrawList∧G171 (xBr N d).c_spec_l3Element2:=by
 intro d
 induction d with
 |zero=>exact⟨fun _ _ _ h=>nE h,fun _ _ _ h=>nE h⟩
 |succ d ih=>
  obtain⟨ih0,ih1⟩:=ih
  exact⟨fun _ _ _ h=>xLJ (N:=N) ih0 ih1 h,fun _ _ _ h=>xLK (N:=N) ih0 ih1 h⟩
theorem xNz{N:Nat}{a0:Cur}{a1:Int}{r:Val×Cur}(h:xKG N a0 a1=some r):AbC 153 (xET a0 a1) (xDC r):=(xLZ N).1 _ _ r h
noncomputable def I154:Info:= { body:=(Tryz.f154.body).getD .skip,nt:=23,results:=[.cell 2 31],keep:=[0,4,6,8,10,22,1,5,7],live:=[(4,[0,4,6,8,10,1,5,7])],modes:=[(4,[(1,.take,false)]),(6,[(1,.take,false),(6,.take,false)]),(7,[(0,.take,false)])],ext:=[0] }
theorem xXx:FnOk Tryz.prog 154 Tryz.f154 I154:=by refine⟨Tryz.func154,?_,?_,?_,?_⟩<;>kernel_rfl
def xSA(x4 x5:Int)(b0:Cur)(b2 b3:Val):St:=[(0,.v false [.ptr 0 0]),(4,.v false [.ptr 2 0]),(6,.v false [.ptr 3 0]),(8,.v false [.int .i64 x4]),(10,.v false [.int .i64 x5]),(1,.v true (Cu .ro b0)),(5,.v true (Va .own b2)),(7,.v true (Va .own b3))]
def xZo(x4 x5 b0 b2 b3 r1 r2):rS 4 I154 (xSA x4 x5 b0 b2 b3) [Y] [xCp r1,xCG r2]=st 4 I154 (xSA x4 (W (x5+1)) r1.2 b2 (Val.mk b3.kind b3.n b3.step b3.text (b3.list++ [r2.re]) b3.columns b3.rows)) [xFn x5 x4,AbC 132 (xEd b0) (xCp r1),xL6 r1 r2,Ln b3.list+Ln [r2.re]≤Lim]:=by kernel_rfl
def xZp(x4 x5 b0 b2 b3):rS 4 I154 (xSA x4 x5 b0 b2 b3) [F] []=dn (xF4 (b3,b0)) [xHr x5 x4]:=by kernel_rfl
def xZq(a0 r1):rE I154 (xIe a0) [] [xAH r1]=st 4 I154 (xSA r1.1 0 r1.2 (Val.mk 0 0 0 [] [] [] []) (Val.mk 3 0 0 [] [] [] [])) [AbC 67 (xBp a0 9) (xAH r1)]:=by kernel_rfl
theorem vHS{N:Nat}:∀n x4 x5 b0 b2 b3 r,xFi N n x4 x5 b0 b2 b3=some r→RS Tryz.f154 I154 4 (xSA x4 x5 b0 b2 b3) (xF4 r):=by
 intro n
 induction n with
 |zero=>exact fun _ _ _ _ _ _ h=>nE h
 |succ n ih=>
  exact fun x4 x5 b0 b2 b3 r h=>cE h (fun h0 h=>bE h fun r1 h1 h=>bE h fun r2 h2 h=>iE h fun h3 h=>tS xXx (xZo x4 x5 b0 b2 b3 r1 r2) (oc4 h0 (xFU h1) (xD2 h2) h3 on) (ih _ _ _ _ _ _ h)) fun h0 h=>dS h xXx (xZp x4 x5 b0 b2 b3) (oc h0 on)
theorem vHT{N:Nat}:∀a0 r,xJD N a0=some r→RE Tryz.f154 I154 (xIe a0) (xF4 r):=fun a0 r h=>bE h fun r1 h0 h=>tE xXx (xZq a0 r1) (oc (xAZ h0) on) (vHS _ _ _ _ _ _ _ h)
theorem xN1{N:Nat}{a0:Cur}{r:Val×Cur}(h:xJD N  a0=some r):AbC 154 (xIe a0) (xF4 r):=
 AbsCalls.of_reach xXx rfl rfl rfl (jL rfl) (vHT a0 r h)
noncomputable def I155:Info:= { body:=(Tryz.f155.body).getD .skip,nt:=8,results:=[.cell 4 31],keep:=[0,2,8,9],live:=[],modes:=[] }
theorem vIp:FnOk Tryz.prog 155 Tryz.f155 I155:=by refine⟨Tryz.func155,?_,?_,?_,?_⟩<;>kernel_rfl
def xZr(a0 a1):rE I155 (xHl a0 a1) [] []=dn (xGn (Val.mk 4 a0 a1 [] [] [] [])) []:=by kernel_rfl
theorem vHU{N:Nat}:∀a0 a1 r,xJY N a0 a1=some r→RE Tryz.f155 I155 (xHl a0 a1) (xGn r):=fun a0 a1 r h=>dE h vIp (xZr a0 a1) on
theorem xM4{N:Nat}{a0:Int}{a1:Int}{r:Val}(h:xJY N  a0 a1=some r):AbC 155 (xHl a0 a1) (xGn r):=
 AbsCalls.of_reach vIp rfl rfl rfl (jL rfl) (vHU a0 a1 r h)
noncomputable def I109:Info:= { body:=(Tryz.f109.body).getD .skip,nt:=40,results:=[.cell 2 31],keep:=[0,4,8,10,24,34,42,50,64,1,5],live:=[],modes:=[],ext:=[0] }
theorem xPH:FnOk Tryz.prog 109 Tryz.f109 I109:=by refine⟨Tryz.func109,?_,?_,?_,?_⟩<;>kernel_rfl
abbrev xLF(v0:Cur)(v1:Int×Cur):Prop:=AbC 67 (xBp v0 10) (xAH v1)
def xX0(a0 r1 r2 r3):rE I109 (xDN a0) [Y,Y] [xAH r1,xCp r2,xCG r3]=dn (xB7 (r3,r2.2)) [xLF a0 r1,iY (r1.1==0),iY (r1.1==0),AbC 132 (xEd r1.2) (xCp r2),xL6 r2 r3]:=by kernel_rfl
abbrev xIE(v0:Int×Cur):Prop:=iN (v0.1==0)
def xX1(a0 r1 r2 r3):rE I109 (xDN a0) [F,Y,Y] [xAH r1,xCp r2,xCG r3]=dn (xB7 (r3,r2.2)) [xLF a0 r1,xIE r1,iY (r1.1==1),iY (r1.1==1),AbC 132 (xEd r1.2) (xCp r2),xL6 r2 r3]:=by kernel_rfl
abbrev xJp(v0:Int×Cur):Prop:=iN (v0.1==1)
def xX2(a0 r1 r2 r3):rE I109 (xDN a0) [F,F,Y] [xAH r1,xCp r2,xCG r3]=dn (xB7 (r3,r2.2)) [xLF a0 r1,xIE r1,xJp r1,iY (r1.1==2),AbC 132 (xEd r1.2) (xCp r2),xL6 r2 r3]:=by kernel_rfl
abbrev xKp(v0:Int×Cur):Prop:=iN (v0.1==2)
def xX3(a0 r1 r2 r3):rE I109 (xDN a0) [F,F,F,Y] [xAH r1,xFt r2,xDu r3]=dn (xB7 (r3,r2.2)) [xLF a0 r1,xIE r1,xJp r1,xKp r1,iY (r1.1==3),AbC 152 (xHH r1.2) (xFt r2),AbC 98 (xFf r2.1) (xDu r3)]:=by kernel_rfl
abbrev xLG(v0:Int×Cur):Prop:=iN (v0.1==3)
def xX4(a0 r1 r2):rE I109 (xDN a0) [F,F,F,F,Y] [xAH r1,xDC r2]=dn (xB7 (r2.1,r2.2)) [xLF a0 r1,xIE r1,xJp r1,xKp r1,xLG r1,iY (r1.1==4),AbC 153 (xET r1.2 3) (xDC r2)]:=by kernel_rfl
def xX5(a0 r1 r2):rE I109 (xDN a0) [F,F,F,F,F,Y] [xAH r1,xF4 r2]=dn (xB7 (r2.1,r2.2)) [xLF a0 r1,xIE r1,xJp r1,xKp r1,xLG r1,iN (r1.1==4),iY (r1.1==5),AbC 154 (xIe r1.2) (xF4 r2)]:=by kernel_rfl
def xX6(a0 r1 r2 r3 r4):rE I109 (xDN a0) [F,F,F,F,F,F,Y] [xAH r1,xCp r2,xCp r3,xGn r4]=dn (xB7 (r4,r3.2)) [xLF a0 r1,xIE r1,xJp r1,xKp r1,xLG r1,iN (r1.1==4),iN (r1.1==5),iY (r1.1==6),AbC 132 (xEd r1.2) (xCp r2),AbC 132 (xEd r2.2) (xCp r3),AbC 155 (xHl r2.1 r3.1) (xGn r4)]:=by kernel_rfl
def xX7(a0 r1 r2 r3):rE I109 (xDN a0) [F,F,F,F,F,F,F,Y] [xAH r1,xAH r2,xBm r3]=dn (xB7 (r3,r2.2)) [xLF a0 r1,xIE r1,xJp r1,xKp r1,xLG r1,iN (r1.1==4),iN (r1.1==5),iN (r1.1==6),iY (r1.1==7),AbC 67 (xBp r1.2 8) (xAH r2),AbC 36 (xDi (W (1+r2.1))) (xBm r3)]:=by kernel_rfl
def xX8(a0 r1 r2):rE I109 (xDN a0) [F,F,F,F,F,F,F,F] [xAH r1,xCH r2]=dn (xB7 (r2.1,r2.2)) [xLF a0 r1,xIE r1,xJp r1,xKp r1,xLG r1,iN (r1.1==4),iN (r1.1==5),iN (r1.1==6),iN (r1.1==7),AbC 97 (xEC r1.2) (xCH r2)]:=by kernel_rfl
theorem vHn{N:Nat}:∀a0 r,xIG N a0=some r→RE Tryz.f109 I109 (xDN a0) (xB7 r):=fun a0 r h=>bE h fun r1 h0 h=>cE h (fun h1 h=>bE h fun r2 h3 h=>bE h fun r3 h4 h=>dE h xPH (xX0 a0 r1 r2 r3) (oc5 (xAZ h0) h1 h1 (xFU h3) (xD2 h4) on)) fun h1 h=>cE h (fun h2 h=>bE h fun r2 h4 h=>bE h fun r3 h5 h=>dE h xPH (xX1 a0 r1 r2 r3) (oc6 (xAZ h0) h1 h2 h2 (xFU h4) (xD2 h5) on)) fun h2 h=>cE h (fun h3 h=>bE h fun r2 h4 h=>bE h fun r3 h5 h=>dE h xPH (xX2 a0 r1 r2 r3) (oc6 (xAZ h0) h1 h2 h3 (xFU h4) (xD2 h5) on)) fun h3 h=>cE h (fun h4 h=>bE h fun r2 h5 h=>bE h fun r3 h6 h=>dE h xPH (xX3 a0 r1 r2 r3) (oc7 (xAZ h0) h1 h2 h3 h4 (xLb h5) (xH9 h6) on)) fun h4 h=>cE h (fun h5 h=>bE h fun r2 h6 h=>dE h xPH (xX4 a0 r1 r2) (oc7 (xAZ h0) h1 h2 h3 h4 h5 (xNz h6) on)) fun h5 h=>cE h (fun h6 h=>bE h fun r2 h7 h=>dE h xPH (xX5 a0 r1 r2) (oc8 (xAZ h0) h1 h2 h3 h4 h5 h6 (xN1 h7) on)) fun h6 h=>cE h (fun h7 h=>bE h fun r2 h8 h=>bE h fun r3 h9 h=>bE h fun r4 h10 h=>dE h xPH (xX6 a0 r1 r2 r3 r4) (oc11 (xAZ h0) h1 h2 h3 h4 h5 h6 h7 (xFU h8) (xFU h9) (xM4 h10) on)) fun h7 h=>cE h (fun h8 h=>bE h fun r2 h9 h=>bE h fun r3 h10 h=>dE h xPH (xX7 a0 r1 r2 r3) (oc11 (xAZ h0) h1 h2 h3 h4 h5 h6 h7 h8 (xAZ h9) (xC4 h10) on)) fun h8 h=>bE h fun r2 h9 h=>dE h xPH (xX8 a0 r1 r2) (oc10 (xAZ h0) h1 h2 h3 h4 h5 h6 h7 h8 (xIH h9) on)
theorem xFs{N:Nat}{a0:Cur}{r:Val×Cur}(h:xIG N  a0=some r):AbC 109 (xDN a0) (xB7 r):=
 AbsCalls.of_reach xPH rfl rfl rfl (jL rfl) (vHn a0 r h)
noncomputable def I156:Info:= { body:=(Tryz.f156.body).getD .skip,nt:=6,results:=[.tmp 2],keep:=[0,4,1],live:=[],modes:=[(1,[(1,.cp,true)])],ext:=[0] }
theorem vIq:FnOk Tryz.prog 156 Tryz.f156 I156:=by refine⟨Tryz.func156,?_,?_,?_,?_⟩<;>kernel_rfl
def xZs(a0 r1):rE I156 (xJz a0) [] [xEq r1]=dn (xIq (r1.1,r1.2)) [AbC 99 (xGP a0 [[97],[98],[99],[100],[120],[121],[116],[117]]) (xEq r1)]:=by kernel_rfl
theorem vHV{N:Nat}:∀a0 r,xM5 N a0=some r→RE Tryz.f156 I156 (xJz a0) (xIq r):=fun a0 r h=>bE h fun r1 h0 h=>dE h vIq (xZs a0 r1) (oc (xJy h0) on)
theorem xQb{N:Nat}{a0:Cur}{r:Str×Cur}(h:xM5 N  a0=some r):AbC 156 (xJz a0) (xIq r):=
 AbsCalls.of_reach vIq rfl rfl rfl (jL rfl) (vHV a0 r h)
noncomputable def I110:Info:= { body:=(Tryz.f110.body).getD .skip,nt:=10,results:=[.tmp 2],keep:=[0,4,8,1],live:=[],modes:=[(3,[(1,.cp,true)])],ext:=[0] }
theorem vCp:FnOk Tryz.prog 110 Tryz.f110 I110:=by refine⟨Tryz.func110,?_,?_,?_,?_⟩<;>kernel_rfl
def xX9(a0 r1 r2):rE I110 (xI8 a0) [Y] [xAS r1,xIq r2]=dn (xId (r2.1,r2.2)) [AbC 58 (xBx a0 2) (xAS r1),iY r1.1,AbC 156 (xJz r1.2) (xIq r2)]:=by kernel_rfl
def xYa(a0 r1 r2):rE I110 (xI8 a0) [F] [xAS r1,xEq r2]=dn (xId (r2.1,r2.2)) [AbC 58 (xBx a0 2) (xAS r1),iN r1.1,AbC 99 (xGP r1.2 [[],[49,97],[97,49],[97,98,99,100,101,102,103,104],[97,98,99,100,101,102,103,104,105],[108,101,116],[116,97,98,108,101],[115,117,109],[115,117,109,115],[65],[97,95,98],[108,101,110]]) (xEq r2)]:=by kernel_rfl
theorem vHo{N:Nat}:∀a0 r,xMt N a0=some r→RE Tryz.f110 I110 (xI8 a0) (xId r):=fun a0 r h=>bE h fun r1 h0 h=>cE h (fun h1 h=>bE h fun r2 h2 h=>dE h vCp (xX9 a0 r1 r2) (oc3 (xBG h0) h1 (xQb h2) on)) fun h1 h=>bE h fun r2 h2 h=>dE h vCp (xYa a0 r1 r2) (oc3 (xBG h0) h1 (xJy h2) on)
theorem xSq{N:Nat}{a0:Cur}{r:Str×Cur}(h:xMt N  a0=some r):AbC 110 (xI8 a0) (xId r):=
 AbsCalls.of_reach vCp rfl rfl rfl (jL rfl) (vHo a0 r h)
noncomputable def I68:Info:= { body:=(Tryz.f68.body).getD .skip,nt:=59,results:=[.cell 2 31],keep:=[0,4,6,14,16,28,40,50,68,92,110,1,5,7],live:=[],modes:=[(10,[(1,.take,false),(5,.take,false)]),(12,[(1,.take,false),(8,.take,false)]),(14,[(1,.take,false)]),(17,[(0,.take,false)])],ext:=[0] }
theorem fk68:FnOk Tryz.prog 68 Tryz.f68 I68:=by refine⟨Tryz.func68,?_,?_,?_,?_⟩<;>kernel_rfl
abbrev xL7(v0:Cur)(v1:Val×Cur):Prop:=AbC 109 (xDN v0) (xB7 v1)
abbrev xL8(v0:Val×Cur)(v1:Int×Cur):Prop:=AbC 67 (xBp v0.2 16) (xAH v1)
def vFH(a0 r1 r2):rE I68 (xDM a0) [Y] [xB7 r1,xAH r2]=dn (xDb ((Val.mk r1.1.kind (W (r1.1.n+1000000000)) r1.1.step r1.1.text r1.1.list r1.1.columns r1.1.rows),r2.2)) [xL7 a0 r1,xL8 r1 r2,iY (r2.1==0)]:=by kernel_rfl
def vFI(a0 r1 r2):rE I68 (xDM a0) [F,Y] [xB7 r1,xAH r2]=dn (xDb ((Val.mk r1.1.kind r1.1.n r1.1.step (r1.1.text++ [120,34,121]) r1.1.list r1.1.columns r1.1.rows),r2.2)) [xL7 a0 r1,xL8 r1 r2,xIE r2,iY (r2.1==1),Ln r1.1.text+Ln [120,34,121]≤Lim]:=by kernel_rfl
def vFJ(a0 r1 r2 r3):rE I68 (xDM a0) [F,F,Y] [xB7 r1,xAH r2,xAH r3]=dn (xDb ((Val.mk r3.1 r1.1.n r1.1.step r1.1.text r1.1.list r1.1.columns r1.1.rows),r3.2)) [xL7 a0 r1,xL8 r1 r2,xIE r2,xJp r2,iY (r2.1==2),AbC 67 (xBp r2.2 8) (xAH r3)]:=by kernel_rfl
def vFK(a0 r1 r2 r3):rE I68 (xDM a0) [F,F,F,Y] [xB7 r1,xAH r2,xB7 r3]=dn (xDb ((Val.mk r1.1.kind r1.1.n r1.1.step r1.1.text (r1.1.list++ [r3.1.re]) r1.1.columns r1.1.rows),r3.2)) [xL7 a0 r1,xL8 r1 r2,xIE r2,xJp r2,xKp r2,iY (r2.1==3),AbC 109 (xDN r2.2) (xB7 r3),Ln r1.1.list+Ln [r3.1.re]≤Lim]:=by kernel_rfl
def vFL(a0 r1 r2):rE I68 (xDM a0) [F,F,F,F,Y] [xB7 r1,xAH r2]=dn (xDb ((Val.mk r1.1.kind r1.1.n r1.1.step r1.1.text r1.1.list r1.1.columns (r1.1.rows++ [(Rowd.mk [1] [(Org.mk 2 1),(Org.mk 1 1)])])),r2.2)) [xL7 a0 r1,xL8 r1 r2,xIE r2,xJp r2,xKp r2,xLG r2,iY (r2.1==4),Ln r1.1.rows+Ln [(Rowd.mk [1] [(Org.mk 2 1),(Org.mk 1 1)])]≤Lim]:=by kernel_rfl
def vFM(a0 r1 r2 r3):rE I68 (xDM a0) [F,F,F,F,F,Y] [xB7 r1,xAH r2,xId r3]=dn (xDb ((Val.mk r1.1.kind r1.1.n r1.1.step r1.1.text r1.1.list (r1.1.columns++ [r3.1]) r1.1.rows),r3.2)) [xL7 a0 r1,xL8 r1 r2,xIE r2,xJp r2,xKp r2,xLG r2,iN (r2.1==4),iY (r2.1==5),AbC 110 (xI8 r2.2) (xId r3),Ln r1.1.columns+Ln [r3.1]≤Lim]:=by kernel_rfl
def vFN(a0 r1 r2):rE I68 (xDM a0) [F,F,F,F,F,F,Y] [xB7 r1,xAH r2]=dn (xDb ((Val.mk r1.1.kind r1.1.n 7 r1.1.text r1.1.list r1.1.columns r1.1.rows),r2.2)) [xL7 a0 r1,xL8 r1 r2,xIE r2,xJp r2,xKp r2,xLG r2,iN (r2.1==4),iN (r2.1==5),iY (r2.1==6)]:=by kernel_rfl
def vFO(a0 r1 r2):rE I68 (xDM a0) [F,F,F,F,F,F,F] [xB7 r1,xAH r2]=dn (xDb (r1.1,r2.2)) [xL7 a0 r1,xL8 r1 r2,xIE r2,xJp r2,xKp r2,xLG r2,iN (r2.1==4),iN (r2.1==5),iN (r2.1==6)]:=by kernel_rfl
theorem vJL{N:Nat}:∀a0 r,xH0 N a0=some r→RE Tryz.f68 I68 (xDM a0) (xDb r):=fun a0 r h=>bE h fun r1 h0 h=>bE h fun r2 h1 h=>cE h (fun h2 h=>dE h fk68 (vFH a0 r1 r2) (oc3 (xFs h0) (xAZ h1) h2 on)) fun h2 h=>cE h (fun h3 h=>iE h fun h4 h=>dE h fk68 (vFI a0 r1 r2) (oc5 (xFs h0) (xAZ h1) h2 h3 h4 on)) fun h3 h=>cE h (fun h4 h=>bE h fun r3 h5 h=>dE h fk68 (vFJ a0 r1 r2 r3) (oc6 (xFs h0) (xAZ h1) h2 h3 h4 (xAZ h5) on)) fun h4 h=>cE h (fun h5 h=>bE h fun r3 h6 h=>iE h fun h7 h=>dE h fk68 (vFK a0 r1 r2 r3) (oc8 (xFs h0) (xAZ h1) h2 h3 h4 h5 (xFs h6) h7 on)) fun h5 h=>cE h (fun h6 h=>iE h fun h7 h=>dE h fk68 (vFL a0 r1 r2) (oc8 (xFs h0) (xAZ h1) h2 h3 h4 h5 h6 h7 on)) fun h6 h=>cE h (fun h7 h=>bE h fun r3 h8 h=>iE h fun h9 h=>dE h fk68 (vFM a0 r1 r2 r3) (oc10 (xFs h0) (xAZ h1) h2 h3 h4 h5 h6 h7 (xSq h8) h9 on)) fun h7 h=>cE h (fun h8 h=>dE h fk68 (vFN a0 r1 r2) (oc9 (xFs h0) (xAZ h1) h2 h3 h4 h5 h6 h7 h8 on)) fun h8 h=>dE h fk68 (vFO a0 r1 r2) (oc9 (xFs h0) (xAZ h1) h2 h3 h4 h5 h6 h7 h8 on)
theorem xK9{N:Nat}{a0:Cur}{r:Val×Cur}(h:xH0 N  a0=some r):AbC 68 (xDM a0) (xDb r):=
 AbsCalls.of_reach fk68 rfl rfl rfl (jL rfl) (vJL a0 r h)
noncomputable def I57:Info:= { body:=(Tryz.f57.body).getD .skip,nt:=44,results:=[.cell 2 31],keep:=[0,4,6,8,10,24,46,56,80,1,5,7],live:=[(3,[0,4,6,8,1,5,7]),(6,[0,4,6,8,10,1,5,7])],modes:=[(9,[(1,.ref,false),(5,.ref,false)]),(12,[(0,.take,false)])],ext:=[0] }
theorem fk57:FnOk Tryz.prog 57 Tryz.f57 I57:=by refine⟨Tryz.func57,?_,?_,?_,?_⟩<;>kernel_rfl
def xTE(x4:Int)(b0:Cur)(b2 b3:Val):St:=[(0,.v false [.ptr 0 0]),(4,.v false [.ptr 2 0]),(6,.v false [.ptr 3 0]),(8,.v false [.int .i64 x4]),(1,.v true (Cu .ro b0)),(5,.v true (Va .own b2)),(7,.v true (Va .own b3))]
def xTF(x4 x5:Int)(b0:Cur)(b2 b3:Val):St:=[(0,.v false [.ptr 0 0]),(4,.v false [.ptr 2 0]),(6,.v false [.ptr 3 0]),(8,.v false [.int .i64 x4]),(10,.v false [.int .i64 x5]),(1,.v true (Cu .ro b0)),(5,.v true (Va .own b2)),(7,.v true (Va .own b3))]
abbrev xUw(v0:Int)(v1:Val)(v2:Int):=dc (v0<(Ln (Rowd.cells (gD v1.rows (tN v2) rd)):Int))
abbrev xT9(v0:Int)(v1:Val)(v2:Int):Prop:=iY (xUw v0 v1 v2)
abbrev xWv(v0:Val)(v1 v2:Int)(v3:Int×Cur):=Val.mk v0.kind v0.n v0.step v0.text v0.list v0.columns (v0.rows.set (tN v1) (Rowd.mk ((fun(z1:List Int)=>z1.set (tN v2) v3.1) (Rowd.cells (gD v0.rows (tN v1) rd))) (Rowd.frm (gD v0.rows (tN v1) rd))))
def vDN(x4 x5 b0 b2 b3 r1 r2):rS 6 I57 (xTF x4 x5 b0 b2 b3) [Y,Y] [xAS r1,xAH r2]=st 6 I57 (xTF x4 (W (x5+1)) r2.2 b2 (xWv b3 x4 x5 r2)) [xFP x4 b3,xT9 x5 b3 x4,AbC 58 (xBx b0 8) (xAS r1),iY (!r1.1),xFP x4 b3,AbC 67 (xBp r1.2 4) (xAH r2),xQA x5 b3 x4]:=by kernel_rfl
def vDO(x4 x5 b0 b2 b3 r1):rS 6 I57 (xTF x4 x5 b0 b2 b3) [Y,F] [xAS r1]=st 6 I57 (xTF x4 (W (x5+1)) r1.2 b2 b3) [xFP x4 b3,xT9 x5 b3 x4,AbC 58 (xBx b0 8) (xAS r1),iN (!r1.1)]:=by kernel_rfl
def vDP(x4 x5 b0 b2 b3):rS 6 I57 (xTF x4 x5 b0 b2 b3) [F] []=st 3 I57 (xTE (W (x4+1)) b0 b2 b3) [xFP x4 b3,iN (xUw x5 b3 x4)]:=by kernel_rfl
def vDK(x4 b0 b2 b3):rS 3 I57 (xTE x4 b0 b2 b3) [Y] []=st 6 I57 (xTF x4 0 b0 b2 b3) [xJ2 x4 b3]:=by kernel_rfl
def vDL(x4 b0 b2 b3 r1 r2):rS 3 I57 (xTE x4 b0 b2 b3) [F,Y] [xAS r1,xDb r2]=dn (xCg (r2.1,r2.2)) [xMe x4 b3,AbC 58 (xBx b0 12) (xAS r1),iY r1.1,AbC 68 (xDM r1.2) (xDb r2)]:=by kernel_rfl
def vDM(x4 b0 b2 b3 r1):rS 3 I57 (xTE x4 b0 b2 b3) [F,F] [xAS r1]=dn (xCg (b3,r1.2)) [xMe x4 b3,AbC 58 (xBx b0 12) (xAS r1),iN r1.1]:=by kernel_rfl
def vDQ(a0 r1):rE I57 (xEV a0) [] [xCH r1]=st 3 I57 (xTE 0 r1.2 (Val.mk 0 0 0 [] [] [] []) r1.1) [AbC 97 (xEC a0) (xCH r1)]:=by kernel_rfl
theorem vJz{N:Nat}{k3:Int→Cur→Val→Val→Option (Val×Cur)}(hk3:∀z0 z1 z2 z3 r,k3 z0 z1 z2 z3=some r→RS Tryz.f57 I57 3 (xTE z0 z1 z2 z3) (xCg r)):∀n x4 x5 b0 b2 b3 r,xFB N k3 n x4 x5 b0 b2 b3=some r→RS Tryz.f57 I57 6 (xTF x4 x5 b0 b2 b3) (xCg r):=by
 intro n
 induction n with
 |zero=>exact fun _ _ _ _ _ _ h=>nE h
 |succ n ih=>
  exact fun x4 x5 b0 b2 b3 r h=>iE h fun h0 h=>cE h (fun h1 h=>bE h fun r1 h2 h=>cE h (fun h3 h=>bE h fun r2 h5 h=>iE h fun h6 h=>tS fk57 (vDN x4 x5 b0 b2 b3 r1 r2) (oc7 h0 h1 (xBG h2) h3 h0 (xAZ h5) h6 on) (ih _ _ _ _ _ _ h)) fun h3 h=>tS fk57 (vDO x4 x5 b0 b2 b3 r1) (oc4 h0 h1 (xBG h2) h3 on) (ih _ _ _ _ _ _ h)) fun h1 h=>tS fk57 (vDP x4 x5 b0 b2 b3) (oc2 h0 h1 on) (hk3 _ _ _ _ _ h)
theorem vJy{N:Nat}:∀n x4 b0 b2 b3 r,xFA N n x4 b0 b2 b3=some r→RS Tryz.f57 I57 3 (xTE x4 b0 b2 b3) (xCg r):=by
 intro n
 induction n with
 |zero=>exact fun _ _ _ _ _ h=>nE h
 |succ n ih=>
  exact fun x4 b0 b2 b3 r h=>cE h (fun h0 h=>tS fk57 (vDK x4 b0 b2 b3) (oc h0 on) (vJz ih _ _ _ _ _ _ _ h)) fun h0 h=>bE h fun r1 h1 h=>cE h (fun h2 h=>bE h fun r2 h3 h=>dS h fk57 (vDL x4 b0 b2 b3 r1 r2) (oc4 h0 (xBG h1) h2 (xK9 h3) on)) fun h2 h=>dS h fk57 (vDM x4 b0 b2 b3 r1) (oc3 h0 (xBG h1) h2 on)
theorem vJA{N:Nat}:∀a0 r,xFz N a0=some r→RE Tryz.f57 I57 (xEV a0) (xCg r):=fun a0 r h=>bE h fun r1 h0 h=>tE fk57 (vDQ a0 r1) (oc (xIH h0) on) (vJy _ _ _ _ _ _ h)
theorem xG4{N:Nat}{a0:Cur}{r:Val×Cur}(h:xFz N  a0=some r):AbC 57 (xEV a0) (xCg r):=
 AbsCalls.of_reach fk57 rfl rfl rfl (jL rfl) (vJA a0 r h)
noncomputable def I59:Info:= { body:=(Tryz.f59.body).getD .skip,nt:=11,results:=[.cell 2 31],keep:=[0,4,8,1,5],live:=[],modes:=[(3,[(1,.cp,true)])],ext:=[0] }
theorem fk59:FnOk Tryz.prog 59 Tryz.f59 I59:=by refine⟨Tryz.func59,?_,?_,?_,?_⟩<;>kernel_rfl
def vDS(a0 r1 r2):rE I59 (xFZ a0) [Y] [xAS r1,xDb r2]=dn (xD7 (r2.1,r2.2)) [AbC 58 (xBx a0 16) (xAS r1),iY r1.1,AbC 68 (xDM r1.2) (xDb r2)]:=by kernel_rfl
def vDT(a0 r1 r2 r3):rE I59 (xFZ a0) [F] [xAS r1,xEq r2,xDu r3]=dn (xD7 (r3,r2.2)) [AbC 58 (xBx a0 16) (xAS r1),iN r1.1,AbC 99 (xGP r1.2 [[97],[97],[97],[98],[98],[99],[120],[122],[]]) (xEq r2),AbC 98 (xFf r2.1) (xDu r3)]:=by kernel_rfl
theorem vJC{N:Nat}:∀a0 r,xGR N a0=some r→RE Tryz.f59 I59 (xFZ a0) (xD7 r):=fun a0 r h=>bE h fun r1 h0 h=>cE h (fun h1 h=>bE h fun r2 h2 h=>dE h fk59 (vDS a0 r1 r2) (oc3 (xBG h0) h1 (xK9 h2) on)) fun h1 h=>bE h fun r2 h2 h=>bE h fun r3 h3 h=>dE h fk59 (vDT a0 r1 r2 r3) (oc4 (xBG h0) h1 (xJy h2) (xH9 h3) on)
theorem xJE{N:Nat}{a0:Cur}{r:Val×Cur}(h:xGR N  a0=some r):AbC 59 (xFZ a0) (xD7 r):=
 AbsCalls.of_reach fk59 rfl rfl rfl (jL rfl) (vJC a0 r h)
noncomputable def I16:Info:= { body:=(Tryz.f16.body).getD .skip,nt:=39,results:=[.cell 2 31,.cell 3 31,.cell 4 31],keep:=[0,4,6,8,10,12,14,16,48,5,7,9,13,15,21],live:=[(5,[4,6,8,10,12,14,16,5,7,9,13,15,21])],modes:=[(5,[(5,.take,false)]),(7,[(1,.ref,false)]),(8,[(2,.take,false),(3,.take,false)])] }
theorem fk16:FnOk Tryz.prog 16 Tryz.f16 I16:=by refine⟨Tryz.func16,?_,?_,?_,?_⟩<;>kernel_rfl
def xU0(x8:Int)(b2 b3 b4 b6 b7:Val)(b10:Cur):St:=[(4,.v false [.ptr 2 0]),(6,.v false [.ptr 3 0]),(8,.v false [.ptr 4 0]),(10,.v false [.ptr 10 0]),(12,.v false [.ptr 6 0]),(14,.v false [.ptr 7 0]),(16,.v false [.int .i64 x8]),(5,.v true (Va .own b2)),(7,.v true (Va .own b3)),(9,.v true (Va .own b4)),(13,.v true (Va .own b6)),(15,.v true (Va .own b7)),(21,.v true (Cu .ro b10))]
def vCK(x8 b2 b3 b4 b6 b7 b10 r1):rS 5 I16 (xU0 x8 b2 b3 b4 b6 b7 b10) [Y,Y] [xAS r1]=st 5 I16 (xU0 (W (x8+1)) b2 b3 b4 b6 (Val.mk b7.kind b7.n b7.step b7.text b7.list (b7.columns.set (tN x8) (gD [[],[100],[101],[102],[103],[104]] (tN x8) Ty.str.dflt)) b7.rows) r1.2) [iY (dc (x8<(xMZ b7))),AbC 58 (xBx b10 6) (xAS r1),iY (!r1.1),(0:Int)≤x8∧x8<(Ln [[],[100],[101],[102],[103],[104]]),(0:Int)≤x8∧x8<(Ln b7.columns)]:=by kernel_rfl
def vCL(x8 b2 b3 b4 b6 b7 b10 r1 r2):rS 5 I16 (xU0 x8 b2 b3 b4 b6 b7 b10) [Y,F] [xAS r1,xD7 r2]=dn (xAr (r2.1,b6,b7)) [iY (dc (x8<(xMZ b7))),AbC 58 (xBx b10 6) (xAS r1),iN (!r1.1),AbC 59 (xFZ r1.2) (xD7 r2)]:=by kernel_rfl
def vCM(x8 b2 b3 b4 b6 b7 b10 r1):rS 5 I16 (xU0 x8 b2 b3 b4 b6 b7 b10) [F,F] [xD7 r1]=dn (xAr (r1.1,b6,b7)) [iN (dc (x8<(xMZ b7))),iN false,AbC 59 (xFZ b10) (xD7 r1)]:=by kernel_rfl
def vCN(a0 r1 r2 r3):rE I16 (xHP a0) [] [xDI r1,xCg r2,xCg r3]=st 5 I16 (xU0 1 (Val.mk 0 0 0 [] [] [] []) (Val.mk 0 0 0 [] [] [] []) (Val.mk 0 0 0 [] [] [] []) r2.1 r3.1 r3.2) [AbC 56 (xGI a0) (xDI r1),AbC 57 (xEV r1) (xCg r2),AbC 57 (xEV r2.2) (xCg r3)]:=by kernel_rfl
theorem vI8{N:Nat}:∀n x8 b2 b3 b4 b6 b7 b10 r,xER N n x8 b2 b3 b4 b6 b7 b10=some r→RS Tryz.f16 I16 5 (xU0 x8 b2 b3 b4 b6 b7 b10) (xAr r):=by
 intro n
 induction n with
 |zero=>exact fun _ _ _ _ _ _ _ _ h=>nE h
 |succ n ih=>
  exact fun x8 b2 b3 b4 b6 b7 b10 r h=>cE h (fun h0 h=>bE h fun r1 h1 h=>cE h (fun h2 h=>iE h fun h3 h=>iE h fun h4 h=>tS fk16 (vCK x8 b2 b3 b4 b6 b7 b10 r1) (oc5 h0 (xBG h1) h2 h3 h4 on) (ih _ _ _ _ _ _ _ _ h)) fun h2 h=>bE h fun r2 h3 h=>dS h fk16 (vCL x8 b2 b3 b4 b6 b7 b10 r1 r2) (oc4 h0 (xBG h1) h2 (xJE h3) on)) fun h0 h=>bE h fun r1 h2 h=>dS h fk16 (vCM x8 b2 b3 b4 b6 b7 b10 r1) (oc3 h0 rfl (xJE h2) on)
theorem vI9{N:Nat}:∀a0 r,xDt N a0=some r→RE Tryz.f16 I16 (xHP a0) (xAr r):=fun a0 r h=>bE h fun r1 h0 h=>bE h fun r2 h1 h=>bE h fun r3 h2 h=>tE fk16 (vCN a0 r1 r2 r3) (oc3 (xI7 h0) (xG4 h1) (xG4 h2) on) (vI8 _ _ _ _ _ _ _ _ _ h)
theorem xAt{N:Nat}{a0:List Int}{r:Val×Val×Val}(h:xDt N  a0=some r):AbC 16 (xHP a0) (xAr r):=
 AbsCalls.of_reach fk16 rfl rfl rfl (jL rfl) (vI9 a0 r h)
noncomputable def I100:Info:= { body:=(Tryz.f100.body).getD .skip,nt:=26,results:=[.tmp 4],keep:=[0,2,8,10,20,28,50],live:=[(4,[0,2,10])],modes:=[] }
theorem xVu:FnOk Tryz.prog 100 Tryz.f100 I100:=by refine⟨Tryz.func100,?_,?_,?_,?_⟩<;>kernel_rfl
def xQg(x0 x1:List Str)(x5:Int):St:=[(0,.v false [.sl .ro .str x0]),(2,.v false [.sl .ro .str x1]),(10,.v false [.int .i64 x5])]
abbrev xWp(v0:List Str)(v1:Int):=((gD v0 (tN v1) Ty.str.dflt):Str)
def xXJ(x0 x1 x5):rS 4 I100 (xQg x0 x1 x5) [Y,Y] []=dn (xDK false) [xMH x5 x0,xIO x5 x0,xIO x5 x1,iY (!((xWp x0 x5)==(xKs x1 x5)))]:=by kernel_rfl
def xXK(x0 x1 x5):rS 4 I100 (xQg x0 x1 x5) [Y,F] []=st 4 I100 (xQg x0 x1 (W (x5+1))) [xMH x5 x0,xIO x5 x0,xIO x5 x1,iN (!((xWp x0 x5)==(xKs x1 x5)))]:=by kernel_rfl
def xXL(x0 x1 x5):rS 4 I100 (xQg x0 x1 x5) [F] []=dn (xDK true) [xQy x5 x0]:=by kernel_rfl
def xXM(a0 a1):rE I100 (xGr a0 a1) [Y] []=dn (xDK false) [iY ((Ln a0:Int) != (Ln a1:Int))]:=by kernel_rfl
def xXN(a0 a1):rE I100 (xGr a0 a1) [F] []=st 4 I100 (xQg a0 a1 0) [iN ((Ln a0:Int) != (Ln a1:Int))]:=by kernel_rfl
theorem vHg{N:Nat}:∀n x0 x1 x5 r,xG2 N n x0 x1 x5=some r→RS Tryz.f100 I100 4 (xQg x0 x1 x5) (xDK r):=by
 intro n
 induction n with
 |zero=>exact fun _ _ _ _ h=>nE h
 |succ n ih=>
  exact fun x0 x1 x5 r h=>cE h (fun h0 h=>iE h fun h1 h=>iE h fun h2 h=>cE h (fun h3 h=>dS h xVu (xXJ x0 x1 x5) (oc4 h0 h1 h2 h3 on)) fun h3 h=>tS xVu (xXK x0 x1 x5) (oc4 h0 h1 h2 h3 on) (ih _ _ _ _ h)) fun h0 h=>dS h xVu (xXL x0 x1 x5) (oc h0 on)
theorem vHh{N:Nat}:∀a0 a1 r,xJT N a0 a1=some r→RE Tryz.f100 I100 (xGr a0 a1) (xDK r):=fun a0 a1 r h=>cE h (fun h0 h=>dE h xVu (xXM a0 a1) (oc h0 on)) fun h0 h=>tE xVu (xXN a0 a1) (oc h0 on) (vHg _ _ _ _ _ h)
theorem xKH{N:Nat}{a0:List Str}{a1:List Str}{r:Bool}(h:xJT N  a0 a1=some r):AbC 100 (xGr a0 a1) (xDK r):=
 AbsCalls.of_reach xVu rfl rfl rfl (jL rfl) (vHh a0 a1 r h)
noncomputable def I101:Info:= { body:=(Tryz.f101.body).getD .skip,nt:=26,results:=[.tmp 4],keep:=[0,2,8,10,20,28,50],live:=[(4,[0,2,10])],modes:=[] }
theorem xVv:FnOk Tryz.prog 101 Tryz.f101 I101:=by refine⟨Tryz.func101,?_,?_,?_,?_⟩<;>kernel_rfl
def xQh(x0 x1:List Int)(x5:Int):St:=[(0,.v false [.sl .ro .int x0]),(2,.v false [.sl .ro .int x1]),(10,.v false [.int .i64 x5])]
def xXO(x0 x1 x5):rS 4 I101 (xQh x0 x1 x5) [Y,Y] []=dn (xEp false) [iY (dc (x5<(Ln x0:Int))),xMh x5 x0,xMh x5 x1,iY ((xNX x0 x5) != (xNX x1 x5))]:=by kernel_rfl
def xXP(x0 x1 x5):rS 4 I101 (xQh x0 x1 x5) [Y,F] []=st 4 I101 (xQh x0 x1 (W (x5+1))) [iY (dc (x5<(Ln x0:Int))),xMh x5 x0,xMh x5 x1,iN ((xNX x0 x5) != (xNX x1 x5))]:=by kernel_rfl
def xXQ(x0 x1 x5):rS 4 I101 (xQh x0 x1 x5) [F] []=dn (xEp true) [iN (dc (x5<(Ln x0:Int)))]:=by kernel_rfl
def xXR(a0 a1):rE I101 (xIp a0 a1) [Y] []=dn (xEp false) [iY ((Ln a0:Int) != (Ln a1:Int))]:=by kernel_rfl
def xXS(a0 a1):rE I101 (xIp a0 a1) [F] []=st 4 I101 (xQh a0 a1 0) [iN ((Ln a0:Int) != (Ln a1:Int))]:=by kernel_rfl
theorem vHi{N:Nat}:∀n x0 x1 x5 r,xHC N n x0 x1 x5=some r→RS Tryz.f101 I101 4 (xQh x0 x1 x5) (xEp r):=by
 intro n
 induction n with
 |zero=>exact fun _ _ _ _ h=>nE h
 |succ n ih=>
  exact fun x0 x1 x5 r h=>cE h (fun h0 h=>iE h fun h1 h=>iE h fun h2 h=>cE h (fun h3 h=>dS h xVv (xXO x0 x1 x5) (oc4 h0 h1 h2 h3 on)) fun h3 h=>tS xVv (xXP x0 x1 x5) (oc4 h0 h1 h2 h3 on) (ih _ _ _ _ h)) fun h0 h=>dS h xVv (xXQ x0 x1 x5) (oc h0 on)
theorem vHj{N:Nat}:∀a0 a1 r,xKD N a0 a1=some r→RE Tryz.f101 I101 (xIp a0 a1) (xEp r):=fun a0 a1 r h=>cE h (fun h0 h=>dE h xVv (xXR a0 a1) (oc h0 on)) fun h0 h=>tE xVv (xXS a0 a1) (oc h0 on) (vHi _ _ _ _ _ h)
theorem xJx{N:Nat}{a0:List Int}{a1:List Int}{r:Bool}(h:xKD N  a0 a1=some r):AbC 101 (xIp a0 a1) (xEp r):=
 AbsCalls.of_reach xVv rfl rfl rfl (jL rfl) (vHj a0 a1 r h)
noncomputable def I102:Info:= { body:=(Tryz.f102.body).getD .skip,nt:=26,results:=[.tmp 4],keep:=[0,2,8,10,20,28,50],live:=[(4,[0,2,10])],modes:=[] }
theorem xVw:FnOk Tryz.prog 102 Tryz.f102 I102:=by refine⟨Tryz.func102,?_,?_,?_,?_⟩<;>kernel_rfl
def xQi(x0 x1:List Org)(x5:Int):St:=[(0,.v false [.sl .ro .org x0]),(2,.v false [.sl .ro .org x1]),(10,.v false [.int .i64 x5])]
abbrev xWw(v0:List Org)(v1:Int)(v2:List Org):=(((Org.cell (gD v0 (tN v1) Ty.org.dflt)):Int)==(Org.cell (gD v2 (tN v1) Ty.org.dflt)))&&(((Org.row (gD v0 (tN v1) Ty.org.dflt)):Int)==(Org.row (gD v2 (tN v1) Ty.org.dflt)))
def xXT(x0 x1 x5):rS 4 I102 (xQi x0 x1 x5) [Y,Y] []=dn (xDO false) [xHO x5 x0,xFb x5 x0,xFb x5 x1,iY (!(xWw x0 x5 x1))]:=by kernel_rfl
def xXU(x0 x1 x5):rS 4 I102 (xQi x0 x1 x5) [Y,F] []=st 4 I102 (xQi x0 x1 (W (x5+1))) [xHO x5 x0,xFb x5 x0,xFb x5 x1,iN (!(xWw x0 x5 x1))]:=by kernel_rfl
def xXV(x0 x1 x5):rS 4 I102 (xQi x0 x1 x5) [F] []=dn (xDO true) [xLj x5 x0]:=by kernel_rfl
def xXW(a0 a1):rE I102 (xF5 a0 a1) [Y] []=dn (xDO false) [iY ((Ln a0:Int) != (Ln a1:Int))]:=by kernel_rfl
def xXX(a0 a1):rE I102 (xF5 a0 a1) [F] []=st 4 I102 (xQi a0 a1 0) [iN ((Ln a0:Int) != (Ln a1:Int))]:=by kernel_rfl
theorem vHk{N:Nat}:∀n x0 x1 x5 r,xF6 N n x0 x1 x5=some r→RS Tryz.f102 I102 4 (xQi x0 x1 x5) (xDO r):=by
 intro n
 induction n with
 |zero=>exact fun _ _ _ _ h=>nE h
 |succ n ih=>
  exact fun x0 x1 x5 r h=>cE h (fun h0 h=>iE h fun h1 h=>iE h fun h2 h=>cE h (fun h3 h=>dS h xVw (xXT x0 x1 x5) (oc4 h0 h1 h2 h3 on)) fun h3 h=>tS xVw (xXU x0 x1 x5) (oc4 h0 h1 h2 h3 on) (ih _ _ _ _ h)) fun h0 h=>dS h xVw (xXV x0 x1 x5) (oc h0 on)
theorem vHl{N:Nat}:∀a0 a1 r,xIs N a0 a1=some r→RE Tryz.f102 I102 (xF5 a0 a1) (xDO r):=fun a0 a1 r h=>cE h (fun h0 h=>dE h xVw (xXW a0 a1) (oc h0 on)) fun h0 h=>tE xVw (xXX a0 a1) (oc h0 on) (vHk _ _ _ _ _ h)
theorem xLr{N:Nat}{a0:List Org}{a1:List Org}{r:Bool}(h:xIs N  a0 a1=some r):AbC 102 (xF5 a0 a1) (xDO r):=
 AbsCalls.of_reach xVw rfl rfl rfl (jL rfl) (vHl a0 a1 r h)
def G60(q:Val→Val→Bool→Option (Bool)):Prop:=∀a0 a1 a2 r,q a0 a1 a2=some r→AbC 60 (xDm a0 a1 a2) (xBZ r)
noncomputable def I60:Info:= { body:=(Tryz.f60.body).getD .skip,nt:=121,results:=[.tmp 6],keep:=[0,2,4,6,8,12,14,16,120,130,160,170,240,7,9],live:=[(4,[4,6,8,14,7,9]),(9,[4,6,8,16,7,9])],modes:=[(1,[(5,.take,false),(12,.take,false),(19,.take,false),(26,.take,false),(35,.take,false),(43,.take,false)]),(11,[(14,.take,false),(16,.take,false)])] }
theorem fk60:FnOk Tryz.prog 60 Tryz.f60 I60:=by refine⟨Tryz.func60,?_,?_,?_,?_⟩<;>kernel_rfl
def xU5(x2:Bool)(x7:Int)(b3 b4:Val):St:=[(4,.v false [.bool x2]),(6,.v false [.ptr 3 0]),(8,.v false [.ptr 4 0]),(14,.v false [.int .i64 x7]),(7,.v true (Va .ro b3)),(9,.v true (Va .ro b4))]
def xQH(x2:Bool)(x8:Int)(b3 b4:Val):St:=[(4,.v false [.bool x2]),(6,.v false [.ptr 3 0]),(8,.v false [.ptr 4 0]),(16,.v false [.int .i64 x8]),(7,.v true (Va .ro b3)),(9,.v true (Va .ro b4))]
abbrev xQ7(v0:Val)(v1:Int)(v2:Val)(v3:Bool):Prop:=AbC 101 (xIp (xRf v0 v1) (xRf v2 v1)) (xEp v3)
def vFp(x2 x8 b3 b4 r1):rS 9 I60 (xQH x2 x8 b3 b4) [Y,Y,Y] [xEp r1]=dn (xBZ false) [xJ2 x8 b3,xFP x8 b3,xFP x8 b4,xQ7 b3 x8 b4 r1,iY (!r1),iY true]:=by kernel_rfl
def vFq(x2 x8 b3 b4 r1 r2):rS 9 I60 (xQH x2 x8 b3 b4) [Y,F,Y,Y] [xEp r1,xDO r2]=dn (xBZ false) [xJ2 x8 b3,xFP x8 b3,xFP x8 b4,xQ7 b3 x8 b4 r1,xBT r1,iY x2,xFP x8 b3,xFP x8 b4,AbC 102 (xF5 (xMa b3 x8) (xMa b4 x8)) (xDO r2),iY (!r2)]:=by kernel_rfl
def vFr(x2 x8 b3 b4 r1 r2):rS 9 I60 (xQH x2 x8 b3 b4) [Y,F,Y,F] [xEp r1,xDO r2]=st 9 I60 (xQH x2 (W (x8+1)) b3 b4) [xJ2 x8 b3,xFP x8 b3,xFP x8 b4,xQ7 b3 x8 b4 r1,xBT r1,iY x2,xFP x8 b3,xFP x8 b4,AbC 102 (xF5 (xMa b3 x8) (xMa b4 x8)) (xDO r2),xBT r2]:=by kernel_rfl
def vFs(x2 x8 b3 b4 r1):rS 9 I60 (xQH x2 x8 b3 b4) [Y,F,F,F] [xEp r1]=st 9 I60 (xQH x2 (W (x8+1)) b3 b4) [xJ2 x8 b3,xFP x8 b3,xFP x8 b4,xQ7 b3 x8 b4 r1,xBT r1,iN x2,iN false]:=by kernel_rfl
def vFt(x2 x8 b3 b4):rS 9 I60 (xQH x2 x8 b3 b4) [F] []=dn (xBZ true) [xMe x8 b3]:=by kernel_rfl
def vFm(x2 x7 b3 b4 r1):rS 4 I60 (xU5 x2 x7 b3 b4) [Y,Y] [xBZ r1]=dn (xBZ false) [xPe x7 b3,xMd x7 b3,xMd x7 b4,AbC 60 (xDm (xKr b3 x7) (xKr b4 x7) x2) (xBZ r1),iY (!r1)]:=by kernel_rfl
def vFn(x2 x7 b3 b4 r1):rS 4 I60 (xU5 x2 x7 b3 b4) [Y,F] [xBZ r1]=st 4 I60 (xU5 x2 (W (x7+1)) b3 b4) [xPe x7 b3,xMd x7 b3,xMd x7 b4,AbC 60 (xDm (xKr b3 x7) (xKr b4 x7) x2) (xBZ r1),xBT r1]:=by kernel_rfl
def vFo(x2 x7 b3 b4):rS 4 I60 (xU5 x2 x7 b3 b4) [F] []=st 9 I60 (xQH x2 0 b3 b4) [xSR x7 b3]:=by kernel_rfl
def vFu(a0 a1 a2):rE I60 (xDm a0 a1 a2) [Y,Y,Y,Y,Y,Y,Y] []=dn (xBZ false) [iY (a0.kind != a1.kind),iY true,iY true,iY true,iY true,iY true,iY true]:=by kernel_rfl
abbrev xMY(v0 v1:Val):Prop:=iN (v0.kind != v1.kind)
def vFv(a0 a1 a2):rE I60 (xDm a0 a1 a2) [F,Y,Y,Y,Y,Y,Y] []=dn (xBZ false) [xMY a0 a1,iY (a0.n != a1.n),iY true,iY true,iY true,iY true,iY true]:=by kernel_rfl
def vAO(a0 a1 a2):rE I60 (xDm a0 a1 a2) [F,F,Y,Y,Y,Y,Y] []=dn (xBZ false) [xMY a0 a1,iN (a0.n != a1.n),iY (a0.step != a1.step),iY true,iY true,iY true,iY true]:=by kernel_rfl
def vAP(a0 a1 a2):rE I60 (xDm a0 a1 a2) [F,F,F,Y,Y,Y,Y] []=dn (xBZ false) [xMY a0 a1,iN (a0.n != a1.n),iN (a0.step != a1.step),iY (!((a0.text:Str)==a1.text)),iY true,iY true,iY true]:=by kernel_rfl
abbrev xQ8(v0 v1:Val):Prop:=iN (!((v0.text:Str)==v1.text))
def vAQ(a0 a1 a2):rE I60 (xDm a0 a1 a2) [F,F,F,F,Y,Y,Y] []=dn (xBZ false) [xMY a0 a1,iN (a0.n != a1.n),iN (a0.step != a1.step),xQ8 a0 a1,iY ((xKq a0) != (xKq a1)),iY true,iY true]:=by kernel_rfl
abbrev xUa(v0 v1:Val):Prop:=iN ((xKq v0) != (xKq v1))
def vAR(a0 a1 a2 r1):rE I60 (xDm a0 a1 a2) [F,F,F,F,F,Y,Y] [xDK r1]=dn (xBZ false) [xMY a0 a1,iN (a0.n != a1.n),iN (a0.step != a1.step),xQ8 a0 a1,xUa a0 a1,AbC 100 (xGr a0.columns a1.columns) (xDK r1),iY (!r1),iY true]:=by kernel_rfl
def vAS(a0 a1 a2 r1):rE I60 (xDm a0 a1 a2) [F,F,F,F,F,F,Y] [xDK r1]=dn (xBZ false) [xMY a0 a1,iN (a0.n != a1.n),iN (a0.step != a1.step),xQ8 a0 a1,xUa a0 a1,AbC 100 (xGr a0.columns a1.columns) (xDK r1),xBT r1,iY ((xHJ a0) != (xHJ a1))]:=by kernel_rfl
def vAT(a0 a1 a2 r1):rE I60 (xDm a0 a1 a2) [F,F,F,F,F,F,F] [xDK r1]=st 4 I60 (xU5 a2 0 a0 a1) [xMY a0 a1,iN (a0.n != a1.n),iN (a0.step != a1.step),xQ8 a0 a1,xUa a0 a1,AbC 100 (xGr a0.columns a1.columns) (xDK r1),xBT r1,iN ((xHJ a0) != (xHJ a1))]:=by kernel_rfl
theorem vJE{N q0}(g0:G60 q0):∀n x2 x8 b3 b4 r,xFY N q0 n x2 x8 b3 b4=some r→RS Tryz.f60 I60 9 (xQH x2 x8 b3 b4) (xBZ r):=by
 intro n
 induction n with
 |zero=>exact fun _ _ _ _ _ h=>nE h
 |succ n ih=>
  exact fun x2 x8 b3 b4 r h=>cE h (fun h0 h=>iE h fun h1 h=>iE h fun h2 h=>bE h fun r1 h3 h=>cE h (fun h4 h=>dS h fk60 (vFp x2 x8 b3 b4 r1) (oc6 h0 h1 h2 (xJx h3) h4 rfl on)) fun h4 h=>cE h (fun h5 h=>bE h fun r2 h8 h=>cE h (fun h9 h=>dS h fk60 (vFq x2 x8 b3 b4 r1 r2) (oc10 h0 h1 h2 (xJx h3) h4 h5 h1 h2 (xLr h8) h9 on)) fun h9 h=>tS fk60 (vFr x2 x8 b3 b4 r1 r2) (oc10 h0 h1 h2 (xJx h3) h4 h5 h1 h2 (xLr h8) h9 on) (ih _ _ _ _ _ h)) fun h5 h=>tS fk60 (vFs x2 x8 b3 b4 r1) (oc7 h0 h1 h2 (xJx h3) h4 h5 rfl on) (ih _ _ _ _ _ h)) fun h0 h=>dS h fk60 (vFt x2 x8 b3 b4) (oc h0 on)
theorem vJD{N q0}(g0:G60 q0):∀n x2 x7 b3 b4 r,xHG N q0 n x2 x7 b3 b4=some r→RS Tryz.f60 I60 4 (xU5 x2 x7 b3 b4) (xBZ r):=by
 intro n
 induction n with
 |zero=>exact fun _ _ _ _ _ h=>nE h
 |succ n ih=>
  exact fun x2 x7 b3 b4 r h=>cE h (fun h0 h=>iE h fun h1 h=>iE h fun h2 h=>bE h fun r1 h3 h=>cE h (fun h4 h=>dS h fk60 (vFm x2 x7 b3 b4 r1) (oc5 h0 h1 h2 (g0 _ _ _ _ h3) h4 on)) fun h4 h=>tS fk60 (vFn x2 x7 b3 b4 r1) (oc5 h0 h1 h2 (g0 _ _ _ _ h3) h4 on) (ih _ _ _ _ _ h)) fun h0 h=>tS fk60 (vFo x2 x7 b3 b4) (oc h0 on) (vJE g0 _ _ _ _ _ _ h)
theorem vJF{N q0}(g0:G60 q0):∀a0 a1 a2 r,xHz N q0 a0 a1 a2=some r→RE Tryz.f60 I60 (xDm a0 a1 a2) (xBZ r):=fun a0 a1 a2 r h=>cE h (fun h0 h=>dE h fk60 (vFu a0 a1 a2) (oc7 h0 rfl rfl rfl rfl rfl rfl on)) fun h0 h=>cE h (fun h1 h=>dE h fk60 (vFv a0 a1 a2) (oc7 h0 h1 rfl rfl rfl rfl rfl on)) fun h1 h=>cE h (fun h2 h=>dE h fk60 (vAO a0 a1 a2) (oc7 h0 h1 h2 rfl rfl rfl rfl on)) fun h2 h=>cE h (fun h3 h=>dE h fk60 (vAP a0 a1 a2) (oc7 h0 h1 h2 h3 rfl rfl rfl on)) fun h3 h=>cE h (fun h4 h=>dE h fk60 (vAQ a0 a1 a2) (oc7 h0 h1 h2 h3 h4 rfl rfl on)) fun h4 h=>bE h fun r1 h5 h=>cE h (fun h6 h=>dE h fk60 (vAR a0 a1 a2 r1) (oc8 h0 h1 h2 h3 h4 (xKH h5) h6 rfl on)) fun h6 h=>cE h (fun h7 h=>dE h fk60 (vAS a0 a1 a2 r1) (oc8 h0 h1 h2 h3 h4 (xKH h5) h6 h7 on)) fun h7 h=>tE fk60 (vAT a0 a1 a2 r1) (oc8 h0 h1 h2 h3 h4 (xKH h5) h6 h7 on) (vJD g0 _ _ _ _ _ _ h)
theorem xNa{N q0}(g0:G60 q0){a0}{a1}{a2}{r}(h:xHz N q0 a0 a1 a2=some r):AbC 60 (xDm a0 a1 a2) (xBZ r):=
 AbsCalls.of_reach fk60 rfl rfl rfl (jL rfl) (vJF g0 a0 a1 a2 r h)
theorem xKW{N:Nat}:∀d,G60 (xEs N d)
 |0=>fun _ _ _ _ h=>nE h
 |d+1=>fun _ _ _ _ h=>xNa (N:=N) (xKW d) h
theorem xQd{N:Nat}{a0:Val}{a1:Val}{a2:Bool}{r:Bool}(h:xM9 N a0 a1 a2=some r):AbC 60 (xDm a0 a1 a2) (xBZ r):=xKW N _ _ _ r h
noncomputable def I17:Info:= { body:=(Tryz.f17.body).getD .skip,nt:=8,results:=[.tmp 4],keep:=[0,2,4,6,8,5,7],live:=[],modes:=[] }
theorem fk17:FnOk Tryz.prog 17 Tryz.f17 I17:=by refine⟨Tryz.func17,?_,?_,?_,?_⟩<;>kernel_rfl
def vCO(a0 a1 r1):rE I17 (xGG a0 a1) [] [xBZ r1]=dn (xAe r1) [AbC 60 (xDm a0 a1 true) (xBZ r1)]:=by kernel_rfl
theorem vJa{N:Nat}:∀a0 a1 r,xAv N a0 a1=some r→RE Tryz.f17 I17 (xGG a0 a1) (xAe r):=fun a0 a1 r h=>bE h fun r1 h0 h=>dE h fk17 (vCO a0 a1 r1) (oc (xQd h0) on)
theorem xAf{N:Nat}{a0:Val}{a1:Val}{r:Bool}(h:xAv N  a0 a1=some r):AbC 17 (xGG a0 a1) (xAe r):=
 AbsCalls.of_reach fk17 rfl rfl rfl (jL rfl) (vJa a0 a1 r h)
noncomputable def I22:Info:= { body:=(Tryz.f22.body).getD .skip,nt:=21,results:=[.cell 2 31,.cell 3 31,.cell 4 31],keep:=[0,4,6,8,10,12,26,5,7,9,13,17],live:=[],modes:=[(5,[(2,.take,false)])] }
theorem fk22:FnOk Tryz.prog 22 Tryz.f22 I22:=by refine⟨Tryz.func22,?_,?_,?_,?_⟩<;>kernel_rfl
def vCQ(a0 r1 r2 r3 r4 r5 r6 r7):rE I22 (xE4 a0) [Y] [xDI r1,xAH r2,xCG r3,xAS r4,xDb r5,xD7 r6,xCg r7]=dn (xAi (r6.1,r5.1,r7.1)) [AbC 56 (xGI a0) (xDI r1),AbC 67 (xBp r1 4) (xAH r2),xL6 r2 r3,AbC 58 (xBx r2.2 12) (xAS r4),iY r4.1,AbC 68 (xDM r4.2) (xDb r5),AbC 59 (xFZ r5.2) (xD7 r6),AbC 57 (xEV r6.2) (xCg r7)]:=by kernel_rfl
def vCR(a0 r1 r2 r3 r4 r5 r6):rE I22 (xE4 a0) [F] [xDI r1,xAH r2,xCG r3,xAS r4,xD7 r5,xCg r6]=dn (xAi (r5.1,r3,r6.1)) [AbC 56 (xGI a0) (xDI r1),AbC 67 (xBp r1 4) (xAH r2),xL6 r2 r3,AbC 58 (xBx r2.2 12) (xAS r4),iN r4.1,AbC 59 (xFZ r4.2) (xD7 r5),AbC 57 (xEV r5.2) (xCg r6)]:=by kernel_rfl
theorem vJc{N:Nat}:∀a0 r,xFc N a0=some r→RE Tryz.f22 I22 (xE4 a0) (xAi r):=fun a0 r h=>bE h fun r1 h0 h=>bE h fun r2 h1 h=>bE h fun r3 h2 h=>bE h fun r4 h3 h=>cE h (fun h4 h=>bE h fun r5 h5 h=>bE h fun r6 h6 h=>bE h fun r7 h7 h=>dE h fk22 (vCQ a0 r1 r2 r3 r4 r5 r6 r7) (oc8 (xI7 h0) (xAZ h1) (xD2 h2) (xBG h3) h4 (xK9 h5) (xJE h6) (xG4 h7) on)) fun h4 h=>bE h fun r5 h5 h=>bE h fun r6 h6 h=>dE h fk22 (vCR a0 r1 r2 r3 r4 r5 r6) (oc7 (xI7 h0) (xAZ h1) (xD2 h2) (xBG h3) h4 (xJE h5) (xG4 h6) on)
theorem xAj{N:Nat}{a0:List Int}{r:Val×Val×Val}(h:xFc N  a0=some r):AbC 22 (xE4 a0) (xAi r):=
 AbsCalls.of_reach fk22 rfl rfl rfl (jL rfl) (vJc a0 r h)
noncomputable def I78:Info:= { body:=(Tryz.f78.body).getD .skip,nt:=12,results:=[.cell 2 45],keep:=[0,2,4,3,5],live:=[],modes:=[] }
theorem fk78:FnOk Tryz.prog 78 Tryz.f78 I78:=by refine⟨Tryz.func78,?_,?_,?_,?_⟩<;>kernel_rfl
def vGo(a0):rE I78 (xJa a0) [] []=dn (xHp (Rowd.mk ([]++a0.cells) ([]++a0.frm))) [0+Ln a0.cells≤Lim,0+Ln a0.frm≤Lim]:=by kernel_rfl
theorem vJ3{N:Nat}:∀a0 r,xJ9 N a0=some r→RE Tryz.f78 I78 (xJa a0) (xHp r):=fun a0 r h=>iE h fun h0 h=>iE h fun h1 h=>dE h fk78 (vGo a0) (oc2 h0 h1 on)
theorem xNA{N:Nat}{a0:Rowd}{r:Rowd}(h:xJ9 N  a0=some r):AbC 78 (xJa a0) (xHp r):=
 AbsCalls.of_reach fk78 rfl rfl rfl (jL rfl) (vJ3 a0 r h)
def G76(q:Val→Option (Val)):Prop:=∀a0 r,q a0=some r→AbC 76 (xFr a0) (xDl r)
noncomputable def I76:Info:= { body:=(Tryz.f76.body).getD .skip,nt:=56,results:=[.cell 2 31],keep:=[0,2,4,6,8,10,46,82,3,5,7],live:=[(3,[2,4,6,8,3,5,7]),(7,[2,4,6,10,3,5,7])],modes:=[(5,[(1,.take,false),(9,.take,false)]),(9,[(1,.take,false),(9,.take,false)]),(10,[(0,.take,false)])] }
theorem fk76:FnOk Tryz.prog 76 Tryz.f76 I76:=by refine⟨Tryz.func76,?_,?_,?_,?_⟩<;>kernel_rfl
def xVQ(x4:Int)(b1 b2 b3:Val):St:=[(2,.v false [.ptr 1 0]),(4,.v false [.ptr 2 0]),(6,.v false [.ptr 3 0]),(8,.v false [.int .i64 x4]),(3,.v true (Va .ro b1)),(5,.v true (Va .own b2)),(7,.v true (Va .own b3))]
def xVR(x5:Int)(b1 b2 b3:Val):St:=[(2,.v false [.ptr 1 0]),(4,.v false [.ptr 2 0]),(6,.v false [.ptr 3 0]),(10,.v false [.int .i64 x5]),(3,.v true (Va .ro b1)),(5,.v true (Va .own b2)),(7,.v true (Va .own b3))]
def vGh(x5 b1 b2 b3 r1):rS 7 I76 (xVR x5 b1 b2 b3) [Y] [xHp r1]=st 7 I76 (xVR (W (x5+1)) b1 b2 (Val.mk b3.kind b3.n b3.step b3.text b3.list b3.columns (b3.rows++ [r1]))) [xJ2 x5 b1,xFP x5 b1,AbC 78 (xJa (xPc b1 x5)) (xHp r1),xPi b3 r1]:=by kernel_rfl
def vGi(x5 b1 b2 b3):rS 7 I76 (xVR x5 b1 b2 b3) [F] []=dn (xDl b3) [xMe x5 b1]:=by kernel_rfl
def vGf(x4 b1 b2 b3 r1):rS 3 I76 (xVQ x4 b1 b2 b3) [Y] [xDl r1]=st 3 I76 (xVQ (W (x4+1)) b1 b2 (Val.mk b3.kind b3.n b3.step b3.text (b3.list++ [r1.re]) b3.columns b3.rows)) [xPe x4 b1,xMd x4 b1,AbC 76 (xFr (xKr b1 x4)) (xDl r1),Ln b3.list+Ln [r1.re]≤Lim]:=by kernel_rfl
def vGg(x4 b1 b2 b3):rS 3 I76 (xVQ x4 b1 b2 b3) [F] []=st 7 I76 (xVR 0 b1 b2 b3) [xSR x4 b1]:=by kernel_rfl
def vGj(a0):rE I76 (xFr a0) [] []=st 3 I76 (xVQ 0 a0 (Val.mk 0 0 0 [] [] [] []) (Val.mk a0.kind a0.n a0.step a0.text [] ([]++a0.columns) [])) [xJe a0]:=by kernel_rfl
theorem vJZ{N q0}(g0:G76 q0):∀n x5 b1 b2 b3 r,xGQ N q0 n x5 b1 b2 b3=some r→RS Tryz.f76 I76 7 (xVR x5 b1 b2 b3) (xDl r):=by
 intro n
 induction n with
 |zero=>exact fun _ _ _ _ _ h=>nE h
 |succ n ih=>
  exact fun x5 b1 b2 b3 r h=>cE h (fun h0 h=>iE h fun h1 h=>bE h fun r1 h2 h=>iE h fun h3 h=>tS fk76 (vGh x5 b1 b2 b3 r1) (oc4 h0 h1 (xNA h2) h3 on) (ih _ _ _ _ _ h)) fun h0 h=>dS h fk76 (vGi x5 b1 b2 b3) (oc h0 on)
theorem vJY{N q0}(g0:G76 q0):∀n x4 b1 b2 b3 r,xHD N q0 n x4 b1 b2 b3=some r→RS Tryz.f76 I76 3 (xVQ x4 b1 b2 b3) (xDl r):=by
 intro n
 induction n with
 |zero=>exact fun _ _ _ _ _ h=>nE h
 |succ n ih=>
  exact fun x4 b1 b2 b3 r h=>cE h (fun h0 h=>iE h fun h1 h=>bE h fun r1 h2 h=>iE h fun h3 h=>tS fk76 (vGf x4 b1 b2 b3 r1) (oc4 h0 h1 (g0 _ _ h2) h3 on) (ih _ _ _ _ _ h)) fun h0 h=>tS fk76 (vGg x4 b1 b2 b3) (oc h0 on) (vJZ g0 _ _ _ _ _ _ h)
theorem vJ0{N q0}(g0:G76 q0):∀a0 r,xHy N q0 a0=some r→RE Tryz.f76 I76 (xFr a0) (xDl r):=fun a0 r h=>iE h fun h0 h=>tE fk76 (vGj a0) (oc h0 on) (vJY g0 _ _ _ _ _ _ h)
theorem xM7{N q0}(g0:G76 q0){a0}{r}(h:xHy N q0 a0=some r):AbC 76 (xFr a0) (xDl r):=
 AbsCalls.of_reach fk76 rfl rfl rfl (jL rfl) (vJ0 g0 a0 r h)
theorem xKV{N:Nat}:∀d,G76 (xGp N d)
 |0=>fun _ _ h=>nE h
 |d+1=>fun _ _ h=>xM7 (N:=N) (xKV d) h
theorem xLa{N:Nat}{a0:Val}{r:Val}(h:xIF N a0=some r):AbC 76 (xFr a0) (xDl r):=xKV N _ r h
noncomputable def I111:Info:= { body:=(Tryz.f111.body).getD .skip,nt:=39,results:=[.cell 4 31],keep:=[0,2,6,8,10,12,36,52,7,9,11],live:=[(5,[0,8,10,12,9,11])],modes:=[(1,[(3,.take,false),(8,.take,false)]),(7,[(1,.ref,false)]),(8,[(0,.take,false)])] }
theorem xTW:FnOk Tryz.prog 111 Tryz.f111 I111:=by refine⟨Tryz.func111,?_,?_,?_,?_⟩<;>kernel_rfl
def xSv(x0 x6:Int)(b4 b5:Val):St:=[(0,.v false [.int .i64 x0]),(8,.v false [.ptr 4 0]),(10,.v false [.ptr 5 0]),(12,.v false [.int .i64 x6]),(9,.v true (Va .own b4)),(11,.v true (Va .own b5))]
def xYb(x0 x6 b4 b5):rS 5 I111 (xSv x0 x6 b4 b5) [Y] []=st 5 I111 (xSv x0 (W (x6+1)) b4 (Val.mk b5.kind b5.n b5.step b5.text b5.list b5.columns (b5.rows.set (tN x6) (Rowd.mk (xRf b5 x6) [(Org.mk x0 x6)])))) [xJ2 x6 b5,xFP x6 b5]:=by kernel_rfl
def xYc(x0 x6 b4 b5):rS 5 I111 (xSv x0 x6 b4 b5) [F] []=dn (xDH b5) [xMe x6 b5]:=by kernel_rfl
def xYd(a0 a1 r1):rE I111 (xEB a0 a1) [Y,Y,Y] [xBm r1]=dn (xDH r1) [xI3 a1,iY true,iY true,xSU r1]:=by kernel_rfl
def xYe(a0 a1 r1 r2):rE I111 (xEB a0 a1) [F,Y,Y] [xAK r1,xBm r2]=dn (xDH r2) [xMf a1,AbC 75 (xAR a1) (xAK r1),iY (!r1),iY true,xSU r2]:=by kernel_rfl
def xYf(a0 a1 r1 r2):rE I111 (xEB a0 a1) [F,F,Y] [xAK r1,xBm r2]=dn (xDH r2) [xMf a1,AbC 75 (xAR a1) (xAK r1),xBT r1,xMJ a0,xSU r2]:=by kernel_rfl
def xYg(a0 a1 r1 r2):rE I111 (xEB a0 a1) [F,F,F] [xAK r1,xDl r2]=st 5 I111 (xSv a0 0 (Val.mk 0 0 0 [] [] [] []) r2) [xMf a1,AbC 75 (xAR a1) (xAK r1),xBT r1,xHs a0,AbC 76 (xFr a1) (xDl r2)]:=by kernel_rfl
theorem vHp{N:Nat}:∀n x0 x6 b4 b5 r,xFe N n x0 x6 b4 b5=some r→RS Tryz.f111 I111 5 (xSv x0 x6 b4 b5) (xDH r):=by
 intro n
 induction n with
 |zero=>exact fun _ _ _ _ _ h=>nE h
 |succ n ih=>
  exact fun x0 x6 b4 b5 r h=>cE h (fun h0 h=>iE h fun h1 h=>tS xTW (xYb x0 x6 b4 b5) (oc2 h0 h1 on) (ih _ _ _ _ _ h)) fun h0 h=>dS h xTW (xYc x0 x6 b4 b5) (oc h0 on)
theorem vHq{N:Nat}:∀a0 a1 r,xHx N a0 a1=some r→RE Tryz.f111 I111 (xEB a0 a1) (xDH r):=fun a0 a1 r h=>cE h (fun h0 h=>bE h fun r1 h3 h=>dE h xTW (xYd a0 a1 r1) (oc4 h0 rfl rfl (xC4 h3) on)) fun h0 h=>bE h fun r1 h1 h=>cE h (fun h2 h=>bE h fun r2 h4 h=>dE h xTW (xYe a0 a1 r1 r2) (oc5 h0 (xDR h1) h2 rfl (xC4 h4) on)) fun h2 h=>cE h (fun h3 h=>bE h fun r2 h4 h=>dE h xTW (xYf a0 a1 r1 r2) (oc5 h0 (xDR h1) h2 h3 (xC4 h4) on)) fun h3 h=>bE h fun r2 h4 h=>tE xTW (xYg a0 a1 r1 r2) (oc5 h0 (xDR h1) h2 h3 (xLa h4) on) (vHp _ _ _ _ _ _ h)
theorem xM3{N:Nat}{a0:Int}{a1:Val}{r:Val}(h:xHx N  a0 a1=some r):AbC 111 (xEB a0 a1) (xDH r):=
 AbsCalls.of_reach xTW rfl rfl rfl (jL rfl) (vHq a0 a1 r h)
noncomputable def I69:Info:= { body:=(Tryz.f69.body).getD .skip,nt:=41,results:=[.cell 4 31],keep:=[0,2,8,10,12,14,28,50,1,9,11],live:=[(3,[0,2,8,10,12,1,9,11]),(6,[0,2,8,10,12,14,1,9,11])],modes:=[(8,[(1,.ref,false),(5,.ref,false)])],ext:=[0] }
theorem fk69:FnOk Tryz.prog 69 Tryz.f69 I69:=by refine⟨Tryz.func69,?_,?_,?_,?_⟩<;>kernel_rfl
def xU7(x1 x6:Int)(b0:Cur)(b4 b5:Val):St:=[(0,.v false [.ptr 0 0]),(2,.v false [.int .i64 x1]),(8,.v false [.ptr 4 0]),(10,.v false [.ptr 5 0]),(12,.v false [.int .i64 x6]),(1,.v true (Cu .ro b0)),(9,.v true (Va .own b4)),(11,.v true (Va .own b5))]
def xVN(x1 x6 x7:Int)(b0:Cur)(b4 b5:Val):St:=[(0,.v false [.ptr 0 0]),(2,.v false [.int .i64 x1]),(8,.v false [.ptr 4 0]),(10,.v false [.ptr 5 0]),(12,.v false [.int .i64 x6]),(14,.v false [.int .i64 x7]),(1,.v true (Cu .ro b0)),(9,.v true (Va .own b4)),(11,.v true (Va .own b5))]
def vFR(x1 x6 x7 b0 b4 b5 r1):rS 6 I69 (xVN x1 x6 x7 b0 b4 b5) [Y] [xAH r1]=st 6 I69 (xVN x1 x6 (W (x7+1)) r1.2 b4 (xWv b5 x6 x7 r1)) [xFP x6 b5,xT9 x7 b5 x6,xFP x6 b5,AbC 67 (xBp b0 4) (xAH r1),xQA x7 b5 x6]:=by kernel_rfl
def vFS(x1 x6 x7 b0 b4 b5):rS 6 I69 (xVN x1 x6 x7 b0 b4 b5) [F] []=st 3 I69 (xU7 x1 (W (x6+1)) b0 b4 b5) [xFP x6 b5,iN (xUw x7 b5 x6)]:=by kernel_rfl
def vFP(x1 x6 b0 b4 b5):rS 3 I69 (xU7 x1 x6 b0 b4 b5) [Y] []=st 6 I69 (xVN x1 x6 0 b0 b4 b5) [xJ2 x6 b5]:=by kernel_rfl
def vFQ(x1 x6 b0 b4 b5 r1):rS 3 I69 (xU7 x1 x6 b0 b4 b5) [F] [xDH r1]=dn (xE0 (r1,b0)) [xMe x6 b5,AbC 111 (xEB x1 b5) (xDH r1)]:=by kernel_rfl
def vFT(a0 a1 r1):rE I69 (xIA a0 a1) [] [xCH r1]=st 3 I69 (xU7 a1 0 r1.2 (Val.mk 0 0 0 [] [] [] []) r1.1) [AbC 97 (xEC a0) (xCH r1)]:=by kernel_rfl
theorem vJN{N:Nat}{k3:Int→Int→Cur→Val→Val→Option (Val×Cur)}(hk3:∀z0 z1 z2 z3 z4 r,k3 z0 z1 z2 z3 z4=some r→RS Tryz.f69 I69 3 (xU7 z0 z1 z2 z3 z4) (xE0 r)):∀n x1 x6 x7 b0 b4 b5 r,xGz N k3 n x1 x6 x7 b0 b4 b5=some r→RS Tryz.f69 I69 6 (xVN x1 x6 x7 b0 b4 b5) (xE0 r):=by
 intro n
 induction n with
 |zero=>exact fun _ _ _ _ _ _ _ h=>nE h
 |succ n ih=>
  exact fun x1 x6 x7 b0 b4 b5 r h=>iE h fun h0 h=>cE h (fun h1 h=>bE h fun r1 h3 h=>iE h fun h4 h=>tS fk69 (vFR x1 x6 x7 b0 b4 b5 r1) (oc5 h0 h1 h0 (xAZ h3) h4 on) (ih _ _ _ _ _ _ _ h)) fun h1 h=>tS fk69 (vFS x1 x6 x7 b0 b4 b5) (oc2 h0 h1 on) (hk3 _ _ _ _ _ _ h)
theorem vJM{N:Nat}:∀n x1 x6 b0 b4 b5 r,xFM N n x1 x6 b0 b4 b5=some r→RS Tryz.f69 I69 3 (xU7 x1 x6 b0 b4 b5) (xE0 r):=by
 intro n
 induction n with
 |zero=>exact fun _ _ _ _ _ _ h=>nE h
 |succ n ih=>
  exact fun x1 x6 b0 b4 b5 r h=>cE h (fun h0 h=>tS fk69 (vFP x1 x6 b0 b4 b5) (oc h0 on) (vJN ih _ _ _ _ _ _ _ _ h)) fun h0 h=>bE h fun r1 h1 h=>dS h fk69 (vFQ x1 x6 b0 b4 b5 r1) (oc2 h0 (xM3 h1) on)
theorem vJO{N:Nat}:∀a0 a1 r,xJd N a0 a1=some r→RE Tryz.f69 I69 (xIA a0 a1) (xE0 r):=fun a0 a1 r h=>bE h fun r1 h0 h=>tE fk69 (vFT a0 a1 r1) (oc (xIH h0) on) (vJM _ _ _ _ _ _ _ h)
theorem xOA{N:Nat}{a0:Cur}{a1:Int}{r:Val×Cur}(h:xJd N  a0 a1=some r):AbC 69 (xIA a0 a1) (xE0 r):=
 AbsCalls.of_reach fk69 rfl rfl rfl (jL rfl) (vJO a0 a1 r h)
noncomputable def I70:Info:= { body:=(Tryz.f70.body).getD .skip,nt:=23,results:=[.tmp 2],keep:=[0,4,6,8,10,22,1],live:=[(4,[0,6,8,10,1])],modes:=[(4,[(1,.take,false)]),(6,[(0,.take,false)]),(7,[(0,.take,false)])],ext:=[0] }
theorem fk70:FnOk Tryz.prog 70 Tryz.f70 I70:=by refine⟨Tryz.func70,?_,?_,?_,?_⟩<;>kernel_rfl
def xVO(x3:List Org)(x4 x5:Int)(b0:Cur):St:=[(0,.v false [.ptr 0 0]),(6,.v false [.sl .own .org x3]),(8,.v false [.int .i64 x4]),(10,.v false [.int .i64 x5]),(1,.v true (Cu .ro b0))]
def vFU(x3 x4 x5 b0 r1 r2):rS 4 I70 (xVO x3 x4 x5 b0) [Y] [xAH r1,xAH r2]=st 4 I70 (xVO (x3++ [(Org.mk r1.1 r2.1)]) x4 (W (x5+1)) r2.2) [xFn x5 x4,AbC 67 (xBp b0 3) (xAH r1),AbC 67 (xBp r1.2 4) (xAH r2),Ln x3+Ln [(Org.mk r1.1 r2.1)]≤Lim]:=by kernel_rfl
def vFV(x3 x4 x5 b0):rS 4 I70 (xVO x3 x4 x5 b0) [F] []=dn (xF0 (x3,b0)) [xHr x5 x4]:=by kernel_rfl
def vFW(a0 r1):rE I70 (xIu a0) [] [xAH r1]=st 4 I70 (xVO [] r1.1 0 r1.2) [AbC 67 (xBp a0 6) (xAH r1)]:=by kernel_rfl
theorem vJP{N:Nat}:∀n x3 x4 x5 b0 r,xHI N n x3 x4 x5 b0=some r→RS Tryz.f70 I70 4 (xVO x3 x4 x5 b0) (xF0 r):=by
 intro n
 induction n with
 |zero=>exact fun _ _ _ _ _ h=>nE h
 |succ n ih=>
  exact fun x3 x4 x5 b0 r h=>cE h (fun h0 h=>bE h fun r1 h1 h=>bE h fun r2 h2 h=>iE h fun h3 h=>tS fk70 (vFU x3 x4 x5 b0 r1 r2) (oc4 h0 (xAZ h1) (xAZ h2) h3 on) (ih _ _ _ _ _ h)) fun h0 h=>dS h fk70 (vFV x3 x4 x5 b0) (oc h0 on)
theorem vJQ{N:Nat}:∀a0 r,xJt N a0=some r→RE Tryz.f70 I70 (xIu a0) (xF0 r):=fun a0 r h=>bE h fun r1 h0 h=>tE fk70 (vFW a0 r1) (oc (xAZ h0) on) (vJP _ _ _ _ _ _ h)
theorem xMM{N:Nat}{a0:Cur}{r:(List Org)×Cur}(h:xJt N  a0=some r):AbC 70 (xIu a0) (xF0 r):=
 AbsCalls.of_reach fk70 rfl rfl rfl (jL rfl) (vJQ a0 r h)
end Go.Ab.T
end
section
open Go.Proofs
namespace Go.Ab.T
set_option maxRecDepth 100000
variable [Inhabited Lb]
noncomputable def I23:Info:= { body:=(Tryz.f23.body).getD .skip,nt:=17,results:=[.cell 2 31,.tmp 3],keep:=[0,4,6,8,10,22,5,11,15],live:=[],modes:=[(5,[(0,.take,false)])] }
theorem fk23:FnOk Tryz.prog 23 Tryz.f23 I23:=by refine⟨Tryz.func23,?_,?_,?_,?_⟩<;>kernel_rfl
def vCS(a0 r1 r2 r3 r4 r5):rE I23 (xEo a0) [Y] [xDI r1,xCg r2,xAS r3,xE0 r4,xF0 r5]=dn (xAd (r4.1,r5.1)) [AbC 56 (xGI a0) (xDI r1),AbC 57 (xEV r1) (xCg r2),AbC 58 (xBx r2.2 2) (xAS r3),iY r3.1,AbC 69 (xIA r3.2 1) (xE0 r4),AbC 70 (xIu r4.2) (xF0 r5)]:=by kernel_rfl
def vCT(a0 r1 r2 r3 r4):rE I23 (xEo a0) [F] [xDI r1,xCg r2,xAS r3,xF0 r4]=dn (xAd (r2.1,r4.1)) [AbC 56 (xGI a0) (xDI r1),AbC 57 (xEV r1) (xCg r2),AbC 58 (xBx r2.2 2) (xAS r3),iN r3.1,AbC 70 (xIu r3.2) (xF0 r4)]:=by kernel_rfl
theorem vJd{N:Nat}:∀a0 r,xEj N a0=some r→RE Tryz.f23 I23 (xEo a0) (xAd r):=fun a0 r h=>bE h fun r1 h0 h=>bE h fun r2 h1 h=>bE h fun r3 h2 h=>cE h (fun h3 h=>bE h fun r4 h4 h=>bE h fun r5 h5 h=>dE h fk23 (vCS a0 r1 r2 r3 r4 r5) (oc6 (xI7 h0) (xG4 h1) (xBG h2) h3 (xOA h4) (xMM h5) on)) fun h3 h=>bE h fun r4 h4 h=>dE h fk23 (vCT a0 r1 r2 r3 r4) (oc5 (xI7 h0) (xG4 h1) (xBG h2) h3 (xMM h4) on)
theorem xAg{N:Nat}{a0:List Int}{r:Val×(List Org)}(h:xEj N  a0=some r):AbC 23 (xEo a0) (xAd r):=
 AbsCalls.of_reach fk23 rfl rfl rfl (jL rfl) (vJd a0 r h)
noncomputable def I74:Info:= { body:=(Tryz.f74.body).getD .skip,nt:=12,results:=[.cell 2 45],keep:=[0,2,4,3,5],live:=[],modes:=[] }
theorem fk74:FnOk Tryz.prog 74 Tryz.f74 I74:=by refine⟨Tryz.func74,?_,?_,?_,?_⟩<;>kernel_rfl
def vF4(a0):rE I74 (xGX a0) [] []=dn (xEN (Rowd.mk ([]++a0.cells) ([]++a0.frm))) [0+Ln a0.cells≤Lim,0+Ln a0.frm≤Lim]:=by kernel_rfl
theorem vJW{N:Nat}:∀a0 r,xIM N a0=some r→RE Tryz.f74 I74 (xGX a0) (xEN r):=fun a0 r h=>iE h fun h0 h=>iE h fun h1 h=>dE h fk74 (vF4 a0) (oc2 h0 h1 on)
theorem xKl{N:Nat}{a0:Rowd}{r:Rowd}(h:xIM N  a0=some r):AbC 74 (xGX a0) (xEN r):=
 AbsCalls.of_reach fk74 rfl rfl rfl (jL rfl) (vJW a0 r h)
def G71(q:Val→Option (Val)):Prop:=∀a0 r,q a0=some r→AbC 71 (xD8 a0) (xCB r)
def G112(q:(List Val)→Option ((List Val))):Prop:=∀a0 r,q a0=some r→AbC 112 (xGB a0) (xEO r)
noncomputable def I71:Info:= { body:=(Tryz.f71.body).getD .skip,nt:=33,results:=[.cell 2 31],keep:=[0,2,4,6,10,36,38,40,42,3,5,7,11],live:=[(6,[4,6,36,38,40,5,7])],modes:=[(8,[(1,.take,false),(5,.take,false)]),(9,[(1,.take,false)]),(10,[(0,.take,false)])] }
theorem fk71:FnOk Tryz.prog 71 Tryz.f71 I71:=by refine⟨Tryz.func71,?_,?_,?_,?_⟩<;>kernel_rfl
def xVP(x18:List Rowd)(x19 x20:Int)(b2 b3:Val):St:=[(4,.v false [.ptr 2 0]),(6,.v false [.ptr 3 0]),(36,.v false [.sl .ro .row x18]),(38,.v false [.int .i64 x19]),(40,.v false [.int .i64 x20]),(5,.v true (Va .own b2)),(7,.v true (Va .own b3))]
def vFX(x18 x19 x20 b2 b3 r1):rS 6 I71 (xVP x18 x19 x20 b2 b3) [Y] [xEN r1]=st 6 I71 (xVP x18 x19 (W (x20+1)) b2 (Val.mk b3.kind b3.n b3.step b3.text b3.list b3.columns (b3.rows++ [r1]))) [xFn x20 x19,xLD x20 x18,AbC 74 (xGX (xMc x18 x20)) (xEN r1),xPi b3 r1]:=by kernel_rfl
def vFY(x18 x19 x20 b2 b3):rS 6 I71 (xVP x18 x19 x20 b2 b3) [F] []=dn (xCB b3) [xHr x20 x19]:=by kernel_rfl
def vFZ(a0 r1):rE I71 (xD8 a0) [] [xEO r1]=st 6 I71 (xVP a0.rows (xHJ a0) 0 (Val.mk 0 0 0 [] [] [] []) (Val.mk a0.kind a0.n a0.step a0.text r1 ([]++a0.columns) [])) [AbC 112 (xGB a0.list) (xEO r1),xJe a0]:=by kernel_rfl
theorem vJR{N q0 q1}(g0:G71 q0)(g1:G112 q1):∀n x18 x19 x20 b2 b3 r,xE8 N q0 q1 n x18 x19 x20 b2 b3=some r→RS Tryz.f71 I71 6 (xVP x18 x19 x20 b2 b3) (xCB r):=by
 intro n
 induction n with
 |zero=>exact fun _ _ _ _ _ _ h=>nE h
 |succ n ih=>
  exact fun x18 x19 x20 b2 b3 r h=>cE h (fun h0 h=>iE h fun h1 h=>bE h fun r1 h2 h=>iE h fun h3 h=>tS fk71 (vFX x18 x19 x20 b2 b3 r1) (oc4 h0 h1 (xKl h2) h3 on) (ih _ _ _ _ _ _ h)) fun h0 h=>dS h fk71 (vFY x18 x19 x20 b2 b3) (oc h0 on)
theorem vJS{N q0 q1}(g0:G71 q0)(g1:G112 q1):∀a0 r,xGd N q0 q1 a0=some r→RE Tryz.f71 I71 (xD8 a0) (xCB r):=fun a0 r h=>bE h fun r1 h0 h=>iE h fun h1 h=>tE fk71 (vFZ a0 r1) (oc2 (g1 _ _ h0) h1 on) (vJR g0 g1 _ _ _ _ _ _ _ h)
theorem xLX{N q0 q1}(g0:G71 q0)(g1:G112 q1){a0}{r}(h:xGd N q0 q1 a0=some r):AbC 71 (xD8 a0) (xCB r):=
 AbsCalls.of_reach fk71 rfl rfl rfl (jL rfl) (vJS g0 g1 a0 r h)
noncomputable def I112:Info:= { body:=(Tryz.f112.body).getD .skip,nt:=20,results:=[.tmp 2],keep:=[0,4,6,10,14,16,18,20,11],live:=[(3,[6,14,16,18])],modes:=[(5,[(0,.take,false),(4,.take,false)]),(6,[(1,.take,false)]),(7,[(0,.take,false)])] }
theorem xXs:FnOk Tryz.prog 112 Tryz.f112 I112:=by refine⟨Tryz.func112,?_,?_,?_,?_⟩<;>kernel_rfl
def xSw(x3 x7:List Val)(x8 x9:Int):St:=[(6,.v false [.sl .own .val x3]),(14,.v false [.sl .ro .val x7]),(16,.v false [.int .i64 x8]),(18,.v false [.int .i64 x9])]
def xYh(x3 x7 x8 x9 r1):rS 3 I112 (xSw x3 x7 x8 x9) [Y] [xCB r1]=st 3 I112 (xSw (x3++ [r1.re]) x7 x8 (W (x9+1))) [xFn x9 x8,xIf x9 x7,AbC 71 (xD8 (xMb x7 x9)) (xCB r1),Ln x3+Ln [r1.re]≤Lim]:=by kernel_rfl
def xYi(x3 x7 x8 x9):rS 3 I112 (xSw x3 x7 x8 x9) [F] []=dn (xEO x3) [xHr x9 x8]:=by kernel_rfl
def xYj(a0):rE I112 (xGB a0) [] []=st 3 I112 (xSw [] a0 (Ln a0:Int) 0) []:=by kernel_rfl
theorem vHr{N q0 q1}(g0:G71 q0)(g1:G112 q1):∀n x3 x7 x8 x9 r,xFE N q0 q1 n x3 x7 x8 x9=some r→RS Tryz.f112 I112 3 (xSw x3 x7 x8 x9) (xEO r):=by
 intro n
 induction n with
 |zero=>exact fun _ _ _ _ _ h=>nE h
 |succ n ih=>
  exact fun x3 x7 x8 x9 r h=>cE h (fun h0 h=>iE h fun h1 h=>bE h fun r1 h2 h=>iE h fun h3 h=>tS xXs (xYh x3 x7 x8 x9 r1) (oc4 h0 h1 (g0 _ _ h2) h3 on) (ih _ _ _ _ _ h)) fun h0 h=>dS h xXs (xYi x3 x7 x8 x9) (oc h0 on)
theorem vHs{N q0 q1}(g0:G71 q0)(g1:G112 q1):∀a0 r,xFO N q0 q1 a0=some r→RE Tryz.f112 I112 (xGB a0) (xEO r):=fun a0 r h=>tE xXs (xYj a0) on (vHr g0 g1 _ _ _ _ _ _ h)
theorem xLx{N q0 q1}(g0:G71 q0)(g1:G112 q1){a0}{r}(h:xFO N q0 q1 a0=some r):AbC 112 (xGB a0) (xEO r):=
 AbsCalls.of_reach xXs rfl rfl rfl (jL rfl) (vHs g0 g1 a0 r h)
theorem xL3{N:Nat}:∀d,G71 (xBI N d).c_impl_copyValue∧G112 (xBI N d).c_impl_copyValues:=by
 intro d
 induction d with
 |zero=>exact⟨fun _ _ h=>nE h,fun _ _ h=>nE h⟩
 |succ d ih=>
  obtain⟨ih0,ih1⟩:=ih
  exact⟨fun _ _ h=>xLX (N:=N) ih0 ih1 h,fun _ _ h=>xLx (N:=N) ih0 ih1 h⟩
theorem xJo{N:Nat}{a0:Val}{r:Val}(h:xK2 N a0=some r):AbC 71 (xD8 a0) (xCB r):=(xL3 N).1 _ r h
noncomputable def I73:Info:= { body:=(Tryz.f73.body).getD .skip,nt:=17,results:=[.tmp 4],keep:=[0,2,6,8,12,14,16,18,20,30,7,13],live:=[(2,[6,14,16,18,7])],modes:=[(6,[(1,.take,false)])] }
theorem fk73:FnOk Tryz.prog 73 Tryz.f73 I73:=by refine⟨Tryz.func73,?_,?_,?_,?_⟩<;>kernel_rfl
def xU8(x7:List Org)(x8 x9:Int)(b3:Org):St:=[(6,.v false [.ptr 3 0]),(14,.v false [.sl .ro .org x7]),(16,.v false [.int .i64 x8]),(18,.v false [.int .i64 x9]),(7,.v true [.int .i64 b3.cell,.int .i64 b3.row])]
abbrev xWx(v0:List Org)(v1:Int)(v2:Org):=(((Org.cell (gD v0 (tN v1) Ty.org.dflt)):Int)==v2.cell)&&(((Org.row (gD v0 (tN v1) Ty.org.dflt)):Int)==v2.row)
abbrev xWm(v0:List Org)(v1:Int)(v2:Org):Prop:=iY (xWx v0 v1 v2)
def vF0(x7 x8 x9 b3):rS 2 I73 (xU8 x7 x8 x9 b3) [Y,Y] []=dn (xE9 true) [xFn x9 x8,xFb x9 x7,xWm x7 x9 b3]:=by kernel_rfl
abbrev xWn(v0:List Org)(v1:Int)(v2:Org):Prop:=iN (xWx v0 v1 v2)
def vF1(x7 x8 x9 b3):rS 2 I73 (xU8 x7 x8 x9 b3) [Y,F] []=st 2 I73 (xU8 x7 x8 (W (x9+1)) b3) [xFn x9 x8,xFb x9 x7,xWn x7 x9 b3]:=by kernel_rfl
def vF2(x7 x8 x9 b3):rS 2 I73 (xU8 x7 x8 x9 b3) [F] []=dn (xE9 false) [xHr x9 x8]:=by kernel_rfl
def vF3(a0 a1):rE I73 (xH7 a0 a1) [] []=st 2 I73 (xU8 a0 (Ln a0:Int) 0 a1) []:=by kernel_rfl
theorem vJU{N:Nat}:∀n x7 x8 x9 b3 r,xED N n x7 x8 x9 b3=some r→RS Tryz.f73 I73 2 (xU8 x7 x8 x9 b3) (xE9 r):=by
 intro n
 induction n with
 |zero=>exact fun _ _ _ _ _ h=>nE h
 |succ n ih=>
  exact fun x7 x8 x9 b3 r h=>cE h (fun h0 h=>iE h fun h1 h=>cE h (fun h2 h=>dS h fk73 (vF0 x7 x8 x9 b3) (oc3 h0 h1 h2 on)) fun h2 h=>tS fk73 (vF1 x7 x8 x9 b3) (oc3 h0 h1 h2 on) (ih _ _ _ _ _ h)) fun h0 h=>dS h fk73 (vF2 x7 x8 x9 b3) (oc h0 on)
theorem vJV{N:Nat}:∀a0 a1 r,xJu N a0 a1=some r→RE Tryz.f73 I73 (xH7 a0 a1) (xE9 r):=fun a0 a1 r h=>tE fk73 (vF3 a0 a1) on (vJU _ _ _ _ _ _ h)
theorem xNK{N:Nat}{a0:List Org}{a1:Org}{r:Bool}(h:xJu N  a0 a1=some r):AbC 73 (xH7 a0 a1) (xE9 r):=
 AbsCalls.of_reach fk73 rfl rfl rfl (jL rfl) (vJV a0 a1 r h)
noncomputable def I24:Info:= { body:=(Tryz.f24.body).getD .skip,nt:=54,results:=[.cell 4 31],keep:=[0,2,4,8,10,14,16,20,40,48,50,52,54,62,64,66,68,88,5,9,11,15,21],live:=[(6,[2,8,10,48,50,52,9,11]),(10,[2,8,10,14,16,48,50,52,62,64,66,9,11,15])],modes:=[(2,[(3,.take,false)]),(3,[(0,.take,false)]),(12,[(1,.take,false)]),(13,[(1,.take,false)]),(15,[(1,.take,false),(5,.take,false)]),(16,[(1,.take,false)]),(17,[(0,.take,false)])] }
theorem fk24:FnOk Tryz.prog 24 Tryz.f24 I24:=by refine⟨Tryz.func24,?_,?_,?_,?_⟩<;>kernel_rfl
def xTA(x1:List Org)(x24:List Rowd)(x25 x26:Int)(b4 b5:Val):St:=[(2,.v false [.sl .ro .org x1]),(8,.v false [.ptr 4 0]),(10,.v false [.ptr 5 0]),(48,.v false [.sl .ro .row x24]),(50,.v false [.int .i64 x25]),(52,.v false [.int .i64 x26]),(9,.v true (Va .own b4)),(11,.v true (Va .own b5))]
def xOd(x1:List Org)(x8:Bool)(x24:List Rowd)(x25 x26:Int)(x31:List Org)(x32 x33:Int)(b4 b5:Val)(b7:Rowd):St:=[(2,.v false [.sl .ro .org x1]),(8,.v false [.ptr 4 0]),(10,.v false [.ptr 5 0]),(14,.v false [.ptr 7 0]),(16,.v false [.bool x8]),(48,.v false [.sl .ro .row x24]),(50,.v false [.int .i64 x25]),(52,.v false [.int .i64 x26]),(62,.v false [.sl .ro .org x31]),(64,.v false [.int .i64 x32]),(66,.v false [.int .i64 x33]),(9,.v true (Va .own b4)),(11,.v true (Va .own b5)),(15,.v true [.sl .ro .int b7.cells,.sl .ro .org b7.frm])]
def vAJ(x1 x8 x24 x25 x26 x31 x32 x33 b4 b5 b7 r1):rS 10 I24 (xOd x1 x8 x24 x25 x26 x31 x32 x33 b4 b5 b7) [Y,Y] [xE9 r1]=st 10 I24 (xOd x1 r1 x24 x25 x26 x31 x32 (W (x33+1)) b4 b5 b7) [xFn x33 x32,xFb x33 x31,iY x8,AbC 73 (xH7 x1 (xGN x31 x33)) (xE9 r1)]:=by kernel_rfl
def vAK(x1 x8 x24 x25 x26 x31 x32 x33 b4 b5 b7):rS 10 I24 (xOd x1 x8 x24 x25 x26 x31 x32 x33 b4 b5 b7) [Y,F] []=st 10 I24 (xOd x1 false x24 x25 x26 x31 x32 (W (x33+1)) b4 b5 b7) [xFn x33 x32,xFb x33 x31,iN x8]:=by kernel_rfl
def vAL(x1 x8 x24 x25 x26 x31 x32 x33 b4 b5 b7 r1):rS 10 I24 (xOd x1 x8 x24 x25 x26 x31 x32 x33 b4 b5 b7) [F,Y] [xEN r1]=st 6 I24 (xTA x1 x24 x25 (W (x26+1)) b4 (Val.mk b5.kind b5.n b5.step b5.text b5.list b5.columns (b5.rows++ [r1]))) [xHr x33 x32,iY x8,AbC 74 (xGX b7) (xEN r1),xPi b5 r1]:=by kernel_rfl
def vAM(x1 x8 x24 x25 x26 x31 x32 x33 b4 b5 b7):rS 10 I24 (xOd x1 x8 x24 x25 x26 x31 x32 x33 b4 b5 b7) [F,F] []=st 6 I24 (xTA x1 x24 x25 (W (x26+1)) b4 b5) [xHr x33 x32,iN x8]:=by kernel_rfl
def vCU(x1 x24 x25 x26 b4 b5):rS 6 I24 (xTA x1 x24 x25 x26 b4 b5) [Y] []=st 10 I24 (xOd x1 true x24 x25 x26 (Rowd.frm (xMc x24 x26)) (Ln (Rowd.frm (xMc x24 x26)):Int) 0 b4 b5 (xMc x24 x26)) [xFn x26 x25,xLD x26 x24]:=by kernel_rfl
def vCV(x1 x24 x25 x26 b4 b5):rS 6 I24 (xTA x1 x24 x25 x26 b4 b5) [F] []=dn (xAa b5) [xHr x26 x25]:=by kernel_rfl
def vCW(a0 a1 r1):rE I24 (xDZ a0 a1) [Y,Y] [xCB r1]=dn (xAa r1) [AbC 71 (xD8 a0) (xCB r1),xI3 a0,iY true]:=by kernel_rfl
def vCX(a0 a1 r1 r2):rE I24 (xDZ a0 a1) [F,Y] [xCB r1,xAy r2]=dn (xAa r1) [AbC 71 (xD8 a0) (xCB r1),xMf a0,AbC 72 (xAE a0) (xAy r2),iY (!r2)]:=by kernel_rfl
def vCY(a0 a1 r1 r2):rE I24 (xDZ a0 a1) [F,F] [xCB r1,xAy r2]=st 6 I24 (xTA a1 a0.rows (xHJ a0) 0 (Val.mk 0 0 0 [] [] [] []) (Val.mk r1.kind r1.n r1.step r1.text r1.list r1.columns [])) [AbC 71 (xD8 a0) (xCB r1),xMf a0,AbC 72 (xAE a0) (xAy r2),xBT r2]:=by kernel_rfl
theorem vIk{N:Nat}{k6:(List Org)→(List Rowd)→Int→Int→Val→Val→Option (Val)}(hk6:∀z0 z1 z2 z3 z4 z5 r,k6 z0 z1 z2 z3 z4 z5=some r→RS Tryz.f24 I24 6 (xTA z0 z1 z2 z3 z4 z5) (xAa r)):∀n x1 x8 x24 x25 x26 x31 x32 x33 b4 b5 b7 r,xDq N k6 n x1 x8 x24 x25 x26 x31 x32 x33 b4 b5 b7=some r→RS Tryz.f24 I24 10 (xOd x1 x8 x24 x25 x26 x31 x32 x33 b4 b5 b7) (xAa r):=by
 intro n
 induction n with
 |zero=>exact fun _ _ _ _ _ _ _ _ _ _ _ _ h=>nE h
 |succ n ih=>
  exact fun x1 x8 x24 x25 x26 x31 x32 x33 b4 b5 b7 r h=>cE h (fun h0 h=>iE h fun h1 h=>cE h (fun h2 h=>bE h fun r1 h3 h=>tS fk24 (vAJ x1 x8 x24 x25 x26 x31 x32 x33 b4 b5 b7 r1) (oc4 h0 h1 h2 (xNK h3) on) (ih _ _ _ _ _ _ _ _ _ _ _ _ h)) fun h2 h=>tS fk24 (vAK x1 x8 x24 x25 x26 x31 x32 x33 b4 b5 b7) (oc3 h0 h1 h2 on) (ih _ _ _ _ _ _ _ _ _ _ _ _ h)) fun h0 h=>cE h (fun h1 h=>bE h fun r1 h2 h=>iE h fun h3 h=>tS fk24 (vAL x1 x8 x24 x25 x26 x31 x32 x33 b4 b5 b7 r1) (oc4 h0 h1 (xKl h2) h3 on) (hk6 _ _ _ _ _ _ _ h)) fun h1 h=>tS fk24 (vAM x1 x8 x24 x25 x26 x31 x32 x33 b4 b5 b7) (oc2 h0 h1 on) (hk6 _ _ _ _ _ _ _ h)
theorem vJe{N:Nat}:∀n x1 x24 x25 x26 b4 b5 r,xCU N n x1 x24 x25 x26 b4 b5=some r→RS Tryz.f24 I24 6 (xTA x1 x24 x25 x26 b4 b5) (xAa r):=by
 intro n
 induction n with
 |zero=>exact fun _ _ _ _ _ _ _ h=>nE h
 |succ n ih=>
  exact fun x1 x24 x25 x26 b4 b5 r h=>cE h (fun h0 h=>iE h fun h1 h=>tS fk24 (vCU x1 x24 x25 x26 b4 b5) (oc2 h0 h1 on) (vIk ih _ _ _ _ _ _ _ _ _ _ _ _ _ h)) fun h0 h=>dS h fk24 (vCV x1 x24 x25 x26 b4 b5) (oc h0 on)
theorem vJf{N:Nat}:∀a0 a1 r,xBj N a0 a1=some r→RE Tryz.f24 I24 (xDZ a0 a1) (xAa r):=fun a0 a1 r h=>bE h fun r1 h0 h=>cE h (fun h1 h=>dE h fk24 (vCW a0 a1 r1) (oc3 (xJo h0) h1 rfl on)) fun h1 h=>bE h fun r2 h2 h=>cE h (fun h3 h=>dE h fk24 (vCX a0 a1 r1 r2) (oc4 (xJo h0) h1 (xFN h2) h3 on)) fun h3 h=>tE fk24 (vCY a0 a1 r1 r2) (oc4 (xJo h0) h1 (xFN h2) h3 on) (vJe _ _ _ _ _ _ _ _ h)
theorem xAb{N:Nat}{a0:Val}{a1:List Org}{r:Val}(h:xBj N  a0 a1=some r):AbC 24 (xDZ a0 a1) (xAa r):=
 AbsCalls.of_reach fk24 rfl rfl rfl (jL rfl) (vJf a0 a1 r h)
theorem xMS{P:Program}{f:FuncId}{ags:List Arg}{r:Val×Bool}(h:AbsCalls P f ags (xCA r))(ht:r.2=true):AbsCalls P f ags (xIC r):=by
 unfold xCA at h;rw [ht] at h;exact h
theorem xAo{P:Program}{f:FuncId}{ags:List Arg}{r:Val×Bool}(h:AbsCalls P f ags (xCA r))(ht:r.2=false):AbsCalls P f ags (xAk r):=by
 unfold xCA at h;rw [ht] at h;exact h
theorem xAn{P:Program}{f:FuncId}{ags:List Arg}{r:Val×Bool}(h:AbsCalls P f ags (xCA r))(ht:r.2=true)(e0:List.isEmpty (Val.list r.1)=true)(e1:List.isEmpty (Val.columns r.1)=true)(e2:List.isEmpty (Val.rows r.1)=true):AbsCalls P f ags (xAm r):=by
 have h:=xMS h ht
 unfold xIC at h;rw [List.isEmpty_iff.1 e0,List.isEmpty_iff.1 e1,List.isEmpty_iff.1 e2] at h;exact h
noncomputable def I25:Info:= { body:=(Tryz.f25.body).getD .skip,nt:=60,results:=[.cell 6 31],keep:=[0,2,4,6,8,10,12,14,16,18,20,24,44,58,74,76,78,80,100,7,9,11,13,15,21,25],live:=[(9,[8,12,18,20,74,76,78,9,13,21])],modes:=[(1,[(5,.take,true),(6,.take,false)]),(2,[(0,.take,false)]),(3,[(0,.take,false)]),(12,[(1,.take,false),(5,.take,false)]),(13,[(1,.take,false)]),(14,[(0,.take,false)])] }
theorem fk25:FnOk Tryz.prog 25 Tryz.f25 I25:=by refine⟨Tryz.func25,?_,?_,?_,?_⟩<;>kernel_rfl
def xSC(x9:Int)(x37:List Rowd)(x38 x39:Int)(b4 b6 b10:Val):St:=[(8,.v false [.ptr 4 0]),(12,.v false [.ptr 6 0]),(18,.v false [.int .i64 x9]),(20,.v false [.ptr 10 0]),(74,.v false [.sl .ro .row x37]),(76,.v false [.int .i64 x38]),(78,.v false [.int .i64 x39]),(9,.v true (Va .ro b4)),(13,.v true (Va .own b6)),(21,.v true (Va .own b10))]
def vCZ(x9 x37 x38 x39 b4 b6 b10 r1):rS 9 I25 (xSC x9 x37 x38 x39 b4 b6 b10) [Y,Y] [xEN r1]=st 9 I25 (xSC x9 x37 x38 (W (x39+1)) b4 b6 (Val.mk b10.kind b10.n b10.step b10.text b10.list b10.columns (b10.rows++ [r1]))) [xFn x39 x38,xLD x39 x37,xQ6 x9 x37 x39,iY (((xRm x37 x39 x9):Int)==b4.n),AbC 74 (xGX (xMc x37 x39)) (xEN r1),xPi b10 r1]:=by kernel_rfl
def vC0(x9 x37 x38 x39 b4 b6 b10):rS 9 I25 (xSC x9 x37 x38 x39 b4 b6 b10) [Y,F] []=st 9 I25 (xSC x9 x37 x38 (W (x39+1)) b4 b6 b10) [xFn x39 x38,xLD x39 x37,xQ6 x9 x37 x39,iN (((xRm x37 x39 x9):Int)==b4.n)]:=by kernel_rfl
def vC1(x9 x37 x38 x39 b4 b6 b10):rS 9 I25 (xSC x9 x37 x38 x39 b4 b6 b10) [F] []=dn (xCA (b10,false)) [xHr x39 x38]:=by kernel_rfl
abbrev xNZ(v0 v1 v2:Val):=xD9 [2,1,5] [v0.re,v1.re,v2.re]
def vC2(a0 a1 a2 r1):rE I25 (xC1 a0 a1 a2) [Y] [xCt r1]=dn (xCA ((Val.mk r1.1.kind r1.1.n r1.1.step r1.1.text [] [] []),true)) [AbC 42 (xNZ a0 a1 a2) (xCt r1),iY r1.2.1]:=by kernel_rfl
def vC3(a0 a1 a2 r1 r2 r3):rE I25 (xC1 a0 a1 a2) [F,Y] [xCt r1,xA0 r2,xBq r3]=dn (xCA (r3,false)) [AbC 42 (xNZ a0 a1 a2) (xCt r1),iN r1.2.1,xFT a2 a0 r2,xMJ r2,xL5 r3]:=by kernel_rfl
def vC4(a0 a1 a2 r1 r2):rE I25 (xC1 a0 a1 a2) [F,F] [xCt r1,xA0 r2]=st 9 I25 (xSC r2 a2.rows (xHJ a2) 0 a1 (Val.mk 0 0 0 [] [] [] []) (Val.mk 5 0 0 [] [] ([]++a2.columns) [])) [AbC 42 (xNZ a0 a1 a2) (xCt r1),iN r1.2.1,xFT a2 a0 r2,xHs r2,xJe a2]:=by kernel_rfl
def vC5(a0 a1 a2 r1):rE I25 (xC1 a0 a1 a2) [Y] [xCe r1]=dn (xCA (r1.1,false)) [AbC 42 (xNZ a0 a1 a2) (xCe r1),iY r1.2.1]:=by kernel_rfl
def vC6(a0 a1 a2 r1 r2 r3):rE I25 (xC1 a0 a1 a2) [F,Y] [xCe r1,xA0 r2,xBq r3]=dn (xCA (r3,false)) [AbC 42 (xNZ a0 a1 a2) (xCe r1),iN r1.2.1,xFT a2 a0 r2,xMJ r2,xL5 r3]:=by kernel_rfl
def vC7(a0 a1 a2 r1 r2):rE I25 (xC1 a0 a1 a2) [F,F] [xCe r1,xA0 r2]=st 9 I25 (xSC r2 a2.rows (xHJ a2) 0 a1 (Val.mk 0 0 0 [] [] [] []) (Val.mk 5 0 0 [] [] ([]++a2.columns) [])) [AbC 42 (xNZ a0 a1 a2) (xCe r1),iN r1.2.1,xFT a2 a0 r2,xHs r2,xJe a2]:=by kernel_rfl
theorem vIl{N:Nat}:∀n x9 x37 x38 x39 b4 b6 b10 r,xDy N n x9 x37 x38 x39 b4 b6 b10=some r→RS Tryz.f25 I25 9 (xSC x9 x37 x38 x39 b4 b6 b10) (xCA r):=by
 intro n
 induction n with
 |zero=>exact fun _ _ _ _ _ _ _ _ h=>nE h
 |succ n ih=>
  exact fun x9 x37 x38 x39 b4 b6 b10 r h=>cE h (fun h0 h=>iE h fun h1 h=>iE h fun h2 h=>cE h (fun h3 h=>bE h fun r1 h4 h=>iE h fun h5 h=>tS fk25 (vCZ x9 x37 x38 x39 b4 b6 b10 r1) (oc6 h0 h1 h2 h3 (xKl h4) h5 on) (ih _ _ _ _ _ _ _ _ h)) fun h3 h=>tS fk25 (vC0 x9 x37 x38 x39 b4 b6 b10) (oc4 h0 h1 h2 h3 on) (ih _ _ _ _ _ _ _ _ h)) fun h0 h=>dS h fk25 (vC1 x9 x37 x38 x39 b4 b6 b10) (oc h0 on)
theorem vJg{N:Nat}:∀a0 a1 a2 r,xEM N a0 a1 a2=some r→RE Tryz.f25 I25 (xC1 a0 a1 a2) (xCA r):=fun a0 a1 a2 r h=>bE h fun r1 h0 h=>cE h (fun h1 h=>iE h fun h2 h=>iE h fun h3 h=>iE h fun h4 h=>cE h (fun h5 h=>dE h fk25 (vC2 a0 a1 a2 r1) (oc2 (xDU (xBU h0) h1 h2 h3 h4) h5 on)) fun h5 h=>bE h fun r2 h6 h=>cE h (fun h7 h=>bE h fun r3 h8 h=>dE h fk25 (vC3 a0 a1 a2 r1 r2 r3) (oc5 (xDU (xBU h0) h1 h2 h3 h4) h5 (xA6 h6) h7 (xCz h8) on)) fun h7 h=>iE h fun h8 h=>tE fk25 (vC4 a0 a1 a2 r1 r2) (oc5 (xDU (xBU h0) h1 h2 h3 h4) h5 (xA6 h6) h7 h8 on) (vIl _ _ _ _ _ _ _ _ _ h)) fun h1 h=>cE h (fun h2 h=>dE h fk25 (vC5 a0 a1 a2 r1) (oc2 (xDV (xBU h0) h1) h2 on)) fun h2 h=>bE h fun r2 h3 h=>cE h (fun h4 h=>bE h fun r3 h5 h=>dE h fk25 (vC6 a0 a1 a2 r1 r2 r3) (oc5 (xDV (xBU h0) h1) h2 (xA6 h3) h4 (xCz h5) on)) fun h4 h=>iE h fun h5 h=>tE fk25 (vC7 a0 a1 a2 r1 r2) (oc5 (xDV (xBU h0) h1) h2 (xA6 h3) h4 h5 on) (vIl _ _ _ _ _ _ _ _ _ h)
theorem xAc{N:Nat}{a0:Val}{a1:Val}{a2:Val}{r:Val×Bool}(h:xEM N  a0 a1 a2=some r):AbC 25 (xC1 a0 a1 a2) (xCA r):=
 AbsCalls.of_reach fk25 rfl rfl rfl (jL rfl) (vJg a0 a1 a2 r h)
noncomputable def I121:Info:= { body:=(Tryz.f121.body).getD .skip,nt:=18,results:=[.tmp 4],keep:=[0,2,6,8,10,18,34,7],live:=[(2,[0,6,10,7])],modes:=[] }
theorem xVZ:FnOk Tryz.prog 121 Tryz.f121 I121:=by refine⟨Tryz.func121,?_,?_,?_,?_⟩<;>kernel_rfl
def xQk(x0:List Org)(x5:Int)(b3:Org):St:=[(0,.v false [.sl .ro .org x0]),(6,.v false [.ptr 3 0]),(10,.v false [.int .i64 x5]),(7,.v true [.int .i64 b3.cell,.int .i64 b3.row])]
def xY8(x0 x5 b3):rS 2 I121 (xQk x0 x5 b3) [Y,Y] []=dn (xFV true) [xHO x5 x0,xFb x5 x0,xWm x0 x5 b3]:=by kernel_rfl
def xY9(x0 x5 b3):rS 2 I121 (xQk x0 x5 b3) [Y,F] []=st 2 I121 (xQk x0 (W (x5+1)) b3) [xHO x5 x0,xFb x5 x0,xWn x0 x5 b3]:=by kernel_rfl
def xZa(x0 x5 b3):rS 2 I121 (xQk x0 x5 b3) [F] []=dn (xFV false) [xLj x5 x0]:=by kernel_rfl
def xZb(a0 a1):rE I121 (xJc a0 a1) [] []=st 2 I121 (xQk a0 0 a1) []:=by kernel_rfl
theorem vHJ{N:Nat}:∀n x0 x5 b3 r,xGM N n x0 x5 b3=some r→RS Tryz.f121 I121 2 (xQk x0 x5 b3) (xFV r):=by
 intro n
 induction n with
 |zero=>exact fun _ _ _ _ h=>nE h
 |succ n ih=>
  exact fun x0 x5 b3 r h=>cE h (fun h0 h=>iE h fun h1 h=>cE h (fun h2 h=>dS h xVZ (xY8 x0 x5 b3) (oc3 h0 h1 h2 on)) fun h2 h=>tS xVZ (xY9 x0 x5 b3) (oc3 h0 h1 h2 on) (ih _ _ _ _ h)) fun h0 h=>dS h xVZ (xZa x0 x5 b3) (oc h0 on)
theorem vHK{N:Nat}:∀a0 a1 r,xMu N a0 a1=some r→RE Tryz.f121 I121 (xJc a0 a1) (xFV r):=fun a0 a1 r h=>tE xVZ (xZb a0 a1) on (vHJ _ _ _ _ _ h)
theorem xNB{N:Nat}{a0:List Org}{a1:Org}{r:Bool}(h:xMu N  a0 a1=some r):AbC 121 (xJc a0 a1) (xFV r):=
 AbsCalls.of_reach xVZ rfl rfl rfl (jL rfl) (vHK a0 a1 r h)
noncomputable def I77:Info:= { body:=(Tryz.f77.body).getD .skip,nt:=19,results:=[.tmp 4],keep:=[0,2,8,10,18,36],live:=[(2,[0,2,10])],modes:=[] }
theorem fk77:FnOk Tryz.prog 77 Tryz.f77 I77:=by refine⟨Tryz.func77,?_,?_,?_,?_⟩<;>kernel_rfl
def xU9(x0 x1:List Org)(x5:Int):St:=[(0,.v false [.sl .ro .org x0]),(2,.v false [.sl .ro .org x1]),(10,.v false [.int .i64 x5])]
def vGk(x0 x1 x5 r1):rS 2 I77 (xU9 x0 x1 x5) [Y,Y] [xFV r1]=dn (xEe false) [xHO x5 x0,xFb x5 x0,AbC 121 (xJc x1 (xGN x0 x5)) (xFV r1),iY (!r1)]:=by kernel_rfl
def vGl(x0 x1 x5 r1):rS 2 I77 (xU9 x0 x1 x5) [Y,F] [xFV r1]=st 2 I77 (xU9 x0 x1 (W (x5+1))) [xHO x5 x0,xFb x5 x0,AbC 121 (xJc x1 (xGN x0 x5)) (xFV r1),xBT r1]:=by kernel_rfl
def vGm(x0 x1 x5):rS 2 I77 (xU9 x0 x1 x5) [F] []=dn (xEe true) [xLj x5 x0]:=by kernel_rfl
def vGn(a0 a1):rE I77 (xG6 a0 a1) [] []=st 2 I77 (xU9 a0 a1 0) []:=by kernel_rfl
theorem vJ1{N:Nat}:∀n x0 x1 x5 r,xEH N n x0 x1 x5=some r→RS Tryz.f77 I77 2 (xU9 x0 x1 x5) (xEe r):=by
 intro n
 induction n with
 |zero=>exact fun _ _ _ _ h=>nE h
 |succ n ih=>
  exact fun x0 x1 x5 r h=>cE h (fun h0 h=>iE h fun h1 h=>bE h fun r1 h2 h=>cE h (fun h3 h=>dS h fk77 (vGk x0 x1 x5 r1) (oc4 h0 h1 (xNB h2) h3 on)) fun h3 h=>tS fk77 (vGl x0 x1 x5 r1) (oc4 h0 h1 (xNB h2) h3 on) (ih _ _ _ _ h)) fun h0 h=>dS h fk77 (vGm x0 x1 x5) (oc h0 on)
theorem vJ2{N:Nat}:∀a0 a1 r,xJG N a0 a1=some r→RE Tryz.f77 I77 (xG6 a0 a1) (xEe r):=fun a0 a1 r h=>tE fk77 (vGn a0 a1) on (vJ1 _ _ _ _ _ h)
theorem xLs{N:Nat}{a0:List Org}{a1:List Org}{r:Bool}(h:xJG N  a0 a1=some r):AbC 77 (xG6 a0 a1) (xEe r):=
 AbsCalls.of_reach fk77 rfl rfl rfl (jL rfl) (vJ2 a0 a1 r h)
noncomputable def I26:Info:= { body:=(Tryz.f26.body).getD .skip,nt:=49,results:=[.cell 4 31],keep:=[0,2,4,8,10,12,28,52,72,5,9,11],live:=[(5,[2,4,8,10,12,5,9,11])],modes:=[(1,[(3,.take,false)]),(8,[(1,.take,false),(9,.take,false)]),(9,[(0,.take,false)])] }
theorem fk26:FnOk Tryz.prog 26 Tryz.f26 I26:=by refine⟨Tryz.func26,?_,?_,?_,?_⟩<;>kernel_rfl
def xTB(x1:List Org)(x6:Int)(b2 b4 b5:Val):St:=[(2,.v false [.sl .ro .org x1]),(4,.v false [.ptr 2 0]),(8,.v false [.ptr 4 0]),(10,.v false [.ptr 5 0]),(12,.v false [.int .i64 x6]),(5,.v true (Va .ro b2)),(9,.v true (Va .own b4)),(11,.v true (Va .own b5))]
def vC8(x1 x6 b2 b4 b5 r1 r2):rS 5 I26 (xTB x1 x6 b2 b4 b5) [Y,Y] [xEe r1,xHp r2]=st 5 I26 (xTB x1 (W (x6+1)) b2 b4 (Val.mk b5.kind b5.n b5.step b5.text b5.list b5.columns (b5.rows++ [r2]))) [xJ2 x6 b2,xFP x6 b2,AbC 77 (xG6 (xMa b2 x6) x1) (xEe r1),iY r1,xFP x6 b2,AbC 78 (xJa (xPc b2 x6)) (xHp r2),xPi b5 r2]:=by kernel_rfl
def vC9(x1 x6 b2 b4 b5 r1):rS 5 I26 (xTB x1 x6 b2 b4 b5) [Y,F] [xEe r1]=st 5 I26 (xTB x1 (W (x6+1)) b2 b4 b5) [xJ2 x6 b2,xFP x6 b2,AbC 77 (xG6 (xMa b2 x6) x1) (xEe r1),iN r1]:=by kernel_rfl
def vDa(x1 x6 b2 b4 b5):rS 5 I26 (xTB x1 x6 b2 b4 b5) [F] []=dn (xAl b5) [xMe x6 b2]:=by kernel_rfl
def vDb(a0 a1 r1):rE I26 (xD3 a0 a1) [Y,Y] [xDl r1]=dn (xAl r1) [xI3 a0,iY true,AbC 76 (xFr a0) (xDl r1)]:=by kernel_rfl
def vDc(a0 a1 r1 r2):rE I26 (xD3 a0 a1) [F,Y] [xAK r1,xDl r2]=dn (xAl r2) [xMf a0,AbC 75 (xAR a0) (xAK r1),iY (!r1),AbC 76 (xFr a0) (xDl r2)]:=by kernel_rfl
def vDd(a0 a1 r1):rE I26 (xD3 a0 a1) [F,F] [xAK r1]=st 5 I26 (xTB a1 0 a0 (Val.mk 0 0 0 [] [] [] []) (Val.mk 5 0 0 [] [] ([]++a0.columns) [])) [xMf a0,AbC 75 (xAR a0) (xAK r1),xBT r1,xJe a0]:=by kernel_rfl
theorem vJh{N:Nat}:∀n x1 x6 b2 b4 b5 r,xDj N n x1 x6 b2 b4 b5=some r→RS Tryz.f26 I26 5 (xTB x1 x6 b2 b4 b5) (xAl r):=by
 intro n
 induction n with
 |zero=>exact fun _ _ _ _ _ _ h=>nE h
 |succ n ih=>
  exact fun x1 x6 b2 b4 b5 r h=>cE h (fun h0 h=>iE h fun h1 h=>bE h fun r1 h2 h=>cE h (fun h3 h=>bE h fun r2 h5 h=>iE h fun h6 h=>tS fk26 (vC8 x1 x6 b2 b4 b5 r1 r2) (oc7 h0 h1 (xLs h2) h3 h1 (xNA h5) h6 on) (ih _ _ _ _ _ _ h)) fun h3 h=>tS fk26 (vC9 x1 x6 b2 b4 b5 r1) (oc4 h0 h1 (xLs h2) h3 on) (ih _ _ _ _ _ _ h)) fun h0 h=>dS h fk26 (vDa x1 x6 b2 b4 b5) (oc h0 on)
theorem vJi{N:Nat}:∀a0 a1 r,xAP N a0 a1=some r→RE Tryz.f26 I26 (xD3 a0 a1) (xAl r):=fun a0 a1 r h=>cE h (fun h0 h=>bE h fun r1 h2 h=>dE h fk26 (vDb a0 a1 r1) (oc3 h0 rfl (xLa h2) on)) fun h0 h=>bE h fun r1 h1 h=>cE h (fun h2 h=>bE h fun r2 h3 h=>dE h fk26 (vDc a0 a1 r1 r2) (oc4 h0 (xDR h1) h2 (xLa h3) on)) fun h2 h=>iE h fun h3 h=>tE fk26 (vDd a0 a1 r1) (oc4 h0 (xDR h1) h2 h3 on) (vJh _ _ _ _ _ _ _ h)
theorem xAs{N:Nat}{a0:Val}{a1:List Org}{r:Val}(h:xAP N  a0 a1=some r):AbC 26 (xD3 a0 a1) (xAl r):=
 AbsCalls.of_reach fk26 rfl rfl rfl (jL rfl) (vJi a0 a1 r h)
end Go.Ab.T
end
