/- The statement FnExactJoinOn holds: plain functions, certificates, laws. Conditions: none. -/
import Derived.Test.YtchkdijelkdpaaaGreatL2
import Derived.Test.YtchkdijelkdpaaaGreatFnExactJoinOnP0
set_option linter.all false
section
namespace Go.Ab
open Go.Sort
abbrev qUp(d:Array Org)(a:Nat):Org→Bool:=fun x=> !olt d[a]! x
abbrev qDn(d:Array Org)(a:Nat):Org→Bool:=fun x=>olt d[a]! x
theorem xWa(N:Nat)(k:Int→Int→Int→List Org→Option (Int × List Org)){a i:Nat}:∀(j n:Nat) (d:Array Org),a<i→i≤j+1→j<d.size→2≤d.size→d.size<1152921504606846976→j<n→
 xAW N k n (a:Int) (i:Int) (j:Int) d.toList =
  (if i>scanDown (qDn d a) d i j then some ((i:Int),d.toList)
   else k (a:Int) ((i+1:Nat):Int) ((scanDown (qDn d a) d i j - 1:Nat):Int) (swp d i (scanDown (qDn d a) d i j)).toList)
 |0,n,d,ha,hij,hj,h2,hs,hn=>by
  obtain⟨n,rfl⟩:∃m,n=m+1:=⟨n - 1,by omega⟩
  have e:(decide ((i:Int)≤((0:Nat):Int)))=false:=decide_eq_false (by omega)
  have e2:(decide ((i:Int)>((0:Nat):Int)))=true:=decide_eq_true (by omega)
  rw [xAW,e,cond_false,e2,cond_true,scanDown,if_pos (by omega)]
 |j+1,n,d,ha,hij,hj,h2,hs,hn=>by
  obtain⟨n,rfl⟩:∃m,n=m+1:=⟨n - 1,by omega⟩
  have wi:IntKind.i64.wrap ((i:Int)+1)=((i+1:Nat):Int):=wn _ (by omega) (by omega)
  have wj:IntKind.i64.wrap (((j+1:Nat):Int) - 1)=((j:Nat):Int):=wn _ (by omega) (by omega)
  rw [xAW,wi,wj]
  by_cases h:i≤j+1
  ·have e:(decide ((i:Int)≤((j+1:Nat):Int)))=true:=decide_eq_true (by omega)
   have e2:(decide ((i:Int)>((j+1:Nat):Int)))=false:=decide_eq_false (by omega)
   rw [e,cond_true,xFU N rfl rfl (by omega) hj,e2,cond_false]
   dsimp only
   cases hl:olt d[a]! d[j+1]! with
   |true =>
    rw [jT,xWa N k j n d ha (by omega) (by omega) h2 hs (by omega),xJX (p:=qDn d a) h (by simp [qDn,hl])]
   |false =>
    rw [jF,xEf N rfl rfl (by omega) hj h2,xGl (p:=qDn d a) (by simp [qDn,hl]),if_neg (by omega)]
    rfl
  ·have e:(decide ((i:Int)≤((j+1:Nat):Int)))=false:=decide_eq_false (by omega)
   have e2:(decide ((i:Int)>((j+1:Nat):Int)))=true:=decide_eq_true (by omega)
   rw [e,cond_false,e2,cond_true,xGl (p:=qDn d a) (by omega),if_pos (by omega)]
theorem vEo(N:Nat){a:Nat}:∀(m i j n:Nat) (d:Array Org),j+1 - i=m→a<i→i≤j+1→j<d.size→2≤d.size→d.size<1152921504606846976→m<n→d.size<N→
 xAV N n (a:Int) (i:Int) (j:Int) d.toList=some (((partEqLoop olt a i j d).1:Int),(partEqLoop olt a i j d).2.toList):=by
 intro m
 induction m using Nat.strongRecOn with
 |_ m ih =>
  intro i j n d hm ha hij hj h2 hs hn hN
  obtain⟨n,rfl⟩:∃m,n=m+1:=⟨n - 1,by omega⟩
  have wi:IntKind.i64.wrap ((i:Int)+1)=((i+1:Nat):Int):=wn _ (by omega) (by omega)
  rw [xAV,wi]
  have stop:∀(hc:¬(i≤j∧qUp d a d[i]! =true)),xAW N (fun z0 z1 z2 z3=>(xAV N n z0 z1 z2 z3)) N (a:Int) (i:Int) (j:Int) d.toList =
   some (((partEqLoop olt a i j d).1:Int),(partEqLoop olt a i j d).2.toList):=by
   intro hc
   rw [xWa N _ j N d ha hij hj h2 hs (by omega),partEqLoop_eq,xH5 (p:=qUp d a) hc]
   have hb:=xI0 (p:=qDn d a) (d:=d) (by omega:0<i) j hij
   split
   ·rfl
   ·rename_i hg
    have hne:i≠scanDown (qDn d a) d i j:=by
     intro e
     have h1:=xJs (p:=qDn d a) (d:=d) (by omega:0<i) j hij (by omega)
     rw [←e] at h1
     have h2:qUp d a d[i]! =true:=by simpa [qDn,qUp] using h1
     exact hc ⟨by omega,h2⟩
    exact ih (scanDown (qDn d a) d i j - 1+1 - (i+1)) (by omega) (i+1) (scanDown (qDn d a) d i j - 1) n _ rfl (by omega) (by omega) (by rw [xCx];omega) (by rw [xCx];exact h2) (by rw [xCx];exact hs) (by omega) (by rw [xCx];exact hN)
  by_cases h:i≤j
  ·have e:(decide ((i:Int)≤(j:Int)))=true:=decide_eq_true (by omega)
   rw [e,cond_true,xFU N rfl rfl (by omega) (by omega)]
   dsimp only
   cases hl:olt d[a]! d[i]! with
   |false =>
    rw [Bool.not_false,cond_true,ih (m - 1) (by omega) (i+1) j n d (by omega) (by omega) (by omega) hj h2 hs (by omega) hN]
    have:partEqLoop olt a i j d=partEqLoop olt a (i+1) j d:=by
     rw [partEqLoop_eq,partEqLoop_eq (i:=i+1),xLF (p:=qUp d a) h (by simp [qUp,hl])]
    rw [this]
   |true=>rw [Bool.not_true,cond_false];exact stop (by simp [qUp,hl])
  ·have e:(decide ((i:Int)≤(j:Int)))=false:=decide_eq_false (by omega)
   rw [e,cond_false];exact stop (by omega)
theorem xWb(N:Nat){a b pivot:Nat}{d:Array Org}(hp1:a≤pivot)(hp2:pivot<b)(hb:b≤d.size)(hab:a+1<b)(h2:2≤d.size)(hs:d.size<1152921504606846976)(hN:d.size<N) :
 xB0 N (a:Int) (b:Int) (pivot:Int) d.toList=some (((partitionEqual olt d a b pivot).1:Int),(partitionEqual olt d a b pivot).2.toList):=by
 have wa:IntKind.i64.wrap ((a:Int)+1)=((a+1:Nat):Int):=wn _ (by omega) (by omega)
 have wb:IntKind.i64.wrap ((b:Int) - 1)=((b - 1:Nat):Int):=wn _ (by omega) (by omega)
 have hs1:(swp d a pivot).size=d.size:=xCx
 unfold xB0 partitionEqual
 rw [xEf N rfl rfl (by omega) (by omega) h2,wa,wb]
 exact vEo N _ (a+1) (b - 1) N _ rfl (by omega) (by omega) (by omega) (by omega) (by omega) (by omega) (by omega)
theorem vFY(N:Nat)(k:Int→Int→Int→Int→List Org→Option (Bool × List Org)){a b i:Nat}{s:Nat}(hs5:s<100):∀(m j n:Nat) (d:Array Org),b - j=m→0<j→j<1152921504606846976→b≤d.size→2≤d.size→d.size<1152921504606846976→m<n→
 xA3 N k n (a:Int) (b:Int) (i:Int) (s:Int) (j:Int) d.toList=k (a:Int) (b:Int) (i:Int) ((s+1:Nat):Int) (shiftUp olt b j d).toList∧(shiftUp olt b j d).size=d.size:=by
 have ws:IntKind.i64.wrap ((s:Int)+1)=((s+1:Nat):Int):=wn _ (by omega) (by omega)
 intro m
 induction m with
 |zero =>
  intro j n d hm hj hjb hb h2 hs hn
  obtain⟨n,rfl⟩:∃m,n=m+1:=⟨n - 1,by omega⟩
  have e:(decide ((j:Int)<(b:Int)))=false:=decide_eq_false (by omega)
  rw [xA3,e,cond_false,shiftUp,if_neg (by omega),ws]
  exact⟨rfl,rfl⟩
 |succ m ih =>
  intro j n d hm hj hjb hb h2 hs hn
  obtain⟨n,rfl⟩:∃m,n=m+1:=⟨n - 1,by omega⟩
  have e:(decide ((j:Int)<(b:Int)))=true:=decide_eq_true (by omega)
  have w1:IntKind.i64.wrap ((j:Int) - 1)=((j - 1:Nat):Int):=wn _ (by omega) (by omega)
  have w2:IntKind.i64.wrap ((j:Int)+1)=((j+1:Nat):Int):=wn _ (by omega) (by omega)
  rw [xA3,e,cond_true,w1,w2,ws,xFU N rfl rfl (by omega) (by omega),shiftUp,if_pos (by omega)]
  dsimp only
  cases hl:olt d[j]! d[j - 1]! with
  |false=>exact⟨rfl,rfl⟩
  |true =>
   rw [Bool.not_true,cond_false,xEf N rfl rfl (by omega) (by omega) h2]
   have:=ih (j+1) n (swp d j (j - 1)) (by omega) (by omega) (by omega) (by rw [xCx];exact hb) (by rw [xCx];exact h2) (by rw [xCx];exact hs) (by omega)
   rw [xCx] at this
   exact this
def up18(b i:Nat)(d:Array Org):Array Org:=if b - i≥2 then shiftUp olt b (i+1) d else d
theorem xTR(N:Nat)(k:Int→Int→Int→Int→List Org→Option (Bool × List Org)){a b i:Nat}{s:Nat}(hs5:s<100)(d:Array Org)(hib:i≤b)(hb:b≤d.size)(h2:2≤d.size)(hs:d.size<1152921504606846976)(hN:d.size<N) :
 xAQ N k (a:Int) (b:Int) (i:Int) (s:Int) d.toList=k (a:Int) (b:Int) (i:Int) ((s+1:Nat):Int) (up18 b i d).toList∧(up18 b i d).size=d.size:=by
 have ws:IntKind.i64.wrap ((s:Int)+1)=((s+1:Nat):Int):=wn _ (by omega) (by omega)
 have w1:IntKind.i64.wrap ((b:Int) - (i:Int))=((b - i:Nat):Int):=wn _ (by omega) (by omega)
 have w2:IntKind.i64.wrap ((i:Int)+1)=((i+1:Nat):Int):=wn _ (by omega) (by omega)
 unfold xAQ up18
 rw [ws,w1,w2]
 by_cases h:b - i≥2
 ·have e:(decide (((b - i:Nat):Int)≥2))=true:=decide_eq_true (by omega)
  rw [e,cond_true,if_pos h]
  exact vFY N k hs5 _ (i+1) N d rfl (by omega) (by omega) hb h2 hs (by omega)
 ·have e:(decide (((b - i:Nat):Int)≥2))=false:=decide_eq_false (by omega)
  rw [e,cond_false,if_neg h]
  exact⟨rfl,rfl⟩
theorem vAm(N:Nat)(k:Int→Int→Int→Int→List Org→Option (Bool × List Org)){a b i:Nat}{s:Nat}:∀(j n:Nat) (d:Array Org),j<d.size→2≤d.size→d.size<1152921504606846976→j<n→
 xA2 N k n (a:Int) (b:Int) (i:Int) (s:Int) (j:Int) d.toList=xAQ N k (a:Int) (b:Int) (i:Int) (s:Int) (shiftDown olt j d).toList∧(shiftDown olt j d).size=d.size
 |0,n,d,hj,h2,hs,hn=>by
  obtain⟨n,rfl⟩:∃m,n=m+1:=⟨n - 1,by omega⟩
  have e:(decide (((0:Nat):Int)≥1))=false:=decide_eq_false (by omega)
  rw [xA2,e,cond_false]
  exact⟨rfl,rfl⟩
 |j+1,n,d,hj,h2,hs,hn=>by
  obtain⟨n,rfl⟩:∃m,n=m+1:=⟨n - 1,by omega⟩
  have e:(decide (((j+1:Nat):Int)≥1))=true:=decide_eq_true (by omega)
  have w1:IntKind.i64.wrap (((j+1:Nat):Int) - 1)=((j:Nat):Int):=wn _ (by omega) (by omega)
  rw [xA2,e,cond_true,w1,xFU N rfl rfl hj (by omega),shiftDown]
  dsimp only
  cases hl:olt d[j+1]! d[j]! with
  |false=>exact⟨rfl,rfl⟩
  |true =>
   rw [Bool.not_true,cond_false,xEf N rfl rfl hj (by omega) h2]
   have:=vAm N k (a:=a) (b:=b) (i:=i) (s:=s) j n (swp d (j+1) j) (by rw [xCx];omega) (by rw [xCx];exact h2) (by rw [xCx];exact hs) (by omega)
   rw [xCx] at this
   exact this
theorem xNL(d:Array Org)(b:Nat):∀(m i:Nat),b - i=m→i≤b→i≤scanSorted olt d b i∧scanSorted olt d b i≤b:=by
 intro m
 induction m with
 |zero=>intro i hm hi;rw [scanSorted,if_neg (by simp;omega)];omega
 |succ m ih =>
  intro i hm hi
  rw [scanSorted]
  split
  ·have:=ih (i+1) (by omega) (by omega);omega
  ·omega
theorem vHs(N:Nat)(k:Int→Int→Int→Int→List Org→Option (Bool × List Org)){a b:Nat}{s:Nat}:∀(m i n:Nat) (d:Array Org),b - i=m→0<i→i≤b→b≤d.size→2≤d.size→d.size<1152921504606846976→m<n→
 xA6 N k n (a:Int) (b:Int) (i:Int) (s:Int) d.toList=xA7 N k (a:Int) (b:Int) ((scanSorted olt d b i:Nat):Int) (s:Int) d.toList:=by
 intro m
 induction m with
 |zero =>
  intro i n d hm hi hib hb h2 hs hn
  obtain⟨n,rfl⟩:∃m,n=m+1:=⟨n - 1,by omega⟩
  have e:(decide ((i:Int)<(b:Int)))=false:=decide_eq_false (by omega)
  rw [xA6,e,cond_false,scanSorted,if_neg (by simp;omega)]
 |succ m ih =>
  intro i n d hm hi hib hb h2 hs hn
  obtain⟨n,rfl⟩:∃m,n=m+1:=⟨n - 1,by omega⟩
  have e:(decide ((i:Int)<(b:Int)))=true:=decide_eq_true (by omega)
  have w1:IntKind.i64.wrap ((i:Int) - 1)=((i - 1:Nat):Int):=wn _ (by omega) (by omega)
  have w2:IntKind.i64.wrap ((i:Int)+1)=((i+1:Nat):Int):=wn _ (by omega) (by omega)
  rw [xA6,e,cond_true,w1,w2,xFU N rfl rfl (by omega) (by omega),scanSorted]
  dsimp only
  cases hl:olt d[i]! d[i - 1]! with
  |false =>
   rw [Bool.not_false,cond_true,if_pos (by simp;omega)]
   exact ih (i+1) n d (by omega) (by omega) (by omega) hb h2 hs (by omega)
  |true=>rw [Bool.not_true,cond_false,if_neg (by simp)]
theorem vHq(N:Nat)(k:Int→Int→Int→Int→List Org→Option (Bool × List Org)){a b i:Nat}{s:Nat}(hs5:s<100)(d:Array Org)(hai:a<i)(hib:i≤b)(hb:b≤d.size)(h2:2≤d.size)(hs:d.size<1152921504606846976)(hN:d.size<N) :
 xA7 N k (a:Int) (b:Int) (i:Int) (s:Int) d.toList =
  (if i=b then some (true,d.toList) else if b - a<50 then some (false,d.toList) else
    k (a:Int) (b:Int) (i:Int) ((s+1:Nat):Int) (up18 b i (if i - a≥2 then shiftDown olt (i - 1) (swp d i (i - 1)) else swp d i (i - 1))).toList)∧
 (i≠b→(up18 b i (if i - a≥2 then shiftDown olt (i - 1) (swp d i (i - 1)) else swp d i (i - 1))).size=d.size):=by
 have w1:IntKind.i64.wrap ((b:Int) - (a:Int))=((b - a:Nat):Int):=wn _ (by omega) (by omega)
 have w2:IntKind.i64.wrap ((i:Int) - 1)=((i - 1:Nat):Int):=wn _ (by omega) (by omega)
 have w3:IntKind.i64.wrap ((i:Int) - (a:Int))=((i - a:Nat):Int):=wn _ (by omega) (by omega)
 unfold xA7
 rw [w1,w2,w3]
 by_cases h:i=b
 ·have e:(((i:Int))==(b:Int))=true:=by simp [h]
  rw [e,cond_true,if_pos h]
  exact⟨rfl,fun g=>absurd h g⟩
 ·have e:(((i:Int))==(b:Int))=false:=by simp;omega
  rw [e,cond_false,if_neg h]
  have hlt:i<b:=by omega
  have d1:=vAm N k (a:=a) (b:=b) (i:=i) (s:=s) (i - 1) N (swp d i (i - 1)) (by rw [xCx];omega) (by rw [xCx];exact h2) (by rw [xCx];exact hs) (by omega)
  rw [xCx] at d1
  by_cases h50:b - a<50
  ·have e2:(decide (((b - a:Nat):Int)<50))=true:=decide_eq_true (by omega)
   rw [e2,cond_true,if_pos h50]
   refine⟨rfl,fun _=> ?_⟩
   by_cases h3:i - a≥2
   ·rw [if_pos h3]
    rw [(xTR N k (a:=a) (i:=i) hs5 (shiftDown olt (i - 1) (swp d i (i - 1))) hib (by rw [d1.2];exact hb) (by rw [d1.2];exact h2) (by rw [d1.2];exact hs) (by rw [d1.2];exact hN)).2,d1.2]
   ·rw [if_neg h3]
    rw [(xTR N k (a:=a) (i:=i) hs5 (swp d i (i - 1)) hib (by rw [xCx];exact hb) (by rw [xCx];exact h2) (by rw [xCx];exact hs) (by rw [xCx];exact hN)).2,xCx]
  ·have e2:(decide (((b - a:Nat):Int)<50))=false:=decide_eq_false (by omega)
   rw [e2,cond_false,if_neg h50,xEf N rfl rfl (by omega) (by omega) h2]
   by_cases h3:i - a≥2
   ·have e3:(decide (((i - a:Nat):Int)≥2))=true:=decide_eq_true (by omega)
    have u:=xTR N k (a:=a) (i:=i) hs5 (shiftDown olt (i - 1) (swp d i (i - 1))) hib (by rw [d1.2];exact hb) (by rw [d1.2];exact h2) (by rw [d1.2];exact hs) (by rw [d1.2];exact hN)
    rw [e3,cond_true,if_pos h3,d1.1,u.1,u.2,d1.2]
    exact⟨rfl,fun _=>rfl⟩
   ·have e3:(decide (((i - a:Nat):Int)≥2))=false:=decide_eq_false (by omega)
    have u:=xTR N k (a:=a) (i:=i) hs5 (swp d i (i - 1)) hib (by rw [xCx];exact hb) (by rw [xCx];exact h2) (by rw [xCx];exact hs) (by rw [xCx];exact hN)
    rw [e3,cond_false,if_neg h3,u.1,u.2,xCx]
    exact⟨rfl,fun _=>rfl⟩
theorem vFW(N:Nat){a b:Nat}:∀(q s i n:Nat) (d:Array Org),s+q=5→a<i→i≤b→b≤d.size→2≤d.size→d.size<1152921504606846976→q<n→d.size<N→
 xAS N n (a:Int) (b:Int) (i:Int) (s:Int) d.toList=some ((partialIns olt a b q i d).2,(partialIns olt a b q i d).1.toList)
 |0,s,i,n,d,hq,hai,hib,hb,h2,hs,hn,hN=>by
  obtain⟨n,rfl⟩:∃m,n=m+1:=⟨n - 1,by omega⟩
  have e:(decide ((s:Int)<5))=false:=decide_eq_false (by omega)
  rw [xAS,e,cond_false]
  rfl
 |q+1,s,i,n,d,hq,hai,hib,hb,h2,hs,hn,hN=>by
  obtain⟨n,rfl⟩:∃m,n=m+1:=⟨n - 1,by omega⟩
  have e:(decide ((s:Int)<5))=true:=decide_eq_true (by omega)
  have hsc:=xNL d b _ i rfl hib
  rw [xAS,e,cond_true,vHs N _ _ i N d rfl (by omega) hib hb h2 hs (by omega),partialIns]
  generalize scanSorted olt d b i=i2 at hsc
  obtain⟨p1,p2⟩:=vHq N (fun z0 z1 z2 z3 z4=>(xAS N n z0 z1 z2 z3 z4)) (a:=a) (b:=b) (i:=i2) (s:=s) (by omega) d (by omega) (by omega) hb h2 hs hN
  rw [p1]
  dsimp only
  by_cases h:i2=b
  ·rw [if_pos h,if_pos h]
  ·rw [if_neg h,if_neg h]
   by_cases h50:b - a<50
   ·rw [if_pos h50,if_pos h50]
   ·rw [if_neg h50,if_neg h50]
    have hsz:=p2 h
    exact vFW N q (s+1) i2 n _ (by omega) (by omega) (by omega) (by rw [hsz];exact hb) (by rw [hsz];exact h2) (by rw [hsz];exact hs) (by omega) (by rw [hsz];exact hN)
theorem vEp(N:Nat){a b:Nat}{d:Array Org}(hab:a<b)(hb:b≤d.size)(h2:2≤d.size)(hs:d.size<1152921504606846976)(hN:d.size+10<N) :
 xBB N (a:Int) (b:Int) d.toList=some ((partialInsertionSort olt d a b).2,(partialInsertionSort olt d a b).1.toList):=by
 have wa:IntKind.i64.wrap ((a:Int)+1)=((a+1:Nat):Int):=wn _ (by omega) (by omega)
 unfold xBB partialInsertionSort
 rw [wa]
 exact vFW N 5 0 (a+1) N d rfl (by omega) (by omega) hb h2 hs (by omega) (by omega)
end Go.Ab
end
section
namespace Go.Ab
open Go.Sort
theorem xOw(N:Nat){x y:Int}{i j:Nat}(s:Int){d:Array Org}(hx:x=i)(hy:y=j)(hi:i<d.size)(hj:j<d.size) :
 ∃(i' j' :Nat) (s' :Int),xBW N x y s d.toList=some ((i' :Int),(j' :Int),s',d.toList)∧((i' =i∧j' =j)∨(i' =j∧j' =i)):=by
 subst hx hy
 unfold xBW
 rw [xFU N rfl rfl hj hi]
 dsimp only
 cases olt d[j]! d[i]! with
 |true=>exact⟨j,i,_,rfl, .inr ⟨rfl,rfl⟩⟩
 |false=>exact⟨i,j,_,rfl, .inl ⟨rfl,rfl⟩⟩
theorem xOg(N:Nat){x y z:Int}{i j k:Nat}(s:Int){d:Array Org}(hx:x=i)(hy:y=j)(hz:z=k)(hi:i<d.size)(hj:j<d.size)(hk:k<d.size) :
 ∃(m:Nat) (s' :Int),xBV N x y z s d.toList=some ((m:Int),s',d.toList)∧(m=i∨m=j∨m=k):=by
 unfold xBV
 obtain⟨i1,j1,s1,e1,h1⟩:=xOw N s hx hy hi hj
 rw [e1]
 obtain⟨i2,j2,s2,e2,h2⟩:=xOw N s1 (x:=(j1:Int)) (y:=z) rfl hz (by omega) hk
 simp only [jS]
 rw [e2]
 obtain⟨i3,j3,s3,e3,h3⟩:=xOw N s2 (x:=(i1:Int)) (y:=(i2:Int)) (d:=d) rfl rfl (by omega) (by omega)
 simp only [jS]
 rw [e3]
 exact⟨j3,s3,rfl,by omega⟩
theorem xOf(N:Nat){x:Int}{i:Nat}(s:Int){d:Array Org}(hx:x=i)(h0:0<i)(hi:i+1<d.size)(hs:d.size<1152921504606846976) :
 ∃(m:Nat) (s' :Int),xBh N x s d.toList=some ((m:Int),s',d.toList)∧(m=i - 1∨m=i∨m=i+1):=by
 subst hx
 unfold xBh
 have w1:IntKind.i64.wrap ((i:Int) - 1)=((i - 1:Nat):Int):=wn _ (by omega) (by omega)
 have w2:IntKind.i64.wrap ((i:Int)+1)=((i+1:Nat):Int):=wn _ (by omega) (by omega)
 rw [w1,w2]
 obtain⟨m,s1,e1,h1⟩:=xOg N s (x:=((i - 1:Nat):Int)) (y:=(i:Int)) (z:=((i+1:Nat):Int)) (d:=d) rfl rfl rfl (by omega) (by omega) hi
 rw [e1]
 exact⟨m,s1,rfl,h1⟩
theorem xUU(N:Nat){a b:Nat}{d:Array Org}(hab:a+12<b)(hb:b≤d.size)(hs:d.size<1152921504606846976) :
 ∃(p:Nat) (h:Int),xCc N (a:Int) (b:Int) d.toList=some ((p:Int),h,d.toList)∧(a≤p∧p<b):=by
 have w1:IntKind.i64.wrap ((b:Int) - (a:Int))=((b - a:Nat):Int):=wn _ (by omega) (by omega)
 have t:Int.tdiv ((b - a:Nat):Int) 4=(((b - a) / 4:Nat):Int):=rfl
 have w2:IntKind.i64.wrap (Int.tdiv ((b - a:Nat):Int) 4)=(((b - a) / 4:Nat):Int):=by rw [t];exact wn _ rfl (by omega)
 have q:∀c:Nat,c≤3→IntKind.i64.wrap ((a:Int)+IntKind.i64.wrap ((((b - a) / 4:Nat):Int)*(c:Int)))=((a+(b - a) / 4*c:Nat):Int):=by
  intro c hc
  have hle:(b - a) / 4*c≤(b - a) / 4*3:=Nat.mul_le_mul_left _ hc
  have e:IntKind.i64.wrap ((((b - a) / 4:Nat):Int)*(c:Int))=(((b - a) / 4*c:Nat):Int):=wn _ (by simp) (by omega)
  rw [e]
  exact wn _ (by simp) (by omega)
 have q1:=q 1 (by omega)
 have q2:=q 2 (by omega)
 have q3:=q 3 (by omega)
 have q1:IntKind.i64.wrap ((a:Int)+IntKind.i64.wrap ((((b - a) / 4:Nat):Int)*1))=_:=q1
 have q2:IntKind.i64.wrap ((a:Int)+IntKind.i64.wrap ((((b - a) / 4:Nat):Int)*2))=_:=q2
 have q3:IntKind.i64.wrap ((a:Int)+IntKind.i64.wrap ((((b - a) / 4:Nat):Int)*3))=_:=q3
 unfold xCc
 rw [w1,w2,q1,q2,q3]
 have e8:(decide (((b - a:Nat):Int)≥8))=true:=decide_eq_true (by omega)
 rw [e8,cond_true]
 have k1:3≤(b - a) / 4:=by omega
 have k2:(b - a) / 4*4≤b - a:=by omega
 clear q q1 q2 q3 w2 t
 generalize (b - a) / 4=q at k1 k2
 by_cases h50:b - a≥50
 ·have e50:(decide (((b - a:Nat):Int)≥50))=true:=decide_eq_true (by omega)
  rw [e50,cond_true]
  obtain⟨m1,s1,e1,h1⟩:=xOf N 0 (x:=((a+q*1:Nat):Int)) (d:=d) rfl (by omega) (by omega) hs
  rw [e1]
  simp only [jS]
  obtain⟨m2,s2,e2,h2⟩:=xOf N s1 (x:=((a+q*2:Nat):Int)) (d:=d) rfl (by omega) (by omega) hs
  rw [e2]
  simp only [jS]
  obtain⟨m3,s3,e3,h3⟩:=xOf N s2 (x:=((a+q*3:Nat):Int)) (d:=d) rfl (by omega) (by omega) hs
  rw [e3]
  simp only [jS]
  obtain⟨m4,s4,e4,h4⟩:=xOg N s3 (x:=(m1:Int)) (y:=(m2:Int)) (z:=(m3:Int)) (d:=d) rfl rfl rfl (by omega) (by omega) (by omega)
  rw [e4]
  simp only [jS]
  have hm:a≤m4∧m4<b:=by omega
  generalize (s4==(0:Int))=c1
  generalize (s4==(12:Int))=c2
  cases c1 <;>cases c2 <;>exact⟨m4,_,rfl,hm⟩
 ·have e50:(decide (((b - a:Nat):Int)≥50))=false:=decide_eq_false (by omega)
  rw [e50,cond_false]
  obtain⟨m4,s4,e4,h4⟩:=xOg N 0 (x:=((a+q*1:Nat):Int)) (y:=((a+q*2:Nat):Int)) (z:=((a+q*3:Nat):Int)) (d:=d) rfl rfl rfl (by omega) (by omega) (by omega)
  rw [e4]
  simp only [jS]
  have hm:a≤m4∧m4<b:=by omega
  generalize (s4==(0:Int))=c1
  generalize (s4==(12:Int))=c2
  cases c1 <;>cases c2 <;>exact⟨m4,_,rfl,hm⟩
theorem xMX{x:Int}(h1:0≤x)(h2:x<18446744073709551616):IntKind.u64.wrap x=x:=by
 have:IntKind.u64.wrap x=x % 18446744073709551616:=by
  unfold IntKind.wrap
  simp [IntKind.bits,IntKind.signed]
 rw [this]
 exact Int.emod_eq_of_lt h1 h2
theorem vAt{r y:Int}{m:Nat}(hy:y=m)(hm:m<9223372036854775808):∃o:Nat,andI .u64 r y=(o:Int)∧o≤m:=by
 subst hy
 unfold andI
 refine⟨(BitVec.ofInt 64 r &&& BitVec.ofInt 64 (m:Int)).toNat,?_,?_⟩
 ·show IntKind.u64.wrap (((BitVec.ofInt 64 r &&& BitVec.ofInt 64 (m:Int)).toNat:Nat):Int)=_
  refine xMX (by omega) ?_
  have:=(BitVec.ofInt 64 r &&& BitVec.ofInt 64 (m:Int)).isLt
  omega
 ·rw [BitVec.toNat_and]
  refine Nat.le_trans Nat.and_le_right ?_
  rw [BitVec.toNat_ofInt]
  omega
theorem brk6(N:Nat){a b M:Nat}(hl:12<b - a)(hM:M≤2*(b - a))(hM0:0<M):∀(m idx n:Nat) (st:Int) (d:Array Org),a+(b - a) / 4*2+2 - idx=m→a≤idx→b≤d.size→d.size<1152921504606846976→m<n→
 ∃d',xBa N n (a:Int) ((b - a:Nat):Int) (M:Int) (idx:Int) st d.toList=some d'.toList∧PermIn a b d d' :=by
 intro m
 induction m with
 |zero =>
  intro idx n st d hm hidx hb hs hn
  obtain⟨n,rfl⟩:∃m,n=m+1:=⟨n - 1,by omega⟩
  have t:Int.tdiv ((b - a:Nat):Int) 4=(((b - a) / 4:Nat):Int):=rfl
  have w2:IntKind.i64.wrap (Int.tdiv ((b - a:Nat):Int) 4)=(((b - a) / 4:Nat):Int):=by rw [t];exact wn _ rfl (by omega)
  have w3:IntKind.i64.wrap ((((b - a) / 4:Nat):Int)*2)=(((b - a) / 4*2:Nat):Int):=wn _ (by simp) (by omega)
  have w4:IntKind.i64.wrap ((a:Int)+(((b - a) / 4*2:Nat):Int))=((a+(b - a) / 4*2:Nat):Int):=wn _ (by simp) (by omega)
  have w5:IntKind.i64.wrap (((a+(b - a) / 4*2:Nat):Int)+1)=((a+(b - a) / 4*2+1:Nat):Int):=wn _ (by simp) (by omega)
  rw [xBa,w2,w3,w4,w5]
  have e:(decide ((idx:Int)≤((a+(b - a) / 4*2+1:Nat):Int)))=false:=decide_eq_false (by omega)
  rw [e,cond_false]
  exact⟨d,rfl,permIn_refl d a b⟩
 |succ m ih =>
  intro idx n st d hm hidx hb hs hn
  obtain⟨n,rfl⟩:∃m,n=m+1:=⟨n - 1,by omega⟩
  have t:Int.tdiv ((b - a:Nat):Int) 4=(((b - a) / 4:Nat):Int):=rfl
  have w2:IntKind.i64.wrap (Int.tdiv ((b - a:Nat):Int) 4)=(((b - a) / 4:Nat):Int):=by rw [t];exact wn _ rfl (by omega)
  have w3:IntKind.i64.wrap ((((b - a) / 4:Nat):Int)*2)=(((b - a) / 4*2:Nat):Int):=wn _ (by simp) (by omega)
  have w4:IntKind.i64.wrap ((a:Int)+(((b - a) / 4*2:Nat):Int))=((a+(b - a) / 4*2:Nat):Int):=wn _ (by simp) (by omega)
  have w5:IntKind.i64.wrap (((a+(b - a) / 4*2:Nat):Int)+1)=((a+(b - a) / 4*2+1:Nat):Int):=wn _ (by simp) (by omega)
  have w6:IntKind.u64.wrap ((M:Int) - 1)=((M - 1:Nat):Int):=by rw [xMX (by omega) (by omega)];omega
  have w7:IntKind.i64.wrap ((idx:Int)+1)=((idx+1:Nat):Int):=wn _ (by omega) (by omega)
  rw [xBa,w2,w3,w4,w5,w6,w7]
  have e:(decide ((idx:Int)≤((a+(b - a) / 4*2+1:Nat):Int)))=true:=decide_eq_true (by omega)
  rw [e,cond_true]
  cases hx:xFW N st with
  |none=>unfold xFW at hx;cases hx
  |some r =>
   rw [jS]
   obtain⟨o,ho1,ho2⟩:=vAt (r:=r.1) (y:=((M - 1:Nat):Int)) (m:=M - 1) rfl (by omega)
   have w8:IntKind.i64.wrap (andI .u64 r.1 ((M - 1:Nat):Int))=(o:Int):=by rw [ho1];exact wn o rfl (by omega)
   rw [w8]
   by_cases hc:o≥b - a
   ·have e2:(decide ((o:Int)≥((b - a:Nat):Int)))=true:=decide_eq_true (by omega)
    have w9:IntKind.i64.wrap ((o:Int) - ((b - a:Nat):Int))=((o - (b - a):Nat):Int):=wn _ (by omega) (by omega)
    have w10:IntKind.i64.wrap ((a:Int)+((o - (b - a):Nat):Int))=((a+(o - (b - a)):Nat):Int):=wn _ (by omega) (by omega)
    rw [e2,cond_true,w9,w10,xEf N rfl rfl (by omega) (by omega) (by omega)]
    obtain⟨d',h1,h2⟩:=ih (idx+1) n r.2 (swp d idx (a+(o - (b - a)))) (by omega) (by omega) (by rw [xCx];exact hb) (by rw [xCx];exact hs) (by omega)
    exact⟨d',h1,permIn_trans _ _ _ a b (swp_permIn d a b idx (a+(o - (b - a))) hidx (by omega) (by omega) (by omega) hb) h2⟩
   ·have e2:(decide ((o:Int)≥((b - a:Nat):Int)))=false:=decide_eq_false (by omega)
    have w10:IntKind.i64.wrap ((a:Int)+(o:Int))=((a+o:Nat):Int):=wn _ (by omega) (by omega)
    rw [e2,cond_false,w10,xEf N rfl rfl (by omega) (by omega) (by omega)]
    obtain⟨d',h1,h2⟩:=ih (idx+1) n r.2 (swp d idx (a+o)) (by omega) (by omega) (by rw [xCx];exact hb) (by rw [xCx];exact hs) (by omega)
    exact⟨d',h1,permIn_trans _ _ _ a b (swp_permIn d a b idx (a+o) hidx (by omega) (by omega) (by omega) hb) h2⟩
theorem xRh{x:Nat}(h0:0<x)(h:x<1152921504606846976):0<Lib.bitLen x∧Lib.bitLen x≤60∧2 ^ Lib.bitLen x≤2*x:=by
 obtain⟨h1,h2,h3⟩:=Lib.bitLenAux_bounds 64 x (by omega) (by omega)
 have h1:1≤Lib.bitLen x:=h1
 have h2:2 ^ (Lib.bitLen x - 1)≤x:=h2
 refine⟨by omega,Lib.bitLen_le x 60 (by omega) (by omega),?_⟩
 obtain⟨k,hk⟩:∃k,Lib.bitLen x=k+1:=⟨Lib.bitLen x - 1,by omega⟩
 rw [hk] at h2 ⊢
 rw [Nat.add_sub_cancel] at h2
 rw [Nat.pow_succ]
 omega
theorem xUE(N:Nat){l:Nat}(h0:0<l)(h:l<1152921504606846976):∃M:Nat,xFq N (l:Int)=some (M:Int)∧0<M∧M≤2*l:=by
 obtain⟨f1,f2,f3⟩:=xRh h0 h
 have w1:IntKind.u64.wrap (l:Int)=(l:Int):=xMX (by omega) (by omega)
 have w2:IntKind.u64.wrap ((Lib.bitLen l:Nat):Int)=((Lib.bitLen l:Nat):Int):=xMX (by omega) (by omega)
 have hp:(2:Nat) ^ Lib.bitLen l<18446744073709551616:=by omega
 unfold xFq xK9 zFJ
 rw [w1,if_pos (by omega),Option.bind_some,Int.toNat_natCast,w2,if_pos (by omega),Int.toNat_natCast]
 refine⟨2 ^ Lib.bitLen l,?_,Nat.pos_of_ne_zero (by simp),f3⟩
 have e:(1:Int)*2 ^ Lib.bitLen l=((2 ^ Lib.bitLen l:Nat):Int):=by simp
 rw [e]
 generalize (2:Nat) ^ Lib.bitLen l=P at hp
 rw [xMX (by omega) (by omega)]
theorem vEv(N:Nat){a b:Nat}{d:Array Org}(hab:a+12<b)(hb:b≤d.size)(hs:d.size<1152921504606846976)(hN:5<N) :
 ∃d',xB3 N (a:Int) (b:Int) d.toList=some d'.toList∧PermIn a b d d' :=by
 have w1:IntKind.i64.wrap ((b:Int) - (a:Int))=((b - a:Nat):Int):=wn _ (by omega) (by omega)
 have t:Int.tdiv ((b - a:Nat):Int) 4=(((b - a) / 4:Nat):Int):=rfl
 have w2:IntKind.i64.wrap (Int.tdiv ((b - a:Nat):Int) 4)=(((b - a) / 4:Nat):Int):=by rw [t];exact wn _ rfl (by omega)
 have w3:IntKind.i64.wrap ((((b - a) / 4:Nat):Int)*2)=(((b - a) / 4*2:Nat):Int):=wn _ (by simp) (by omega)
 have w4:IntKind.i64.wrap ((a:Int)+(((b - a) / 4*2:Nat):Int))=((a+(b - a) / 4*2:Nat):Int):=wn _ (by simp) (by omega)
 have w5:IntKind.i64.wrap (((a+(b - a) / 4*2:Nat):Int) - 1)=((a+(b - a) / 4*2 - 1:Nat):Int):=wn _ (by omega) (by omega)
 unfold xB3
 rw [w1,w2,w3,w4,w5]
 have e8:(decide (((b - a:Nat):Int)≥8))=true:=decide_eq_true (by omega)
 obtain⟨M,m1,m2,m3⟩:=xUE N (l:=b - a) (by omega) (by omega)
 rw [e8,cond_true,m1,Option.bind_some]
 exact brk6 N (by omega) m3 m2 _ _ N _ d rfl (by omega) hb hs (by omega)
def Sorts(a b:Nat)(d:Array Org)(o:Option (List Org)):Prop:=∃d',o=some d'.toList∧PermIn a b d d' ∧SortedIn olt a b d'
theorem Sorts.after{a b:Nat}{d d1:Array Org}{o:Option (List Org)}(h:PermIn a b d d1)(hs:Sorts a b d1 o):Sorts a b d o :=
 hs.elim fun d' ⟨h1,h2,h3⟩=>⟨d',h1,permIn_trans _ _ _ a b h h2,h3⟩
theorem vFV(N:Nat){q:Int→Int→Int→List Org→Option (List Org)}{k:Int→Int→Int→Bool→Bool→List Org→Option (List Org)}{a b p:Nat}(lim x10:Int){d:Array Org}
 (hp1:a≤p) (hp2:p<b) (hb:b≤d.size) (hab:a+12<b) (hs:d.size<1152921504606846976) (hN:d.size<N) (hB:Below olt a b d)
 (hq:∀(a' b' :Nat) (d' :Array Org),b' - a' <b - a→a' ≤b' →b' ≤d'.size→d'.size=d.size→Below olt a' b' d' →Sorts a' b' d' (q (a' :Int) (b' :Int) lim d'.toList))
 (hk:∀(a' b' :Nat) (wb wp:Bool) (d' :Array Org),b' - a' <b - a→a' ≤b' →b' ≤d'.size→d'.size=d.size→Below olt a' b' d' →Sorts a' b' d' (k (a' :Int) (b' :Int) lim wb wp d'.toList)) :
 Sorts a b d (xCf N q k (a:Int) (b:Int) lim x10 (p:Int) d.toList):=by
 unfold xCf
 rw [vEn N hp1 hp2 hb (by omega) (by omega) hs hN,Option.bind_some]
 obtain⟨mid,ap,d4,hx⟩:∃mid ap d4,partition olt d a b p=(mid,ap,d4):=⟨_,_,_,rfl⟩
 rw [hx]
 obtain⟨g1,g2,hs4,hBa,hBr,hleft,hright⟩:=round_part xKD (partition_holds olt) hp1 hp2 hb hB hx
 dsimp only
 have w1:IntKind.i64.wrap ((mid:Int) - (a:Int))=((mid - a:Nat):Int):=wn _ (by omega) (by omega)
 have w2:IntKind.i64.wrap ((b:Int) - (mid:Int))=((b - mid:Nat):Int):=wn _ (by omega) (by omega)
 have w3:IntKind.i64.wrap ((mid:Int)+1)=((mid+1:Nat):Int):=wn _ (by omega) (by omega)
 rw [w1,w2,w3]
 cases decide (((mid - a:Nat):Int)<((b - mid:Nat):Int)) with
 |true =>
  rw [jT]
  obtain⟨L,l1,l2,l3⟩:=hq a mid d4 (by omega) g1 (by omega) hs4 hBa
  rw [l1,Option.bind_some]
  obtain⟨hBL,hfin⟩:=hleft L l2 l3
  obtain⟨R,r1,r2,r3⟩:=hk (mid+1) b (decide (((mid - a:Nat):Int)≥IntKind.i64.wrap (Int.tdiv x10 8))) ap L (by omega) (by omega) (by rw [l2.1];omega) (by rw [l2.1];exact hs4) hBL
  exact⟨R,r1,hfin R r2 r3⟩
 |false =>
  rw [jF]
  obtain⟨L,l1,l2,l3⟩:=hq (mid+1) b d4 (by omega) (by omega) (by omega) hs4 hBr
  rw [l1,Option.bind_some]
  obtain⟨hBL,hfin⟩:=hright L l2 l3
  obtain⟨R,r1,r2,r3⟩:=hk a mid (decide (((b - mid:Nat):Int)≥IntKind.i64.wrap (Int.tdiv x10 8))) ap L (by omega) g1 (by rw [l2.1];omega) (by rw [l2.1];exact hs4) hBL
  exact⟨R,r1,hfin R r2 r3⟩
theorem vFU(N:Nat){q:Int→Int→Int→List Org→Option (List Org)}{k:Int→Int→Int→Bool→Bool→List Org→Option (List Org)}{a b p:Nat}(lim x10:Int)(wb wp:Bool){d:Array Org}
 (hp1:a≤p) (hp2:p<b) (hb:b≤d.size) (hab:a+12<b) (hs:d.size<1152921504606846976) (hN:d.size<N) (hB:Below olt a b d)
 (hq:∀(a' b' :Nat) (d' :Array Org),b' - a' <b - a→a' ≤b' →b' ≤d'.size→d'.size=d.size→Below olt a' b' d' →Sorts a' b' d' (q (a' :Int) (b' :Int) lim d'.toList))
 (hk:∀(a' b' :Nat) (wb wp:Bool) (d' :Array Org),b' - a' <b - a→a' ≤b' →b' ≤d'.size→d'.size=d.size→Below olt a' b' d' →Sorts a' b' d' (k (a' :Int) (b' :Int) lim wb wp d'.toList)) :
 Sorts a b d (xBu N q k (a:Int) (b:Int) lim wb wp x10 (p:Int) d.toList):=by
 unfold xBu
 by_cases ha:0<a
 ·have e:(decide ((a:Int)>0))=true:=decide_eq_true (by omega)
  have w1:IntKind.i64.wrap ((a:Int) - 1)=((a - 1:Nat):Int):=wn _ (by omega) (by omega)
  rw [e,cond_true,w1,xFU N rfl rfl (by omega) (by omega)]
  dsimp only
  cases hl:olt d[a - 1]! d[p]! with
  |true=>rw [Bool.not_true,cond_false];exact vFV N lim x10 hp1 hp2 hb hab hs hN hB hq hk
  |false =>
   rw [Bool.not_false,cond_true,xWb N hp1 hp2 hb (by omega) (by omega) hs hN,Option.bind_some]
   obtain⟨mid,d4,hx⟩:∃mid d4,partitionEqual olt d a b p=(mid,d4):=⟨_,_,rfl⟩
   rw [hx]
   obtain⟨g1,g2,hs4,hB4,hfin⟩:=round_eq xKD (partitionEqual_holds olt) ha hp1 hp2 hb hB hl hx
   obtain⟨R,r1,r2,r3⟩:=hk mid b wb wp d4 (by omega) g2 (by omega) hs4 hB4
   exact⟨R,r1,hfin R r2 r3⟩
 ·have e:(decide ((a:Int)>0))=false:=decide_eq_false (by omega)
  rw [e,cond_false];exact vFV N lim x10 hp1 hp2 hb hab hs hN hB hq hk
theorem vFT(N:Nat){q:Int→Int→Int→List Org→Option (List Org)}{k:Int→Int→Int→Bool→Bool→List Org→Option (List Org)}{a b p:Nat}(lim x10 x12:Int)(wb wp:Bool){d:Array Org}
 (hp1:a≤p) (hp2:p<b) (hb:b≤d.size) (hab:a+12<b) (hs:d.size<1152921504606846976) (hN:d.size+10<N) (hB:Below olt a b d)
 (hq:∀(a' b' :Nat) (d' :Array Org),b' - a' <b - a→a' ≤b' →b' ≤d'.size→d'.size=d.size→Below olt a' b' d' →Sorts a' b' d' (q (a' :Int) (b' :Int) lim d'.toList))
 (hk:∀(a' b' :Nat) (wb wp:Bool) (d' :Array Org),b' - a' <b - a→a' ≤b' →b' ≤d'.size→d'.size=d.size→Below olt a' b' d' →Sorts a' b' d' (k (a' :Int) (b' :Int) lim wb wp d'.toList)) :
 Sorts a b d (xCe N q k (a:Int) (b:Int) lim wb wp x10 (p:Int) x12 d.toList):=by
 have go:=vFU N lim x10 wb wp hp1 hp2 hb hab hs (by omega) hB hq hk
 unfold xCe
 cases wb with
 |false=>exact go
 |true =>
  cases wp with
  |false=>exact go
  |true =>
   simp only [jT]
   cases (x12:Int)==1 with
   |false=>exact go
   |true =>
    rw [jT,vEp N (by omega) hb (by omega) hs hN,Option.bind_some]
    obtain⟨i1,i2⟩:=partialInsertionSort_holds xKD d a b (by omega) hb hB
    dsimp only
    cases hc:(partialInsertionSort olt d a b).2 with
    |true=>exact⟨_,rfl,i1,i2 hc⟩
    |false =>
     rw [jF]
     refine Sorts.after i1 ?_
     exact vFU N lim x10 true true hp1 hp2 (by rw [i1.1];exact hb) hab (by rw [i1.1];exact hs) (by rw [i1.1];omega) (hB.perm hb i1) (fun a' b' d' g1 g2 g3 g4=>hq a' b' d' g1 g2 g3 (g4.trans i1.1)) (fun a' b' wb wp d' g1 g2 g3 g4=>hk a' b' wb wp d' g1 g2 g3 (g4.trans i1.1))
theorem vFS(N:Nat){q:Int→Int→Int→List Org→Option (List Org)}{k:Int→Int→Int→Bool→Bool→List Org→Option (List Org)}{a b:Nat}(lim x10:Int)(wb wp:Bool){d:Array Org}
 (hb:b≤d.size) (hab:a+12<b) (hs:d.size<1152921504606846976) (hN:d.size+10<N) (hB:Below olt a b d)
 (hq:∀(a' b' :Nat) (d' :Array Org),b' - a' <b - a→a' ≤b' →b' ≤d'.size→d'.size=d.size→Below olt a' b' d' →Sorts a' b' d' (q (a' :Int) (b' :Int) lim d'.toList))
 (hk:∀(a' b' :Nat) (wb wp:Bool) (d' :Array Org),b' - a' <b - a→a' ≤b' →b' ≤d'.size→d'.size=d.size→Below olt a' b' d' →Sorts a' b' d' (k (a' :Int) (b' :Int) lim wb wp d'.toList)) :
 Sorts a b d (xCd N q k (a:Int) (b:Int) lim wb wp x10 d.toList):=by
 unfold xCd
 obtain⟨p,h,e,hp1,hp2⟩:=xUU N hab hb hs
 rw [e,Option.bind_some]
 dsimp only
 cases h==(2:Int) with
 |false=>rw [jF];exact vFT N lim x10 h wb wp hp1 hp2 hb hab hs hN hB hq hk
 |true =>
  have i1:=reverseRange_holds d a b (by omega) hb
  have w1:IntKind.i64.wrap ((b:Int) - 1)=((b - 1:Nat):Int):=wn _ (by omega) (by omega)
  have w2:IntKind.i64.wrap ((p:Int) - (a:Int))=((p - a:Nat):Int):=wn _ (by omega) (by omega)
  have w3:IntKind.i64.wrap (((b - 1:Nat):Int) - ((p - a:Nat):Int))=((b - 1 - (p - a):Nat):Int):=wn _ (by omega) (by omega)
  rw [jT,vFX N (by omega) hb (by omega) hs (by omega),Option.bind_some,w1,w2,w3]
  refine Sorts.after i1 ?_
  exact vFT N lim x10 1 wb wp (by omega) (by omega) (by rw [i1.1];exact hb) hab (by rw [i1.1];exact hs) (by rw [i1.1];omega) (hB.perm hb i1) (fun a' b' d' g1 g2 g3 g4=>hq a' b' d' g1 g2 g3 (g4.trans i1.1)) (fun a' b' wb wp d' g1 g2 g3 g4=>hk a' b' wb wp d' g1 g2 g3 (g4.trans i1.1))
theorem pdq3(N:Nat):∀(m a b n dep:Nat) (lim:Int) (wb wp:Bool) (d:Array Org),b - a=m→a≤b→b≤d.size→2≤d.size→d.size<1152921504606846976→m<n→m≤dep→d.size+10<N→Below olt a b d→
 Sorts a b d (xBA N (xBv N dep) n (a:Int) (b:Int) lim wb wp d.toList):=by
 intro m
 induction m using Nat.strongRecOn with
 |_ m ih =>
  intro a b n dep lim wb wp d hm hab hb h2 hs hn hdep hN hB
  obtain⟨n,rfl⟩:∃m,n=m+1:=⟨n - 1,by omega⟩
  have w1:IntKind.i64.wrap ((b:Int) - (a:Int))=((b - a:Nat):Int):=wn _ (by omega) (by omega)
  rw [xBA,w1]
  by_cases h12:b - a≤12
  ·have e:(decide (((b - a:Nat):Int)≤12))=true:=decide_eq_true (by omega)
   rw [e,cond_true,vFt N hab hb h2 hs (by omega),Option.bind_some]
   exact⟨_,rfl,insertionSort_holds xKD d a b hab hb⟩
  ·have e:(decide (((b - a:Nat):Int)≤12))=false:=decide_eq_false (by omega)
   rw [e,cond_false]
   cases (lim==(0:Int)) with
   |true =>
    rw [jT,vAF N (by omega) hb h2 hs (by omega),Option.bind_some]
    exact⟨_,rfl,heapSort_holds xKD d a b hab hb⟩
   |false =>
    rw [jF]
    have hq:∀(lim:Int) (a' b' :Nat) (d' :Array Org),b' - a' <b - a→a' ≤b' →b' ≤d'.size→d'.size=d.size→Below olt a' b' d' →Sorts a' b' d' (xBv N dep (a' :Int) (b' :Int) lim d'.toList):=by
     intro lim a' b' d' g1 g2 g3 g4 g5
     obtain⟨dep,rfl⟩:∃m,dep=m+1:=⟨dep - 1,by omega⟩
     rw [xBv]
     exact ih (b' - a') (by omega) a' b' N dep lim true true d' rfl g2 g3 (by omega) (by omega) (by omega) (by omega) (by omega) g5
    have hk:∀(lim:Int) (a' b' :Nat) (wb wp:Bool) (d' :Array Org),b' - a' <b - a→a' ≤b' →b' ≤d'.size→d'.size=d.size→Below olt a' b' d' →Sorts a' b' d' (xBA N (xBv N dep) n (a' :Int) (b' :Int) lim wb wp d'.toList) :=
     fun lim a' b' wb wp d' g1 g2 g3 g4 g5=>ih (b' - a') (by omega) a' b' n dep lim wb wp d' rfl g2 g3 (by omega) (by omega) (by omega) (by omega) (by omega) g5
    cases wb with
    |true=>exact vFS N lim _ true wp hb (by omega) hs hN hB (hq lim) (hk lim)
    |false =>
     obtain⟨d1,e1,i1⟩:=vEv N (a:=a) (b:=b) (d:=d) (by omega) hb hs (by omega)
     rw [Bool.not_false,cond_true,e1,Option.bind_some]
     refine Sorts.after i1 ?_
     exact vFS N _ _ false wp (by rw [i1.1];exact hb) (by omega) (by rw [i1.1];exact hs) (by rw [i1.1];exact hN) (hB.perm hb i1)
      (fun a' b' d' g1 g2 g3 g4=>hq _ a' b' d' g1 g2 g3 (g4.trans i1.1)) (fun a' b' wb wp d' g1 g2 g3 g4=>hk _ a' b' wb wp d' g1 g2 g3 (g4.trans i1.1))
theorem xWc{xs:List Org}(h2:2≤xs.length)(hs:xs.length<1152921504606846976)(lim:Int) :
 xD2 (xs.length+11) 0 (xs.length:Int) lim xs=some (xs.mergeSort fun x y=> !olt y x):=by
 have h:=pdq3 (xs.length+11) xs.length 0 xs.length (xs.length+11) (xs.length+10) lim true true xs.toArray rfl (Nat.zero_le _) (by simp) (by simpa using h2) (by simpa using hs) (by omega) (by omega) (by simp) (.inl rfl)
 obtain⟨d',e,h1,h3⟩:=h
 have hu:=sorted_unique_holds (lt:=olt) xKD xQf xs.toArray d' (by simpa using h1) (by simpa using h3)
 rw [show xD2 (xs.length+11) 0 (xs.length:Int) lim xs=_ from e,hu]
end Go.Ab
end
section
namespace Go.Ab
open Go.Proofs Go.RowKit Go.Shelf
theorem orgT:OrgT Tryz.prog 80 3 78 4 43:=⟨Tryz.underlying80,by kernel_rfl,Tryz.underlying3,Tryz.underlying78,Tryz.zeroValue4,Tryz.underlying43⟩
theorem vHl:(Tryz.prog.info? 80).map (fun i=>(i.zero,i.size,i.bytes))=some (some (.agg #[.int .i64 0, .int .i64 0]),2,16):=by kernel_rfl
set_option maxRecDepth 100000 in
set_option maxHeartbeats 4000000 in
theorem xUG [Inhabited Lb](srt:List Org→List Org)(hsl:∀l,(srt l).length=l.length)(xs ys:List Org)(u v:Value)(w:World)(hu:RowIn w u xs)(hv:RowIn w v ys)(hlen:xs.length+ys.length≤1000000000000)
 (hsort:∀(W:World) (g cap:Nat) (zs:List Org),zs.length≤1000000000000→Below w.heap.size w W→w.heap.size≤g→w.heap.size+1+1≠g→W.heap[w.heap.size+1+1]? =some (.cells #[.slice (some ⟨g,0,none⟩) zs.length cap] 43 (0,0))→OrgRow W g cap zs→
   Calls Tryz.prog 63 #[.iface 43 (.slice (some ⟨g,0,none⟩) zs.length cap), .func (.func 64) #[] #[.pointer (some ⟨w.heap.size+1+1,0,none⟩)]] W fun en W' =>en= .returned (.tuple #[])∧Sorted W (w.heap.size+1+1) g cap zs (srt zs) W') :
 Calls Tryz.prog 20 #[u,v] w fun e w' =>∃br cap,e= .returned (.slice (some ⟨br,0,none⟩) (srt (ded (xs++ys))).length cap)∧Below w.heap.size w w' ∧w.heap.size≤br∧OrgRow w' br cap (srt (ded (xs++ys))):=by
 obtain⟨i0,hi,hz0,hz1,hz2⟩:=info_parts vHl
 have hmm:= @run_makeMap Tryz.prog
 go_enter Tryz.func20,Tryz.ntmps20
 go_wp2_with (first
  |(at_builtin;refine xJj _ orgT rfl _ _ rfl i0 hi hz0 hz1 hz2 rfl (w.heap.size+1+1+1) 0 [] rfl (set4 w _ _ _ 80) u rfl xs (hu.below (xUS w _ _ _ _)) (by simp;omega) ?_;intro g1 c1 w1 r1 gr1 e1)
  |(at_builtin;refine xJj _ orgT rfl _ _ rfl i0 hi hz0 hz1 hz2 rfl g1 c1 ([]++xs) rfl r1 v rfl ys (hv.below (Below.grown (xUS w _ _ _ _) gr1 (by simp;omega) (fun k hk=>by cases hk;omega))) (by simpa using hlen) ?_;intro g2 c2 w2 r2 gr2 e2))
 have hst:=URel.start r2 gr1 e1 gr2 e2
 have hl2:(xs++ys).length=xs.length+ys.length:=List.length_append
 clear r1 gr1 e1 r2 gr2 e2 hu hv
 go_loopw [17] (fun i wr=>∃k g cap:Nat,k≤xs.length+ys.length∧i= .int .i64 k∧URel w 80 43 w.heap.size w2.heap.size g2 c2 (xs++ys) k g cap wr) (fun i _=>xs.length+ys.length - (intOf i).toNat)
 case atStart=>exact⟨0,_,_,Nat.zero_le _,rfl,hst⟩
 case round =>
  obtain⟨k,g,cap,hk,rfl,hr⟩:=hrel
  clear hst
  by_cases hlt:k<xs.length+ys.length
  ·obtain⟨c,hc⟩:∃c,(xs++ys)[k]'(by omega)=c:=⟨_,rfl⟩
   have hc0:wr.cell? ⟨g2,k*2,none⟩=some (.int .i64 c.cell):=by
    have:=hr.all.cell (xOx (xs++ys) k (by omega) 0 (by decide))
    rw [hc] at this
    exact this
   have hc1:wr.cell? ⟨g2,k*2+1,none⟩=some (.int .i64 c.row):=by
    have:=hr.all.cell (xOx (xs++ys) k (by omega) 1 (by decide))
    rw [hc] at this
    exact this
   have hcb:=hr.cell
   have hgl:=hr.row.lt
   have hsz:=hr.size
   have hga:=hr.hga
   have hgg:=hr.hg
   cases hct:(ded ((xs++ys).take k)).contains c with
   |true =>
    go_wp2_with (at_lookup;refine xKX _ orgT rfl _ _ rfl w.heap.size (ded ((xs++ys).take k)) rfl (hr.set.kept (xJz (by omega))) c rfl true hct ?_)
    go_roundw
    case rel=>exact⟨k+1,g,cap,by omega,by go_num,hr.old (by omega) (by rw [hc];exact hct) _⟩
    case measure=>simp [intOf];omega
   |false =>
    go_wp2_with (first
     |(at_lookup;refine xKX _ orgT rfl _ _ rfl w.heap.size (ded ((xs++ys).take k)) rfl (hr.set.kept (xJz (by omega))) c rfl false hct ?_)
     |(at_mapUpdate;refine xNn _ orgT rfl _ _ _ rfl w.heap.size (ded ((xs++ys).take k)) rfl (hr.set.kept (xJz (by omega))) c rfl rfl hct ?_;intro w3 hs3 hg3 hz3;obtain⟨m1,m2,m3,m4⟩:=hr.mid hg3 hz3)
     |(at_builtin;refine xJj _ orgT rfl _ _ rfl i0 hi hz0 hz1 hz2 rfl g cap (ded ((xs++ys).take k)) rfl (m4 _) (.slice (some ⟨wr.heap.size+1,0,none⟩) 1 1) rfl [c] (by have h:=xWd w3 80 c;rw [hz3,xIa] at h;exact h) (by have:=vAg ((xs++ys).take k);simp at this ⊢;omega) ?_;intro g' cap' w4 r4 g4 e4;obtain⟨n1,n2⟩:=hr.mid4 hg3 hz3 g4))
    go_roundw
    case rel=>exact⟨k+1,g',cap',by omega,by go_num,by
     have:=hr.new (by omega) (by rw [hc];exact hct) (by rw [hc];exact hs3) hg3 hz3 (by rw [hc];exact r4) g4 e4
     rw [hc] at this
     simpa using this⟩
    case measure=>simp [intOf];omega
  ·have hk2:k=(xs++ys).length:=by omega
   have ht:(xs++ys).take k=xs++ys:=by rw [hk2];exact List.take_length
   have hcb:=hr.cell
   have hsz:=hr.size
   have hga:=hr.hga
   have hgg:=hr.hg
   have hs:=hsort wr g cap (ded (xs++ys)) (by have:=vAg (xs++ys);omega) hr.below (by omega) (by omega) (by have:=hr.box;rw [ht] at this;exact this) (by have:=hr.row.org;rw [ht] at this;exact this)
   have hgr:=hr.below
   rw [ht] at hcb
   clear hr hsort
   go_wp2_with (go_at_call 63;refine hs.mono ?_;rintro e W' ⟨rfl,hS⟩;obtain⟨ty',hbx⟩:=hS.box;have hcb2:W'.cell? ⟨w.heap.size+1+1,0,none⟩=some (.slice (some ⟨g,0,none⟩) (ded (xs++ys)).length cap):=by(simp only [World.cell?,hbx];rfl))
   go_ret
   exact⟨g,cap,by rw [hsl];rfl,hgr.trans ⟨hS.os,hS.tape,hS.output,hS.size,fun k hk=>hS.old k (by have:=hgr.size;omega) (by omega) (by omega)⟩,by omega,hS.row⟩
theorem vHm:∀w,(Extern.Rtype.kind 80).run Tryz.prog w= .ok 25 w:=by intro w;kernel_rfl
theorem vHj:(Tryz.prog.info? 43).map (fun i=>i.desc)=some (.slice 80):=by kernel_rfl
theorem vHr:(Tryz.prog.info? 80).map (fun i=>(i.hasPointers,i.bytes))=some (false,16):=by kernel_rfl
theorem vHo:Tryz.prog.packed 43=false:=by kernel_rfl
theorem sw1:Tryz.prog.funcs.findIdx? (·.name== "internal/reflectlite" ++ ".Swapper$1")=some 133:=by kernel_rfl
theorem sw2:Tryz.prog.funcs.findIdx? (·.name== "internal/reflectlite" ++ ".Swapper$2")=some 134:=by kernel_rfl
theorem sw9:Tryz.prog.funcs.findIdx? (·.name== "internal/reflectlite" ++ ".Swapper$9")=some 141:=by kernel_rfl
theorem vAE:typeHandle Tryz.prog 80= .pointer (some ⟨0,80,none⟩):=by kernel_rfl
theorem vAd [Inhabited Lb]{a0 a1 r:List Org}(h:zJr a0 a1=some r):AbsCalls Tryz.prog 20 (xHt a0 a1) (xF6 r):=by
 obtain⟨i,hi,hd⟩:=Option.map_eq_some_iff.1 vHj
 obtain⟨ie,hie,he⟩:=Option.map_eq_some_iff.1 vHr
 simp only [Prod.mk.injEq] at he
 refine xU3 (enters_of Tryz.func20 (by kernel_rfl) rfl) (fun xs ys u v w hu hv hlen hb=>xUG (fun l=>l.mergeSort fun x y=> !olt y x) (fun l=>by simp) xs ys u v w hu hv hlen fun W g cap zs hz hB hg hne hbo hrow=> ?_) h
 refine vEr Tryz.laysGg6 43 80 i ie hi hd vHo hie 25 vHm he.1 he.2 133 134 141 64 sw1 sw2 sw9 (fun l h2 hl=> ?_) hz hbo hrow hne (fun x hx=> ?_)
 ·rw [vAE]
  exact T.sort_pdqsort_func_cUnionOrigins_1_ok (xWc h2 (by omega) (Lib.bitLen l.length))
 ·obtain⟨b1,b2⟩:=hb x hx
  exact⟨Nat.lt_of_lt_of_le b1 hB.size,by omega,by omega,(hB.block _ b1).trans b2⟩
end Go.Ab
end
section
open Go.Proofs
namespace Go.Ab.T
set_option maxRecDepth 100000
variable [Inhabited Lb]
noncomputable def xLJ:Info:= { body:=(Tryz.f50.body).getD .skip,nt:=63,results:= [.tmp 4],keep:= [0,2,8,10,18],live:= [(2, [0,2,10])],modes:= [] }
theorem xN3:FnOk Tryz.prog 50 Tryz.f50 xLJ:=⟨Tryz.func50,by kernel_rfl,by kernel_rfl,by kernel_rfl,by kernel_rfl⟩
def xMY(x1 x5:Int):St:= [(0, .v false [.sl .ro .val []]),(2, .v false [.int .i64 x1]),(10, .v false [.int .i64 x5])]
def xRz(x1 x5:Int):rS 2 xLJ (xMY x1 x5) [F] []=dn (xD4 x1) [iN (dc (x5<(0:Int)))]:=by kernel_rfl
def xRA(a0:List Val)(a1:Int):rE xLJ (xF9 a0 a1) [] []=st 2 xLJ (xMY a1 0) []:=by kernel_rfl
theorem xT9{N:Nat}:∀n x1 x5 r,xHv N n x1 x5=some r→RS Tryz.f50 xLJ 2 (xMY x1 x5) (xD4 r):=by
 intro n
 induction n with
 |zero=>exact fun _ _ _ h=>nE h
 |succ n ih =>
  exact fun x1 x5 r h =>
   cE h (fun h0 h=>iE h fun h1 h=>nE h) fun h0 h =>
   dS h xN3 (xRz x1 x5) (oc h0 on)
theorem xUa{N:Nat}:∀a0 a1 r,xHj N a0 a1=some r→RE Tryz.f50 xLJ (xF9 a0 a1) (xD4 r):=fun a0 a1 r h =>
 tE xN3 (xRA a0 a1) on (xT9 _ _ _ _ h)
theorem xLV{N:Nat}{a0:List Val}{a1:Int}{r:Int}(h:xHj N  a0 a1=some r):AbC 50 (xF9 a0 a1) (xD4 r) :=
 AbsCalls.of_reach xN3 rfl rfl rfl (Nat.le_of_ble_eq_true rfl) (xUa a0 a1 r h)
noncomputable def I33:Info:= { body:=(Tryz.f33.body).getD .skip,nt:=28,results:= [.tmp 4],keep:= [0,2,8,10,22,30,52],live:= [(5, [0,2,10])],modes:= [] }
theorem fk33:FnOk Tryz.prog 33 Tryz.f33 I33:=⟨Tryz.func33,by kernel_rfl,by kernel_rfl,by kernel_rfl,by kernel_rfl⟩
def xTV(x0:List Str)(x1 x5:Int):St:= [(0, .v false [.sl .ro .str x0]),(2, .v false [.int .i64 x1]),(10, .v false [.int .i64 x5])]
abbrev xJk(v0:Int)(v1:List Str):Prop:=iY (dc (v0<(Ln v1:Int)))
abbrev xGf(v0:Int)(v1:List Str):Prop:=(0:Int)≤v0∧v0<(Ln v1)
abbrev xHZ(v0:List Str)(v1:Int):=gD v0 (tN v1) Ty.str.dflt
def vBd(x0:List Str)(x1 x5:Int):rS 5 I33 (xTV x0 x1 x5) [Y,Y] []=dn (xCA (-1)) [xJk x5 x0,xGf x5 x0,iY (dc (((W (x1 - (Ln (xHZ x0 x5):Int))):Int)<0))]:=by kernel_rfl
def vBe(x0:List Str)(x1 x5:Int):rS 5 I33 (xTV x0 x1 x5) [Y,F] []=st 5 I33 (xTV x0 (W (x1 - (Ln (xHZ x0 x5):Int))) (W (x5+1))) [xJk x5 x0,xGf x5 x0,iN (dc (((W (x1 - (Ln (xHZ x0 x5):Int))):Int)<0))]:=by kernel_rfl
abbrev xL4(v0:Int)(v1:List Str):Prop:=iN (dc (v0<(Ln v1:Int)))
def vBf(x0:List Str)(x1 x5:Int):rS 5 I33 (xTV x0 x1 x5) [F] []=dn (xCA x1) [xL4 x5 x0]:=by kernel_rfl
def vBg(a0:List Str)(a1:Int):rE I33 (xEo a0 a1) [Y] []=dn (xCA (-1)) [iY (dc (((W (a1 - (Ln a0:Int))):Int)<0))]:=by kernel_rfl
def vBh(a0:List Str)(a1:Int):rE I33 (xEo a0 a1) [F] []=st 5 I33 (xTV a0 (W (a1 - (Ln a0:Int))) 0) [iN (dc (((W (a1 - (Ln a0:Int))):Int)<0))]:=by kernel_rfl
theorem vF8{N:Nat}:∀n x0 x1 x5 r,xHk N n x0 x1 x5=some r→RS Tryz.f33 I33 5 (xTV x0 x1 x5) (xCA r):=by
 intro n
 induction n with
 |zero=>exact fun _ _ _ _ h=>nE h
 |succ n ih =>
  exact fun x0 x1 x5 r h =>
   cE h (fun h0 h=>iE h fun h1 h=>cE h (fun h2 h=>dS h fk33 (vBd x0 x1 x5) (oc3 h0 h1 h2 on)) fun h2 h =>
   tS fk33 (vBe x0 x1 x5) (oc3 h0 h1 h2 on) (ih _ _ _ _ h)) fun h0 h =>
   dS h fk33 (vBf x0 x1 x5) (oc h0 on)
theorem vF9{N:Nat}:∀a0 a1 r,xIV N a0 a1=some r→RE Tryz.f33 I33 (xEo a0 a1) (xCA r):=fun a0 a1 r h =>
 cE h (fun h0 h=>dE h fk33 (vBg a0 a1) (oc h0 on)) fun h0 h =>
 tE fk33 (vBh a0 a1) (oc h0 on) (vF8 _ _ _ _ _ h)
theorem xIK{N:Nat}{a0:List Str}{a1:Int}{r:Int}(h:xIV N  a0 a1=some r):AbC 33 (xEo a0 a1) (xCA r) :=
 AbsCalls.of_reach fk33 rfl rfl rfl (Nat.le_of_ble_eq_true rfl) (vF9 a0 a1 r h)
noncomputable def I124:Info:= { body:=(Tryz.f124.body).getD .skip,nt:=12,results:= [.tmp 4],keep:= [0,2,8,20],live:= [],modes:= [] }
theorem vAA:FnOk Tryz.prog 124 Tryz.f124 I124:=⟨Tryz.func124,by kernel_rfl,by kernel_rfl,by kernel_rfl,by kernel_rfl⟩
def xXv(a0:List Int)(a1:Int):rE I124 (xF2 a0 a1) [Y] []=dn (xDS (-1)) [iY (dc (((W (a1 - (Ln a0:Int))):Int)<0))]:=by kernel_rfl
def xXw(a0:List Int)(a1:Int):rE I124 (xF2 a0 a1) [F] []=dn (xDS (W (a1 - (Ln a0:Int)))) [iN (dc (((W (a1 - (Ln a0:Int))):Int)<0))]:=by kernel_rfl
theorem vEM{N:Nat}:∀a0 a1 r,xK6 N a0 a1=some r→RE Tryz.f124 I124 (xF2 a0 a1) (xDS r):=fun a0 a1 r h =>
 cE h (fun h0 h=>dE h vAA (xXv a0 a1) (oc h0 on)) fun h0 h =>
 dE h vAA (xXw a0 a1) (oc h0 on)
theorem xKs{N:Nat}{a0:List Int}{a1:Int}{r:Int}(h:xK6 N  a0 a1=some r):AbC 124 (xF2 a0 a1) (xDS r) :=
 AbsCalls.of_reach vAA rfl rfl rfl (Nat.le_of_ble_eq_true rfl) (vEM a0 a1 r h)
noncomputable def I125:Info:= { body:=(Tryz.f125.body).getD .skip,nt:=12,results:= [.tmp 4],keep:= [0,2,8,20],live:= [],modes:= [] }
theorem vAB:FnOk Tryz.prog 125 Tryz.f125 I125:=⟨Tryz.func125,by kernel_rfl,by kernel_rfl,by kernel_rfl,by kernel_rfl⟩
def xXx(a0:List Org)(a1:Int):rE I125 (xE5 a0 a1) [Y] []=dn (xDP (-1)) [iY (dc (((W (a1 - (Ln a0:Int))):Int)<0))]:=by kernel_rfl
def xXy(a0:List Org)(a1:Int):rE I125 (xE5 a0 a1) [F] []=dn (xDP (W (a1 - (Ln a0:Int)))) [iN (dc (((W (a1 - (Ln a0:Int))):Int)<0))]:=by kernel_rfl
theorem vEN{N:Nat}:∀a0 a1 r,xIT N a0 a1=some r→RE Tryz.f125 I125 (xE5 a0 a1) (xDP r):=fun a0 a1 r h =>
 cE h (fun h0 h=>dE h vAB (xXx a0 a1) (oc h0 on)) fun h0 h =>
 dE h vAB (xXy a0 a1) (oc h0 on)
theorem xKP{N:Nat}{a0:List Org}{a1:Int}{r:Int}(h:xIT N  a0 a1=some r):AbC 125 (xE5 a0 a1) (xDP r) :=
 AbsCalls.of_reach vAB rfl rfl rfl (Nat.le_of_ble_eq_true rfl) (vEN a0 a1 r h)
noncomputable def I84:Info:= { body:=(Tryz.f84.body).getD .skip,nt:=18,results:= [.tmp 4],keep:= [0,2,4,8,20,32,5],live:= [],modes:= [] }
theorem fk84:FnOk Tryz.prog 84 Tryz.f84 I84:=⟨Tryz.func84,by kernel_rfl,by kernel_rfl,by kernel_rfl,by kernel_rfl⟩
abbrev xFp(v0:Int):Prop:=iY (dc (v0<0))
abbrev xEw(v0:Rowd):=Rowd.cells v0
def vDn(a0:Rowd)(a1 r1:Int):rE I84 (xGv a0 a1) [Y] [xDS r1]=dn (xEU (-1)) [AbC 124 (xF2 (xEw a0) a1) (xDS r1),xFp r1]:=by kernel_rfl
abbrev xAD(v0:Int):Prop:=iN (dc (v0<0))
def vDo(a0:Rowd)(a1 r1 r2:Int):rE I84 (xGv a0 a1) [F,Y] [xDS r1,xDP r2]=dn (xEU (-1)) [AbC 124 (xF2 (xEw a0) a1) (xDS r1),xAD r1,AbC 125 (xE5 (Rowd.frm a0) r1) (xDP r2),xFp r2]:=by kernel_rfl
def vDp(a0:Rowd)(a1 r1 r2:Int):rE I84 (xGv a0 a1) [F,F] [xDS r1,xDP r2]=dn (xEU r2) [AbC 124 (xF2 (xEw a0) a1) (xDS r1),xAD r1,AbC 125 (xE5 (Rowd.frm a0) r1) (xDP r2),xAD r2]:=by kernel_rfl
theorem vGU{N:Nat}:∀a0 a1 r,xKQ N a0 a1=some r→RE Tryz.f84 I84 (xGv a0 a1) (xEU r):=fun a0 a1 r h =>
 bE h fun r1 h0 h=>cE h (fun h1 h=>dE h fk84 (vDn a0 a1 r1) (oc2 (xKs h0) h1 on)) fun h1 h =>
 bE h fun r2 h2 h=>cE h (fun h3 h=>dE h fk84 (vDo a0 a1 r1 r2) (oc4 (xKs h0) h1 (xKP h2) h3 on)) fun h3 h =>
 dE h fk84 (vDp a0 a1 r1 r2) (oc4 (xKs h0) h1 (xKP h2) h3 on)
theorem xME{N:Nat}{a0:Rowd}{a1:Int}{r:Int}(h:xKQ N  a0 a1=some r):AbC 84 (xGv a0 a1) (xEU r) :=
 AbsCalls.of_reach fk84 rfl rfl rfl (Nat.le_of_ble_eq_true rfl) (vGU a0 a1 r h)
noncomputable def I34:Info:= { body:=(Tryz.f34.body).getD .skip,nt:=27,results:= [.tmp 4],keep:= [0,2,8,10,22,30,50],live:= [(5, [0,2,10])],modes:= [] }
theorem fk34:FnOk Tryz.prog 34 Tryz.f34 I34:=⟨Tryz.func34,by kernel_rfl,by kernel_rfl,by kernel_rfl,by kernel_rfl⟩
def xTW(x0:List Rowd)(x1 x5:Int):St:= [(0, .v false [.sl .ro .row x0]),(2, .v false [.int .i64 x1]),(10, .v false [.int .i64 x5])]
abbrev xMI(v0:Int)(v1:List Rowd):Prop:=iY (dc (v0<(Ln v1:Int)))
abbrev xIq(v0:Int)(v1:List Rowd):Prop:=(0:Int)≤v0∧v0<(Ln v1)
abbrev xLd(v0:List Rowd)(v1:Int):=gD v0 (tN v1) rd
def vBi(x0:List Rowd)(x1 x5 r1:Int):rS 5 I34 (xTW x0 x1 x5) [Y,Y] [xEU r1]=dn (xDT (-1)) [xMI x5 x0,xIq x5 x0,AbC 84 (xGv (xLd x0 x5) x1) (xEU r1),xFp r1]:=by kernel_rfl
def vBj(x0:List Rowd)(x1 x5 r1:Int):rS 5 I34 (xTW x0 x1 x5) [Y,F] [xEU r1]=st 5 I34 (xTW x0 r1 (W (x5+1))) [xMI x5 x0,xIq x5 x0,AbC 84 (xGv (xLd x0 x5) x1) (xEU r1),xAD r1]:=by kernel_rfl
abbrev xRs(v0:Int)(v1:List Rowd):Prop:=iN (dc (v0<(Ln v1:Int)))
def vBk(x0:List Rowd)(x1 x5:Int):rS 5 I34 (xTW x0 x1 x5) [F] []=dn (xDT x1) [xRs x5 x0]:=by kernel_rfl
def vBl(a0:List Rowd)(a1:Int):rE I34 (xGR a0 a1) [Y] []=dn (xDT (-1)) [iY (dc (((W (a1 - (Ln a0:Int))):Int)<0))]:=by kernel_rfl
def vBm(a0:List Rowd)(a1:Int):rE I34 (xGR a0 a1) [F] []=st 5 I34 (xTW a0 (W (a1 - (Ln a0:Int))) 0) [iN (dc (((W (a1 - (Ln a0:Int))):Int)<0))]:=by kernel_rfl
theorem vGa{N:Nat}:∀n x0 x1 x5 r,xIU N n x0 x1 x5=some r→RS Tryz.f34 I34 5 (xTW x0 x1 x5) (xDT r):=by
 intro n
 induction n with
 |zero=>exact fun _ _ _ _ h=>nE h
 |succ n ih =>
  exact fun x0 x1 x5 r h =>
   cE h (fun h0 h=>iE h fun h1 h=>bE h fun r1 h2 h=>cE h (fun h3 h=>dS h fk34 (vBi x0 x1 x5 r1) (oc4 h0 h1 (xME h2) h3 on)) fun h3 h =>
   tS fk34 (vBj x0 x1 x5 r1) (oc4 h0 h1 (xME h2) h3 on) (ih _ _ _ _ h)) fun h0 h =>
   dS h fk34 (vBk x0 x1 x5) (oc h0 on)
theorem vGb{N:Nat}:∀a0 a1 r,xK7 N a0 a1=some r→RE Tryz.f34 I34 (xGR a0 a1) (xDT r):=fun a0 a1 r h =>
 cE h (fun h0 h=>dE h fk34 (vBl a0 a1) (oc h0 on)) fun h0 h =>
 tE fk34 (vBm a0 a1) (oc h0 on) (vGa _ _ _ _ _ h)
theorem xL3{N:Nat}{a0:List Rowd}{a1:Int}{r:Int}(h:xK7 N  a0 a1=some r):AbC 34 (xGR a0 a1) (xDT r) :=
 AbsCalls.of_reach fk34 rfl rfl rfl (Nat.le_of_ble_eq_true rfl) (vGb a0 a1 r h)
def G8(q:Val→Int→Option (Int)):Prop:=∀a0 a1 r,q a0 a1=some r→AbC 8 (xCL a0 a1) (xAe r)
def G32(q:(List Val)→Int→Option (Int)):Prop:=∀a0 a1 r,q a0 a1=some r→AbC 32 (xFM a0 a1) (xCK r)
noncomputable def I8:Info:= { body:=(Tryz.f8.body).getD .skip,nt:=31,results:= [.tmp 4],keep:= [0,2,4,8,22,34,46,58,5],live:= [],modes:= [] }
theorem fk8:FnOk Tryz.prog 8 Tryz.f8 I8:=⟨Tryz.func8,by kernel_rfl,by kernel_rfl,by kernel_rfl,by kernel_rfl⟩
def vFF(a0:Val)(a1:Int):rE I8 (xCL a0 a1) [Y] []=dn (xAe (-1)) [iY (dc (((W (a1 - (Ln (Val.text a0):Int))):Int)<0))]:=by kernel_rfl
abbrev xTB(v0:Int)(v1:Val):Prop:=iN (dc (((W (v0 - (Ln (Val.text v1):Int))):Int)<0))
abbrev xTC(v0:Val)(v1 v2:Int):Prop:=AbC 32 (xFM (Val.list v0) (W (v1 - (Ln (Val.text v0):Int)))) (xCK v2)
def vFG(a0:Val)(a1 r1:Int):rE I8 (xCL a0 a1) [F,Y] [xCK r1]=dn (xAe (-1)) [xTB a1 a0,xTC a0 a1 r1,xFp r1]:=by kernel_rfl
abbrev xCS(v0:Val):=Val.columns v0
def vFH(a0:Val)(a1 r1 r2:Int):rE I8 (xCL a0 a1) [F,F,Y] [xCK r1,xCA r2]=dn (xAe (-1)) [xTB a1 a0,xTC a0 a1 r1,xAD r1,AbC 33 (xEo (xCS a0) r1) (xCA r2),xFp r2]:=by kernel_rfl
def vFI(a0:Val)(a1 r1 r2 r3:Int):rE I8 (xCL a0 a1) [F,F,F,Y] [xCK r1,xCA r2,xDT r3]=dn (xAe (-1)) [xTB a1 a0,xTC a0 a1 r1,xAD r1,AbC 33 (xEo (xCS a0) r1) (xCA r2),xAD r2,AbC 34 (xGR (Val.rows a0) r2) (xDT r3),xFp r3]:=by kernel_rfl
def vFJ(a0:Val)(a1 r1 r2 r3:Int):rE I8 (xCL a0 a1) [F,F,F,F] [xCK r1,xCA r2,xDT r3]=dn (xAe r3) [xTB a1 a0,xTC a0 a1 r1,xAD r1,AbC 33 (xEo (xCS a0) r1) (xCA r2),xAD r2,AbC 34 (xGR (Val.rows a0) r2) (xDT r3),xAD r3]:=by kernel_rfl
theorem c8_e{N q0 q1}(g0:G8 q0)(g1:G32 q1):∀a0 a1 r,xIL N q0 q1 a0 a1=some r→RE Tryz.f8 I8 (xCL a0 a1) (xAe r):=fun a0 a1 r h =>
 cE h (fun h0 h=>dE h fk8 (vFF a0 a1) (oc h0 on)) fun h0 h =>
 bE h fun r1 h1 h=>cE h (fun h2 h=>dE h fk8 (vFG a0 a1 r1) (oc3 h0 (g1 _ _ _ h1) h2 on)) fun h2 h =>
 bE h fun r2 h3 h=>cE h (fun h4 h=>dE h fk8 (vFH a0 a1 r1 r2) (oc5 h0 (g1 _ _ _ h1) h2 (xIK h3) h4 on)) fun h4 h =>
 bE h fun r3 h5 h=>cE h (fun h6 h=>dE h fk8 (vFI a0 a1 r1 r2 r3) (oc7 h0 (g1 _ _ _ h1) h2 (xIK h3) h4 (xL3 h5) h6 on)) fun h6 h =>
 dE h fk8 (vFJ a0 a1 r1 r2 r3) (oc7 h0 (g1 _ _ _ h1) h2 (xIK h3) h4 (xL3 h5) h6 on)
theorem xLW{N q0 q1}(g0:G8 q0)(g1:G32 q1){a0}{a1}{r}(h:xIL N q0 q1 a0 a1=some r):AbC 8 (xCL a0 a1) (xAe r) :=
 AbsCalls.of_reach fk8 rfl rfl rfl (Nat.le_of_ble_eq_true rfl) (c8_e g0 g1 a0 a1 r h)
noncomputable def I32:Info:= { body:=(Tryz.f32.body).getD .skip,nt:=27,results:= [.tmp 4],keep:= [0,2,8,10,22,30,50],live:= [(5, [0,2,10])],modes:= [] }
theorem fk32:FnOk Tryz.prog 32 Tryz.f32 I32:=⟨Tryz.func32,by kernel_rfl,by kernel_rfl,by kernel_rfl,by kernel_rfl⟩
def xTU(x0:List Val)(x1 x5:Int):St:= [(0, .v false [.sl .ro .val x0]),(2, .v false [.int .i64 x1]),(10, .v false [.int .i64 x5])]
abbrev xIr(v0:Int)(v1:List Val):Prop:=iY (dc (v0<(Ln v1:Int)))
abbrev xCi(v0:Int)(v1:List Val):Prop:=(0:Int)≤v0∧v0<(Ln v1)
abbrev xIN(v0:List Val)(v1:Int):=gD v0 (tN v1) vd
def vA8(x0:List Val)(x1 x5 r1:Int):rS 5 I32 (xTU x0 x1 x5) [Y,Y] [xAe r1]=dn (xCK (-1)) [xIr x5 x0,xCi x5 x0,AbC 8 (xCL (xIN x0 x5) x1) (xAe r1),xFp r1]:=by kernel_rfl
def vA9(x0:List Val)(x1 x5 r1:Int):rS 5 I32 (xTU x0 x1 x5) [Y,F] [xAe r1]=st 5 I32 (xTU x0 r1 (W (x5+1))) [xIr x5 x0,xCi x5 x0,AbC 8 (xCL (xIN x0 x5) x1) (xAe r1),xAD r1]:=by kernel_rfl
abbrev xOr(v0:Int)(v1:List Val):Prop:=iN (dc (v0<(Ln v1:Int)))
def vBa(x0:List Val)(x1 x5:Int):rS 5 I32 (xTU x0 x1 x5) [F] []=dn (xCK x1) [xOr x5 x0]:=by kernel_rfl
def vBb(a0:List Val)(a1:Int):rE I32 (xFM a0 a1) [Y] []=dn (xCK (-1)) [iY (dc (((W (a1 - (Ln a0:Int))):Int)<0))]:=by kernel_rfl
def vBc(a0:List Val)(a1:Int):rE I32 (xFM a0 a1) [F] []=st 5 I32 (xTU a0 (W (a1 - (Ln a0:Int))) 0) [iN (dc (((W (a1 - (Ln a0:Int))):Int)<0))]:=by kernel_rfl
theorem vF6{N q0 q1}(g0:G8 q0)(g1:G32 q1):∀n x0 x1 x5 r,xHT N q0 q1 n x0 x1 x5=some r→RS Tryz.f32 I32 5 (xTU x0 x1 x5) (xCK r):=by
 intro n
 induction n with
 |zero=>exact fun _ _ _ _ h=>nE h
 |succ n ih =>
  exact fun x0 x1 x5 r h =>
   cE h (fun h0 h=>iE h fun h1 h=>bE h fun r1 h2 h=>cE h (fun h3 h=>dS h fk32 (vA8 x0 x1 x5 r1) (oc4 h0 h1 (g0 _ _ _ h2) h3 on)) fun h3 h =>
   tS fk32 (vA9 x0 x1 x5 r1) (oc4 h0 h1 (g0 _ _ _ h2) h3 on) (ih _ _ _ _ h)) fun h0 h =>
   dS h fk32 (vBa x0 x1 x5) (oc h0 on)
theorem vF7{N q0 q1}(g0:G8 q0)(g1:G32 q1):∀a0 a1 r,xIm N q0 q1 a0 a1=some r→RE Tryz.f32 I32 (xFM a0 a1) (xCK r):=fun a0 a1 r h =>
 cE h (fun h0 h=>dE h fk32 (vBb a0 a1) (oc h0 on)) fun h0 h =>
 tE fk32 (vBc a0 a1) (oc h0 on) (vF6 g0 g1 _ _ _ _ _ h)
theorem xLy{N q0 q1}(g0:G8 q0)(g1:G32 q1){a0}{a1}{r}(h:xIm N q0 q1 a0 a1=some r):AbC 32 (xFM a0 a1) (xCK r) :=
 AbsCalls.of_reach fk32 rfl rfl rfl (Nat.le_of_ble_eq_true rfl) (vF7 g0 g1 a0 a1 r h)
theorem xMe{N:Nat}:∀d,G8 (xCZ N d).c_laws_szValue∧G32 (xCZ N d).c_laws_szValueS:=by
 intro d
 induction d with
 |zero=>exact⟨fun _ _ _ h=>nE h,fun _ _ _ h=>nE h⟩
 |succ d ih =>
  obtain⟨ih0,ih1⟩:=ih
  exact⟨fun _ _ _ h=>xLW (N:=N) ih0 ih1 h,fun _ _ _ h=>xLy (N:=N) ih0 ih1 h⟩
theorem xAi{N:Nat}{a0:Val}{a1:Int}{r:Int}(h:xI7 N a0 a1=some r):AbC 8 (xCL a0 a1) (xAe r):=(xMe N).1 _ _ r h
noncomputable def I40:Info:= { body:=(Tryz.f40.body).getD .skip,nt:=22,results:= [.tmp 2],keep:= [0,4,6,8,22],live:= [(3, [0,6,8])],modes:= [(5, [(0, .ref,false)]),(6, [(0, .take,false)])] }
theorem fk40:FnOk Tryz.prog 40 Tryz.f40 I40:=⟨Tryz.func40,by kernel_rfl,by kernel_rfl,by kernel_rfl,by kernel_rfl⟩
def xUK(x0 x3:List Str)(x4:Int):St:= [(0, .v false [.sl .ro .str x0]),(6, .v false [.sl .own .str x3]),(8, .v false [.int .i64 x4])]
def vB0(x0 x3:List Str)(x4:Int):rS 3 I40 (xUK x0 x3 x4) [Y] []=st 3 I40 (xUK x0 (List.set x3 (tN x4) (xHZ x0 x4)) (W (x4+1))) [xJk x4 x0,xGf x4 x0,xGf x4 x3]:=by kernel_rfl
def vB1(x0 x3:List Str)(x4:Int):rS 3 I40 (xUK x0 x3 x4) [F] []=dn (xE7 x3) [xL4 x4 x0]:=by kernel_rfl
def vB2(a0:List Str):rE I40 (xHn a0) [] []=st 3 I40 (xUK a0 (List.replicate (tN (Ln a0:Int)) Ty.str.dflt) 0) [(0:Int)≤(Ln a0:Int)∧(Ln a0:Int)=(Ln a0:Int)∧(Ln a0:Int)≤Lim]:=by kernel_rfl
theorem vGk{N:Nat}:∀n x0 x3 x4 r,xHo N n x0 x3 x4=some r→RS Tryz.f40 I40 3 (xUK x0 x3 x4) (xE7 r):=by
 intro n
 induction n with
 |zero=>exact fun _ _ _ _ h=>nE h
 |succ n ih =>
  exact fun x0 x3 x4 r h =>
   cE h (fun h0 h=>iE h fun h1 h=>iE h fun h2 h=>tS fk40 (vB0 x0 x3 x4) (oc3 h0 h1 h2 on) (ih _ _ _ _ h)) fun h0 h =>
   dS h fk40 (vB1 x0 x3 x4) (oc h0 on)
theorem vGl{N:Nat}:∀a0 r,xHL N a0=some r→RE Tryz.f40 I40 (xHn a0) (xE7 r):=fun a0 r h =>
 iE h fun h0 h=>tE fk40 (vB2 a0) (oc h0 on) (vGk _ _ _ _ _ h)
theorem xM5{N:Nat}{a0:List Str}{r:(List Str)}(h:xHL N  a0=some r):AbC 40 (xHn a0) (xE7 r) :=
 AbsCalls.of_reach fk40 rfl rfl rfl (Nat.le_of_ble_eq_true rfl) (vGl a0 r h)
noncomputable def I127:Info:= { body:=(Tryz.f127.body).getD .skip,nt:=22,results:= [.tmp 2],keep:= [0,4,6,8,22],live:= [(3, [0,6,8])],modes:= [(5, [(0, .ref,false)]),(6, [(0, .take,false)])] }
theorem xWu:FnOk Tryz.prog 127 Tryz.f127 I127:=⟨Tryz.func127,by kernel_rfl,by kernel_rfl,by kernel_rfl,by kernel_rfl⟩
def xRe(x0 x3:List Int)(x4:Int):St:= [(0, .v false [.sl .ro .int x0]),(6, .v false [.sl .own .int x3]),(8, .v false [.int .i64 x4])]
abbrev xPt(v0:Int)(v1:List Int):Prop:=iY (dc (v0<(Ln v1:Int)))
abbrev xJU(v0:Int)(v1:List Int):Prop:=(0:Int)≤v0∧v0<(Ln v1)
abbrev xLe(v0:List Int)(v1:Int):=gD v0 (tN v1) Ty.int.dflt
def xXC(x0 x3:List Int)(x4:Int):rS 3 I127 (xRe x0 x3 x4) [Y] []=st 3 I127 (xRe x0 (List.set x3 (tN x4) (xLe x0 x4)) (W (x4+1))) [xPt x4 x0,xJU x4 x0,xJU x4 x3]:=by kernel_rfl
def xXD(x0 x3:List Int)(x4:Int):rS 3 I127 (xRe x0 x3 x4) [F] []=dn (xGS x3) [iN (dc (x4<(Ln x0:Int)))]:=by kernel_rfl
def xXE(a0:List Int):rE I127 (xIW a0) [] []=st 3 I127 (xRe a0 (List.replicate (tN (Ln a0:Int)) Ty.int.dflt) 0) [(0:Int)≤(Ln a0:Int)∧(Ln a0:Int)=(Ln a0:Int)∧(Ln a0:Int)≤Lim]:=by kernel_rfl
theorem vEP{N:Nat}:∀n x0 x3 x4 r,xIX N n x0 x3 x4=some r→RS Tryz.f127 I127 3 (xRe x0 x3 x4) (xGS r):=by
 intro n
 induction n with
 |zero=>exact fun _ _ _ _ h=>nE h
 |succ n ih =>
  exact fun x0 x3 x4 r h =>
   cE h (fun h0 h=>iE h fun h1 h=>iE h fun h2 h=>tS xWu (xXC x0 x3 x4) (oc3 h0 h1 h2 on) (ih _ _ _ _ h)) fun h0 h =>
   dS h xWu (xXD x0 x3 x4) (oc h0 on)
theorem vEQ{N:Nat}:∀a0 r,xJM N a0=some r→RE Tryz.f127 I127 (xIW a0) (xGS r):=fun a0 r h =>
 iE h fun h0 h=>tE xWu (xXE a0) (oc h0 on) (vEP _ _ _ _ _ h)
theorem xOU{N:Nat}{a0:List Int}{r:(List Int)}(h:xJM N  a0=some r):AbC 127 (xIW a0) (xGS r) :=
 AbsCalls.of_reach xWu rfl rfl rfl (Nat.le_of_ble_eq_true rfl) (vEQ a0 r h)
noncomputable def I163:Info:= { body:=(Tryz.f163.body).getD .skip,nt:=11,results:= [.cell 2 80],keep:= [0,2,4,6,3,5,7],live:= [],modes:= [] }
theorem vFm:FnOk Tryz.prog 163 Tryz.f163 I163:=⟨Tryz.func163,by kernel_rfl,by kernel_rfl,by kernel_rfl,by kernel_rfl⟩
def xYf(a0:Org):rE I163 (xHU a0) [] []=dn (xGG a0) []:=by kernel_rfl
theorem vE6{N:Nat}:∀a0 r,xJq N a0=some r→RE Tryz.f163 I163 (xHU a0) (xGG r):=fun a0 r h =>
 dE h vFm (xYf a0) on
theorem xNH{N:Nat}{a0:Org}{r:Org}(h:xJq N  a0=some r):AbC 163 (xHU a0) (xGG r) :=
 AbsCalls.of_reach vFm rfl rfl rfl (Nat.le_of_ble_eq_true rfl) (vE6 a0 r h)
noncomputable def I128:Info:= { body:=(Tryz.f128.body).getD .skip,nt:=23,results:= [.tmp 2],keep:= [0,4,6,8,22],live:= [(3, [0,6,8])],modes:= [(5, [(0, .ref,false)]),(6, [(0, .take,false)])] }
theorem xWv:FnOk Tryz.prog 128 Tryz.f128 I128:=⟨Tryz.func128,by kernel_rfl,by kernel_rfl,by kernel_rfl,by kernel_rfl⟩
def xRf(x0 x3:List Org)(x4:Int):St:= [(0, .v false [.sl .ro .org x0]),(6, .v false [.sl .own .org x3]),(8, .v false [.int .i64 x4])]
abbrev xGI(v0:Int)(v1:List Org):Prop:=iY (dc (v0<(Ln v1:Int)))
def xXF(x0 x3:List Org)(x4:Int)(r1:Org):rS 3 I128 (xRf x0 x3 x4) [Y] [xGG r1]=st 3 I128 (xRf x0 (List.set x3 (tN x4) r1) (W (x4+1))) [xGI x4 x0,xEp x4 x0,AbC 163 (xHU (xFo x0 x4)) (xGG r1),xEp x4 x3]:=by kernel_rfl
abbrev xKe(v0:Int)(v1:List Org):Prop:=iN (dc (v0<(Ln v1:Int)))
def xXG(x0 x3:List Org)(x4:Int):rS 3 I128 (xRf x0 x3 x4) [F] []=dn (xE6 x3) [xKe x4 x0]:=by kernel_rfl
def xXH(a0:List Org):rE I128 (xHl a0) [] []=st 3 I128 (xRf a0 (List.replicate (tN (Ln a0:Int)) Ty.org.dflt) 0) [(0:Int)≤(Ln a0:Int)∧(Ln a0:Int)=(Ln a0:Int)∧(Ln a0:Int)≤Lim]:=by kernel_rfl
theorem vER{N:Nat}:∀n x0 x3 x4 r,xHm N n x0 x3 x4=some r→RS Tryz.f128 I128 3 (xRf x0 x3 x4) (xE6 r):=by
 intro n
 induction n with
 |zero=>exact fun _ _ _ _ h=>nE h
 |succ n ih =>
  exact fun x0 x3 x4 r h =>
   cE h (fun h0 h=>iE h fun h1 h=>bE h fun r1 h2 h=>iE h fun h3 h=>tS xWv (xXF x0 x3 x4 r1) (oc4 h0 h1 (xNH h2) h3 on) (ih _ _ _ _ h)) fun h0 h =>
   dS h xWv (xXG x0 x3 x4) (oc h0 on)
theorem vES{N:Nat}:∀a0 r,xHK N a0=some r→RE Tryz.f128 I128 (xHl a0) (xE6 r):=fun a0 r h =>
 iE h fun h0 h=>tE xWv (xXH a0) (oc h0 on) (vER _ _ _ _ _ h)
theorem xM4{N:Nat}{a0:List Org}{r:(List Org)}(h:xHK N  a0=some r):AbC 128 (xHl a0) (xE6 r) :=
 AbsCalls.of_reach xWv rfl rfl rfl (Nat.le_of_ble_eq_true rfl) (vES a0 r h)
noncomputable def I88:Info:= { body:=(Tryz.f88.body).getD .skip,nt:=13,results:= [.cell 2 45],keep:= [0,2,4,6,3,5,7],live:= [],modes:= [(4, [(0, .take,false)])] }
theorem fk88:FnOk Tryz.prog 88 Tryz.f88 I88:=⟨Tryz.func88,by kernel_rfl,by kernel_rfl,by kernel_rfl,by kernel_rfl⟩
def vDJ(a0:Rowd)(r1:(List Int))(r2:(List Org)):rE I88 (xJr a0) [] [xGS r1,xE6 r2]=dn (xIn (Rowd.mk r1 r2)) [AbC 127 (xIW (xEw a0)) (xGS r1),AbC 128 (xHl (Rowd.frm a0)) (xE6 r2)]:=by kernel_rfl
theorem vG1{N:Nat}:∀a0 r,xJv N a0=some r→RE Tryz.f88 I88 (xJr a0) (xIn r):=fun a0 r h =>
 bE h fun r1 h0 h=>bE h fun r2 h1 h=>dE h fk88 (vDJ a0 r1 r2) (oc2 (xOU h0) (xM4 h1) on)
theorem xPN{N:Nat}{a0:Rowd}{r:Rowd}(h:xJv N  a0=some r):AbC 88 (xJr a0) (xIn r) :=
 AbsCalls.of_reach fk88 rfl rfl rfl (Nat.le_of_ble_eq_true rfl) (vG1 a0 r h)
noncomputable def I41:Info:= { body:=(Tryz.f41.body).getD .skip,nt:=23,results:= [.tmp 2],keep:= [0,4,6,8,22],live:= [(3, [0,6,8])],modes:= [(5, [(0, .ref,false)]),(6, [(0, .take,false)])] }
theorem fk41:FnOk Tryz.prog 41 Tryz.f41 I41:=⟨Tryz.func41,by kernel_rfl,by kernel_rfl,by kernel_rfl,by kernel_rfl⟩
def xUL(x0 x3:List Rowd)(x4:Int):St:= [(0, .v false [.sl .ro .row x0]),(6, .v false [.sl .own .row x3]),(8, .v false [.int .i64 x4])]
def vB3(x0 x3:List Rowd)(x4:Int)(r1:Rowd):rS 3 I41 (xUL x0 x3 x4) [Y] [xIn r1]=st 3 I41 (xUL x0 (List.set x3 (tN x4) r1) (W (x4+1))) [xMI x4 x0,xIq x4 x0,AbC 88 (xJr (xLd x0 x4)) (xIn r1),xIq x4 x3]:=by kernel_rfl
def vB4(x0 x3:List Rowd)(x4:Int):rS 3 I41 (xUL x0 x3 x4) [F] []=dn (xGT x3) [xRs x4 x0]:=by kernel_rfl
def vB5(a0:List Rowd):rE I41 (xIY a0) [] []=st 3 I41 (xUL a0 (List.replicate (tN (Ln a0:Int)) rd) 0) [(0:Int)≤(Ln a0:Int)∧(Ln a0:Int)=(Ln a0:Int)∧(Ln a0:Int)≤Lim]:=by kernel_rfl
theorem vGm{N:Nat}:∀n x0 x3 x4 r,xIZ N n x0 x3 x4=some r→RS Tryz.f41 I41 3 (xUL x0 x3 x4) (xGT r):=by
 intro n
 induction n with
 |zero=>exact fun _ _ _ _ h=>nE h
 |succ n ih =>
  exact fun x0 x3 x4 r h =>
   cE h (fun h0 h=>iE h fun h1 h=>bE h fun r1 h2 h=>iE h fun h3 h=>tS fk41 (vB3 x0 x3 x4 r1) (oc4 h0 h1 (xPN h2) h3 on) (ih _ _ _ _ h)) fun h0 h =>
   dS h fk41 (vB4 x0 x3 x4) (oc h0 on)
theorem vGn{N:Nat}:∀a0 r,xJN N a0=some r→RE Tryz.f41 I41 (xIY a0) (xGT r):=fun a0 r h =>
 iE h fun h0 h=>tE fk41 (vB5 a0) (oc h0 on) (vGm _ _ _ _ _ h)
theorem xOV{N:Nat}{a0:List Rowd}{r:(List Rowd)}(h:xJN N  a0=some r):AbC 41 (xIY a0) (xGT r) :=
 AbsCalls.of_reach fk41 rfl rfl rfl (Nat.le_of_ble_eq_true rfl) (vGn a0 r h)
def G10(q:Val→Option (Val)):Prop:=∀a0 r,q a0=some r→AbC 10 (xFn a0) (xAa r)
def G39(q:(List Val)→Option ((List Val))):Prop:=∀a0 r,q a0=some r→AbC 39 (xGH a0) (xEN r)
noncomputable def I10:Info:= { body:=(Tryz.f10.body).getD .skip,nt:=29,results:= [.cell 2 31],keep:= [0,2,4,6,3,5,7],live:= [],modes:= [(9, [(0, .take,false)])] }
theorem fk10:FnOk Tryz.prog 10 Tryz.f10 I10:=⟨Tryz.func10,by kernel_rfl,by kernel_rfl,by kernel_rfl,by kernel_rfl⟩
def vAP(a0:Val)(r1:(List Val))(r2:(List Str))(r3:(List Rowd)):rE I10 (xFn a0) [] [xEN r1,xE7 r2,xGT r3]=dn (xAa (Val.mk (Val.kind a0) (Val.n a0) (Val.step a0) (Val.text a0) r1 r2 r3)) [AbC 39 (xGH (Val.list a0)) (xEN r1),AbC 40 (xHn (xCS a0)) (xE7 r2),AbC 41 (xIY (Val.rows a0)) (xGT r3)]:=by kernel_rfl
theorem vF0{N q0 q1}(g0:G10 q0)(g1:G39 q1):∀a0 r,xGd N q0 q1 a0=some r→RE Tryz.f10 I10 (xFn a0) (xAa r):=fun a0 r h =>
 bE h fun r1 h0 h=>bE h fun r2 h1 h=>bE h fun r3 h2 h=>dE h fk10 (vAP a0 r1 r2 r3) (oc3 (g1 _ _ h0) (xM5 h1) (xOV h2) on)
theorem xLX{N q0 q1}(g0:G10 q0)(g1:G39 q1){a0}{r}(h:xGd N q0 q1 a0=some r):AbC 10 (xFn a0) (xAa r) :=
 AbsCalls.of_reach fk10 rfl rfl rfl (Nat.le_of_ble_eq_true rfl) (vF0 g0 g1 a0 r h)
noncomputable def I39:Info:= { body:=(Tryz.f39.body).getD .skip,nt:=23,results:= [.tmp 2],keep:= [0,4,6,8,22],live:= [(3, [0,6,8])],modes:= [(5, [(0, .ref,false)]),(6, [(0, .take,false)])] }
theorem fk39:FnOk Tryz.prog 39 Tryz.f39 I39:=⟨Tryz.func39,by kernel_rfl,by kernel_rfl,by kernel_rfl,by kernel_rfl⟩
def xUJ(x0 x3:List Val)(x4:Int):St:= [(0, .v false [.sl .ro .val x0]),(6, .v false [.sl .own .val x3]),(8, .v false [.int .i64 x4])]
def vBy(x0 x3:List Val)(x4:Int)(r1:Val):rS 3 I39 (xUJ x0 x3 x4) [Y] [xAa r1]=st 3 I39 (xUJ x0 (List.set x3 (tN x4) (Val.re r1)) (W (x4+1))) [xIr x4 x0,xCi x4 x0,AbC 10 (xFn (xIN x0 x4)) (xAa r1),xCi x4 x3]:=by kernel_rfl
def vBz(x0 x3:List Val)(x4:Int):rS 3 I39 (xUJ x0 x3 x4) [F] []=dn (xEN x3) [xOr x4 x0]:=by kernel_rfl
def vBA(a0:List Val):rE I39 (xGH a0) [] []=st 3 I39 (xUJ a0 (List.replicate (tN (Ln a0:Int)) vd) 0) [(0:Int)≤(Ln a0:Int)∧(Ln a0:Int)=(Ln a0:Int)∧(Ln a0:Int)≤Lim]:=by kernel_rfl
theorem vGi{N q0 q1}(g0:G10 q0)(g1:G39 q1):∀n x0 x3 x4 r,xHV N q0 q1 n x0 x3 x4=some r→RS Tryz.f39 I39 3 (xUJ x0 x3 x4) (xEN r):=by
 intro n
 induction n with
 |zero=>exact fun _ _ _ _ h=>nE h
 |succ n ih =>
  exact fun x0 x3 x4 r h =>
   cE h (fun h0 h=>iE h fun h1 h=>bE h fun r1 h2 h=>iE h fun h3 h=>tS fk39 (vBy x0 x3 x4 r1) (oc4 h0 h1 (g0 _ _ h2) h3 on) (ih _ _ _ _ h)) fun h0 h =>
   dS h fk39 (vBz x0 x3 x4) (oc h0 on)
theorem vGj{N q0 q1}(g0:G10 q0)(g1:G39 q1):∀a0 r,xFT N q0 q1 a0=some r→RE Tryz.f39 I39 (xGH a0) (xEN r):=fun a0 r h =>
 iE h fun h0 h=>tE fk39 (vBA a0) (oc h0 on) (vGi g0 g1 _ _ _ _ _ h)
theorem xLz{N q0 q1}(g0:G10 q0)(g1:G39 q1){a0}{r}(h:xFT N q0 q1 a0=some r):AbC 39 (xGH a0) (xEN r) :=
 AbsCalls.of_reach fk39 rfl rfl rfl (Nat.le_of_ble_eq_true rfl) (vGj g0 g1 a0 r h)
theorem xMf{N:Nat}:∀d,G10 (xBT N d).c_laws_toValue∧G39 (xBT N d).c_laws_toValueS:=by
 intro d
 induction d with
 |zero=>exact⟨fun _ _ h=>nE h,fun _ _ h=>nE h⟩
 |succ d ih =>
  obtain⟨ih0,ih1⟩:=ih
  exact⟨fun _ _ h=>xLX (N:=N) ih0 ih1 h,fun _ _ h=>xLz (N:=N) ih0 ih1 h⟩
theorem xAb{N:Nat}{a0:Val}{r:Val}(h:xCt N a0=some r):AbC 10 (xFn a0) (xAa r):=(xMf N).1 _ r h
noncomputable def I120:Info:= { body:=(Tryz.f120.body).getD .skip,nt:=15,results:= [.tmp 6],keep:= [0,2,4,12],live:= [],modes:= [(1, [(3, .take,false)])] }
theorem vAz:FnOk Tryz.prog 120 Tryz.f120 I120:=⟨Tryz.func120,by kernel_rfl,by kernel_rfl,by kernel_rfl,by kernel_rfl⟩
def xXt(a0 a1 a2:Int):rE I120 (xGm a0 a1 a2) [Y] []=dn (xD9 (dc (a0≤a2))) [iY (dc (a0≥a1))]:=by kernel_rfl
def xXu(a0 a1 a2:Int):rE I120 (xGm a0 a1 a2) [F] []=dn (xD9 false) [iN (dc (a0≥a1))]:=by kernel_rfl
theorem vEL{N:Nat}:∀a0 a1 a2 r,xJ3 N a0 a1 a2=some r→RE Tryz.f120 I120 (xGm a0 a1 a2) (xD9 r):=fun a0 a1 a2 r h =>
 cE h (fun h0 h=>dE h vAz (xXt a0 a1 a2) (oc h0 on)) fun h0 h =>
 dE h vAz (xXu a0 a1 a2) (oc h0 on)
theorem xKk{N:Nat}{a0:Int}{a1:Int}{a2:Int}{r:Bool}(h:xJ3 N  a0 a1 a2=some r):AbC 120 (xGm a0 a1 a2) (xD9 r) :=
 AbsCalls.of_reach vAz rfl rfl rfl (Nat.le_of_ble_eq_true rfl) (vEL a0 a1 a2 r h)
noncomputable def I80:Info:= { body:=(Tryz.f80.body).getD .skip,nt:=5,results:= [.tmp 2],keep:= [0,4],live:= [],modes:= [] }
theorem fk80:FnOk Tryz.prog 80 Tryz.f80 I80:=⟨Tryz.func80,by kernel_rfl,by kernel_rfl,by kernel_rfl,by kernel_rfl⟩
def vDl(a0:Int)(r1:Bool):rE I80 (xDD a0) [] [xD9 r1]=dn (xCa r1) [AbC 120 (xGm a0 (-1000000000) 1000000000) (xD9 r1)]:=by kernel_rfl
theorem vGS{N:Nat}:∀a0 r,xF0 N a0=some r→RE Tryz.f80 I80 (xDD a0) (xCa r):=fun a0 r h =>
 bE h fun r1 h0 h=>dE h fk80 (vDl a0 r1) (oc (xKk h0) on)
theorem xFO{N:Nat}{a0:Int}{r:Bool}(h:xF0 N  a0=some r):AbC 80 (xDD a0) (xCa r) :=
 AbsCalls.of_reach fk80 rfl rfl rfl (Nat.le_of_ble_eq_true rfl) (vGS a0 r h)
noncomputable def I117:Info:= { body:=(Tryz.f117.body).getD .skip,nt:=29,results:= [.tmp 2],keep:= [0,4,6,14,50],live:= [(2, [0,6])],modes:= [(4, [(4, .take,false),(10, .take,false)])] }
theorem xSM:FnOk Tryz.prog 117 Tryz.f117 I117:=⟨Tryz.func117,by kernel_rfl,by kernel_rfl,by kernel_rfl,by kernel_rfl⟩
def xNr(x0:Str)(x3:Int):St:= [(0, .v false [.str x0]),(6, .v false [.int .i64 x3])]
abbrev xFV(v0:Int)(v1:Str):Prop:=iY (dc (v0<(Ln v1:Int)))
abbrev xBI(v0:Int)(v1:Str):Prop:=(0:Int)≤v0∧v0<(Ln v1)
abbrev xSY(v0:Str)(v1:Int):=dc ((((gD v0 (tN v1) 0).toNat:Int):Int)<32)
def xWW(x0:Str)(x3:Int):rS 2 I117 (xNr x0 x3) [Y,Y,Y,Y] []=dn (xCW false) [xFV x3 x0,xBI x3 x0,iY (xSY x0 x3),iY true,iY true]:=by kernel_rfl
abbrev xPu(v0:Str)(v1:Int):Prop:=iN (xSY v0 v1)
abbrev xSZ(v0:Str)(v1:Int):=dc ((((gD v0 (tN v1) 0).toNat:Int):Int)>126)
def xWX(x0:Str)(x3:Int):rS 2 I117 (xNr x0 x3) [Y,F,Y,Y] []=dn (xCW false) [xFV x3 x0,xBI x3 x0,xPu x0 x3,xBI x3 x0,iY (xSZ x0 x3),iY true]:=by kernel_rfl
abbrev xTD(v0:Str)(v1:Int):Prop:=iN (xSZ v0 v1)
abbrev xP1(v0:Str)(v1:Int):=(((gD v0 (tN v1) 0).toNat:Int):Int)==34
def xWY(x0:Str)(x3:Int):rS 2 I117 (xNr x0 x3) [Y,F,F,Y] []=dn (xCW false) [xFV x3 x0,xBI x3 x0,xPu x0 x3,xBI x3 x0,xTD x0 x3,xBI x3 x0,iY (xP1 x0 x3)]:=by kernel_rfl
def xWZ(x0:Str)(x3:Int):rS 2 I117 (xNr x0 x3) [Y,F,F,F] []=st 2 I117 (xNr x0 (W (x3+1))) [xFV x3 x0,xBI x3 x0,xPu x0 x3,xBI x3 x0,xTD x0 x3,xBI x3 x0,iN (xP1 x0 x3)]:=by kernel_rfl
def xW0(x0:Str)(x3:Int):rS 2 I117 (xNr x0 x3) [F] []=dn (xCW (dc ((Ln x0:Int)≤20))) [iN (dc (x3<(Ln x0:Int)))]:=by kernel_rfl
def xW1(a0:Str):rE I117 (xGA a0) [] []=st 2 I117 (xNr a0 0) []:=by kernel_rfl
theorem vEE{N:Nat}:∀n x0 x3 r,xDf N n x0 x3=some r→RS Tryz.f117 I117 2 (xNr x0 x3) (xCW r):=by
 intro n
 induction n with
 |zero=>exact fun _ _ _ h=>nE h
 |succ n ih =>
  exact fun x0 x3 r h =>
   cE h (fun h0 h=>iE h fun h1 h=>cE h (fun h2 h=>dS h xSM (xWW x0 x3) (oc5 h0 h1 h2 rfl rfl on)) fun h2 h =>
   cE h (fun h4 h=>dS h xSM (xWX x0 x3) (oc6 h0 h1 h2 h1 h4 rfl on)) fun h4 h =>
   cE h (fun h6 h=>dS h xSM (xWY x0 x3) (oc7 h0 h1 h2 h1 h4 h1 h6 on)) fun h6 h =>
   tS xSM (xWZ x0 x3) (oc7 h0 h1 h2 h1 h4 h1 h6 on) (ih _ _ _ h)) fun h0 h =>
   dS h xSM (xW0 x0 x3) (oc h0 on)
theorem vEF{N:Nat}:∀a0 r,xHW N a0=some r→RE Tryz.f117 I117 (xGA a0) (xCW r):=fun a0 r h =>
 tE xSM (xW1 a0) on (vEE _ _ _ _ h)
theorem xMp{N:Nat}{a0:Str}{r:Bool}(h:xHW N  a0=some r):AbC 117 (xGA a0) (xCW r) :=
 AbsCalls.of_reach xSM rfl rfl rfl (Nat.le_of_ble_eq_true rfl) (vEF a0 r h)
noncomputable def I158:Info:= { body:=(Tryz.f158.body).getD .skip,nt:=16,results:= [.tmp 2],keep:= [0,2,4,3],live:= [],modes:= [(1, [(3, .take,false),(8, .take,false)])] }
theorem xWw:FnOk Tryz.prog 158 Tryz.f158 I158:=⟨Tryz.func158,by kernel_rfl,by kernel_rfl,by kernel_rfl,by kernel_rfl⟩
abbrev xNx(v0:Val):Prop:=iY ((Val.kind v0)==1)
def xXX(a0:Val):rE I158 (xFa a0) [Y,Y] []=dn (xDm true) [xNx a0,iY true]:=by kernel_rfl
abbrev xC8(v0:Val):Prop:=iN ((Val.kind v0)==1)
abbrev xMJ(v0:Val):Prop:=iY ((Val.kind v0)==2)
def xXY(a0:Val):rE I158 (xFa a0) [F,Y] []=dn (xDm true) [xC8 a0,xMJ a0]:=by kernel_rfl
abbrev xD1(v0:Val):Prop:=iN ((Val.kind v0)==2)
def xXZ(a0:Val):rE I158 (xFa a0) [F,F] []=dn (xDm ((Val.kind a0)==3)) [xC8 a0,xD1 a0]:=by kernel_rfl
theorem vEZ{N:Nat}:∀a0 r,xI2 N a0=some r→RE Tryz.f158 I158 (xFa a0) (xDm r):=fun a0 r h =>
 cE h (fun h0 h=>dE h xWw (xXX a0) (oc2 h0 rfl on)) fun h0 h =>
 cE h (fun h1 h=>dE h xWw (xXY a0) (oc2 h0 h1 on)) fun h1 h =>
 dE h xWw (xXZ a0) (oc2 h0 h1 on)
theorem xIR{N:Nat}{a0:Val}{r:Bool}(h:xI2 N  a0=some r):AbC 158 (xFa a0) (xDm r) :=
 AbsCalls.of_reach xWw rfl rfl rfl (Nat.le_of_ble_eq_true rfl) (vEZ a0 r h)
noncomputable def I173:Info:= { body:=(Tryz.f173.body).getD .skip,nt:=10,results:= [.tmp 4],keep:= [0,2,8,14],live:= [],modes:= [] }
theorem vAD:FnOk Tryz.prog 173 Tryz.f173 I173:=⟨Tryz.func173,by kernel_rfl,by kernel_rfl,by kernel_rfl,by kernel_rfl⟩
def xYn(a0 a1:Int):rE I173 (xIu a0 a1) [Y] []=dn (xHq a0) [iY (dc (a0>a1))]:=by kernel_rfl
def xYo(a0 a1:Int):rE I173 (xIu a0 a1) [F] []=dn (xHq a1) [iN (dc (a0>a1))]:=by kernel_rfl
theorem vFb{N:Nat}:∀a0 a1 r,xKW N a0 a1=some r→RE Tryz.f173 I173 (xIu a0 a1) (xHq r):=fun a0 a1 r h =>
 cE h (fun h0 h=>dE h vAD (xYn a0 a1) (oc h0 on)) fun h0 h =>
 dE h vAD (xYo a0 a1) (oc h0 on)
theorem xRa{N:Nat}{a0:Int}{a1:Int}{r:Int}(h:xKW N  a0 a1=some r):AbC 173 (xIu a0 a1) (xHq r) :=
 AbsCalls.of_reach vAD rfl rfl rfl (Nat.le_of_ble_eq_true rfl) (vFb a0 a1 r h)
def G159(q:Val→Option (Int)):Prop:=∀a0 r,q a0=some r→AbC 159 (xFs a0) (xDx r)
noncomputable def I159:Info:= { body:=(Tryz.f159.body).getD .skip,nt:=22,results:= [.tmp 2],keep:= [0,2,4,6,8,18,3],live:= [(3, [2,6,8,3])],modes:= [] }
theorem xWx:FnOk Tryz.prog 159 Tryz.f159 I159:=⟨Tryz.func159,by kernel_rfl,by kernel_rfl,by kernel_rfl,by kernel_rfl⟩
def xRg(x3 x4:Int)(b1:Val):St:= [(2, .v false [.ptr 1 0]),(6, .v false [.int .i64 x3]),(8, .v false [.int .i64 x4]),(3, .v true [.int .i64 (Val.kind b1), .int .i64 (Val.n b1), .int .i64 (Val.step b1), .str (Val.text b1), .sl .ro .val (Val.list b1), .sl .ro .str (Val.columns b1), .sl .ro .row (Val.rows b1)])]
abbrev xP2(v0:Int)(v1:Val):=dc (v0<(Ln (Val.list v1):Int))
abbrev xTE(v0:Int)(v1:Val):Prop:=iY (xP2 v0 v1)
abbrev xPv(v0:Int)(v1:Val):Prop:=(0:Int)≤v0∧v0<(Ln (Val.list v1))
def xX0(x3 x4:Int)(b1:Val)(r1 r2:Int):rS 3 I159 (xRg x3 x4 b1) [Y] [xDx r1,xHq r2]=st 3 I159 (xRg r2 (W (x4+1)) b1) [xTE x4 b1,xPv x4 b1,AbC 159 (xFs (gD (Val.list b1) (tN x4) vd)) (xDx r1),AbC 173 (xIu x3 r1) (xHq r2)]:=by kernel_rfl
def xX1(x3 x4:Int)(b1:Val):rS 3 I159 (xRg x3 x4 b1) [F] []=dn (xDx (W (x3+1))) [iN (xP2 x4 b1)]:=by kernel_rfl
def xX2(a0:Val):rE I159 (xFs a0) [] []=st 3 I159 (xRg 0 0 a0) []:=by kernel_rfl
theorem vE0{N q0}(g0:G159 q0):∀n x3 x4 b1 r,xGg N q0 n x3 x4 b1=some r→RS Tryz.f159 I159 3 (xRg x3 x4 b1) (xDx r):=by
 intro n
 induction n with
 |zero=>exact fun _ _ _ _ h=>nE h
 |succ n ih =>
  exact fun x3 x4 b1 r h =>
   cE h (fun h0 h=>iE h fun h1 h=>bE h fun r1 h2 h=>bE h fun r2 h3 h=>tS xWx (xX0 x3 x4 b1 r1 r2) (oc4 h0 h1 (g0 _ _ h2) (xRa h3) on) (ih _ _ _ _ h)) fun h0 h =>
   dS h xWx (xX1 x3 x4 b1) (oc h0 on)
theorem vE1{N q0}(g0:G159 q0):∀a0 r,xIO N q0 a0=some r→RE Tryz.f159 I159 (xFs a0) (xDx r):=fun a0 r h =>
 tE xWx (xX2 a0) on (vE0 g0 _ _ _ _ _ h)
theorem xLZ{N q0}(g0:G159 q0){a0}{r}(h:xIO N q0 a0=some r):AbC 159 (xFs a0) (xDx r) :=
 AbsCalls.of_reach xWx rfl rfl rfl (Nat.le_of_ble_eq_true rfl) (vE1 g0 a0 r h)
theorem xJ0{N:Nat}:∀d,G159 (xEP N d)
 |0=>fun _ _ h=>nE h
 |d+1=>fun _ _ h=>xLZ (N:=N) (xJ0 d) h
theorem xOC{N:Nat}{a0:Val}{r:Int}(h:xKi N a0=some r):AbC 159 (xFs a0) (xDx r):=xJ0 N _ r h
noncomputable def I187:Info:= { body:=(Tryz.f187.body).getD .skip,nt:=45,results:= [.tmp 2],keep:= [0,4,6,8,10,18,82],live:= [(2, [0,6])],modes:= [(4, [(4, .take,false)]),(5, [(4, .take,false)]),(6, [(0, .take,false),(2, .take,false),(5, .take,false),(6, .take,false)])] }
theorem xL7:FnOk Tryz.prog 187 Tryz.f187 I187:=⟨Tryz.func187,by kernel_rfl,by kernel_rfl,by kernel_rfl,by kernel_rfl⟩
def xH8(x0:Str)(x3:Int):St:= [(0, .v false [.str x0]),(6, .v false [.int .i64 x3])]
abbrev xNh(v0:Str)(v1:Int):=(((gD v0 (tN v1) 0).toNat:Int):Int)
abbrev xLm(v0:Str)(v1:Int):Prop:=iY (dc ((xNh v0 v1)≥97))
abbrev xOs(v0:Str)(v1:Int):Prop:=iY (dc ((xNh v0 v1)≥48))
abbrev xMK(v0:Str)(v1:Int):Prop:=iY (!(dc ((xNh v0 v1)≤122)))
def xYK(x0:Str)(x3:Int):rS 2 I187 (xH8 x0 x3) [Y,Y,Y,Y,Y,Y] []=dn (xBY false) [xFV x3 x0,xBI x3 x0,xLm x0 x3,xBI x3 x0,xBI x3 x0,xOs x0 x3,xBI x3 x0,xMK x0 x3,iY (x3==0),iY true]:=by kernel_rfl
abbrev xP3(v0:Str)(v1:Int):=dc ((((gD v0 (tN v1) 0).toNat:Int):Int)≤57)
def xYL(x0:Str)(x3:Int):rS 2 I187 (xH8 x0 x3) [Y,Y,Y,Y,F,Y] []=dn (xBY false) [xFV x3 x0,xBI x3 x0,xLm x0 x3,xBI x3 x0,xBI x3 x0,xOs x0 x3,xBI x3 x0,xMK x0 x3,xKd x3,iY (!(xP3 x0 x3))]:=by kernel_rfl
def xYM(x0:Str)(x3:Int):rS 2 I187 (xH8 x0 x3) [Y,Y,Y,Y,F,F] []=st 2 I187 (xH8 x0 (W (x3+1))) [xFV x3 x0,xBI x3 x0,xLm x0 x3,xBI x3 x0,xBI x3 x0,xOs x0 x3,xBI x3 x0,xMK x0 x3,xKd x3,iN (!(xP3 x0 x3))]:=by kernel_rfl
abbrev xVt(v0:Str)(v1:Int):Prop:=iN (!(dc ((xNh v0 v1)≤122)))
def xYN(x0:Str)(x3:Int):rS 2 I187 (xH8 x0 x3) [Y,Y,Y,F,F] []=st 2 I187 (xH8 x0 (W (x3+1))) [xFV x3 x0,xBI x3 x0,xLm x0 x3,xBI x3 x0,xBI x3 x0,xOs x0 x3,xBI x3 x0,xVt x0 x3,iN false]:=by kernel_rfl
abbrev xRt(v0:Str)(v1:Int):Prop:=iN (dc ((xNh v0 v1)≥48))
def xYO(x0:Str)(x3:Int):rS 2 I187 (xH8 x0 x3) [Y,Y,F,Y,Y,Y] []=dn (xBY false) [xFV x3 x0,xBI x3 x0,xLm x0 x3,xBI x3 x0,xBI x3 x0,xRt x0 x3,xMK x0 x3,iY (x3==0),iY true]:=by kernel_rfl
def xYP(x0:Str)(x3:Int):rS 2 I187 (xH8 x0 x3) [Y,Y,F,Y,F,Y] []=dn (xBY false) [xFV x3 x0,xBI x3 x0,xLm x0 x3,xBI x3 x0,xBI x3 x0,xRt x0 x3,xMK x0 x3,xKd x3,iY (!false)]:=by kernel_rfl
def xYQ(x0:Str)(x3:Int):rS 2 I187 (xH8 x0 x3) [Y,Y,F,F,F] []=st 2 I187 (xH8 x0 (W (x3+1))) [xFV x3 x0,xBI x3 x0,xLm x0 x3,xBI x3 x0,xBI x3 x0,xRt x0 x3,xVt x0 x3,iN false]:=by kernel_rfl
abbrev xML(v0:Str)(v1:Int):Prop:=iN (dc ((xNh v0 v1)≥97))
def xYR(x0:Str)(x3:Int):rS 2 I187 (xH8 x0 x3) [Y,F,Y,Y,Y,Y] []=dn (xBY false) [xFV x3 x0,xBI x3 x0,xML x0 x3,xBI x3 x0,xOs x0 x3,xBI x3 x0,iY (!false),iY (x3==0),iY true]:=by kernel_rfl
def xYS(x0:Str)(x3:Int):rS 2 I187 (xH8 x0 x3) [Y,F,Y,Y,F,Y] []=dn (xBY false) [xFV x3 x0,xBI x3 x0,xML x0 x3,xBI x3 x0,xOs x0 x3,xBI x3 x0,iY (!false),xKd x3,iY (!(xP3 x0 x3))]:=by kernel_rfl
def xYT(x0:Str)(x3:Int):rS 2 I187 (xH8 x0 x3) [Y,F,Y,Y,F,F] []=st 2 I187 (xH8 x0 (W (x3+1))) [xFV x3 x0,xBI x3 x0,xML x0 x3,xBI x3 x0,xOs x0 x3,xBI x3 x0,iY (!false),xKd x3,iN (!(xP3 x0 x3))]:=by kernel_rfl
def xVT(x0:Str)(x3:Int):rS 2 I187 (xH8 x0 x3) [Y,F,F,Y,Y,Y] []=dn (xBY false) [xFV x3 x0,xBI x3 x0,xML x0 x3,xBI x3 x0,xRt x0 x3,iY (!false),iY (x3==0),iY true]:=by kernel_rfl
def xVU(x0:Str)(x3:Int):rS 2 I187 (xH8 x0 x3) [Y,F,F,Y,F,Y] []=dn (xBY false) [xFV x3 x0,xBI x3 x0,xML x0 x3,xBI x3 x0,xRt x0 x3,iY (!false),xKd x3,iY (!false)]:=by kernel_rfl
def xVV(x0:Str)(x3:Int):rS 2 I187 (xH8 x0 x3) [F] []=dn (xBY (dc ((Ln x0:Int)>0))) [iN (dc (x3<(Ln x0:Int)))]:=by kernel_rfl
def xVW(a0:Str):rE I187 (xGh a0) [] []=st 2 I187 (xH8 a0 0) []:=by kernel_rfl
theorem vFg{N:Nat}:∀n x0 x3 r,xDy N n x0 x3=some r→RS Tryz.f187 I187 2 (xH8 x0 x3) (xBY r):=by
 intro n
 induction n with
 |zero=>exact fun _ _ _ h=>nE h
 |succ n ih =>
  exact fun x0 x3 r h =>
   cE h (fun h0 h=>iE h fun h1 h=>cE h (fun h2 h=>cE h (fun h5 h=>cE h (fun h7 h=>cE h (fun h8 h=>dS h xL7 (xYK x0 x3) (oc10 h0 h1 h2 h1 h1 h5 h1 h7 h8 rfl on)) fun h8 h =>
   cE h (fun h9 h=>dS h xL7 (xYL x0 x3) (oc10 h0 h1 h2 h1 h1 h5 h1 h7 h8 h9 on)) fun h9 h =>
   tS xL7 (xYM x0 x3) (oc10 h0 h1 h2 h1 h1 h5 h1 h7 h8 h9 on) (ih _ _ _ h)) fun h7 h =>
   tS xL7 (xYN x0 x3) (oc9 h0 h1 h2 h1 h1 h5 h1 h7 rfl on) (ih _ _ _ h)) fun h5 h =>
   cE h (fun h6 h=>cE h (fun h7 h=>dS h xL7 (xYO x0 x3) (oc9 h0 h1 h2 h1 h1 h5 h6 h7 rfl on)) fun h7 h =>
   dS h xL7 (xYP x0 x3) (oc9 h0 h1 h2 h1 h1 h5 h6 h7 rfl on)) fun h6 h =>
   tS xL7 (xYQ x0 x3) (oc8 h0 h1 h2 h1 h1 h5 h6 rfl on) (ih _ _ _ h)) fun h2 h =>
   cE h (fun h4 h=>cE h (fun h7 h=>dS h xL7 (xYR x0 x3) (oc9 h0 h1 h2 h1 h4 h1 rfl h7 rfl on)) fun h7 h =>
   cE h (fun h8 h=>dS h xL7 (xYS x0 x3) (oc9 h0 h1 h2 h1 h4 h1 rfl h7 h8 on)) fun h8 h =>
   tS xL7 (xYT x0 x3) (oc9 h0 h1 h2 h1 h4 h1 rfl h7 h8 on) (ih _ _ _ h)) fun h4 h =>
   cE h (fun h6 h=>dS h xL7 (xVT x0 x3) (oc8 h0 h1 h2 h1 h4 rfl h6 rfl on)) fun h6 h =>
   dS h xL7 (xVU x0 x3) (oc8 h0 h1 h2 h1 h4 rfl h6 rfl on)) fun h0 h =>
   dS h xL7 (xVV x0 x3) (oc h0 on)
theorem vFh{N:Nat}:∀a0 r,xKl N a0=some r→RE Tryz.f187 I187 (xGh a0) (xBY r):=fun a0 r h =>
 tE xL7 (xVW a0) on (vFg _ _ _ _ h)
theorem xJ4{N:Nat}{a0:Str}{r:Bool}(h:xKl N  a0=some r):AbC 187 (xGh a0) (xBY r) :=
 AbsCalls.of_reach xL7 rfl rfl rfl (Nat.le_of_ble_eq_true rfl) (vFh a0 r h)
noncomputable def I196:Info:= { body:=(Tryz.f196.body).getD .skip,nt:=2,results:= [.tmp 0],keep:= [0],live:= [],modes:= [] }
theorem vFq:FnOk Tryz.prog 196 Tryz.f196 I196:=⟨Tryz.func196,by kernel_rfl,by kernel_rfl,by kernel_rfl,by kernel_rfl⟩
def xY5:rE I196 (xG2 ) [] []=dn (xFY [[108,101,116], [105,110], [105,102], [116,104,101,110], [101,108,115,101], [102,111,114], [100,111], [108,101,110], [115,117,109], [116,97,107,101], [115,107,105,112], [114,97,110,103,101], [110,116,104], [119,104,101,114,101], [107,101,101,112], [97,100,100], [103,114,111,117,112], [106,111,105,110], [99,111,108,117,109,110], [114,111,119,115], [99,108,111,99,107], [99,104,97,110,99,101], [102,105,108,101], [116,97,98,108,101]]) []:=by kernel_rfl
theorem vFk{N:Nat}:∀r,xIv N=some r→RE Tryz.f196 I196 (xG2 ) (xFY r):=fun r h =>
 dE h vFq (xY5) on
theorem xMV{N:Nat}{r:(List Str)}(h:xIv N   =some r):AbC 196 (xG2 ) (xFY r) :=
 AbsCalls.of_reach vFq rfl rfl rfl (Nat.le_of_ble_eq_true rfl) (vFk  r h)
noncomputable def I86:Info:= { body:=(Tryz.f86.body).getD .skip,nt:=18,results:= [.tmp 4],keep:= [0,2,8,10,18,34],live:= [(2, [0,2,10])],modes:= [] }
theorem fk86:FnOk Tryz.prog 86 Tryz.f86 I86:=⟨Tryz.func86,by kernel_rfl,by kernel_rfl,by kernel_rfl,by kernel_rfl⟩
def xT5(x0:List Str)(x1:Str)(x5:Int):St:= [(0, .v false [.sl .ro .str x0]),(2, .v false [.str x1]),(10, .v false [.int .i64 x5])]
abbrev xLC(v0:List Str)(v1:Int)(v2:Str):=((gD v0 (tN v1) Ty.str.dflt):Str)==v2
def vDv(x0:List Str)(x1:Str)(x5:Int):rS 2 I86 (xT5 x0 x1 x5) [Y,Y] []=dn (xD3 true) [xJk x5 x0,xGf x5 x0,iY (xLC x0 x5 x1)]:=by kernel_rfl
def vDw(x0:List Str)(x1:Str)(x5:Int):rS 2 I86 (xT5 x0 x1 x5) [Y,F] []=st 2 I86 (xT5 x0 x1 (W (x5+1))) [xJk x5 x0,xGf x5 x0,iN (xLC x0 x5 x1)]:=by kernel_rfl
def vDx(x0:List Str)(x1:Str)(x5:Int):rS 2 I86 (xT5 x0 x1 x5) [F] []=dn (xD3 false) [xL4 x5 x0]:=by kernel_rfl
def vDy(a0:List Str)(a1:Str):rE I86 (xHp a0 a1) [] []=st 2 I86 (xT5 a0 a1 0) []:=by kernel_rfl
theorem vGX{N:Nat}:∀n x0 x1 x5 r,xGB N n x0 x1 x5=some r→RS Tryz.f86 I86 2 (xT5 x0 x1 x5) (xD3 r):=by
 intro n
 induction n with
 |zero=>exact fun _ _ _ _ h=>nE h
 |succ n ih =>
  exact fun x0 x1 x5 r h =>
   cE h (fun h0 h=>iE h fun h1 h=>cE h (fun h2 h=>dS h fk86 (vDv x0 x1 x5) (oc3 h0 h1 h2 on)) fun h2 h =>
   tS fk86 (vDw x0 x1 x5) (oc3 h0 h1 h2 on) (ih _ _ _ _ h)) fun h0 h =>
   dS h fk86 (vDx x0 x1 x5) (oc h0 on)
theorem vGY{N:Nat}:∀a0 a1 r,xKV N a0 a1=some r→RE Tryz.f86 I86 (xHp a0 a1) (xD3 r):=fun a0 a1 r h =>
 tE fk86 (vDy a0 a1) on (vGX _ _ _ _ _ h)
theorem xLf{N:Nat}{a0:List Str}{a1:Str}{r:Bool}(h:xKV N  a0 a1=some r):AbC 86 (xHp a0 a1) (xD3 r) :=
 AbsCalls.of_reach fk86 rfl rfl rfl (Nat.le_of_ble_eq_true rfl) (vGY a0 a1 r h)
noncomputable def I188:Info:= { body:=(Tryz.f188.body).getD .skip,nt:=6,results:= [.tmp 2],keep:= [0,4],live:= [],modes:= [] }
theorem vFp:FnOk Tryz.prog 188 Tryz.f188 I188:=⟨Tryz.func188,by kernel_rfl,by kernel_rfl,by kernel_rfl,by kernel_rfl⟩
def xYU(a0:Str)(r1:(List Str))(r2:Bool):rE I188 (xG1 a0) [] [xFY r1,xD3 r2]=dn (xFX r2) [AbC 196 xG2 (xFY r1),AbC 86 (xHp r1 a0) (xD3 r2)]:=by kernel_rfl
theorem vFi{N:Nat}:∀a0 r,xHa N a0=some r→RE Tryz.f188 I188 (xG1 a0) (xFX r):=fun a0 r h =>
 bE h fun r1 h0 h=>bE h fun r2 h1 h=>dE h vFp (xYU a0 r1 r2) (oc2 (xMV h0) (xLf h1) on)
theorem xMT{N:Nat}{a0:Str}{r:Bool}(h:xHa N  a0=some r):AbC 188 (xG1 a0) (xFX r) :=
 AbsCalls.of_reach vFp rfl rfl rfl (Nat.le_of_ble_eq_true rfl) (vFi a0 r h)
noncomputable def I174:Info:= { body:=(Tryz.f174.body).getD .skip,nt:=15,results:= [.tmp 2],keep:= [0,4],live:= [],modes:= [(1, [(2, .take,false),(7, .take,false)])] }
theorem xWz:FnOk Tryz.prog 174 Tryz.f174 I174:=⟨Tryz.func174,by kernel_rfl,by kernel_rfl,by kernel_rfl,by kernel_rfl⟩
def xYp(a0:Str)(r1 r2:Bool):rE I174 (xDJ a0) [Y,Y] [xBY r1,xFX r2]=dn (xCV (!r2)) [AbC 187 (xGh a0) (xBY r1),iY r1,iY (dc ((Ln a0:Int)≤8)),AbC 188 (xG1 a0) (xFX r2)]:=by kernel_rfl
def xYq(a0:Str)(r1:Bool):rE I174 (xDJ a0) [Y,F] [xBY r1]=dn (xCV false) [AbC 187 (xGh a0) (xBY r1),iY r1,iN (dc ((Ln a0:Int)≤8))]:=by kernel_rfl
def xYr(a0:Str)(r1:Bool):rE I174 (xDJ a0) [F,F] [xBY r1]=dn (xCV false) [AbC 187 (xGh a0) (xBY r1),iN r1,iN false]:=by kernel_rfl
theorem vFc{N:Nat}:∀a0 r,xGM N a0=some r→RE Tryz.f174 I174 (xDJ a0) (xCV r):=fun a0 r h =>
 bE h fun r1 h0 h=>cE h (fun h1 h=>cE h (fun h2 h=>bE h fun r2 h3 h=>dE h xWz (xYp a0 r1 r2) (oc4 (xJ4 h0) h1 h2 (xMT h3) on)) fun h2 h =>
 dE h xWz (xYq a0 r1) (oc3 (xJ4 h0) h1 h2 on)) fun h1 h =>
 dE h xWz (xYr a0 r1) (oc3 (xJ4 h0) h1 rfl on)
theorem xJ1{N:Nat}{a0:Str}{r:Bool}(h:xGM N  a0=some r):AbC 174 (xDJ a0) (xCV r) :=
 AbsCalls.of_reach xWz rfl rfl rfl (Nat.le_of_ble_eq_true rfl) (vFc a0 r h)
noncomputable def I37:Info:= { body:=(Tryz.f37.body).getD .skip,nt:=18,results:= [.tmp 2],keep:= [0,4,6,14,34],live:= [(2, [0,6])],modes:= [] }
theorem fk37:FnOk Tryz.prog 37 Tryz.f37 I37:=⟨Tryz.func37,by kernel_rfl,by kernel_rfl,by kernel_rfl,by kernel_rfl⟩
def xTY(x0:List Str)(x3:Int):St:= [(0, .v false [.sl .ro .str x0]),(6, .v false [.int .i64 x3])]
def vBt(x0:List Str)(x3:Int)(r1:Bool):rS 2 I37 (xTY x0 x3) [Y,Y] [xD3 r1]=dn (xCq false) [xJk x3 x0,(0:Int)≤x3∧x3≤(Ln x0),xGf x3 x0,AbC 86 (xHp (List.take (tN x3) x0) (xHZ x0 x3)) (xD3 r1),iY r1]:=by kernel_rfl
def vBu(x0:List Str)(x3:Int)(r1:Bool):rS 2 I37 (xTY x0 x3) [Y,F] [xD3 r1]=st 2 I37 (xTY x0 (W (x3+1))) [xJk x3 x0,(0:Int)≤x3∧x3≤(Ln x0),xGf x3 x0,AbC 86 (xHp (List.take (tN x3) x0) (xHZ x0 x3)) (xD3 r1),iN r1]:=by kernel_rfl
def vBv(x0:List Str)(x3:Int):rS 2 I37 (xTY x0 x3) [F] []=dn (xCq true) [xL4 x3 x0]:=by kernel_rfl
def vBw(a0:List Str):rE I37 (xFr a0) [] []=st 2 I37 (xTY a0 0) []:=by kernel_rfl
theorem vGf{N:Nat}:∀n x0 x3 r,xDI N n x0 x3=some r→RS Tryz.f37 I37 2 (xTY x0 x3) (xCq r):=by
 intro n
 induction n with
 |zero=>exact fun _ _ _ h=>nE h
 |succ n ih =>
  exact fun x0 x3 r h =>
   cE h (fun h0 h=>iE h fun h1 h=>iE h fun h2 h=>bE h fun r1 h3 h=>cE h (fun h4 h=>dS h fk37 (vBt x0 x3 r1) (oc5 h0 h1 h2 (xLf h3) h4 on)) fun h4 h =>
   tS fk37 (vBu x0 x3 r1) (oc5 h0 h1 h2 (xLf h3) h4 on) (ih _ _ _ h)) fun h0 h =>
   dS h fk37 (vBv x0 x3) (oc h0 on)
theorem vGg{N:Nat}:∀a0 r,xGL N a0=some r→RE Tryz.f37 I37 (xFr a0) (xCq r):=fun a0 r h =>
 tE fk37 (vBw a0) on (vGf _ _ _ _ h)
theorem xGy{N:Nat}{a0:List Str}{r:Bool}(h:xGL N  a0=some r):AbC 37 (xFr a0) (xCq r) :=
 AbsCalls.of_reach fk37 rfl rfl rfl (Nat.le_of_ble_eq_true rfl) (vGg a0 r h)
noncomputable def I160:Info:= { body:=(Tryz.f160.body).getD .skip,nt:=23,results:= [.tmp 2],keep:= [0,4,6,14,30],live:= [(2, [0,6])],modes:= [(6, [(3, .take,false)])] }
theorem xUA:FnOk Tryz.prog 160 Tryz.f160 I160:=⟨Tryz.func160,by kernel_rfl,by kernel_rfl,by kernel_rfl,by kernel_rfl⟩
def xNU(x0:List Str)(x3:Int):St:= [(0, .v false [.sl .ro .str x0]),(6, .v false [.int .i64 x3])]
def xX3(x0:List Str)(x3:Int)(r1:Bool):rS 2 I160 (xNU x0 x3) [Y,Y] [xCV r1]=dn (xCB false) [xJk x3 x0,xGf x3 x0,AbC 174 (xDJ (xHZ x0 x3)) (xCV r1),iY (!r1)]:=by kernel_rfl
def xX4(x0:List Str)(x3:Int)(r1:Bool):rS 2 I160 (xNU x0 x3) [Y,F] [xCV r1]=st 2 I160 (xNU x0 (W (x3+1))) [xJk x3 x0,xGf x3 x0,AbC 174 (xDJ (xHZ x0 x3)) (xCV r1),xAA r1]:=by kernel_rfl
def xX5(x0:List Str)(x3:Int)(r1 r2:Bool):rS 2 I160 (xNU x0 x3) [F,Y] [xD9 r1,xCq r2]=dn (xCB r2) [xL4 x3 x0,AbC 120 (xGm (Ln x0:Int) 1 4) (xD9 r1),iY r1,AbC 37 (xFr x0) (xCq r2)]:=by kernel_rfl
def xX6(x0:List Str)(x3:Int)(r1:Bool):rS 2 I160 (xNU x0 x3) [F,F] [xD9 r1]=dn (xCB false) [xL4 x3 x0,AbC 120 (xGm (Ln x0:Int) 1 4) (xD9 r1),iN r1]:=by kernel_rfl
def xX7(a0:List Str):rE I160 (xE8 a0) [] []=st 2 I160 (xNU a0 0) []:=by kernel_rfl
theorem vE2{N:Nat}:∀n x0 x3 r,xE9 N n x0 x3=some r→RS Tryz.f160 I160 2 (xNU x0 x3) (xCB r):=by
 intro n
 induction n with
 |zero=>exact fun _ _ _ h=>nE h
 |succ n ih =>
  exact fun x0 x3 r h =>
   cE h (fun h0 h=>iE h fun h1 h=>bE h fun r1 h2 h=>cE h (fun h3 h=>dS h xUA (xX3 x0 x3 r1) (oc4 h0 h1 (xJ1 h2) h3 on)) fun h3 h =>
   tS xUA (xX4 x0 x3 r1) (oc4 h0 h1 (xJ1 h2) h3 on) (ih _ _ _ h)) fun h0 h =>
   bE h fun r1 h1 h=>cE h (fun h2 h=>bE h fun r2 h3 h=>dS h xUA (xX5 x0 x3 r1 r2) (oc4 h0 (xKk h1) h2 (xGy h3) on)) fun h2 h =>
   dS h xUA (xX6 x0 x3 r1) (oc3 h0 (xKk h1) h2 on)
theorem vE3{N:Nat}:∀a0 r,xI1 N a0=some r→RE Tryz.f160 I160 (xE8 a0) (xCB r):=fun a0 r h =>
 tE xUA (xX7 a0) on (vE2 _ _ _ _ h)
theorem xIQ{N:Nat}{a0:List Str}{r:Bool}(h:xI1 N  a0=some r):AbC 160 (xE8 a0) (xCB r) :=
 AbsCalls.of_reach xUA rfl rfl rfl (Nat.le_of_ble_eq_true rfl) (vE3 a0 r h)
noncomputable def I126:Info:= { body:=(Tryz.f126.body).getD .skip,nt:=24,results:= [.tmp 4],keep:= [0,2,4,6,8,5,7],live:= [],modes:= [(1, [(5, .take,false),(11, .take,false)])] }
theorem xWt:FnOk Tryz.prog 126 Tryz.f126 I126:=⟨Tryz.func126,by kernel_rfl,by kernel_rfl,by kernel_rfl,by kernel_rfl⟩
def xXz(a0 a1:Org):rE I126 (xEa a0 a1) [Y] []=dn (xBG true) [iY (dc ((Org.cell a0)<(Org.cell a1)))]:=by kernel_rfl
def xXA(a0 a1:Org):rE I126 (xEa a0 a1) [F,Y] []=dn (xBG (dc ((Org.row a0)<(Org.row a1)))) [xWE a0 a1,iY ((Org.cell a0)==(Org.cell a1))]:=by kernel_rfl
def xXB(a0 a1:Org):rE I126 (xEa a0 a1) [F,F] []=dn (xBG false) [xWE a0 a1,iN ((Org.cell a0)==(Org.cell a1))]:=by kernel_rfl
theorem vEO{N:Nat}:∀a0 a1 r,xFZ N a0 a1=some r→RE Tryz.f126 I126 (xEa a0 a1) (xBG r):=fun a0 a1 r h =>
 cE h (fun h0 h=>dE h xWt (xXz a0 a1) (oc h0 on)) fun h0 h =>
 cE h (fun h1 h=>dE h xWt (xXA a0 a1) (oc2 h0 h1 on)) fun h1 h =>
 dE h xWt (xXB a0 a1) (oc2 h0 h1 on)
theorem xDi{N:Nat}{a0:Org}{a1:Org}{r:Bool}(h:xFZ N  a0 a1=some r):AbC 126 (xEa a0 a1) (xBG r) :=
 AbsCalls.of_reach xWt rfl rfl rfl (Nat.le_of_ble_eq_true rfl) (vEO a0 a1 r h)
noncomputable def I161:Info:= { body:=(Tryz.f161.body).getD .skip,nt:=41,results:= [.tmp 2],keep:= [0,4,6,14,80],live:= [(2, [0,6])],modes:= [(4, [(6, .take,false),(14, .take,false),(17, .take,false)])] }
theorem xRm:FnOk Tryz.prog 161 Tryz.f161 I161:=⟨Tryz.func161,by kernel_rfl,by kernel_rfl,by kernel_rfl,by kernel_rfl⟩
def xL0(x0:List Org)(x3:Int):St:= [(0, .v false [.sl .ro .org x0]),(6, .v false [.int .i64 x3])]
abbrev xS1(v0:List Org)(v1:Int):=dc (((Org.cell (gD v0 (tN v1) Ty.org.dflt)):Int)<0)
def xX8(x0:List Org)(x3:Int):rS 2 I161 (xL0 x0 x3) [Y,Y,Y,Y] []=dn (xCr false) [xGI x3 x0,xEp x3 x0,iY (xS1 x0 x3),iY true,iY true]:=by kernel_rfl
abbrev xNy(v0:List Org)(v1:Int):Prop:=iN (xS1 v0 v1)
abbrev xS2(v0:List Org)(v1:Int):=dc (((Org.row (gD v0 (tN v1) Ty.org.dflt)):Int)<0)
def xX9(x0:List Org)(x3:Int):rS 2 I161 (xL0 x0 x3) [Y,F,Y,Y] []=dn (xCr false) [xGI x3 x0,xEp x3 x0,xNy x0 x3,xEp x3 x0,iY (xS2 x0 x3),iY true]:=by kernel_rfl
abbrev xPw(v0:List Org)(v1:Int):Prop:=iN (xS2 v0 v1)
def xYa(x0:List Org)(x3:Int)(r1:Bool):rS 2 I161 (xL0 x0 x3) [Y,F,F,Y,Y] [xBG r1]=dn (xCr false) [xGI x3 x0,xEp x3 x0,xNy x0 x3,xEp x3 x0,xPw x0 x3,xOn x3,(0:Int)≤(W (x3 - 1))∧(W (x3 - 1))<(Ln x0),xEp x3 x0,AbC 126 (xEa (gD x0 (tN (W (x3 - 1))) Ty.org.dflt) (xFo x0 x3)) (xBG r1),iY (!r1)]:=by kernel_rfl
def xYb(x0:List Org)(x3:Int)(r1:Bool):rS 2 I161 (xL0 x0 x3) [Y,F,F,Y,F] [xBG r1]=st 2 I161 (xL0 x0 (W (x3+1))) [xGI x3 x0,xEp x3 x0,xNy x0 x3,xEp x3 x0,xPw x0 x3,xOn x3,(0:Int)≤(W (x3 - 1))∧(W (x3 - 1))<(Ln x0),xEp x3 x0,AbC 126 (xEa (gD x0 (tN (W (x3 - 1))) Ty.org.dflt) (xFo x0 x3)) (xBG r1),xAA r1]:=by kernel_rfl
def xYc(x0:List Org)(x3:Int):rS 2 I161 (xL0 x0 x3) [Y,F,F,F,F] []=st 2 I161 (xL0 x0 (W (x3+1))) [xGI x3 x0,xEp x3 x0,xNy x0 x3,xEp x3 x0,xPw x0 x3,iN (dc (x3>0)),iN false]:=by kernel_rfl
def xYd(x0:List Org)(x3:Int):rS 2 I161 (xL0 x0 x3) [F] []=dn (xCr true) [xKe x3 x0]:=by kernel_rfl
def xYe(a0:List Org):rE I161 (xFw a0) [] []=st 2 I161 (xL0 a0 0) []:=by kernel_rfl
theorem vE4{N:Nat}:∀n x0 x3 r,xDg N n x0 x3=some r→RS Tryz.f161 I161 2 (xL0 x0 x3) (xCr r):=by
 intro n
 induction n with
 |zero=>exact fun _ _ _ h=>nE h
 |succ n ih =>
  exact fun x0 x3 r h =>
   cE h (fun h0 h=>iE h fun h1 h=>cE h (fun h2 h=>dS h xRm (xX8 x0 x3) (oc5 h0 h1 h2 rfl rfl on)) fun h2 h =>
   cE h (fun h4 h=>dS h xRm (xX9 x0 x3) (oc6 h0 h1 h2 h1 h4 rfl on)) fun h4 h =>
   cE h (fun h5 h=>iE h fun h6 h=>bE h fun r1 h8 h=>cE h (fun h9 h=>dS h xRm (xYa x0 x3 r1) (oc10 h0 h1 h2 h1 h4 h5 h6 h1 (xDi h8) h9 on)) fun h9 h =>
   tS xRm (xYb x0 x3 r1) (oc10 h0 h1 h2 h1 h4 h5 h6 h1 (xDi h8) h9 on) (ih _ _ _ h)) fun h5 h =>
   tS xRm (xYc x0 x3) (oc7 h0 h1 h2 h1 h4 h5 rfl on) (ih _ _ _ h)) fun h0 h =>
   dS h xRm (xYd x0 x3) (oc h0 on)
theorem vE5{N:Nat}:∀a0 r,xHX N a0=some r→RE Tryz.f161 I161 (xFw a0) (xCr r):=fun a0 r h =>
 tE xRm (xYe a0) on (vE4 _ _ _ _ h)
theorem xJ5{N:Nat}{a0:List Org}{r:Bool}(h:xHX N  a0=some r):AbC 161 (xFw a0) (xCr r) :=
 AbsCalls.of_reach xRm rfl rfl rfl (Nat.le_of_ble_eq_true rfl) (vE5 a0 r h)
noncomputable def I119:Info:= { body:=(Tryz.f119.body).getD .skip,nt:=55,results:= [.tmp 2],keep:= [0,2,4,6,8,10,30,40,80,90,108,3,9],live:= [(4, [2,6,3]),(10, [2,6,8,10,3,9])],modes:= [(1, [(4, .take,false)]),(7, [(7, .take,false)])] }
theorem xN6:FnOk Tryz.prog 119 Tryz.f119 I119:=⟨Tryz.func119,by kernel_rfl,by kernel_rfl,by kernel_rfl,by kernel_rfl⟩
def xNt(x3:Int)(b1:Val):St:= [(2, .v false [.ptr 1 0]),(6, .v false [.int .i64 x3]),(3, .v true [.int .i64 (Val.kind b1), .int .i64 (Val.n b1), .int .i64 (Val.step b1), .str (Val.text b1), .sl .ro .val (Val.list b1), .sl .ro .str (Val.columns b1), .sl .ro .row (Val.rows b1)])]
def xM1(x3 x5:Int)(b1:Val)(b4:Rowd):St:= [(2, .v false [.ptr 1 0]),(6, .v false [.int .i64 x3]),(8, .v false [.ptr 4 0]),(10, .v false [.int .i64 x5]),(3, .v true [.int .i64 (Val.kind b1), .int .i64 (Val.n b1), .int .i64 (Val.step b1), .str (Val.text b1), .sl .ro .val (Val.list b1), .sl .ro .str (Val.columns b1), .sl .ro .row (Val.rows b1)]),(9, .v true [.sl .ro .int (Rowd.cells b4), .sl .ro .org (Rowd.frm b4)])]
abbrev xTF(v0:Int)(v1:Rowd):Prop:=(0:Int)≤v0∧v0<(Ln (xEw v1))
abbrev xP4(v0:Rowd)(v1:Int):=gD (Rowd.cells v0) (tN v1) Ty.int.dflt
def xVP(x3 x5:Int)(b1:Val)(b4:Rowd)(r1:Bool):rS 10 I119 (xM1 x3 x5 b1 b4) [Y,Y] [xCa r1]=dn (xCM false) [iY (dc (x5<(Ln (xEw b4):Int))),xTF x5 b4,AbC 80 (xDD (xP4 b4 x5)) (xCa r1),iY (!r1)]:=by kernel_rfl
def xVQ(x3 x5:Int)(b1:Val)(b4:Rowd)(r1:Bool):rS 10 I119 (xM1 x3 x5 b1 b4) [Y,F] [xCa r1]=st 10 I119 (xM1 x3 (W (x5+1)) b1 b4) [iY (dc (x5<(Ln (xEw b4):Int))),xTF x5 b4,AbC 80 (xDD (xP4 b4 x5)) (xCa r1),xAA r1]:=by kernel_rfl
def xVR(x3 x5:Int)(b1:Val)(b4:Rowd):rS 10 I119 (xM1 x3 x5 b1 b4) [F] []=st 4 I119 (xNt (W (x3+1)) b1) [iN (dc (x5<(Ln (xEw b4):Int)))]:=by kernel_rfl
abbrev xKB(v0:Val):=(Ln (Val.rows v0):Int)
abbrev xPx(v0:Int)(v1:Val):Prop:=iY (dc (v0<(xKB v1)))
abbrev xMM(v0:Int)(v1:Val):Prop:=(0:Int)≤v0∧v0<(Ln (Val.rows v1))
abbrev xVg(v0:Val)(v1:Int):=((Ln (Rowd.cells (gD (Val.rows v0) (tN v1) rd)):Int):Int) != (Ln (Val.columns v0):Int)
def xW8(x3:Int)(b1:Val):rS 4 I119 (xNt x3 b1) [Y,Y,Y] []=dn (xCM false) [xPx x3 b1,xMM x3 b1,iY (xVg b1 x3),iY true]:=by kernel_rfl
abbrev vAh(v0:Val)(v1:Int):Prop:=iN (xVg v0 v1)
abbrev xOp(v0:Val)(v1:Int):=gD (Val.rows v0) (tN v1) rd
def xW9(x3:Int)(b1:Val)(r1:Bool):rS 4 I119 (xNt x3 b1) [Y,F,Y] [xCr r1]=dn (xCM false) [xPx x3 b1,xMM x3 b1,vAh b1 x3,AbC 161 (xFw (Rowd.frm (xOp b1 x3))) (xCr r1),iY (!r1)]:=by kernel_rfl
def xXa(x3:Int)(b1:Val)(r1:Bool):rS 4 I119 (xNt x3 b1) [Y,F,F] [xCr r1]=st 10 I119 (xM1 x3 0 b1 (xOp b1 x3)) [xPx x3 b1,xMM x3 b1,vAh b1 x3,AbC 161 (xFw (Rowd.frm (xOp b1 x3))) (xCr r1),xAA r1]:=by kernel_rfl
abbrev xTG(v0:Int)(v1:Val):Prop:=iN (dc (v0<(xKB v1)))
def xXb(x3:Int)(b1:Val):rS 4 I119 (xNt x3 b1) [F] []=dn (xCM true) [xTG x3 b1]:=by kernel_rfl
def xXc(a0:Val)(r1:Bool):rE I119 (xGi a0) [Y,Y] [xCB r1]=dn (xCM false) [AbC 160 (xE8 (xCS a0)) (xCB r1),iY (!r1),iY true]:=by kernel_rfl
abbrev xTH(v0:Val):Prop:=iY (dc ((xKB v0)>12))
def xXd(a0:Val)(r1:Bool):rE I119 (xGi a0) [F,Y] [xCB r1]=dn (xCM false) [AbC 160 (xE8 (xCS a0)) (xCB r1),xAA r1,xTH a0]:=by kernel_rfl
abbrev xTI(v0:Val):Prop:=iN (dc ((xKB v0)>12))
def xXe(a0:Val)(r1:Bool):rE I119 (xGi a0) [F,F] [xCB r1]=st 4 I119 (xNt 0 a0) [AbC 160 (xE8 (xCS a0)) (xCB r1),xAA r1,xTI a0]:=by kernel_rfl
theorem vAv{N:Nat}{k4:Int→Val→Option (Bool)}(hk4:∀z0 z1 r,k4 z0 z1=some r→RS Tryz.f119 I119 4 (xNt z0 z1) (xCM r)):∀n x3 x5 b1 b4 r,xEQ N k4 n x3 x5 b1 b4=some r→RS Tryz.f119 I119 10 (xM1 x3 x5 b1 b4) (xCM r):=by
 intro n
 induction n with
 |zero=>exact fun _ _ _ _ _ h=>nE h
 |succ n ih =>
  exact fun x3 x5 b1 b4 r h =>
   cE h (fun h0 h=>iE h fun h1 h=>bE h fun r1 h2 h=>cE h (fun h3 h=>dS h xN6 (xVP x3 x5 b1 b4 r1) (oc4 h0 h1 (xFO h2) h3 on)) fun h3 h =>
   tS xN6 (xVQ x3 x5 b1 b4 r1) (oc4 h0 h1 (xFO h2) h3 on) (ih _ _ _ _ _ h)) fun h0 h =>
   tS xN6 (xVR x3 x5 b1 b4) (oc h0 on) (hk4 _ _ _ h)
theorem vEI{N:Nat}:∀n x3 b1 r,xFx N n x3 b1=some r→RS Tryz.f119 I119 4 (xNt x3 b1) (xCM r):=by
 intro n
 induction n with
 |zero=>exact fun _ _ _ h=>nE h
 |succ n ih =>
  exact fun x3 b1 r h =>
   cE h (fun h0 h=>iE h fun h1 h=>cE h (fun h2 h=>dS h xN6 (xW8 x3 b1) (oc4 h0 h1 h2 rfl on)) fun h2 h =>
   bE h fun r1 h3 h=>cE h (fun h4 h=>dS h xN6 (xW9 x3 b1 r1) (oc5 h0 h1 h2 (xJ5 h3) h4 on)) fun h4 h =>
   tS xN6 (xXa x3 b1 r1) (oc5 h0 h1 h2 (xJ5 h3) h4 on) (vAv ih _ _ _ _ _ _ h)) fun h0 h =>
   dS h xN6 (xXb x3 b1) (oc h0 on)
theorem vEJ{N:Nat}:∀a0 r,xJa N a0=some r→RE Tryz.f119 I119 (xGi a0) (xCM r):=fun a0 r h =>
 bE h fun r1 h0 h=>cE h (fun h1 h=>dE h xN6 (xXc a0 r1) (oc3 (xIQ h0) h1 rfl on)) fun h1 h =>
 cE h (fun h2 h=>dE h xN6 (xXd a0 r1) (oc3 (xIQ h0) h1 h2 on)) fun h2 h =>
 tE xN6 (xXe a0 r1) (oc3 (xIQ h0) h1 h2 on) (vEI _ _ _ _ h)
theorem xOJ{N:Nat}{a0:Val}{r:Bool}(h:xJa N  a0=some r):AbC 119 (xGi a0) (xCM r) :=
 AbsCalls.of_reach xN6 rfl rfl rfl (Nat.le_of_ble_eq_true rfl) (vEJ a0 r h)
def G75(q:Val→Option (Bool)):Prop:=∀a0 r,q a0=some r→AbC 75 (xAC a0) (xAv r)
def G118(q:Val→Option (Bool)):Prop:=∀a0 r,q a0=some r→AbC 118 (xHM a0) (xDU r)
noncomputable def I75:Info:= { body:=(Tryz.f75.body).getD .skip,nt:=95,results:= [.tmp 2],keep:= [0,2,4,52,88,92,94,104,124,142,162,180,3],live:= [],modes:= [(1, [(3, .take,false),(9, .take,false),(13, .take,false)]),(3, [(3, .take,false),(8, .take,false),(12, .take,false)]),(9, [(3, .take,false)]),(11, [(3, .take,false)]),(13, [(3, .take,false)]),(15, [(3, .take,false)])] }
theorem fk75:FnOk Tryz.prog 75 Tryz.f75 I75:=⟨Tryz.func75,by kernel_rfl,by kernel_rfl,by kernel_rfl,by kernel_rfl⟩
abbrev xJl(v0:Val):Prop:=iY ((Val.kind v0) != 3)
abbrev xOo(v0:Val):=(Ln (Val.list v0):Int)
def vDb(a0:Val):rE I75 (xAC a0) [Y,Y,Y] []=dn (xAv false) [xJl a0,iY (dc ((xOo a0)>0)),iY true]:=by kernel_rfl
abbrev xJV(v0:Val):Prop:=iN (dc ((xOo v0)>0))
abbrev xJm(v0:Val):Prop:=iY ((Val.kind v0) != 5)
abbrev xVh(v0:Val):=dc (((W ((Ln (Val.columns v0):Int)+(Ln (Val.rows v0):Int))):Int)>0)
abbrev vAi(v0:Val):Prop:=iY (xVh v0)
def vDc(a0:Val):rE I75 (xAC a0) [Y,F,Y,Y] []=dn (xAv false) [xJl a0,xJV a0,xJm a0,vAi a0]:=by kernel_rfl
abbrev xKf(v0:Val):Prop:=iN (xVh v0)
abbrev xJW(v0:Val):Prop:=iY ((Val.kind v0) != 2)
abbrev xP6(v0:Val):=((Val.text v0):Str)== []
abbrev xVu(v0:Val):Prop:=iY (!(xP6 v0))
def vDd(a0:Val):rE I75 (xAC a0) [Y,F,Y,F,Y,Y,Y] []=dn (xAv false) [xJl a0,xJV a0,xJm a0,xKf a0,xJW a0,xVu a0,iY true]:=by kernel_rfl
abbrev xLn(v0:Val):Prop:=iN (!(xP6 v0))
abbrev xKR(v0:Val):Prop:=iY ((Val.kind v0) != 4)
abbrev xTJ(v0:Val):Prop:=iY ((Val.step v0) != 0)
def vDe(a0:Val):rE I75 (xAC a0) [Y,F,Y,F,Y,F,Y,Y] []=dn (xAv false) [xJl a0,xJV a0,xJm a0,xKf a0,xJW a0,xLn a0,xKR a0,xTJ a0]:=by kernel_rfl
abbrev xMN(v0:Val):Prop:=iN ((Val.step v0) != 0)
def vDf(a0:Val)(r1:Bool):rE I75 (xAC a0) [Y,F,Y,F,Y,F,Y,F,Y] [xCa r1]=dn (xAv r1) [xJl a0,xJV a0,xJm a0,xKf a0,xJW a0,xLn a0,xKR a0,xMN a0,xNx a0,AbC 80 (xDD (Val.n a0)) (xCa r1)]:=by kernel_rfl
abbrev xMO(v0:Val):Prop:=iN ((Val.kind v0)==3)
abbrev xF4(v0:Val):Prop:=iN ((Val.kind v0)==4)
abbrev xNz(v0:Val):Prop:=iN ((Val.kind v0)==5)
abbrev xOt(v0:Val):Prop:=iY ((Val.kind v0)==6)
def vDg(a0:Val)(r1:Bool):rE I75 (xAC a0) [Y,F,Y,F,Y,F,Y,F,F,F,F,F,F,Y] [xD9 r1]=dn (xAv r1) [xJl a0,xJV a0,xJm a0,xKf a0,xJW a0,xLn a0,xKR a0,xMN a0,xC8 a0,xD1 a0,xMO a0,xF4 a0,xNz a0,xOt a0,AbC 120 (xGm (Val.n a0) 1 8) (xD9 r1)]:=by kernel_rfl
abbrev xIs(v0:Val):Prop:=iN ((Val.kind v0)==6)
def vDh(a0:Val):rE I75 (xAC a0) [Y,F,Y,F,Y,F,Y,F,F,F,F,F,F,F] []=dn (xAv false) [xJl a0,xJV a0,xJm a0,xKf a0,xJW a0,xLn a0,xKR a0,xMN a0,xC8 a0,xD1 a0,xMO a0,xF4 a0,xNz a0,xIs a0]:=by kernel_rfl
abbrev xNA(v0:Val):Prop:=iY ((Val.kind v0)==4)
def vDi(a0:Val)(r1 r2:Bool):rE I75 (xAC a0) [Y,F,Y,F,Y,F,F,F,F,F,F,Y,Y] [xCa r1,xCa r2]=dn (xAv r2) [xJl a0,xJV a0,xJm a0,xKf a0,xJW a0,xLn a0,iN ((Val.kind a0) != 4),iN false,xC8 a0,xD1 a0,xMO a0,xNA a0,AbC 80 (xDD (Val.n a0)) (xCa r1),iY r1,AbC 80 (xDD (Val.step a0)) (xCa r2)]:=by kernel_rfl
def vDj(a0:Val)(r1:Bool):rE I75 (xAC a0) [Y,F,Y,F,Y,F,F,F,F,F,F,Y,F] [xCa r1]=dn (xAv false) [xJl a0,xJV a0,xJm a0,xKf a0,xJW a0,xLn a0,iN ((Val.kind a0) != 4),iN false,xC8 a0,xD1 a0,xMO a0,xNA a0,AbC 80 (xDD (Val.n a0)) (xCa r1),iN r1]:=by kernel_rfl
def vDk(a0:Val):rE I75 (xAC a0) [Y,F,Y,F,F,F,Y,Y] []=dn (xAv false) [xJl a0,xJV a0,xJm a0,xKf a0,iN ((Val.kind a0) != 2),iN false,xKR a0,xTJ a0]:=by kernel_rfl
abbrev xH4(v0:Val):Prop:=iY ((Val.n v0)==0)
def xZW(a0:Val)(r1:Bool):rE I75 (xAC a0) [Y,F,Y,F,F,F,Y,F,F,Y,Y] [xCW r1]=dn (xAv r1) [xJl a0,xJV a0,xJm a0,xKf a0,iN ((Val.kind a0) != 2),iN false,xKR a0,xMN a0,xC8 a0,xMJ a0,xH4 a0,AbC 117 (xGA (Val.text a0)) (xCW r1)]:=by kernel_rfl
abbrev xNB(v0:Val):Prop:=iN ((Val.n v0)==0)
def xZX(a0:Val):rE I75 (xAC a0) [Y,F,Y,F,F,F,Y,F,F,Y,F] []=dn (xAv false) [xJl a0,xJV a0,xJm a0,xKf a0,iN ((Val.kind a0) != 2),iN false,xKR a0,xMN a0,xC8 a0,xMJ a0,xNB a0]:=by kernel_rfl
abbrev xTK(v0:Val):Prop:=iN ((Val.kind v0) != 5)
def xZY(a0:Val):rE I75 (xAC a0) [Y,F,F,F,Y,Y,Y] []=dn (xAv false) [xJl a0,xJV a0,xTK a0,iN false,xJW a0,xVu a0,iY true]:=by kernel_rfl
def xZZ(a0:Val):rE I75 (xAC a0) [Y,F,F,F,Y,F,Y,Y] []=dn (xAv false) [xJl a0,xJV a0,xTK a0,iN false,xJW a0,xLn a0,xKR a0,xTJ a0]:=by kernel_rfl
abbrev xKg(v0:Val):Prop:=iY ((Val.kind v0)==5)
def xZ0(a0:Val)(r1:Bool):rE I75 (xAC a0) [Y,F,F,F,Y,F,Y,F,F,F,F,F,Y,Y] [xCM r1]=dn (xAv r1) [xJl a0,xJV a0,xTK a0,iN false,xJW a0,xLn a0,xKR a0,xMN a0,xC8 a0,xD1 a0,xMO a0,xF4 a0,xKg a0,xH4 a0,AbC 119 (xGi a0) (xCM r1)]:=by kernel_rfl
def xZ1(a0:Val):rE I75 (xAC a0) [Y,F,F,F,Y,F,Y,F,F,F,F,F,Y,F] []=dn (xAv false) [xJl a0,xJV a0,xTK a0,iN false,xJW a0,xLn a0,xKR a0,xMN a0,xC8 a0,xD1 a0,xMO a0,xF4 a0,xKg a0,xNB a0]:=by kernel_rfl
abbrev xRu(v0:Val):Prop:=iN ((Val.kind v0) != 3)
def xZ2(a0:Val):rE I75 (xAC a0) [F,F,Y,Y] []=dn (xAv false) [xRu a0,iN false,xJm a0,vAi a0]:=by kernel_rfl
def xZ3(a0:Val):rE I75 (xAC a0) [F,F,Y,F,Y,Y,Y] []=dn (xAv false) [xRu a0,iN false,xJm a0,xKf a0,xJW a0,xVu a0,iY true]:=by kernel_rfl
def xZ4(a0:Val):rE I75 (xAC a0) [F,F,Y,F,Y,F,Y,Y] []=dn (xAv false) [xRu a0,iN false,xJm a0,xKf a0,xJW a0,xLn a0,xKR a0,xTJ a0]:=by kernel_rfl
abbrev xRv(v0:Val):Prop:=iY ((Val.kind v0)==3)
def xZ5(a0:Val)(r1:Bool):rE I75 (xAC a0) [F,F,Y,F,Y,F,Y,F,F,F,Y,Y] [xDU r1]=dn (xAv r1) [xRu a0,iN false,xJm a0,xKf a0,xJW a0,xLn a0,xKR a0,xMN a0,xC8 a0,xD1 a0,xRv a0,xH4 a0,AbC 118 (xHM a0) (xDU r1)]:=by kernel_rfl
def xZ6(a0:Val):rE I75 (xAC a0) [F,F,Y,F,Y,F,Y,F,F,F,Y,F] []=dn (xAv false) [xRu a0,iN false,xJm a0,xKf a0,xJW a0,xLn a0,xKR a0,xMN a0,xC8 a0,xD1 a0,xRv a0,xNB a0]:=by kernel_rfl
theorem vGR{N q0 q1}(g0:G75 q0)(g1:G118 q1):∀a0 r,xEe N q0 q1 a0=some r→RE Tryz.f75 I75 (xAC a0) (xAv r):=fun a0 r h =>
 cE h (fun h0 h=>cE h (fun h1 h=>dE h fk75 (vDb a0) (oc3 h0 h1 rfl on)) fun h1 h =>
 cE h (fun h2 h=>cE h (fun h3 h=>dE h fk75 (vDc a0) (oc4 h0 h1 h2 h3 on)) fun h3 h =>
 cE h (fun h4 h=>cE h (fun h5 h=>dE h fk75 (vDd a0) (oc7 h0 h1 h2 h3 h4 h5 rfl on)) fun h5 h =>
 cE h (fun h6 h=>cE h (fun h7 h=>dE h fk75 (vDe a0) (oc8 h0 h1 h2 h3 h4 h5 h6 h7 on)) fun h7 h =>
 cE h (fun h8 h=>bE h fun r1 h9 h=>dE h fk75 (vDf a0 r1) (oc10 h0 h1 h2 h3 h4 h5 h6 h7 h8 (xFO h9) on)) fun h8 h =>
 cE h (fun h13 h=>bE h fun r1 h14 h=>dE h fk75 (vDg a0 r1) (oc12 h0 h1 h2 h3 h4 h5 h6 h7 h8 (zJq h4) (zJq h0) (zJq h6) (oc3 (zJq h2) h13 (xKk h14) on))) fun h13 h =>
 dE h fk75 (vDh a0) (oc12 h0 h1 h2 h3 h4 h5 h6 h7 h8 (zJq h4) (zJq h0) (zJq h6) (oc2 (zJq h2) h13 on))) fun h6 h =>
 bE h fun r1 h12 h=>cE h (fun h13 h=>bE h fun r2 h14 h=>dE h fk75 (vDi a0 r1 r2) (oc12 h0 h1 h2 h3 h4 h5 h6 rfl (eq_ne (zJq h6) rfl) (zJq h4) (zJq h0) (zJq h6) (oc3 (xFO h12) h13 (xFO h14) on))) fun h13 h =>
 dE h fk75 (vDj a0 r1) (oc12 h0 h1 h2 h3 h4 h5 h6 rfl (eq_ne (zJq h6) rfl) (zJq h4) (zJq h0) (zJq h6) (oc2 (xFO h12) h13 on))) fun h4 h =>
 cE h (fun h7 h=>dE h fk75 (vDk a0) (oc8 h0 h1 h2 h3 h4 rfl (zJp (eq_ne (zJq h4) rfl)) h7 on)) fun h7 h =>
 cE h (fun h10 h=>bE h fun r1 h11 h=>dE h fk75 (xZW a0 r1) (oc12 h0 h1 h2 h3 h4 rfl (zJp (eq_ne (zJq h4) rfl)) h7 (eq_ne (zJq h4) rfl) (zJq h4) h10 (xMp h11) on)) fun h10 h =>
 dE h fk75 (xZX a0) (oc11 h0 h1 h2 h3 h4 rfl (zJp (eq_ne (zJq h4) rfl)) h7 (eq_ne (zJq h4) rfl) (zJq h4) h10 on)) fun h2 h =>
 cE h (fun h5 h=>dE h fk75 (xZY a0) (oc7 h0 h1 h2 rfl (zJp (eq_ne (zJq h2) rfl)) h5 rfl on)) fun h5 h =>
 cE h (fun h7 h=>dE h fk75 (xZZ a0) (oc8 h0 h1 h2 rfl (zJp (eq_ne (zJq h2) rfl)) h5 (zJp (eq_ne (zJq h2) rfl)) h7 on)) fun h7 h =>
 cE h (fun h13 h=>bE h fun r1 h14 h=>dE h fk75 (xZ0 a0 r1) (oc12 h0 h1 h2 rfl (zJp (eq_ne (zJq h2) rfl)) h5 (zJp (eq_ne (zJq h2) rfl)) h7 (eq_ne (zJq h2) rfl) (eq_ne (zJq h2) rfl) (zJq h0) (eq_ne (zJq h2) rfl) (oc3 (zJq h2) h13 (xOJ h14) on))) fun h13 h =>
 dE h fk75 (xZ1 a0) (oc12 h0 h1 h2 rfl (zJp (eq_ne (zJq h2) rfl)) h5 (zJp (eq_ne (zJq h2) rfl)) h7 (eq_ne (zJq h2) rfl) (eq_ne (zJq h2) rfl) (zJq h0) (eq_ne (zJq h2) rfl) (oc2 (zJq h2) h13 on))) fun h0 h =>
 cE h (fun h3 h=>dE h fk75 (xZ2 a0) (oc4 h0 rfl (zJp (eq_ne (zJq h0) rfl)) h3 on)) fun h3 h =>
 cE h (fun h5 h=>dE h fk75 (xZ3 a0) (oc7 h0 rfl (zJp (eq_ne (zJq h0) rfl)) h3 (zJp (eq_ne (zJq h0) rfl)) h5 rfl on)) fun h5 h =>
 cE h (fun h7 h=>dE h fk75 (xZ4 a0) (oc8 h0 rfl (zJp (eq_ne (zJq h0) rfl)) h3 (zJp (eq_ne (zJq h0) rfl)) h5 (zJp (eq_ne (zJq h0) rfl)) h7 on)) fun h7 h =>
 cE h (fun h11 h=>bE h fun r1 h12 h=>dE h fk75 (xZ5 a0 r1) (oc12 h0 rfl (zJp (eq_ne (zJq h0) rfl)) h3 (zJp (eq_ne (zJq h0) rfl)) h5 (zJp (eq_ne (zJq h0) rfl)) h7 (eq_ne (zJq h0) rfl) (eq_ne (zJq h0) rfl) (zJq h0) h11 (oc (g1 _ _ h12) on))) fun h11 h =>
 dE h fk75 (xZ6 a0) (oc12 h0 rfl (zJp (eq_ne (zJq h0) rfl)) h3 (zJp (eq_ne (zJq h0) rfl)) h5 (zJp (eq_ne (zJq h0) rfl)) h7 (eq_ne (zJq h0) rfl) (eq_ne (zJq h0) rfl) (zJq h0) h11 on)
theorem xKE{N q0 q1}(g0:G75 q0)(g1:G118 q1){a0}{r}(h:xEe N q0 q1 a0=some r):AbC 75 (xAC a0) (xAv r) :=
 AbsCalls.of_reach fk75 rfl rfl rfl (Nat.le_of_ble_eq_true rfl) (vGR g0 g1 a0 r h)
noncomputable def I118:Info:= { body:=(Tryz.f118.body).getD .skip,nt:=36,results:= [.tmp 2],keep:= [0,2,4,6,16,52,3],live:= [(2, [2,6,3])],modes:= [(4, [(7, .take,false)]),(6, [(4, .take,false)])] }
theorem xSN:FnOk Tryz.prog 118 Tryz.f118 I118:=⟨Tryz.func118,by kernel_rfl,by kernel_rfl,by kernel_rfl,by kernel_rfl⟩
def xNs(x3:Int)(b1:Val):St:= [(2, .v false [.ptr 1 0]),(6, .v false [.int .i64 x3]),(3, .v true [.int .i64 (Val.kind b1), .int .i64 (Val.n b1), .int .i64 (Val.step b1), .str (Val.text b1), .sl .ro .val (Val.list b1), .sl .ro .str (Val.columns b1), .sl .ro .row (Val.rows b1)])]
abbrev xVv(v0:Val)(v1:Int)(v2:Bool):Prop:=AbC 158 (xFa (gD (Val.list v0) (tN v1) vd)) (xDm v2)
def xW2(x3:Int)(b1:Val)(r1:Bool):rS 2 I118 (xNs x3 b1) [Y,Y,Y] [xDm r1]=dn (xDU false) [xTE x3 b1,xPv x3 b1,xVv b1 x3 r1,iY (!r1),iY true]:=by kernel_rfl
def xW3(x3:Int)(b1:Val)(r1 r2:Bool):rS 2 I118 (xNs x3 b1) [Y,F,Y] [xDm r1,xAv r2]=dn (xDU false) [xTE x3 b1,xPv x3 b1,xVv b1 x3 r1,xAA r1,xPv x3 b1,AbC 75 (xAC (gD (Val.list b1) (tN x3) vd)) (xAv r2),iY (!r2)]:=by kernel_rfl
def xW4(x3:Int)(b1:Val)(r1 r2:Bool):rS 2 I118 (xNs x3 b1) [Y,F,F] [xDm r1,xAv r2]=st 2 I118 (xNs (W (x3+1)) b1) [xTE x3 b1,xPv x3 b1,xVv b1 x3 r1,xAA r1,xPv x3 b1,AbC 75 (xAC (gD (Val.list b1) (tN x3) vd)) (xAv r2),xAA r2]:=by kernel_rfl
abbrev xP7(v0:Val):=dc ((Ln (Val.list v0):Int)≤8)
def xW5(x3:Int)(b1:Val)(r1:Int):rS 2 I118 (xNs x3 b1) [F,Y] [xDx r1]=dn (xDU (dc (r1≤3))) [iN (xP2 x3 b1),iY (xP7 b1),AbC 159 (xFs b1) (xDx r1)]:=by kernel_rfl
def xW6(x3:Int)(b1:Val):rS 2 I118 (xNs x3 b1) [F,F] []=dn (xDU false) [iN (xP2 x3 b1),iN (xP7 b1)]:=by kernel_rfl
def xW7(a0:Val):rE I118 (xHM a0) [] []=st 2 I118 (xNs 0 a0) []:=by kernel_rfl
theorem vEG{N q0 q1}(g0:G75 q0)(g1:G118 q1):∀n x3 b1 r,xEZ N q0 q1 n x3 b1=some r→RS Tryz.f118 I118 2 (xNs x3 b1) (xDU r):=by
 intro n
 induction n with
 |zero=>exact fun _ _ _ h=>nE h
 |succ n ih =>
  exact fun x3 b1 r h =>
   cE h (fun h0 h=>iE h fun h1 h=>bE h fun r1 h2 h=>cE h (fun h3 h=>dS h xSN (xW2 x3 b1 r1) (oc5 h0 h1 (xIR h2) h3 rfl on)) fun h3 h =>
   bE h fun r2 h5 h=>cE h (fun h6 h=>dS h xSN (xW3 x3 b1 r1 r2) (oc7 h0 h1 (xIR h2) h3 h1 (g0 _ _ h5) h6 on)) fun h6 h =>
   tS xSN (xW4 x3 b1 r1 r2) (oc7 h0 h1 (xIR h2) h3 h1 (g0 _ _ h5) h6 on) (ih _ _ _ h)) fun h0 h =>
   cE h (fun h1 h=>bE h fun r1 h2 h=>dS h xSN (xW5 x3 b1 r1) (oc3 h0 h1 (xOC h2) on)) fun h1 h =>
   dS h xSN (xW6 x3 b1) (oc2 h0 h1 on)
theorem vEH{N q0 q1}(g0:G75 q0)(g1:G118 q1):∀a0 r,xJi N q0 q1 a0=some r→RE Tryz.f118 I118 (xHM a0) (xDU r):=fun a0 r h =>
 tE xSN (xW7 a0) on (vEG g0 g1 _ _ _ _ h)
theorem xMr{N q0 q1}(g0:G75 q0)(g1:G118 q1){a0}{r}(h:xJi N q0 q1 a0=some r):AbC 118 (xHM a0) (xDU r) :=
 AbsCalls.of_reach xSN rfl rfl rfl (Nat.le_of_ble_eq_true rfl) (vEH g0 g1 a0 r h)
theorem xKU{N:Nat}:∀d,G75 (xAP N d).c_spec_IsValidValue∧G118 (xAP N d).c_spec_l3List:=by
 intro d
 induction d with
 |zero=>exact⟨fun _ _ h=>nE h,fun _ _ h=>nE h⟩
 |succ d ih =>
  obtain⟨ih0,ih1⟩:=ih
  exact⟨fun _ _ h=>xKE (N:=N) ih0 ih1 h,fun _ _ h=>xMr (N:=N) ih0 ih1 h⟩
theorem xHC{N:Nat}{a0:Val}{r:Bool}(h:xIP N a0=some r):AbC 75 (xAC a0) (xAv r):=(xKU N).1 _ r h
noncomputable def I36:Info:= { body:=(Tryz.f36.body).getD .skip,nt:=5,results:= [.cell 2 31],keep:= [0,4,5],live:= [],modes:= [] }
theorem fk36:FnOk Tryz.prog 36 Tryz.f36 I36:=⟨Tryz.func36,by kernel_rfl,by kernel_rfl,by kernel_rfl,by kernel_rfl⟩
def vBs(a0:Int):rE I36 (xCE a0) [] []=dn (xBg (Val.mk 6 a0 0 [] [] [] [])) []:=by kernel_rfl
theorem vGe{N:Nat}:∀a0 r,xB5 N a0=some r→RE Tryz.f36 I36 (xCE a0) (xBg r):=fun a0 r h =>
 dE h fk36 (vBs a0) on
theorem xDr{N:Nat}{a0:Int}{r:Val}(h:xB5 N  a0=some r):AbC 36 (xCE a0) (xBg r) :=
 AbsCalls.of_reach fk36 rfl rfl rfl (Nat.le_of_ble_eq_true rfl) (vGe a0 r h)
noncomputable def I85:Info:= { body:=(Tryz.f85.body).getD .skip,nt:=31,results:= [.cell 2 31, .tmp 3],keep:= [0,4,6,8,16,32,46,5],live:= [(2, [0,4,8,5])],modes:= [] }
theorem fk85:FnOk Tryz.prog 85 Tryz.f85 I85:=⟨Tryz.func85,by kernel_rfl,by kernel_rfl,by kernel_rfl,by kernel_rfl⟩
def xSo(x0:List Val)(x4:Int)(b2:Val):St:= [(0, .v false [.sl .ro .val x0]),(4, .v false [.ptr 2 0]),(8, .v false [.int .i64 x4]),(5, .v true [.int .i64 (Val.kind b2), .int .i64 (Val.n b2), .int .i64 (Val.step b2), .str (Val.text b2), .sl .own .val (Val.list b2), .sl .own .str (Val.columns b2), .sl .own .row (Val.rows b2)])]
def vDq(x0:List Val)(x4:Int)(b2:Val)(r1:Bool)(r2:Val):rS 2 I85 (xSo x0 x4 b2) [Y,Y] [xAv r1,xBg r2]=dn (xDz (r2,true)) [xIr x4 x0,xCi x4 x0,AbC 75 (xAC (xIN x0 x4)) (xAv r1),iY (!r1),AbC 36 (xCE 4) (xBg r2)]:=by kernel_rfl
abbrev xP8(v0:List Val)(v1:Int):=((Val.kind (gD v0 (tN v1) vd)):Int)==6
abbrev xS3(v0:List Val)(v1:Int):=Val.n (gD v0 (tN v1) vd)
def vDr(x0:List Val)(x4:Int)(b2:Val)(r1:Bool)(r2:Val):rS 2 I85 (xSo x0 x4 b2) [Y,F,Y] [xAv r1,xBg r2]=dn (xDz (r2,true)) [xIr x4 x0,xCi x4 x0,AbC 75 (xAC (xIN x0 x4)) (xAv r1),xAA r1,xCi x4 x0,iY (xP8 x0 x4),xCi x4 x0,AbC 36 (xCE (xS3 x0 x4)) (xBg r2)]:=by kernel_rfl
def vDs(x0:List Val)(x4:Int)(b2:Val)(r1:Bool):rS 2 I85 (xSo x0 x4 b2) [Y,F,F] [xAv r1]=st 2 I85 (xSo x0 (W (x4+1)) b2) [xIr x4 x0,xCi x4 x0,AbC 75 (xAC (xIN x0 x4)) (xAv r1),xAA r1,xCi x4 x0,iN (xP8 x0 x4)]:=by kernel_rfl
def vDt(x0:List Val)(x4:Int)(b2:Val):rS 2 I85 (xSo x0 x4 b2) [F] []=dn (xDz ((Val.mk 0 0 0 [] [] [] []),false)) [xOr x4 x0]:=by kernel_rfl
def vDu(a0:List Val):rE I85 (xHc a0) [] []=st 2 I85 (xSo a0 0 (Val.mk 0 0 0 [] [] [] [])) []:=by kernel_rfl
theorem vGV{N:Nat}:∀n x0 x4 b2 r,xEz N n x0 x4 b2=some r→RS Tryz.f85 I85 2 (xSo x0 x4 b2) (xDz r):=by
 intro n
 induction n with
 |zero=>exact fun _ _ _ _ h=>nE h
 |succ n ih =>
  exact fun x0 x4 b2 r h =>
   cE h (fun h0 h=>iE h fun h1 h=>bE h fun r1 h2 h=>cE h (fun h3 h=>bE h fun r2 h4 h=>dS h fk85 (vDq x0 x4 b2 r1 r2) (oc5 h0 h1 (xHC h2) h3 (xDr h4) on)) fun h3 h =>
   cE h (fun h5 h=>bE h fun r2 h7 h=>dS h fk85 (vDr x0 x4 b2 r1 r2) (oc8 h0 h1 (xHC h2) h3 h1 h5 h1 (xDr h7) on)) fun h5 h =>
   tS fk85 (vDs x0 x4 b2 r1) (oc6 h0 h1 (xHC h2) h3 h1 h5 on) (ih _ _ _ _ h)) fun h0 h =>
   dS h fk85 (vDt x0 x4 b2) (oc h0 on)
theorem vGW{N:Nat}:∀a0 r,xKm N a0=some r→RE Tryz.f85 I85 (xHc a0) (xDz r):=fun a0 r h =>
 tE fk85 (vDu a0) on (vGV _ _ _ _ _ h)
theorem xLH{N:Nat}{a0:List Val}{r:Val × Bool}(h:xKm N  a0=some r):AbC 85 (xHc a0) (xDz r) :=
 AbsCalls.of_reach fk85 rfl rfl rfl (Nat.le_of_ble_eq_true rfl) (vGW a0 r h)
noncomputable def I35:Info:= { body:=(Tryz.f35.body).getD .skip,nt:=34,results:= [.cell 4 31, .tmp 5],keep:= [0,2,8,10,12,14,16,28,38,62,9,13],live:= [(5, [0,2,8,16,9])],modes:= [(1, [(2, .take,false)]),(2, [(0, .take,false)]),(3, [(0, .take,false)])] }
theorem fk35:FnOk Tryz.prog 35 Tryz.f35 I35:=⟨Tryz.func35,by kernel_rfl,by kernel_rfl,by kernel_rfl,by kernel_rfl⟩
def xTX(x0:List Val)(x1:List Int)(x8:Int)(b4:Val):St:= [(0, .v false [.sl .ro .val x0]),(2, .v false [.sl .ro .int x1]),(8, .v false [.ptr 4 0]),(16, .v false [.int .i64 x8]),(9, .v true [.int .i64 (Val.kind b4), .int .i64 (Val.n b4), .int .i64 (Val.step b4), .str (Val.text b4), .sl .own .val (Val.list b4), .sl .own .str (Val.columns b4), .sl .own .row (Val.rows b4)])]
abbrev xP9(v0:List Val)(v1:Int)(v2:List Int):=((Val.kind (gD v0 (tN v1) vd)):Int) != (gD v2 (tN v1) Ty.int.dflt)
def vBn(x0:List Val)(x1:List Int)(x8:Int)(b4 r1:Val):rS 5 I35 (xTX x0 x1 x8 b4) [Y,Y] [xBg r1]=dn (xCN (r1,true)) [xIr x8 x0,xCi x8 x0,xJU x8 x1,iY (xP9 x0 x8 x1),AbC 36 (xCE 4) (xBg r1)]:=by kernel_rfl
def vBo(x0:List Val)(x1:List Int)(x8:Int)(b4:Val):rS 5 I35 (xTX x0 x1 x8 b4) [Y,F] []=st 5 I35 (xTX x0 x1 (W (x8+1)) b4) [xIr x8 x0,xCi x8 x0,xJU x8 x1,iN (xP9 x0 x8 x1)]:=by kernel_rfl
def vBp(x0:List Val)(x1:List Int)(x8:Int)(b4:Val):rS 5 I35 (xTX x0 x1 x8 b4) [F] []=dn (xCN ((Val.mk 0 0 0 [] [] [] []),false)) [xOr x8 x0]:=by kernel_rfl
def vBq(a0:List Val)(a1:List Int)(r1:Val × Bool):rE I35 (xHd a0 a1) [Y] [xDz r1]=dn (xCN (r1.1,true)) [AbC 85 (xHc a0) (xDz r1),iY r1.2]:=by kernel_rfl
def vBr(a0:List Val)(a1:List Int)(r1:Val × Bool):rE I35 (xHd a0 a1) [F] [xDz r1]=st 5 I35 (xTX a0 a1 0 (Val.mk 0 0 0 [] [] [] [])) [AbC 85 (xHc a0) (xDz r1),iN r1.2]:=by kernel_rfl
theorem vGc{N:Nat}:∀n x0 x1 x8 b4 r,xEA N n x0 x1 x8 b4=some r→RS Tryz.f35 I35 5 (xTX x0 x1 x8 b4) (xCN r):=by
 intro n
 induction n with
 |zero=>exact fun _ _ _ _ _ h=>nE h
 |succ n ih =>
  exact fun x0 x1 x8 b4 r h =>
   cE h (fun h0 h=>iE h fun h1 h=>iE h fun h2 h=>cE h (fun h3 h=>bE h fun r1 h4 h=>dS h fk35 (vBn x0 x1 x8 b4 r1) (oc5 h0 h1 h2 h3 (xDr h4) on)) fun h3 h =>
   tS fk35 (vBo x0 x1 x8 b4) (oc4 h0 h1 h2 h3 on) (ih _ _ _ _ _ h)) fun h0 h =>
   dS h fk35 (vBp x0 x1 x8 b4) (oc h0 on)
theorem vGd{N:Nat}:∀a0 a1 r,xJb N a0 a1=some r→RE Tryz.f35 I35 (xHd a0 a1) (xCN r):=fun a0 a1 r h =>
 bE h fun r1 h0 h=>cE h (fun h1 h=>dE h fk35 (vBq a0 a1 r1) (oc2 (xLH h0) h1 on)) fun h1 h =>
 tE fk35 (vBr a0 a1 r1) (oc2 (xLH h0) h1 on) (vGc _ _ _ _ _ _ h)
theorem xGj{N:Nat}{a0:List Val}{a1:List Int}{r:Val × Bool}(h:xJb N  a0 a1=some r):AbC 35 (xHd a0 a1) (xCN r) :=
 AbsCalls.of_reach fk35 rfl rfl rfl (Nat.le_of_ble_eq_true rfl) (vGd a0 a1 r h)
noncomputable def I61:Info:= { body:=(Tryz.f61.body).getD .skip,nt:=19,results:= [.tmp 4],keep:= [0,2,8,10,18,34],live:= [(2, [0,2,10])],modes:= [] }
theorem fk61:FnOk Tryz.prog 61 Tryz.f61 I61:=⟨Tryz.func61,by kernel_rfl,by kernel_rfl,by kernel_rfl,by kernel_rfl⟩
def xT4(x0:List Str)(x1:Str)(x5:Int):St:= [(0, .v false [.sl .ro .str x0]),(2, .v false [.str x1]),(10, .v false [.int .i64 x5])]
def vC4(x0:List Str)(x1:Str)(x5:Int):rS 2 I61 (xT4 x0 x1 x5) [Y,Y] []=dn (xFu x5) [xJk x5 x0,xGf x5 x0,iY (xLC x0 x5 x1)]:=by kernel_rfl
def vC5(x0:List Str)(x1:Str)(x5:Int):rS 2 I61 (xT4 x0 x1 x5) [Y,F] []=st 2 I61 (xT4 x0 x1 (W (x5+1))) [xJk x5 x0,xGf x5 x0,iN (xLC x0 x5 x1)]:=by kernel_rfl
def vC6(x0:List Str)(x1:Str)(x5:Int):rS 2 I61 (xT4 x0 x1 x5) [F] []=dn (xFu (-1)) [xL4 x5 x0]:=by kernel_rfl
def vC7(a0:List Str)(a1:Str):rE I61 (xIt a0 a1) [] []=st 2 I61 (xT4 a0 a1 0) []:=by kernel_rfl
theorem vGN{N:Nat}:∀n x0 x1 x5 r,xFt N n x0 x1 x5=some r→RS Tryz.f61 I61 2 (xT4 x0 x1 x5) (xFu r):=by
 intro n
 induction n with
 |zero=>exact fun _ _ _ _ h=>nE h
 |succ n ih =>
  exact fun x0 x1 x5 r h =>
   cE h (fun h0 h=>iE h fun h1 h=>cE h (fun h2 h=>dS h fk61 (vC4 x0 x1 x5) (oc3 h0 h1 h2 on)) fun h2 h =>
   tS fk61 (vC5 x0 x1 x5) (oc3 h0 h1 h2 on) (ih _ _ _ _ h)) fun h0 h =>
   dS h fk61 (vC6 x0 x1 x5) (oc h0 on)
theorem vGO{N:Nat}:∀a0 a1 r,xKj N a0 a1=some r→RE Tryz.f61 I61 (xIt a0 a1) (xFu r):=fun a0 a1 r h =>
 tE fk61 (vC7 a0 a1) on (vGN _ _ _ _ _ h)
theorem xOF{N:Nat}{a0:List Str}{a1:Str}{r:Int}(h:xKj N  a0 a1=some r):AbC 61 (xIt a0 a1) (xFu r) :=
 AbsCalls.of_reach fk61 rfl rfl rfl (Nat.le_of_ble_eq_true rfl) (vGO a0 a1 r h)
noncomputable def I18:Info:= { body:=(Tryz.f18.body).getD .skip,nt:=9,results:= [.tmp 4],keep:= [0,2,4,8,5],live:= [],modes:= [] }
theorem fk18:FnOk Tryz.prog 18 Tryz.f18 I18:=⟨Tryz.func18,by kernel_rfl,by kernel_rfl,by kernel_rfl,by kernel_rfl⟩
def vA7(a0:Val)(a1:Str)(r1:Int):rE I18 (xGz a0 a1) [] [xFu r1]=dn (xBN r1) [AbC 61 (xIt (xCS a0) a1) (xFu r1)]:=by kernel_rfl
theorem vF5{N:Nat}:∀a0 a1 r,xFN N a0 a1=some r→RE Tryz.f18 I18 (xGz a0 a1) (xBN r):=fun a0 a1 r h =>
 bE h fun r1 h0 h=>dE h fk18 (vA7 a0 a1 r1) (oc (xOF h0) on)
theorem xCH{N:Nat}{a0:Val}{a1:Str}{r:Int}(h:xFN N  a0 a1=some r):AbC 18 (xGz a0 a1) (xBN r) :=
 AbsCalls.of_reach fk18 rfl rfl rfl (Nat.le_of_ble_eq_true rfl) (vF5 a0 a1 r h)
noncomputable def I87:Info:= { body:=(Tryz.f87.body).getD .skip,nt:=87,results:= [.tmp 4],keep:= [0,2,8,10,12,14,36,60,122],live:= [(4, [0,2,10,12,14])],modes:= [(4, [(4, .take,false)]),(5, [(0, .take,false)]),(8, [(4, .take,false),(9, .take,false)]),(9, [(0, .take,false)]),(11, [(4, .take,false)]),(12, [(0, .take,false)]),(14, [(0, .take,false)])] }
theorem fk87:FnOk Tryz.prog 87 Tryz.f87 I87:=⟨Tryz.func87,by kernel_rfl,by kernel_rfl,by kernel_rfl,by kernel_rfl⟩
def xKo(x0 x1 x5:List Org)(x6 x7:Int):St:= [(0, .v false [.sl .ro .org x0]),(2, .v false [.sl .ro .org x1]),(10, .v false [.sl .own .org x5]),(12, .v false [.int .i64 x6]),(14, .v false [.int .i64 x7])]
abbrev xMP(v0 v1:List Org)(v2:Int):Prop:=Ln v0+Ln [(xFo v1 v2)]≤Lim
def vDz(x0 x1 x5:List Org)(x6 x7:Int):rS 4 I87 (xKo x0 x1 x5 x6 x7) [Y,Y,Y,Y] []=st 4 I87 (xKo x0 x1 (x5++ [(xFo x0 x6)]) (W (x6+1)) x7) [xGI x6 x0,iY true,iY (x7==(Ln x1:Int)),iY true,xEp x6 x0,xMP x5 x0 x6]:=by kernel_rfl
abbrev xLE(v0:Int)(v1:List Org):Prop:=iN (v0==(Ln v1:Int))
abbrev xNC(v0:List Org)(v1:Int)(v2:List Org)(v3:Int)(v4:Bool):Prop:=AbC 126 (xEa (xFo v0 v1) (xFo v2 v3)) (xBG v4)
def vDA(x0 x1 x5:List Org)(x6 x7:Int)(r1:Bool):rS 4 I87 (xKo x0 x1 x5 x6 x7) [Y,Y,F,Y,Y] [xBG r1]=st 4 I87 (xKo x0 x1 (x5++ [(xFo x0 x6)]) (W (x6+1)) x7) [xGI x6 x0,iY true,xLE x7 x1,xGI x6 x0,xEp x6 x0,xEp x7 x1,xNC x0 x6 x1 x7 r1,iY r1,xEp x6 x0,xMP x5 x0 x6]:=by kernel_rfl
def vDB(x0 x1 x5:List Org)(x6 x7:Int)(r1:Bool):rS 4 I87 (xKo x0 x1 x5 x6 x7) [Y,Y,F,Y,F,Y,Y] [xBG r1]=st 4 I87 (xKo x0 x1 (x5++ [(xFo x1 x7)]) x6 (W (x7+1))) [xGI x6 x0,iY true,xLE x7 x1,xGI x6 x0,xEp x6 x0,xEp x7 x1,xNC x0 x6 x1 x7 r1,iN r1,iY (x6==(Ln x0:Int)),iY true,xEp x7 x1,xMP x5 x1 x7]:=by kernel_rfl
def vDC(x0 x1 x5:List Org)(x6 x7:Int)(r1 r2:Bool):rS 4 I87 (xKo x0 x1 x5 x6 x7) [Y,Y,F,Y,F,F,Y] [xBG r1,xBG r2]=st 4 I87 (xKo x0 x1 (x5++ [(xFo x1 x7)]) x6 (W (x7+1))) [xGI x6 x0,iY true,xLE x7 x1,xGI x6 x0,xEp x6 x0,xEp x7 x1,xNC x0 x6 x1 x7 r1,iN r1,xLE x6 x0,xEp x7 x1,xEp x6 x0,xNC x1 x7 x0 x6 r2,iY r2,xEp x7 x1,xMP x5 x1 x7]:=by kernel_rfl
def vDD(x0 x1 x5:List Org)(x6 x7:Int)(r1 r2:Bool):rS 4 I87 (xKo x0 x1 x5 x6 x7) [Y,Y,F,Y,F,F,F] [xBG r1,xBG r2]=st 4 I87 (xKo x0 x1 (x5++ [(xFo x0 x6)]) (W (x6+1)) (W (x7+1))) [xGI x6 x0,iY true,xLE x7 x1,xGI x6 x0,xEp x6 x0,xEp x7 x1,xNC x0 x6 x1 x7 r1,iN r1,xLE x6 x0,xEp x7 x1,xEp x6 x0,xNC x1 x7 x0 x6 r2,iN r2,xEp x6 x0,xMP x5 x0 x6]:=by kernel_rfl
def vDE(x0 x1 x5:List Org)(x6 x7:Int):rS 4 I87 (xKo x0 x1 x5 x6 x7) [F,Y,Y,Y] []=st 4 I87 (xKo x0 x1 (x5++ [(xFo x0 x6)]) (W (x6+1)) x7) [xKe x6 x0,xGI x7 x1,iY (x7==(Ln x1:Int)),iY true,xEp x6 x0,xMP x5 x0 x6]:=by kernel_rfl
def vDF(x0 x1 x5:List Org)(x6 x7:Int):rS 4 I87 (xKo x0 x1 x5 x6 x7) [F,Y,F,F,F,Y,Y] []=st 4 I87 (xKo x0 x1 (x5++ [(xFo x1 x7)]) x6 (W (x7+1))) [xKe x6 x0,xGI x7 x1,xLE x7 x1,xKe x6 x0,iN false,iY (x6==(Ln x0:Int)),iY true,xEp x7 x1,xMP x5 x1 x7]:=by kernel_rfl
def vDG(x0 x1 x5:List Org)(x6 x7:Int)(r1:Bool):rS 4 I87 (xKo x0 x1 x5 x6 x7) [F,Y,F,F,F,F,Y] [xBG r1]=st 4 I87 (xKo x0 x1 (x5++ [(xFo x1 x7)]) x6 (W (x7+1))) [xKe x6 x0,xGI x7 x1,xLE x7 x1,xKe x6 x0,iN false,xLE x6 x0,xEp x7 x1,xEp x6 x0,xNC x1 x7 x0 x6 r1,iY r1,xEp x7 x1,xMP x5 x1 x7]:=by kernel_rfl
def vDH(x0 x1 x5:List Org)(x6 x7:Int)(r1:Bool):rS 4 I87 (xKo x0 x1 x5 x6 x7) [F,Y,F,F,F,F,F] [xBG r1]=st 4 I87 (xKo x0 x1 (x5++ [(xFo x0 x6)]) (W (x6+1)) (W (x7+1))) [xKe x6 x0,xGI x7 x1,xLE x7 x1,xKe x6 x0,iN false,xLE x6 x0,xEp x7 x1,xEp x6 x0,xNC x1 x7 x0 x6 r1,iN r1,xEp x6 x0,xMP x5 x0 x6]:=by kernel_rfl
def vDI(x0 x1 x5:List Org)(x6 x7:Int):rS 4 I87 (xKo x0 x1 x5 x6 x7) [F,F] []=dn (xGk x5) [xKe x6 x0,xKe x7 x1]:=by kernel_rfl
def xZ7(a0 a1:List Org):rE I87 (xIw a0 a1) [] []=st 4 I87 (xKo a0 a1 [] 0 0) []:=by kernel_rfl
theorem vGZ{N:Nat}:∀n x0 x1 x5 x6 x7 r,xBZ N n x0 x1 x5 x6 x7=some r→RS Tryz.f87 I87 4 (xKo x0 x1 x5 x6 x7) (xGk r):=by
 intro n
 induction n with
 |zero=>exact fun _ _ _ _ _ _ h=>nE h
 |succ n ih =>
  exact fun x0 x1 x5 x6 x7 r h =>
   cE h (fun h0 h=>cE h (fun h2 h=>iE h fun h4 h=>iE h fun h5 h=>tS fk87 (vDz x0 x1 x5 x6 x7) (oc6 h0 rfl h2 rfl h4 h5 on) (ih _ _ _ _ _ _ h)) fun h2 h =>
   iE h fun h4 h=>iE h fun h5 h=>bE h fun r1 h6 h=>cE h (fun h7 h=>iE h fun h9 h=>tS fk87 (vDA x0 x1 x5 x6 x7 r1) (oc10 h0 rfl h2 h0 h4 h5 (xDi h6) h7 h4 h9 on) (ih _ _ _ _ _ _ h)) fun h7 h =>
   cE h (fun h8 h=>iE h fun h11 h=>tS fk87 (vDB x0 x1 x5 x6 x7 r1) (oc12 h0 rfl h2 h0 h4 h5 (xDi h6) h7 h8 rfl h5 h11 on) (ih _ _ _ _ _ _ h)) fun h8 h =>
   bE h fun r2 h11 h=>cE h (fun h12 h=>iE h fun h14 h=>tS fk87 (vDC x0 x1 x5 x6 x7 r1 r2) (oc12 h0 rfl h2 h0 h4 h5 (xDi h6) h7 h8 h5 h4 (xDi h11) (oc3 h12 h5 h14 on)) (ih _ _ _ _ _ _ h)) fun h12 h =>
   iE h fun h14 h=>tS fk87 (vDD x0 x1 x5 x6 x7 r1 r2) (oc12 h0 rfl h2 h0 h4 h5 (xDi h6) h7 h8 h5 h4 (xDi h11) (oc3 h12 h4 h14 on)) (ih _ _ _ _ _ _ h)) fun h0 h =>
   cE h (fun h1 h=>cE h (fun h2 h=>iE h fun h4 h=>iE h fun h5 h=>tS fk87 (vDE x0 x1 x5 x6 x7) (oc6 h0 h1 h2 rfl h4 h5 on) (ih _ _ _ _ _ _ h)) fun h2 h =>
   cE h (fun h5 h=>iE h fun h7 h=>iE h fun h8 h=>tS fk87 (vDF x0 x1 x5 x6 x7) (oc9 h0 h1 h2 h0 rfl h5 rfl h7 h8 on) (ih _ _ _ _ _ _ h)) fun h5 h =>
   iE h fun h6 h=>iE h fun h7 h=>bE h fun r1 h8 h=>cE h (fun h9 h=>iE h fun h11 h=>tS fk87 (vDG x0 x1 x5 x6 x7 r1) (oc12 h0 h1 h2 h0 rfl h5 h6 h7 (xDi h8) h9 h6 h11 on) (ih _ _ _ _ _ _ h)) fun h9 h =>
   iE h fun h11 h=>tS fk87 (vDH x0 x1 x5 x6 x7 r1) (oc12 h0 h1 h2 h0 rfl h5 h6 h7 (xDi h8) h9 h7 h11 on) (ih _ _ _ _ _ _ h)) fun h1 h =>
   dS h fk87 (vDI x0 x1 x5 x6 x7) (oc2 h0 h1 on)
theorem vG0{N:Nat}:∀a0 a1 r,xJc N a0 a1=some r→RE Tryz.f87 I87 (xIw a0 a1) (xGk r):=fun a0 a1 r h =>
 tE fk87 (xZ7 a0 a1) on (vGZ _ _ _ _ _ _ _ h)
theorem xOL{N:Nat}{a0:List Org}{a1:List Org}{r:(List Org)}(h:xJc N  a0 a1=some r):AbC 87 (xIw a0 a1) (xGk r) :=
 AbsCalls.of_reach fk87 rfl rfl rfl (Nat.le_of_ble_eq_true rfl) (vG0 a0 a1 r h)
noncomputable def I38:Info:= { body:=(Tryz.f38.body).getD .skip,nt:=33,results:= [.cell 6 45],keep:= [0,2,4,6,8,12,14,7,9,13,15],live:= [],modes:= [(2, [(1, .take,false)]),(3, [(0, .take,false)])] }
theorem fk38:FnOk Tryz.prog 38 Tryz.f38 I38:=⟨Tryz.func38,by kernel_rfl,by kernel_rfl,by kernel_rfl,by kernel_rfl⟩
abbrev xVj(v0:Int):=tN (W (v0+1))
def vBx(a0 a1:Rowd)(a2:Int)(r1:(List Org)):rE I38 (xI3 a0 a1 a2) [] [xGk r1]=dn (xHN (Rowd.mk ((([]++(xEw a0))++(List.take (tN a2) (xEw a1)))++(List.drop (xVj a2) (xEw a1))) r1)) [0+Ln (xEw a0)≤Lim,AbC 87 (xIw (Rowd.frm a0) (Rowd.frm a1)) (xGk r1),(0:Int)≤a2∧a2≤(Ln (xEw a1)),Ln ([]++(xEw a0))+Ln (List.take (tN a2) (xEw a1))≤Lim,(0:Int)≤(W (a2+1))∧(W (a2+1))≤(Ln (xEw a1)),Ln (([]++(xEw a0))++(List.take (tN a2) (xEw a1)))+Ln (List.drop (xVj a2) (xEw a1))≤Lim]:=by kernel_rfl
theorem vGh{N:Nat}:∀a0 a1 a2 r,xJ6 N a0 a1 a2=some r→RE Tryz.f38 I38 (xI3 a0 a1 a2) (xHN r):=fun a0 a1 a2 r h =>
 iE h fun h0 h=>bE h fun r1 h1 h=>iE h fun h2 h=>iE h fun h3 h=>iE h fun h4 h=>iE h fun h5 h=>dE h fk38 (vBx a0 a1 a2 r1) (oc6 h0 (xOL h1) h2 h3 h4 h5 on)
theorem xPi{N:Nat}{a0:Rowd}{a1:Rowd}{a2:Int}{r:Rowd}(h:xJ6 N  a0 a1 a2=some r):AbC 38 (xI3 a0 a1 a2) (xHN r) :=
 AbsCalls.of_reach fk38 rfl rfl rfl (Nat.le_of_ble_eq_true rfl) (vGh a0 a1 a2 r h)
end Go.Ab.T
end
section
open Go.Proofs
namespace Go.Ab.T
set_option maxRecDepth 100000
variable [Inhabited Lb]
noncomputable def I9:Info:= { body:=(Tryz.f9.body).getD .skip,nt:=125,results:= [.cell 6 31],keep:= [0,2,4,6,8,10,12,14,16,18,20,22,24,26,46,76,124,134,146,160,202,244,7,9,11,13,15,23],live:= [(15, [8,10,12,18,20,22,24,9,11,13,23]),(18, [8,10,12,18,20,22,24,26,9,11,13,23])],modes:= [(1, [(6, .take,false)]),(2, [(0, .take,false)]),(3, [(0, .take,false)]),(6, [(2, .take,false)]),(9, [(1, .take,false)]),(21, [(1, .take,false),(15, .take,false)]),(24, [(0, .take,false)])] }
theorem fk9:FnOk Tryz.prog 9 Tryz.f9 I9:=⟨Tryz.func9,by kernel_rfl,by kernel_rfl,by kernel_rfl,by kernel_rfl⟩
def xSr(x9 x10 x12:Int)(b4 b5 b6 b11:Val):St:= [(8, .v false [.ptr 4 0]),(10, .v false [.ptr 5 0]),(12, .v false [.ptr 6 0]),(18, .v false [.int .i64 x9]),(20, .v false [.int .i64 x10]),(22, .v false [.ptr 11 0]),(24, .v false [.int .i64 x12]),(9, .v true [.int .i64 (Val.kind b4), .int .i64 (Val.n b4), .int .i64 (Val.step b4), .str (Val.text b4), .sl .ro .val (Val.list b4), .sl .ro .str (Val.columns b4), .sl .ro .row (Val.rows b4)]),(11, .v true [.int .i64 (Val.kind b5), .int .i64 (Val.n b5), .int .i64 (Val.step b5), .str (Val.text b5), .sl .ro .val (Val.list b5), .sl .ro .str (Val.columns b5), .sl .ro .row (Val.rows b5)]),(13, .v true [.int .i64 (Val.kind b6), .int .i64 (Val.n b6), .int .i64 (Val.step b6), .str (Val.text b6), .sl .own .val (Val.list b6), .sl .own .str (Val.columns b6), .sl .own .row (Val.rows b6)]),(23, .v true [.int .i64 (Val.kind b11), .int .i64 (Val.n b11), .int .i64 (Val.step b11), .str (Val.text b11), .sl .own .val (Val.list b11), .sl .own .str (Val.columns b11), .sl .own .row (Val.rows b11)])]
def xSs(x9 x10 x12 x13:Int)(b4 b5 b6 b11:Val):St:= [(8, .v false [.ptr 4 0]),(10, .v false [.ptr 5 0]),(12, .v false [.ptr 6 0]),(18, .v false [.int .i64 x9]),(20, .v false [.int .i64 x10]),(22, .v false [.ptr 11 0]),(24, .v false [.int .i64 x12]),(26, .v false [.int .i64 x13]),(9, .v true [.int .i64 (Val.kind b4), .int .i64 (Val.n b4), .int .i64 (Val.step b4), .str (Val.text b4), .sl .ro .val (Val.list b4), .sl .ro .str (Val.columns b4), .sl .ro .row (Val.rows b4)]),(11, .v true [.int .i64 (Val.kind b5), .int .i64 (Val.n b5), .int .i64 (Val.step b5), .str (Val.text b5), .sl .ro .val (Val.list b5), .sl .ro .str (Val.columns b5), .sl .ro .row (Val.rows b5)]),(13, .v true [.int .i64 (Val.kind b6), .int .i64 (Val.n b6), .int .i64 (Val.step b6), .str (Val.text b6), .sl .own .val (Val.list b6), .sl .own .str (Val.columns b6), .sl .own .row (Val.rows b6)]),(23, .v true [.int .i64 (Val.kind b11), .int .i64 (Val.n b11), .int .i64 (Val.step b11), .str (Val.text b11), .sl .own .val (Val.list b11), .sl .own .str (Val.columns b11), .sl .own .row (Val.rows b11)])]
abbrev vAI(v0:Val)(v1:Int):=Rowd.cells (gD (Val.rows v0) (tN v1) rd)
abbrev xTL(v0:Int)(v1:Val)(v2:Int):Prop:=(0:Int)≤v0∧v0<(Ln (vAI v1 v2))
abbrev xVk(v0:Val)(v1 v2:Int)(v3:Val)(v4 v5:Int):=((gD (Rowd.cells (gD (Val.rows v0) (tN v1) rd)) (tN v2) Ty.int.dflt):Int)==(gD (Rowd.cells (gD (Val.rows v3) (tN v4) rd)) (tN v5) Ty.int.dflt)
def vEi(x9 x10 x12 x13:Int)(b4 b5 b6 b11:Val)(r1:Rowd):rS 18 I9 (xSs x9 x10 x12 x13 b4 b5 b6 b11) [Y,Y] [xHN r1]=st 18 I9 (xSs x9 x10 x12 (W (x13+1)) b4 b5 b6 (Val.mk (Val.kind b11) (Val.n b11) (Val.step b11) (Val.text b11) (Val.list b11) (xCS b11) ((Val.rows b11)++ [r1]))) [xPx x13 b5,xMM x12 b4,xTL x9 b4 x12,xMM x13 b5,xTL x10 b5 x13,iY (xVk b4 x12 x9 b5 x13 x10),xMM x12 b4,xMM x13 b5,AbC 38 (xI3 (xOp b4 x12) (xOp b5 x13) x10) (xHN r1),Ln (Val.rows b11)+Ln [r1]≤Lim]:=by kernel_rfl
def vEj(x9 x10 x12 x13:Int)(b4 b5 b6 b11:Val):rS 18 I9 (xSs x9 x10 x12 x13 b4 b5 b6 b11) [Y,F] []=st 18 I9 (xSs x9 x10 x12 (W (x13+1)) b4 b5 b6 b11) [xPx x13 b5,xMM x12 b4,xTL x9 b4 x12,xMM x13 b5,xTL x10 b5 x13,iN (xVk b4 x12 x9 b5 x13 x10)]:=by kernel_rfl
def vEk(x9 x10 x12 x13:Int)(b4 b5 b6 b11:Val):rS 18 I9 (xSs x9 x10 x12 x13 b4 b5 b6 b11) [F] []=st 15 I9 (xSr x9 x10 (W (x12+1)) b4 b5 b6 b11) [xTG x13 b5]:=by kernel_rfl
def vEf(x9 x10 x12:Int)(b4 b5 b6 b11:Val):rS 15 I9 (xSr x9 x10 x12 b4 b5 b6 b11) [Y] []=st 18 I9 (xSs x9 x10 x12 0 b4 b5 b6 b11) [xPx x12 b4]:=by kernel_rfl
def vEg(x9 x10 x12:Int)(b4 b5 b6 b11 r1:Val):rS 15 I9 (xSr x9 x10 x12 b4 b5 b6 b11) [F,Y] [xBg r1]=dn (xAG r1) [xTG x12 b4,xTH b11,AbC 36 (xCE 6) (xBg r1)]:=by kernel_rfl
def vEh(x9 x10 x12:Int)(b4 b5 b6 b11:Val):rS 15 I9 (xSr x9 x10 x12 b4 b5 b6 b11) [F,F] []=dn (xAG b11) [xTG x12 b4,xTI b11]:=by kernel_rfl
abbrev xPy(v0 v1 v2:Val)(v3:Val × Bool):Prop:=AbC 35 (xHd [(Val.re v0),(Val.re v1),(Val.re v2)] [2,5,5]) (xCN v3)
def vFK(a0 a1 a2:Val)(r1:Val × Bool):rE I9 (xEu a0 a1 a2) [Y] [xCN r1]=dn (xAG r1.1) [xPy a0 a1 a2 r1,iY r1.2]:=by kernel_rfl
abbrev xL5(v0 v1:Val)(v2:Int):Prop:=AbC 18 (xGz v0 (Val.text v1)) (xBN v2)
def vFL(a0 a1 a2:Val)(r1:Val × Bool)(r2 r3:Int)(r4:Val):rE I9 (xEu a0 a1 a2) [F,Y,Y] [xCN r1,xBN r2,xBN r3,xBg r4]=dn (xAG r4) [xPy a0 a1 a2 r1,iN r1.2,xL5 a1 a0 r2,xL5 a2 a0 r3,xFp r2,iY true,AbC 36 (xCE 7) (xBg r4)]:=by kernel_rfl
def vFM(a0 a1 a2:Val)(r1:Val × Bool)(r2 r3:Int)(r4:Val):rE I9 (xEu a0 a1 a2) [F,F,Y] [xCN r1,xBN r2,xBN r3,xBg r4]=dn (xAG r4) [xPy a0 a1 a2 r1,iN r1.2,xL5 a1 a0 r2,xL5 a2 a0 r3,xAD r2,xFp r3,AbC 36 (xCE 7) (xBg r4)]:=by kernel_rfl
abbrev xKS(v0:Val):Prop:=0+Ln (xCS v0)≤Lim
abbrev xVw(v0:Int)(v1:Val):Prop:=(0:Int)≤v0∧v0≤(Ln (xCS v1))
abbrev xNi(v0:Int)(v1:Val):=List.take (tN v0) (Val.columns v1)
abbrev xVx(v0:Val)(v1:Int)(v2:Val):Prop:=Ln ([]++(xCS v0))+Ln (xNi v1 v2)≤Lim
abbrev xVy(v0:Int)(v1:Val):Prop:=(0:Int)≤(W (v0+1))∧(W (v0+1))≤(Ln (xCS v1))
abbrev xOq(v0:Int)(v1:Val):=List.drop (tN (W (v0+1))) (Val.columns v1)
abbrev xVz(v0:Val)(v1:Int)(v2:Val):Prop:=Ln (([]++(xCS v0))++(xNi v1 v2))+Ln (xOq v1 v2)≤Lim
abbrev xVA(v0:Val)(v1:Int)(v2:Val)(v3:Bool):Prop:=AbC 37 (xFr ((([]++(xCS v0))++(xNi v1 v2))++(xOq v1 v2))) (xCq v3)
def vFN(a0 a1 a2:Val)(r1:Val × Bool)(r2 r3:Int)(r4:Bool)(r5:Val):rE I9 (xEu a0 a1 a2) [F,F,F,Y] [xCN r1,xBN r2,xBN r3,xCq r4,xBg r5]=dn (xAG r5) [xPy a0 a1 a2 r1,iN r1.2,xL5 a1 a0 r2,xL5 a2 a0 r3,xAD r2,xAD r3,xKS a1,xVw r3 a2,xVx a1 r3 a2,xVy r3 a2,xVz a1 r3 a2,xVA a1 r3 a2 r4,iY (!r4),AbC 36 (xCE 7) (xBg r5)]:=by kernel_rfl
def vEl(a0 a1 a2:Val)(r1:Val × Bool)(r2 r3:Int)(r4:Bool)(r5:Val):rE I9 (xEu a0 a1 a2) [F,F,F,F,Y] [xCN r1,xBN r2,xBN r3,xCq r4,xBg r5]=dn (xAG r5) [xPy a0 a1 a2 r1,iN r1.2,xL5 a1 a0 r2,xL5 a2 a0 r3,xAD r2,xAD r3,xKS a1,xVw r3 a2,xVx a1 r3 a2,xVy r3 a2,xVz a1 r3 a2,xVA a1 r3 a2 r4,xAA r4,iY (dc (((Ln ((([]++(xCS a1))++(xNi r3 a2))++(xOq r3 a2)):Int):Int)>4)),AbC 36 (xCE 6) (xBg r5)]:=by kernel_rfl
def vEm(a0 a1 a2:Val)(r1:Val × Bool)(r2 r3:Int)(r4:Bool):rE I9 (xEu a0 a1 a2) [F,F,F,F,F] [xCN r1,xBN r2,xBN r3,xCq r4]=st 15 I9 (xSr r2 r3 0 a1 a2 (Val.mk 0 0 0 [] [] [] []) (Val.mk 5 0 0 [] [] ((([]++(xCS a1))++(xNi r3 a2))++(xOq r3 a2)) [])) [xPy a0 a1 a2 r1,iN r1.2,xL5 a1 a0 r2,xL5 a2 a0 r3,xAD r2,xAD r3,xKS a1,xVw r3 a2,xVx a1 r3 a2,xVy r3 a2,xVz a1 r3 a2,xVA a1 r3 a2 r4,xAA r4,iN (dc (((Ln ((([]++(xCS a1))++(xNi r3 a2))++(xOq r3 a2)):Int):Int)>4))]:=by kernel_rfl
theorem vHi{N:Nat}{k15:Int→Int→Int→Val→Val→Val→Val→Option (Val)}(hk15:∀z0 z1 z2 z3 z4 z5 z6 r,k15 z0 z1 z2 z3 z4 z5 z6=some r→RS Tryz.f9 I9 15 (xSr z0 z1 z2 z3 z4 z5 z6) (xAG r)):∀n x9 x10 x12 x13 b4 b5 b6 b11 r,xFv N k15 n x9 x10 x12 x13 b4 b5 b6 b11=some r→RS Tryz.f9 I9 18 (xSs x9 x10 x12 x13 b4 b5 b6 b11) (xAG r):=by
 intro n
 induction n with
 |zero=>exact fun _ _ _ _ _ _ _ _ _ h=>nE h
 |succ n ih =>
  exact fun x9 x10 x12 x13 b4 b5 b6 b11 r h =>
   cE h (fun h0 h=>iE h fun h1 h=>iE h fun h2 h=>iE h fun h3 h=>iE h fun h4 h=>cE h (fun h5 h=>bE h fun r1 h8 h=>iE h fun h9 h=>tS fk9 (vEi x9 x10 x12 x13 b4 b5 b6 b11 r1) (oc10 h0 h1 h2 h3 h4 h5 h1 h3 (xPi h8) h9 on) (ih _ _ _ _ _ _ _ _ _ h)) fun h5 h =>
   tS fk9 (vEj x9 x10 x12 x13 b4 b5 b6 b11) (oc6 h0 h1 h2 h3 h4 h5 on) (ih _ _ _ _ _ _ _ _ _ h)) fun h0 h =>
   tS fk9 (vEk x9 x10 x12 x13 b4 b5 b6 b11) (oc h0 on) (hk15 _ _ _ _ _ _ _ _ h)
theorem vHh{N:Nat}:∀n x9 x10 x12 b4 b5 b6 b11 r,xEy N n x9 x10 x12 b4 b5 b6 b11=some r→RS Tryz.f9 I9 15 (xSr x9 x10 x12 b4 b5 b6 b11) (xAG r):=by
 intro n
 induction n with
 |zero=>exact fun _ _ _ _ _ _ _ _ h=>nE h
 |succ n ih =>
  exact fun x9 x10 x12 b4 b5 b6 b11 r h =>
   cE h (fun h0 h=>tS fk9 (vEf x9 x10 x12 b4 b5 b6 b11) (oc h0 on) (vHi ih _ _ _ _ _ _ _ _ _ _ h)) fun h0 h =>
   cE h (fun h1 h=>bE h fun r1 h2 h=>dS h fk9 (vEg x9 x10 x12 b4 b5 b6 b11 r1) (oc3 h0 h1 (xDr h2) on)) fun h1 h =>
   dS h fk9 (vEh x9 x10 x12 b4 b5 b6 b11) (oc2 h0 h1 on)
theorem c9_e{N:Nat}:∀a0 a1 a2 r,xHb N a0 a1 a2=some r→RE Tryz.f9 I9 (xEu a0 a1 a2) (xAG r):=fun a0 a1 a2 r h =>
 bE h fun r1 h0 h=>cE h (fun h1 h=>dE h fk9 (vFK a0 a1 a2 r1) (oc2 (xGj h0) h1 on)) fun h1 h =>
 bE h fun r2 h2 h=>bE h fun r3 h3 h=>cE h (fun h4 h=>bE h fun r4 h6 h=>dE h fk9 (vFL a0 a1 a2 r1 r2 r3 r4) (oc7 (xGj h0) h1 (xCH h2) (xCH h3) h4 rfl (xDr h6) on)) fun h4 h =>
 cE h (fun h5 h=>bE h fun r4 h6 h=>dE h fk9 (vFM a0 a1 a2 r1 r2 r3 r4) (oc7 (xGj h0) h1 (xCH h2) (xCH h3) h4 h5 (xDr h6) on)) fun h5 h =>
 iE h fun h6 h=>iE h fun h7 h=>iE h fun h8 h=>iE h fun h9 h=>iE h fun h10 h=>bE h fun r4 h11 h=>cE h (fun h12 h=>bE h fun r5 h13 h=>dE h fk9 (vFN a0 a1 a2 r1 r2 r3 r4 r5) (oc12 (xGj h0) h1 (xCH h2) (xCH h3) h4 h5 h6 h7 h8 h9 h10 (xGy h11) (oc2 h12 (xDr h13) on))) fun h12 h =>
 cE h (fun h13 h=>bE h fun r5 h14 h=>dE h fk9 (vEl a0 a1 a2 r1 r2 r3 r4 r5) (oc12 (xGj h0) h1 (xCH h2) (xCH h3) h4 h5 h6 h7 h8 h9 h10 (xGy h11) (oc3 h12 h13 (xDr h14) on))) fun h13 h =>
 tE fk9 (vEm a0 a1 a2 r1 r2 r3 r4) (oc12 (xGj h0) h1 (xCH h2) (xCH h3) h4 h5 h6 h7 h8 h9 h10 (xGy h11) (oc2 h12 h13 on)) (vHh _ _ _ _ _ _ _ _ _ h)
theorem xAT{N:Nat}{a0:Val}{a1:Val}{a2:Val}{r:Val}(h:xHb N  a0 a1 a2=some r):AbC 9 (xEu a0 a1 a2) (xAG r) :=
 AbsCalls.of_reach fk9 rfl rfl rfl (Nat.le_of_ble_eq_true rfl) (c9_e a0 a1 a2 r h)
noncomputable def I114:Info:= { body:=(Tryz.f114.body).getD .skip,nt:=15,results:= [.tmp 6],keep:= [0,2,4,12],live:= [],modes:= [(1, [(3, .take,false)])] }
theorem vAy:FnOk Tryz.prog 114 Tryz.f114 I114:=⟨Tryz.func114,by kernel_rfl,by kernel_rfl,by kernel_rfl,by kernel_rfl⟩
def xWN(a0 a1 a2:Int):rE I114 (xEt a0 a1 a2) [Y] []=dn (xCP (dc (a0≤a2))) [xLY a1 a0]:=by kernel_rfl
def xWO(a0 a1 a2:Int):rE I114 (xEt a0 a1 a2) [F] []=dn (xCP false) [xOX a1 a0]:=by kernel_rfl
theorem vEy{N:Nat}:∀a0 a1 a2 r,xG8 N a0 a1 a2=some r→RE Tryz.f114 I114 (xEt a0 a1 a2) (xCP r):=fun a0 a1 a2 r h =>
 cE h (fun h0 h=>dE h vAy (xWN a0 a1 a2) (oc h0 on)) fun h0 h =>
 dE h vAy (xWO a0 a1 a2) (oc h0 on)
theorem xHG{N:Nat}{a0:Int}{a1:Int}{a2:Int}{r:Bool}(h:xG8 N  a0 a1 a2=some r):AbC 114 (xEt a0 a1 a2) (xCP r) :=
 AbsCalls.of_reach vAy rfl rfl rfl (Nat.le_of_ble_eq_true rfl) (vEy a0 a1 a2 r h)
noncomputable def I82:Info:= { body:=(Tryz.f82.body).getD .skip,nt:=5,results:= [.tmp 2],keep:= [0,4],live:= [],modes:= [] }
theorem fk82:FnOk Tryz.prog 82 Tryz.f82 I82:=⟨Tryz.func82,by kernel_rfl,by kernel_rfl,by kernel_rfl,by kernel_rfl⟩
def vDm(a0:Int)(r1:Bool):rE I82 (xDA a0) [] [xCP r1]=dn (xB9 r1) [AbC 114 (xEt a0 (-1000000000) 1000000000) (xCP r1)]:=by kernel_rfl
theorem vGT{N:Nat}:∀a0 r,xFQ N a0=some r→RE Tryz.f82 I82 (xDA a0) (xB9 r):=fun a0 r h =>
 bE h fun r1 h0 h=>dE h fk82 (vDm a0 r1) (oc (xHG h0) on)
theorem xFC{N:Nat}{a0:Int}{r:Bool}(h:xFQ N  a0=some r):AbC 82 (xDA a0) (xB9 r) :=
 AbsCalls.of_reach fk82 rfl rfl rfl (Nat.le_of_ble_eq_true rfl) (vGT a0 r h)
noncomputable def I113:Info:= { body:=(Tryz.f113.body).getD .skip,nt:=29,results:= [.tmp 2],keep:= [0,4,6,14,50],live:= [(2, [0,6])],modes:= [(4, [(4, .take,false),(10, .take,false)])] }
theorem xSL:FnOk Tryz.prog 113 Tryz.f113 I113:=⟨Tryz.func113,by kernel_rfl,by kernel_rfl,by kernel_rfl,by kernel_rfl⟩
def xNp(x0:Str)(x3:Int):St:= [(0, .v false [.str x0]),(6, .v false [.int .i64 x3])]
def xWH(x0:Str)(x3:Int):rS 2 I113 (xNp x0 x3) [Y,Y,Y,Y] []=dn (xCT false) [xFV x3 x0,xBI x3 x0,iY (xSY x0 x3),iY true,iY true]:=by kernel_rfl
def xWI(x0:Str)(x3:Int):rS 2 I113 (xNp x0 x3) [Y,F,Y,Y] []=dn (xCT false) [xFV x3 x0,xBI x3 x0,xPu x0 x3,xBI x3 x0,iY (xSZ x0 x3),iY true]:=by kernel_rfl
def xWJ(x0:Str)(x3:Int):rS 2 I113 (xNp x0 x3) [Y,F,F,Y] []=dn (xCT false) [xFV x3 x0,xBI x3 x0,xPu x0 x3,xBI x3 x0,xTD x0 x3,xBI x3 x0,iY (xP1 x0 x3)]:=by kernel_rfl
def xWK(x0:Str)(x3:Int):rS 2 I113 (xNp x0 x3) [Y,F,F,F] []=st 2 I113 (xNp x0 (W (x3+1))) [xFV x3 x0,xBI x3 x0,xPu x0 x3,xBI x3 x0,xTD x0 x3,xBI x3 x0,iN (xP1 x0 x3)]:=by kernel_rfl
def xWL(x0:Str)(x3:Int):rS 2 I113 (xNp x0 x3) [F] []=dn (xCT (dc ((Ln x0:Int)≤20))) [iN (dc (x3<(Ln x0:Int)))]:=by kernel_rfl
def xWM(a0:Str):rE I113 (xGr a0) [] []=st 2 I113 (xNp a0 0) []:=by kernel_rfl
theorem vEw{N:Nat}:∀n x0 x3 r,xFf N n x0 x3=some r→RS Tryz.f113 I113 2 (xNp x0 x3) (xCT r):=by
 intro n
 induction n with
 |zero=>exact fun _ _ _ h=>nE h
 |succ n ih =>
  exact fun x0 x3 r h =>
   cE h (fun h0 h=>iE h fun h1 h=>cE h (fun h2 h=>dS h xSL (xWH x0 x3) (oc5 h0 h1 h2 rfl rfl on)) fun h2 h =>
   cE h (fun h4 h=>dS h xSL (xWI x0 x3) (oc6 h0 h1 h2 h1 h4 rfl on)) fun h4 h =>
   cE h (fun h6 h=>dS h xSL (xWJ x0 x3) (oc7 h0 h1 h2 h1 h4 h1 h6 on)) fun h6 h =>
   tS xSL (xWK x0 x3) (oc7 h0 h1 h2 h1 h4 h1 h6 on) (ih _ _ _ h)) fun h0 h =>
   dS h xSL (xWL x0 x3) (oc h0 on)
theorem vEx{N:Nat}:∀a0 r,xHO N a0=some r→RE Tryz.f113 I113 (xGr a0) (xCT r):=fun a0 r h =>
 tE xSL (xWM a0) on (vEw _ _ _ _ h)
theorem xMa{N:Nat}{a0:Str}{r:Bool}(h:xHO N  a0=some r):AbC 113 (xGr a0) (xCT r) :=
 AbsCalls.of_reach xSL rfl rfl rfl (Nat.le_of_ble_eq_true rfl) (vEx a0 r h)
noncomputable def I185:Info:= { body:=(Tryz.f185.body).getD .skip,nt:=42,results:= [.tmp 2],keep:= [0,4,6,8,16,76],live:= [(2, [0,6])],modes:= [(4, [(4, .take,false)]),(5, [(0, .take,false),(2, .take,false),(5, .take,false),(11, .take,false)])] }
theorem xNF:FnOk Tryz.prog 185 Tryz.f185 I185:=⟨Tryz.func185,by kernel_rfl,by kernel_rfl,by kernel_rfl,by kernel_rfl⟩
def xJw(x0:Str)(x3:Int):St:= [(0, .v false [.str x0]),(6, .v false [.int .i64 x3])]
def xYs(x0:Str)(x3:Int):rS 2 I185 (xJw x0 x3) [Y,Y,Y,Y,Y,Y] []=dn (xCO false) [xFV x3 x0,xBI x3 x0,xLm x0 x3,xBI x3 x0,xMK x0 x3,iY (x3==0),iY true,iY true]:=by kernel_rfl
abbrev xS4(v0:Str)(v1:Int):=dc ((((gD v0 (tN v1) 0).toNat:Int):Int)<48)
def xYt(x0:Str)(x3:Int):rS 2 I185 (xJw x0 x3) [Y,Y,Y,F,Y,Y] []=dn (xCO false) [xFV x3 x0,xBI x3 x0,xLm x0 x3,xBI x3 x0,xMK x0 x3,xKd x3,xBI x3 x0,iY (xS4 x0 x3),iY true]:=by kernel_rfl
abbrev xTM(v0:Str)(v1:Int):Prop:=iN (xS4 v0 v1)
abbrev xQa(v0:Str)(v1:Int):=dc ((((gD v0 (tN v1) 0).toNat:Int):Int)>57)
def xYu(x0:Str)(x3:Int):rS 2 I185 (xJw x0 x3) [Y,Y,Y,F,F,Y] []=dn (xCO false) [xFV x3 x0,xBI x3 x0,xLm x0 x3,xBI x3 x0,xMK x0 x3,xKd x3,xBI x3 x0,xTM x0 x3,xBI x3 x0,iY (xQa x0 x3)]:=by kernel_rfl
def xYv(x0:Str)(x3:Int):rS 2 I185 (xJw x0 x3) [Y,Y,Y,F,F,F] []=st 2 I185 (xJw x0 (W (x3+1))) [xFV x3 x0,xBI x3 x0,xLm x0 x3,xBI x3 x0,xMK x0 x3,xKd x3,xBI x3 x0,xTM x0 x3,xBI x3 x0,iN (xQa x0 x3)]:=by kernel_rfl
def xYw(x0:Str)(x3:Int):rS 2 I185 (xJw x0 x3) [Y,Y,F,F] []=st 2 I185 (xJw x0 (W (x3+1))) [xFV x3 x0,xBI x3 x0,xLm x0 x3,xBI x3 x0,xVt x0 x3,iN false]:=by kernel_rfl
def xYx(x0:Str)(x3:Int):rS 2 I185 (xJw x0 x3) [Y,F,Y,Y,Y,Y] []=dn (xCO false) [xFV x3 x0,xBI x3 x0,xML x0 x3,iY (!false),iY (x3==0),iY true,iY true]:=by kernel_rfl
def xYy(x0:Str)(x3:Int):rS 2 I185 (xJw x0 x3) [Y,F,Y,F,Y,Y] []=dn (xCO false) [xFV x3 x0,xBI x3 x0,xML x0 x3,iY (!false),xKd x3,xBI x3 x0,iY (xS4 x0 x3),iY true]:=by kernel_rfl
def xYz(x0:Str)(x3:Int):rS 2 I185 (xJw x0 x3) [Y,F,Y,F,F,Y] []=dn (xCO false) [xFV x3 x0,xBI x3 x0,xML x0 x3,iY (!false),xKd x3,xBI x3 x0,xTM x0 x3,xBI x3 x0,iY (xQa x0 x3)]:=by kernel_rfl
def xYA(x0:Str)(x3:Int):rS 2 I185 (xJw x0 x3) [Y,F,Y,F,F,F] []=st 2 I185 (xJw x0 (W (x3+1))) [xFV x3 x0,xBI x3 x0,xML x0 x3,iY (!false),xKd x3,xBI x3 x0,xTM x0 x3,xBI x3 x0,iN (xQa x0 x3)]:=by kernel_rfl
def xYB(x0:Str)(x3:Int)(r1:Bool):rS 2 I185 (xJw x0 x3) [F] [xCP r1]=dn (xCO r1) [iN (dc (x3<(Ln x0:Int))),AbC 114 (xEt (Ln x0:Int) 1 8) (xCP r1)]:=by kernel_rfl
def xVS(a0:Str):rE I185 (xHE a0) [] []=st 2 I185 (xJw a0 0) []:=by kernel_rfl
theorem vFd{N:Nat}:∀n x0 x3 r,xEs N n x0 x3=some r→RS Tryz.f185 I185 2 (xJw x0 x3) (xCO r):=by
 intro n
 induction n with
 |zero=>exact fun _ _ _ h=>nE h
 |succ n ih =>
  exact fun x0 x3 r h =>
   cE h (fun h0 h=>iE h fun h1 h=>cE h (fun h2 h=>cE h (fun h4 h=>cE h (fun h5 h=>dS h xNF (xYs x0 x3) (oc8 h0 h1 h2 h1 h4 h5 rfl rfl on)) fun h5 h =>
   cE h (fun h7 h=>dS h xNF (xYt x0 x3) (oc9 h0 h1 h2 h1 h4 h5 h1 h7 rfl on)) fun h7 h =>
   cE h (fun h9 h=>dS h xNF (xYu x0 x3) (oc10 h0 h1 h2 h1 h4 h5 h1 h7 h1 h9 on)) fun h9 h =>
   tS xNF (xYv x0 x3) (oc10 h0 h1 h2 h1 h4 h5 h1 h7 h1 h9 on) (ih _ _ _ h)) fun h4 h =>
   tS xNF (xYw x0 x3) (oc6 h0 h1 h2 h1 h4 rfl on) (ih _ _ _ h)) fun h2 h =>
   cE h (fun h4 h=>dS h xNF (xYx x0 x3) (oc7 h0 h1 h2 rfl h4 rfl rfl on)) fun h4 h =>
   cE h (fun h6 h=>dS h xNF (xYy x0 x3) (oc8 h0 h1 h2 rfl h4 h1 h6 rfl on)) fun h6 h =>
   cE h (fun h8 h=>dS h xNF (xYz x0 x3) (oc9 h0 h1 h2 rfl h4 h1 h6 h1 h8 on)) fun h8 h =>
   tS xNF (xYA x0 x3) (oc9 h0 h1 h2 rfl h4 h1 h6 h1 h8 on) (ih _ _ _ h)) fun h0 h =>
   bE h fun r1 h1 h=>dS h xNF (xYB x0 x3 r1) (oc2 h0 (xHG h1) on)
theorem vFe{N:Nat}:∀a0 r,xK1 N a0=some r→RE Tryz.f185 I185 (xHE a0) (xCO r):=fun a0 r h =>
 tE xNF (xVS a0) on (vFd _ _ _ _ h)
theorem xL1{N:Nat}{a0:Str}{r:Bool}(h:xK1 N  a0=some r):AbC 185 (xHE a0) (xCO r) :=
 AbsCalls.of_reach xNF rfl rfl rfl (Nat.le_of_ble_eq_true rfl) (vFe a0 r h)
noncomputable def I195:Info:= { body:=(Tryz.f195.body).getD .skip,nt:=26,results:= [.tmp 2],keep:= [0,4,6,8,12,24,40,48],live:= [],modes:= [] }
theorem xKZ:FnOk Tryz.prog 195 Tryz.f195 I195:=⟨Tryz.func195,by kernel_rfl,by kernel_rfl,by kernel_rfl,by kernel_rfl⟩
def xYV(a0:Str):rE I195 (xAN a0) [Y] []=dn (xAI 0) [iY ((a0:Str)== [99,108,111,99,107])]:=by kernel_rfl
abbrev xI8(v0:Str):Prop:=iN ((v0:Str)== [99,108,111,99,107])
def xYW(a0:Str):rE I195 (xAN a0) [F,Y,Y] []=dn (xAI 1) [xI8 a0,iY ((a0:Str)== [108,101,110]),iY ((a0:Str)== [108,101,110])]:=by kernel_rfl
abbrev xHx(v0:Str):Prop:=iN ((v0:Str)== [108,101,110])
def xYX(a0:Str):rE I195 (xAN a0) [F,F,Y,Y] []=dn (xAI 1) [xI8 a0,xHx a0,iY ((a0:Str)== [115,117,109]),iY ((a0:Str)== [115,117,109])]:=by kernel_rfl
abbrev xHY(v0:Str):Prop:=iN ((v0:Str)== [115,117,109])
abbrev xS5(v0:Str):=(v0:Str)== [114,111,119,115]
def xYY(a0:Str):rE I195 (xAN a0) [F,F,F,Y,Y] []=dn (xAI 1) [xI8 a0,xHx a0,xHY a0,iY (xS5 a0),iY (xS5 a0)]:=by kernel_rfl
abbrev xIo(v0:Str):Prop:=iN (xS5 v0)
abbrev xS6(v0:Str):=(v0:Str)== [99,104,97,110,99,101]
def xYZ(a0:Str):rE I195 (xAN a0) [F,F,F,F,Y,Y] []=dn (xAI 1) [xI8 a0,xHx a0,xHY a0,xIo a0,iY (xS6 a0),iY (xS6 a0)]:=by kernel_rfl
abbrev xIM(v0:Str):Prop:=iN (xS6 v0)
def xY0(a0:Str):rE I195 (xAN a0) [F,F,F,F,F,Y] []=dn (xAI 1) [xI8 a0,xHx a0,xHY a0,xIo a0,xIM a0,iY ((a0:Str)== [102,105,108,101])]:=by kernel_rfl
abbrev xJf(v0:Str):Prop:=iN ((v0:Str)== [102,105,108,101])
abbrev xS7(v0:Str):=(v0:Str)== [116,97,107,101]
def xY1(a0:Str):rE I195 (xAN a0) [F,F,F,F,F,F,Y,Y] []=dn (xAI 2) [xI8 a0,xHx a0,xHY a0,xIo a0,xIM a0,xJf a0,iY (xS7 a0),iY (xS7 a0)]:=by kernel_rfl
abbrev xJO(v0:Str):Prop:=iN (xS7 v0)
abbrev xS8(v0:Str):=(v0:Str)== [115,107,105,112]
def xY2(a0:Str):rE I195 (xAN a0) [F,F,F,F,F,F,F,Y,Y] []=dn (xAI 2) [xI8 a0,xHx a0,xHY a0,xIo a0,xIM a0,xJf a0,xJO a0,iY (xS8 a0),iY (xS8 a0)]:=by kernel_rfl
abbrev xKt(v0:Str):Prop:=iN (xS8 v0)
abbrev xS9(v0:Str):=(v0:Str)== [114,97,110,103,101]
def xY3(a0:Str):rE I195 (xAN a0) [F,F,F,F,F,F,F,F,Y,Y] []=dn (xAI 2) [xI8 a0,xHx a0,xHY a0,xIo a0,xIM a0,xJf a0,xJO a0,xKt a0,iY (xS9 a0),iY (xS9 a0)]:=by kernel_rfl
abbrev xLb(v0:Str):Prop:=iN (xS9 v0)
def xY4(a0:Str):rE I195 (xAN a0) [F,F,F,F,F,F,F,F,F,Y,Y] []=dn (xAI 2) [xI8 a0,xHx a0,xHY a0,xIo a0,xIM a0,xJf a0,xJO a0,xKt a0,xLb a0,iY ((a0:Str)== [110,116,104]),iY ((a0:Str)== [110,116,104])]:=by kernel_rfl
abbrev xLA(v0:Str):Prop:=iN ((v0:Str)== [110,116,104])
abbrev xTa(v0:Str):=(v0:Str)== [107,101,101,112]
def xVX(a0:Str):rE I195 (xAN a0) [F,F,F,F,F,F,F,F,F,F,Y,Y] []=dn (xAI 2) [xI8 a0,xHx a0,xHY a0,xIo a0,xIM a0,xJf a0,xJO a0,xKt a0,xLb a0,xLA a0,iY (xTa a0),iY (xTa a0)]:=by kernel_rfl
abbrev xMh(v0:Str):Prop:=iN (xTa v0)
abbrev xTb(v0:Str):=(v0:Str)== [99,111,108,117,109,110]
def xVY(a0:Str):rE I195 (xAN a0) [F,F,F,F,F,F,F,F,F,F,F,Y,Y] []=dn (xAI 2) [xI8 a0,xHx a0,xHY a0,xIo a0,xIM a0,xJf a0,xJO a0,xKt a0,xLb a0,xLA a0,xMh a0,iY (xTb a0),iY (xTb a0)]:=by kernel_rfl
abbrev xM6(v0:Str):Prop:=iN (xTb v0)
def xVZ(a0:Str):rE I195 (xAN a0) [F,F,F,F,F,F,F,F,F,F,F,F,Y] []=dn (xAI 2) [xI8 a0,xHx a0,xHY a0,xIo a0,xIM a0,xJf a0,xJO a0,xKt a0,xLb a0,xLA a0,xMh a0,xM6 a0,iY ((a0:Str)== [116,97,98,108,101])]:=by kernel_rfl
abbrev xOh(v0:Str):Prop:=iN ((v0:Str)== [116,97,98,108,101])
abbrev xTc(v0:Str):=(v0:Str)== [119,104,101,114,101]
def xV0(a0:Str):rE I195 (xAN a0) [F,F,F,F,F,F,F,F,F,F,F,F,F,Y,Y] []=dn (xAI 3) [xI8 a0,xHx a0,xHY a0,xIo a0,xIM a0,xJf a0,xJO a0,xKt a0,xLb a0,xLA a0,xMh a0,xM6 a0,xOh a0,iY (xTc a0),iY (xTc a0)]:=by kernel_rfl
abbrev xPP(v0:Str):Prop:=iN (xTc v0)
abbrev xTd(v0:Str):=(v0:Str)== [103,114,111,117,112]
def xV1(a0:Str):rE I195 (xAN a0) [F,F,F,F,F,F,F,F,F,F,F,F,F,F,Y,Y] []=dn (xAI 3) [xI8 a0,xHx a0,xHY a0,xIo a0,xIM a0,xJf a0,xJO a0,xKt a0,xLb a0,xLA a0,xMh a0,xM6 a0,xOh a0,xPP a0,iY (xTd a0),iY (xTd a0)]:=by kernel_rfl
abbrev xSR(v0:Str):Prop:=iN (xTd v0)
abbrev xTe(v0:Str):=(v0:Str)== [106,111,105,110]
def xV2(a0:Str):rE I195 (xAN a0) [F,F,F,F,F,F,F,F,F,F,F,F,F,F,F,Y] []=dn (xAI 3) [xI8 a0,xHx a0,xHY a0,xIo a0,xIM a0,xJf a0,xJO a0,xKt a0,xLb a0,xLA a0,xMh a0,xM6 a0,xOh a0,xPP a0,xSR a0,iY (xTe a0)]:=by kernel_rfl
def xV3(a0:Str):rE I195 (xAN a0) [F,F,F,F,F,F,F,F,F,F,F,F,F,F,F,F,Y] []=dn (xAI 4) [xI8 a0,xHx a0,xHY a0,xIo a0,xIM a0,xJf a0,xJO a0,xKt a0,xLb a0,xLA a0,xMh a0,xM6 a0,xOh a0,xPP a0,xSR a0,iN (xTe a0),iY ((a0:Str)== [97,100,100])]:=by kernel_rfl
def xV4(a0:Str):rE I195 (xAN a0) [F,F,F,F,F,F,F,F,F,F,F,F,F,F,F,F,F] []=dn (xAI (-1)) [xI8 a0,xHx a0,xHY a0,xIo a0,xIM a0,xJf a0,xJO a0,xKt a0,xLb a0,xLA a0,xMh a0,xM6 a0,xOh a0,xPP a0,xSR a0,iN (xTe a0),iN ((a0:Str)== [97,100,100])]:=by kernel_rfl
theorem vFj{N:Nat}:∀a0 r,xGX N a0=some r→RE Tryz.f195 I195 (xAN a0) (xAI r):=fun a0 r h =>
 cE h (fun h0 h=>dE h xKZ (xYV a0) (oc h0 on)) fun h0 h =>
 cE h (fun h1 h=>dE h xKZ (xYW a0) (oc3 h0 h1 h1 on)) fun h1 h =>
 cE h (fun h2 h=>dE h xKZ (xYX a0) (oc4 h0 h1 h2 h2 on)) fun h2 h =>
 cE h (fun h3 h=>dE h xKZ (xYY a0) (oc5 h0 h1 h2 h3 h3 on)) fun h3 h =>
 cE h (fun h4 h=>dE h xKZ (xYZ a0) (oc6 h0 h1 h2 h3 h4 h4 on)) fun h4 h =>
 cE h (fun h5 h=>dE h xKZ (xY0 a0) (oc6 h0 h1 h2 h3 h4 h5 on)) fun h5 h =>
 cE h (fun h6 h=>dE h xKZ (xY1 a0) (oc8 h0 h1 h2 h3 h4 h5 h6 h6 on)) fun h6 h =>
 cE h (fun h7 h=>dE h xKZ (xY2 a0) (oc9 h0 h1 h2 h3 h4 h5 h6 h7 h7 on)) fun h7 h =>
 cE h (fun h8 h=>dE h xKZ (xY3 a0) (oc10 h0 h1 h2 h3 h4 h5 h6 h7 h8 h8 on)) fun h8 h =>
 cE h (fun h9 h=>dE h xKZ (xY4 a0) (oc11 h0 h1 h2 h3 h4 h5 h6 h7 h8 h9 h9 on)) fun h9 h =>
 cE h (fun h10 h=>dE h xKZ (xVX a0) (oc12 h0 h1 h2 h3 h4 h5 h6 h7 h8 h9 h10 h10 on)) fun h10 h =>
 cE h (fun h11 h=>dE h xKZ (xVY a0) (oc12 h0 h1 h2 h3 h4 h5 h6 h7 h8 h9 h10 h11 (oc h11 on))) fun h11 h =>
 cE h (fun h12 h=>dE h xKZ (xVZ a0) (oc12 h0 h1 h2 h3 h4 h5 h6 h7 h8 h9 h10 h11 (oc h12 on))) fun h12 h =>
 cE h (fun h13 h=>dE h xKZ (xV0 a0) (oc12 h0 h1 h2 h3 h4 h5 h6 h7 h8 h9 h10 h11 (oc3 h12 h13 h13 on))) fun h13 h =>
 cE h (fun h14 h=>dE h xKZ (xV1 a0) (oc12 h0 h1 h2 h3 h4 h5 h6 h7 h8 h9 h10 h11 (oc4 h12 h13 h14 h14 on))) fun h14 h =>
 cE h (fun h15 h=>dE h xKZ (xV2 a0) (oc12 h0 h1 h2 h3 h4 h5 h6 h7 h8 h9 h10 h11 (oc4 h12 h13 h14 h15 on))) fun h15 h =>
 cE h (fun h16 h=>dE h xKZ (xV3 a0) (oc12 h0 h1 h2 h3 h4 h5 h6 h7 h8 h9 h10 h11 (oc5 h12 h13 h14 h15 h16 on))) fun h16 h =>
 dE h xKZ (xV4 a0) (oc12 h0 h1 h2 h3 h4 h5 h6 h7 h8 h9 h10 h11 (oc5 h12 h13 h14 h15 h16 on))
theorem xLt{N:Nat}{a0:Str}{r:Int}(h:xGX N  a0=some r):AbC 195 (xAN a0) (xAI r) :=
 AbsCalls.of_reach xKZ rfl rfl rfl (Nat.le_of_ble_eq_true rfl) (vFj a0 r h)
noncomputable def I186:Info:= { body:=(Tryz.f186.body).getD .skip,nt:=15,results:= [.tmp 2],keep:= [0,4,6,8],live:= [],modes:= [] }
theorem xPJ:FnOk Tryz.prog 186 Tryz.f186 I186:=⟨Tryz.func186,by kernel_rfl,by kernel_rfl,by kernel_rfl,by kernel_rfl⟩
def xYC(a0:Str):rE I186 (xCD a0) [Y,Y] []=dn (xCk true) [iY ((a0:Str)== [108,101,116]),iY ((a0:Str)== [108,101,116])]:=by kernel_rfl
abbrev xMi(v0:Str):Prop:=iN ((v0:Str)== [108,101,116])
def xYD(a0:Str):rE I186 (xCD a0) [F,Y,Y] []=dn (xCk true) [xMi a0,iY ((a0:Str)== [105,110]),iY ((a0:Str)== [105,110])]:=by kernel_rfl
abbrev xM7(v0:Str):Prop:=iN ((v0:Str)== [105,110])
def xYE(a0:Str):rE I186 (xCD a0) [F,F,Y,Y] []=dn (xCk true) [xMi a0,xM7 a0,iY ((a0:Str)== [105,102]),iY ((a0:Str)== [105,102])]:=by kernel_rfl
abbrev xOi(v0:Str):Prop:=iN ((v0:Str)== [105,102])
abbrev xTf(v0:Str):=(v0:Str)== [116,104,101,110]
def xYF(a0:Str):rE I186 (xCD a0) [F,F,F,Y,Y] []=dn (xCk true) [xMi a0,xM7 a0,xOi a0,iY (xTf a0),iY (xTf a0)]:=by kernel_rfl
abbrev xPQ(v0:Str):Prop:=iN (xTf v0)
abbrev xTg(v0:Str):=(v0:Str)== [101,108,115,101]
def xYG(a0:Str):rE I186 (xCD a0) [F,F,F,F,Y,Y] []=dn (xCk true) [xMi a0,xM7 a0,xOi a0,xPQ a0,iY (xTg a0),iY (xTg a0)]:=by kernel_rfl
abbrev xSS(v0:Str):Prop:=iN (xTg v0)
abbrev xQb(v0:Str):=(v0:Str)== [102,111,114]
def xYH(a0:Str):rE I186 (xCD a0) [F,F,F,F,F,Y,Y] []=dn (xCk true) [xMi a0,xM7 a0,xOi a0,xPQ a0,xSS a0,iY (xQb a0),iY (xQb a0)]:=by kernel_rfl
def xYI(a0:Str):rE I186 (xCD a0) [F,F,F,F,F,F,Y] []=dn (xCk true) [xMi a0,xM7 a0,xOi a0,xPQ a0,xSS a0,iN (xQb a0),iY ((a0:Str)== [100,111])]:=by kernel_rfl
def xYJ(a0:Str)(r1:Int):rE I186 (xCD a0) [F,F,F,F,F,F,F] [xAI r1]=dn (xCk (dc (r1≥0))) [xMi a0,xM7 a0,xOi a0,xPQ a0,xSS a0,iN (xQb a0),iN ((a0:Str)== [100,111]),AbC 195 (xAN a0) (xAI r1)]:=by kernel_rfl
theorem vFf{N:Nat}:∀a0 r,xG7 N a0=some r→RE Tryz.f186 I186 (xCD a0) (xCk r):=fun a0 r h =>
 cE h (fun h0 h=>dE h xPJ (xYC a0) (oc2 h0 h0 on)) fun h0 h =>
 cE h (fun h1 h=>dE h xPJ (xYD a0) (oc3 h0 h1 h1 on)) fun h1 h =>
 cE h (fun h2 h=>dE h xPJ (xYE a0) (oc4 h0 h1 h2 h2 on)) fun h2 h =>
 cE h (fun h3 h=>dE h xPJ (xYF a0) (oc5 h0 h1 h2 h3 h3 on)) fun h3 h =>
 cE h (fun h4 h=>dE h xPJ (xYG a0) (oc6 h0 h1 h2 h3 h4 h4 on)) fun h4 h =>
 cE h (fun h5 h=>dE h xPJ (xYH a0) (oc7 h0 h1 h2 h3 h4 h5 h5 on)) fun h5 h =>
 cE h (fun h6 h=>dE h xPJ (xYI a0) (oc7 h0 h1 h2 h3 h4 h5 h6 on)) fun h6 h =>
 bE h fun r1 h7 h=>dE h xPJ (xYJ a0 r1) (oc8 h0 h1 h2 h3 h4 h5 h6 (xLt h7) on)
theorem xMx{N:Nat}{a0:Str}{r:Bool}(h:xG7 N  a0=some r):AbC 186 (xCD a0) (xCk r) :=
 AbsCalls.of_reach xPJ rfl rfl rfl (Nat.le_of_ble_eq_true rfl) (vFf a0 r h)
noncomputable def I172:Info:= { body:=(Tryz.f172.body).getD .skip,nt:=10,results:= [.tmp 2],keep:= [0,4],live:= [],modes:= [(1, [(2, .take,false)])] }
theorem vAC:FnOk Tryz.prog 172 Tryz.f172 I172:=⟨Tryz.func172,by kernel_rfl,by kernel_rfl,by kernel_rfl,by kernel_rfl⟩
def xYl(a0:Str)(r1 r2:Bool):rE I172 (xEg a0) [Y] [xCO r1,xCk r2]=dn (xC9 (!r2)) [AbC 185 (xHE a0) (xCO r1),iY r1,AbC 186 (xCD a0) (xCk r2)]:=by kernel_rfl
def xYm(a0:Str)(r1:Bool):rE I172 (xEg a0) [F] [xCO r1]=dn (xC9 false) [AbC 185 (xHE a0) (xCO r1),iN r1]:=by kernel_rfl
theorem vFa{N:Nat}:∀a0 r,xGC N a0=some r→RE Tryz.f172 I172 (xEg a0) (xC9 r):=fun a0 r h =>
 bE h fun r1 h0 h=>cE h (fun h1 h=>bE h fun r2 h2 h=>dE h vAC (xYl a0 r1 r2) (oc3 (xL1 h0) h1 (xMx h2) on)) fun h1 h =>
 dE h vAC (xYm a0 r1) (oc2 (xL1 h0) h1 on)
theorem xJF{N:Nat}{a0:Str}{r:Bool}(h:xGC N  a0=some r):AbC 172 (xEg a0) (xC9 r) :=
 AbsCalls.of_reach vAC rfl rfl rfl (Nat.le_of_ble_eq_true rfl) (vFa a0 r h)
noncomputable def I90:Info:= { body:=(Tryz.f90.body).getD .skip,nt:=19,results:= [.tmp 4],keep:= [0,2,8,10,12,14,16,18,20,32],live:= [(2, [2,14,16,18])],modes:= [(4, [(0, .take,false)]),(5, [(0, .take,false)]),(6, [(1, .take,false)])] }
theorem fk90:FnOk Tryz.prog 90 Tryz.f90 I90:=⟨Tryz.func90,by kernel_rfl,by kernel_rfl,by kernel_rfl,by kernel_rfl⟩
def xT6(x1:Str)(x7:List Str)(x8 x9:Int):St:= [(2, .v false [.str x1]),(14, .v false [.sl .ro .str x7]),(16, .v false [.int .i64 x8]),(18, .v false [.int .i64 x9])]
def vDP(x1:Str)(x7:List Str)(x8 x9:Int):rS 2 I90 (xT6 x1 x7 x8 x9) [Y,Y] []=dn (xCX x9) [xGw x9 x8,xGf x9 x7,iY (xLC x7 x9 x1)]:=by kernel_rfl
def vDQ(x1:Str)(x7:List Str)(x8 x9:Int):rS 2 I90 (xT6 x1 x7 x8 x9) [Y,F] []=st 2 I90 (xT6 x1 x7 x8 (W (x9+1))) [xGw x9 x8,xGf x9 x7,iN (xLC x7 x9 x1)]:=by kernel_rfl
def vDR(x1:Str)(x7:List Str)(x8 x9:Int):rS 2 I90 (xT6 x1 x7 x8 x9) [F] []=dn (xCX (-1)) [xJg x9 x8]:=by kernel_rfl
def vDS(a0:List Str)(a1:Str):rE I90 (xG5 a0 a1) [] []=st 2 I90 (xT6 a1 a0 (Ln a0:Int) 0) []:=by kernel_rfl
theorem vG4{N:Nat}:∀n x1 x7 x8 x9 r,xFe N n x1 x7 x8 x9=some r→RS Tryz.f90 I90 2 (xT6 x1 x7 x8 x9) (xCX r):=by
 intro n
 induction n with
 |zero=>exact fun _ _ _ _ _ h=>nE h
 |succ n ih =>
  exact fun x1 x7 x8 x9 r h =>
   cE h (fun h0 h=>iE h fun h1 h=>cE h (fun h2 h=>dS h fk90 (vDP x1 x7 x8 x9) (oc3 h0 h1 h2 on)) fun h2 h =>
   tS fk90 (vDQ x1 x7 x8 x9) (oc3 h0 h1 h2 on) (ih _ _ _ _ _ h)) fun h0 h =>
   dS h fk90 (vDR x1 x7 x8 x9) (oc h0 on)
theorem vG5{N:Nat}:∀a0 a1 r,xH0 N a0 a1=some r→RE Tryz.f90 I90 (xG5 a0 a1) (xCX r):=fun a0 a1 r h =>
 tE fk90 (vDS a0 a1) on (vG4 _ _ _ _ _ _ h)
theorem xG6{N:Nat}{a0:List Str}{a1:Str}{r:Int}(h:xH0 N  a0 a1=some r):AbC 90 (xG5 a0 a1) (xCX r) :=
 AbsCalls.of_reach fk90 rfl rfl rfl (Nat.le_of_ble_eq_true rfl) (vG5 a0 a1 r h)
noncomputable def I45:Info:= { body:=(Tryz.f45.body).getD .skip,nt:=18,results:= [.tmp 2],keep:= [0,4,6,8,10,12,14,16,32],live:= [(2, [0,10,12,14])],modes:= [(4, [(1, .take,false),(3, .take,false)]),(6, [(1, .take,false)])] }
theorem fk45:FnOk Tryz.prog 45 Tryz.f45 I45:=⟨Tryz.func45,by kernel_rfl,by kernel_rfl,by kernel_rfl,by kernel_rfl⟩
def xTZ(x0 x5:List Str)(x6 x7:Int):St:= [(0, .v false [.sl .ro .str x0]),(10, .v false [.sl .ro .str x5]),(12, .v false [.int .i64 x6]),(14, .v false [.int .i64 x7])]
abbrev xPR(v0 v1:List Str)(v2 v3:Int):Prop:=AbC 90 (xG5 v0 (xHZ v1 v2)) (xCX v3)
def vCi(x0 x5:List Str)(x6 x7 r1:Int):rS 2 I45 (xTZ x0 x5 x6 x7) [Y,Y] [xCX r1]=dn (xBJ false) [xGw x7 x6,xGf x7 x5,xPR x0 x5 x7 r1,iY (r1 != x7)]:=by kernel_rfl
def vCj(x0 x5:List Str)(x6 x7 r1:Int):rS 2 I45 (xTZ x0 x5 x6 x7) [Y,F] [xCX r1]=st 2 I45 (xTZ x0 x5 x6 (W (x7+1))) [xGw x7 x6,xGf x7 x5,xPR x0 x5 x7 r1,iN (r1 != x7)]:=by kernel_rfl
def vCk(x0 x5:List Str)(x6 x7:Int):rS 2 I45 (xTZ x0 x5 x6 x7) [F] []=dn (xBJ true) [xJg x7 x6]:=by kernel_rfl
def vCl(a0:List Str):rE I45 (xFc a0) [] []=st 2 I45 (xTZ a0 a0 (Ln a0:Int) 0) []:=by kernel_rfl
theorem vGs{N:Nat}:∀n x0 x5 x6 x7 r,xDE N n x0 x5 x6 x7=some r→RS Tryz.f45 I45 2 (xTZ x0 x5 x6 x7) (xBJ r):=by
 intro n
 induction n with
 |zero=>exact fun _ _ _ _ _ h=>nE h
 |succ n ih =>
  exact fun x0 x5 x6 x7 r h =>
   cE h (fun h0 h=>iE h fun h1 h=>bE h fun r1 h2 h=>cE h (fun h3 h=>dS h fk45 (vCi x0 x5 x6 x7 r1) (oc4 h0 h1 (xG6 h2) h3 on)) fun h3 h =>
   tS fk45 (vCj x0 x5 x6 x7 r1) (oc4 h0 h1 (xG6 h2) h3 on) (ih _ _ _ _ _ h)) fun h0 h =>
   dS h fk45 (vCk x0 x5 x6 x7) (oc h0 on)
theorem vGt{N:Nat}:∀a0 r,xFB N a0=some r→RE Tryz.f45 I45 (xFc a0) (xBJ r):=fun a0 r h =>
 tE fk45 (vCl a0) on (vGs _ _ _ _ _ _ h)
theorem xDF{N:Nat}{a0:List Str}{r:Bool}(h:xFB N  a0=some r):AbC 45 (xFc a0) (xBJ r) :=
 AbsCalls.of_reach fk45 rfl rfl rfl (Nat.le_of_ble_eq_true rfl) (vGt a0 r h)
noncomputable def I157:Info:= { body:=(Tryz.f157.body).getD .skip,nt:=22,results:= [.tmp 2],keep:= [0,4,8,10,12,14,16,26],live:= [(2, [0,10,12,14])],modes:= [(4, [(0, .take,false)]),(6, [(1, .take,false)]),(7, [(3, .take,false)])] }
theorem xUz:FnOk Tryz.prog 157 Tryz.f157 I157:=⟨Tryz.func157,by kernel_rfl,by kernel_rfl,by kernel_rfl,by kernel_rfl⟩
def xNT(x0 x5:List Str)(x6 x7:Int):St:= [(0, .v false [.sl .ro .str x0]),(10, .v false [.sl .ro .str x5]),(12, .v false [.int .i64 x6]),(14, .v false [.int .i64 x7])]
def xXS(x0 x5:List Str)(x6 x7:Int)(r1:Bool):rS 2 I157 (xNT x0 x5 x6 x7) [Y,Y] [xC9 r1]=dn (xCl false) [xGw x7 x6,xGf x7 x5,AbC 172 (xEg (xHZ x5 x7)) (xC9 r1),iY (!r1)]:=by kernel_rfl
def xXT(x0 x5:List Str)(x6 x7:Int)(r1:Bool):rS 2 I157 (xNT x0 x5 x6 x7) [Y,F] [xC9 r1]=st 2 I157 (xNT x0 x5 x6 (W (x7+1))) [xGw x7 x6,xGf x7 x5,AbC 172 (xEg (xHZ x5 x7)) (xC9 r1),xAA r1]:=by kernel_rfl
def xXU(x0 x5:List Str)(x6 x7:Int)(r1 r2:Bool):rS 2 I157 (xNT x0 x5 x6 x7) [F,Y] [xCP r1,xBJ r2]=dn (xCl r2) [xJg x7 x6,AbC 114 (xEt (Ln x0:Int) 1 4) (xCP r1),iY r1,AbC 45 (xFc x0) (xBJ r2)]:=by kernel_rfl
def xXV(x0 x5:List Str)(x6 x7:Int)(r1:Bool):rS 2 I157 (xNT x0 x5 x6 x7) [F,F] [xCP r1]=dn (xCl false) [xJg x7 x6,AbC 114 (xEt (Ln x0:Int) 1 4) (xCP r1),iN r1]:=by kernel_rfl
def xXW(a0:List Str):rE I157 (xEB a0) [] []=st 2 I157 (xNT a0 a0 (Ln a0:Int) 0) []:=by kernel_rfl
theorem vEX{N:Nat}:∀n x0 x5 x6 x7 r,xEC N n x0 x5 x6 x7=some r→RS Tryz.f157 I157 2 (xNT x0 x5 x6 x7) (xCl r):=by
 intro n
 induction n with
 |zero=>exact fun _ _ _ _ _ h=>nE h
 |succ n ih =>
  exact fun x0 x5 x6 x7 r h =>
   cE h (fun h0 h=>iE h fun h1 h=>bE h fun r1 h2 h=>cE h (fun h3 h=>dS h xUz (xXS x0 x5 x6 x7 r1) (oc4 h0 h1 (xJF h2) h3 on)) fun h3 h =>
   tS xUz (xXT x0 x5 x6 x7 r1) (oc4 h0 h1 (xJF h2) h3 on) (ih _ _ _ _ _ h)) fun h0 h =>
   bE h fun r1 h1 h=>cE h (fun h2 h=>bE h fun r2 h3 h=>dS h xUz (xXU x0 x5 x6 x7 r1 r2) (oc4 h0 (xHG h1) h2 (xDF h3) on)) fun h2 h =>
   dS h xUz (xXV x0 x5 x6 x7 r1) (oc3 h0 (xHG h1) h2 on)
theorem vEY{N:Nat}:∀a0 r,xId N a0=some r→RE Tryz.f157 I157 (xEB a0) (xCl r):=fun a0 r h =>
 tE xUz (xXW a0) on (vEX _ _ _ _ _ _ h)
theorem xIe{N:Nat}{a0:List Str}{r:Bool}(h:xId N  a0=some r):AbC 157 (xEB a0) (xCl r) :=
 AbsCalls.of_reach xUz rfl rfl rfl (Nat.le_of_ble_eq_true rfl) (vEY a0 r h)
noncomputable def I115:Info:= { body:=(Tryz.f115.body).getD .skip,nt:=77,results:= [.tmp 2],keep:= [0,2,4,8,12,14,16,36,40,42,44,46,64,68,70,72,74,84,90,92,94,96,148,3,9,17],live:= [(4, [2,40,42,44,3]),(9, [2,8,40,42,44,68,70,72,3,9]),(15, [2,8,40,42,44,90,92,94,3,9])],modes:= [(1, [(4, .take,false)]),(11, [(0, .take,false)]),(13, [(1, .take,false)]),(17, [(3, .take,false),(8, .take,false),(11, .take,false)]),(19, [(1, .take,false)]),(20, [(1, .take,false)])] }
theorem xLP:FnOk Tryz.prog 115 Tryz.f115 I115:=⟨Tryz.func115,by kernel_rfl,by kernel_rfl,by kernel_rfl,by kernel_rfl⟩
def xNq(x20:List Rowd)(x21 x22:Int)(b1:Val):St:= [(2, .v false [.ptr 1 0]),(40, .v false [.sl .ro .row x20]),(42, .v false [.int .i64 x21]),(44, .v false [.int .i64 x22]),(3, .v true [.int .i64 (Val.kind b1), .int .i64 (Val.n b1), .int .i64 (Val.step b1), .str (Val.text b1), .sl .ro .val (Val.list b1), .sl .ro .str (Val.columns b1), .sl .ro .row (Val.rows b1)])]
def xPj(x20:List Rowd)(x21 x22:Int)(x34:List Int)(x35 x36:Int)(b1:Val)(b4:Rowd):St:= [(2, .v false [.ptr 1 0]),(8, .v false [.ptr 4 0]),(40, .v false [.sl .ro .row x20]),(42, .v false [.int .i64 x21]),(44, .v false [.int .i64 x22]),(68, .v false [.sl .ro .int x34]),(70, .v false [.int .i64 x35]),(72, .v false [.int .i64 x36]),(3, .v true [.int .i64 (Val.kind b1), .int .i64 (Val.n b1), .int .i64 (Val.step b1), .str (Val.text b1), .sl .ro .val (Val.list b1), .sl .ro .str (Val.columns b1), .sl .ro .row (Val.rows b1)]),(9, .v true [.sl .ro .int (Rowd.cells b4), .sl .ro .org (Rowd.frm b4)])]
def xKn(x20:List Rowd)(x21 x22:Int)(x45:List Org)(x46 x47:Int)(b1:Val)(b4:Rowd):St:= [(2, .v false [.ptr 1 0]),(8, .v false [.ptr 4 0]),(40, .v false [.sl .ro .row x20]),(42, .v false [.int .i64 x21]),(44, .v false [.int .i64 x22]),(90, .v false [.sl .ro .org x45]),(92, .v false [.int .i64 x46]),(94, .v false [.int .i64 x47]),(3, .v true [.int .i64 (Val.kind b1), .int .i64 (Val.n b1), .int .i64 (Val.step b1), .str (Val.text b1), .sl .ro .val (Val.list b1), .sl .ro .str (Val.columns b1), .sl .ro .row (Val.rows b1)]),(9, .v true [.sl .ro .int (Rowd.cells b4), .sl .ro .org (Rowd.frm b4)])]
def xVE(x20:List Rowd)(x21 x22:Int)(x45:List Org)(x46 x47:Int)(b1:Val)(b4:Rowd):rS 15 I115 (xKn x20 x21 x22 x45 x46 x47 b1 b4) [Y,Y,Y,Y] []=dn (xBL false) [xGw x47 x46,xEp x47 x45,iY (xS1 x45 x47),iY true,iY true]:=by kernel_rfl
def xVF(x20:List Rowd)(x21 x22:Int)(x45:List Org)(x46 x47:Int)(b1:Val)(b4:Rowd):rS 15 I115 (xKn x20 x21 x22 x45 x46 x47 b1 b4) [Y,F,Y,Y] []=dn (xBL false) [xGw x47 x46,xEp x47 x45,xNy x45 x47,iY (xS2 x45 x47),iY true]:=by kernel_rfl
def xVG(x20:List Rowd)(x21 x22:Int)(x45:List Org)(x46 x47:Int)(b1:Val)(b4:Rowd)(r1:Bool):rS 15 I115 (xKn x20 x21 x22 x45 x46 x47 b1 b4) [Y,F,F,Y,Y] [xCb r1]=dn (xBL false) [xGw x47 x46,xEp x47 x45,xNy x45 x47,xPw x45 x47,xOn x47,(0:Int)≤(W (x47 - 1))∧(W (x47 - 1))<(Ln (Rowd.frm b4)),AbC 65 (xC4 (gD (Rowd.frm b4) (tN (W (x47 - 1))) Ty.org.dflt) (xFo x45 x47)) (xCb r1),iY (!r1)]:=by kernel_rfl
def xVH(x20:List Rowd)(x21 x22:Int)(x45:List Org)(x46 x47:Int)(b1:Val)(b4:Rowd)(r1:Bool):rS 15 I115 (xKn x20 x21 x22 x45 x46 x47 b1 b4) [Y,F,F,Y,F] [xCb r1]=st 15 I115 (xKn x20 x21 x22 x45 x46 (W (x47+1)) b1 b4) [xGw x47 x46,xEp x47 x45,xNy x45 x47,xPw x45 x47,xOn x47,(0:Int)≤(W (x47 - 1))∧(W (x47 - 1))<(Ln (Rowd.frm b4)),AbC 65 (xC4 (gD (Rowd.frm b4) (tN (W (x47 - 1))) Ty.org.dflt) (xFo x45 x47)) (xCb r1),xAA r1]:=by kernel_rfl
def xVI(x20:List Rowd)(x21 x22:Int)(x45:List Org)(x46 x47:Int)(b1:Val)(b4:Rowd):rS 15 I115 (xKn x20 x21 x22 x45 x46 x47 b1 b4) [Y,F,F,F,F] []=st 15 I115 (xKn x20 x21 x22 x45 x46 (W (x47+1)) b1 b4) [xGw x47 x46,xEp x47 x45,xNy x45 x47,xPw x45 x47,iN (dc (x47>0)),iN false]:=by kernel_rfl
def xVJ(x20:List Rowd)(x21 x22:Int)(x45:List Org)(x46 x47:Int)(b1:Val)(b4:Rowd):rS 15 I115 (xKn x20 x21 x22 x45 x46 x47 b1 b4) [F] []=st 4 I115 (xNq x20 x21 (W (x22+1)) b1) [xJg x47 x46]:=by kernel_rfl
def xWQ(x20:List Rowd)(x21 x22:Int)(x34:List Int)(x35 x36:Int)(b1:Val)(b4:Rowd)(r1:Bool):rS 9 I115 (xPj x20 x21 x22 x34 x35 x36 b1 b4) [Y,Y] [xB9 r1]=dn (xBL false) [xGw x36 x35,xJU x36 x34,AbC 82 (xDA (xLe x34 x36)) (xB9 r1),iY (!r1)]:=by kernel_rfl
def xWR(x20:List Rowd)(x21 x22:Int)(x34:List Int)(x35 x36:Int)(b1:Val)(b4:Rowd)(r1:Bool):rS 9 I115 (xPj x20 x21 x22 x34 x35 x36 b1 b4) [Y,F] [xB9 r1]=st 9 I115 (xPj x20 x21 x22 x34 x35 (W (x36+1)) b1 b4) [xGw x36 x35,xJU x36 x34,AbC 82 (xDA (xLe x34 x36)) (xB9 r1),xAA r1]:=by kernel_rfl
def xWS(x20:List Rowd)(x21 x22:Int)(x34:List Int)(x35 x36:Int)(b1:Val)(b4:Rowd):rS 9 I115 (xPj x20 x21 x22 x34 x35 x36 b1 b4) [F] []=st 15 I115 (xKn x20 x21 x22 (Rowd.frm b4) (Ln (Rowd.frm b4):Int) 0 b1 b4) [xJg x36 x35]:=by kernel_rfl
abbrev xJT(v0:List Rowd)(v1:Int):=Rowd.cells (gD v0 (tN v1) rd)
abbrev xP5(v0:Val):=(Ln (Val.columns v0):Int)
def xWP(x20:List Rowd)(x21 x22:Int)(b1:Val):rS 4 I115 (xNq x20 x21 x22 b1) [Y,Y] []=dn (xBL false) [xGw x22 x21,xIq x22 x20,iY (((Ln (xJT x20 x22):Int):Int) != (xP5 b1))]:=by kernel_rfl
def xVK(x20:List Rowd)(x21 x22:Int)(b1:Val):rS 4 I115 (xNq x20 x21 x22 b1) [Y,F] []=st 9 I115 (xPj x20 x21 x22 (xJT x20 x22) (Ln (xJT x20 x22):Int) 0 b1 (xLd x20 x22)) [xGw x22 x21,xIq x22 x20,iN (((Ln (xJT x20 x22):Int):Int) != (xP5 b1))]:=by kernel_rfl
def xVL(x20:List Rowd)(x21 x22:Int)(b1:Val):rS 4 I115 (xNq x20 x21 x22 b1) [F] []=dn (xBL true) [xJg x22 x21]:=by kernel_rfl
def xVM(a0:Val)(r1:Bool):rE I115 (xFh a0) [Y,Y] [xCl r1]=dn (xBL false) [AbC 157 (xEB (xCS a0)) (xCl r1),iY (!r1),iY true]:=by kernel_rfl
def xVN(a0:Val)(r1:Bool):rE I115 (xFh a0) [F,Y] [xCl r1]=dn (xBL false) [AbC 157 (xEB (xCS a0)) (xCl r1),xAA r1,xTH a0]:=by kernel_rfl
def xVO(a0:Val)(r1:Bool):rE I115 (xFh a0) [F,F] [xCl r1]=st 4 I115 (xNq (Val.rows a0) (xKB a0) 0 a0) [AbC 157 (xEB (xCS a0)) (xCl r1),xAA r1,xTI a0]:=by kernel_rfl
theorem vAu{N:Nat}{k4:(List Rowd)→Int→Int→Val→Option (Bool)}(hk4:∀z0 z1 z2 z3 r,k4 z0 z1 z2 z3=some r→RS Tryz.f115 I115 4 (xNq z0 z1 z2 z3) (xBL r)):∀n x20 x21 x22 x45 x46 x47 b1 b4 r,xD6 N k4 n x20 x21 x22 x45 x46 x47 b1 b4=some r→RS Tryz.f115 I115 15 (xKn x20 x21 x22 x45 x46 x47 b1 b4) (xBL r):=by
 intro n
 induction n with
 |zero=>exact fun _ _ _ _ _ _ _ _ _ h=>nE h
 |succ n ih =>
  exact fun x20 x21 x22 x45 x46 x47 b1 b4 r h =>
   cE h (fun h0 h=>iE h fun h1 h=>cE h (fun h2 h=>dS h xLP (xVE x20 x21 x22 x45 x46 x47 b1 b4) (oc5 h0 h1 h2 rfl rfl on)) fun h2 h =>
   cE h (fun h3 h=>dS h xLP (xVF x20 x21 x22 x45 x46 x47 b1 b4) (oc5 h0 h1 h2 h3 rfl on)) fun h3 h =>
   cE h (fun h4 h=>iE h fun h5 h=>bE h fun r1 h6 h=>cE h (fun h7 h=>dS h xLP (xVG x20 x21 x22 x45 x46 x47 b1 b4 r1) (oc8 h0 h1 h2 h3 h4 h5 (xHu h6) h7 on)) fun h7 h =>
   tS xLP (xVH x20 x21 x22 x45 x46 x47 b1 b4 r1) (oc8 h0 h1 h2 h3 h4 h5 (xHu h6) h7 on) (ih _ _ _ _ _ _ _ _ _ h)) fun h4 h =>
   tS xLP (xVI x20 x21 x22 x45 x46 x47 b1 b4) (oc6 h0 h1 h2 h3 h4 rfl on) (ih _ _ _ _ _ _ _ _ _ h)) fun h0 h =>
   tS xLP (xVJ x20 x21 x22 x45 x46 x47 b1 b4) (oc h0 on) (hk4 _ _ _ _ _ h)
theorem vEA{N:Nat}{k4:(List Rowd)→Int→Int→Val→Option (Bool)}(hk4:∀z0 z1 z2 z3 r,k4 z0 z1 z2 z3=some r→RS Tryz.f115 I115 4 (xNq z0 z1 z2 z3) (xBL r)):∀n x20 x21 x22 x34 x35 x36 b1 b4 r,xFj N k4 n x20 x21 x22 x34 x35 x36 b1 b4=some r→RS Tryz.f115 I115 9 (xPj x20 x21 x22 x34 x35 x36 b1 b4) (xBL r):=by
 intro n
 induction n with
 |zero=>exact fun _ _ _ _ _ _ _ _ _ h=>nE h
 |succ n ih =>
  exact fun x20 x21 x22 x34 x35 x36 b1 b4 r h =>
   cE h (fun h0 h=>iE h fun h1 h=>bE h fun r1 h2 h=>cE h (fun h3 h=>dS h xLP (xWQ x20 x21 x22 x34 x35 x36 b1 b4 r1) (oc4 h0 h1 (xFC h2) h3 on)) fun h3 h =>
   tS xLP (xWR x20 x21 x22 x34 x35 x36 b1 b4 r1) (oc4 h0 h1 (xFC h2) h3 on) (ih _ _ _ _ _ _ _ _ _ h)) fun h0 h =>
   tS xLP (xWS x20 x21 x22 x34 x35 x36 b1 b4) (oc h0 on) (vAu hk4 _ _ _ _ _ _ _ _ _ _ h)
theorem vEz{N:Nat}:∀n x20 x21 x22 b1 r,xFi N n x20 x21 x22 b1=some r→RS Tryz.f115 I115 4 (xNq x20 x21 x22 b1) (xBL r):=by
 intro n
 induction n with
 |zero=>exact fun _ _ _ _ _ h=>nE h
 |succ n ih =>
  exact fun x20 x21 x22 b1 r h =>
   cE h (fun h0 h=>iE h fun h1 h=>cE h (fun h2 h=>dS h xLP (xWP x20 x21 x22 b1) (oc3 h0 h1 h2 on)) fun h2 h =>
   tS xLP (xVK x20 x21 x22 b1) (oc3 h0 h1 h2 on) (vEA ih _ _ _ _ _ _ _ _ _ _ h)) fun h0 h =>
   dS h xLP (xVL x20 x21 x22 b1) (oc h0 on)
theorem vEB{N:Nat}:∀a0 r,xH3 N a0=some r→RE Tryz.f115 I115 (xFh a0) (xBL r):=fun a0 r h =>
 bE h fun r1 h0 h=>cE h (fun h1 h=>dE h xLP (xVM a0 r1) (oc3 (xIe h0) h1 rfl on)) fun h1 h =>
 cE h (fun h2 h=>dE h xLP (xVN a0 r1) (oc3 (xIe h0) h1 h2 on)) fun h2 h =>
 tE xLP (xVO a0 r1) (oc3 (xIe h0) h1 h2 on) (vEz _ _ _ _ _ _ h)
theorem xLu{N:Nat}{a0:Val}{r:Bool}(h:xH3 N  a0=some r):AbC 115 (xFh a0) (xBL r) :=
 AbsCalls.of_reach xLP rfl rfl rfl (Nat.le_of_ble_eq_true rfl) (vEB a0 r h)
def G116(q:Val→Option (Int)):Prop:=∀a0 r,q a0=some r→AbC 116 (xFd a0) (xDu r)
noncomputable def I116:Info:= { body:=(Tryz.f116.body).getD .skip,nt:=20,results:= [.tmp 2],keep:= [0,2,4,6,10,14,16,18,20,3,11],live:= [(3, [6,14,16,18])],modes:= [(6, [(1, .take,false)])] }
theorem xWs:FnOk Tryz.prog 116 Tryz.f116 I116:=⟨Tryz.func116,by kernel_rfl,by kernel_rfl,by kernel_rfl,by kernel_rfl⟩
def xRd(x3:Int)(x7:List Val)(x8 x9:Int):St:= [(6, .v false [.int .i64 x3]),(14, .v false [.sl .ro .val x7]),(16, .v false [.int .i64 x8]),(18, .v false [.int .i64 x9])]
def xWT(x3:Int)(x7:List Val)(x8 x9 r1:Int):rS 3 I116 (xRd x3 x7 x8 x9) [Y] [xDu r1]=st 3 I116 (xRd (if r1>x3 then r1 else x3) x7 x8 (W (x9+1))) [xGw x9 x8,xCi x9 x7,AbC 116 (xFd (xIN x7 x9)) (xDu r1)]:=by kernel_rfl
def xWU(x3:Int)(x7:List Val)(x8 x9:Int):rS 3 I116 (xRd x3 x7 x8 x9) [F] []=dn (xDu (W (x3+1))) [xJg x9 x8]:=by kernel_rfl
def xWV(a0:Val):rE I116 (xFd a0) [] []=st 3 I116 (xRd 0 (Val.list a0) (xOo a0) 0) []:=by kernel_rfl
theorem vEC{N q0}(g0:G116 q0):∀n x3 x7 x8 x9 r,xGa N q0 n x3 x7 x8 x9=some r→RS Tryz.f116 I116 3 (xRd x3 x7 x8 x9) (xDu r):=by
 intro n
 induction n with
 |zero=>exact fun _ _ _ _ _ h=>nE h
 |succ n ih =>
  exact fun x3 x7 x8 x9 r h =>
   cE h (fun h0 h=>iE h fun h1 h=>bE h fun r1 h2 h=>tS xWs (xWT x3 x7 x8 x9 r1) (oc3 h0 h1 (g0 _ _ h2) on) (ih _ _ _ _ _ h)) fun h0 h =>
   dS h xWs (xWU x3 x7 x8 x9) (oc h0 on)
theorem vED{N q0}(g0:G116 q0):∀a0 r,xIH N q0 a0=some r→RE Tryz.f116 I116 (xFd a0) (xDu r):=fun a0 r h =>
 tE xWs (xWV a0) on (vEC g0 _ _ _ _ _ _ h)
theorem xLQ{N q0}(g0:G116 q0){a0}{r}(h:xIH N q0 a0=some r):AbC 116 (xFd a0) (xDu r) :=
 AbsCalls.of_reach xWs rfl rfl rfl (Nat.le_of_ble_eq_true rfl) (vED g0 a0 r h)
theorem xJE{N:Nat}:∀d,G116 (xEJ N d)
 |0=>fun _ _ h=>nE h
 |d+1=>fun _ _ h=>xLQ (N:=N) (xJE d) h
theorem xN8{N:Nat}{a0:Val}{r:Int}(h:xI4 N a0=some r):AbC 116 (xFd a0) (xDu r):=xJE N _ r h
def G72(q:Val→Option (Bool)):Prop:=∀a0 r,q a0=some r→AbC 72 (xAn a0) (xAk r)
noncomputable def I72:Info:= { body:=(Tryz.f72.body).getD .skip,nt:=185,results:= [.tmp 2],keep:= [0,2,4,6,10,46,48,84,120,156,192,242,248,250,252,254,294,3,11],live:= [(15, [2,248,250,252,3])],modes:= [(1, [(4, .take,false),(10, .take,false)]),(4, [(1, .take,false),(6, .take,false),(11, .take,false)]),(6, [(1, .take,false),(6, .take,false),(11, .take,false)]),(8, [(1, .take,false),(6, .take,false),(11, .take,false)]),(10, [(1, .take,false),(6, .take,false),(11, .take,false)]),(12, [(3, .take,false),(8, .take,false),(13, .take,false),(19, .take,false)]),(17, [(3, .take,false),(8, .take,false),(13, .take,false)]),(19, [(1, .take,false)]),(20, [(3, .take,false),(8, .take,false),(13, .take,false),(19, .take,false),(25, .take,false),(31, .take,false)])] }
theorem fk72:FnOk Tryz.prog 72 Tryz.f72 I72:=⟨Tryz.func72,by kernel_rfl,by kernel_rfl,by kernel_rfl,by kernel_rfl⟩
def xH9(x124:List Val)(x125 x126:Int)(b1:Val):St:= [(2, .v false [.ptr 1 0]),(248, .v false [.sl .ro .val x124]),(250, .v false [.int .i64 x125]),(252, .v false [.int .i64 x126]),(3, .v true [.int .i64 (Val.kind b1), .int .i64 (Val.n b1), .int .i64 (Val.step b1), .str (Val.text b1), .sl .ro .val (Val.list b1), .sl .ro .str (Val.columns b1), .sl .ro .row (Val.rows b1)])]
abbrev xJS(v0:List Val)(v1:Int):=((Val.kind (gD v0 (tN v1) vd)):Int)
abbrev xOj(v0:List Val)(v1:Int):Prop:=iY ((xJS v0 v1) != 1)
abbrev xST(v0:List Val)(v1:Int):Prop:=iY ((xJS v0 v1) != 2)
def xY6(x124:List Val)(x125 x126:Int)(b1:Val):rS 15 I72 (xH9 x124 x125 x126 b1) [Y,Y,Y,Y,Y] []=dn (xAk false) [xGw x126 x125,xCi x126 x124,xOj x124 x126,xST x124 x126,iY ((xJS x124 x126) != 3),iY true]:=by kernel_rfl
abbrev xLc(v0:List Val)(v1:Int)(v2:Bool):Prop:=AbC 72 (xAn (xIN v0 v1)) (xAk v2)
def xY7(x124:List Val)(x125 x126:Int)(b1:Val)(r1:Bool):rS 15 I72 (xH9 x124 x125 x126 b1) [Y,Y,Y,F,Y] [xAk r1]=dn (xAk false) [xGw x126 x125,xCi x126 x124,xOj x124 x126,xST x124 x126,iN ((xJS x124 x126) != 3),xLc x124 x126 r1,iY (!r1)]:=by kernel_rfl
def xY8(x124:List Val)(x125 x126:Int)(b1:Val)(r1:Bool):rS 15 I72 (xH9 x124 x125 x126 b1) [Y,Y,Y,F,F] [xAk r1]=st 15 I72 (xH9 x124 x125 (W (x126+1)) b1) [xGw x126 x125,xCi x126 x124,xOj x124 x126,xST x124 x126,iN ((xJS x124 x126) != 3),xLc x124 x126 r1,xAA r1]:=by kernel_rfl
def xY9(x124:List Val)(x125 x126:Int)(b1:Val)(r1:Bool):rS 15 I72 (xH9 x124 x125 x126 b1) [Y,Y,F,F,Y] [xAk r1]=dn (xAk false) [xGw x126 x125,xCi x126 x124,xOj x124 x126,iN ((xJS x124 x126) != 2),iN false,xLc x124 x126 r1,iY (!r1)]:=by kernel_rfl
def xZa(x124:List Val)(x125 x126:Int)(b1:Val)(r1:Bool):rS 15 I72 (xH9 x124 x125 x126 b1) [Y,Y,F,F,F] [xAk r1]=st 15 I72 (xH9 x124 x125 (W (x126+1)) b1) [xGw x126 x125,xCi x126 x124,xOj x124 x126,iN ((xJS x124 x126) != 2),iN false,xLc x124 x126 r1,xAA r1]:=by kernel_rfl
def xZb(x124:List Val)(x125 x126:Int)(b1:Val)(r1:Bool):rS 15 I72 (xH9 x124 x125 x126 b1) [Y,F,F,F,Y] [xAk r1]=dn (xAk false) [xGw x126 x125,xCi x126 x124,iN ((xJS x124 x126) != 1),iN false,iN false,xLc x124 x126 r1,iY (!r1)]:=by kernel_rfl
def xZc(x124:List Val)(x125 x126:Int)(b1:Val)(r1:Bool):rS 15 I72 (xH9 x124 x125 x126 b1) [Y,F,F,F,F] [xAk r1]=st 15 I72 (xH9 x124 x125 (W (x126+1)) b1) [xGw x126 x125,xCi x126 x124,iN ((xJS x124 x126) != 1),iN false,iN false,xLc x124 x126 r1,xAA r1]:=by kernel_rfl
abbrev xHy(v0:Val):Prop:=iY ((Val.step v0)==0)
abbrev xJP(v0:Val):Prop:=iY (xP6 v0)
abbrev xEO(v0:Val):Prop:=iY ((xP5 v0)==0)
abbrev xIp(v0:Val):Prop:=iY ((xKB v0)==0)
def xZd(x124:List Val)(x125 x126:Int)(b1:Val)(r1:Int):rS 15 I72 (xH9 x124 x125 x126 b1) [F,Y,Y,Y,Y,Y,Y] [xDu r1]=dn (xAk (dc (r1≤3))) [xJg x126 x125,xH4 b1,xHy b1,xJP b1,xEO b1,xIp b1,iY (xP7 b1),AbC 116 (xFd b1) (xDu r1)]:=by kernel_rfl
def xZe(x124:List Val)(x125 x126:Int)(b1:Val):rS 15 I72 (xH9 x124 x125 x126 b1) [F,Y,Y,Y,Y,Y,F] []=dn (xAk false) [xJg x126 x125,xH4 b1,xHy b1,xJP b1,xEO b1,xIp b1,iN (xP7 b1)]:=by kernel_rfl
abbrev xOk(v0:Val):Prop:=iN ((xKB v0)==0)
def xZf(x124:List Val)(x125 x126:Int)(b1:Val):rS 15 I72 (xH9 x124 x125 x126 b1) [F,Y,Y,Y,Y,F,F] []=dn (xAk false) [xJg x126 x125,xH4 b1,xHy b1,xJP b1,xEO b1,xOk b1,iN false]:=by kernel_rfl
abbrev xJQ(v0:Val):Prop:=iN ((xP5 v0)==0)
def xV5(x124:List Val)(x125 x126:Int)(b1:Val):rS 15 I72 (xH9 x124 x125 x126 b1) [F,Y,Y,Y,F,F,F] []=dn (xAk false) [xJg x126 x125,xH4 b1,xHy b1,xJP b1,xJQ b1,iN false,iN false]:=by kernel_rfl
abbrev xMj(v0:Val):Prop:=iN (xP6 v0)
def xV6(x124:List Val)(x125 x126:Int)(b1:Val):rS 15 I72 (xH9 x124 x125 x126 b1) [F,Y,Y,F,F,F,F] []=dn (xAk false) [xJg x126 x125,xH4 b1,xHy b1,xMj b1,iN false,iN false,iN false]:=by kernel_rfl
abbrev xMk(v0:Val):Prop:=iN ((Val.step v0)==0)
def xV7(x124:List Val)(x125 x126:Int)(b1:Val):rS 15 I72 (xH9 x124 x125 x126 b1) [F,Y,F,F,F,F,F] []=dn (xAk false) [xJg x126 x125,xH4 b1,xMk b1,iN false,iN false,iN false,iN false]:=by kernel_rfl
def xV8(x124:List Val)(x125 x126:Int)(b1:Val):rS 15 I72 (xH9 x124 x125 x126 b1) [F,F,F,F,F,F,F] []=dn (xAk false) [xJg x126 x125,xNB b1,iN false,iN false,iN false,iN false,iN false]:=by kernel_rfl
abbrev xDk(v0:Val):Prop:=iY ((xOo v0)==0)
def xZg(a0:Val)(r1:Bool):rE I72 (xAn a0) [Y,Y,Y,Y,Y,Y] [xB9 r1]=dn (xAk r1) [xDk a0,xEO a0,xNx a0,xIp a0,xHy a0,xJP a0,AbC 82 (xDA (Val.n a0)) (xB9 r1)]:=by kernel_rfl
def xZh(a0:Val):rE I72 (xAn a0) [Y,Y,Y,Y,Y,F] []=dn (xAk false) [xDk a0,xEO a0,xNx a0,xIp a0,xHy a0,xMj a0]:=by kernel_rfl
def xZi(a0:Val):rE I72 (xAn a0) [Y,Y,Y,Y,F,F] []=dn (xAk false) [xDk a0,xEO a0,xNx a0,xIp a0,xMk a0,iN false]:=by kernel_rfl
def xZj(a0:Val):rE I72 (xAn a0) [Y,Y,Y,F,F,F] []=dn (xAk false) [xDk a0,xEO a0,xNx a0,xOk a0,iN false,iN false]:=by kernel_rfl
def xZk(a0:Val)(r1:Bool):rE I72 (xAn a0) [Y,Y,F,Y,Y,Y,Y] [xCT r1]=dn (xAk r1) [xDk a0,xEO a0,xC8 a0,xMJ a0,xIp a0,xH4 a0,xHy a0,AbC 113 (xGr (Val.text a0)) (xCT r1)]:=by kernel_rfl
def xZl(a0:Val):rE I72 (xAn a0) [Y,Y,F,Y,Y,Y,F] []=dn (xAk false) [xDk a0,xEO a0,xC8 a0,xMJ a0,xIp a0,xH4 a0,xMk a0]:=by kernel_rfl
def xZm(a0:Val):rE I72 (xAn a0) [Y,Y,F,Y,Y,F,F] []=dn (xAk false) [xDk a0,xEO a0,xC8 a0,xMJ a0,xIp a0,xNB a0,iN false]:=by kernel_rfl
def xZn(a0:Val):rE I72 (xAn a0) [Y,Y,F,Y,F,F,F] []=dn (xAk false) [xDk a0,xEO a0,xC8 a0,xMJ a0,xOk a0,iN false,iN false]:=by kernel_rfl
def xZo(a0:Val)(r1 r2:Bool):rE I72 (xAn a0) [Y,Y,F,F,Y,Y,Y,Y] [xB9 r1,xB9 r2]=dn (xAk r2) [xDk a0,xEO a0,xC8 a0,xD1 a0,xNA a0,xIp a0,xJP a0,AbC 82 (xDA (Val.n a0)) (xB9 r1),iY r1,AbC 82 (xDA (Val.step a0)) (xB9 r2)]:=by kernel_rfl
def xZp(a0:Val)(r1:Bool):rE I72 (xAn a0) [Y,Y,F,F,Y,Y,Y,F] [xB9 r1]=dn (xAk false) [xDk a0,xEO a0,xC8 a0,xD1 a0,xNA a0,xIp a0,xJP a0,AbC 82 (xDA (Val.n a0)) (xB9 r1),iN r1]:=by kernel_rfl
def xZq(a0:Val):rE I72 (xAn a0) [Y,Y,F,F,Y,Y,F,F] []=dn (xAk false) [xDk a0,xEO a0,xC8 a0,xD1 a0,xNA a0,xIp a0,xMj a0,iN false]:=by kernel_rfl
def xZr(a0:Val):rE I72 (xAn a0) [Y,Y,F,F,Y,F,F,F] []=dn (xAk false) [xDk a0,xEO a0,xC8 a0,xD1 a0,xNA a0,xOk a0,iN false,iN false]:=by kernel_rfl
def xZs(a0:Val)(r1:Bool):rE I72 (xAn a0) [Y,Y,F,F,F,Y,Y,Y,Y] [xCP r1]=dn (xAk r1) [xDk a0,xEO a0,xC8 a0,xD1 a0,xF4 a0,xOt a0,xIp a0,xHy a0,xJP a0,AbC 114 (xEt (Val.n a0) 1 8) (xCP r1)]:=by kernel_rfl
def xZt(a0:Val):rE I72 (xAn a0) [Y,Y,F,F,F,Y,Y,Y,F] []=dn (xAk false) [xDk a0,xEO a0,xC8 a0,xD1 a0,xF4 a0,xOt a0,xIp a0,xHy a0,xMj a0]:=by kernel_rfl
def xZu(a0:Val):rE I72 (xAn a0) [Y,Y,F,F,F,Y,Y,F,F] []=dn (xAk false) [xDk a0,xEO a0,xC8 a0,xD1 a0,xF4 a0,xOt a0,xIp a0,xMk a0,iN false]:=by kernel_rfl
def xZv(a0:Val):rE I72 (xAn a0) [Y,Y,F,F,F,Y,F,F,F] []=dn (xAk false) [xDk a0,xEO a0,xC8 a0,xD1 a0,xF4 a0,xOt a0,xOk a0,iN false,iN false]:=by kernel_rfl
def xZw(a0:Val)(r1:Bool):rE I72 (xAn a0) [Y,Y,F,F,F,F,Y,Y,Y,Y,Y] [xBL r1]=dn (xAk r1) [xDk a0,xEO a0,xC8 a0,xD1 a0,xF4 a0,xIs a0,xKg a0,xH4 a0,xHy a0,xJP a0,xDk a0,AbC 115 (xFh a0) (xBL r1)]:=by kernel_rfl
def xZx(a0:Val):rE I72 (xAn a0) [Y,Y,F,F,F,F,Y,Y,Y,F,F] []=dn (xAk false) [xDk a0,xEO a0,xC8 a0,xD1 a0,xF4 a0,xIs a0,xKg a0,xH4 a0,xHy a0,xMj a0,iN false]:=by kernel_rfl
def xZy(a0:Val):rE I72 (xAn a0) [Y,Y,F,F,F,F,Y,Y,F,F,F] []=dn (xAk false) [xDk a0,xEO a0,xC8 a0,xD1 a0,xF4 a0,xIs a0,xKg a0,xH4 a0,xMk a0,iN false,iN false]:=by kernel_rfl
def xZz(a0:Val):rE I72 (xAn a0) [Y,Y,F,F,F,F,Y,F,F,F,F] []=dn (xAk false) [xDk a0,xEO a0,xC8 a0,xD1 a0,xF4 a0,xIs a0,xKg a0,xNB a0,iN false,iN false,iN false]:=by kernel_rfl
abbrev xTh(v0:Val):=xH9 (Val.list v0) (Ln (Val.list v0):Int) 0 v0
def xZA(a0:Val):rE I72 (xAn a0) [Y,Y,F,F,F,F,F,Y] []=st 15 I72 (xTh a0) [xDk a0,xEO a0,xC8 a0,xD1 a0,xF4 a0,xIs a0,xNz a0,xRv a0]:=by kernel_rfl
def xZB(a0:Val):rE I72 (xAn a0) [Y,Y,F,F,F,F,F,F] []=dn (xAk false) [xDk a0,xEO a0,xC8 a0,xD1 a0,xF4 a0,xIs a0,xNz a0,xMO a0]:=by kernel_rfl
def xZC(a0:Val):rE I72 (xAn a0) [Y,F,Y,F,F,F] []=dn (xAk false) [xDk a0,xJQ a0,xNx a0,iN false,iN false,iN false]:=by kernel_rfl
def xZD(a0:Val):rE I72 (xAn a0) [Y,F,F,Y,F,F,F] []=dn (xAk false) [xDk a0,xJQ a0,xC8 a0,xMJ a0,iN false,iN false,iN false]:=by kernel_rfl
def xZE(a0:Val):rE I72 (xAn a0) [Y,F,F,F,Y,F,F,F] []=dn (xAk false) [xDk a0,xJQ a0,xC8 a0,xD1 a0,xNA a0,iN false,iN false,iN false]:=by kernel_rfl
def xZF(a0:Val):rE I72 (xAn a0) [Y,F,F,F,F,Y,F,F,F] []=dn (xAk false) [xDk a0,xJQ a0,xC8 a0,xD1 a0,xF4 a0,xOt a0,iN false,iN false,iN false]:=by kernel_rfl
def xZG(a0:Val)(r1:Bool):rE I72 (xAn a0) [Y,F,F,F,F,F,Y,Y,Y,Y,Y] [xBL r1]=dn (xAk r1) [xDk a0,xJQ a0,xC8 a0,xD1 a0,xF4 a0,xIs a0,xKg a0,xH4 a0,xHy a0,xJP a0,xDk a0,AbC 115 (xFh a0) (xBL r1)]:=by kernel_rfl
def xZH(a0:Val):rE I72 (xAn a0) [Y,F,F,F,F,F,Y,Y,Y,F,F] []=dn (xAk false) [xDk a0,xJQ a0,xC8 a0,xD1 a0,xF4 a0,xIs a0,xKg a0,xH4 a0,xHy a0,xMj a0,iN false]:=by kernel_rfl
def xZI(a0:Val):rE I72 (xAn a0) [Y,F,F,F,F,F,Y,Y,F,F,F] []=dn (xAk false) [xDk a0,xJQ a0,xC8 a0,xD1 a0,xF4 a0,xIs a0,xKg a0,xH4 a0,xMk a0,iN false,iN false]:=by kernel_rfl
def xZJ(a0:Val):rE I72 (xAn a0) [Y,F,F,F,F,F,Y,F,F,F,F] []=dn (xAk false) [xDk a0,xJQ a0,xC8 a0,xD1 a0,xF4 a0,xIs a0,xKg a0,xNB a0,iN false,iN false,iN false]:=by kernel_rfl
def xZK(a0:Val):rE I72 (xAn a0) [Y,F,F,F,F,F,F,Y] []=st 15 I72 (xTh a0) [xDk a0,xJQ a0,xC8 a0,xD1 a0,xF4 a0,xIs a0,xNz a0,xRv a0]:=by kernel_rfl
def xZL(a0:Val):rE I72 (xAn a0) [Y,F,F,F,F,F,F,F] []=dn (xAk false) [xDk a0,xJQ a0,xC8 a0,xD1 a0,xF4 a0,xIs a0,xNz a0,xMO a0]:=by kernel_rfl
abbrev xJR(v0:Val):Prop:=iN ((xOo v0)==0)
def xZM(a0:Val):rE I72 (xAn a0) [F,F,Y,F,F,F] []=dn (xAk false) [xJR a0,iN false,xNx a0,iN false,iN false,iN false]:=by kernel_rfl
def xZN(a0:Val):rE I72 (xAn a0) [F,F,F,Y,F,F,F] []=dn (xAk false) [xJR a0,iN false,xC8 a0,xMJ a0,iN false,iN false,iN false]:=by kernel_rfl
def xZO(a0:Val):rE I72 (xAn a0) [F,F,F,F,Y,F,F,F] []=dn (xAk false) [xJR a0,iN false,xC8 a0,xD1 a0,xNA a0,iN false,iN false,iN false]:=by kernel_rfl
def xZP(a0:Val):rE I72 (xAn a0) [F,F,F,F,F,Y,F,F,F] []=dn (xAk false) [xJR a0,iN false,xC8 a0,xD1 a0,xF4 a0,xOt a0,iN false,iN false,iN false]:=by kernel_rfl
def xZQ(a0:Val):rE I72 (xAn a0) [F,F,F,F,F,F,Y,Y,Y,Y,F] []=dn (xAk false) [xJR a0,iN false,xC8 a0,xD1 a0,xF4 a0,xIs a0,xKg a0,xH4 a0,xHy a0,xJP a0,xJR a0]:=by kernel_rfl
def xZR(a0:Val):rE I72 (xAn a0) [F,F,F,F,F,F,Y,Y,Y,F,F] []=dn (xAk false) [xJR a0,iN false,xC8 a0,xD1 a0,xF4 a0,xIs a0,xKg a0,xH4 a0,xHy a0,xMj a0,iN false]:=by kernel_rfl
def xZS(a0:Val):rE I72 (xAn a0) [F,F,F,F,F,F,Y,Y,F,F,F] []=dn (xAk false) [xJR a0,iN false,xC8 a0,xD1 a0,xF4 a0,xIs a0,xKg a0,xH4 a0,xMk a0,iN false,iN false]:=by kernel_rfl
def xZT(a0:Val):rE I72 (xAn a0) [F,F,F,F,F,F,Y,F,F,F,F] []=dn (xAk false) [xJR a0,iN false,xC8 a0,xD1 a0,xF4 a0,xIs a0,xKg a0,xNB a0,iN false,iN false,iN false]:=by kernel_rfl
def xZU(a0:Val):rE I72 (xAn a0) [F,F,F,F,F,F,F,Y] []=st 15 I72 (xTh a0) [xJR a0,iN false,xC8 a0,xD1 a0,xF4 a0,xIs a0,xNz a0,xRv a0]:=by kernel_rfl
def xZV(a0:Val):rE I72 (xAn a0) [F,F,F,F,F,F,F,F] []=dn (xAk false) [xJR a0,iN false,xC8 a0,xD1 a0,xF4 a0,xIs a0,xNz a0,xMO a0]:=by kernel_rfl
theorem xUT{N q0}(g0:G72 q0):∀n x124 x125 x126 b1 r,xBR N q0 n x124 x125 x126 b1=some r→RS Tryz.f72 I72 15 (xH9 x124 x125 x126 b1) (xAk r):=by
 intro n
 induction n with
 |zero=>exact fun _ _ _ _ _ h=>nE h
 |succ n ih =>
  exact fun x124 x125 x126 b1 r h =>
   cE h (fun h0 h=>iE h fun h1 h=>cE h (fun h2 h=>cE h (fun h3 h=>cE h (fun h4 h=>dS h fk72 (xY6 x124 x125 x126 b1) (oc6 h0 h1 h2 h3 h4 rfl on)) fun h4 h =>
   bE h fun r1 h5 h=>cE h (fun h6 h=>dS h fk72 (xY7 x124 x125 x126 b1 r1) (oc7 h0 h1 h2 h3 h4 (g0 _ _ h5) h6 on)) fun h6 h =>
   tS fk72 (xY8 x124 x125 x126 b1 r1) (oc7 h0 h1 h2 h3 h4 (g0 _ _ h5) h6 on) (ih _ _ _ _ _ h)) fun h3 h =>
   bE h fun r1 h5 h=>cE h (fun h6 h=>dS h fk72 (xY9 x124 x125 x126 b1 r1) (oc7 h0 h1 h2 h3 rfl (g0 _ _ h5) h6 on)) fun h6 h =>
   tS fk72 (xZa x124 x125 x126 b1 r1) (oc7 h0 h1 h2 h3 rfl (g0 _ _ h5) h6 on) (ih _ _ _ _ _ h)) fun h2 h =>
   bE h fun r1 h5 h=>cE h (fun h6 h=>dS h fk72 (xZb x124 x125 x126 b1 r1) (oc7 h0 h1 h2 rfl rfl (g0 _ _ h5) h6 on)) fun h6 h =>
   tS fk72 (xZc x124 x125 x126 b1 r1) (oc7 h0 h1 h2 rfl rfl (g0 _ _ h5) h6 on) (ih _ _ _ _ _ h)) fun h0 h =>
   cE h (fun h1 h=>cE h (fun h2 h=>cE h (fun h3 h=>cE h (fun h4 h=>cE h (fun h5 h=>cE h (fun h6 h=>bE h fun r1 h7 h=>dS h fk72 (xZd x124 x125 x126 b1 r1) (oc8 h0 h1 h2 h3 h4 h5 h6 (xN8 h7) on)) fun h6 h =>
   dS h fk72 (xZe x124 x125 x126 b1) (oc7 h0 h1 h2 h3 h4 h5 h6 on)) fun h5 h =>
   dS h fk72 (xZf x124 x125 x126 b1) (oc7 h0 h1 h2 h3 h4 h5 rfl on)) fun h4 h =>
   dS h fk72 (xV5 x124 x125 x126 b1) (oc7 h0 h1 h2 h3 h4 rfl rfl on)) fun h3 h =>
   dS h fk72 (xV6 x124 x125 x126 b1) (oc7 h0 h1 h2 h3 rfl rfl rfl on)) fun h2 h =>
   dS h fk72 (xV7 x124 x125 x126 b1) (oc7 h0 h1 h2 rfl rfl rfl rfl on)) fun h1 h =>
   dS h fk72 (xV8 x124 x125 x126 b1) (oc7 h0 h1 rfl rfl rfl rfl rfl on)
theorem vGQ{N q0}(g0:G72 q0):∀a0 r,xEc N q0 a0=some r→RE Tryz.f72 I72 (xAn a0) (xAk r):=fun a0 r h =>
 cE h (fun h0 h=>cE h (fun h1 h=>cE h (fun h2 h=>cE h (fun h3 h=>cE h (fun h4 h=>cE h (fun h5 h=>bE h fun r1 h6 h=>dE h fk72 (xZg a0 r1) (oc7 h0 h1 h2 h3 h4 h5 (xFC h6) on)) fun h5 h =>
 dE h fk72 (xZh a0) (oc6 h0 h1 h2 h3 h4 h5 on)) fun h4 h =>
 dE h fk72 (xZi a0) (oc6 h0 h1 h2 h3 h4 rfl on)) fun h3 h =>
 dE h fk72 (xZj a0) (oc6 h0 h1 h2 h3 rfl rfl on)) fun h2 h =>
 cE h (fun h3 h=>cE h (fun h4 h=>cE h (fun h5 h=>cE h (fun h6 h=>bE h fun r1 h7 h=>dE h fk72 (xZk a0 r1) (oc8 h0 h1 h2 h3 h4 h5 h6 (xMa h7) on)) fun h6 h =>
 dE h fk72 (xZl a0) (oc7 h0 h1 h2 h3 h4 h5 h6 on)) fun h5 h =>
 dE h fk72 (xZm a0) (oc7 h0 h1 h2 h3 h4 h5 rfl on)) fun h4 h =>
 dE h fk72 (xZn a0) (oc7 h0 h1 h2 h3 h4 rfl rfl on)) fun h3 h =>
 cE h (fun h4 h=>cE h (fun h5 h=>cE h (fun h6 h=>bE h fun r1 h7 h=>cE h (fun h8 h=>bE h fun r2 h9 h=>dE h fk72 (xZo a0 r1 r2) (oc10 h0 h1 h2 h3 h4 h5 h6 (xFC h7) h8 (xFC h9) on)) fun h8 h =>
 dE h fk72 (xZp a0 r1) (oc9 h0 h1 h2 h3 h4 h5 h6 (xFC h7) h8 on)) fun h6 h =>
 dE h fk72 (xZq a0) (oc8 h0 h1 h2 h3 h4 h5 h6 rfl on)) fun h5 h =>
 dE h fk72 (xZr a0) (oc8 h0 h1 h2 h3 h4 h5 rfl rfl on)) fun h4 h =>
 cE h (fun h5 h=>cE h (fun h6 h=>cE h (fun h7 h=>cE h (fun h8 h=>bE h fun r1 h9 h=>dE h fk72 (xZs a0 r1) (oc10 h0 h1 h2 h3 h4 h5 h6 h7 h8 (xHG h9) on)) fun h8 h =>
 dE h fk72 (xZt a0) (oc9 h0 h1 h2 h3 h4 h5 h6 h7 h8 on)) fun h7 h =>
 dE h fk72 (xZu a0) (oc9 h0 h1 h2 h3 h4 h5 h6 h7 rfl on)) fun h6 h =>
 dE h fk72 (xZv a0) (oc9 h0 h1 h2 h3 h4 h5 h6 rfl rfl on)) fun h5 h =>
 cE h (fun h6 h=>cE h (fun h7 h=>cE h (fun h8 h=>cE h (fun h9 h=>bE h fun r1 h11 h=>dE h fk72 (xZw a0 r1) (oc12 h0 h1 h2 h3 h4 h5 h6 h7 h8 h9 h0 (xLu h11) on)) fun h9 h =>
 dE h fk72 (xZx a0) (oc11 h0 h1 h2 h3 h4 h5 h6 h7 h8 h9 rfl on)) fun h8 h =>
 dE h fk72 (xZy a0) (oc11 h0 h1 h2 h3 h4 h5 h6 h7 h8 rfl rfl on)) fun h7 h =>
 dE h fk72 (xZz a0) (oc11 h0 h1 h2 h3 h4 h5 h6 h7 rfl rfl rfl on)) fun h6 h =>
 cE h (fun h7 h=>tE fk72 (xZA a0) (oc8 h0 h1 h2 h3 h4 h5 h6 h7 on) (xUT g0 _ _ _ _ _ _ h)) fun h7 h =>
 dE h fk72 (xZB a0) (oc8 h0 h1 h2 h3 h4 h5 h6 h7 on)) fun h1 h =>
 cE h (fun h2 h=>dE h fk72 (xZC a0) (oc6 h0 h1 h2 rfl rfl rfl on)) fun h2 h =>
 cE h (fun h3 h=>dE h fk72 (xZD a0) (oc7 h0 h1 h2 h3 rfl rfl rfl on)) fun h3 h =>
 cE h (fun h4 h=>dE h fk72 (xZE a0) (oc8 h0 h1 h2 h3 h4 rfl rfl rfl on)) fun h4 h =>
 cE h (fun h5 h=>dE h fk72 (xZF a0) (oc9 h0 h1 h2 h3 h4 h5 rfl rfl rfl on)) fun h5 h =>
 cE h (fun h6 h=>cE h (fun h7 h=>cE h (fun h8 h=>cE h (fun h9 h=>bE h fun r1 h11 h=>dE h fk72 (xZG a0 r1) (oc12 h0 h1 h2 h3 h4 h5 h6 h7 h8 h9 h0 (xLu h11) on)) fun h9 h =>
 dE h fk72 (xZH a0) (oc11 h0 h1 h2 h3 h4 h5 h6 h7 h8 h9 rfl on)) fun h8 h =>
 dE h fk72 (xZI a0) (oc11 h0 h1 h2 h3 h4 h5 h6 h7 h8 rfl rfl on)) fun h7 h =>
 dE h fk72 (xZJ a0) (oc11 h0 h1 h2 h3 h4 h5 h6 h7 rfl rfl rfl on)) fun h6 h =>
 cE h (fun h7 h=>tE fk72 (xZK a0) (oc8 h0 h1 h2 h3 h4 h5 h6 h7 on) (xUT g0 _ _ _ _ _ _ h)) fun h7 h =>
 dE h fk72 (xZL a0) (oc8 h0 h1 h2 h3 h4 h5 h6 h7 on)) fun h0 h =>
 cE h (fun h2 h=>dE h fk72 (xZM a0) (oc6 h0 rfl h2 rfl rfl rfl on)) fun h2 h =>
 cE h (fun h3 h=>dE h fk72 (xZN a0) (oc7 h0 rfl h2 h3 rfl rfl rfl on)) fun h3 h =>
 cE h (fun h4 h=>dE h fk72 (xZO a0) (oc8 h0 rfl h2 h3 h4 rfl rfl rfl on)) fun h4 h =>
 cE h (fun h5 h=>dE h fk72 (xZP a0) (oc9 h0 rfl h2 h3 h4 h5 rfl rfl rfl on)) fun h5 h =>
 cE h (fun h6 h=>cE h (fun h7 h=>cE h (fun h8 h=>cE h (fun h9 h=>dE h fk72 (xZQ a0) (oc11 h0 rfl h2 h3 h4 h5 h6 h7 h8 h9 h0 on)) fun h9 h =>
 dE h fk72 (xZR a0) (oc11 h0 rfl h2 h3 h4 h5 h6 h7 h8 h9 rfl on)) fun h8 h =>
 dE h fk72 (xZS a0) (oc11 h0 rfl h2 h3 h4 h5 h6 h7 h8 rfl rfl on)) fun h7 h =>
 dE h fk72 (xZT a0) (oc11 h0 rfl h2 h3 h4 h5 h6 h7 rfl rfl rfl on)) fun h6 h =>
 cE h (fun h7 h=>tE fk72 (xZU a0) (oc8 h0 rfl h2 h3 h4 h5 h6 h7 on) (xUT g0 _ _ _ _ _ _ h)) fun h7 h =>
 dE h fk72 (xZV a0) (oc8 h0 rfl h2 h3 h4 h5 h6 h7 on)
theorem xKq{N q0}(g0:G72 q0){a0}{r}(h:xEc N q0 a0=some r):AbC 72 (xAn a0) (xAk r) :=
 AbsCalls.of_reach fk72 rfl rfl rfl (Nat.le_of_ble_eq_true rfl) (vGQ g0 a0 r h)
theorem xH1{N:Nat}:∀d,G72 (xBS N d)
 |0=>fun _ _ h=>nE h
 |d+1=>fun _ _ h=>xKq (N:=N) (xH1 d) h
theorem xHs{N:Nat}{a0:Val}{r:Bool}(h:xII N a0=some r):AbC 72 (xAn a0) (xAk r):=xH1 N _ r h
noncomputable def I46:Info:= { body:=(Tryz.f46.body).getD .skip,nt:=5,results:= [.cell 2 31],keep:= [0,4,5],live:= [],modes:= [] }
theorem fk46:FnOk Tryz.prog 46 Tryz.f46 I46:=⟨Tryz.func46,by kernel_rfl,by kernel_rfl,by kernel_rfl,by kernel_rfl⟩
def vCm(a0:Int):rE I46 (xC6 a0) [] []=dn (xA8 (Val.mk 6 a0 0 [] [] [] [])) []:=by kernel_rfl
theorem vGu{N:Nat}:∀a0 r,xBK N a0=some r→RE Tryz.f46 I46 (xC6 a0) (xA8 r):=fun a0 r h =>
 dE h fk46 (vCm a0) on
theorem xCC{N:Nat}{a0:Int}{r:Val}(h:xBK N  a0=some r):AbC 46 (xC6 a0) (xA8 r) :=
 AbsCalls.of_reach fk46 rfl rfl rfl (Nat.le_of_ble_eq_true rfl) (vGu a0 r h)
theorem xI6{P:Program}{f:FuncId}{ags:List Arg}{r:Val × Bool × Bool}(h:AbsCalls P f ags (xCv r))(ht:r.2.2=true):AbsCalls P f ags (xDM r):=by
 unfold xCv at h;rw [ht] at h;exact h
theorem xI5{P:Program}{f:FuncId}{ags:List Arg}{r:Val × Bool × Bool}(h:AbsCalls P f ags (xCv r))(ht:r.2.2=false):AbsCalls P f ags (xDL r):=by
 unfold xCv at h;rw [ht] at h;exact h
noncomputable def I89:Info:= { body:=(Tryz.f89.body).getD .skip,nt:=22,results:= [.cell 2 31, .tmp 3],keep:= [0,4,6,10,12,14,16,18,28,36,5,11],live:= [(2, [4,12,14,16,5])],modes:= [(8, [(1, .take,false)])] }
theorem fk89:FnOk Tryz.prog 89 Tryz.f89 I89:=⟨Tryz.func89,by kernel_rfl,by kernel_rfl,by kernel_rfl,by kernel_rfl⟩
def xSp(x6:List Val)(x7 x8:Int)(b2:Val):St:= [(4, .v false [.ptr 2 0]),(12, .v false [.sl .ro .val x6]),(14, .v false [.int .i64 x7]),(16, .v false [.int .i64 x8]),(5, .v true [.int .i64 (Val.kind b2), .int .i64 (Val.n b2), .int .i64 (Val.step b2), .str (Val.text b2), .sl .own .val (Val.list b2), .sl .own .str (Val.columns b2), .sl .own .row (Val.rows b2)])]
def vDK(x6:List Val)(x7 x8:Int)(b2:Val)(r1:Bool)(r2:Val):rS 2 I89 (xSp x6 x7 x8 b2) [Y,Y] [xAk r1,xA8 r2]=dn (xCv (r2,true,false)) [xGw x8 x7,xCi x8 x6,xLc x6 x8 r1,iY (!r1),AbC 46 (xC6 4) (xA8 r2)]:=by kernel_rfl
def vDL(x6:List Val)(x7 x8:Int)(b2:Val)(r1:Bool):rS 2 I89 (xSp x6 x7 x8 b2) [Y,F,Y] [xAk r1]=dn (xCv ((xIN x6 x8),true,true)) [xGw x8 x7,xCi x8 x6,xLc x6 x8 r1,xAA r1,iY (xP8 x6 x8)]:=by kernel_rfl
def vDM(x6:List Val)(x7 x8:Int)(b2:Val)(r1:Bool):rS 2 I89 (xSp x6 x7 x8 b2) [Y,F,F] [xAk r1]=st 2 I89 (xSp x6 x7 (W (x8+1)) b2) [xGw x8 x7,xCi x8 x6,xLc x6 x8 r1,xAA r1,iN (xP8 x6 x8)]:=by kernel_rfl
def vDN(x6:List Val)(x7 x8:Int)(b2:Val):rS 2 I89 (xSp x6 x7 x8 b2) [F] []=dn (xCv ((Val.mk 0 0 0 [] [] [] []),false,false)) [xJg x8 x7]:=by kernel_rfl
def vDO(a0:List Val):rE I89 (xDp a0) [] []=st 2 I89 (xSp a0 (Ln a0:Int) 0 (Val.mk 0 0 0 [] [] [] [])) []:=by kernel_rfl
theorem vG2{N:Nat}:∀n x6 x7 x8 b2 r,xC3 N n x6 x7 x8 b2=some r→RS Tryz.f89 I89 2 (xSp x6 x7 x8 b2) (xCv r):=by
 intro n
 induction n with
 |zero=>exact fun _ _ _ _ _ h=>nE h
 |succ n ih =>
  exact fun x6 x7 x8 b2 r h =>
   cE h (fun h0 h=>iE h fun h1 h=>bE h fun r1 h2 h=>cE h (fun h3 h=>bE h fun r2 h4 h=>dS h fk89 (vDK x6 x7 x8 b2 r1 r2) (oc5 h0 h1 (xHs h2) h3 (xCC h4) on)) fun h3 h =>
   cE h (fun h4 h=>dS h fk89 (vDL x6 x7 x8 b2 r1) (oc5 h0 h1 (xHs h2) h3 h4 on)) fun h4 h =>
   tS fk89 (vDM x6 x7 x8 b2 r1) (oc5 h0 h1 (xHs h2) h3 h4 on) (ih _ _ _ _ _ h)) fun h0 h =>
   dS h fk89 (vDN x6 x7 x8 b2) (oc h0 on)
theorem vG3{N:Nat}:∀a0 r,xHh N a0=some r→RE Tryz.f89 I89 (xDp a0) (xCv r):=fun a0 r h =>
 tE fk89 (vDO a0) on (vG2 _ _ _ _ _ _ h)
theorem xF7{N:Nat}{a0:List Val}{r:Val × Bool × Bool}(h:xHh N  a0=some r):AbC 89 (xDp a0) (xCv r) :=
 AbsCalls.of_reach fk89 rfl rfl rfl (Nat.le_of_ble_eq_true rfl) (vG3 a0 r h)
theorem xMA{P:Program}{f:FuncId}{ags:List Arg}{r:Val × Bool × Bool}(h:AbsCalls P f ags (xCz r))(ht:r.2.2=true):AbsCalls P f ags (xIf r):=by
 unfold xCz at h;rw [ht] at h;exact h
theorem xEE{P:Program}{f:FuncId}{ags:List Arg}{r:Val × Bool × Bool}(h:AbsCalls P f ags (xCz r))(ht:r.2.2=false):AbsCalls P f ags (xC7 r):=by
 unfold xCz at h;rw [ht] at h;exact h
theorem xED{P:Program}{f:FuncId}{ags:List Arg}{r:Val × Bool × Bool}(h:AbsCalls P f ags (xCz r))(ht:r.2.2=true)(e0:List.isEmpty (Val.list r.1)=true)(e1:List.isEmpty (Val.columns r.1)=true)(e2:List.isEmpty (Val.rows r.1)=true):AbsCalls P f ags (xDq r):=by
 have h:=xMA h ht
 unfold xIf at h;rw [List.isEmpty_iff.1 e0,List.isEmpty_iff.1 e1,List.isEmpty_iff.1 e2] at h;exact h
noncomputable def I42:Info:= { body:=(Tryz.f42.body).getD .skip,nt:=34,results:= [.cell 4 31, .tmp 5],keep:= [0,2,8,10,12,14,16,18,30,34,36,38,40,60,9,13,19],live:= [(5, [0,8,34,36,38,9])],modes:= [(1, [(2, .take,false)]),(2, [(0, .take,false)]),(3, [(0, .take,false)]),(7, [(3, .take,false)]),(9, [(1, .take,false)])] }
theorem fk42:FnOk Tryz.prog 42 Tryz.f42 I42:=⟨Tryz.func42,by kernel_rfl,by kernel_rfl,by kernel_rfl,by kernel_rfl⟩
def xSl(x0:List Int)(x17:List Val)(x18 x19:Int)(b4:Val):St:= [(0, .v false [.sl .ro .int x0]),(8, .v false [.ptr 4 0]),(34, .v false [.sl .ro .val x17]),(36, .v false [.int .i64 x18]),(38, .v false [.int .i64 x19]),(9, .v true [.int .i64 (Val.kind b4), .int .i64 (Val.n b4), .int .i64 (Val.step b4), .str (Val.text b4), .sl .own .val (Val.list b4), .sl .own .str (Val.columns b4), .sl .own .row (Val.rows b4)])]
def vB6(x0:List Int)(x17:List Val)(x18 x19:Int)(b4 r1:Val):rS 5 I42 (xSl x0 x17 x18 x19 b4) [Y,Y] [xA8 r1]=dn (xCz (r1,true,false)) [xGw x19 x18,xCi x19 x17,xJU x19 x0,iY (xP9 x17 x19 x0),AbC 46 (xC6 4) (xA8 r1)]:=by kernel_rfl
def vB7(x0:List Int)(x17:List Val)(x18 x19:Int)(b4:Val):rS 5 I42 (xSl x0 x17 x18 x19 b4) [Y,F] []=st 5 I42 (xSl x0 x17 x18 (W (x19+1)) b4) [xGw x19 x18,xCi x19 x17,xJU x19 x0,iN (xP9 x17 x19 x0)]:=by kernel_rfl
def vB8(x0:List Int)(x17:List Val)(x18 x19:Int)(b4:Val):rS 5 I42 (xSl x0 x17 x18 x19 b4) [F] []=dn (xCz ((Val.mk 0 0 0 [] [] [] []),false,false)) [xJg x19 x18]:=by kernel_rfl
def vB9(a0:List Int)(a1:List Val)(r1:Val × Bool × Bool):rE I42 (xDK a0 a1) [Y] [xDM r1]=dn (xCz (r1.1,true,true)) [AbC 89 (xDp a1) (xDM r1),iY r1.2.1]:=by kernel_rfl
def vCa(a0:List Int)(a1:List Val)(r1:Val × Bool × Bool):rE I42 (xDK a0 a1) [F] [xDM r1]=st 5 I42 (xSl a0 a1 (Ln a1:Int) 0 (Val.mk 0 0 0 [] [] [] [])) [AbC 89 (xDp a1) (xDM r1),iN r1.2.1]:=by kernel_rfl
def vCb(a0:List Int)(a1:List Val)(r1:Val × Bool × Bool):rE I42 (xDK a0 a1) [Y] [xDL r1]=dn (xCz (r1.1,true,false)) [AbC 89 (xDp a1) (xDL r1),iY r1.2.1]:=by kernel_rfl
def vCc(a0:List Int)(a1:List Val)(r1:Val × Bool × Bool):rE I42 (xDK a0 a1) [F] [xDL r1]=st 5 I42 (xSl a0 a1 (Ln a1:Int) 0 (Val.mk 0 0 0 [] [] [] [])) [AbC 89 (xDp a1) (xDL r1),iN r1.2.1]:=by kernel_rfl
theorem vFl{N:Nat}:∀n x0 x17 x18 x19 b4 r,xDj N n x0 x17 x18 x19 b4=some r→RS Tryz.f42 I42 5 (xSl x0 x17 x18 x19 b4) (xCz r):=by
 intro n
 induction n with
 |zero=>exact fun _ _ _ _ _ _ h=>nE h
 |succ n ih =>
  exact fun x0 x17 x18 x19 b4 r h =>
   cE h (fun h0 h=>iE h fun h1 h=>iE h fun h2 h=>cE h (fun h3 h=>bE h fun r1 h4 h=>dS h fk42 (vB6 x0 x17 x18 x19 b4 r1) (oc5 h0 h1 h2 h3 (xCC h4) on)) fun h3 h =>
   tS fk42 (vB7 x0 x17 x18 x19 b4) (oc4 h0 h1 h2 h3 on) (ih _ _ _ _ _ _ h)) fun h0 h =>
   dS h fk42 (vB8 x0 x17 x18 x19 b4) (oc h0 on)
theorem vGo{N:Nat}:∀a0 a1 r,xHF N a0 a1=some r→RE Tryz.f42 I42 (xDK a0 a1) (xCz r):=fun a0 a1 r h =>
 bE h fun r1 h0 h=>cE h (fun h1 h=>cE h (fun h2 h=>dE h fk42 (vB9 a0 a1 r1) (oc2 (xI6 (xF7 h0) h1) h2 on)) fun h2 h =>
 tE fk42 (vCa a0 a1 r1) (oc2 (xI6 (xF7 h0) h1) h2 on) (vFl _ _ _ _ _ _ _ h)) fun h1 h =>
 cE h (fun h2 h=>dE h fk42 (vCb a0 a1 r1) (oc2 (xI5 (xF7 h0) h1) h2 on)) fun h2 h =>
 tE fk42 (vCc a0 a1 r1) (oc2 (xI5 (xF7 h0) h1) h2 on) (vFl _ _ _ _ _ _ _ h)
theorem xCy{N:Nat}{a0:List Int}{a1:List Val}{r:Val × Bool × Bool}(h:xHF N  a0 a1=some r):AbC 42 (xDK a0 a1) (xCz r) :=
 AbsCalls.of_reach fk42 rfl rfl rfl (Nat.le_of_ble_eq_true rfl) (vGo a0 a1 r h)
noncomputable def I43:Info:= { body:=(Tryz.f43.body).getD .skip,nt:=9,results:= [.tmp 4],keep:= [0,2,4,8,5],live:= [],modes:= [] }
theorem fk43:FnOk Tryz.prog 43 Tryz.f43 I43:=⟨Tryz.func43,by kernel_rfl,by kernel_rfl,by kernel_rfl,by kernel_rfl⟩
def vCd(a0:Val)(a1:Str)(r1:Int):rE I43 (xGq a0 a1) [] [xCX r1]=dn (xAK r1) [AbC 90 (xG5 (xCS a0) a1) (xCX r1)]:=by kernel_rfl
theorem vGp{N:Nat}:∀a0 a1 r,xD5 N a0 a1=some r→RE Tryz.f43 I43 (xGq a0 a1) (xAK r):=fun a0 a1 r h =>
 bE h fun r1 h0 h=>dE h fk43 (vCd a0 a1 r1) (oc (xG6 h0) on)
theorem xA0{N:Nat}{a0:Val}{a1:Str}{r:Int}(h:xD5 N  a0 a1=some r):AbC 43 (xGq a0 a1) (xAK r) :=
 AbsCalls.of_reach fk43 rfl rfl rfl (Nat.le_of_ble_eq_true rfl) (vGp a0 a1 r h)
noncomputable def I44:Info:= { body:=(Tryz.f44.body).getD .skip,nt:=25,results:= [.tmp 4],keep:= [0,2,8,10,14,18,20,22,24,36],live:= [(3, [2,10,18,20,22])],modes:= [(6, [(0, .take,false)]),(7, [(1, .take,false)]),(8, [(0, .take,false)])] }
theorem fk44:FnOk Tryz.prog 44 Tryz.f44 I44:=⟨Tryz.func44,by kernel_rfl,by kernel_rfl,by kernel_rfl,by kernel_rfl⟩
def xSm(x1 x5 x9:List Str)(x10 x11:Int):St:= [(2, .v false [.sl .ro .str x1]),(10, .v false [.sl .own .str x5]),(18, .v false [.sl .ro .str x9]),(20, .v false [.int .i64 x10]),(22, .v false [.int .i64 x11])]
def vCe(x1 x5 x9:List Str)(x10 x11 r1:Int):rS 3 I44 (xSm x1 x5 x9 x10 x11) [Y,Y] [xCX r1]=st 3 I44 (xSm x1 (x5++ [(xHZ x9 x11)]) x9 x10 (W (x11+1))) [xGw x11 x10,xGf x11 x9,xPR x1 x9 x11 r1,xFp r1,Ln x5+Ln [(xHZ x9 x11)]≤Lim]:=by kernel_rfl
def vCf(x1 x5 x9:List Str)(x10 x11 r1:Int):rS 3 I44 (xSm x1 x5 x9 x10 x11) [Y,F] [xCX r1]=st 3 I44 (xSm x1 x5 x9 x10 (W (x11+1))) [xGw x11 x10,xGf x11 x9,xPR x1 x9 x11 r1,xAD r1]:=by kernel_rfl
def vCg(x1 x5 x9:List Str)(x10 x11:Int):rS 3 I44 (xSm x1 x5 x9 x10 x11) [F] []=dn (xCo x5) [xJg x11 x10]:=by kernel_rfl
def vCh(a0 a1:List Str):rE I44 (xIc a0 a1) [] []=st 3 I44 (xSm a1 [] a0 (Ln a0:Int) 0) []:=by kernel_rfl
theorem vGq{N:Nat}:∀n x1 x5 x9 x10 x11 r,xEv N n x1 x5 x9 x10 x11=some r→RS Tryz.f44 I44 3 (xSm x1 x5 x9 x10 x11) (xCo r):=by
 intro n
 induction n with
 |zero=>exact fun _ _ _ _ _ _ h=>nE h
 |succ n ih =>
  exact fun x1 x5 x9 x10 x11 r h =>
   cE h (fun h0 h=>iE h fun h1 h=>bE h fun r1 h2 h=>cE h (fun h3 h=>iE h fun h4 h=>tS fk44 (vCe x1 x5 x9 x10 x11 r1) (oc5 h0 h1 (xG6 h2) h3 h4 on) (ih _ _ _ _ _ _ h)) fun h3 h =>
   tS fk44 (vCf x1 x5 x9 x10 x11 r1) (oc4 h0 h1 (xG6 h2) h3 on) (ih _ _ _ _ _ _ h)) fun h0 h =>
   dS h fk44 (vCg x1 x5 x9 x10 x11) (oc h0 on)
theorem vGr{N:Nat}:∀a0 a1 r,xH2 N a0 a1=some r→RE Tryz.f44 I44 (xIc a0 a1) (xCo r):=fun a0 a1 r h =>
 tE fk44 (vCh a0 a1) on (vGq _ _ _ _ _ _ _ h)
theorem xDv{N:Nat}{a0:List Str}{a1:List Str}{r:(List Str)}(h:xH2 N  a0 a1=some r):AbC 44 (xIc a0 a1) (xCo r) :=
 AbsCalls.of_reach fk44 rfl rfl rfl (Nat.le_of_ble_eq_true rfl) (vGr a0 a1 r h)
theorem xLS{N:Nat}{a0 a1 r:List Org}(h:xHg N a0 a1=some r):AbC 20 (xHt a0 a1) (xF6 r):=vAd h
end Go.Ab.T
end
section
open Go.Proofs
namespace Go.Ab.T
set_option maxRecDepth 100000
variable [Inhabited Lb]
theorem xOa{P:Program}{f:FuncId}{ags:List Arg}{r:Val × Bool}(h:AbsCalls P f ags (xC0 r))(ht:r.2=true):AbsCalls P f ags (xJG r):=by
 unfold xC0 at h;rw [ht] at h;exact h
theorem xBf{P:Program}{f:FuncId}{ags:List Arg}{r:Val × Bool}(h:AbsCalls P f ags (xC0 r))(ht:r.2=false):AbsCalls P f ags (xA1 r):=by
 unfold xC0 at h;rw [ht] at h;exact h
theorem xBe{P:Program}{f:FuncId}{ags:List Arg}{r:Val × Bool}(h:AbsCalls P f ags (xC0 r))(ht:r.2=true)(e0:List.isEmpty (Val.list r.1)=true)(e1:List.isEmpty (Val.columns r.1)=true)(e2:List.isEmpty (Val.rows r.1)=true):AbsCalls P f ags (xA4 r):=by
 have h:=xOa h ht
 unfold xJG at h;rw [List.isEmpty_iff.1 e0,List.isEmpty_iff.1 e1,List.isEmpty_iff.1 e2] at h;exact h
noncomputable def I11:Info:= { body:=(Tryz.f11.body).getD .skip,nt:=128,results:= [.cell 6 31],keep:= [0,2,4,6,8,10,12,14,16,18,20,22,24,28,32,34,54,122,132,138,140,142,144,152,154,156,158,184,250,7,9,11,13,15,25,29,33],live:= [(13, [10,12,18,20,24,138,140,142,11,13,25]),(16, [10,12,18,20,24,28,138,140,142,152,154,156,11,13,25,29])],modes:= [(1, [(5, .take,true),(6, .take,false)]),(2, [(0, .take,false)]),(3, [(0, .take,false)]),(7, [(4, .take,false)]),(8, [(2, .take,false),(6, .take,false)]),(20, [(1, .take,false),(2, .take,false),(10, .take,false)]),(21, [(1, .take,false)]),(22, [(1, .take,false)]),(25, [(0, .take,false)])] }
theorem fk11:FnOk Tryz.prog 11 Tryz.f11 I11:=⟨Tryz.func11,by kernel_rfl,by kernel_rfl,by kernel_rfl,by kernel_rfl⟩
def xNu(x9 x10:Int)(x69:List Rowd)(x70 x71:Int)(b5 b6 b12:Val):St:= [(10, .v false [.ptr 5 0]),(12, .v false [.ptr 6 0]),(18, .v false [.int .i64 x9]),(20, .v false [.int .i64 x10]),(24, .v false [.ptr 12 0]),(138, .v false [.sl .ro .row x69]),(140, .v false [.int .i64 x70]),(142, .v false [.int .i64 x71]),(11, .v true [.int .i64 (Val.kind b5), .int .i64 (Val.n b5), .int .i64 (Val.step b5), .str (Val.text b5), .sl .ro .val (Val.list b5), .sl .ro .str (Val.columns b5), .sl .ro .row (Val.rows b5)]),(13, .v true [.int .i64 (Val.kind b6), .int .i64 (Val.n b6), .int .i64 (Val.step b6), .str (Val.text b6), .sl .own .val (Val.list b6), .sl .own .str (Val.columns b6), .sl .own .row (Val.rows b6)]),(25, .v true [.int .i64 (Val.kind b12), .int .i64 (Val.n b12), .int .i64 (Val.step b12), .str (Val.text b12), .sl .own .val (Val.list b12), .sl .own .str (Val.columns b12), .sl .own .row (Val.rows b12)])]
def xNS(x9 x10:Int)(x69:List Rowd)(x70 x71:Int)(x76:List Rowd)(x77 x78:Int)(b5 b6 b12:Val)(b14:Rowd):St:= [(10, .v false [.ptr 5 0]),(12, .v false [.ptr 6 0]),(18, .v false [.int .i64 x9]),(20, .v false [.int .i64 x10]),(24, .v false [.ptr 12 0]),(28, .v false [.ptr 14 0]),(138, .v false [.sl .ro .row x69]),(140, .v false [.int .i64 x70]),(142, .v false [.int .i64 x71]),(152, .v false [.sl .ro .row x76]),(154, .v false [.int .i64 x77]),(156, .v false [.int .i64 x78]),(11, .v true [.int .i64 (Val.kind b5), .int .i64 (Val.n b5), .int .i64 (Val.step b5), .str (Val.text b5), .sl .ro .val (Val.list b5), .sl .ro .str (Val.columns b5), .sl .ro .row (Val.rows b5)]),(13, .v true [.int .i64 (Val.kind b6), .int .i64 (Val.n b6), .int .i64 (Val.step b6), .str (Val.text b6), .sl .own .val (Val.list b6), .sl .own .str (Val.columns b6), .sl .own .row (Val.rows b6)]),(25, .v true [.int .i64 (Val.kind b12), .int .i64 (Val.n b12), .int .i64 (Val.step b12), .str (Val.text b12), .sl .own .val (Val.list b12), .sl .own .str (Val.columns b12), .sl .own .row (Val.rows b12)]),(29, .v true [.sl .ro .int (Rowd.cells b14), .sl .ro .org (Rowd.frm b14)])]
abbrev xQc(v0:List Rowd)(v1:Int):=Ln (Rowd.cells (gD v0 (tN v1) rd))
def xXi(x9 x10:Int)(x69:List Rowd)(x70 x71:Int)(x76:List Rowd)(x77 x78:Int)(b5 b6 b12:Val)(b14:Rowd):rS 16 I11 (xNS x9 x10 x69 x70 x71 x76 x77 x78 b5 b6 b12 b14) [Y,Y] []=st 16 I11 (xNS x9 x10 x69 x70 x71 x76 x77 (W (x78+1)) b5 b6 b12 b14) [xGw x78 x77,xIq x78 x76,xTF x9 b14,(0:Int)≤x10∧x10<(xQc x76 x78),iY ((xP4 b14 x9) != (gD (xJT x76 x78) (tN x10) Ty.int.dflt))]:=by kernel_rfl
abbrev xTi(v0:Int)(v1:List Rowd)(v2:Int):=List.drop (tN (W (v0+1))) (Rowd.cells (gD v1 (tN v2) rd))
abbrev xQd(v0:Int)(v1:List Rowd)(v2:Int):=List.take (tN v0) (Rowd.cells (gD v1 (tN v2) rd))
abbrev xTj(v0:List Rowd)(v1:Int):=Rowd.frm (gD v0 (tN v1) rd)
def xXj(x9 x10:Int)(x69:List Rowd)(x70 x71:Int)(x76:List Rowd)(x77 x78:Int)(b5 b6 b12:Val)(b14:Rowd)(r1:(List Org)):rS 16 I11 (xNS x9 x10 x69 x70 x71 x76 x77 x78 b5 b6 b12 b14) [Y,F] [xF6 r1]=st 16 I11 (xNS x9 x10 x69 x70 x71 x76 x77 (W (x78+1)) b5 b6 (Val.mk (Val.kind b12) (Val.n b12) (Val.step b12) (Val.text b12) (Val.list b12) (xCS b12) ((Val.rows b12)++ [(Rowd.mk ((([]++(xEw b14))++(xQd x10 x76 x78))++(xTi x10 x76 x78)) r1)])) b14) [xGw x78 x77,xIq x78 x76,xTF x9 b14,(0:Int)≤x10∧x10<(xQc x76 x78),iN ((xP4 b14 x9) != (gD (xJT x76 x78) (tN x10) Ty.int.dflt)),0+Ln (xEw b14)≤Lim,(0:Int)≤x10∧x10≤(xQc x76 x78),Ln ([]++(xEw b14))+Ln (xQd x10 x76 x78)≤Lim,(0:Int)≤(W (x10+1))∧(W (x10+1))≤(xQc x76 x78),Ln (([]++(xEw b14))++(xQd x10 x76 x78))+Ln (xTi x10 x76 x78)≤Lim,AbC 20 (xHt (Rowd.frm b14) (xTj x76 x78)) (xF6 r1),Ln (Val.rows b12)+Ln [(Rowd.mk ((([]++(xEw b14))++(xQd x10 x76 x78))++(xTi x10 x76 x78)) r1)]≤Lim]:=by kernel_rfl
def xXk(x9 x10:Int)(x69:List Rowd)(x70 x71:Int)(x76:List Rowd)(x77 x78:Int)(b5 b6 b12:Val)(b14:Rowd):rS 16 I11 (xNS x9 x10 x69 x70 x71 x76 x77 x78 b5 b6 b12 b14) [F] []=st 13 I11 (xNu x9 x10 x69 x70 (W (x71+1)) b5 b6 b12) [xJg x78 x77]:=by kernel_rfl
def xXf(x9 x10:Int)(x69:List Rowd)(x70 x71:Int)(b5 b6 b12:Val):rS 13 I11 (xNu x9 x10 x69 x70 x71 b5 b6 b12) [Y] []=st 16 I11 (xNS x9 x10 x69 x70 x71 (Val.rows b5) (xKB b5) 0 b5 b6 b12 (xLd x69 x71)) [xGw x71 x70,xIq x71 x69]:=by kernel_rfl
abbrev xKC(v0:Val):=xC0 (v0,false)
def xXg(x9 x10:Int)(x69:List Rowd)(x70 x71:Int)(b5 b6 b12 r1:Val):rS 13 I11 (xNu x9 x10 x69 x70 x71 b5 b6 b12) [F,Y] [xA8 r1]=dn (xKC r1) [xJg x71 x70,xTH b12,AbC 46 (xC6 6) (xA8 r1)]:=by kernel_rfl
def xXh(x9 x10:Int)(x69:List Rowd)(x70 x71:Int)(b5 b6 b12:Val):rS 13 I11 (xNu x9 x10 x69 x70 x71 b5 b6 b12) [F,F] []=dn (xKC b12) [xJg x71 x70,xTI b12]:=by kernel_rfl
abbrev xM8(v0 v1 v2:Val)(v3:Val × Bool × Bool):Prop:=AbC 42 (xDK [2,5,5] [(Val.re v0),(Val.re v1),(Val.re v2)]) (xDq v3)
def vAQ(a0 a1 a2:Val)(r1:Val × Bool × Bool):rE I11 (xCu a0 a1 a2) [Y] [xDq r1]=dn (xC0 ((Val.mk (Val.kind r1.1) (Val.n r1.1) (Val.step r1.1) (Val.text r1.1) [] [] []),true)) [xM8 a0 a1 a2 r1,iY r1.2.1]:=by kernel_rfl
abbrev xGe(v0 v1:Val)(v2:Int):Prop:=AbC 43 (xGq v0 (Val.text v1)) (xAK v2)
abbrev xKu(v0 v1:Val)(v2:(List Str)):Prop:=AbC 44 (xIc (xCS v0) [(Val.text v1)]) (xCo v2)
abbrev xKv(v0:Val)(v1:(List Str)):Prop:=Ln ([]++(xCS v0))+Ln v1≤Lim
abbrev xM9(v0:Val):Prop:=AbC 46 (xC6 7) (xA8 v0)
def vAR(a0 a1 a2:Val)(r1:Val × Bool × Bool)(r2 r3:Int)(r4:(List Str))(r5:Val):rE I11 (xCu a0 a1 a2) [F,Y,Y,Y] [xDq r1,xAK r2,xAK r3,xCo r4,xA8 r5]=dn (xKC r5) [xM8 a0 a1 a2 r1,iN r1.2.1,xGe a1 a0 r2,xGe a2 a0 r3,xKu a2 a0 r4,xKS a1,xKv a1 r4,xFp r2,iY true,iY true,xM9 r5]:=by kernel_rfl
def vAS(a0 a1 a2:Val)(r1:Val × Bool × Bool)(r2 r3:Int)(r4:(List Str))(r5:Val):rE I11 (xCu a0 a1 a2) [F,F,Y,Y] [xDq r1,xAK r2,xAK r3,xCo r4,xA8 r5]=dn (xKC r5) [xM8 a0 a1 a2 r1,iN r1.2.1,xGe a1 a0 r2,xGe a2 a0 r3,xKu a2 a0 r4,xKS a1,xKv a1 r4,xAD r2,xFp r3,iY true,xM9 r5]:=by kernel_rfl
abbrev xNa(v0:Val)(v1:(List Str))(v2:Bool):Prop:=AbC 45 (xFc (([]++(xCS v0))++v1)) (xBJ v2)
def vAT(a0 a1 a2:Val)(r1:Val × Bool × Bool)(r2 r3:Int)(r4:(List Str))(r5:Bool)(r6:Val):rE I11 (xCu a0 a1 a2) [F,F,F,Y] [xDq r1,xAK r2,xAK r3,xCo r4,xBJ r5,xA8 r6]=dn (xKC r6) [xM8 a0 a1 a2 r1,iN r1.2.1,xGe a1 a0 r2,xGe a2 a0 r3,xKu a2 a0 r4,xKS a1,xKv a1 r4,xAD r2,xAD r3,xNa a1 r4 r5,iY (!r5),xM9 r6]:=by kernel_rfl
def xXl(a0 a1 a2:Val)(r1:Val × Bool × Bool)(r2 r3:Int)(r4:(List Str))(r5:Bool)(r6:Val):rE I11 (xCu a0 a1 a2) [F,F,F,F,Y] [xDq r1,xAK r2,xAK r3,xCo r4,xBJ r5,xA8 r6]=dn (xKC r6) [xM8 a0 a1 a2 r1,iN r1.2.1,xGe a1 a0 r2,xGe a2 a0 r3,xKu a2 a0 r4,xKS a1,xKv a1 r4,xAD r2,xAD r3,xNa a1 r4 r5,xAA r5,iY (dc (((Ln (([]++(xCS a1))++r4):Int):Int)>4)),AbC 46 (xC6 6) (xA8 r6)]:=by kernel_rfl
def xXm(a0 a1 a2:Val)(r1:Val × Bool × Bool)(r2 r3:Int)(r4:(List Str))(r5:Bool):rE I11 (xCu a0 a1 a2) [F,F,F,F,F] [xDq r1,xAK r2,xAK r3,xCo r4,xBJ r5]=st 13 I11 (xNu r2 r3 (Val.rows a1) (xKB a1) 0 a2 (Val.mk 0 0 0 [] [] [] []) (Val.mk 5 0 0 [] [] (([]++(xCS a1))++r4) [])) [xM8 a0 a1 a2 r1,iN r1.2.1,xGe a1 a0 r2,xGe a2 a0 r3,xKu a2 a0 r4,xKS a1,xKv a1 r4,xAD r2,xAD r3,xNa a1 r4 r5,xAA r5,iN (dc (((Ln (([]++(xCS a1))++r4):Int):Int)>4))]:=by kernel_rfl
abbrev xNb(v0 v1 v2:Val)(v3:Val × Bool × Bool):Prop:=AbC 42 (xDK [2,5,5] [(Val.re v0),(Val.re v1),(Val.re v2)]) (xC7 v3)
def xXn(a0 a1 a2:Val)(r1:Val × Bool × Bool):rE I11 (xCu a0 a1 a2) [Y] [xC7 r1]=dn (xC0 (r1.1,false)) [xNb a0 a1 a2 r1,iY r1.2.1]:=by kernel_rfl
def xXo(a0 a1 a2:Val)(r1:Val × Bool × Bool)(r2 r3:Int)(r4:(List Str))(r5:Val):rE I11 (xCu a0 a1 a2) [F,Y,Y,Y] [xC7 r1,xAK r2,xAK r3,xCo r4,xA8 r5]=dn (xKC r5) [xNb a0 a1 a2 r1,iN r1.2.1,xGe a1 a0 r2,xGe a2 a0 r3,xKu a2 a0 r4,xKS a1,xKv a1 r4,xFp r2,iY true,iY true,xM9 r5]:=by kernel_rfl
def xXp(a0 a1 a2:Val)(r1:Val × Bool × Bool)(r2 r3:Int)(r4:(List Str))(r5:Val):rE I11 (xCu a0 a1 a2) [F,F,Y,Y] [xC7 r1,xAK r2,xAK r3,xCo r4,xA8 r5]=dn (xKC r5) [xNb a0 a1 a2 r1,iN r1.2.1,xGe a1 a0 r2,xGe a2 a0 r3,xKu a2 a0 r4,xKS a1,xKv a1 r4,xAD r2,xFp r3,iY true,xM9 r5]:=by kernel_rfl
def xXq(a0 a1 a2:Val)(r1:Val × Bool × Bool)(r2 r3:Int)(r4:(List Str))(r5:Bool)(r6:Val):rE I11 (xCu a0 a1 a2) [F,F,F,Y] [xC7 r1,xAK r2,xAK r3,xCo r4,xBJ r5,xA8 r6]=dn (xKC r6) [xNb a0 a1 a2 r1,iN r1.2.1,xGe a1 a0 r2,xGe a2 a0 r3,xKu a2 a0 r4,xKS a1,xKv a1 r4,xAD r2,xAD r3,xNa a1 r4 r5,iY (!r5),xM9 r6]:=by kernel_rfl
def xXr(a0 a1 a2:Val)(r1:Val × Bool × Bool)(r2 r3:Int)(r4:(List Str))(r5:Bool)(r6:Val):rE I11 (xCu a0 a1 a2) [F,F,F,F,Y] [xC7 r1,xAK r2,xAK r3,xCo r4,xBJ r5,xA8 r6]=dn (xKC r6) [xNb a0 a1 a2 r1,iN r1.2.1,xGe a1 a0 r2,xGe a2 a0 r3,xKu a2 a0 r4,xKS a1,xKv a1 r4,xAD r2,xAD r3,xNa a1 r4 r5,xAA r5,iY (dc (((Ln (([]++(xCS a1))++r4):Int):Int)>4)),AbC 46 (xC6 6) (xA8 r6)]:=by kernel_rfl
def xXs(a0 a1 a2:Val)(r1:Val × Bool × Bool)(r2 r3:Int)(r4:(List Str))(r5:Bool):rE I11 (xCu a0 a1 a2) [F,F,F,F,F] [xC7 r1,xAK r2,xAK r3,xCo r4,xBJ r5]=st 13 I11 (xNu r2 r3 (Val.rows a1) (xKB a1) 0 a2 (Val.mk 0 0 0 [] [] [] []) (Val.mk 5 0 0 [] [] (([]++(xCS a1))++r4) [])) [xNb a0 a1 a2 r1,iN r1.2.1,xGe a1 a0 r2,xGe a2 a0 r3,xKu a2 a0 r4,xKS a1,xKv a1 r4,xAD r2,xAD r3,xNa a1 r4 r5,xAA r5,iN (dc (((Ln (([]++(xCS a1))++r4):Int):Int)>4))]:=by kernel_rfl
theorem vEK{N:Nat}{k13:Int→Int→(List Rowd)→Int→Int→Val→Val→Val→Option (Val × Bool)}(hk13:∀z0 z1 z2 z3 z4 z5 z6 z7 r,k13 z0 z1 z2 z3 z4 z5 z6 z7=some r→RS Tryz.f11 I11 13 (xNu z0 z1 z2 z3 z4 z5 z6 z7) (xC0 r)):∀n x9 x10 x69 x70 x71 x76 x77 x78 b5 b6 b12 b14 r,xFg N k13 n x9 x10 x69 x70 x71 x76 x77 x78 b5 b6 b12 b14=some r→RS Tryz.f11 I11 16 (xNS x9 x10 x69 x70 x71 x76 x77 x78 b5 b6 b12 b14) (xC0 r):=by
 intro n
 induction n with
 |zero=>exact fun _ _ _ _ _ _ _ _ _ _ _ _ _ h=>nE h
 |succ n ih =>
  exact fun x9 x10 x69 x70 x71 x76 x77 x78 b5 b6 b12 b14 r h =>
   cE h (fun h0 h=>iE h fun h1 h=>iE h fun h2 h=>iE h fun h3 h=>cE h (fun h4 h=>tS fk11 (xXi x9 x10 x69 x70 x71 x76 x77 x78 b5 b6 b12 b14) (oc5 h0 h1 h2 h3 h4 on) (ih _ _ _ _ _ _ _ _ _ _ _ _ _ h)) fun h4 h =>
   iE h fun h5 h=>iE h fun h6 h=>iE h fun h7 h=>iE h fun h8 h=>iE h fun h9 h=>bE h fun r1 h10 h=>iE h fun h11 h=>tS fk11 (xXj x9 x10 x69 x70 x71 x76 x77 x78 b5 b6 b12 b14 r1) (oc12 h0 h1 h2 h3 h4 h5 h6 h7 h8 h9 (xLS h10) h11 on) (ih _ _ _ _ _ _ _ _ _ _ _ _ _ h)) fun h0 h =>
   tS fk11 (xXk x9 x10 x69 x70 x71 x76 x77 x78 b5 b6 b12 b14) (oc h0 on) (hk13 _ _ _ _ _ _ _ _ _ h)
theorem vAf{N:Nat}:∀n x9 x10 x69 x70 x71 b5 b6 b12 r,xDW N n x9 x10 x69 x70 x71 b5 b6 b12=some r→RS Tryz.f11 I11 13 (xNu x9 x10 x69 x70 x71 b5 b6 b12) (xC0 r):=by
 intro n
 induction n with
 |zero=>exact fun _ _ _ _ _ _ _ _ _ h=>nE h
 |succ n ih =>
  exact fun x9 x10 x69 x70 x71 b5 b6 b12 r h =>
   cE h (fun h0 h=>iE h fun h1 h=>tS fk11 (xXf x9 x10 x69 x70 x71 b5 b6 b12) (oc2 h0 h1 on) (vEK ih _ _ _ _ _ _ _ _ _ _ _ _ _ _ h)) fun h0 h =>
   cE h (fun h1 h=>bE h fun r1 h2 h=>dS h fk11 (xXg x9 x10 x69 x70 x71 b5 b6 b12 r1) (oc3 h0 h1 (xCC h2) on)) fun h1 h =>
   dS h fk11 (xXh x9 x10 x69 x70 x71 b5 b6 b12) (oc2 h0 h1 on)
theorem vF1{N:Nat}:∀a0 a1 a2 r,xF1 N a0 a1 a2=some r→RE Tryz.f11 I11 (xCu a0 a1 a2) (xC0 r):=fun a0 a1 a2 r h =>
 bE h fun r1 h0 h=>cE h (fun h1 h=>iE h fun h2 h=>iE h fun h3 h=>iE h fun h4 h=>cE h (fun h5 h=>dE h fk11 (vAQ a0 a1 a2 r1) (oc2 (xED (xCy h0) h1 h2 h3 h4) h5 on)) fun h5 h =>
 bE h fun r2 h6 h=>bE h fun r3 h7 h=>bE h fun r4 h8 h=>iE h fun h9 h=>iE h fun h10 h=>cE h (fun h11 h=>bE h fun r5 h14 h=>dE h fk11 (vAR a0 a1 a2 r1 r2 r3 r4 r5) (oc11 (xED (xCy h0) h1 h2 h3 h4) h5 (xA0 h6) (xA0 h7) (xDv h8) h9 h10 h11 rfl rfl (xCC h14) on)) fun h11 h =>
 cE h (fun h12 h=>bE h fun r5 h14 h=>dE h fk11 (vAS a0 a1 a2 r1 r2 r3 r4 r5) (oc11 (xED (xCy h0) h1 h2 h3 h4) h5 (xA0 h6) (xA0 h7) (xDv h8) h9 h10 h11 h12 rfl (xCC h14) on)) fun h12 h =>
 bE h fun r5 h13 h=>cE h (fun h14 h=>bE h fun r6 h15 h=>dE h fk11 (vAT a0 a1 a2 r1 r2 r3 r4 r5 r6) (oc12 (xED (xCy h0) h1 h2 h3 h4) h5 (xA0 h6) (xA0 h7) (xDv h8) h9 h10 h11 h12 (xDF h13) h14 (xCC h15) on)) fun h14 h =>
 cE h (fun h15 h=>bE h fun r6 h16 h=>dE h fk11 (xXl a0 a1 a2 r1 r2 r3 r4 r5 r6) (oc12 (xED (xCy h0) h1 h2 h3 h4) h5 (xA0 h6) (xA0 h7) (xDv h8) h9 h10 h11 h12 (xDF h13) h14 h15 (oc (xCC h16) on))) fun h15 h =>
 tE fk11 (xXm a0 a1 a2 r1 r2 r3 r4 r5) (oc12 (xED (xCy h0) h1 h2 h3 h4) h5 (xA0 h6) (xA0 h7) (xDv h8) h9 h10 h11 h12 (xDF h13) h14 h15 on) (vAf _ _ _ _ _ _ _ _ _ _ h)) fun h1 h =>
 cE h (fun h2 h=>dE h fk11 (xXn a0 a1 a2 r1) (oc2 (xEE (xCy h0) h1) h2 on)) fun h2 h =>
 bE h fun r2 h3 h=>bE h fun r3 h4 h=>bE h fun r4 h5 h=>iE h fun h6 h=>iE h fun h7 h=>cE h (fun h8 h=>bE h fun r5 h11 h=>dE h fk11 (xXo a0 a1 a2 r1 r2 r3 r4 r5) (oc11 (xEE (xCy h0) h1) h2 (xA0 h3) (xA0 h4) (xDv h5) h6 h7 h8 rfl rfl (xCC h11) on)) fun h8 h =>
 cE h (fun h9 h=>bE h fun r5 h11 h=>dE h fk11 (xXp a0 a1 a2 r1 r2 r3 r4 r5) (oc11 (xEE (xCy h0) h1) h2 (xA0 h3) (xA0 h4) (xDv h5) h6 h7 h8 h9 rfl (xCC h11) on)) fun h9 h =>
 bE h fun r5 h10 h=>cE h (fun h11 h=>bE h fun r6 h12 h=>dE h fk11 (xXq a0 a1 a2 r1 r2 r3 r4 r5 r6) (oc12 (xEE (xCy h0) h1) h2 (xA0 h3) (xA0 h4) (xDv h5) h6 h7 h8 h9 (xDF h10) h11 (xCC h12) on)) fun h11 h =>
 cE h (fun h12 h=>bE h fun r6 h13 h=>dE h fk11 (xXr a0 a1 a2 r1 r2 r3 r4 r5 r6) (oc12 (xEE (xCy h0) h1) h2 (xA0 h3) (xA0 h4) (xDv h5) h6 h7 h8 h9 (xDF h10) h11 h12 (oc (xCC h13) on))) fun h12 h =>
 tE fk11 (xXs a0 a1 a2 r1 r2 r3 r4 r5) (oc12 (xEE (xCy h0) h1) h2 (xA0 h3) (xA0 h4) (xDv h5) h6 h7 h8 h9 (xDF h10) h11 h12 on) (vAf _ _ _ _ _ _ _ _ _ _ h)
theorem xAB{N:Nat}{a0:Val}{a1:Val}{a2:Val}{r:Val × Bool}(h:xF1 N  a0 a1 a2=some r):AbC 11 (xCu a0 a1 a2) (xC0 r) :=
 AbsCalls.of_reach fk11 rfl rfl rfl (Nat.le_of_ble_eq_true rfl) (vF1 a0 a1 a2 r h)
noncomputable def I48:Info:= { body:=(Tryz.f48.body).getD .skip,nt:=26,results:= [.tmp 4],keep:= [0,2,8,10,20,28,50],live:= [(4, [0,2,10])],modes:= [] }
theorem fk48:FnOk Tryz.prog 48 Tryz.f48 I48:=⟨Tryz.func48,by kernel_rfl,by kernel_rfl,by kernel_rfl,by kernel_rfl⟩
def xT1(x0 x1:List Str)(x5:Int):St:= [(0, .v false [.sl .ro .str x0]),(2, .v false [.sl .ro .str x1]),(10, .v false [.int .i64 x5])]
abbrev xVd(v0:List Str)(v1:Int):=((gD v0 (tN v1) Ty.str.dflt):Str)
def vCs(x0 x1:List Str)(x5:Int):rS 4 I48 (xT1 x0 x1 x5) [Y,Y] []=dn (xC2 false) [xJk x5 x0,xGf x5 x0,xGf x5 x1,iY (!((xVd x0 x5)==(xHZ x1 x5)))]:=by kernel_rfl
def vCt(x0 x1:List Str)(x5:Int):rS 4 I48 (xT1 x0 x1 x5) [Y,F] []=st 4 I48 (xT1 x0 x1 (W (x5+1))) [xJk x5 x0,xGf x5 x0,xGf x5 x1,iN (!((xVd x0 x5)==(xHZ x1 x5)))]:=by kernel_rfl
def vCu(x0 x1:List Str)(x5:Int):rS 4 I48 (xT1 x0 x1 x5) [F] []=dn (xC2 true) [xL4 x5 x0]:=by kernel_rfl
def vCv(a0 a1:List Str):rE I48 (xGb a0 a1) [Y] []=dn (xC2 false) [iY ((Ln a0:Int) != (Ln a1:Int))]:=by kernel_rfl
def vCw(a0 a1:List Str):rE I48 (xGb a0 a1) [F] []=st 4 I48 (xT1 a0 a1 0) [iN ((Ln a0:Int) != (Ln a1:Int))]:=by kernel_rfl
theorem vGx{N:Nat}:∀n x0 x1 x5 r,xE3 N n x0 x1 x5=some r→RS Tryz.f48 I48 4 (xT1 x0 x1 x5) (xC2 r):=by
 intro n
 induction n with
 |zero=>exact fun _ _ _ _ h=>nE h
 |succ n ih =>
  exact fun x0 x1 x5 r h =>
   cE h (fun h0 h=>iE h fun h1 h=>iE h fun h2 h=>cE h (fun h3 h=>dS h fk48 (vCs x0 x1 x5) (oc4 h0 h1 h2 h3 on)) fun h3 h =>
   tS fk48 (vCt x0 x1 x5) (oc4 h0 h1 h2 h3 on) (ih _ _ _ _ h)) fun h0 h =>
   dS h fk48 (vCu x0 x1 x5) (oc h0 on)
theorem vGy{N:Nat}:∀a0 a1 r,xHJ N a0 a1=some r→RE Tryz.f48 I48 (xGb a0 a1) (xC2 r):=fun a0 a1 r h =>
 cE h (fun h0 h=>dE h fk48 (vCv a0 a1) (oc h0 on)) fun h0 h =>
 tE fk48 (vCw a0 a1) (oc h0 on) (vGx _ _ _ _ _ h)
theorem xIJ{N:Nat}{a0:List Str}{a1:List Str}{r:Bool}(h:xHJ N  a0 a1=some r):AbC 48 (xGb a0 a1) (xC2 r) :=
 AbsCalls.of_reach fk48 rfl rfl rfl (Nat.le_of_ble_eq_true rfl) (vGy a0 a1 r h)
noncomputable def I129:Info:= { body:=(Tryz.f129.body).getD .skip,nt:=26,results:= [.tmp 4],keep:= [0,2,8,10,20,28,50],live:= [(4, [0,2,10])],modes:= [] }
theorem xUx:FnOk Tryz.prog 129 Tryz.f129 I129:=⟨Tryz.func129,by kernel_rfl,by kernel_rfl,by kernel_rfl,by kernel_rfl⟩
def xPk(x0 x1:List Int)(x5:Int):St:= [(0, .v false [.sl .ro .int x0]),(2, .v false [.sl .ro .int x1]),(10, .v false [.int .i64 x5])]
def xXI(x0 x1:List Int)(x5:Int):rS 4 I129 (xPk x0 x1 x5) [Y,Y] []=dn (xDQ false) [xPt x5 x0,xJU x5 x0,xJU x5 x1,iY ((xLe x0 x5) != (xLe x1 x5))]:=by kernel_rfl
def xXJ(x0 x1:List Int)(x5:Int):rS 4 I129 (xPk x0 x1 x5) [Y,F] []=st 4 I129 (xPk x0 x1 (W (x5+1))) [xPt x5 x0,xJU x5 x0,xJU x5 x1,iN ((xLe x0 x5) != (xLe x1 x5))]:=by kernel_rfl
def xXK(x0 x1:List Int)(x5:Int):rS 4 I129 (xPk x0 x1 x5) [F] []=dn (xDQ true) [iN (dc (x5<(Ln x0:Int)))]:=by kernel_rfl
def xXL(a0 a1:List Int):rE I129 (xHH a0 a1) [Y] []=dn (xDQ false) [iY ((Ln a0:Int) != (Ln a1:Int))]:=by kernel_rfl
def xXM(a0 a1:List Int):rE I129 (xHH a0 a1) [F] []=st 4 I129 (xPk a0 a1 0) [iN ((Ln a0:Int) != (Ln a1:Int))]:=by kernel_rfl
theorem vET{N:Nat}:∀n x0 x1 x5 r,xGO N n x0 x1 x5=some r→RS Tryz.f129 I129 4 (xPk x0 x1 x5) (xDQ r):=by
 intro n
 induction n with
 |zero=>exact fun _ _ _ _ h=>nE h
 |succ n ih =>
  exact fun x0 x1 x5 r h =>
   cE h (fun h0 h=>iE h fun h1 h=>iE h fun h2 h=>cE h (fun h3 h=>dS h xUx (xXI x0 x1 x5) (oc4 h0 h1 h2 h3 on)) fun h3 h =>
   tS xUx (xXJ x0 x1 x5) (oc4 h0 h1 h2 h3 on) (ih _ _ _ _ h)) fun h0 h =>
   dS h xUx (xXK x0 x1 x5) (oc h0 on)
theorem vEU{N:Nat}:∀a0 a1 r,xJH N a0 a1=some r→RE Tryz.f129 I129 (xHH a0 a1) (xDQ r):=fun a0 a1 r h =>
 cE h (fun h0 h=>dE h xUx (xXL a0 a1) (oc h0 on)) fun h0 h =>
 tE xUx (xXM a0 a1) (oc h0 on) (vET _ _ _ _ _ h)
theorem xKr{N:Nat}{a0:List Int}{a1:List Int}{r:Bool}(h:xJH N  a0 a1=some r):AbC 129 (xHH a0 a1) (xDQ r) :=
 AbsCalls.of_reach xUx rfl rfl rfl (Nat.le_of_ble_eq_true rfl) (vEU a0 a1 r h)
noncomputable def I164:Info:= { body:=(Tryz.f164.body).getD .skip,nt:=15,results:= [.tmp 4],keep:= [0,2,4,6,8,18,28,5,7],live:= [],modes:= [] }
theorem xWy:FnOk Tryz.prog 164 Tryz.f164 I164:=⟨Tryz.func164,by kernel_rfl,by kernel_rfl,by kernel_rfl,by kernel_rfl⟩
def xYg(a0 a1:Org):rE I164 (xEK a0 a1) [Y] []=dn (xDB false) [iY ((Org.cell a0) != (Org.cell a1))]:=by kernel_rfl
def xYh(a0 a1:Org):rE I164 (xEK a0 a1) [F,Y] []=dn (xDB false) [iN ((Org.cell a0) != (Org.cell a1)),iY ((Org.row a0) != (Org.row a1))]:=by kernel_rfl
def xYi(a0 a1:Org):rE I164 (xEK a0 a1) [F,F] []=dn (xDB true) [iN ((Org.cell a0) != (Org.cell a1)),iN ((Org.row a0) != (Org.row a1))]:=by kernel_rfl
theorem vE7{N:Nat}:∀a0 a1 r,xIh N a0 a1=some r→RE Tryz.f164 I164 (xEK a0 a1) (xDB r):=fun a0 a1 r h =>
 cE h (fun h0 h=>dE h xWy (xYg a0 a1) (oc h0 on)) fun h0 h =>
 cE h (fun h1 h=>dE h xWy (xYh a0 a1) (oc2 h0 h1 on)) fun h1 h =>
 dE h xWy (xYi a0 a1) (oc2 h0 h1 on)
theorem xLi{N:Nat}{a0:Org}{a1:Org}{r:Bool}(h:xIh N  a0 a1=some r):AbC 164 (xEK a0 a1) (xDB r) :=
 AbsCalls.of_reach xWy rfl rfl rfl (Nat.le_of_ble_eq_true rfl) (vE7 a0 a1 r h)
noncomputable def I130:Info:= { body:=(Tryz.f130.body).getD .skip,nt:=27,results:= [.tmp 4],keep:= [0,2,8,10,20,28,52],live:= [(4, [0,2,10])],modes:= [] }
theorem xUy:FnOk Tryz.prog 130 Tryz.f130 I130:=⟨Tryz.func130,by kernel_rfl,by kernel_rfl,by kernel_rfl,by kernel_rfl⟩
def xPl(x0 x1:List Org)(x5:Int):St:= [(0, .v false [.sl .ro .org x0]),(2, .v false [.sl .ro .org x1]),(10, .v false [.int .i64 x5])]
def xXN(x0 x1:List Org)(x5:Int)(r1:Bool):rS 4 I130 (xPl x0 x1 x5) [Y,Y] [xDB r1]=dn (xC1 false) [xGI x5 x0,xEp x5 x0,xEp x5 x1,AbC 164 (xEK (xFo x0 x5) (xFo x1 x5)) (xDB r1),iY (!r1)]:=by kernel_rfl
def xXO(x0 x1:List Org)(x5:Int)(r1:Bool):rS 4 I130 (xPl x0 x1 x5) [Y,F] [xDB r1]=st 4 I130 (xPl x0 x1 (W (x5+1))) [xGI x5 x0,xEp x5 x0,xEp x5 x1,AbC 164 (xEK (xFo x0 x5) (xFo x1 x5)) (xDB r1),xAA r1]:=by kernel_rfl
def xXP(x0 x1:List Org)(x5:Int):rS 4 I130 (xPl x0 x1 x5) [F] []=dn (xC1 true) [xKe x5 x0]:=by kernel_rfl
def xXQ(a0 a1:List Org):rE I130 (xE1 a0 a1) [Y] []=dn (xC1 false) [iY ((Ln a0:Int) != (Ln a1:Int))]:=by kernel_rfl
def xXR(a0 a1:List Org):rE I130 (xE1 a0 a1) [F] []=st 4 I130 (xPl a0 a1 0) [iN ((Ln a0:Int) != (Ln a1:Int))]:=by kernel_rfl
theorem vEV{N:Nat}:∀n x0 x1 x5 r,xE2 N n x0 x1 x5=some r→RS Tryz.f130 I130 4 (xPl x0 x1 x5) (xC1 r):=by
 intro n
 induction n with
 |zero=>exact fun _ _ _ _ h=>nE h
 |succ n ih =>
  exact fun x0 x1 x5 r h =>
   cE h (fun h0 h=>iE h fun h1 h=>iE h fun h2 h=>bE h fun r1 h3 h=>cE h (fun h4 h=>dS h xUy (xXN x0 x1 x5 r1) (oc5 h0 h1 h2 (xLi h3) h4 on)) fun h4 h =>
   tS xUy (xXO x0 x1 x5 r1) (oc5 h0 h1 h2 (xLi h3) h4 on) (ih _ _ _ _ h)) fun h0 h =>
   dS h xUy (xXP x0 x1 x5) (oc h0 on)
theorem vEW{N:Nat}:∀a0 a1 r,xHI N a0 a1=some r→RE Tryz.f130 I130 (xE1 a0 a1) (xC1 r):=fun a0 a1 r h =>
 cE h (fun h0 h=>dE h xUy (xXQ a0 a1) (oc h0 on)) fun h0 h =>
 tE xUy (xXR a0 a1) (oc h0 on) (vEV _ _ _ _ _ h)
theorem xKN{N:Nat}{a0:List Org}{a1:List Org}{r:Bool}(h:xHI N  a0 a1=some r):AbC 130 (xE1 a0 a1) (xC1 r) :=
 AbsCalls.of_reach xUy rfl rfl rfl (Nat.le_of_ble_eq_true rfl) (vEW a0 a1 r h)
noncomputable def I91:Info:= { body:=(Tryz.f91.body).getD .skip,nt:=17,results:= [.tmp 4],keep:= [0,2,4,6,8,20,32,5,7],live:= [],modes:= [] }
theorem fk91:FnOk Tryz.prog 91 Tryz.f91 I91:=⟨Tryz.func91,by kernel_rfl,by kernel_rfl,by kernel_rfl,by kernel_rfl⟩
abbrev xSU(v0 v1:Rowd)(v2:Bool):Prop:=AbC 129 (xHH (xEw v0) (xEw v1)) (xDQ v2)
def vDT(a0 a1:Rowd)(r1:Bool):rE I91 (xGs a0 a1) [Y] [xDQ r1]=dn (xES false) [xSU a0 a1 r1,iY (!r1)]:=by kernel_rfl
def vDU(a0 a1:Rowd)(r1 r2:Bool):rE I91 (xGs a0 a1) [F,Y] [xDQ r1,xC1 r2]=dn (xES false) [xSU a0 a1 r1,xAA r1,AbC 130 (xE1 (Rowd.frm a0) (Rowd.frm a1)) (xC1 r2),iY (!r2)]:=by kernel_rfl
def vDV(a0 a1:Rowd)(r1 r2:Bool):rE I91 (xGs a0 a1) [F,F] [xDQ r1,xC1 r2]=dn (xES true) [xSU a0 a1 r1,xAA r1,AbC 130 (xE1 (Rowd.frm a0) (Rowd.frm a1)) (xC1 r2),xAA r2]:=by kernel_rfl
theorem vG6{N:Nat}:∀a0 a1 r,xKO N a0 a1=some r→RE Tryz.f91 I91 (xGs a0 a1) (xES r):=fun a0 a1 r h =>
 bE h fun r1 h0 h=>cE h (fun h1 h=>dE h fk91 (vDT a0 a1 r1) (oc2 (xKr h0) h1 on)) fun h1 h =>
 bE h fun r2 h2 h=>cE h (fun h3 h=>dE h fk91 (vDU a0 a1 r1 r2) (oc4 (xKr h0) h1 (xKN h2) h3 on)) fun h3 h =>
 dE h fk91 (vDV a0 a1 r1 r2) (oc4 (xKr h0) h1 (xKN h2) h3 on)
theorem xMB{N:Nat}{a0:Rowd}{a1:Rowd}{r:Bool}(h:xKO N  a0 a1=some r):AbC 91 (xGs a0 a1) (xES r) :=
 AbsCalls.of_reach fk91 rfl rfl rfl (Nat.le_of_ble_eq_true rfl) (vG6 a0 a1 r h)
noncomputable def I49:Info:= { body:=(Tryz.f49.body).getD .skip,nt:=27,results:= [.tmp 4],keep:= [0,2,8,10,20,28,52],live:= [(4, [0,2,10])],modes:= [] }
theorem fk49:FnOk Tryz.prog 49 Tryz.f49 I49:=⟨Tryz.func49,by kernel_rfl,by kernel_rfl,by kernel_rfl,by kernel_rfl⟩
def xT2(x0 x1:List Rowd)(x5:Int):St:= [(0, .v false [.sl .ro .row x0]),(2, .v false [.sl .ro .row x1]),(10, .v false [.int .i64 x5])]
def vCx(x0 x1:List Rowd)(x5:Int)(r1:Bool):rS 4 I49 (xT2 x0 x1 x5) [Y,Y] [xES r1]=dn (xDR false) [xMI x5 x0,xIq x5 x0,xIq x5 x1,AbC 91 (xGs (xLd x0 x5) (xLd x1 x5)) (xES r1),iY (!r1)]:=by kernel_rfl
def vCy(x0 x1:List Rowd)(x5:Int)(r1:Bool):rS 4 I49 (xT2 x0 x1 x5) [Y,F] [xES r1]=st 4 I49 (xT2 x0 x1 (W (x5+1))) [xMI x5 x0,xIq x5 x0,xIq x5 x1,AbC 91 (xGs (xLd x0 x5) (xLd x1 x5)) (xES r1),xAA r1]:=by kernel_rfl
def vCz(x0 x1:List Rowd)(x5:Int):rS 4 I49 (xT2 x0 x1 x5) [F] []=dn (xDR true) [xRs x5 x0]:=by kernel_rfl
def vCA(a0 a1:List Rowd):rE I49 (xGP a0 a1) [Y] []=dn (xDR false) [iY ((Ln a0:Int) != (Ln a1:Int))]:=by kernel_rfl
def vCB(a0 a1:List Rowd):rE I49 (xGP a0 a1) [F] []=st 4 I49 (xT2 a0 a1 0) [iN ((Ln a0:Int) != (Ln a1:Int))]:=by kernel_rfl
theorem vGz{N:Nat}:∀n x0 x1 x5 r,xGQ N n x0 x1 x5=some r→RS Tryz.f49 I49 4 (xT2 x0 x1 x5) (xDR r):=by
 intro n
 induction n with
 |zero=>exact fun _ _ _ _ h=>nE h
 |succ n ih =>
  exact fun x0 x1 x5 r h =>
   cE h (fun h0 h=>iE h fun h1 h=>iE h fun h2 h=>bE h fun r1 h3 h=>cE h (fun h4 h=>dS h fk49 (vCx x0 x1 x5 r1) (oc5 h0 h1 h2 (xMB h3) h4 on)) fun h4 h =>
   tS fk49 (vCy x0 x1 x5 r1) (oc5 h0 h1 h2 (xMB h3) h4 on) (ih _ _ _ _ h)) fun h0 h =>
   dS h fk49 (vCz x0 x1 x5) (oc h0 on)
theorem vGA{N:Nat}:∀a0 a1 r,xJI N a0 a1=some r→RE Tryz.f49 I49 (xGP a0 a1) (xDR r):=fun a0 a1 r h =>
 cE h (fun h0 h=>dE h fk49 (vCA a0 a1) (oc h0 on)) fun h0 h =>
 tE fk49 (vCB a0 a1) (oc h0 on) (vGz _ _ _ _ _ h)
theorem xL2{N:Nat}{a0:List Rowd}{a1:List Rowd}{r:Bool}(h:xJI N  a0 a1=some r):AbC 49 (xGP a0 a1) (xDR r) :=
 AbsCalls.of_reach fk49 rfl rfl rfl (Nat.le_of_ble_eq_true rfl) (vGA a0 a1 r h)
def G12(q:Val→Val→Option (Bool)):Prop:=∀a0 a1 r,q a0 a1=some r→AbC 12 (xB2 a0 a1) (xAc r)
def G47(q:(List Val)→(List Val)→Option (Bool)):Prop:=∀a0 a1 r,q a0 a1=some r→AbC 47 (xFD a0 a1) (xCJ r)
noncomputable def I12:Info:= { body:=(Tryz.f12.body).getD .skip,nt:=43,results:= [.tmp 4],keep:= [0,2,4,6,8,18,28,38,48,60,72,84,5,7],live:= [],modes:= [] }
theorem fk12:FnOk Tryz.prog 12 Tryz.f12 I12:=⟨Tryz.func12,by kernel_rfl,by kernel_rfl,by kernel_rfl,by kernel_rfl⟩
def vAU(a0 a1:Val):rE I12 (xB2 a0 a1) [Y] []=dn (xAc false) [iY ((Val.kind a0) != (Val.kind a1))]:=by kernel_rfl
abbrev xMl(v0 v1:Val):Prop:=iN ((Val.kind v0) != (Val.kind v1))
def vAV(a0 a1:Val):rE I12 (xB2 a0 a1) [F,Y] []=dn (xAc false) [xMl a0 a1,iY ((Val.n a0) != (Val.n a1))]:=by kernel_rfl
abbrev xNc(v0 v1:Val):Prop:=iN ((Val.n v0) != (Val.n v1))
def vAW(a0 a1:Val):rE I12 (xB2 a0 a1) [F,F,Y] []=dn (xAc false) [xMl a0 a1,xNc a0 a1,iY ((Val.step a0) != (Val.step a1))]:=by kernel_rfl
abbrev xOl(v0 v1:Val):Prop:=iN ((Val.step v0) != (Val.step v1))
abbrev xVi(v0:Val):=((Val.text v0):Str)
def vAX(a0 a1:Val):rE I12 (xB2 a0 a1) [F,F,F,Y] []=dn (xAc false) [xMl a0 a1,xNc a0 a1,xOl a0 a1,iY (!((xVi a0)==(Val.text a1)))]:=by kernel_rfl
abbrev xPS(v0 v1:Val):Prop:=iN (!((xVi v0)==(Val.text v1)))
abbrev xPT(v0 v1:Val)(v2:Bool):Prop:=AbC 47 (xFD (Val.list v0) (Val.list v1)) (xCJ v2)
def vAY(a0 a1:Val)(r1:Bool):rE I12 (xB2 a0 a1) [F,F,F,F,Y] [xCJ r1]=dn (xAc false) [xMl a0 a1,xNc a0 a1,xOl a0 a1,xPS a0 a1,xPT a0 a1 r1,iY (!r1)]:=by kernel_rfl
abbrev xSV(v0 v1:Val)(v2:Bool):Prop:=AbC 48 (xGb (xCS v0) (xCS v1)) (xC2 v2)
def vAZ(a0 a1:Val)(r1 r2:Bool):rE I12 (xB2 a0 a1) [F,F,F,F,F,Y] [xCJ r1,xC2 r2]=dn (xAc false) [xMl a0 a1,xNc a0 a1,xOl a0 a1,xPS a0 a1,xPT a0 a1 r1,xAA r1,xSV a0 a1 r2,iY (!r2)]:=by kernel_rfl
def vA0(a0 a1:Val)(r1 r2 r3:Bool):rE I12 (xB2 a0 a1) [F,F,F,F,F,F,Y] [xCJ r1,xC2 r2,xDR r3]=dn (xAc false) [xMl a0 a1,xNc a0 a1,xOl a0 a1,xPS a0 a1,xPT a0 a1 r1,xAA r1,xSV a0 a1 r2,xAA r2,AbC 49 (xGP (Val.rows a0) (Val.rows a1)) (xDR r3),iY (!r3)]:=by kernel_rfl
def vA1(a0 a1:Val)(r1 r2 r3:Bool):rE I12 (xB2 a0 a1) [F,F,F,F,F,F,F] [xCJ r1,xC2 r2,xDR r3]=dn (xAc true) [xMl a0 a1,xNc a0 a1,xOl a0 a1,xPS a0 a1,xPT a0 a1 r1,xAA r1,xSV a0 a1 r2,xAA r2,AbC 49 (xGP (Val.rows a0) (Val.rows a1)) (xDR r3),xAA r3]:=by kernel_rfl
theorem vF2{N q0 q1}(g0:G12 q0)(g1:G47 q1):∀a0 a1 r,xGc N q0 q1 a0 a1=some r→RE Tryz.f12 I12 (xB2 a0 a1) (xAc r):=fun a0 a1 r h =>
 cE h (fun h0 h=>dE h fk12 (vAU a0 a1) (oc h0 on)) fun h0 h =>
 cE h (fun h1 h=>dE h fk12 (vAV a0 a1) (oc2 h0 h1 on)) fun h1 h =>
 cE h (fun h2 h=>dE h fk12 (vAW a0 a1) (oc3 h0 h1 h2 on)) fun h2 h =>
 cE h (fun h3 h=>dE h fk12 (vAX a0 a1) (oc4 h0 h1 h2 h3 on)) fun h3 h =>
 bE h fun r1 h4 h=>cE h (fun h5 h=>dE h fk12 (vAY a0 a1 r1) (oc6 h0 h1 h2 h3 (g1 _ _ _ h4) h5 on)) fun h5 h =>
 bE h fun r2 h6 h=>cE h (fun h7 h=>dE h fk12 (vAZ a0 a1 r1 r2) (oc8 h0 h1 h2 h3 (g1 _ _ _ h4) h5 (xIJ h6) h7 on)) fun h7 h =>
 bE h fun r3 h8 h=>cE h (fun h9 h=>dE h fk12 (vA0 a0 a1 r1 r2 r3) (oc10 h0 h1 h2 h3 (g1 _ _ _ h4) h5 (xIJ h6) h7 (xL2 h8) h9 on)) fun h9 h =>
 dE h fk12 (vA1 a0 a1 r1 r2 r3) (oc10 h0 h1 h2 h3 (g1 _ _ _ h4) h5 (xIJ h6) h7 (xL2 h8) h9 on)
theorem xLU{N q0 q1}(g0:G12 q0)(g1:G47 q1){a0}{a1}{r}(h:xGc N q0 q1 a0 a1=some r):AbC 12 (xB2 a0 a1) (xAc r) :=
 AbsCalls.of_reach fk12 rfl rfl rfl (Nat.le_of_ble_eq_true rfl) (vF2 g0 g1 a0 a1 r h)
noncomputable def I47:Info:= { body:=(Tryz.f47.body).getD .skip,nt:=27,results:= [.tmp 4],keep:= [0,2,8,10,20,28,52],live:= [(4, [0,2,10])],modes:= [] }
theorem fk47:FnOk Tryz.prog 47 Tryz.f47 I47:=⟨Tryz.func47,by kernel_rfl,by kernel_rfl,by kernel_rfl,by kernel_rfl⟩
def xT0(x0 x1:List Val)(x5:Int):St:= [(0, .v false [.sl .ro .val x0]),(2, .v false [.sl .ro .val x1]),(10, .v false [.int .i64 x5])]
def vCn(x0 x1:List Val)(x5:Int)(r1:Bool):rS 4 I47 (xT0 x0 x1 x5) [Y,Y] [xAc r1]=dn (xCJ false) [xIr x5 x0,xCi x5 x0,xCi x5 x1,AbC 12 (xB2 (xIN x0 x5) (xIN x1 x5)) (xAc r1),iY (!r1)]:=by kernel_rfl
def vCo(x0 x1:List Val)(x5:Int)(r1:Bool):rS 4 I47 (xT0 x0 x1 x5) [Y,F] [xAc r1]=st 4 I47 (xT0 x0 x1 (W (x5+1))) [xIr x5 x0,xCi x5 x0,xCi x5 x1,AbC 12 (xB2 (xIN x0 x5) (xIN x1 x5)) (xAc r1),xAA r1]:=by kernel_rfl
def vCp(x0 x1:List Val)(x5:Int):rS 4 I47 (xT0 x0 x1 x5) [F] []=dn (xCJ true) [xOr x5 x0]:=by kernel_rfl
def vCq(a0 a1:List Val):rE I47 (xFD a0 a1) [Y] []=dn (xCJ false) [iY ((Ln a0:Int) != (Ln a1:Int))]:=by kernel_rfl
def vCr(a0 a1:List Val):rE I47 (xFD a0 a1) [F] []=st 4 I47 (xT0 a0 a1 0) [iN ((Ln a0:Int) != (Ln a1:Int))]:=by kernel_rfl
theorem vGv{N q0 q1}(g0:G12 q0)(g1:G47 q1):∀n x0 x1 x5 r,xFE N q0 q1 n x0 x1 x5=some r→RS Tryz.f47 I47 4 (xT0 x0 x1 x5) (xCJ r):=by
 intro n
 induction n with
 |zero=>exact fun _ _ _ _ h=>nE h
 |succ n ih =>
  exact fun x0 x1 x5 r h =>
   cE h (fun h0 h=>iE h fun h1 h=>iE h fun h2 h=>bE h fun r1 h3 h=>cE h (fun h4 h=>dS h fk47 (vCn x0 x1 x5 r1) (oc5 h0 h1 h2 (g0 _ _ _ h3) h4 on)) fun h4 h =>
   tS fk47 (vCo x0 x1 x5 r1) (oc5 h0 h1 h2 (g0 _ _ _ h3) h4 on) (ih _ _ _ _ h)) fun h0 h =>
   dS h fk47 (vCp x0 x1 x5) (oc h0 on)
theorem vGw{N q0 q1}(g0:G12 q0)(g1:G47 q1):∀a0 a1 r,xFR N q0 q1 a0 a1=some r→RE Tryz.f47 I47 (xFD a0 a1) (xCJ r):=fun a0 a1 r h =>
 cE h (fun h0 h=>dE h fk47 (vCq a0 a1) (oc h0 on)) fun h0 h =>
 tE fk47 (vCr a0 a1) (oc h0 on) (vGv g0 g1 _ _ _ _ _ h)
theorem xLw{N q0 q1}(g0:G12 q0)(g1:G47 q1){a0}{a1}{r}(h:xFR N q0 q1 a0 a1=some r):AbC 47 (xFD a0 a1) (xCJ r) :=
 AbsCalls.of_reach fk47 rfl rfl rfl (Nat.le_of_ble_eq_true rfl) (vGw g0 g1 a0 a1 r h)
theorem xMc{N:Nat}:∀d,G12 (xB1 N d).c_laws_eqValue∧G47 (xB1 N d).c_laws_eqValueS:=by
 intro d
 induction d with
 |zero=>exact⟨fun _ _ _ h=>nE h,fun _ _ _ h=>nE h⟩
 |succ d ih =>
  obtain⟨ih0,ih1⟩:=ih
  exact⟨fun _ _ _ h=>xLU (N:=N) ih0 ih1 h,fun _ _ _ h=>xLw (N:=N) ih0 ih1 h⟩
theorem xAd{N:Nat}{a0:Val}{a1:Val}{r:Bool}(h:xC5 N a0 a1=some r):AbC 12 (xB2 a0 a1) (xAc r):=(xMc N).1 _ _ r h
noncomputable def I92:Info:= { body:=(Tryz.f92.body).getD .skip,nt:=20,results:= [.tmp 2],keep:= [0,4,6,10,14],live:= [(4, [0,6])],modes:= [] }
theorem fk92:FnOk Tryz.prog 92 Tryz.f92 I92:=⟨Tryz.func92,by kernel_rfl,by kernel_rfl,by kernel_rfl,by kernel_rfl⟩
def xUP(x0:Int)(x3:Str):St:= [(0, .v false [.int .i64 x0]),(6, .v false [.str x3])]
abbrev xVl(v0:Int):=List.map (fun n=>UInt8.ofNat (tN n)) [(IntKind.u8.wrap ((W (48+(Int.tmod v0 10)))))]
def vDW(x0:Int)(x3:Str):rS 4 I92 (xUP x0 x3) [Y] []=st 4 I92 (xUP (W (Int.tdiv x0 10)) ((xVl x0)++x3)) [xOn x0,10≠(0:Int),Ln (xVl x0)+Ln x3≤Lim,10≠(0:Int)]:=by kernel_rfl
def vDX(x0:Int)(x3:Str):rS 4 I92 (xUP x0 x3) [F] []=dn (xBF ([109]++x3)) [iN (dc (x0>0)),Ln [109]+Ln x3≤Lim]:=by kernel_rfl
def vDY(a0:Int):rE I92 (xD8 a0) [Y] []=dn (xBF [109,48]) [iY (dc (a0≤0))]:=by kernel_rfl
def vDZ(a0:Int):rE I92 (xD8 a0) [F] []=st 4 I92 (xUP a0 []) [iN (dc (a0≤0))]:=by kernel_rfl
theorem vG7{N:Nat}:∀n x0 x3 r,xFL N n x0 x3=some r→RS Tryz.f92 I92 4 (xUP x0 x3) (xBF r):=by
 intro n
 induction n with
 |zero=>exact fun _ _ _ h=>nE h
 |succ n ih =>
  exact fun x0 x3 r h =>
   cE h (fun h0 h=>iE h fun h2 h=>tS fk92 (vDW x0 x3) (oc4 h0 (by decide) h2 (by decide) on) (ih _ _ _ h)) fun h0 h =>
   iE h fun h1 h=>dS h fk92 (vDX x0 x3) (oc2 h0 h1 on)
theorem vG8{N:Nat}:∀a0 r,xET N a0=some r→RE Tryz.f92 I92 (xD8 a0) (xBF r):=fun a0 r h =>
 cE h (fun h0 h=>dE h fk92 (vDY a0) (oc h0 on)) fun h0 h =>
 tE fk92 (vDZ a0) (oc h0 on) (vG7 _ _ _ _ h)
theorem xDC{N:Nat}{a0:Int}{r:Str}(h:xET N  a0=some r):AbC 92 (xD8 a0) (xBF r) :=
 AbsCalls.of_reach fk92 rfl rfl rfl (Nat.le_of_ble_eq_true rfl) (vG8 a0 r h)
noncomputable def xLK:Info:= { body:=(Tryz.f51.body).getD .skip,nt:=20,results:= [.tmp 4],keep:= [0,2,8,10,18],live:= [(2, [0,2,10])],modes:= [] }
theorem xN4:FnOk Tryz.prog 51 Tryz.f51 xLK:=⟨Tryz.func51,by kernel_rfl,by kernel_rfl,by kernel_rfl,by kernel_rfl⟩
def xMZ(x1 x5:Int):St:= [(0, .v false [.sl .ro .str []]),(2, .v false [.int .i64 x1]),(10, .v false [.int .i64 x5])]
def xRB(x1 x5:Int):rS 2 xLK (xMZ x1 x5) [F] []=dn (xDO x1) [iN (dc (x5<(0:Int)))]:=by kernel_rfl
def xRC(a0:List Str)(a1:Int):rE xLK (xFS a0 a1) [] []=st 2 xLK (xMZ a1 0) []:=by kernel_rfl
theorem xUb{N:Nat}:∀n x1 x5 r,xG9 N n x1 x5=some r→RS Tryz.f51 xLK 2 (xMZ x1 x5) (xDO r):=by
 intro n
 induction n with
 |zero=>exact fun _ _ _ h=>nE h
 |succ n ih =>
  exact fun x1 x5 r h =>
   cE h (fun h0 h=>bE h fun r1 h1 h=>iE h fun h2 h=>nE h) fun h0 h =>
   dS h xN4 (xRB x1 x5) (oc h0 on)
theorem xUc{N:Nat}:∀a0 a1 r,xG0 N a0 a1=some r→RE Tryz.f51 xLK (xFS a0 a1) (xDO r):=fun a0 a1 r h =>
 tE xN4 (xRC a0 a1) on (xUb _ _ _ _ h)
theorem xLx{N:Nat}{a0:List Str}{a1:Int}{r:Int}(h:xG0 N  a0 a1=some r):AbC 51 (xFS a0 a1) (xDO r) :=
 AbsCalls.of_reach xN4 rfl rfl rfl (Nat.le_of_ble_eq_true rfl) (xUc a0 a1 r h)
noncomputable def I51:Info:= { body:=(Tryz.f51.body).getD .skip,nt:=20,results:= [.tmp 4],keep:= [0,2,8,10,18],live:= [(2, [0,2,10])],modes:= [(4, [(0, .ref,false)])],lnt:= [(0,0)] }
theorem fk51:FnOk Tryz.prog 51 Tryz.f51 I51:=⟨Tryz.func51,by kernel_rfl,by kernel_rfl,by kernel_rfl,by kernel_rfl⟩
def xUN(x0:List Str)(x1 x5:Int):St:= [(0, .v false [.sl (.lnt 0) .str x0]),(2, .v false [.int .i64 x1]),(10, .v false [.int .i64 x5])]
def vCF(x0:List Str)(x1 x5:Int)(r1:Str):rS 2 I51 (xUN x0 x1 x5) [Y] [xBF r1]=st 2 I51 (xUN (List.set x0 (tN x5) r1) (W (x1+1)) (W (x5+1))) [xJk x5 x0,AbC 92 (xD8 x1) (xBF r1),xGf x5 x0]:=by kernel_rfl
def vCG(x0:List Str)(x1 x5:Int):rS 2 I51 (xUN x0 x1 x5) [F] []=dn (xDa (x1,x0)) [xL4 x5 x0]:=by kernel_rfl
def vCH(a0:List Str)(a1:Int):rE I51 (xFl a0 a1) [] []=st 2 I51 (xUN a0 a1 0) []:=by kernel_rfl
theorem vGD{N:Nat}:∀n x0 x1 x5 r,xEn N n x0 x1 x5=some r→RS Tryz.f51 I51 2 (xUN x0 x1 x5) (xDa r):=by
 intro n
 induction n with
 |zero=>exact fun _ _ _ _ h=>nE h
 |succ n ih =>
  exact fun x0 x1 x5 r h =>
   cE h (fun h0 h=>bE h fun r1 h1 h=>iE h fun h2 h=>tS fk51 (vCF x0 x1 x5 r1) (oc3 h0 (xDC h1) h2 on) (ih _ _ _ _ h)) fun h0 h =>
   dS h fk51 (vCG x0 x1 x5) (oc h0 on)
theorem vGE{N:Nat}:∀a0 a1 r,xGE N a0 a1=some r→RE Tryz.f51 I51 (xFl a0 a1) (xDa r):=fun a0 a1 r h =>
 tE fk51 (vCH a0 a1) on (vGD _ _ _ _ _ h)
theorem xJK{N:Nat}{a0:List Str}{a1:Int}{r:Int × (List Str)}(h:xGE N  a0 a1=some r):AbC 51 (xFl a0 a1) (xDa r) :=
 AbsCalls.of_reach fk51 rfl rfl rfl (Nat.le_of_ble_eq_true rfl) (vGE a0 a1 r h)
noncomputable def I93:Info:= { body:=(Tryz.f93.body).getD .skip,nt:=19,results:= [.tmp 4],keep:= [0,2,8,10,18],live:= [(2, [0,2,10])],modes:= [(4, [(0, .ref,false)])],lnt:= [(0,0)] }
theorem fk93:FnOk Tryz.prog 93 Tryz.f93 I93:=⟨Tryz.func93,by kernel_rfl,by kernel_rfl,by kernel_rfl,by kernel_rfl⟩
def xUQ(x0:List Int)(x1 x5:Int):St:= [(0, .v false [.sl (.lnt 0) .int x0]),(2, .v false [.int .i64 x1]),(10, .v false [.int .i64 x5])]
def vD0(x0:List Int)(x1 x5:Int):rS 2 I93 (xUQ x0 x1 x5) [Y] []=st 2 I93 (xUQ (List.set x0 (tN x5) x1) (W (x1+1)) (W (x5+1))) [xPt x5 x0,xJU x5 x0]:=by kernel_rfl
def vD1(x0:List Int)(x1 x5:Int):rS 2 I93 (xUQ x0 x1 x5) [F] []=dn (xFJ (x1,x0)) [iN (dc (x5<(Ln x0:Int)))]:=by kernel_rfl
def vD2(a0:List Int)(a1:Int):rE I93 (xHR a0 a1) [] []=st 2 I93 (xUQ a0 a1 0) []:=by kernel_rfl
theorem vG9{N:Nat}:∀n x0 x1 x5 r,xFI N n x0 x1 x5=some r→RS Tryz.f93 I93 2 (xUQ x0 x1 x5) (xFJ r):=by
 intro n
 induction n with
 |zero=>exact fun _ _ _ _ h=>nE h
 |succ n ih =>
  exact fun x0 x1 x5 r h =>
   cE h (fun h0 h=>iE h fun h1 h=>tS fk93 (vD0 x0 x1 x5) (oc2 h0 h1 on) (ih _ _ _ _ h)) fun h0 h =>
   dS h fk93 (vD1 x0 x1 x5) (oc h0 on)
theorem vHa{N:Nat}:∀a0 a1 r,xJp N a0 a1=some r→RE Tryz.f93 I93 (xHR a0 a1) (xFJ r):=fun a0 a1 r h =>
 tE fk93 (vD2 a0 a1) on (vG9 _ _ _ _ _ h)
theorem xNG{N:Nat}{a0:List Int}{a1:Int}{r:Int × (List Int)}(h:xJp N  a0 a1=some r):AbC 93 (xHR a0 a1) (xFJ r) :=
 AbsCalls.of_reach fk93 rfl rfl rfl (Nat.le_of_ble_eq_true rfl) (vHa a0 a1 r h)
noncomputable def xLL:Info:= { body:=(Tryz.f52.body).getD .skip,nt:=27,results:= [.tmp 4],keep:= [0,2,8,10,18],live:= [(2, [0,2,10])],modes:= [] }
theorem xN5:FnOk Tryz.prog 52 Tryz.f52 xLL:=⟨Tryz.func52,by kernel_rfl,by kernel_rfl,by kernel_rfl,by kernel_rfl⟩
def xM0(x1 x5:Int):St:= [(0, .v false [.sl .ro .row []]),(2, .v false [.int .i64 x1]),(10, .v false [.int .i64 x5])]
def xRD(x1 x5:Int):rS 2 xLL (xM0 x1 x5) [F] []=dn (xEF x1) [iN (dc (x5<(0:Int)))]:=by kernel_rfl
def xRE(a0:List Rowd)(a1:Int):rE xLL (xGZ a0 a1) [] []=st 2 xLL (xM0 a1 0) []:=by kernel_rfl
theorem xUd{N:Nat}:∀n x1 x5 r,xIl N n x1 x5=some r→RS Tryz.f52 xLL 2 (xM0 x1 x5) (xEF r):=by
 intro n
 induction n with
 |zero=>exact fun _ _ _ h=>nE h
 |succ n ih =>
  exact fun x1 x5 r h =>
   cE h (fun h0 h=>iE h fun h1 h=>nE h) fun h0 h =>
   dS h xN5 (xRD x1 x5) (oc h0 on)
theorem xUe{N:Nat}:∀a0 a1 r,xIk N a0 a1=some r→RE Tryz.f52 xLL (xGZ a0 a1) (xEF r):=fun a0 a1 r h =>
 tE xN5 (xRE a0 a1) on (xUd _ _ _ _ h)
theorem xMC{N:Nat}{a0:List Rowd}{a1:Int}{r:Int}(h:xIk N  a0 a1=some r):AbC 52 (xGZ a0 a1) (xEF r) :=
 AbsCalls.of_reach xN5 rfl rfl rfl (Nat.le_of_ble_eq_true rfl) (xUe a0 a1 r h)
noncomputable def xPA:Info:= { body:=(Tryz.f13.body).getD .skip,nt:=18,results:= [.tmp 4],keep:= [0,2,4,8,5],live:= [],modes:= [] }
theorem xRl:FnOk Tryz.prog 13 Tryz.f13 xPA:=⟨Tryz.func13,by kernel_rfl,by kernel_rfl,by kernel_rfl,by kernel_rfl⟩
def xRy(a0:Val)(a1 r1 r2 r3:Int):rE xPA (xGu a0 a1) [] [xD4 r1,xDO r2,xEF r3]=dn (xBM r3) [AbC 50 (xF9 [] a1) (xD4 r1),AbC 51 (xFS [] r1) (xDO r2),AbC 52 (xGZ [] r2) (xEF r3)]:=by kernel_rfl
theorem xT8{N:Nat}:∀a0 a1 r,xGF N a0 a1=some r→RE Tryz.f13 xPA (xGu a0 a1) (xBM r):=fun a0 a1 r h =>
 bE h fun r1 h0 h=>bE h fun r2 h1 h=>bE h fun r3 h2 h=>dE h xRl (xRy a0 a1 r1 r2 r3) (oc3 (xLV h0) (xLx h1) (xMC h2) on)
theorem xCG{N:Nat}{a0:Val}{a1:Int}{r:Int}(h:xGF N  a0 a1=some r):AbC 13 (xGu a0 a1) (xBM r) :=
 AbsCalls.of_reach xRl rfl rfl rfl (Nat.le_of_ble_eq_true rfl) (xT8 a0 a1 r h)
noncomputable def I94:Info:= { body:=(Tryz.f94.body).getD .skip,nt:=27,results:= [.tmp 4],keep:= [0,2,8,10,18],live:= [(2, [0,2,10])],modes:= [(4, [(0, .ref,false)]),(6, [(0, .ref,false)])],lnt:= [(0,0)] }
theorem fk94:FnOk Tryz.prog 94 Tryz.f94 I94:=⟨Tryz.func94,by kernel_rfl,by kernel_rfl,by kernel_rfl,by kernel_rfl⟩
def xUR(x0:List Org)(x1 x5:Int):St:= [(0, .v false [.sl (.lnt 0) .org x0]),(2, .v false [.int .i64 x1]),(10, .v false [.int .i64 x5])]
abbrev xVe(v0:List Org)(v1:Int):=Org.row (gD v0 (tN v1) Ty.org.dflt)
abbrev xMn(v0:Int):=W ((W (v0+1))+1)
def vD3(x0:List Org)(x1 x5:Int):rS 2 I94 (xUR x0 x1 x5) [Y] []=st 2 I94 (xUR ((fun(z1:List Org)=>List.set z1 (tN x5) (Org.mk (Org.cell (gD z1 (tN x5) Ty.org.dflt)) (W (x1+1)))) (List.set x0 (tN x5) (Org.mk x1 (xVe x0 x5)))) (xMn x1) (W (x5+1))) [xGI x5 x0,xEp x5 x0,(0:Int)≤x5∧x5<(Ln (List.set x0 (tN x5) (Org.mk x1 (xVe x0 x5))))]:=by kernel_rfl
def vD4(x0:List Org)(x1 x5:Int):rS 2 I94 (xUR x0 x1 x5) [F] []=dn (xEm (x1,x0)) [xKe x5 x0]:=by kernel_rfl
def vD5(a0:List Org)(a1:Int):rE I94 (xGt a0 a1) [] []=st 2 I94 (xUR a0 a1 0) []:=by kernel_rfl
theorem vHb{N:Nat}:∀n x0 x1 x5 r,xEl N n x0 x1 x5=some r→RS Tryz.f94 I94 2 (xUR x0 x1 x5) (xEm r):=by
 intro n
 induction n with
 |zero=>exact fun _ _ _ _ h=>nE h
 |succ n ih =>
  exact fun x0 x1 x5 r h =>
   cE h (fun h0 h=>iE h fun h1 h=>iE h fun h2 h=>tS fk94 (vD3 x0 x1 x5) (oc3 h0 h1 h2 on) (ih _ _ _ _ h)) fun h0 h =>
   dS h fk94 (vD4 x0 x1 x5) (oc h0 on)
theorem vHc{N:Nat}:∀a0 a1 r,xHS N a0 a1=some r→RE Tryz.f94 I94 (xGt a0 a1) (xEm r):=fun a0 a1 r h =>
 tE fk94 (vD5 a0 a1) on (vHb _ _ _ _ _ h)
theorem xMd{N:Nat}{a0:List Org}{a1:Int}{r:Int × (List Org)}(h:xHS N  a0 a1=some r):AbC 94 (xGt a0 a1) (xEm r) :=
 AbsCalls.of_reach fk94 rfl rfl rfl (Nat.le_of_ble_eq_true rfl) (vHc a0 a1 r h)
noncomputable def I52:Info:= { body:=(Tryz.f52.body).getD .skip,nt:=27,results:= [.tmp 4],keep:= [0,2,8,10,18],live:= [(2, [0,2,10])],modes:= [(4, [(0, .ref,false),(4, .ref,false),(6, .ref,false)]),(5, [(0, .ref,false),(4, .ref,false),(6, .ref,false)])],lnt:= [(0,0)] }
theorem fk52:FnOk Tryz.prog 52 Tryz.f52 I52:=⟨Tryz.func52,by kernel_rfl,by kernel_rfl,by kernel_rfl,by kernel_rfl⟩
def xUO(x0:List Rowd)(x1 x5:Int):St:= [(0, .v false [.sl (.lnt 0) .row x0]),(2, .v false [.int .i64 x1]),(10, .v false [.int .i64 x5])]
abbrev xQe(v0:List Rowd)(v1:Int)(v2:Int × (List Int)):=List.set v0 (tN v1) (Rowd.mk v2.2 (Rowd.frm (gD v0 (tN v1) rd)))
def vCI(x0:List Rowd)(x1 x5:Int)(r1:Int × (List Int))(r2:Int × (List Org)):rS 2 I52 (xUO x0 x1 x5) [Y] [xFJ r1,xEm r2]=st 2 I52 (xUO ((fun(z1:List Rowd)=>List.set z1 (tN x5) (Rowd.mk (Rowd.cells (gD z1 (tN x5) rd)) r2.2)) (xQe x0 x5 r1)) r2.1 (W (x5+1))) [xMI x5 x0,xIq x5 x0,AbC 93 (xHR (xJT x0 x5) x1) (xFJ r1),(tN x5)=(tN x5),Ln r1.2=Ln (xJT x0 x5),(0:Int)≤x5∧x5<(Ln (xQe x0 x5 r1)),AbC 94 (xGt (Rowd.frm (gD (xQe x0 x5 r1) (tN x5) rd)) r1.1) (xEm r2),(tN x5)=(tN x5),Ln r2.2=Ln (Rowd.frm (gD (xQe x0 x5 r1) (tN x5) rd))]:=by kernel_rfl
def vCJ(x0:List Rowd)(x1 x5:Int):rS 2 I52 (xUO x0 x1 x5) [F] []=dn (xD7 (x1,x0)) [xRs x5 x0]:=by kernel_rfl
def vCK(a0:List Rowd)(a1:Int):rE I52 (xGD a0 a1) [] []=st 2 I52 (xUO a0 a1 0) []:=by kernel_rfl
theorem vGF{N:Nat}:∀n x0 x1 x5 r,xFK N n x0 x1 x5=some r→RS Tryz.f52 I52 2 (xUO x0 x1 x5) (xD7 r):=by
 intro n
 induction n with
 |zero=>exact fun _ _ _ _ h=>nE h
 |succ n ih =>
  exact fun x0 x1 x5 r h =>
   cE h (fun h0 h=>iE h fun h1 h=>bE h fun r1 h2 h=>iE h fun h4 h=>iE h fun h5 h=>bE h fun r2 h6 h=>iE h fun h8 h=>tS fk52 (vCI x0 x1 x5 r1 r2) (oc9 h0 h1 (xNG h2) rfl h4 h5 (xMd h6) rfl h8 on) (ih _ _ _ _ h)) fun h0 h =>
   dS h fk52 (vCJ x0 x1 x5) (oc h0 on)
theorem vGG{N:Nat}:∀a0 a1 r,xIj N a0 a1=some r→RE Tryz.f52 I52 (xGD a0 a1) (xD7 r):=fun a0 a1 r h =>
 tE fk52 (vCK a0 a1) on (vGF _ _ _ _ _ h)
theorem xLj{N:Nat}{a0:List Rowd}{a1:Int}{r:Int × (List Rowd)}(h:xIj N  a0 a1=some r):AbC 52 (xGD a0 a1) (xD7 r) :=
 AbsCalls.of_reach fk52 rfl rfl rfl (Nat.le_of_ble_eq_true rfl) (vGG a0 a1 r h)
def G50(q:(List Val)→Int→Option (Int × (List Val))):Prop:=∀a0 a1 r,q a0 a1=some r→AbC 50 (xD0 a0 a1) (xCR r)
noncomputable def I50:Info:= { body:=(Tryz.f50.body).getD .skip,nt:=63,results:= [.tmp 4],keep:= [0,2,8,10,18],live:= [(2, [0,2,10])],modes:= [(4, [(0, .ref,false)]),(6, [(0, .ref,false)]),(8, [(0, .ref,false)]),(10, [(0, .ref,false)]),(12, [(0, .ref,false),(4, .ref,false),(6, .ref,false)]),(13, [(0, .ref,false),(4, .ref,false),(6, .ref,false)]),(14, [(0, .ref,false),(4, .ref,false),(6, .ref,false)])],lnt:= [(0,0)] }
theorem fk50:FnOk Tryz.prog 50 Tryz.f50 I50:=⟨Tryz.func50,by kernel_rfl,by kernel_rfl,by kernel_rfl,by kernel_rfl⟩
def xUM(x0:List Val)(x1 x5:Int):St:= [(0, .v false [.sl (.lnt 0) .val x0]),(2, .v false [.int .i64 x1]),(10, .v false [.int .i64 x5])]
abbrev xNd(v0:Int)(v1:Str):Prop:=AbC 92 (xD8 (W ((xMn v0)+1))) (xBF v1)
abbrev xVs(v0:Int)(v1:Int × (List Str))(v2:Int × (List Val))(v3:Str)(v4:Int)(v5:List Val):=Val.rows (gD ((fun(z44:List Val)=>List.set z44 (tN v0) (Val.mk (Val.kind (gD z44 (tN v0) vd)) (Val.n (gD z44 (tN v0) vd)) (Val.step (gD z44 (tN v0) vd)) (Val.text (gD z44 (tN v0) vd)) (Val.list (gD z44 (tN v0) vd)) v1.2 (Val.rows (gD z44 (tN v0) vd)))) ((fun(z43:List Val)=>List.set z43 (tN v0) (Val.mk (Val.kind (gD z43 (tN v0) vd)) (Val.n (gD z43 (tN v0) vd)) (Val.step (gD z43 (tN v0) vd)) (Val.text (gD z43 (tN v0) vd)) v2.2 (Val.columns (gD z43 (tN v0) vd)) (Val.rows (gD z43 (tN v0) vd)))) ((fun(z42:List Val)=>List.set z42 (tN v0) (Val.mk (Val.kind (gD z42 (tN v0) vd)) (Val.n (gD z42 (tN v0) vd)) (Val.step (gD z42 (tN v0) vd)) v3 (Val.list (gD z42 (tN v0) vd)) (Val.columns (gD z42 (tN v0) vd)) (Val.rows (gD z42 (tN v0) vd)))) ((fun(z41:List Val)=>List.set z41 (tN v0) (Val.mk (Val.kind (gD z41 (tN v0) vd)) (Val.n (gD z41 (tN v0) vd)) (W ((W (v4+1))+1)) (Val.text (gD z41 (tN v0) vd)) (Val.list (gD z41 (tN v0) vd)) (Val.columns (gD z41 (tN v0) vd)) (Val.rows (gD z41 (tN v0) vd)))) ((fun(z40:List Val)=>List.set z40 (tN v0) (Val.mk (Val.kind (gD z40 (tN v0) vd)) (W (v4+1)) (Val.step (gD z40 (tN v0) vd)) (Val.text (gD z40 (tN v0) vd)) (Val.list (gD z40 (tN v0) vd)) (Val.columns (gD z40 (tN v0) vd)) (Val.rows (gD z40 (tN v0) vd)))) (List.set v5 (tN v0) (Val.mk v4 (Val.n (gD v5 (tN v0) vd)) (Val.step (gD v5 (tN v0) vd)) (Val.text (gD v5 (tN v0) vd)) (Val.list (gD v5 (tN v0) vd)) (Val.columns (gD v5 (tN v0) vd)) (Val.rows (gD v5 (tN v0) vd))))))))) (tN v0) vd)
abbrev xVp(v0:Int)(v1:Int × (List Str))(v2:Int × (List Val))(v3:Str)(v4:Int)(v5:List Val):=(fun(z44:List Val)=>List.set z44 (tN v0) (Val.mk (Val.kind (gD z44 (tN v0) vd)) (Val.n (gD z44 (tN v0) vd)) (Val.step (gD z44 (tN v0) vd)) (Val.text (gD z44 (tN v0) vd)) (Val.list (gD z44 (tN v0) vd)) v1.2 (Val.rows (gD z44 (tN v0) vd)))) ((fun(z43:List Val)=>List.set z43 (tN v0) (Val.mk (Val.kind (gD z43 (tN v0) vd)) (Val.n (gD z43 (tN v0) vd)) (Val.step (gD z43 (tN v0) vd)) (Val.text (gD z43 (tN v0) vd)) v2.2 (Val.columns (gD z43 (tN v0) vd)) (Val.rows (gD z43 (tN v0) vd)))) ((fun(z42:List Val)=>List.set z42 (tN v0) (Val.mk (Val.kind (gD z42 (tN v0) vd)) (Val.n (gD z42 (tN v0) vd)) (Val.step (gD z42 (tN v0) vd)) v3 (Val.list (gD z42 (tN v0) vd)) (Val.columns (gD z42 (tN v0) vd)) (Val.rows (gD z42 (tN v0) vd)))) ((fun(z41:List Val)=>List.set z41 (tN v0) (Val.mk (Val.kind (gD z41 (tN v0) vd)) (Val.n (gD z41 (tN v0) vd)) (W ((W (v4+1))+1)) (Val.text (gD z41 (tN v0) vd)) (Val.list (gD z41 (tN v0) vd)) (Val.columns (gD z41 (tN v0) vd)) (Val.rows (gD z41 (tN v0) vd)))) ((fun(z40:List Val)=>List.set z40 (tN v0) (Val.mk (Val.kind (gD z40 (tN v0) vd)) (W (v4+1)) (Val.step (gD z40 (tN v0) vd)) (Val.text (gD z40 (tN v0) vd)) (Val.list (gD z40 (tN v0) vd)) (Val.columns (gD z40 (tN v0) vd)) (Val.rows (gD z40 (tN v0) vd)))) (List.set v5 (tN v0) (Val.mk v4 (Val.n (gD v5 (tN v0) vd)) (Val.step (gD v5 (tN v0) vd)) (Val.text (gD v5 (tN v0) vd)) (Val.list (gD v5 (tN v0) vd)) (Val.columns (gD v5 (tN v0) vd)) (Val.rows (gD v5 (tN v0) vd))))))))
abbrev xVr(v0:Int)(v1:Int × (List Val))(v2:Str)(v3:Int)(v4:List Val):=Val.columns (gD ((fun(z43:List Val)=>List.set z43 (tN v0) (Val.mk (Val.kind (gD z43 (tN v0) vd)) (Val.n (gD z43 (tN v0) vd)) (Val.step (gD z43 (tN v0) vd)) (Val.text (gD z43 (tN v0) vd)) v1.2 (Val.columns (gD z43 (tN v0) vd)) (Val.rows (gD z43 (tN v0) vd)))) ((fun(z42:List Val)=>List.set z42 (tN v0) (Val.mk (Val.kind (gD z42 (tN v0) vd)) (Val.n (gD z42 (tN v0) vd)) (Val.step (gD z42 (tN v0) vd)) v2 (Val.list (gD z42 (tN v0) vd)) (Val.columns (gD z42 (tN v0) vd)) (Val.rows (gD z42 (tN v0) vd)))) ((fun(z41:List Val)=>List.set z41 (tN v0) (Val.mk (Val.kind (gD z41 (tN v0) vd)) (Val.n (gD z41 (tN v0) vd)) (W ((W (v3+1))+1)) (Val.text (gD z41 (tN v0) vd)) (Val.list (gD z41 (tN v0) vd)) (Val.columns (gD z41 (tN v0) vd)) (Val.rows (gD z41 (tN v0) vd)))) ((fun(z40:List Val)=>List.set z40 (tN v0) (Val.mk (Val.kind (gD z40 (tN v0) vd)) (W (v3+1)) (Val.step (gD z40 (tN v0) vd)) (Val.text (gD z40 (tN v0) vd)) (Val.list (gD z40 (tN v0) vd)) (Val.columns (gD z40 (tN v0) vd)) (Val.rows (gD z40 (tN v0) vd)))) (List.set v4 (tN v0) (Val.mk v3 (Val.n (gD v4 (tN v0) vd)) (Val.step (gD v4 (tN v0) vd)) (Val.text (gD v4 (tN v0) vd)) (Val.list (gD v4 (tN v0) vd)) (Val.columns (gD v4 (tN v0) vd)) (Val.rows (gD v4 (tN v0) vd)))))))) (tN v0) vd)
abbrev vAO(v0:Int)(v1:Int × (List Val))(v2:Str)(v3:Int)(v4:List Val):=(fun(z43:List Val)=>List.set z43 (tN v0) (Val.mk (Val.kind (gD z43 (tN v0) vd)) (Val.n (gD z43 (tN v0) vd)) (Val.step (gD z43 (tN v0) vd)) (Val.text (gD z43 (tN v0) vd)) v1.2 (Val.columns (gD z43 (tN v0) vd)) (Val.rows (gD z43 (tN v0) vd)))) ((fun(z42:List Val)=>List.set z42 (tN v0) (Val.mk (Val.kind (gD z42 (tN v0) vd)) (Val.n (gD z42 (tN v0) vd)) (Val.step (gD z42 (tN v0) vd)) v2 (Val.list (gD z42 (tN v0) vd)) (Val.columns (gD z42 (tN v0) vd)) (Val.rows (gD z42 (tN v0) vd)))) ((fun(z41:List Val)=>List.set z41 (tN v0) (Val.mk (Val.kind (gD z41 (tN v0) vd)) (Val.n (gD z41 (tN v0) vd)) (W ((W (v3+1))+1)) (Val.text (gD z41 (tN v0) vd)) (Val.list (gD z41 (tN v0) vd)) (Val.columns (gD z41 (tN v0) vd)) (Val.rows (gD z41 (tN v0) vd)))) ((fun(z40:List Val)=>List.set z40 (tN v0) (Val.mk (Val.kind (gD z40 (tN v0) vd)) (W (v3+1)) (Val.step (gD z40 (tN v0) vd)) (Val.text (gD z40 (tN v0) vd)) (Val.list (gD z40 (tN v0) vd)) (Val.columns (gD z40 (tN v0) vd)) (Val.rows (gD z40 (tN v0) vd)))) (List.set v4 (tN v0) (Val.mk v3 (Val.n (gD v4 (tN v0) vd)) (Val.step (gD v4 (tN v0) vd)) (Val.text (gD v4 (tN v0) vd)) (Val.list (gD v4 (tN v0) vd)) (Val.columns (gD v4 (tN v0) vd)) (Val.rows (gD v4 (tN v0) vd)))))))
abbrev xVq(v0:Int)(v1:Str)(v2:Int)(v3:List Val):=Val.list (gD ((fun(z42:List Val)=>List.set z42 (tN v0) (Val.mk (Val.kind (gD z42 (tN v0) vd)) (Val.n (gD z42 (tN v0) vd)) (Val.step (gD z42 (tN v0) vd)) v1 (Val.list (gD z42 (tN v0) vd)) (Val.columns (gD z42 (tN v0) vd)) (Val.rows (gD z42 (tN v0) vd)))) ((fun(z41:List Val)=>List.set z41 (tN v0) (Val.mk (Val.kind (gD z41 (tN v0) vd)) (Val.n (gD z41 (tN v0) vd)) (W ((W (v2+1))+1)) (Val.text (gD z41 (tN v0) vd)) (Val.list (gD z41 (tN v0) vd)) (Val.columns (gD z41 (tN v0) vd)) (Val.rows (gD z41 (tN v0) vd)))) ((fun(z40:List Val)=>List.set z40 (tN v0) (Val.mk (Val.kind (gD z40 (tN v0) vd)) (W (v2+1)) (Val.step (gD z40 (tN v0) vd)) (Val.text (gD z40 (tN v0) vd)) (Val.list (gD z40 (tN v0) vd)) (Val.columns (gD z40 (tN v0) vd)) (Val.rows (gD z40 (tN v0) vd)))) (List.set v3 (tN v0) (Val.mk v2 (Val.n (gD v3 (tN v0) vd)) (Val.step (gD v3 (tN v0) vd)) (Val.text (gD v3 (tN v0) vd)) (Val.list (gD v3 (tN v0) vd)) (Val.columns (gD v3 (tN v0) vd)) (Val.rows (gD v3 (tN v0) vd))))))) (tN v0) vd)
abbrev vAN(v0:Int)(v1:Str)(v2:Int)(v3:List Val):=(fun(z42:List Val)=>List.set z42 (tN v0) (Val.mk (Val.kind (gD z42 (tN v0) vd)) (Val.n (gD z42 (tN v0) vd)) (Val.step (gD z42 (tN v0) vd)) v1 (Val.list (gD z42 (tN v0) vd)) (Val.columns (gD z42 (tN v0) vd)) (Val.rows (gD z42 (tN v0) vd)))) ((fun(z41:List Val)=>List.set z41 (tN v0) (Val.mk (Val.kind (gD z41 (tN v0) vd)) (Val.n (gD z41 (tN v0) vd)) (W ((W (v2+1))+1)) (Val.text (gD z41 (tN v0) vd)) (Val.list (gD z41 (tN v0) vd)) (Val.columns (gD z41 (tN v0) vd)) (Val.rows (gD z41 (tN v0) vd)))) ((fun(z40:List Val)=>List.set z40 (tN v0) (Val.mk (Val.kind (gD z40 (tN v0) vd)) (W (v2+1)) (Val.step (gD z40 (tN v0) vd)) (Val.text (gD z40 (tN v0) vd)) (Val.list (gD z40 (tN v0) vd)) (Val.columns (gD z40 (tN v0) vd)) (Val.rows (gD z40 (tN v0) vd)))) (List.set v3 (tN v0) (Val.mk v2 (Val.n (gD v3 (tN v0) vd)) (Val.step (gD v3 (tN v0) vd)) (Val.text (gD v3 (tN v0) vd)) (Val.list (gD v3 (tN v0) vd)) (Val.columns (gD v3 (tN v0) vd)) (Val.rows (gD v3 (tN v0) vd))))))
abbrev vAM(v0 v1:Int)(v2:List Val):=(fun(z41:List Val)=>List.set z41 (tN v0) (Val.mk (Val.kind (gD z41 (tN v0) vd)) (Val.n (gD z41 (tN v0) vd)) (W ((W (v1+1))+1)) (Val.text (gD z41 (tN v0) vd)) (Val.list (gD z41 (tN v0) vd)) (Val.columns (gD z41 (tN v0) vd)) (Val.rows (gD z41 (tN v0) vd)))) ((fun(z40:List Val)=>List.set z40 (tN v0) (Val.mk (Val.kind (gD z40 (tN v0) vd)) (W (v1+1)) (Val.step (gD z40 (tN v0) vd)) (Val.text (gD z40 (tN v0) vd)) (Val.list (gD z40 (tN v0) vd)) (Val.columns (gD z40 (tN v0) vd)) (Val.rows (gD z40 (tN v0) vd)))) (List.set v2 (tN v0) (Val.mk v1 (Val.n (gD v2 (tN v0) vd)) (Val.step (gD v2 (tN v0) vd)) (Val.text (gD v2 (tN v0) vd)) (Val.list (gD v2 (tN v0) vd)) (Val.columns (gD v2 (tN v0) vd)) (Val.rows (gD v2 (tN v0) vd)))))
abbrev vAL(v0 v1:Int)(v2:List Val):=(fun(z40:List Val)=>List.set z40 (tN v0) (Val.mk (Val.kind (gD z40 (tN v0) vd)) (W (v1+1)) (Val.step (gD z40 (tN v0) vd)) (Val.text (gD z40 (tN v0) vd)) (Val.list (gD z40 (tN v0) vd)) (Val.columns (gD z40 (tN v0) vd)) (Val.rows (gD z40 (tN v0) vd)))) (List.set v2 (tN v0) (Val.mk v1 (Val.n (gD v2 (tN v0) vd)) (Val.step (gD v2 (tN v0) vd)) (Val.text (gD v2 (tN v0) vd)) (Val.list (gD v2 (tN v0) vd)) (Val.columns (gD v2 (tN v0) vd)) (Val.rows (gD v2 (tN v0) vd))))
abbrev vAK(v0:List Val)(v1 v2:Int):=List.set v0 (tN v1) (Val.mk v2 (Val.n (gD v0 (tN v1) vd)) (Val.step (gD v0 (tN v1) vd)) (Val.text (gD v0 (tN v1) vd)) (Val.list (gD v0 (tN v1) vd)) (Val.columns (gD v0 (tN v1) vd)) (Val.rows (gD v0 (tN v1) vd)))
def vCC(x0:List Val)(x1 x5:Int)(r1:Str)(r2:Int × (List Val))(r3:Int × (List Str))(r4:Int × (List Rowd)):rS 2 I50 (xUM x0 x1 x5) [Y] [xBF r1,xCR r2,xDa r3,xD7 r4]=st 2 I50 (xUM ((fun(z45:List Val)=>List.set z45 (tN x5) (Val.mk (Val.kind (gD z45 (tN x5) vd)) (Val.n (gD z45 (tN x5) vd)) (Val.step (gD z45 (tN x5) vd)) (Val.text (gD z45 (tN x5) vd)) (Val.list (gD z45 (tN x5) vd)) (Val.columns (gD z45 (tN x5) vd)) r4.2)) (xVp x5 r3 r2 r1 x1 x0)) r4.1 (W (x5+1))) [xIr x5 x0,xCi x5 x0,(0:Int)≤x5∧x5<(Ln (vAK x0 x5 x1)),(0:Int)≤x5∧x5<(Ln (vAL x5 x1 x0)),xNd x1 r1,(0:Int)≤x5∧x5<(Ln (vAM x5 x1 x0)),(0:Int)≤x5∧x5<(Ln (vAN x5 r1 x1 x0)),AbC 50 (xD0 (xVq x5 r1 x1 x0) (W ((W ((xMn x1)+1))+1))) (xCR r2),(tN x5)=(tN x5),Ln r2.2=Ln (xVq x5 r1 x1 x0),(0:Int)≤x5∧x5<(Ln (vAO x5 r2 r1 x1 x0)),AbC 51 (xFl (xVr x5 r2 r1 x1 x0) r2.1) (xDa r3),(tN x5)=(tN x5),Ln r3.2=Ln (xVr x5 r2 r1 x1 x0),(0:Int)≤x5∧x5<(Ln (xVp x5 r3 r2 r1 x1 x0)),AbC 52 (xGD (xVs x5 r3 r2 r1 x1 x0) r3.1) (xD7 r4),(tN x5)=(tN x5),Ln r4.2=Ln (xVs x5 r3 r2 r1 x1 x0)]:=by kernel_rfl
def vCD(x0:List Val)(x1 x5:Int):rS 2 I50 (xUM x0 x1 x5) [F] []=dn (xCR (x1,x0)) [xOr x5 x0]:=by kernel_rfl
def vCE(a0:List Val)(a1:Int):rE I50 (xD0 a0 a1) [] []=st 2 I50 (xUM a0 a1 0) []:=by kernel_rfl
theorem vGB{N q0}(g0:G50 q0):∀n x0 x1 x5 r,xEG N q0 n x0 x1 x5=some r→RS Tryz.f50 I50 2 (xUM x0 x1 x5) (xCR r):=by
 intro n
 induction n with
 |zero=>exact fun _ _ _ _ h=>nE h
 |succ n ih =>
  exact fun x0 x1 x5 r h =>
   cE h (fun h0 h=>iE h fun h1 h=>iE h fun h2 h=>iE h fun h3 h=>bE h fun r1 h4 h=>iE h fun h5 h=>iE h fun h6 h=>bE h fun r2 h7 h=>iE h fun h9 h=>iE h fun h10 h=>bE h fun r3 h11 h=>iE h fun h13 h=>iE h fun h14 h=>bE h fun r4 h15 h=>iE h fun h17 h=>tS fk50 (vCC x0 x1 x5 r1 r2 r3 r4) (oc12 h0 h1 h2 h3 (xDC h4) h5 h6 (g0 _ _ _ h7) rfl h9 h10 (xJK h11) (oc6 rfl h13 h14 (xLj h15) rfl h17 on)) (ih _ _ _ _ h)) fun h0 h =>
   dS h fk50 (vCD x0 x1 x5) (oc h0 on)
theorem vGC{N q0}(g0:G50 q0):∀a0 a1 r,xHw N q0 a0 a1=some r→RE Tryz.f50 I50 (xD0 a0 a1) (xCR r):=fun a0 a1 r h =>
 tE fk50 (vCE a0 a1) on (vGB g0 _ _ _ _ _ h)
theorem xK5{N q0}(g0:G50 q0){a0}{a1}{r}(h:xHw N q0 a0 a1=some r):AbC 50 (xD0 a0 a1) (xCR r) :=
 AbsCalls.of_reach fk50 rfl rfl rfl (Nat.le_of_ble_eq_true rfl) (vGC g0 a0 a1 r h)
theorem xIy{N:Nat}:∀d,G50 (xFm N d)
 |0=>fun _ _ _ h=>nE h
 |d+1=>fun _ _ _ h=>xK5 (N:=N) (xIy d) h
theorem xMD{N:Nat}{a0:List Val}{a1:Int}{r:Int × (List Val)}(h:xJL N a0 a1=some r):AbC 50 (xD0 a0 a1) (xCR r):=xIy N _ _ r h
noncomputable def I13:Info:= { body:=(Tryz.f13.body).getD .skip,nt:=18,results:= [.tmp 4],keep:= [0,2,4,8,5],live:= [],modes:= [(1, [(1, .ref,false),(3, .ref,false)]),(2, [(1, .ref,false),(3, .ref,false)]),(3, [(1, .ref,false),(3, .ref,false)])],lnt:= [(5,4),(5,5),(5,6)] }
theorem fk13:FnOk Tryz.prog 13 Tryz.f13 I13:=⟨Tryz.func13,by kernel_rfl,by kernel_rfl,by kernel_rfl,by kernel_rfl⟩
def vA2(a0:Val)(a1:Int)(r1:Int × (List Val))(r2:Int × (List Str))(r3:Int × (List Rowd)):rE I13 (xE4 a0 a1) [] [xCR r1,xDa r2,xD7 r3]=dn (xAh (r3.1,r1.2,r2.2,r3.2)) [AbC 50 (xD0 (Val.list a0) a1) (xCR r1),Ln r1.2=Ln (Val.list a0),AbC 51 (xFl (xCS a0) r1.1) (xDa r2),Ln r2.2=Ln (xCS a0),AbC 52 (xGD (Val.rows a0) r2.1) (xD7 r3),Ln r3.2=Ln (Val.rows a0)]:=by kernel_rfl
theorem vF3{N:Nat}:∀a0 a1 r,xDh N a0 a1=some r→RE Tryz.f13 I13 (xE4 a0 a1) (xAh r):=fun a0 a1 r h =>
 bE h fun r1 h0 h=>iE h fun h1 h=>bE h fun r2 h2 h=>iE h fun h3 h=>bE h fun r3 h4 h=>iE h fun h5 h=>dE h fk13 (vA2 a0 a1 r1 r2 r3) (oc6 (xMD h0) h1 (xJK h2) h3 (xLj h4) h5 on)
theorem xAj{N:Nat}{a0:Val}{a1:Int}{r:Int × (List Val) × (List Str) × (List Rowd)}(h:xDh N  a0 a1=some r):AbC 13 (xE4 a0 a1) (xAh r) :=
 AbsCalls.of_reach fk13 rfl rfl rfl (Nat.le_of_ble_eq_true rfl) (vF3 a0 a1 r h)
noncomputable def I54:Info:= { body:=(Tryz.f54.body).getD .skip,nt:=22,results:= [.tmp 4],keep:= [0,2,8,10,18,36],live:= [(2, [0,2,10])],modes:= [] }
theorem fk54:FnOk Tryz.prog 54 Tryz.f54 I54:=⟨Tryz.func54,by kernel_rfl,by kernel_rfl,by kernel_rfl,by kernel_rfl⟩
def xT3(x0:List Str)(x1 x5:Int):St:= [(0, .v false [.sl .ro .str x0]),(2, .v false [.int .i64 x1]),(10, .v false [.int .i64 x5])]
def vCV(x0:List Str)(x1 x5:Int)(r1:Str):rS 2 I54 (xT3 x0 x1 x5) [Y,Y] [xBF r1]=dn (xBl (-1)) [xJk x5 x0,xGf x5 x0,AbC 92 (xD8 x1) (xBF r1),iY (!(xLC x0 x5 r1))]:=by kernel_rfl
def vCW(x0:List Str)(x1 x5:Int)(r1:Str):rS 2 I54 (xT3 x0 x1 x5) [Y,F] [xBF r1]=st 2 I54 (xT3 x0 (W (x1+1)) (W (x5+1))) [xJk x5 x0,xGf x5 x0,AbC 92 (xD8 x1) (xBF r1),iN (!(xLC x0 x5 r1))]:=by kernel_rfl
def vCX(x0:List Str)(x1 x5:Int):rS 2 I54 (xT3 x0 x1 x5) [F] []=dn (xBl x1) [xL4 x5 x0]:=by kernel_rfl
def vCY(a0:List Str)(a1:Int):rE I54 (xCU a0 a1) [] []=st 2 I54 (xT3 a0 a1 0) []:=by kernel_rfl
theorem vGJ{N:Nat}:∀n x0 x1 x5 r,xDG N n x0 x1 x5=some r→RS Tryz.f54 I54 2 (xT3 x0 x1 x5) (xBl r):=by
 intro n
 induction n with
 |zero=>exact fun _ _ _ _ h=>nE h
 |succ n ih =>
  exact fun x0 x1 x5 r h =>
   cE h (fun h0 h=>iE h fun h1 h=>bE h fun r1 h2 h=>cE h (fun h3 h=>dS h fk54 (vCV x0 x1 x5 r1) (oc4 h0 h1 (xDC h2) h3 on)) fun h3 h =>
   tS fk54 (vCW x0 x1 x5 r1) (oc4 h0 h1 (xDC h2) h3 on) (ih _ _ _ _ h)) fun h0 h =>
   dS h fk54 (vCX x0 x1 x5) (oc h0 on)
theorem vGK{N:Nat}:∀a0 a1 r,xFH N a0 a1=some r→RE Tryz.f54 I54 (xCU a0 a1) (xBl r):=fun a0 a1 r h =>
 tE fk54 (vCY a0 a1) on (vGJ _ _ _ _ _ h)
theorem xEj{N:Nat}{a0:List Str}{a1:Int}{r:Int}(h:xFH N  a0 a1=some r):AbC 54 (xCU a0 a1) (xBl r) :=
 AbsCalls.of_reach fk54 rfl rfl rfl (Nat.le_of_ble_eq_true rfl) (vGK a0 a1 r h)
noncomputable def I95:Info:= { body:=(Tryz.f95.body).getD .skip,nt:=21,results:= [.tmp 4],keep:= [0,2,8,10,18,34],live:= [(2, [0,2,10])],modes:= [] }
theorem fk95:FnOk Tryz.prog 95 Tryz.f95 I95:=⟨Tryz.func95,by kernel_rfl,by kernel_rfl,by kernel_rfl,by kernel_rfl⟩
def xT7(x0:List Int)(x1 x5:Int):St:= [(0, .v false [.sl .ro .int x0]),(2, .v false [.int .i64 x1]),(10, .v false [.int .i64 x5])]
def vD6(x0:List Int)(x1 x5:Int):rS 2 I95 (xT7 x0 x1 x5) [Y,Y] []=dn (xCY (-1)) [xPt x5 x0,xJU x5 x0,iY ((xLe x0 x5) != x1)]:=by kernel_rfl
def vD7(x0:List Int)(x1 x5:Int):rS 2 I95 (xT7 x0 x1 x5) [Y,F] []=st 2 I95 (xT7 x0 (W (x1+1)) (W (x5+1))) [xPt x5 x0,xJU x5 x0,iN ((xLe x0 x5) != x1)]:=by kernel_rfl
def vD8(x0:List Int)(x1 x5:Int):rS 2 I95 (xT7 x0 x1 x5) [F] []=dn (xCY x1) [iN (dc (x5<(Ln x0:Int)))]:=by kernel_rfl
def vD9(a0:List Int)(a1:Int):rE I95 (xFF a0 a1) [] []=st 2 I95 (xT7 a0 a1 0) []:=by kernel_rfl
theorem vHd{N:Nat}:∀n x0 x1 x5 r,xFG N n x0 x1 x5=some r→RS Tryz.f95 I95 2 (xT7 x0 x1 x5) (xCY r):=by
 intro n
 induction n with
 |zero=>exact fun _ _ _ _ h=>nE h
 |succ n ih =>
  exact fun x0 x1 x5 r h =>
   cE h (fun h0 h=>iE h fun h1 h=>cE h (fun h2 h=>dS h fk95 (vD6 x0 x1 x5) (oc3 h0 h1 h2 on)) fun h2 h =>
   tS fk95 (vD7 x0 x1 x5) (oc3 h0 h1 h2 on) (ih _ _ _ _ h)) fun h0 h =>
   dS h fk95 (vD8 x0 x1 x5) (oc h0 on)
theorem vHe{N:Nat}:∀a0 a1 r,xJo N a0 a1=some r→RE Tryz.f95 I95 (xFF a0 a1) (xCY r):=fun a0 a1 r h =>
 tE fk95 (vD9 a0 a1) on (vHd _ _ _ _ _ h)
theorem xJd{N:Nat}{a0:List Int}{a1:Int}{r:Int}(h:xJo N  a0 a1=some r):AbC 95 (xFF a0 a1) (xCY r) :=
 AbsCalls.of_reach fk95 rfl rfl rfl (Nat.le_of_ble_eq_true rfl) (vHe a0 a1 r h)
noncomputable def I96:Info:= { body:=(Tryz.f96.body).getD .skip,nt:=31,results:= [.tmp 4],keep:= [0,2,8,10,18,36,54],live:= [(2, [0,2,10])],modes:= [] }
theorem fk96:FnOk Tryz.prog 96 Tryz.f96 I96:=⟨Tryz.func96,by kernel_rfl,by kernel_rfl,by kernel_rfl,by kernel_rfl⟩
def xSq(x0:List Org)(x1 x5:Int):St:= [(0, .v false [.sl .ro .org x0]),(2, .v false [.int .i64 x1]),(10, .v false [.int .i64 x5])]
abbrev xS0(v0:List Org)(v1:Int):=((Org.cell (gD v0 (tN v1) Ty.org.dflt)):Int)
def vEa(x0:List Org)(x1 x5:Int):rS 2 I96 (xSq x0 x1 x5) [Y,Y] []=dn (xCF (-1)) [xGI x5 x0,xEp x5 x0,iY ((xS0 x0 x5) != x1)]:=by kernel_rfl
abbrev xVf(v0:List Org)(v1:Int):=((Org.row (gD v0 (tN v1) Ty.org.dflt)):Int)
def vEb(x0:List Org)(x1 x5:Int):rS 2 I96 (xSq x0 x1 x5) [Y,F,Y] []=dn (xCF (-1)) [xGI x5 x0,xEp x5 x0,iN ((xS0 x0 x5) != x1),xEp x5 x0,iY ((xVf x0 x5) != (W (x1+1)))]:=by kernel_rfl
def vEc(x0:List Org)(x1 x5:Int):rS 2 I96 (xSq x0 x1 x5) [Y,F,F] []=st 2 I96 (xSq x0 (xMn x1) (W (x5+1))) [xGI x5 x0,xEp x5 x0,iN ((xS0 x0 x5) != x1),xEp x5 x0,iN ((xVf x0 x5) != (W (x1+1)))]:=by kernel_rfl
def vEd(x0:List Org)(x1 x5:Int):rS 2 I96 (xSq x0 x1 x5) [F] []=dn (xCF x1) [xKe x5 x0]:=by kernel_rfl
def vEe(a0:List Org)(a1:Int):rE I96 (xFk a0 a1) [] []=st 2 I96 (xSq a0 a1 0) []:=by kernel_rfl
theorem vHf{N:Nat}:∀n x0 x1 x5 r,xEi N n x0 x1 x5=some r→RS Tryz.f96 I96 2 (xSq x0 x1 x5) (xCF r):=by
 intro n
 induction n with
 |zero=>exact fun _ _ _ _ h=>nE h
 |succ n ih =>
  exact fun x0 x1 x5 r h =>
   cE h (fun h0 h=>iE h fun h1 h=>cE h (fun h2 h=>dS h fk96 (vEa x0 x1 x5) (oc3 h0 h1 h2 on)) fun h2 h =>
   cE h (fun h4 h=>dS h fk96 (vEb x0 x1 x5) (oc5 h0 h1 h2 h1 h4 on)) fun h4 h =>
   tS fk96 (vEc x0 x1 x5) (oc5 h0 h1 h2 h1 h4 on) (ih _ _ _ _ h)) fun h0 h =>
   dS h fk96 (vEd x0 x1 x5) (oc h0 on)
theorem vHg{N:Nat}:∀a0 a1 r,xHP N a0 a1=some r→RE Tryz.f96 I96 (xFk a0 a1) (xCF r):=fun a0 a1 r h =>
 tE fk96 (vEe a0 a1) on (vHf _ _ _ _ _ h)
theorem xJJ{N:Nat}{a0:List Org}{a1:Int}{r:Int}(h:xHP N  a0 a1=some r):AbC 96 (xFk a0 a1) (xCF r) :=
 AbsCalls.of_reach fk96 rfl rfl rfl (Nat.le_of_ble_eq_true rfl) (vHg a0 a1 r h)
noncomputable def I55:Info:= { body:=(Tryz.f55.body).getD .skip,nt:=31,results:= [.tmp 4],keep:= [0,2,8,10,18,40,58],live:= [(2, [0,2,10])],modes:= [] }
theorem fk55:FnOk Tryz.prog 55 Tryz.f55 I55:=⟨Tryz.func55,by kernel_rfl,by kernel_rfl,by kernel_rfl,by kernel_rfl⟩
def xSn(x0:List Rowd)(x1 x5:Int):St:= [(0, .v false [.sl .ro .row x0]),(2, .v false [.int .i64 x1]),(10, .v false [.int .i64 x5])]
def vCZ(x0:List Rowd)(x1 x5 r1:Int):rS 2 I55 (xSn x0 x1 x5) [Y,Y] [xCY r1]=dn (xCm (-1)) [xMI x5 x0,xIq x5 x0,AbC 95 (xFF (xJT x0 x5) x1) (xCY r1),xFp r1]:=by kernel_rfl
def vC0(x0:List Rowd)(x1 x5 r1 r2:Int):rS 2 I55 (xSn x0 x1 x5) [Y,F,Y] [xCY r1,xCF r2]=dn (xCm (-1)) [xMI x5 x0,xIq x5 x0,AbC 95 (xFF (xJT x0 x5) x1) (xCY r1),xAD r1,xIq x5 x0,AbC 96 (xFk (xTj x0 x5) r1) (xCF r2),xFp r2]:=by kernel_rfl
def vC1(x0:List Rowd)(x1 x5 r1 r2:Int):rS 2 I55 (xSn x0 x1 x5) [Y,F,F] [xCY r1,xCF r2]=st 2 I55 (xSn x0 r2 (W (x5+1))) [xMI x5 x0,xIq x5 x0,AbC 95 (xFF (xJT x0 x5) x1) (xCY r1),xAD r1,xIq x5 x0,AbC 96 (xFk (xTj x0 x5) r1) (xCF r2),xAD r2]:=by kernel_rfl
def vC2(x0:List Rowd)(x1 x5:Int):rS 2 I55 (xSn x0 x1 x5) [F] []=dn (xCm x1) [xRs x5 x0]:=by kernel_rfl
def vC3(a0:List Rowd)(a1:Int):rE I55 (xEL a0 a1) [] []=st 2 I55 (xSn a0 a1 0) []:=by kernel_rfl
theorem vGL{N:Nat}:∀n x0 x1 x5 r,xEM N n x0 x1 x5=some r→RS Tryz.f55 I55 2 (xSn x0 x1 x5) (xCm r):=by
 intro n
 induction n with
 |zero=>exact fun _ _ _ _ h=>nE h
 |succ n ih =>
  exact fun x0 x1 x5 r h =>
   cE h (fun h0 h=>iE h fun h1 h=>bE h fun r1 h2 h=>cE h (fun h3 h=>dS h fk55 (vCZ x0 x1 x5 r1) (oc4 h0 h1 (xJd h2) h3 on)) fun h3 h =>
   bE h fun r2 h5 h=>cE h (fun h6 h=>dS h fk55 (vC0 x0 x1 x5 r1 r2) (oc7 h0 h1 (xJd h2) h3 h1 (xJJ h5) h6 on)) fun h6 h =>
   tS fk55 (vC1 x0 x1 x5 r1 r2) (oc7 h0 h1 (xJd h2) h3 h1 (xJJ h5) h6 on) (ih _ _ _ _ h)) fun h0 h =>
   dS h fk55 (vC2 x0 x1 x5) (oc h0 on)
theorem vGM{N:Nat}:∀a0 a1 r,xHi N a0 a1=some r→RE Tryz.f55 I55 (xEL a0 a1) (xCm r):=fun a0 a1 r h =>
 tE fk55 (vC3 a0 a1) on (vGL _ _ _ _ _ h)
theorem xHQ{N:Nat}{a0:List Rowd}{a1:Int}{r:Int}(h:xHi N  a0 a1=some r):AbC 55 (xEL a0 a1) (xCm r) :=
 AbsCalls.of_reach fk55 rfl rfl rfl (Nat.le_of_ble_eq_true rfl) (vGM a0 a1 r h)
def G53(q:(List Val)→Int→Option (Int)):Prop:=∀a0 a1 r,q a0 a1=some r→AbC 53 (xDY a0 a1) (xAU r)
noncomputable def I53:Info:= { body:=(Tryz.f53.body).getD .skip,nt:=77,results:= [.tmp 4],keep:= [0,2,8,10,18,36,54,72,92,114,132,150],live:= [(2, [0,2,10])],modes:= [] }
theorem fk53:FnOk Tryz.prog 53 Tryz.f53 I53:=⟨Tryz.func53,by kernel_rfl,by kernel_rfl,by kernel_rfl,by kernel_rfl⟩
def xNE(x0:List Val)(x1 x5:Int):St:= [(0, .v false [.sl .ro .val x0]),(2, .v false [.int .i64 x1]),(10, .v false [.int .i64 x5])]
def vCL(x0:List Val)(x1 x5:Int):rS 2 I53 (xNE x0 x1 x5) [Y,Y] []=dn (xAU (-1)) [xIr x5 x0,xCi x5 x0,iY ((xJS x0 x5) != x1)]:=by kernel_rfl
abbrev xMm(v0:List Val)(v1 v2:Int):Prop:=iN ((xJS v0 v1) != v2)
def vCM(x0:List Val)(x1 x5:Int):rS 2 I53 (xNE x0 x1 x5) [Y,F,Y] []=dn (xAU (-1)) [xIr x5 x0,xCi x5 x0,xMm x0 x5 x1,xCi x5 x0,iY (((xS3 x0 x5):Int) != (W (x1+1)))]:=by kernel_rfl
abbrev xNe(v0:List Val)(v1 v2:Int):Prop:=iN (((xS3 v0 v1):Int) != (W (v2+1)))
abbrev xVm(v0:List Val)(v1:Int):=Val.step (gD v0 (tN v1) vd)
def vCN(x0:List Val)(x1 x5:Int):rS 2 I53 (xNE x0 x1 x5) [Y,F,F,Y] []=dn (xAU (-1)) [xIr x5 x0,xCi x5 x0,xMm x0 x5 x1,xCi x5 x0,xNe x0 x5 x1,xCi x5 x0,iY (((xVm x0 x5):Int) != (xMn x1))]:=by kernel_rfl
abbrev xOm(v0:List Val)(v1 v2:Int):Prop:=iN (((xVm v0 v1):Int) != (xMn v2))
abbrev xVn(v0:List Val)(v1:Int):=Val.text (gD v0 (tN v1) vd)
def vCO(x0:List Val)(x1 x5:Int)(r1:Str):rS 2 I53 (xNE x0 x1 x5) [Y,F,F,F,Y] [xBF r1]=dn (xAU (-1)) [xIr x5 x0,xCi x5 x0,xMm x0 x5 x1,xCi x5 x0,xNe x0 x5 x1,xCi x5 x0,xOm x0 x5 x1,xCi x5 x0,xNd x1 r1,iY (!(((xVn x0 x5):Str)==r1))]:=by kernel_rfl
abbrev xPU(v0:List Val)(v1:Int)(v2:Str):Prop:=iN (!(((xVn v0 v1):Str)==v2))
abbrev vAJ(v0:List Val)(v1:Int):=Val.list (gD v0 (tN v1) vd)
abbrev xPV(v0:List Val)(v1 v2 v3:Int):Prop:=AbC 53 (xDY (vAJ v0 v1) (W ((W ((xMn v2)+1))+1))) (xAU v3)
def vCP(x0:List Val)(x1 x5:Int)(r1:Str)(r2:Int):rS 2 I53 (xNE x0 x1 x5) [Y,F,F,F,F,Y] [xBF r1,xAU r2]=dn (xAU (-1)) [xIr x5 x0,xCi x5 x0,xMm x0 x5 x1,xCi x5 x0,xNe x0 x5 x1,xCi x5 x0,xOm x0 x5 x1,xCi x5 x0,xNd x1 r1,xPU x0 x5 r1,xCi x5 x0,xPV x0 x5 x1 r2,xFp r2]:=by kernel_rfl
abbrev xTk(v0:List Val)(v1:Int):=Val.columns (gD v0 (tN v1) vd)
def vCQ(x0:List Val)(x1 x5:Int)(r1:Str)(r2 r3:Int):rS 2 I53 (xNE x0 x1 x5) [Y,F,F,F,F,F,Y] [xBF r1,xAU r2,xBl r3]=dn (xAU (-1)) [xIr x5 x0,xCi x5 x0,xMm x0 x5 x1,xCi x5 x0,xNe x0 x5 x1,xCi x5 x0,xOm x0 x5 x1,xCi x5 x0,xNd x1 r1,xPU x0 x5 r1,xCi x5 x0,xPV x0 x5 x1 r2,xAD r2,xCi x5 x0,AbC 54 (xCU (xTk x0 x5) r2) (xBl r3),xFp r3]:=by kernel_rfl
abbrev xVo(v0:List Val)(v1:Int):=Val.rows (gD v0 (tN v1) vd)
def vCR(x0:List Val)(x1 x5:Int)(r1:Str)(r2 r3 r4:Int):rS 2 I53 (xNE x0 x1 x5) [Y,F,F,F,F,F,F,Y] [xBF r1,xAU r2,xBl r3,xCm r4]=dn (xAU (-1)) [xIr x5 x0,xCi x5 x0,xMm x0 x5 x1,xCi x5 x0,xNe x0 x5 x1,xCi x5 x0,xOm x0 x5 x1,xCi x5 x0,xNd x1 r1,xPU x0 x5 r1,xCi x5 x0,xPV x0 x5 x1 r2,xAD r2,xCi x5 x0,AbC 54 (xCU (xTk x0 x5) r2) (xBl r3),xAD r3,xCi x5 x0,AbC 55 (xEL (xVo x0 x5) r3) (xCm r4),xFp r4]:=by kernel_rfl
def vCS(x0:List Val)(x1 x5:Int)(r1:Str)(r2 r3 r4:Int):rS 2 I53 (xNE x0 x1 x5) [Y,F,F,F,F,F,F,F] [xBF r1,xAU r2,xBl r3,xCm r4]=st 2 I53 (xNE x0 r4 (W (x5+1))) [xIr x5 x0,xCi x5 x0,xMm x0 x5 x1,xCi x5 x0,xNe x0 x5 x1,xCi x5 x0,xOm x0 x5 x1,xCi x5 x0,xNd x1 r1,xPU x0 x5 r1,xCi x5 x0,xPV x0 x5 x1 r2,xAD r2,xCi x5 x0,AbC 54 (xCU (xTk x0 x5) r2) (xBl r3),xAD r3,xCi x5 x0,AbC 55 (xEL (xVo x0 x5) r3) (xCm r4),xAD r4]:=by kernel_rfl
def vCT(x0:List Val)(x1 x5:Int):rS 2 I53 (xNE x0 x1 x5) [F] []=dn (xAU x1) [xOr x5 x0]:=by kernel_rfl
def vCU(a0:List Val)(a1:Int):rE I53 (xDY a0 a1) [] []=st 2 I53 (xNE a0 a1 0) []:=by kernel_rfl
theorem vGH{N q0}(g0:G53 q0):∀n x0 x1 x5 r,xDZ N q0 n x0 x1 x5=some r→RS Tryz.f53 I53 2 (xNE x0 x1 x5) (xAU r):=by
 intro n
 induction n with
 |zero=>exact fun _ _ _ _ h=>nE h
 |succ n ih =>
  exact fun x0 x1 x5 r h =>
   cE h (fun h0 h=>iE h fun h1 h=>cE h (fun h2 h=>dS h fk53 (vCL x0 x1 x5) (oc3 h0 h1 h2 on)) fun h2 h =>
   cE h (fun h4 h=>dS h fk53 (vCM x0 x1 x5) (oc5 h0 h1 h2 h1 h4 on)) fun h4 h =>
   cE h (fun h6 h=>dS h fk53 (vCN x0 x1 x5) (oc7 h0 h1 h2 h1 h4 h1 h6 on)) fun h6 h =>
   bE h fun r1 h8 h=>cE h (fun h9 h=>dS h fk53 (vCO x0 x1 x5 r1) (oc10 h0 h1 h2 h1 h4 h1 h6 h1 (xDC h8) h9 on)) fun h9 h =>
   bE h fun r2 h11 h=>cE h (fun h12 h=>dS h fk53 (vCP x0 x1 x5 r1 r2) (oc12 h0 h1 h2 h1 h4 h1 h6 h1 (xDC h8) h9 h1 (g0 _ _ _ h11) (oc h12 on))) fun h12 h =>
   bE h fun r3 h14 h=>cE h (fun h15 h=>dS h fk53 (vCQ x0 x1 x5 r1 r2 r3) (oc12 h0 h1 h2 h1 h4 h1 h6 h1 (xDC h8) h9 h1 (g0 _ _ _ h11) (oc4 h12 h1 (xEj h14) h15 on))) fun h15 h =>
   bE h fun r4 h17 h=>cE h (fun h18 h=>dS h fk53 (vCR x0 x1 x5 r1 r2 r3 r4) (oc12 h0 h1 h2 h1 h4 h1 h6 h1 (xDC h8) h9 h1 (g0 _ _ _ h11) (oc7 h12 h1 (xEj h14) h15 h1 (xHQ h17) h18 on))) fun h18 h =>
   tS fk53 (vCS x0 x1 x5 r1 r2 r3 r4) (oc12 h0 h1 h2 h1 h4 h1 h6 h1 (xDC h8) h9 h1 (g0 _ _ _ h11) (oc7 h12 h1 (xEj h14) h15 h1 (xHQ h17) h18 on)) (ih _ _ _ _ h)) fun h0 h =>
   dS h fk53 (vCT x0 x1 x5) (oc h0 on)
theorem vGI{N q0}(g0:G53 q0):∀a0 a1 r,xF8 N q0 a0 a1=some r→RE Tryz.f53 I53 (xDY a0 a1) (xAU r):=fun a0 a1 r h =>
 tE fk53 (vCU a0 a1) on (vGH g0 _ _ _ _ _ h)
theorem xK4{N q0}(g0:G53 q0){a0}{a1}{r}(h:xF8 N q0 a0 a1=some r):AbC 53 (xDY a0 a1) (xAU r) :=
 AbsCalls.of_reach fk53 rfl rfl rfl (Nat.le_of_ble_eq_true rfl) (vGI g0 a0 a1 r h)
theorem xIx{N:Nat}:∀d,G53 (xEk N d)
 |0=>fun _ _ _ h=>nE h
 |d+1=>fun _ _ _ h=>xK4 (N:=N) (xIx d) h
theorem xGY{N:Nat}{a0:List Val}{a1:Int}{r:Int}(h:xIi N a0 a1=some r):AbC 53 (xDY a0 a1) (xAU r):=xIx N _ _ r h
noncomputable def I14:Info:= { body:=(Tryz.f14.body).getD .skip,nt:=24,results:= [.tmp 4],keep:= [0,2,4,8,20,32,44,5],live:= [],modes:= [] }
theorem fk14:FnOk Tryz.prog 14 Tryz.f14 I14:=⟨Tryz.func14,by kernel_rfl,by kernel_rfl,by kernel_rfl,by kernel_rfl⟩
abbrev xPW(v0:Val)(v1 v2:Int):Prop:=AbC 53 (xDY (Val.list v0) v1) (xAU v2)
def vA3(a0:Val)(a1 r1:Int):rE I14 (xDN a0 a1) [Y] [xAU r1]=dn (xAx (-1)) [xPW a0 a1 r1,xFp r1]:=by kernel_rfl
def vA4(a0:Val)(a1 r1 r2:Int):rE I14 (xDN a0 a1) [F,Y] [xAU r1,xBl r2]=dn (xAx (-1)) [xPW a0 a1 r1,xAD r1,AbC 54 (xCU (xCS a0) r1) (xBl r2),xFp r2]:=by kernel_rfl
def vA5(a0:Val)(a1 r1 r2 r3:Int):rE I14 (xDN a0 a1) [F,F,Y] [xAU r1,xBl r2,xCm r3]=dn (xAx (-1)) [xPW a0 a1 r1,xAD r1,AbC 54 (xCU (xCS a0) r1) (xBl r2),xAD r2,AbC 55 (xEL (Val.rows a0) r2) (xCm r3),xFp r3]:=by kernel_rfl
def vA6(a0:Val)(a1 r1 r2 r3:Int):rE I14 (xDN a0 a1) [F,F,F] [xAU r1,xBl r2,xCm r3]=dn (xAx r3) [xPW a0 a1 r1,xAD r1,AbC 54 (xCU (xCS a0) r1) (xBl r2),xAD r2,AbC 55 (xEL (Val.rows a0) r2) (xCm r3),xAD r3]:=by kernel_rfl
theorem vF4{N:Nat}:∀a0 a1 r,xCQ N a0 a1=some r→RE Tryz.f14 I14 (xDN a0 a1) (xAx r):=fun a0 a1 r h =>
 bE h fun r1 h0 h=>cE h (fun h1 h=>dE h fk14 (vA3 a0 a1 r1) (oc2 (xGY h0) h1 on)) fun h1 h =>
 bE h fun r2 h2 h=>cE h (fun h3 h=>dE h fk14 (vA4 a0 a1 r1 r2) (oc4 (xGY h0) h1 (xEj h2) h3 on)) fun h3 h =>
 bE h fun r3 h4 h=>cE h (fun h5 h=>dE h fk14 (vA5 a0 a1 r1 r2 r3) (oc6 (xGY h0) h1 (xEj h2) h3 (xHQ h4) h5 on)) fun h5 h =>
 dE h fk14 (vA6 a0 a1 r1 r2 r3) (oc6 (xGY h0) h1 (xEj h2) h3 (xHQ h4) h5 on)
theorem xAH{N:Nat}{a0:Val}{a1:Int}{r:Int}(h:xCQ N  a0 a1=some r):AbC 14 (xDN a0 a1) (xAx r) :=
 AbsCalls.of_reach fk14 rfl rfl rfl (Nat.le_of_ble_eq_true rfl) (vF4 a0 a1 r h)
end Go.Ab.T
end
