/- The statement FnNoEffects holds: plain functions, certificates, laws. Conditions: none. -/
import Derived.Test.YtmkdoadmcaagiaaGreatDoorL1
import Derived.Test.YtmkdoadmcaagiaaGreatDoorFnNoEffectsP0
set_option linter.all false
open Go.IntKind (i64)
section
namespace Go.Ab
open Go.Sort
abbrev qUp(d:Array Org)(a:Nat):Org->Bool:=fun x=> !olt d[a]! x
abbrev qDn(d:Array Org)(a:Nat):Org->Bool:=fun x=>olt d[a]! x
theorem UN(N:Nat)(k:Int->Int->Int->List Org->Option (Int×List Org)){a i:Nat}:∀(j n:Nat) (d:Array Org),a<i->i<=j+1->j<d.size->2<=d.size->d.size<1152921504606846976->j<n->
 FT N k n (a:Int) (i:Int) (j:Int) d.toList=
  (if i>scanDown (qDn d a) d i j then some ((i:Int),d.toList)
   else k (a:Int) ((i+1:Nat):Int) ((scanDown (qDn d a) d i j - 1:Nat):Int) (swp d i (scanDown (qDn d a) d i j)).toList)
 |0,n,d,ha,hij,hj,h2,hs,hn=>by
  obtain⟨n,rfl⟩:∃m,n=m+1:=⟨n - 1,by omega⟩
  grind [FT,scanDown]
 |j+1,n,d,ha,hij,hj,h2,hs,hn=>by
  obtain⟨n,rfl⟩:∃m,n=m+1:=⟨n - 1,by omega⟩;have wi:i64.wrap ((i:Int)+1)=((i+1:Nat):Int):=wn _ (by omega) (by omega);have wj:i64.wrap (((j+1:Nat):Int) - 1)=((j:Nat):Int):=wn _ (by omega) (by omega);rw [FT,wi,wj];by_cases h:i<=j+1
  ·have e:(decide ((i:Int)<=((j+1:Nat):Int)))=true:=Zz (by omega);have e2:(decide ((i:Int)>((j+1:Nat):Int)))=false:=Zw (by omega);rw [e,jT,CZ N rfl rfl (by omega) hj,e2,jF];dsimp only;cases hl:olt d[a]! d[j+1]! with
   |true=>
    rw [jT,UN N k j n d ha (by omega) (by omega) h2 hs (by omega),KS (p:=qDn d a) h (by grind)]
   |false=>
    rw [jF,Bg N rfl rfl (by omega) hj h2,FP (p:=qDn d a) (by grind),Za (by omega)]
    rfl
  grind [FP]
theorem xHy(N:Nat){a:Nat}:∀(m i j n:Nat) (d:Array Org),j+1 - i=m->a<i->i<=j+1->j<d.size->2<=d.size->d.size<1152921504606846976->m<n->d.size<N->
 FSq N n (a:Int) (i:Int) (j:Int) d.toList=some (((partEqLoop olt a i j d).1:Int),(partEqLoop olt a i j d).2.toList):=by
 intro m
 induction m using Nat.strongRecOn with
 |_ m ih=>
  intro i j n d hm ha hij hj h2 hs hn hN;obtain⟨n,rfl⟩:∃m,n=m+1:=⟨n - 1,by omega⟩;have wi:i64.wrap ((i:Int)+1)=((i+1:Nat):Int):=wn _ (by omega) (by omega);rw [FSq,wi]
  have stop:∀(hc:¬(i<=j/\qUp d a d[i]! =true)),FT N (fun z0 z1 z2 z3=>(FSq N n z0 z1 z2 z3)) N (a:Int) (i:Int) (j:Int) d.toList=
   some (((partEqLoop olt a i j d).1:Int),(partEqLoop olt a i j d).2.toList):=by
   intro hc;rw [UN N _ j N d ha hij hj h2 hs (by omega),partEqLoop_eq,FQ (p:=qUp d a) hc];have hb:=MT (p:=qDn d a) (d:=d) (by omega:0<i) j hij;split
   ·rfl
   ·rename_i hg;have hne:i≠scanDown (qDn d a) d i j:=by
     grind [MU]
    exact ih (scanDown (qDn d a) d i j - 1+1 - (i+1)) (by omega) (i+1) (scanDown (qDn d a) d i j - 1) n _ rfl (by omega) (by omega) (by grind [A0]) (by grind [A0]) (by grind [A0]) (by omega) (by grind [A0])
  by_cases h:i<=j
  ·have e:(decide ((i:Int)<=(j:Int)))=true:=Zz (by omega);rw [e,jT,CZ N rfl rfl (by omega) (by omega)];dsimp only;cases hl:olt d[a]! d[i]! with
   |false=>
    rw [jV,jT,ih (m - 1) (by omega) (i+1) j n d (by omega) (by omega) (by omega) hj h2 hs (by omega) hN]
    grind [partEqLoop_eq,KU]
   |true=>grind
  grind
theorem xHz(N:Nat){a b pivot:Nat}{d:Array Org}(hp1:a<=pivot)(hp2:pivot<b)(hb:b<=d.size)(hab:a+1<b)(h2:2<=d.size)(hs:d.size<1152921504606846976)(hN:d.size<N):
 M2 N (a:Int) (b:Int) (pivot:Int) d.toList=some (((partitionEqual olt d a b pivot).1:Int),(partitionEqual olt d a b pivot).2.toList):=by
 have wa:i64.wrap ((a:Int)+1)=((a+1:Nat):Int):=wn _ (by omega) (by omega);have wb:i64.wrap ((b:Int) - 1)=((b - 1:Nat):Int):=wn _ (by omega) (by omega);have hs1:(swp d a pivot).size=d.size:=A0;unfold M2 partitionEqual;rw [Bg N rfl rfl (by omega) (by omega) h2,wa,wb];exact xHy N _ (a+1) (b - 1) N _ rfl (by omega) (by omega) (by omega) (by omega) (by omega) (by omega) (by omega)
theorem xIc(N:Nat)(k:Int->Int->Int->Int->List Org->Option (Bool×List Org)){a b i:Nat}{s:Nat}(hs5:s<100):∀(m j n:Nat) (d:Array Org),b - j=m->0<j->j<1152921504606846976->b<=d.size->2<=d.size->d.size<1152921504606846976->m<n->
 I6 N k n (a:Int) (b:Int) (i:Int) (s:Int) (j:Int) d.toList=k (a:Int) (b:Int) (i:Int) ((s+1:Nat):Int) (shiftUp olt b j d).toList/\(shiftUp olt b j d).size=d.size:=by
 have ws:i64.wrap ((s:Int)+1)=((s+1:Nat):Int):=wn _ (by omega) (by omega);intro m
 induction m with
 |zero=>
  intro j n d hm hj hjb hb h2 hs hn;obtain⟨n,rfl⟩:∃m,n=m+1:=⟨n - 1,by omega⟩
  grind [I6,shiftUp]
 |succ m ih=>
  intro j n d hm hj hjb hb h2 hs hn;obtain⟨n,rfl⟩:∃m,n=m+1:=⟨n - 1,by omega⟩;have e:(decide ((j:Int)<(b:Int)))=true:=Zz (by omega);have w1:i64.wrap ((j:Int) - 1)=((j - 1:Nat):Int):=wn _ (by omega) (by omega);have w2:i64.wrap ((j:Int)+1)=((j+1:Nat):Int):=wn _ (by omega) (by omega);rw [I6,e,jT,w1,w2,ws,CZ N rfl rfl (by omega) (by omega),shiftUp,Zt (by omega)];dsimp only;cases hl:olt d[j]! d[j - 1]! with
  |false=>grind
  |true=>
   rw [jU,jF,Bg N rfl rfl (by omega) (by omega) h2];have:=ih (j+1) n (swp d j (j - 1)) (by omega) (by omega) (by omega) (by grind [A0]) (by grind [A0]) (by grind [A0]) (by omega)
   grind [A0]
def Kx(b i:Nat)(d:Array Org):Array Org:=if b - i>=2 then shiftUp olt b (i+1) d else d
theorem Ow(N:Nat)(k:Int->Int->Int->Int->List Org->Option (Bool×List Org)){a b i:Nat}{s:Nat}(hs5:s<100)(d:Array Org)(hib:i<=b)(hb:b<=d.size)(h2:2<=d.size)(hs:d.size<1152921504606846976)(hN:d.size<N):
 Gn N k (a:Int) (b:Int) (i:Int) (s:Int) d.toList=k (a:Int) (b:Int) (i:Int) ((s+1:Nat):Int) (Kx b i d).toList/\(Kx b i d).size=d.size:=by
 have ws:i64.wrap ((s:Int)+1)=((s+1:Nat):Int):=wn _ (by omega) (by omega);have w1:i64.wrap ((b:Int) - (i:Int))=((b - i:Nat):Int):=wn _ (by omega) (by omega);have w2:i64.wrap ((i:Int)+1)=((i+1:Nat):Int):=wn _ (by omega) (by omega);unfold Gn Kx;rw [ws,w1,w2];by_cases h:b - i>=2
 ·have e:(decide (((b - i:Nat):Int)>=2))=true:=Zz (by omega);rw [e,jT,Zt h];exact xIc N k hs5 _ (i+1) N d rfl (by omega) (by omega) hb h2 hs (by omega)
 grind
theorem Ud(N:Nat)(k:Int->Int->Int->Int->List Org->Option (Bool×List Org)){a b i:Nat}{s:Nat}:∀(j n:Nat) (d:Array Org),j<d.size->2<=d.size->d.size<1152921504606846976->j<n->
 I5 N k n (a:Int) (b:Int) (i:Int) (s:Int) (j:Int) d.toList=Gn N k (a:Int) (b:Int) (i:Int) (s:Int) (shiftDown olt j d).toList/\(shiftDown olt j d).size=d.size
 |0,n,d,hj,h2,hs,hn=>by
  obtain⟨n,rfl⟩:∃m,n=m+1:=⟨n - 1,by omega⟩;have e:(decide (((0:Nat):Int)>=1))=false:=Zw (by omega);rw [I5,e,jF];exact⟨rfl,rfl⟩
 |j+1,n,d,hj,h2,hs,hn=>by
  obtain⟨n,rfl⟩:∃m,n=m+1:=⟨n - 1,by omega⟩;have e:(decide (((j+1:Nat):Int)>=1))=true:=Zz (by omega);have w1:i64.wrap (((j+1:Nat):Int) - 1)=((j:Nat):Int):=wn _ (by omega) (by omega);rw [I5,e,jT,w1,CZ N rfl rfl hj (by omega),shiftDown];dsimp only;cases hl:olt d[j+1]! d[j]! with
  |false=>grind
  |true=>
   rw [jU,jF,Bg N rfl rfl hj (by omega) h2];have:=Ud N k (a:=a) (b:=b) (i:=i) (s:=s) j n (swp d (j+1) j) (by grind [A0]) (by grind [A0]) (by grind [A0]) (by omega)
   grind [A0]
theorem xH5(d:Array Org)(b:Nat):∀(m i:Nat),b - i=m->i<=b->i<=scanSorted olt d b i/\scanSorted olt d b i<=b:=by
 intro m
 induction m with
 |zero=>grind [scanSorted]
 |succ m ih=>
  intro i hm hi;rw [scanSorted]
  grind
theorem xH4(N:Nat)(k:Int->Int->Int->Int->List Org->Option (Bool×List Org)){a b:Nat}{s:Nat}:∀(m i n:Nat) (d:Array Org),b - i=m->0<i->i<=b->b<=d.size->2<=d.size->d.size<1152921504606846976->m<n->
 I7 N k n (a:Int) (b:Int) (i:Int) (s:Int) d.toList=I8 N k (a:Int) (b:Int) ((scanSorted olt d b i:Nat):Int) (s:Int) d.toList:=by
 intro m
 induction m with
 |zero=>
  intro i n d hm hi hib hb h2 hs hn;obtain⟨n,rfl⟩:∃m,n=m+1:=⟨n - 1,by omega⟩
  grind [I7,scanSorted]
 |succ m ih=>
  intro i n d hm hi hib hb h2 hs hn;obtain⟨n,rfl⟩:∃m,n=m+1:=⟨n - 1,by omega⟩;have e:(decide ((i:Int)<(b:Int)))=true:=Zz (by omega);have w1:i64.wrap ((i:Int) - 1)=((i - 1:Nat):Int):=wn _ (by omega) (by omega);have w2:i64.wrap ((i:Int)+1)=((i+1:Nat):Int):=wn _ (by omega) (by omega);rw [I7,e,jT,w1,w2,CZ N rfl rfl (by omega) (by omega),scanSorted];dsimp only;cases hl:olt d[i]! d[i - 1]! with
  |false=>
   rw [jV,jT,Zt (by grind)];exact ih (i+1) n d (by omega) (by omega) (by omega) hb h2 hs (by omega)
  |true=>grind
theorem xHE(N:Nat)(k:Int->Int->Int->Int->List Org->Option (Bool×List Org)){a b i:Nat}{s:Nat}(hs5:s<100)(d:Array Org)(hai:a<i)(hib:i<=b)(hb:b<=d.size)(h2:2<=d.size)(hs:d.size<1152921504606846976)(hN:d.size<N):
 I8 N k (a:Int) (b:Int) (i:Int) (s:Int) d.toList=
  (if i=b then some (true,d.toList) else if b - a<50 then some (false,d.toList) else
    k (a:Int) (b:Int) (i:Int) ((s+1:Nat):Int) (Kx b i (if i - a>=2 then shiftDown olt (i - 1) (swp d i (i - 1)) else swp d i (i - 1))).toList)/\
 (i≠b->(Kx b i (if i - a>=2 then shiftDown olt (i - 1) (swp d i (i - 1)) else swp d i (i - 1))).size=d.size):=by
 have w1:i64.wrap ((b:Int) - (a:Int))=((b - a:Nat):Int):=wn _ (by omega) (by omega);have w2:i64.wrap ((i:Int) - 1)=((i - 1:Nat):Int):=wn _ (by omega) (by omega);have w3:i64.wrap ((i:Int) - (a:Int))=((i - a:Nat):Int):=wn _ (by omega) (by omega);unfold I8;rw [w1,w2,w3];by_cases h:i=b
 ·grind
 ·have e:(((i:Int))==(b:Int))=false:=by grind
  rw [e,jF,Za h];have hlt:i<b:=by omega
  have d1:=Ud N k (a:=a) (b:=b) (i:=i) (s:=s) (i - 1) N (swp d i (i - 1)) (by grind [A0]) (by grind [A0]) (by grind [A0]) (by omega);rw [A0] at d1;by_cases h50:b - a<50
  ·have e2:(decide (((b - a:Nat):Int)<50))=true:=Zz (by omega);rw [e2,jT,Zt h50];refine⟨rfl,fun _=> ?_⟩;by_cases h3:i - a>=2
   ·grind [Ow]
   ·rw [Za h3];rw [(Ow N k (a:=a) (i:=i) hs5 (swp d i (i - 1)) hib (by grind [A0]) (by grind [A0]) (by grind [A0]) (by grind [A0])).2,A0]
  ·have e2:(decide (((b - a:Nat):Int)<50))=false:=Zw (by omega);rw [e2,jF,Za h50,Bg N rfl rfl (by omega) (by omega) h2]
   grind [Ow,A0]
theorem UT(N:Nat){a b:Nat}:∀(q s i n:Nat) (d:Array Org),s+q=5->a<i->i<=b->b<=d.size->2<=d.size->d.size<1152921504606846976->q<n->d.size<N->
 Gp N n (a:Int) (b:Int) (i:Int) (s:Int) d.toList=some ((partialIns olt a b q i d).2,(partialIns olt a b q i d).1.toList)
 |0,s,i,n,d,hq,hai,hib,hb,h2,hs,hn,hN=>by
  obtain⟨n,rfl⟩:∃m,n=m+1:=⟨n - 1,by omega⟩;have e:(decide ((s:Int)<5))=false:=Zw (by omega);rw [Gp,e,jF]
  rfl
 |q+1,s,i,n,d,hq,hai,hib,hb,h2,hs,hn,hN=>by
  obtain⟨n,rfl⟩:∃m,n=m+1:=⟨n - 1,by omega⟩;have e:(decide ((s:Int)<5))=true:=Zz (by omega);have hsc:=xH5 d b _ i rfl hib;rw [Gp,e,jT,xH4 N _ _ i N d rfl (by omega) hib hb h2 hs (by omega),partialIns];generalize scanSorted olt d b i=i2 at hsc;obtain⟨p1,p2⟩:=xHE N (fun z0 z1 z2 z3 z4=>(Gp N n z0 z1 z2 z3 z4)) (a:=a) (b:=b) (i:=i2) (s:=s) (by omega) d (by omega) (by omega) hb h2 hs hN;rw [p1];dsimp only;by_cases h:i2=b
  ·grind
  ·rw [Za h,Za h];by_cases h50:b - a<50
   ·grind
   ·rw [Za h50,Za h50];have hsz:=p2 h;exact UT N q (s+1) i2 n _ (by omega) (by omega) (by omega) (by grind) (by grind) (by grind) (by omega) (by grind)
theorem xHF(N:Nat){a b:Nat}{d:Array Org}(hab:a<b)(hb:b<=d.size)(h2:2<=d.size)(hs:d.size<1152921504606846976)(hN:d.size+10<N):
 M1 N (a:Int) (b:Int) d.toList=some ((partialInsertionSort olt d a b).2,(partialInsertionSort olt d a b).1.toList):=by
 have wa:i64.wrap ((a:Int)+1)=((a+1:Nat):Int):=wn _ (by omega) (by omega);unfold M1 partialInsertionSort;rw [wa];exact UT N 5 0 (a+1) N d rfl (by omega) (by omega) hb h2 hs (by omega) (by omega)
theorem Oj(N:Nat){x y:Int}{i j:Nat}(s:Int){d:Array Org}(hx:x=i)(hy:y=j)(hi:i<d.size)(hj:j<d.size):
 ∃(i' j' :Nat) (s' :Int),I4 N x y s d.toList=some ((i' :Int),(j' :Int),s',d.toList)/\((i' =i/\j' =j)\/(i' =j/\j' =i)):=by
 subst hx hy;unfold I4;rw [CZ N rfl rfl hj hi];dsimp only;cases olt d[j]! d[i]! with
 |true=>grind
 |false=>grind
theorem O5(N:Nat){x y z:Int}{i j k:Nat}(s:Int){d:Array Org}(hx:x=i)(hy:y=j)(hz:z=k)(hi:i<d.size)(hj:j<d.size)(hk:k<d.size):
 ∃(m:Nat) (s' :Int),I3 N x y z s d.toList=some ((m:Int),s',d.toList)/\(m=i\/m=j\/m=k):=by
 unfold I3;obtain⟨i1,j1,s1,e1,h1⟩:=Oj N s hx hy hi hj;rw [e1];obtain⟨i2,j2,s2,e2,h2⟩:=Oj N s1 (x:=(j1:Int)) (y:=z) rfl hz (by omega) hk;simp only [jS];rw [e2];obtain⟨i3,j3,s3,e3,h3⟩:=Oj N s2 (x:=(i1:Int)) (y:=(i2:Int)) (d:=d) rfl rfl (by omega) (by omega)
 grind
theorem O4(N:Nat){x:Int}{i:Nat}(s:Int){d:Array Org}(hx:x=i)(h0:0<i)(hi:i+1<d.size)(hs:d.size<1152921504606846976):
 ∃(m:Nat) (s' :Int),I2 N x s d.toList=some ((m:Int),s',d.toList)/\(m=i - 1\/m=i\/m=i+1):=by
 subst hx;unfold I2;have w1:i64.wrap ((i:Int) - 1)=((i - 1:Nat):Int):=wn _ (by omega) (by omega);have w2:i64.wrap ((i:Int)+1)=((i+1:Nat):Int):=wn _ (by omega) (by omega);rw [w1,w2];obtain⟨m,s1,e1,h1⟩:=O5 N s (x:=((i - 1:Nat):Int)) (y:=(i:Int)) (z:=((i+1:Nat):Int)) (d:=d) rfl rfl rfl (by omega) (by omega) hi
 grind
theorem xDy(N:Nat){a b:Nat}{d:Array Org}(hab:a+12<b)(hb:b<=d.size)(hs:d.size<1152921504606846976):
 ∃(p:Nat) (h:Int),MX N (a:Int) (b:Int) d.toList=some ((p:Int),h,d.toList)/\(a<=p/\p<b):=by
 have w1:i64.wrap ((b:Int) - (a:Int))=((b - a:Nat):Int):=wn _ (by omega) (by omega);have t:Int.tdiv ((b - a:Nat):Int) 4=(((b - a) / 4:Nat):Int):=rfl;have w2:i64.wrap (Int.tdiv ((b - a:Nat):Int) 4)=(((b - a) / 4:Nat):Int):=by rw [t];exact wn _ rfl (by omega)
 have q:∀c:Nat,c<=3->i64.wrap ((a:Int)+i64.wrap ((((b - a) / 4:Nat):Int)*(c:Int)))=((a+(b - a) / 4*c:Nat):Int):=by
  intro c hc;have hle:(b - a) / 4*c<=(b - a) / 4*3:=Nat.mul_le_mul_left _ hc;have e:i64.wrap ((((b - a) / 4:Nat):Int)*(c:Int))=(((b - a) / 4*c:Nat):Int):=wn _ (by simp) (by omega);rw [e];exact wn _ (by simp) (by omega)
 have q1:=q 1 (by omega);have q2:=q 2 (by omega);have q3:=q 3 (by omega);have q1:i64.wrap ((a:Int)+i64.wrap ((((b - a) / 4:Nat):Int)*1))=_:=q1;have q2:i64.wrap ((a:Int)+i64.wrap ((((b - a) / 4:Nat):Int)*2))=_:=q2;have q3:i64.wrap ((a:Int)+i64.wrap ((((b - a) / 4:Nat):Int)*3))=_:=q3;unfold MX;rw [w1,w2,q1,q2,q3];have e8:(decide (((b - a:Nat):Int)>=8))=true:=Zz (by omega);rw [e8,jT];have k1:3<=(b - a) / 4:=by omega
 have k2:(b - a) / 4*4<=b - a:=by omega
 clear q q1 q2 q3 w2 t;generalize (b - a) / 4=q at k1 k2;by_cases h50:b - a>=50
 ·have e50:(decide (((b - a:Nat):Int)>=50))=true:=Zz (by omega);rw [e50,jT];obtain⟨m1,s1,e1,h1⟩:=O4 N 0 (x:=((a+q*1:Nat):Int)) (d:=d) rfl (by omega) (by omega) hs;rw [e1];simp only [jS];obtain⟨m2,s2,e2,h2⟩:=O4 N s1 (x:=((a+q*2:Nat):Int)) (d:=d) rfl (by omega) (by omega) hs;rw [e2];simp only [jS];obtain⟨m3,s3,e3,h3⟩:=O4 N s2 (x:=((a+q*3:Nat):Int)) (d:=d) rfl (by omega) (by omega) hs;rw [e3];simp only [jS];obtain⟨m4,s4,e4,h4⟩:=O5 N s3 (x:=(m1:Int)) (y:=(m2:Int)) (z:=(m3:Int)) (d:=d) rfl rfl rfl (by omega) (by omega) (by omega)
  grind
 ·have e50:(decide (((b - a:Nat):Int)>=50))=false:=Zw (by omega);rw [e50,jF];obtain⟨m4,s4,e4,h4⟩:=O5 N 0 (x:=((a+q*1:Nat):Int)) (y:=((a+q*2:Nat):Int)) (z:=((a+q*3:Nat):Int)) (d:=d) rfl rfl rfl (by omega) (by omega) (by omega)
  grind
theorem LA{x:Int}(h1:0<=x)(h2:x<18446744073709551616):IntKind.u64.wrap x=x:=by
 grind [IntKind.wrap,IntKind.bits,IntKind.signed]
theorem xBv{r y:Int}{m:Nat}(hy:y=m)(hm:m<9223372036854775808):∃o:Nat,sI .u64 r y=(o:Int)/\o<=m:=by
 subst hy;unfold sI;refine⟨(BitVec.ofInt 64 r &&& BitVec.ofInt 64 (m:Int)).toNat,?_,?_⟩
 ·show IntKind.u64.wrap (((BitVec.ofInt 64 r &&& BitVec.ofInt 64 (m:Int)).toNat:Nat):Int)=_;refine LA (by omega) ?_;have:=(BitVec.ofInt 64 r &&& BitVec.ofInt 64 (m:Int)).isLt;omega
 grind [Nat.and_le_right]
theorem xBA(N:Nat){a b M:Nat}(hl:12<b - a)(hM:M<=2*(b - a))(hM0:0<M):∀(m idx n:Nat) (st:Int) (d:Array Org),a+(b - a) / 4*2+2 - idx=m->a<=idx->b<=d.size->d.size<1152921504606846976->m<n->
 ∃d',Gm N n (a:Int) ((b - a:Nat):Int) (M:Int) (idx:Int) st d.toList=some d'.toList/\PermIn a b d d' :=by
 intro m
 induction m with
 |zero=>
  intro idx n st d hm hidx hb hs hn;obtain⟨n,rfl⟩:∃m,n=m+1:=⟨n - 1,by omega⟩;have t:Int.tdiv ((b - a:Nat):Int) 4=(((b - a) / 4:Nat):Int):=rfl;have w2:i64.wrap (Int.tdiv ((b - a:Nat):Int) 4)=(((b - a) / 4:Nat):Int):=by grind [wn]
  have w3:i64.wrap ((((b - a) / 4:Nat):Int)*2)=(((b - a) / 4*2:Nat):Int):=wn _ (by simp) (by omega);have w4:i64.wrap ((a:Int)+(((b - a) / 4*2:Nat):Int))=((a+(b - a) / 4*2:Nat):Int):=wn _ (by simp) (by omega);have w5:i64.wrap (((a+(b - a) / 4*2:Nat):Int)+1)=((a+(b - a) / 4*2+1:Nat):Int):=wn _ (by simp) (by omega);rw [Gm,w2,w3,w4,w5];have e:(decide ((idx:Int)<=((a+(b - a) / 4*2+1:Nat):Int)))=false:=Zw (by omega);rw [e,jF];exact⟨d,rfl,permIn_refl d a b⟩
 |succ m ih=>
  intro idx n st d hm hidx hb hs hn;obtain⟨n,rfl⟩:∃m,n=m+1:=⟨n - 1,by omega⟩;have t:Int.tdiv ((b - a:Nat):Int) 4=(((b - a) / 4:Nat):Int):=rfl;have w2:i64.wrap (Int.tdiv ((b - a:Nat):Int) 4)=(((b - a) / 4:Nat):Int):=by grind [wn]
  have w3:i64.wrap ((((b - a) / 4:Nat):Int)*2)=(((b - a) / 4*2:Nat):Int):=wn _ (by simp) (by omega);have w4:i64.wrap ((a:Int)+(((b - a) / 4*2:Nat):Int))=((a+(b - a) / 4*2:Nat):Int):=wn _ (by simp) (by omega);have w5:i64.wrap (((a+(b - a) / 4*2:Nat):Int)+1)=((a+(b - a) / 4*2+1:Nat):Int):=wn _ (by simp) (by omega);have w6:IntKind.u64.wrap ((M:Int) - 1)=((M - 1:Nat):Int):=by grind [LA]
  have w7:i64.wrap ((idx:Int)+1)=((idx+1:Nat):Int):=wn _ (by omega) (by omega);rw [Gm,w2,w3,w4,w5,w6,w7];have e:(decide ((idx:Int)<=((a+(b - a) / 4*2+1:Nat):Int)))=true:=Zz (by omega);rw [e,jT];cases hx:M6 N st with
  |none=>grind [M6]
  |some r=>
   rw [jS];obtain⟨o,ho1,ho2⟩:=xBv (r:=r.1) (y:=((M - 1:Nat):Int)) (m:=M - 1) rfl (by omega);have w8:i64.wrap (sI .u64 r.1 ((M - 1:Nat):Int))=(o:Int):=by grind [wn]
   rw [w8];by_cases hc:o>=b - a
   ·have e2:(decide ((o:Int)>=((b - a:Nat):Int)))=true:=Zz (by omega);have w9:i64.wrap ((o:Int) - ((b - a:Nat):Int))=((o - (b - a):Nat):Int):=wn _ (by omega) (by omega);have w10:i64.wrap ((a:Int)+((o - (b - a):Nat):Int))=((a+(o - (b - a)):Nat):Int):=wn _ (by omega) (by omega);rw [e2,jT,w9,w10,Bg N rfl rfl (by omega) (by omega) (by omega)];obtain⟨d',h1,h2⟩:=ih (idx+1) n r.2 (swp d idx (a+(o - (b - a)))) (by omega) (by omega) (by grind [A0]) (by grind [A0]) (by omega);exact⟨d',h1,permIn_trans _ _ _ a b (swp_permIn d a b idx (a+(o - (b - a))) hidx (by omega) (by omega) (by omega) hb) h2⟩
   ·have e2:(decide ((o:Int)>=((b - a:Nat):Int)))=false:=Zw (by omega);have w10:i64.wrap ((a:Int)+(o:Int))=((a+o:Nat):Int):=wn _ (by omega) (by omega);rw [e2,jF,w10,Bg N rfl rfl (by omega) (by omega) (by omega)];obtain⟨d',h1,h2⟩:=ih (idx+1) n r.2 (swp d idx (a+o)) (by omega) (by omega) (by grind [A0]) (by grind [A0]) (by omega);exact⟨d',h1,permIn_trans _ _ _ a b (swp_permIn d a b idx (a+o) hidx (by omega) (by omega) (by omega) hb) h2⟩
theorem xBy{x:Nat}(h0:0<x)(h:x<1152921504606846976):0<Lib.bitLen x/\Lib.bitLen x<=60/\2 ^ Lib.bitLen x<=2*x:=by
 obtain⟨h1,h2,h3⟩:=Lib.bitLenAux_bounds 64 x (by omega) (by omega);have h1:1<=Lib.bitLen x:=h1;have h2:2 ^ (Lib.bitLen x - 1)<=x:=h2;refine⟨by omega,Lib.bitLen_le x 60 (by omega) (by omega),?_⟩;obtain⟨k,hk⟩:∃k,Lib.bitLen x=k+1:=⟨Lib.bitLen x - 1,by omega⟩
 grind
theorem xG9(N:Nat){l:Nat}(h0:0<l)(h:l<1152921504606846976):∃M:Nat,M0 N (l:Int)=some (M:Int)/\0<M/\M<=2*l:=by
 obtain⟨f1,f2,f3⟩:=xBy h0 h;have w1:IntKind.u64.wrap (l:Int)=(l:Int):=LA (by omega) (by omega);have w2:IntKind.u64.wrap ((Lib.bitLen l:Nat):Int)=((Lib.bitLen l:Nat):Int):=LA (by omega) (by omega);have hp:(2:Nat) ^ Lib.bitLen l<18446744073709551616:=by omega
 grind [M0,O3,nU,jI,LA]
theorem xBB(N:Nat){a b:Nat}{d:Array Org}(hab:a+12<b)(hb:b<=d.size)(hs:d.size<1152921504606846976)(hN:5<N):
 ∃d',MW N (a:Int) (b:Int) d.toList=some d'.toList/\PermIn a b d d' :=by
 have w1:i64.wrap ((b:Int) - (a:Int))=((b - a:Nat):Int):=wn _ (by omega) (by omega);have t:Int.tdiv ((b - a:Nat):Int) 4=(((b - a) / 4:Nat):Int):=rfl;have w2:i64.wrap (Int.tdiv ((b - a:Nat):Int) 4)=(((b - a) / 4:Nat):Int):=by rw [t];exact wn _ rfl (by omega)
 have w3:i64.wrap ((((b - a) / 4:Nat):Int)*2)=(((b - a) / 4*2:Nat):Int):=wn _ (by simp) (by omega);have w4:i64.wrap ((a:Int)+(((b - a) / 4*2:Nat):Int))=((a+(b - a) / 4*2:Nat):Int):=wn _ (by simp) (by omega);have w5:i64.wrap (((a+(b - a) / 4*2:Nat):Int) - 1)=((a+(b - a) / 4*2 - 1:Nat):Int):=wn _ (by omega) (by omega);unfold MW;rw [w1,w2,w3,w4,w5];have e8:(decide (((b - a:Nat):Int)>=8))=true:=Zz (by omega);obtain⟨M,m1,m2,m3⟩:=xG9 N (l:=b - a) (by omega) (by omega);rw [e8,jT,m1,jS];exact xBA N (by omega) m3 m2 _ _ N _ d rfl (by omega) hb hs (by omega)
def Sorts(a b:Nat)(d:Array Org)(o:Option (List Org)):Prop:=∃d',o=some d'.toList/\PermIn a b d d' /\SortedIn olt a b d'
theorem Sorts.after{a b:Nat}{d d1:Array Org}{o:Option (List Org)}(h:PermIn a b d d1)(hs:Sorts a b d1 o):Sorts a b d o:=
 hs.elim fun d' ⟨h1,h2,h3⟩=>⟨d',h1,permIn_trans _ _ _ a b h h2,h3⟩
theorem UR(N:Nat){q:Int->Int->Int->List Org->Option (List Org)}{k:Int->Int->Int->Bool->Bool->List Org->Option (List Org)}{a b p:Nat}(lim x10:Int){d:Array Org}
 (hp1:a<=p) (hp2:p<b) (hb:b<=d.size) (hab:a+12<b) (hs:d.size<1152921504606846976) (hN:d.size<N) (hB:Below olt a b d)
 (hq:∀(a' b' :Nat) (d' :Array Org),b' - a' <b - a->a' <=b' ->b' <=d'.size->d'.size=d.size->Below olt a' b' d' ->Sorts a' b' d' (q (a' :Int) (b' :Int) lim d'.toList))
 (hk:∀(a' b' :Nat) (wb wp:Bool) (d' :Array Org),b' - a' <b - a->a' <=b' ->b' <=d'.size->d'.size=d.size->Below olt a' b' d' ->Sorts a' b' d' (k (a' :Int) (b' :Int) lim wb wp d'.toList)):
 Sorts a b d (KY N q k (a:Int) (b:Int) lim x10 (p:Int) d.toList):=by
 unfold KY;rw [xHx N hp1 hp2 hb (by omega) (by omega) hs hN,jS];obtain⟨mid,ap,d4,hx⟩:∃mid ap d4,partition olt d a b p=(mid,ap,d4):=⟨_,_,_,rfl⟩;rw [hx];obtain⟨g1,g2,hs4,hBa,hBr,hleft,hright⟩:=round_part ER (partition_holds olt) hp1 hp2 hb hB hx;dsimp only;have w1:i64.wrap ((mid:Int) - (a:Int))=((mid - a:Nat):Int):=wn _ (by omega) (by omega);have w2:i64.wrap ((b:Int) - (mid:Int))=((b - mid:Nat):Int):=wn _ (by omega) (by omega);have w3:i64.wrap ((mid:Int)+1)=((mid+1:Nat):Int):=wn _ (by omega) (by omega);rw [w1,w2,w3];cases decide (((mid - a:Nat):Int)<((b - mid:Nat):Int)) with
 |true=>
  rw [jT];obtain⟨L,l1,l2,l3⟩:=hq a mid d4 (by omega) g1 (by omega) hs4 hBa;rw [l1,jS];obtain⟨hBL,hfin⟩:=hleft L l2 l3;obtain⟨R,r1,r2,r3⟩:=hk (mid+1) b (decide (((mid - a:Nat):Int)>=i64.wrap (Int.tdiv x10 8))) ap L (by omega) (by omega) (by rw [l2.1];omega) (by rw [l2.1];grind) hBL;exact⟨R,r1,hfin R r2 r3⟩
 |false=>
  rw [jF];obtain⟨L,l1,l2,l3⟩:=hq (mid+1) b d4 (by omega) (by omega) (by omega) hs4 hBr;rw [l1,jS];obtain⟨hBL,hfin⟩:=hright L l2 l3;obtain⟨R,r1,r2,r3⟩:=hk a mid (decide (((b - mid:Nat):Int)>=i64.wrap (Int.tdiv x10 8))) ap L (by omega) g1 (by rw [l2.1];omega) (by rw [l2.1];grind) hBL;exact⟨R,r1,hfin R r2 r3⟩
theorem UQ(N:Nat){q:Int->Int->Int->List Org->Option (List Org)}{k:Int->Int->Int->Bool->Bool->List Org->Option (List Org)}{a b p:Nat}(lim x10:Int)(wb wp:Bool){d:Array Org}
 (hp1:a<=p) (hp2:p<b) (hb:b<=d.size) (hab:a+12<b) (hs:d.size<1152921504606846976) (hN:d.size<N) (hB:Below olt a b d)
 (hq:∀(a' b' :Nat) (d' :Array Org),b' - a' <b - a->a' <=b' ->b' <=d'.size->d'.size=d.size->Below olt a' b' d' ->Sorts a' b' d' (q (a' :Int) (b' :Int) lim d'.toList))
 (hk:∀(a' b' :Nat) (wb wp:Bool) (d' :Array Org),b' - a' <b - a->a' <=b' ->b' <=d'.size->d'.size=d.size->Below olt a' b' d' ->Sorts a' b' d' (k (a' :Int) (b' :Int) lim wb wp d'.toList)):
 Sorts a b d (Gq N q k (a:Int) (b:Int) lim wb wp x10 (p:Int) d.toList):=by
 unfold Gq;by_cases ha:0<a
 ·have e:(decide ((a:Int)>0))=true:=Zz (by omega);have w1:i64.wrap ((a:Int) - 1)=((a - 1:Nat):Int):=wn _ (by omega) (by omega);rw [e,jT,w1,CZ N rfl rfl (by omega) (by omega)];dsimp only;cases hl:olt d[a - 1]! d[p]! with
  |true=>rw [jU,jF];exact UR N lim x10 hp1 hp2 hb hab hs hN hB hq hk
  |false=>
   rw [jV,jT,xHz N hp1 hp2 hb (by omega) (by omega) hs hN,jS];obtain⟨mid,d4,hx⟩:∃mid d4,partitionEqual olt d a b p=(mid,d4):=⟨_,_,rfl⟩;rw [hx];obtain⟨g1,g2,hs4,hB4,hfin⟩:=round_eq ER (partitionEqual_holds olt) ha hp1 hp2 hb hB hl hx;obtain⟨R,r1,r2,r3⟩:=hk mid b wb wp d4 (by omega) g2 (by omega) hs4 hB4;exact⟨R,r1,hfin R r2 r3⟩
 ·have e:(decide ((a:Int)>0))=false:=Zw (by omega);rw [e,jF];exact UR N lim x10 hp1 hp2 hb hab hs hN hB hq hk
theorem UP(N:Nat){q:Int->Int->Int->List Org->Option (List Org)}{k:Int->Int->Int->Bool->Bool->List Org->Option (List Org)}{a b p:Nat}(lim x10 x12:Int)(wb wp:Bool){d:Array Org}
 (hp1:a<=p) (hp2:p<b) (hb:b<=d.size) (hab:a+12<b) (hs:d.size<1152921504606846976) (hN:d.size+10<N) (hB:Below olt a b d)
 (hq:∀(a' b' :Nat) (d' :Array Org),b' - a' <b - a->a' <=b' ->b' <=d'.size->d'.size=d.size->Below olt a' b' d' ->Sorts a' b' d' (q (a' :Int) (b' :Int) lim d'.toList))
 (hk:∀(a' b' :Nat) (wb wp:Bool) (d' :Array Org),b' - a' <b - a->a' <=b' ->b' <=d'.size->d'.size=d.size->Below olt a' b' d' ->Sorts a' b' d' (k (a' :Int) (b' :Int) lim wb wp d'.toList)):
 Sorts a b d (KX N q k (a:Int) (b:Int) lim wb wp x10 (p:Int) x12 d.toList):=by
 have go:=UQ N lim x10 wb wp hp1 hp2 hb hab hs (by omega) hB hq hk;unfold KX;cases wb with
 |false=>grind
 |true=>
  cases wp with
  |false=>grind
  |true=>
   simp only [jT];cases (x12:Int)==1 with
   |false=>grind
   |true=>
    rw [jT,xHF N (by omega) hb (by omega) hs hN,jS];obtain⟨i1,i2⟩:=partialInsertionSort_holds ER d a b (by omega) hb hB;dsimp only;cases hc:(partialInsertionSort olt d a b).2 with
    |true=>exact⟨_,rfl,i1,i2 hc⟩
    |false=>
     rw [jF];refine Sorts.after i1 ?_;exact UQ N lim x10 true true hp1 hp2 (by rw [i1.1];grind) hab (by rw [i1.1];grind) (by rw [i1.1];omega) (hB.perm hb i1) (fun a' b' d' g1 g2 g3 g4=>hq a' b' d' g1 g2 g3 (g4.trans i1.1)) (fun a' b' wb wp d' g1 g2 g3 g4=>hk a' b' wb wp d' g1 g2 g3 (g4.trans i1.1))
theorem UO(N:Nat){q:Int->Int->Int->List Org->Option (List Org)}{k:Int->Int->Int->Bool->Bool->List Org->Option (List Org)}{a b:Nat}(lim x10:Int)(wb wp:Bool){d:Array Org}
 (hb:b<=d.size) (hab:a+12<b) (hs:d.size<1152921504606846976) (hN:d.size+10<N) (hB:Below olt a b d)
 (hq:∀(a' b' :Nat) (d' :Array Org),b' - a' <b - a->a' <=b' ->b' <=d'.size->d'.size=d.size->Below olt a' b' d' ->Sorts a' b' d' (q (a' :Int) (b' :Int) lim d'.toList))
 (hk:∀(a' b' :Nat) (wb wp:Bool) (d' :Array Org),b' - a' <b - a->a' <=b' ->b' <=d'.size->d'.size=d.size->Below olt a' b' d' ->Sorts a' b' d' (k (a' :Int) (b' :Int) lim wb wp d'.toList)):
 Sorts a b d (KW N q k (a:Int) (b:Int) lim wb wp x10 d.toList):=by
 unfold KW;obtain⟨p,h,e,hp1,hp2⟩:=xDy N hab hb hs;rw [e,jS];dsimp only;cases h==(2:Int) with
 |false=>rw [jF];exact UP N lim x10 h wb wp hp1 hp2 hb hab hs hN hB hq hk
 |true=>
  have i1:=reverseRange_holds d a b (by omega) hb;have w1:i64.wrap ((b:Int) - 1)=((b - 1:Nat):Int):=wn _ (by omega) (by omega);have w2:i64.wrap ((p:Int) - (a:Int))=((p - a:Nat):Int):=wn _ (by omega) (by omega);have w3:i64.wrap (((b - 1:Nat):Int) - ((p - a:Nat):Int))=((b - 1 - (p - a):Nat):Int):=wn _ (by omega) (by omega);rw [jT,xHQ N (by omega) hb (by omega) hs (by omega),jS,w1,w2,w3];refine Sorts.after i1 ?_;exact UP N lim x10 1 wb wp (by omega) (by omega) (by rw [i1.1];grind) hab (by rw [i1.1];grind) (by rw [i1.1];omega) (hB.perm hb i1) (fun a' b' d' g1 g2 g3 g4=>hq a' b' d' g1 g2 g3 (g4.trans i1.1)) (fun a' b' wb wp d' g1 g2 g3 g4=>hk a' b' wb wp d' g1 g2 g3 (g4.trans i1.1))
theorem xHA(N:Nat):∀(m a b n dep:Nat) (lim:Int) (wb wp:Bool) (d:Array Org),b - a=m->a<=b->b<=d.size->2<=d.size->d.size<1152921504606846976->m<n->m<=dep->d.size+10<N->Below olt a b d->
 Sorts a b d (Gr N (Gs N dep) n (a:Int) (b:Int) lim wb wp d.toList):=by
 intro m
 induction m using Nat.strongRecOn with
 |_ m ih=>
  intro a b n dep lim wb wp d hm hab hb h2 hs hn hdep hN hB;obtain⟨n,rfl⟩:∃m,n=m+1:=⟨n - 1,by omega⟩;have w1:i64.wrap ((b:Int) - (a:Int))=((b - a:Nat):Int):=wn _ (by omega) (by omega);rw [Gr,w1];by_cases h12:b - a<=12
  ·have e:(decide (((b - a:Nat):Int)<=12))=true:=Zz (by omega);rw [e,jT,xGi N hab hb h2 hs (by omega),jS];exact⟨_,rfl,insertionSort_holds ER d a b hab hb⟩
  ·have e:(decide (((b - a:Nat):Int)<=12))=false:=Zw (by omega);rw [e,jF];cases (lim==(0:Int)) with
   |true=>
    rw [jT,xEC N (by omega) hb h2 hs (by omega),jS];exact⟨_,rfl,heapSort_holds ER d a b hab hb⟩
   |false=>
    rw [jF];have hq:∀(lim:Int) (a' b' :Nat) (d' :Array Org),b' - a' <b - a->a' <=b' ->b' <=d'.size->d'.size=d.size->Below olt a' b' d' ->Sorts a' b' d' (Gs N dep (a' :Int) (b' :Int) lim d'.toList):=by
     intro lim a' b' d' g1 g2 g3 g4 g5;obtain⟨dep,rfl⟩:∃m,dep=m+1:=⟨dep - 1,by omega⟩;rw [Gs];exact ih (b' - a') (by omega) a' b' N dep lim true true d' rfl g2 g3 (by omega) (by omega) (by omega) (by omega) (by omega) g5
    have hk:∀(lim:Int) (a' b' :Nat) (wb wp:Bool) (d' :Array Org),b' - a' <b - a->a' <=b' ->b' <=d'.size->d'.size=d.size->Below olt a' b' d' ->Sorts a' b' d' (Gr N (Gs N dep) n (a' :Int) (b' :Int) lim wb wp d'.toList):=
     fun lim a' b' wb wp d' g1 g2 g3 g4 g5=>ih (b' - a') (by omega) a' b' n dep lim wb wp d' rfl g2 g3 (by omega) (by omega) (by omega) (by omega) (by omega) g5
    cases wb with
    |true=>grind [UO]
    |false=>
     obtain⟨d1,e1,i1⟩:=xBB N (a:=a) (b:=b) (d:=d) (by omega) hb hs (by omega);rw [jV,jT,e1,jS];refine Sorts.after i1 ?_
     exact UO N _ _ false wp (by rw [i1.1];grind) (by omega) (by rw [i1.1];grind) (by rw [i1.1];grind) (hB.perm hb i1)
      (fun a' b' d' g1 g2 g3 g4=>hq _ a' b' d' g1 g2 g3 (g4.trans i1.1)) (fun a' b' wb wp d' g1 g2 g3 g4=>hk _ a' b' wb wp d' g1 g2 g3 (g4.trans i1.1))
theorem xHB{xs:List Org}(h2:2<=xs.length)(hs:xs.length<1152921504606846976)(lim:Int):
 PB (xs.length+11) 0 (xs.length:Int) lim xs=some (xs.mergeSort fun x y=> !olt y x):=by
 have h:=xHA (xs.length+11) xs.length 0 xs.length (xs.length+11) (xs.length+10) lim true true xs.toArray rfl (Zg _) (by simp) (by grind) (by grind) (by omega) (by omega) (by simp) (.inl rfl);obtain⟨d',e,h1,h3⟩:=h;have hu:=sorted_unique_holds (lt:=olt) ER Oe xs.toArray d' (by grind) (by grind);rw [show PB (xs.length+11) 0 (xs.length:Int) lim xs=_ from e,hu]
end Go.Ab
end
section
namespace Go.Ab
open Go.Proofs Go.RowKit Go.Shelf
theorem IN:OrgT Tryz.prog 179 3 229 4 148:=⟨Tryz.underlying179,by kernel_rfl,Tryz.underlying3,Tryz.underlying229,Tryz.zeroValue4,Tryz.underlying148⟩
theorem xGe:(Tryz.prog.info? 179).map (fun i=>(i.zero,i.size,i.bytes))=some (some (.agg #[.int .i64 0,.int .i64 0]),2,16):=by kernel_rfl
set_option maxRecDepth 100000 in
set_option maxHeartbeats 4000000 in
theorem xKZ [Inhabited Lb](srt:List Org->List Org)(hsl:∀l,(srt l).length=l.length)(xs ys:List Org)(u v:Value)(w:World)(hu:RowIn w u xs)(hv:RowIn w v ys)(hlen:xs.length+ys.length<=1000000000000)
 (hsort:∀(W:World) (g cap:Nat) (zs:List Org),zs.length<=1000000000000->Below w.heap.size w W->w.heap.size<=g->w.heap.size+1+1≠g->W.heap[w.heap.size+1+1]? =some (.cells #[.slice (some ⟨g,0,none⟩) zs.length cap] 148 (0,0))->OrgRow W g cap zs->
   Calls Tryz.prog 269 #[.iface 148 (.slice (some ⟨g,0,none⟩) zs.length cap),.func (.func 270) #[] #[.pointer (some ⟨w.heap.size+1+1,0,none⟩)]] W fun en W' =>en= .returned (.tuple #[])/\Sorted W (w.heap.size+1+1) g cap zs (srt zs) W'):
 Calls Tryz.prog 239 #[u,v] w fun e w' =>∃br cap,e= .returned (.slice (some ⟨br,0,none⟩) (srt (ded (xs++ys))).length cap)/\Below w.heap.size w w' /\w.heap.size<=br/\OrgRow w' br cap (srt (ded (xs++ys))):=by
 obtain⟨i0,hi,hz0,hz1,hz2⟩:=info_parts xGe;have hmm:= @run_makeMap Tryz.prog
 go_enter Tryz.func239,Tryz.ntmps239
 go_wp2_with (first
  |(at_builtin;refine Pt _ IN rfl _ _ rfl i0 hi hz0 hz1 hz2 rfl (w.heap.size+1+1+1) 0 [] rfl (xH9 w _ _ _ 179) u rfl xs (hu.below (Nb w _ _ _ _)) (by grind) ?_;intro g1 c1 w1 r1 gr1 e1)
  |(at_builtin;refine Pt _ IN rfl _ _ rfl i0 hi hz0 hz1 hz2 rfl g1 c1 ([]++xs) rfl r1 v rfl ys (hv.below (Below.grown (Nb w _ _ _ _) gr1 (by simp;omega) (fun k hk=>by grind))) (by grind) ?_;intro g2 c2 w2 r2 gr2 e2))
 have hst:=URel.start r2 gr1 e1 gr2 e2;have hl2:(xs++ys).length=xs.length+ys.length:=List.length_append;clear r1 gr1 e1 r2 gr2 e2 hu hv
 go_loopw [17] (fun i wr=>∃k g cap:Nat,k<=xs.length+ys.length/\i= .int .i64 k/\URel w 179 148 w.heap.size w2.heap.size g2 c2 (xs++ys) k g cap wr) (fun i _=>xs.length+ys.length - (RowKit.intOf i).toNat)
 case atStart=>grind
 case round=>
  obtain⟨k,g,cap,hk,rfl,hr⟩:=hrel;clear hst;by_cases hlt:k<xs.length+ys.length
  ·obtain⟨c,hc⟩:∃c,(xs++ys)[k]'(by omega)=c:=⟨_,rfl⟩;have hc0:wr.cell? ⟨g2,k*2,none⟩=some (.int .i64 c.cell):=by
    have:=hr.all.cell (Gf (xs++ys) k (by omega) 0 (by decide));rw [hc] at this;exact this
   have hc1:wr.cell? ⟨g2,k*2+1,none⟩=some (.int .i64 c.row):=by
    have:=hr.all.cell (Gf (xs++ys) k (by omega) 1 (by decide));rw [hc] at this;exact this
   have hcb:=hr.cell;have hgl:=hr.row.lt;have hsz:=hr.size;have hga:=hr.hga;have hgg:=hr.hg;cases hct:(ded ((xs++ys).take k)).contains c with
   |true=>
    go_wp2_with (at_lookup;refine xBm _ IN rfl _ _ rfl w.heap.size (ded ((xs++ys).take k)) rfl (hr.set.kept (BB (by omega))) c rfl true hct ?_)
    go_roundw
    case rel=>exact⟨k+1,g,cap,by omega,by go_num,hr.old (by omega) (by grind) _⟩
    grind [RowKit.intOf]
   |false=>
    go_wp2_with (first
     |(at_lookup;refine xBm _ IN rfl _ _ rfl w.heap.size (ded ((xs++ys).take k)) rfl (hr.set.kept (BB (by omega))) c rfl false hct ?_)
     |(at_mapUpdate;refine xLe _ IN rfl _ _ _ rfl w.heap.size (ded ((xs++ys).take k)) rfl (hr.set.kept (BB (by omega))) c rfl rfl hct ?_;intro w3 hs3 hg3 hz3;obtain⟨m1,m2,m3,m4⟩:=hr.mid hg3 hz3)
     |(at_builtin;refine Pt _ IN rfl _ _ rfl i0 hi hz0 hz1 hz2 rfl g cap (ded ((xs++ys).take k)) rfl (m4 _) (.slice (some ⟨wr.heap.size+1,0,none⟩) 1 1) rfl [c] (by grind [xHS,BX]) (by grind [Nj]) ?_;intro g' cap' w4 r4 g4 e4;obtain⟨n1,n2⟩:=hr.mid4 hg3 hz3 g4))
    go_roundw
    case rel=>exact⟨k+1,g',cap',by omega,by go_num,by
     have:=hr.new (by omega) (by grind) (by grind) hg3 hz3 (by rw [hc];exact r4) g4 e4
     grind⟩
    grind [RowKit.intOf]
  ·have hk2:k=(xs++ys).length:=by omega
   have ht:(xs++ys).take k=xs++ys:=by grind
   have hcb:=hr.cell;have hsz:=hr.size;have hga:=hr.hga;have hgg:=hr.hg;have hs:=hsort wr g cap (ded (xs++ys)) (by grind [Nj]) hr.below (by omega) (by omega) (by have:=hr.box;grind) (by have:=hr.row.org;grind);have hgr:=hr.below;rw [ht] at hcb;clear hr hsort
   go_wp2_with (go_at_call 269;refine hs.mono ?_;rintro e W' ⟨rfl,hS⟩;obtain⟨ty',hbx⟩:=hS.box;have hcb2:W'.cell? ⟨w.heap.size+1+1,0,none⟩=some (.slice (some ⟨g,0,none⟩) (ded (xs++ys)).length cap):=by grind [World.cell?])
   go_ret
   exact⟨g,cap,by rw [hsl];rfl,hgr.trans ⟨hS.os,hS.tape,hS.output,hS.size,fun k hk=>hS.old k (by grind) (by omega) (by omega)⟩,by omega,hS.row⟩
theorem xGt:∀w,(Extern.Rtype.kind 179).run Tryz.prog w= .ok 25 w:=by intro w;kernel_rfl
theorem xDJ:(Tryz.prog.info? 148).map (fun i=>i.desc)=some (.slice 179):=by kernel_rfl
theorem xHG:(Tryz.prog.info? 179).map (fun i=>(i.hasPointers,i.bytes))=some (false,16):=by kernel_rfl
theorem xHu:Tryz.prog.packed 148=false:=by kernel_rfl
theorem sw1:Tryz.prog.funcs.findIdx? (·.name== "internal/reflectlite" ++ ".Swapper$1")=some 289:=by kernel_rfl
theorem sw2:Tryz.prog.funcs.findIdx? (·.name== "internal/reflectlite" ++ ".Swapper$2")=some 290:=by kernel_rfl
theorem sw9:Tryz.prog.funcs.findIdx? (·.name== "internal/reflectlite" ++ ".Swapper$9")=some 297:=by kernel_rfl
theorem xEz:typeHandle Tryz.prog 179= .pointer (some ⟨3,179,none⟩):=by kernel_rfl
theorem xBg [Inhabited Lb](xs ys:List Org)(u v:Value)(w:World)(hu:RowIn w u xs)(hv:RowIn w v ys)(hlen:xs.length+ys.length<=1000000000000)(hb:∀x∈kE,x.1<w.heap.size/\w.heap[x.1]? =some x.2):
 Calls Tryz.prog 239 #[u,v] w fun e w' =>∃br cap,e= .returned (.slice (some ⟨br,0,none⟩) (rM xs ys).length cap)/\Below w.heap.size w w' /\w.heap.size<=br/\OrgRow w' br cap (rM xs ys):=by
 obtain⟨i,hi,hd⟩:=Zi.1 xDJ;obtain⟨ie,hie,he⟩:=Zi.1 xHG;simp only [Yd] at he;refine xKZ (fun l=>l.mergeSort fun x y=> !olt y x) (fun l=>by simp) xs ys u v w hu hv hlen fun W g cap zs hz hB hg hne hbo hrow=> ?_;refine xIl Tryz.laysGg6 148 179 i ie hi hd xHu hie 25 xGt he.1 he.2 289 290 297 270 sw1 sw2 sw9 (fun l h2 hl=> ?_) hz hbo hrow hne (fun x hx=> ?_)
 ·rw [xEz];exact T.sort_pdqsort_func_cUnionOrigins_1_ok (xHB h2 (by omega) (Lib.bitLen l.length))
 ·obtain⟨b1,b2⟩:=hb x hx;exact⟨ZZ b1 hB.size,by omega,by omega,(hB.block _ b1).trans b2⟩
theorem xKY [Inhabited Lb]{a0 a1 r:List Org}(h:AH a0 a1=some r):AbsCalls Tryz.prog 239 (Ku a0 a1) (NS r):=
 xGT (enters_of Tryz.func239 (by kernel_rfl) rfl) xBg h
structure GrpT (P:Program) (ti tm tp:TypeId):Prop where
 int:P.underlying ti=some (.int .i64)
 map:P.underlying tm=some (.map ti tp)
 zero:∀w,(zeroValue tp).run P w= .ok (.pointer none) w
def pbx(b:Nat):Value:= .pointer (some ⟨b,0,none⟩)
def PMap(w:World)(b:Nat)(bx:Int->Nat)(ks:List Int):Prop:=
 ∃es clock,w.heap[b]? =some (.map es clock)/\es.toList.map (fun e=>(e.key,e.val))=ks.map fun x=>(Value.int .i64 x,pbx (bx x))
theorem PMap.kept{w w' :World}{b:Nat}{bx bx' :Int->Nat}{ks:List Int}(h:PMap w b bx ks)(e:w'.heap[b]? =w.heap[b]?)(hb:∀x∈ks,bx' x=bx x):PMap w' b bx' ks:=by
 obtain⟨es,c,h1,h2⟩:=h;refine⟨es,c,e.trans h1,h2.trans (ZE fun x hx=>by grind)⟩
theorem PMap.lt{w:World}{b:Nat}{bx:Int->Nat}{ks:List Int}(h:PMap w b bx ks):b<w.heap.size:=by
 obtain⟨es,c,h1,h2⟩:=h
 grind
theorem RB{bx:Int->Nat}{x:Int}:∀ {es:List MapEntry} {ks:List Int} {i:Nat},es.map (fun e=>(e.key,e.val))=ks.map (fun y=>(Value.int .i64 y,pbx (bx y)))->
 ∃r,Instr.findNow (.int .i64) (.int .i64 x) es i=some r/\(x∈ks->∃j,r=some (j,pbx (bx x)))/\(x ∉ ks->r=none)
 | [],[],i,_=>⟨none,rfl,by simp,fun _=>rfl⟩
 | [],_::_,i,h=>by cases h
 |_::_,[],i,h=>by cases h
 |e::es,k::ks,i,h=>by
  simp only [ZX,Y9,Yd] at h;obtain⟨⟨h1,h2⟩,h3⟩:=h;by_cases hk:x=k
  ·subst hk;exact⟨some (i,pbx (bx x)),by grind [Instr.findNow,Instr.sameNow],fun _=>⟨i,rfl⟩,by simp⟩
  ·obtain⟨r,r1,r2,r3⟩:=RB (x:=x) (i:=i+1) h3
   grind [Instr.findNow,Instr.sameNow]
section
variable {P:Program} {ti tm tp:TypeId} (T:GrpT P ti tm tp) {w:World}
include T
theorem U2(em:Bool)(n:Nat)(k:IntKind)(x:Int):(Instr.checkKey em (n+1) ti (.int k x)).run P w= .ok () w:=by
 unfold Instr.checkKey;simp [run_underlying T.int]
theorem Qz{bx:Int->Nat}(x:Int)(es:List MapEntry)(ks:List Int)(h:es.map (fun e=>(e.key,e.val))=ks.map fun y=>(Value.int .i64 y,pbx (bx y))):
 ∃r,(Instr.findKey ti (.int .i64 x) es).run P w= .ok r w/\(x∈ks->∃j,r=some (j,pbx (bx x)))/\(x ∉ ks->r=none):=by
 obtain⟨r,h1,h2⟩:=RB (x:=x) (i:=0) h;exact⟨r,by simp [Instr.findKey,run_underlying T.int,h1,Result.andThen],h2⟩
theorem BT{b:Nat}{bx:Int->Nat}{ks:List Int}(h:PMap w b bx ks)(x:Int):(Instr.lookup tm (.map (some b)) (.int .i64 x) false).run P w= .ok (if x∈ks then pbx (bx x) else .pointer none) w:=by
 obtain⟨es,c,h1,h2⟩:=h;obtain⟨r,hr,p1,p2⟩:=Qz T (w:=w) x es.toList ks h2;unfold Instr.lookup;have hg:(getObj b).run P w= .ok (.map es c) w:=by grind [getObj,Sem.run]
 have hck:(Instr.checkKey es.isEmpty 10000 ti (.int .i64 x)).run P w= .ok () w:=U2 T es.isEmpty 9999 .i64 x;by_cases hc:x∈ks
 ·obtain⟨j,rfl⟩:=p1 hc;rw [Zt hc];simp [run_underlying T.map,hg,hck,hr,Result.andThen]
 ·obtain rfl:=p2 hc;rw [Za hc];simp [run_underlying T.map,hg,hck,hr,T.zero,Result.andThen]
theorem xH1{b:Nat}{bx:Int->Nat}{ks:List Int}(h:PMap w b bx ks)(x:Int)(hc:x ∉ ks)(n:Nat):
 ∃w',(Instr.mapUpdate tm (.map (some b)) (.int .i64 x) (pbx n)).run P w= .ok () w' /\PMap w' b (fun y=>if y=x then n else bx y) (ks++ [x])/\w.grownBy w' (some b)/\w'.heap.size=w.heap.size:=by
 obtain⟨es,c,h1,h2⟩:=h;obtain⟨r,hr,p1,p2⟩:=Qz T (w:=w) x es.toList ks h2;obtain rfl:=p2 hc;have hb:b<w.heap.size:=(Zb.1 h1).1;have hg:(getObj b).run P w= .ok (.map es c) w:=by grind [getObj,Sem.run]
 have hck:(Instr.checkKey false 10000 ti (.int .i64 x)).run P w= .ok () w:=U2 T false 9999 .i64 x;have hs:∀ob,(setObj b ob).run P w= .ok () { w with heap:=w.heap.setIfInBounds b ob }:=by
  grind [setObj,Sem.run]
 refine⟨{ w with heap:=w.heap.setIfInBounds b (.map (es.push { key:= .int .i64 x,val:=pbx n,born:=c }) (c+1)) },?_,?_,⟨rfl,rfl,rfl,by simp,fun k hk hne=> ?_⟩,by simp⟩
 ·unfold Instr.mapUpdate;simp [run_underlying T.map,hg,hck,hr,hs,Result.andThen]
 ·refine⟨_,_,by simp [hb];exact⟨rfl,rfl⟩,?_⟩
  grind [List.map_congr_left]
 grind
end
end Go.Ab
end
section
namespace Go.Ab
section
variable {P:Program} {ops:Array Oper} {Q:Exit->Act->World->Prop} {md:Region.Mode} {T:World->Prop} {n:Nat}
def Cf(P:Program)(md:Region.Mode)(ops:Array Oper)(Q:Exit->Act->World->Prop)(T:World->Prop)(n:Nat):Nat->Array Bool->Act->World->Prop
 |0,listed,a,w=>Region.ready md ops listed=[]/\Q .normal a w
 |fuel+1,listed,a,w=>
  (Region.ready md ops listed=[]->Q .normal a w)/\
  ∀i∈Region.ready md ops listed,wpOp P ops Q i (fun a' w' =>((listed.setIfInBounds i true).getD n false=true\/T w')/\Cf P md ops Q T n fuel (listed.setIfInBounds i true) a' w') a w
theorem xBl:∀(fuel:Nat) (listed:Array Bool) (a:Act) (w:World),Cf P md ops Q T n fuel listed a w->wpAny P md ops Q fuel listed a w
 |0,_,_,_,h=>h
 |fuel+1,_,_,_,h=>⟨h.1,fun i hi=>wpOp_mono (fun a' w' h' =>xBl fuel _ a' w' h'.2) (h.2 i hi)⟩
theorem xLc{i:Nat}{oi:Oper}{v:Value}(hi:ops[i]? =some oi)(hsel:∀(j:Nat) (o:Oper) cs b,ops[j]? =some o->o.op≠ .select cs b)
 (hQ:∀c a w,Q (.panic c) (a.put oi.dst v) w->Q (.panic c) a w) (hni:i≠n) (hwait:∃on e,ops[n]? =some on/\e∈on.after/\Region.binds md e=true/\e.on=i):
 ∀(fuel:Nat) (listed:Array Bool) (a:Act) (w:World),listed.getD n false=false->
  (∀j oj,ops[j]? =some oj->j≠i->listed.getD j true=false->(∀e∈oj.after,Region.binds md e=true->e.on≠i)->oi.apart ops oj=true)->
  i∈Region.ready md ops listed->YieldsIf P ops T oi v a->T w->
  Cf P md ops Q T n fuel (listed.setIfInBounds i true) (a.put oi.dst v) w->Cf P md ops Q T n (fuel+1) listed a w:=by
 obtain⟨on,e0,hn1,hn2,hn3,hn4⟩:=hwait;intro fuel
 induction fuel with
 |zero=>
  intro listed a w _ _ hr hy hS H;refine⟨fun h=>(by grind),fun j hj=> ?_⟩;by_cases hji:j=i
  ·subst hji;exact hy.wpOp hi hS ⟨.inr hS,H⟩
  ·have:=ready_mono hj hji;rw [H.1] at this
   grind
 |succ fuel ih=>
  intro listed a w hln hfree hr hy hS H;refine⟨fun h=>(by grind),fun j hj=> ?_⟩;by_cases hji:j=i
  ·subst hji;exact hy.wpOp hi hS ⟨.inr hS,H⟩
  ·have h1:=H.2 j (ready_mono hj hji);obtain⟨hjun,oj,hoj,hall⟩:=mem_ready.1 hj;have hnot:∀e∈oj.after,Region.binds md e=true->e.on≠i:=fun e he hb heq=>by
    grind [mem_ready]
   have hjn:j≠n:=fun e=>by
    grind
   have h2:=wpOp_putIf hoj (hfree j oj hoj hji hjun hnot) (fun cs b=>hsel i oi cs b hi) (fun cs b=>hsel j oj cs b hoj) hQ hy h1
   have hfree' :∀k ok,ops[k]? =some ok->k≠i->(listed.setIfInBounds j true).getD k true=false->
    (∀e∈ok.after,Region.binds md e=true->e.on≠i)->oi.apart ops ok=true:=fun k ok hk hki hun hno=>by
    refine hfree k ok hk hki ?_ hno;by_cases hjk:j=k
    ·grind
    ·rw [getD_set_ne true hjk] at hun;grind
   refine wpOp_mono (fun a' w' h3=> ?_) h2;have hT:T w' :=by
    refine h3.2.1.resolve_left ?_;rw [getD_set_ne false hjn,getD_set_ne false hni,hln];simp
   refine⟨.inr hT,ih (listed.setIfInBounds j true) a' w' (by rw [getD_set_ne false hjn];grind) hfree' (ready_mono hr (Yn hji)) h3.1 hT ?_⟩
   grind [Array.setIfInBounds_comm]
def Pr(md:Region.Mode)(ops:Array Oper)(n i:Nat):Bool:=
 match ops[n]? with
 |some on=>on.after.any fun e=>Region.binds md e&&e.on.beq i
 |none=>false
theorem xK4{md:Region.Mode}{ops:Array Oper}{n i:Nat}(h:Pr md ops n i=true):∃on e,ops[n]? =some on/\e∈on.after/\Region.binds md e=true/\e.on=i:=by
 grind [Pr,Nat.eq_of_beq_eq_true]
theorem A7(i:Nat){oi:Oper}{v:Value}{fuel:Nat}{listed:Array Bool}{a:Act}{w:World}(hi:ops[i]? =some oi)
 (hs:(Region.noSelect ops&&Region.free md ops listed i&&(Region.ready md ops listed).contains i&&Pr md ops n i&& !(listed.getD n false)&& !(i.beq n))=true)
 (hQ:∀c a w,Q (.panic c) (a.put oi.dst v) w->Q (.panic c) a w) (hg:oi.guard=none) (hT:T w) (hy:∀w,T w->(execOp a.eval oi).run P w= .ok (.value v) w)
 (h:Cf P md ops Q T n fuel (listed.setIfInBounds i true) (a.put oi.dst v) w):Cf P md ops Q T n (fuel+1) listed a w:=by
 simp only [Zu,ZF] at hs;obtain⟨⟨⟨⟨⟨h1,h2⟩,h3⟩,h4⟩,h5⟩,h6⟩:=hs;exact xLc hi (Region.noSelect_spec h1) hQ (fun e=>by simp_all) (xK4 h4) fuel listed a w h5 (Region.free_spec hi h2) (by grind) (.inl ⟨by grind [Region.wanted],hy⟩) hT h
theorem En(i:Nat){oi:Oper}{fuel:Nat}{listed:Array Bool}{a:Act}{w:World}(hi:ops[i]? =some oi)(hr:Region.ready md ops listed=[i])(hg:oi.guard=none)
 (h:∀K:Act->World->Prop,(∀a' w',((listed.setIfInBounds i true).getD n false=true\/T w')/\Cf P md ops Q T n fuel (listed.setIfInBounds i true) a' w' ->K a' w')->oi.wp P a w K Q):
 Cf P md ops Q T n (fuel+1) listed a w:=by
 refine⟨fun h0=>(by grind),fun j hj=> ?_⟩
 grind [wpOp,Region.wanted]
theorem Ps{listed:Array Bool}{a:Act}{w:World}(hr:Region.ready md ops listed=[])(h:Q .normal a w):
 ∀fuel,Cf P md ops Q T n fuel listed a w
 |0=>⟨hr,h⟩
 |_+1=>⟨fun _=>h,by grind⟩
theorem Pu(T:World->Prop)(n:Nat){id:Nat}{a:Act}{w:World}(hm:P.follows .mixedOrders=true)
 (h:Cf P .any ops Q T n ops.size (Array.replicate ops.size false) a { w with drawn:=w.drawn+1 }):(Code.region id ops true).wp P Q a w:=
 wp_region_any hm (xBl _ _ _ _ h)
end
end Go.Ab
end
section
namespace Go.Ab
open Go.Proofs Go.RowKit Go.Shelf
inductive Tg where
 |map|keys
 |box (x:Int) |cel (x:Int) |frm (x:Int)
 deriving DecidableEq
def BW(ks:List Int)(nx:Option Int):Tg->Prop
 | .map=>True
 | .keys=>True
 | .box x=>x∈ks
 | .cel x=>x∈ks
 | .frm x=>x∈ks/\nx≠some x
def Ae(blk:Tg->Nat)(t:Tg)(b:Nat):Tg->Nat:=fun t' =>if t' =t then b else blk t'
def CF{α:Type}(f:Int->α)(x:Int)(v:α):Int->α:=fun y=>if y=x then v else f y
def ORow(w:World)(te g cap sz n:Nat)(xs:List Value):Prop:=
 xs.length=n*sz/\∃cur,w.heap[g]? =some (.cells cur te (0,0))/\n<=cap/\cap<=maxLen/\cur.size=cap*sz/\cur.toList.take (n*sz)=xs
theorem ORow.kept{w w' :World}{te g cap sz n:Nat}{xs:List Value}(h:ORow w te g cap sz n xs)(e:w'.heap[g]? =w.heap[g]?):ORow w' te g cap sz n xs:=by
 obtain⟨h0,cur,h1,h2⟩:=h;exact⟨h0,cur,e.trans h1,h2⟩
theorem OrgRow.kept{w w' :World}{g cap:Nat}{xs:List Org}(h:OrgRow w g cap xs)(e:w'.heap[g]? =w.heap[g]?):OrgRow w' g cap xs:=by
 obtain⟨h0,cs,ty,lo,hi,h1,h2⟩:=h;exact⟨h0,cs,ty,lo,hi,e.trans h1,h2⟩
theorem OrgRow.lt{w:World}{g cap:Nat}{xs:List Org}(h:OrgRow w g cap xs):g<w.heap.size:=by
 obtain⟨h0,cs,ty,lo,hi,h1,h2⟩:=h
 grind
def frV(blk:Tg->Nat)(fc:Int->Nat)(fr:Int->List Org)(nx:Option Int)(x:Int):Value:=
 if nx=some x then .slice none 0 0 else .slice (some ⟨blk (.frm x),0,none⟩) (fr x).length (fc x)
structure GRel (w0 wr:World) (B tR tI:Nat) (blk:Tg->Nat) (ks kl:List Int) (sm:Int->Int) (fr:Int->List Org) (fc:Int->Nat) (nx:Option Int) (kc:Nat):Prop where
 map:PMap wr (blk .map) (fun x=>blk (.box x)) ks
 box:∀x∈ks,wr.heap[blk (.box x)]? =some (.cells #[.slice (some ⟨blk (.cel x),0,none⟩) 2 2,frV blk fc fr nx x] tR (0,0))
 cel:∀x∈ks,wr.heap[blk (.cel x)]? =some (.cells #[.int .i64 x,.int .i64 (sm x)] tI (0,0))
 frm:∀x∈ks,nx≠some x->OrgRow wr (blk (.frm x)) (fc x) (fr x)
 nil:∀x,nx=some x->fr x=[]
 keys:ORow wr tI (blk .keys) kc 1 kl.length (kl.map (Value.int .i64))
 nodup:ks.Nodup
 inj:∀t t',BW ks nx t->BW ks nx t' ->blk t=blk t' ->t=t'
 rng:∀t,BW ks nx t->B<=blk t/\blk t<wr.heap.size
 below:Below B w0 wr
structure Chg (w w' :World) (b:Nat) (o:Obj):Prop where
 os:w'.os=w.os
 tape:w'.tape=w.tape
 output:w'.output=w.output
 size:w'.heap.size=w.heap.size
 at' :w'.heap[b]? =some o
 other:∀k,k≠b->w'.heap[k]? =w.heap[k]?
theorem Chg.below{w w' :World}{b B:Nat}{o:Obj}(h:Chg w w' b o)(hb:B<=b):Below B w w' :=⟨h.os,h.tape,h.output,by rw [h.size];grind,fun k hk=>h.other k (by omega)⟩
section
variable {w0 wr:World} {B tR tI:Nat} {blk:Tg->Nat} {ks kl:List Int} {sm:Int->Int} {fr:Int->List Org} {fc:Int->Nat} {nx:Option Int} {kc:Nat}
theorem GRel.grow(h:GRel w0 wr B tR tI blk ks kl sm fr fc nx kc){wr' :World}(hb:Below wr.heap.size wr wr'):GRel w0 wr' B tR tI blk ks kl sm fr fc nx kc:=by
 have k:∀t,BW ks nx t->wr'.heap[blk t]? =wr.heap[blk t]? :=fun t ht=>hb.block _ (h.rng t ht).2;refine⟨h.map.kept (k .map trivial) (fun _ _=>rfl),fun x hx=>(k (.box x) hx).trans (h.box x hx),fun x hx=>(k (.cel x) hx).trans (h.cel x hx),fun x hx hn=>(h.frm x hx hn).kept (k (.frm x) ⟨hx,hn⟩),h.nil,h.keys.kept (k .keys trivial),h.nodup,h.inj,fun t ht=>⟨(h.rng t ht).1,ZZ (h.rng t ht).2 hb.size⟩,?_⟩;refine h.below.trans ⟨hb.os,hb.tape,hb.output,hb.size,fun b hlt=>hb.block b ?_⟩;have:=(h.rng .map trivial);omega
theorem GRel.turn(h:GRel w0 wr B tR tI blk ks kl sm fr fc nx kc){x:Int}(hx:x∈ks)(hnx:nx=none\/nx=some x){s:Int}{os:List Org}{br cap:Nat}{w2 w3 w4:World}
 (h2:Chg wr w2 (blk (.cel x)) (.cells #[.int .i64 x,.int .i64 s] tI (0,0))) (h3:Below w2.heap.size w2 w3) (hbr:w2.heap.size<=br) (hrow:OrgRow w3 br cap os)
 (h4:Chg w3 w4 (blk (.box x)) (.cells #[.slice (some ⟨blk (.cel x),0,none⟩) 2 2,.slice (some ⟨br,0,none⟩) os.length cap] tR (0,0))):
 GRel w0 w4 B tR tI (Ae blk (.frm x) br) ks kl (CF sm x s) (CF fr x os) (CF fc x cap) none kc:=by
 have hcx:=h.rng (.cel x) hx;have hbx:=h.rng (.box x) hx;have z2:=h2.size;have z3:=h3.size;have z4:=h4.size;have hbl:=hrow.lt;have keep:∀b,b<wr.heap.size->b≠blk (.cel x)->b≠blk (.box x)->w4.heap[b]? =wr.heap[b]? :=fun b hb n1 n2=>(h4.other b n2).trans ((h3.block b (by omega)).trans (h2.other b n1));have ub:∀t,t≠ .frm x->Ae blk (.frm x) br t=blk t:=fun t ht=>Za ht;have ux:Ae blk (.frm x) br (.frm x)=br:=Zt rfl;have live:∀t,BW ks none t->t≠ .frm x->BW ks nx t:=by
  intro t ht hne;cases t with
  |frm y=>
   refine⟨ht.1,fun e=> ?_⟩
   grind
  |map=>trivial
  |keys=>trivial
  |box y=>exact ht
  |cel y=>exact ht
 have ne:∀t t',BW ks nx t->BW ks nx t' ->t≠t' ->blk t≠blk t' :=fun t t' a b n e=>n (h.inj t t' a b e);refine⟨?_,fun y hy=> ?_,fun y hy=> ?_,fun y hy _=> ?_,fun y e=>by grind,?_,h.nodup,fun t t' a b e=> ?_,fun t ht=> ?_,?_⟩
 ·rw [ub .map (by simp)];refine h.map.kept (keep _ (h.rng .map trivial).2 (ne .map (.cel x) trivial hx (by simp)) (ne .map (.box x) trivial hx (by simp))) fun y hy=>ub _ (by simp)
 ·rw [ub (.box y) (by simp),ub (.cel y) (by simp)];by_cases e:y=x
  ·subst e;rw [h4.at']
   grind [frV,CF]
  ·have:=h.box y hy;rw [keep _ (h.rng (.box y) hy).2 (ne (.box y) (.cel x) hy hx (by simp)) (ne (.box y) (.box x) hy hx (by grind)),this];have hn:nx≠some y:=by
    grind
   simp [frV,hn,CF,e,ub (.frm y) (by grind)]
 ·rw [ub (.cel y) (by simp)];by_cases e:y=x
  ·subst e;rw [h4.other _ (ne (.cel y) (.box y) hy hy (by simp)),h3.block _ (by omega),h2.at'];simp [CF]
  ·rw [keep _ (h.rng (.cel y) hy).2 (ne (.cel y) (.cel x) hy hx (by grind)) (ne (.cel y) (.box x) hy hx (by simp)),h.cel y hy]
   grind [CF]
 ·by_cases e:y=x
  ·subst e;rw [ux];simp only [CF,Ys];exact hrow.kept (h4.other _ (by omega))
  ·have hn:nx≠some y:=by
    grind
   rw [ub (.frm y) (by grind)];simp only [CF,Za e];exact(h.frm y hy hn).kept (keep _ (h.rng (.frm y) ⟨hy,hn⟩).2 (ne (.frm y) (.cel x) ⟨hy,hn⟩ hx (by simp)) (ne (.frm y) (.box x) ⟨hy,hn⟩ hx (by simp)))
 ·rw [ub .keys (by simp)];exact h.keys.kept (keep _ (h.rng .keys trivial).2 (ne .keys (.cel x) trivial hx (by simp)) (ne .keys (.box x) trivial hx (by simp)))
 ·by_cases e1:t= .frm x
  ·by_cases e2:t' = .frm x
   ·grind
   ·rw [e1,ux,ub t' e2] at e;have:=(h.rng t' (live t' b e2)).2;omega
  ·by_cases e2:t' = .frm x
   ·rw [e2,ux,ub t e1] at e;have:=(h.rng t (live t a e1)).2;omega
   grind
 ·by_cases e1:t= .frm x
  ·grind
  ·rw [ub t e1];have:=h.rng t (live t ht e1);omega
 ·refine h.below.trans ((h2.below hcx.1).trans (Below.trans ⟨h3.os,h3.tape,h3.output,h3.size,fun b hb=>h3.block b (by omega)⟩ (h4.below hbx.1)))
theorem GRel.add(h:GRel w0 wr B tR tI blk ks ks sm fr fc none kc){x:Int}(hx:x ∉ ks)(hs:sm x=0)(hf:fr x=[]){w1 w2 w3 w4:World}{cb bb kb' kc' :Nat}
 (h1:Below wr.heap.size wr w1) (hc1:wr.heap.size<=cb) (hb1:wr.heap.size<=bb) (hne:cb≠bb) (hcl:cb<w1.heap.size) (hbl:bb<w1.heap.size)
 (hc:w1.heap[cb]? =some (.cells #[.int .i64 x,.int .i64 0] tI (0,0))) (hb:w1.heap[bb]? =some (.cells #[.slice (some ⟨cb,0,none⟩) 2 2,.slice none 0 0] tR (0,0)))
 (hm:PMap w2 (blk .map) (fun y=>if y=x then bb else blk (.box y)) (ks++ [x])) (h2:w1.grownBy w2 (some (blk .map))) (z2:w2.heap.size=w1.heap.size)
 (h3:Below w2.heap.size w2 w3) (hk:ORow w4 tI kb' kc' 1 (ks++ [x]).length ((ks++ [x]).map (Value.int .i64))) (h4:w3.grownBy w4 (some (blk .keys))) (hkb:kb' =blk .keys\/kb' =w3.heap.size):
 GRel w0 w4 B tR tI (Ae (Ae (Ae blk (.box x) bb) (.cel x) cb) .keys kb') (ks++ [x]) (ks++ [x]) sm fr fc (some x) kc' :=by
 have hM:=h.rng .map trivial;have hK:=h.rng .keys trivial;have z1:=h1.size;have z3:=h3.size;have z4:=h4.size;have hkl:kb' <w4.heap.size:=by
  obtain⟨_,cur,h,_⟩:=hk
  grind
 have ne:∀t t',BW ks none t->BW ks none t' ->t≠t' ->blk t≠blk t' :=fun t t' a b n e=>n (h.inj t t' a b e);have hMK:=ne .map .keys trivial trivial (by simp);generalize hB:Ae (Ae (Ae blk (.box x) bb) (.cel x) cb) .keys kb' =blk';have b1:blk' (.box x)=bb:=by rw [<-hB];simp [Ae]
 have b2:blk' (.cel x)=cb:=by rw [<-hB];simp [Ae]
 have b3:blk' .keys=kb' :=by rw [<-hB];simp [Ae]
 have b4:∀t,t≠ .box x->t≠ .cel x->t≠ .keys->blk' t=blk t:=fun t n1 n2 n3=>by rw [<-hB];grind [Ae]
 have old:∀b,b<wr.heap.size->b≠blk .map->b≠blk .keys->w4.heap[b]? =wr.heap[b]? :=fun b hb n1 n2=>
  (h4.block b (by omega) (by grind)).trans ((h3.block b (by omega)).trans ((h2.block b (by omega) (by grind)).trans (h1.block b hb)))
 have mid:∀b,wr.heap.size<=b->b<w1.heap.size->w4.heap[b]? =w1.heap[b]? :=fun b hb hb2=>
  (h4.block b (by omega) (by grind)).trans ((h3.block b (by omega)).trans (h2.block b hb2 (by grind)))
 have hyx:∀y∈ks,y≠x:=fun y hy e=>hx (e ▸ hy);have live:∀t,BW (ks++ [x]) (some x) t->t≠ .box x->t≠ .cel x->BW ks none t:=by
  intro t ht n1 n2;cases t with
  |map=>trivial
  |keys=>trivial
  |box y=>
   rcases Zf.1 (show y∈ks++ [x] from ht) with e|e
   ·exact e
   grind
  |cel y=>
   rcases Zf.1 (show y∈ks++ [x] from ht) with e|e
   ·exact e
   grind
  |frm y=>
   obtain⟨e,e2⟩:=ht;rcases Zf.1 e with e|e
   ·exact⟨e,by simp⟩
   grind
 refine⟨?_,fun y hy=> ?_,fun y hy=> ?_,fun y hy hn=> ?_,fun y e=>by grind,?_,?_,fun t t' a b e=> ?_,fun t ht=> ?_,?_⟩
 ·rw [b4 .map (by simp) (by simp) (by simp)];refine hm.kept ((h4.block _ (by omega) (by grind)).trans (h3.block _ (by omega))) fun y hy=> ?_
  grind
 ·by_cases e:y=x
  ·grind [frV]
  ·have hy:y∈ks:=by
    grind
   rw [b4 (.box y) (by grind) (by simp) (by simp),b4 (.cel y) (by simp) (by grind) (by simp),old _ (h.rng (.box y) hy).2 (ne _ _ hy trivial (by simp)) (ne _ _ hy trivial (by simp)),h.box y hy]
   grind [frV]
 ·by_cases e:y=x
  ·grind
  ·have hy:y∈ks:=by
    grind
   rw [b4 (.cel y) (by simp) (by grind) (by simp),old _ (h.rng (.cel y) hy).2 (ne _ _ hy trivial (by simp)) (ne _ _ hy trivial (by simp)),h.cel y hy]
 ·have e:y≠x:=fun e=>hn (by rw [e]);have hy:y∈ks:=by
   grind
  rw [b4 (.frm y) (by simp) (by simp) (by simp)];exact(h.frm y hy (by simp)).kept (old _ (h.rng (.frm y) ⟨hy,by simp⟩).2 (ne (.frm y) _ ⟨hy,by simp⟩ trivial (by simp)) (ne (.frm y) _ ⟨hy,by simp⟩ trivial (by simp)))
 ·grind
 ·rw [Yz];exact⟨h.nodup,by simp,fun a ha b hb=>by grind⟩
 ·have cls:∀t,BW (ks++ [x]) (some x) t->t= .box x\/t= .cel x\/t= .keys\/(blk' t=blk t/\BW ks none t/\t≠ .keys):=by
   grind
  have kr:kb' =blk .keys\/w1.heap.size<=kb' :=hkb.imp id (by omega)
  rcases cls t a with rfl|rfl|rfl|⟨e1,l1,m1⟩ <;>rcases cls t' b with rfl|rfl|rfl|⟨e2,l2,m2⟩ <;>first
   |rfl
   |(rw [e1,e2] at e;grind)
   |(have r2:=(h.rng _ l2).2;grind)
   |(have r1:=(h.rng _ l1).2;grind)
   |grind
 ·by_cases n1:t= .box x
  ·grind
  ·by_cases n2:t= .cel x
   ·grind
   ·by_cases n3:t= .keys
    ·grind
    ·rw [b4 t n1 n2 n3];have:=h.rng t (live t ht n1 n2);omega
 ·refine h.below.trans (Below.trans ⟨h1.os,h1.tape,h1.output,h1.size,fun b hb=>h1.block b (by omega)⟩ ?_);refine Below.trans (Below.grown (Below.refl _ _) h2 (by omega) (fun k hk=>by grind)) ?_;refine Below.trans ⟨h3.os,h3.tape,h3.output,h3.size,fun b hb=>h3.block b (by omega)⟩ ?_;exact Below.grown (Below.refl _ _) h4 (by omega) (fun k hk=>by grind)
end
theorem xBn{P:Program}{te ts:TypeId}(w:World){o:Oper}{a:Act}{K:Act->World->Prop}{Q:Exit->Act->World->Prop}(ht:P.underlying ts=some (.slice te))(s x:Operand)
 (hop:o.op= .call { callee:= .builtin .append,args:= #[s,x],argTypes:= #[ts,ts] }) (i:TypeInfo) (hi:P.info? te=some i) {z:Value} (hz:i.zero=some z) {sz bytes:Nat} (hsize:i.size=sz) (hby:i.bytes=bytes) (hzs:z.cells.size=sz) (hsz:0<sz) (hb:bytes<=64)
 (base:Nat) (v:Value) (n:Nat) (xs:List Value) (hs:a.eval s=v) (hown:w.ownsRow base te sz v n xs) (ad:Addr) (m c:Nat) (news:List Value) (hx:a.eval x= .slice (some ad) m c) (hl:news.length=m*sz)
 (hnews:∀j u,news[j]? =some u->w.cell? (ad.add j)=some u) (h1:∀u∈news,u.oneCell' =true) (hlen:n+m<=1000000000000) (hbase:base<=w.heap.size)
 (hK:∀v' w',w'.ownsRow base te sz v' (n+m) (xs++news)->w.grownBy w' v.ownBlock->(v' = .slice none 0 0↔v= .slice none 0 0/\m=0)->(v'.ownBlock=v.ownBlock\/v'.ownBlock=some w.heap.size)->K (a.put o.dst v') w'):
 o.wp P a w K Q:=by
 have h2:(n+m)*bytes<=1000000000000*64:=Yh hlen hb;obtain⟨v',w',hr,h2,h3,h4,h5⟩:=run_append_own_at (P:=P) w base ts o.type te i z sz bytes ht hi hz hsize hby hzs hsz v n xs hown ad m c news hl hnews h1 (by grind [maxLen]) (by omega) hbase;unfold Oper.wp execOp;simp only [hop,resolve,invoke,builtin,Sem.run_bind,Sem.run_pure,Result.andThen_ok,List.map_toArray,ZX,ZB,hs,hx,hr];exact hK v' w' h2 h3 h4 h5
theorem xLd{P:Program}{te ts:TypeId}(w:World){ops:Array Oper}{rest:List Oper}{o:Oper}{a:Act}{Q:Exit->Act->World->Prop}(ht:P.underlying ts=some (.slice te))(hg:o.guard=none)(s x:Operand)
 (hop:o.op= .call { callee:= .builtin .append,args:= #[s,x],argTypes:= #[ts,ts] }) (i:TypeInfo) (hi:P.info? te=some i) {z:Value} (hz:i.zero=some z) {sz bytes:Nat} (hsize:i.size=sz) (hby:i.bytes=bytes) (hzs:z.cells.size=sz) (hsz:0<sz) (hb:bytes<=64)
 (base:Nat) (v:Value) (n:Nat) (xs:List Value) (hs:a.eval s=v) (hown:w.ownsRow base te sz v n xs) (ad:Addr) (m c:Nat) (news:List Value) (hx:a.eval x= .slice (some ad) m c) (hl:news.length=m*sz)
 (hnews:∀j u,news[j]? =some u->w.cell? (ad.add j)=some u) (h1:∀u∈news,u.oneCell' =true) (hlen:n+m<=1000000000000) (hbase:base<=w.heap.size)
 (hK:∀v' w',w'.ownsRow base te sz v' (n+m) (xs++news)->w.grownBy w' v.ownBlock->(v' = .slice none 0 0↔v= .slice none 0 0/\m=0)->(v'.ownBlock=v.ownBlock\/v'.ownBlock=some w.heap.size)->wpList P ops Q rest (a.put o.dst v') w'):
 wpList P ops Q (o::rest) a w:=by
 grind [wpList_plain,xBn]
theorem ORow.owns{w:World}{te g cap sz n:Nat}{xs:List Value}(h:ORow w te g cap sz n xs):w.ownsRow 0 te sz (.slice (some ⟨g,0,none⟩) n cap) n xs:=by
 obtain⟨h0,cur,h1,h2,h3,h4,h5⟩:=h;exact⟨h0,.inr ⟨g,cap,cur,rfl,Zg _,h1,h2,h3,h4,h5⟩⟩
theorem ORow.of_owns{w:World}{te sz n base:Nat}{xs:List Value}{v:Value}(h:w.ownsRow base te sz v n xs)(hn:n≠0):∃g cap,v= .slice (some ⟨g,0,none⟩) n cap/\base<=g/\ORow w te g cap sz n xs:=by
 obtain⟨h0,h1⟩:=h;rcases h1 with ⟨_,h2⟩|⟨g,cap,cur,rfl,h2,h3,h4,h5,h6,h7⟩
 ·grind
 ·exact⟨g,cap,rfl,h2,h0,cur,h3,h4,h5,h6,h7⟩
def Kp(l:List Nat)(a a' :Act):Prop:=a'.defers=a.defers/\a'.tmps.size=a.tmps.size/\∀t∈l,a'.tmps[t]? =a.tmps[t]?
theorem AZ{l:List Nat}{a:Act}{tm:Array Value}{d:Nat}{v:Value}(hd:l.contains d=false)(h:Kp l a { a with tmps:=tm }):Kp l a { a with tmps:=tm.setIfInBounds d v }:=by
 refine⟨rfl,by simpa using h.2.1,fun t ht=> ?_⟩;have:d≠t:=fun e=>by grind
 rw [<-h.2.2 t ht]
 grind
theorem BE{l:List Nat}{a:Act}:Kp l a { a with tmps:=a.tmps }:=⟨rfl,rfl,fun _ _=>rfl⟩
theorem Kp.trans{l l' l2:List Nat}{a b c:Act}(h:Kp l a b)(g:Kp l' b c)(s:(l2.all fun t=>l.contains t&&l'.contains t)=true):Kp l2 a c:=by
 refine⟨g.1.trans h.1,g.2.1.trans h.2.1,fun t ht=> ?_⟩;have:=Zx.1 s t ht;simp only [Zu,Z2] at this;exact(g.2.2 t this.2).trans (h.2.2 t this.1)
theorem Kp.get{l:List Nat}{a b:Act}(h:Kp l a b){t:Nat}{v:Value}(hv:a.tmps[t]? =some v)(ht:l.contains t=true):b.tmps[t]? =some v:=(h.2.2 t (by grind)).trans hv
theorem A8{a:Act}{k n:Nat}{v:Value}(h:a.tmps[k]? =some v)(hs:a.tmps.size=n)(hk:k<n):a.tmps[k]'(by omega)=v:=(Zb.1 h).2
theorem Dm{a:Act}{t:Nat}{v:Value}(h:a.tmps[t]? =some v):a.eval (.tmp t)=v:=by
 simp only [Act.eval,Yy,h,jG]
theorem Ny(i:Nat)(rs:List Rowd)(r:Rowd):vF i (rs++ [r])=if hD i r∈vF i rs then vF i rs else vF i rs++ [hD i r]:=by
 grind [vF]
theorem Sf(i k:Nat)(rs:List Rowd)(r:Rowd):pA i k (rs++ [r])=CF (pA i k rs) (hD i r) (IntKind.i64.wrap (pA i k rs (hD i r)+hD k r)):=by
 grind [pA,CF]
theorem Sc(i:Nat)(rs:List Rowd)(r:Rowd):vE i (rs++ [r])=CF (vE i rs) (hD i r) (rM (vE i rs (hD i r)) r.frm):=by
 grind [vE,CF]
theorem NV{rs:List Rowd}{j:Nat}(h:j<rs.length):rs.take (j+1)=rs.take j++ [rs[j]]:=by simp_all
theorem xD4{i:Nat}{x:Int}:∀(n:Nat) (rs:List Rowd),rs.length=n->x ∉ vF i rs->(∀k,pA i k rs x=0)/\vE i rs x=[]:=by
 intro n
 induction n with
 |zero=>
  intro rs h _;have:rs=[]:=Z3.1 h;subst this;exact⟨fun _=>rfl,rfl⟩
 |succ n ih=>
  intro rs h hx;have e:rs=rs.take n++ [rs[n]'(by omega)]:=by rw [<-NV (by omega)];grind
  rw [e] at hx ⊢;rw [Ny] at hx;have hx2:x ∉ vF i (rs.take n)/\x≠hD i (rs[n]'(by omega)):=by
   grind
  obtain⟨h1,h2⟩:=ih (rs.take n) (by grind) hx2.1;refine⟨fun k=> ?_,?_⟩
  ·rw [Sf];grind [CF]
  ·rw [Sc];grind [CF]
theorem xKV(a b:List Org):(rM a b).length<=a.length+b.length:=by
 grind [rM,List.length_mergeSort,Nj]
theorem xD3{i L:Nat}{x:Int}:∀(rs:List Rowd),(∀r∈rs,r.frm.length<=L)->(vE i rs x).length<=rs.length*L:=by
 have key:∀(rs:List Rowd) (f:List Org),(∀r∈rs,r.frm.length<=L)->(rs.foldl (fun f r=>if hD i r=x then rM f r.frm else f) f).length<=f.length+rs.length*L:=by
  intro rs
  induction rs with
  |nil=>grind
  |cons r rs ih=>
   grind [List.mem_cons_self,xKV,Nat.add_mul]
 grind [vE]
theorem Se(i:Nat):∀(rs:List Rowd),(vF i rs).length<=rs.length:=by
 have key:∀(rs:List Rowd) (ks:List Int),(rs.foldl (fun ks r=>if hD i r∈ks then ks else ks++ [hD i r]) ks).length<=ks.length+rs.length:=by
  intro rs
  induction rs with
  |nil=>grind
  |cons r rs ih=>
   grind
 grind [vF]
def Pw(w:World)(v:Value)(xs:List Int):Prop:=
 ∃p c,v= .slice p xs.length c/\(xs=[]\/∃b off,p=some ⟨b,off,none⟩/\b<w.heap.size/\∀m (hm:m<xs.length),w.cell? ⟨b,off+m,none⟩=some (.int .i64 xs[m]))
def J5(w:World)(v:Value)(rs:List Rowd):Prop:=
 ∃p c,v= .slice p rs.length c/\(rs=[]\/∃b off,p=some ⟨b,off,none⟩/\b<w.heap.size/\∀j (hj:j<rs.length),∃cv fv,w.cell? ⟨b,off+j*2,none⟩=some cv/\w.cell? ⟨b,off+j*2+1,none⟩=some fv/\Pw w cv rs[j].cells/\RowIn w fv rs[j].frm)
theorem Fw{w w' :World}{b o:Nat}(h:w'.heap[b]? =w.heap[b]?):w'.cell? ⟨b,o,none⟩=w.cell? ⟨b,o,none⟩:=by grind [World.cell?]
theorem IS{w:World}{b o:Nat}{v:Value}(h:w.cell? ⟨b,o,none⟩=some v):b<w.heap.size:=by
 grind [World.cell?]
section
variable [Inhabited Lb]
theorem xHT{w:World}{ok:List (Nat×Nat)->Nat->Nat->Prop}{q:List (Nat×Nat)->Value->Nat->Prop}{v:Value}{os:List Org}(h:RdP w ok q v (.sl 2 (os.map Ty.org.toD))):RowIn w v os:=by
 by_cases hx:os=[]
 ·subst hx;obtain⟨ad,cap,rfl,_⟩:=RdP.shape h;exact⟨ad,cap,rfl,.inl rfl⟩
 ·obtain⟨b,off,cap,rfl,hcap,hrl,hq,u,hcl,hk⟩:=RdP.cells h (by simpa using hx);have hpos:0<(os.map Ty.org.toD).length:=by
   grind
  refine⟨some ⟨b,off,none⟩,cap,by grind,.inr ⟨_,rfl,IS (hcl 0 0 hpos (by decide)).1,fun j x hj=> ?_⟩⟩;have hj2:j<(BS os).length:=(Zs.1 hj).1;rw [IP] at hj2;have e:j=j / 2*2+j % 2:=by omega
  grind [Gf,Addr.add,Qg]
theorem xGk{w:World}{ok:List (Nat×Nat)->Nat->Nat->Prop}{q:List (Nat×Nat)->Value->Nat->Prop}{v:Value}{xs:List Int}(h:RdP w ok q v (.sl 1 (xs.map fun n=> [D.int .i64 n]))):Pw w v xs:=by
 by_cases hx:xs=[]
 ·subst hx;obtain⟨ad,cap,rfl,_⟩:=RdP.shape h;exact⟨ad,cap,rfl,.inl rfl⟩
 ·obtain⟨b,off,cap,rfl,hcap,hrl,hq,u,hcl,hk⟩:=RdP.cells h (by simpa using hx);have hpos:0<(xs.map fun n=> [D.int .i64 n]).length:=by
   grind
  refine⟨some ⟨b,off,none⟩,cap,by grind,.inr ⟨b,off,rfl,IS (hcl 0 0 hpos (by decide)).1,fun m hm=> ?_⟩⟩;have g1:=(hcl m 0 (by grind) (by decide)).1;have hr:((xs.map fun n=> [D.int .i64 n])[m]'(by grind))=[D.int .i64 xs[m]]:=by grind
  have g2:=hk m 0 (by grind) (by grind);rw [show off+m*1+0=off+m by omega] at g1;rw [g1];generalize u m 0=y at g2;simp only [hr,List.getElem_cons_zero] at g2;cases g2
  rfl
theorem xHW{w:World}{ok:List (Nat×Nat)->Nat->Nat->Prop}{q:List (Nat×Nat)->Value->Nat->Prop}{v:Value}{rs:List Rowd}(h:RdP w ok q v (.sl 2 (rs.map Rowd.toD))):J5 w v rs:=by
 by_cases hx:rs=[]
 ·subst hx;obtain⟨ad,cap,rfl,_⟩:=RdP.shape h;exact⟨ad,cap,rfl,.inl rfl⟩
 ·obtain⟨b,off,cap,rfl,hcap,hrl,hq,u,hcl,hk⟩:=RdP.cells h (by simpa using hx);have hpos:0<(rs.map Rowd.toD).length:=by
   grind
  refine⟨some ⟨b,off,none⟩,cap,by grind,.inr ⟨b,off,rfl,IS (hcl 0 0 hpos (by decide)).1,fun j hj=> ?_⟩⟩;have g0:=(hcl j 0 (by grind) (by decide)).1;have g1:=(hcl j 1 (by grind) (by decide)).1;have hr:((rs.map Rowd.toD)[j]'(by grind))=Rowd.toD rs[j]:=by grind
  have k0:=hk j 0 (by grind) (by grind);have k1:=hk j 1 (by grind) (by grind);simp only [hr] at k0 k1;exact⟨u j 0,u j 1,by grind,g1,xGk k0,xHT k1⟩
end
theorem xHp{w:World}{g cap:Nat}{xs:List Org}(h:OrgRow w g cap xs):RowIn w (.slice (some ⟨g,0,none⟩) xs.length cap) xs:=by
 have hl:=h.lt;obtain⟨h0,cs,ty,lo,hi,h1,h2,h3,h4⟩:=h;refine⟨_,cap,rfl,.inr ⟨_,rfl,hl,fun j u hj=> ?_⟩⟩;have hj2:j<(BS xs).length:=(Zs.1 hj).1;rw [IP] at hj2;have e:j=j / 2*2+j % 2:=by omega
 grind [Gf,Addr.add,World.cell?]
theorem ORow.cellI{w:World}{te g cap:Nat}{xs:List Int}(h:ORow w te g cap 1 xs.length (xs.map (Value.int .i64))){j:Nat}(hj:j<xs.length):w.cell? ⟨g,j,none⟩=some (.int .i64 xs[j]):=by
 obtain⟨_,cur,h1,h2,h3,h4,h5⟩:=h;simp only [World.cell?,h1];have e:(cur.toList.take (xs.length*1))[j]? =some (.int .i64 xs[j]):=by grind
 grind
theorem ORow.holdsI{w:World}{te g cap:Nat}{xs:List Int}(h:ORow w te g cap 1 xs.length (xs.map (Value.int .i64))):Sort.Holds (Value.int .i64) w g 0 xs.toArray:=by
 intro j hj;have hj:j<xs.length:=by grind
 rw [Zc];refine⟨?_,?_⟩
 ·rw [h.cellI hj]
  grind
 ·obtain⟨_,cur,h1,_⟩:=h
  grind [World.frozen?]
theorem xIA{w:World}{te g cap n:Nat}{xs ys:List Int}{os:Array Obj}(h:ORow w te g cap 1 xs.length (xs.map (Value.int .i64)))(hl:ys.length=xs.length):
 ORow (Sort.grow (Sort.putRow (Value.int .i64) (Sort.ahead w n) g 0 ys.toArray) os) te g cap 1 ys.length (ys.map (Value.int .i64))/\w.heap.size<=(Sort.grow (Sort.putRow (Value.int .i64) (Sort.ahead w n) g 0 ys.toArray) os).heap.size/\
  ∀b,b<w.heap.size->b≠g->(Sort.grow (Sort.putRow (Value.int .i64) (Sort.ahead w n) g 0 ys.toArray) os).heap[b]? =w.heap[b]? :=by
 have hsz:(Sort.putRow (Value.int .i64) (Sort.ahead w n) g 0 ys.toArray).heap.size=w.heap.size:=by simp_all
 obtain⟨_,cur,h1,h2,h3,h4,h5⟩:=h;have hg:g<w.heap.size:=(Zb.1 h1).1;refine⟨⟨by simp,Sort.putCells (Value.int .i64) 0 ys.toArray cur,?_,by omega,h3,by grind [Sort.putCells],?_⟩,by simp_all,fun b hb hne=> ?_⟩
 ·rw [Sort.heap_grow_old _ _ (by grind)];simp only [Sort.putRow,Sort.mapBlock,Y6,Ys];show Option.map _ (w.heap[g]?)=_;rw [h1];rfl
 ·refine List.ext_getElem? fun j=> ?_
  grind [Sort.putCells]
 ·rw [Sort.heap_grow_old _ _ (by grind)];simp only [Sort.putRow,Sort.mapBlock,Y6];rw [Za (Yn hne)]
  rfl
section
variable {w0 wr:World} {B tR tI:Nat} {blk:Tg->Nat} {ks kl:List Int} {sm:Int->Int} {fr:Int->List Org} {fc:Int->Nat} {nx:Option Int} {kc:Nat}
theorem GRel.rekey(h:GRel w0 wr B tR tI blk ks kl sm fr fc nx kc){wr' :World}{kl' :List Int}(hos:wr'.os=wr.os/\wr'.tape=wr.tape/\wr'.output=wr.output)(hs:wr.heap.size<=wr'.heap.size)(ho:∀b,b<wr.heap.size->b≠blk .keys->wr'.heap[b]? =wr.heap[b]?)
 (hk:ORow wr' tI (blk .keys) kc 1 kl'.length (kl'.map (Value.int .i64))):GRel w0 wr' B tR tI blk ks kl' sm fr fc nx kc:=by
 have k:∀t,BW ks nx t->t≠ .keys->wr'.heap[blk t]? =wr.heap[blk t]? :=fun t ht hn=>ho _ (h.rng t ht).2 fun e=>hn (h.inj t .keys ht trivial e);refine⟨h.map.kept (k .map trivial (by simp)) (fun _ _=>rfl),fun x hx=>(k (.box x) hx (by simp)).trans (h.box x hx),fun x hx=>(k (.cel x) hx (by simp)).trans (h.cel x hx),fun x hx hn=>(h.frm x hx hn).kept (k (.frm x) ⟨hx,hn⟩ (by simp)),h.nil,hk,h.nodup,h.inj,fun t ht=>⟨(h.rng t ht).1,ZZ (h.rng t ht).2 hs⟩,?_⟩;have rk:=h.rng .keys trivial;exact h.below.trans ⟨hos.1,hos.2.1,hos.2.2,hs,fun b hb=>ho b (by omega) (by omega)⟩
end
def Gi(blk:Tg->Nat)(fr:Int->List Org)(fc:Int->Nat)(xs:List Int):List Value:=
 xs.flatMap fun x=> [.slice (some ⟨blk (.cel x),0,none⟩) 2 2,.slice (some ⟨blk (.frm x),0,none⟩) (fr x).length (fc x)]
theorem xHU(blk:Tg->Nat)(fr:Int->List Org)(fc:Int->Nat)(xs:List Int)(x:Int):
 Gi blk fr fc (xs++ [x])=Gi blk fr fc xs++ [.slice (some ⟨blk (.cel x),0,none⟩) 2 2,.slice (some ⟨blk (.frm x),0,none⟩) (fr x).length (fc x)]:=by simp [Gi]
section
variable [Inhabited Lb]
def Env.ended(E:Env)(w' :World)(lab:Nat->Option (Nat×List (Nat×Nat)))(hwf:Nat->Nat):Env:=
 { w:=w',hw:=fun b=>match lab b with |some _=>hwf b|none=>E.hw b,
   ow:=fun b=>match lab b with |some l=>some (.arr (.h 0) l.1 l.2) |none=>(E.ow b).bind fun l=>match l with | .arr (.h 0) _ _=>none|l=>some l,
   bx:=E.bx,hdr:=E.hdr }
theorem Qw{C:Ctx}{fn:Func}{I:Info}{σ:St}{tmps:Array Value}{a' :Act}{E:Env}(hi:Inv C σ.get tmps E)(hext:∀s b,C.ext s=some b->False)(hIe:I.ext=[])(hIl:I.lnt=[]){w' :World}{B6:Nat}(hB6:E.ow B6≠none)
 (hos:w'.os=E.w.os/\w'.tape=E.w.tape/\w'.output=E.w.output) (hsz:E.w.heap.size<=w'.heap.size) (hold:∀b,b<E.w.heap.size->b≠B6->w'.heap[b]? =E.w.heap[b]?) (hd:a'.defers=[]) (hnt:a'.tmps.size=C.nt)
 {lab:Nat->Option (Nat×List (Nat×Nat))} {hwf:Nat->Nat} (inj:∀b b' l,lab b=some l->lab b' =some l->b=b') (new:∀b l,lab b=some l->E.w.heap.size<=b/\b<w'.heap.size)
 {av:AV} {v:Value} (hnb:av.nbox=none) (hres:VR (E.ended w' lab hwf) aL (.h 0) av v) (hrun:(results fn a'.tmps).run C.P w' = .ok v w'):kW C fn I ⟨av,[],[]⟩ a' w' :=by
 have labn:∀b,b<E.w.heap.size->lab b=none:=fun b hb=>by
  cases h:lab b with
  |none=>rfl
  |some l=>grind
 have hinv:Inv C (St.get []) a'.tmps (E.ended w' lab hwf):=by
  refine { os:=hos.1.trans hi.os,tape:=hos.2.1.trans hi.tape,output:=hos.2.2.trans hi.output,size:=ZT hi.size hsz,hdr:=hi.hdr,old:=fun b hb h0=> ?_,new:=fun b hb=> ?_,inj:=fun b b' l h1 h2=> ?_,boxhw:=fun b s h=> ?_,nt:=hnt,tmp:=fun t=>trivial,box:=fun s cs h=>by(cases h),ext:=fun s b h=>(hext s b h).elim,base:=hi.base }
  ·obtain⟨h1,h2,h3⟩:=hi.old b hb h0;have hlt:b<E.w.heap.size:=ZZ hb hi.size
   grind [Env.ended]
  ·have hb:w'.heap.size<=b:=hb;have hl:lab b=none:=by
    cases h:lab b with
    |none=>rfl
    |some l=>grind
   obtain⟨h1,h2⟩:=hi.new b (by omega)
   grind [Env.ended]
  ·simp only [Env.ended] at h1 h2;cases g1:lab b with
   |some l1=>
    grind [Option.bind_eq_some_iff]
   |none=>
    cases g2:lab b' with
    |some l2=>
     grind [Option.bind_eq_some_iff]
    |none=>
     rw [g1] at h1;rw [g2] at h2;simp only at h1 h2;rw [Zq] at h1 h2;obtain⟨l1,a1,c1⟩:=h1;obtain⟨l2,a2,c2⟩:=h2;have e1:l1=l:=by grind
     have e2:l2=l:=by grind
     subst e1 e2;exact hi.inj _ _ _ a1 a2
  ·simp only [Env.ended] at h ⊢;cases g1:lab b with
   |some l1=>grind
   |none=>
    rw [g1] at h;simp only at h ⊢;rw [Zq] at h;obtain⟨l1,a1,c1⟩:=h;have e1:l1= .box s:=by grind
    subst e1;exact hi.boxhw b s a1
 refine⟨hd,fun tg ht _ _ m=>⟨v,E.ended w' lab hwf,E.ended w' lab hwf,rfl,⟨[],hinv⟩,hrun,{ w:=rfl,hw:=rfl,bx:=rfl,hdr:=rfl,ow:=fun b h=>h,env:=hinv.env,res:=ResAt.of hres hnb,outs:=fun n s o h1 h2=>by grind,outl:=by grind,lents:= ?_ }⟩⟩;rw [hIl] at ht;obtain rfl:tg=[]:=Z3.1 ht
 trivial
theorem Reach.tail{P:Program}{fn:Func}{I:Info}{σ:St}{ro:CallO}{c1 c2:Code}
 (h:∀C:Ctx,C.P=P->C.nt=I.nt->(∀s b,C.ext s=some b->s∈I.ext)->∀a w,R C σ a w->c1.wp P (Exit.then (fun a1 w1=>c2.wp P (fun e a' w' =>e= .ret/\kW C fn I ro a' w') a1 w1) (fun _ _ _=>False)) a w):Reach P fn I [.code c1,.code c2] σ ro:=by
 intro C hP hnt hext a w hR b cs;obtain⟨e,a1,w1,hq,harr⟩:=h C hP hnt hext a w hR b [.code c2] cs;cases e with
 |normal=>
  obtain⟨e2,a2,w2,⟨rfl,hq2⟩,todo,harr2⟩:=hq b [] cs;exact⟨a2,w2,todo,hq2,harr.trans harr2⟩
 |exit id=>exact hq.elim
 |goto l=>exact hq.elim
 |ret=>exact hq.elim
 |panic c=>exact hq.elim
 |outgrown=>exact hq.elim
theorem xHq{w:World}{ok:List (Nat×Nat)->Nat->Nat->Prop}{q:List (Nat×Nat)->Value->Nat->Prop}{g cap:Nat}{xs:List Org}(h:OrgRow w g cap xs)(hok:∀o,o<xs.length*2->ok [] g o)(hq:q [] (.slice (some ⟨g,0,none⟩) xs.length cap) 2):
 RdP w ok q (.slice (some ⟨g,0,none⟩) xs.length cap) (.sl 2 (xs.map Ty.org.toD)):=by
 obtain⟨hcap,cs,ty,lo,hi,t4,t5,t6,hc⟩:=h;refine .sl g 0 xs.length cap 2 _ (fun m k=>if h:m<xs.length/\k<2 then(bV xs[m])[k]'h.2 else .bool false) (by simp) hcap (fun r hr=> ?_) hq (fun m k hm hk=> ?_) (fun m k hm hk=> ?_)
 ·obtain⟨y,_,rfl⟩:=Zk.1 hr;exact Ty.toD_length .org y
 ·grind [World.cell?]
 ·have hm' :m<xs.length:=by grind
  have hr:(xs.map Ty.org.toD)[m]=Ty.org.toD xs[m]:=by grind
  have hk' :k<2:=by rw [hr] at hk;exact hk
  rw [dif_pos ⟨hm',hk'⟩];simp only [hr]
  match k,hk' with
  |0,_=>exact .int .i64 _
  |1,_=>exact .int .i64 _
end
end Go.Ab
end
section
namespace Go.Ab
open Go.Proofs Go.RowKit Go.Shelf
def As(n:Nat):Code->Option Code
 | .region i o d=>cond (i.beq n) (some (.region i o d)) none
 | .seq x y=>(As n x).orElse fun _=>As n y
 | .cond _ x y=>(As n x).orElse fun _=>As n y
 | .block _ x=>As n x
 | .loop x=>As n x
 |_=>none
noncomputable def Rg (n:Nat):Code:=((Tryz.f194.body).bind (As n)).getD .skip
theorem BH:GrpT Tryz.prog 3 209 210:=⟨Tryz.underlying3,Tryz.underlying209,Tryz.zeroValue210⟩
theorem xGf:(Tryz.prog.info? 3).map (fun i=>(i.zero,i.size,i.bytes))=some (some (.int .i64 0),1,8):=by kernel_rfl
theorem xGg:(Tryz.prog.info? 150).map (fun i=>(i.zero,i.size,i.bytes))=some (some (.agg #[.slice none 0 0,.slice none 0 0]),2,48):=by kernel_rfl
theorem O8:Tryz.prog.follows .mixedOrders=true:=by kernel_rfl
set_option maxRecDepth 100000
theorem xEq{a:Act}{w:World}(hs:a.tmps.size=153):(Rg 8).wp Tryz.prog (fun e a' w' =>e= .normal/\w' =w.alloc (.map #[] 0)/\a'.tmps[11]? =some (.map (some w.heap.size))/\Kp [3,4,5,6,9,10] a a') a w:=by
 dsimp only [Rg,Tryz.f194,Option.bind,As,Option.getD,cond,Nat.beq,Option.orElse];have hmm:= @run_makeMap Tryz.prog
 go_wp2
 exact AZ rfl (AZ rfl BE)
theorem xEr{a:Act}{w:World}(hs:a.tmps.size=153):(Rg 9).wp Tryz.prog (fun e a' w' =>e= .normal/\w' =w.alloc (.cells #[] 3 (0,0))/\a'.tmps[12]? =some (.slice (some ⟨w.heap.size,0,none⟩) 0 0)/\Kp [3,4,5,6,9,10,11] a a') a w:=by
 dsimp only [Rg,Tryz.f194,Option.bind,As,Option.getD,cond,Nat.beq,Option.orElse]
 go_wp2
 exact AZ rfl (AZ rfl BE)
theorem xD6{a:Act}{w:World}(hs:a.tmps.size=153){B5 n c:Nat}{p:Option Addr}(h5:a.tmps[5]? =some (.pointer (some ⟨B5,0,none⟩)))(hc:w.cell? ⟨B5,6,none⟩=some (.slice p n c)):(Rg 10).wp Tryz.prog (fun e a' w' =>e= .normal/\w' =w/\a'.tmps[55]? =some (.slice p n c)/\a'.tmps[56]? =some (.int .i64 n)/\a'.tmps[57]? =some (.int .i64 (0:Nat))/\Kp [3,4,5,6,9,10,11,12] a a') a w:=by
 dsimp only [Rg,Tryz.f194,Option.bind,As,Option.getD,cond,Nat.beq,Option.orElse];have h5:=A8 h5 hs (by decide)
 go_wp2
 exact AZ rfl (AZ rfl (AZ rfl (AZ rfl BE)))
theorem xD7{a:Act}{w:World}(hs:a.tmps.size=153){j n:Nat}(h56:a.tmps[56]? =some (.int .i64 n))(h57:a.tmps[57]? =some (.int .i64 j)):(Rg 11).wp Tryz.prog (fun e a' w' =>e= .normal/\w' =w/\a'.tmps[58]? =some (.bool (decide (j<n)))/\Kp [3,4,5,6,9,10,11,12,55,56,57] a a') a w:=by
 dsimp only [Rg,Tryz.f194,Option.bind,As,Option.getD,cond,Nat.beq,Option.orElse];have h56:=A8 h56 hs (by decide);have h57:=A8 h57 hs (by decide)
 go_wp2
 exact AZ rfl BE
theorem xD8{a:Act}{w:World}(hs:a.tmps.size=153){j n b off c:Nat}(hj:j<n){p1 p2:Option Addr}{n1 c1 n2 c2:Nat}(h55:a.tmps[55]? =some (.slice (some ⟨b,off,none⟩) n c))(h57:a.tmps[57]? =some (.int .i64 j))(hc:w.cell? ⟨b,off+j*2,none⟩=some (.slice p1 n1 c1))(hf:w.cell? ⟨b,off+j*2+1,none⟩=some (.slice p2 n2 c2)):
 (Rg 12).wp Tryz.prog (fun e a' w' =>e= .normal/\w' =w.alloc (.cells #[.slice p1 n1 c1,.slice p2 n2 c2] 150 (0,0))/\a'.tmps[14]? =some (.pointer (some ⟨w.heap.size,0,none⟩))/\Kp [3,4,5,6,9,10,11,12,55,56,57] a a') a w:=by
 dsimp only [Rg,Tryz.f194,Option.bind,As,Option.getD,cond,Nat.beq,Option.orElse];have h55:=A8 h55 hs (by decide);have h57:=A8 h57 hs (by decide)
 go_wp2
 exact AZ rfl (AZ rfl (AZ rfl BE))
theorem xD9{a:Act}{w:World}(hs:a.tmps.size=153){rb i b off c n:Nat}(hj:i<n){x:Int}(h14:a.tmps[14]? =some (.pointer (some ⟨rb,0,none⟩)))(h9:a.tmps[9]? =some (.int .i64 i))(hc:w.cell? ⟨rb,0,none⟩=some (.slice (some ⟨b,off,none⟩) n c))(hx:w.cell? ⟨b,off+i,none⟩=some (.int .i64 x)):
 (Rg 13).wp Tryz.prog (fun e a' w' =>e= .normal/\w' =w/\a'.tmps[15]? =some (.int .i64 x)/\Kp [3,4,5,6,9,10,11,12,14,55,56,57] a a') a w:=by
 dsimp only [Rg,Tryz.f194,Option.bind,As,Option.getD,cond,Nat.beq,Option.orElse];have h14:=A8 h14 hs (by decide);have h9:=A8 h9 hs (by decide)
 go_wp2
 exact AZ rfl (AZ (v:= .int .i64 x) rfl (AZ rfl (AZ rfl (AZ rfl (AZ rfl BE)))))
theorem xEa{a:Act}{w:World}(hs:a.tmps.size=153){M:Nat}{bx:Int->Nat}{ks:List Int}{x:Int}(hm:PMap w M bx ks)(h11:a.tmps[11]? =some (.map (some M)))(h15:a.tmps[15]? =some (.int .i64 x)):
 (Rg 14).wp Tryz.prog (fun e a' w' =>e= .normal/\w' =w/\a'.tmps[69]? =some (.bool (!decide (x∈ks)))/\Kp [3,4,5,6,9,10,11,12,14,15,55,56,57] a a') a w:=by
 dsimp only [Rg,Tryz.f194,Option.bind,As,Option.getD,cond,Nat.beq,Option.orElse];have h11:=A8 h11 hs (by decide);have h15:=A8 h15 hs (by decide);have hl:=BT BH hm x;by_cases hx:x∈ks
 ·rw [Zt hx,pbx] at hl
  go_wp2
  exact AZ rfl (AZ rfl (AZ rfl (AZ rfl BE)))
 ·rw [Za hx] at hl
  go_wp2
  exact AZ rfl (AZ rfl (AZ rfl (AZ rfl BE)))
theorem xEb{a:Act}{w:World}(hs:a.tmps.size=153){M:Nat}{bx:Int->Nat}{ks:List Int}{x:Int}(hm:PMap w M bx ks)(hx:x ∉ ks)(h11:a.tmps[11]? =some (.map (some M)))(h15:a.tmps[15]? =some (.int .i64 x)):
 (Rg 15).wp Tryz.prog (fun e a' w' =>e= .normal/\PMap w' M (fun y=>if y=x then w.heap.size+1 else bx y) (ks++ [x])/\((w.alloc (.cells #[.int .i64 x,.int .i64 0] 3)).alloc (.cells #[.slice (some ⟨w.heap.size,0,none⟩) 2 2,.slice none 0 0] 150)).grownBy w' (some M)/\
   w'.heap.size=((w.alloc (.cells #[.int .i64 x,.int .i64 0] 3)).alloc (.cells #[.slice (some ⟨w.heap.size,0,none⟩) 2 2,.slice none 0 0] 150)).heap.size/\Kp [3,4,5,6,9,10,11,12,14,15,55,56,57] a a') a w:=by
 dsimp only [Rg,Tryz.f194,Option.bind,As,Option.getD,cond,Nat.beq,Option.orElse];have h11:=A8 h11 hs (by decide);have h15:=A8 h15 hs (by decide);have hlt:=hm.lt;obtain⟨w',hrun,r1,r2,r3⟩:=xH1 BH (hm.kept ((BB (w:=w.alloc (.cells #[.int .i64 x,.int .i64 0] 3)) (o:= .cells #[.slice (some ⟨w.heap.size,0,none⟩) 2 2,.slice none 0 0] 150) (by grind [BX])).trans (BB hlt)) (fun _ _=>rfl)) x hx (w.heap.size+1);rw [pbx] at hrun
 go_wp2
 exact AZ rfl (AZ rfl (AZ rfl (AZ rfl (AZ rfl (AZ rfl BE)))))
theorem xEc{a:Act}{w:World}(hs:a.tmps.size=153){kb kc:Nat}{ks:List Int}{x:Int}(hlen:ks.length<=1000)(hk:ORow w 3 kb kc 1 ks.length (ks.map (Value.int .i64)))(h12:a.tmps[12]? =some (.slice (some ⟨kb,0,none⟩) ks.length kc))(h15:a.tmps[15]? =some (.int .i64 x)):
 (Rg 16).wp Tryz.prog (fun e a' w' =>e= .normal/\∃kb' kc',ORow w' 3 kb' kc' 1 (ks++ [x]).length ((ks++ [x]).map (Value.int .i64))/\(w.alloc (.cells #[.int .i64 x] 3)).grownBy w' (some kb)/\(kb' =kb\/kb' =(w.alloc (.cells #[.int .i64 x] 3)).heap.size)/\a'.tmps[12]? =some (.slice (some ⟨kb',0,none⟩) (ks++ [x]).length kc')/\Kp [3,4,5,6,9,10,11,14,15,55,56,57] a a') a w:=by
 dsimp only [Rg,Tryz.f194,Option.bind,As,Option.getD,cond,Nat.beq,Option.orElse];have h12:=A8 h12 hs (by decide);have h15:=A8 h15 hs (by decide);obtain⟨i0,hi,hz0,hz1,hz2⟩:=info_parts xGf;have hkl:kb<w.heap.size:=by
  obtain⟨_,cur,h,_⟩:=hk
  grind
 have hnew:(w.alloc (.cells #[.int .i64 x] 3)).heap[w.heap.size]? =some (.cells #[.int .i64 x] 3 (0,0)):=by
  show(Array.push _ _)[_]? =_
  grind
 have hcell:(w.alloc (.cells #[.int .i64 x] 3)).cell? ⟨w.heap.size,0,none⟩=some (.int .i64 x):=by simp_all
 go_wp2_with (at_builtin;go_loud (refine xLd (sz:=1) (bytes:=8) _ Tryz.underlying132 rfl _ _ rfl i0 hi hz0 hz1 hz2 rfl (by decide) (by decide) 0 (n:=ks.length) (xs:=ks.map (Value.int .i64)) (v:= .slice (some ⟨kb,0,none⟩) ks.length kc) (by simp [Act.eval,hs]) (hk.kept (BB hkl)).owns ⟨w.heap.size,0,none⟩ 1 1 [.int .i64 x] (by simp [Act.eval,hs]) rfl (fun j u hj=>by(match j,hj with |0,hj=>simp at hj;subst hj;exact hcell)) (by simp [Value.oneCell']) (by omega) (Zg _) ?_;intro v' w' o1 o2 o3 o4;obtain⟨kb',kc',rfl,_,o5⟩:=ORow.of_owns o1 (by omega)))
 refine⟨kb',kc',by grind,o2,by simpa [Value.ownBlock] using o4,⟨rfl,rfl⟩,?_⟩;exact AZ rfl (AZ rfl (AZ rfl (AZ rfl (AZ rfl BE))))
theorem xEf{a:Act}{w:World}(hs:a.tmps.size=153){j:Nat}(hj:j<1000)(h57:a.tmps[57]? =some (.int .i64 j)):
 (Rg 19).wp Tryz.prog (fun e a' w' =>e= .normal/\w' =w/\a'.tmps[57]? =some (.int .i64 (j+1:Nat))/\Kp [3,4,5,6,9,10,11,12,55,56] a a') a w:=by
 dsimp only [Rg,Tryz.f194,Option.bind,As,Option.getD,cond,Nat.beq,Option.orElse];have h57:=A8 h57 hs (by decide)
 go_wp2
 exact AZ rfl (AZ rfl BE)
end Go.Ab
end
section
namespace Go.Ab
open Go.Proofs Go.RowKit Go.Shelf
set_option maxRecDepth 100000
theorem xEd{a:Act}{w:World}(hs:a.tmps.size=153){M rb cb k b off nn c:Nat}{bx:Int->Nat}{ks:List Int}{x s n:Int}(hm:PMap w M bx ks)(hx:x∈ks)(hk:k<nn)(h11:a.tmps[11]? =some (.map (some M)))(h15:a.tmps[15]? =some (.int .i64 x))(h10:a.tmps[10]? =some (.int .i64 k))(h14:a.tmps[14]? =some (.pointer (some ⟨rb,0,none⟩)))
 (hbox:w.cell? ⟨bx x,0,none⟩=some (.slice (some ⟨cb,0,none⟩) 2 2)) (hcel:w.cell? ⟨cb,1,none⟩=some (.int .i64 s)) (hrow:w.cell? ⟨rb,0,none⟩=some (.slice (some ⟨b,off,none⟩) nn c)) (hn:w.cell? ⟨b,off+k,none⟩=some (.int .i64 n)) (hfz:w.frozen? ⟨cb,1,none⟩=false):
 (Rg 17).wp Tryz.prog (fun e a' w' =>e= .normal/\w' =w.drew.setCell ⟨cb,1,none⟩ (.int .i64 (IntKind.i64.wrap (s+n)))/\Kp [3,4,5,6,9,10,11,12,14,15,55,56,57] a a') a w:=by
 dsimp only [Rg,Tryz.f194,Option.bind,As,Option.getD,cond,Nat.beq,Option.orElse];have h11:=A8 h11 hs (by decide);have h15:=A8 h15 hs (by decide);have h10:=A8 h10 hs (by decide);have h14:=A8 h14 hs (by decide);have hl:=BT BH (w:=w.drew) hm x;rw [Zt hx,pbx] at hl;refine Pu (fun u=>u=w.drew) 21 O8 ?_;show Cf _ _ _ _ _ _ 22 _ _ w.drew;have hT:w.drew=w.drew:=rfl;refine A7 (v:=(.map (some M))) 0 rfl (by kernel_rfl) (fun _ _ _ h=>by cases h.1) rfl hT (fun w hw=> ?_) ?_
 ·obtain rfl:=hw
  any_goals go_simp
 refine A7 (v:=(.int .i64 x)) 1 rfl (by kernel_rfl) (fun _ _ _ h=>by cases h.1) rfl hT (fun w hw=> ?_) ?_
 ·obtain rfl:=hw
  any_goals go_simp
 refine A7 (v:=(.pointer (some ⟨bx x,0,none⟩))) 2 rfl (by kernel_rfl) (fun _ _ _ h=>by cases h.1) rfl hT (fun w hw=> ?_) ?_
 ·obtain rfl:=hw
  any_goals go_simp
 refine A7 (v:=(.pointer (some ⟨bx x,0,none⟩))) 3 rfl (by kernel_rfl) (fun _ _ _ h=>by cases h.1) rfl hT (fun w hw=> ?_) ?_
 ·obtain rfl:=hw
  any_goals go_simp
 refine A7 (v:=(.pointer (some ⟨bx x,0,none⟩))) 4 rfl (by kernel_rfl) (fun _ _ _ h=>by cases h.1) rfl hT (fun w hw=> ?_) ?_
 ·obtain rfl:=hw
  any_goals go_simp
 refine A7 (v:=(.slice (some ⟨cb,0,none⟩) 2 2)) 5 rfl (by kernel_rfl) (fun _ _ _ h=>by cases h.1) rfl hT (fun w hw=> ?_) ?_
 ·obtain rfl:=hw
  any_goals go_simp
 refine A7 (v:=(.map (some M))) 6 rfl (by kernel_rfl) (fun _ _ _ h=>by cases h.1) rfl hT (fun w hw=> ?_) ?_
 ·obtain rfl:=hw
  any_goals go_simp
 refine A7 (v:=(.int .i64 x)) 7 rfl (by kernel_rfl) (fun _ _ _ h=>by cases h.1) rfl hT (fun w hw=> ?_) ?_
 ·obtain rfl:=hw
  any_goals go_simp
 refine A7 (v:=(.pointer (some ⟨bx x,0,none⟩))) 8 rfl (by kernel_rfl) (fun _ _ _ h=>by cases h.1) rfl hT (fun w hw=> ?_) ?_
 ·obtain rfl:=hw
  any_goals go_simp
 refine A7 (v:=(.pointer (some ⟨bx x,0,none⟩))) 9 rfl (by kernel_rfl) (fun _ _ _ h=>by cases h.1) rfl hT (fun w hw=> ?_) ?_
 ·obtain rfl:=hw
  any_goals go_simp
 refine A7 (v:=(.pointer (some ⟨bx x,0,none⟩))) 10 rfl (by kernel_rfl) (fun _ _ _ h=>by cases h.1) rfl hT (fun w hw=> ?_) ?_
 ·obtain rfl:=hw
  any_goals go_simp
 refine A7 (v:=(.slice (some ⟨cb,0,none⟩) 2 2)) 11 rfl (by kernel_rfl) (fun _ _ _ h=>by cases h.1) rfl hT (fun w hw=> ?_) ?_
 ·obtain rfl:=hw
  any_goals go_simp
 refine A7 (v:=(.pointer (some ⟨cb,1,none⟩))) 12 rfl (by kernel_rfl) (fun _ _ _ h=>by cases h.1) rfl hT (fun w hw=> ?_) ?_
 ·obtain rfl:=hw
  any_goals go_simp
 refine A7 (v:=(.int .i64 s)) 13 rfl (by kernel_rfl) (fun _ _ _ h=>by cases h.1) rfl hT (fun w hw=> ?_) ?_
 ·obtain rfl:=hw
  any_goals go_simp
 refine A7 (v:=(.pointer (some ⟨rb,0,none⟩))) 14 rfl (by kernel_rfl) (fun _ _ _ h=>by cases h.1) rfl hT (fun w hw=> ?_) ?_
 ·obtain rfl:=hw
  any_goals go_simp
 refine A7 (v:=(.slice (some ⟨b,off,none⟩) nn c)) 15 rfl (by kernel_rfl) (fun _ _ _ h=>by cases h.1) rfl hT (fun w hw=> ?_) ?_
 ·obtain rfl:=hw
  any_goals go_simp
 refine A7 (v:=(.int .i64 k)) 16 rfl (by kernel_rfl) (fun _ _ _ h=>by cases h.1) rfl hT (fun w hw=> ?_) ?_
 ·obtain rfl:=hw
  any_goals go_simp
 refine A7 (v:=(.pointer (some ⟨b,off+k,none⟩))) 17 rfl (by kernel_rfl) (fun _ _ _ h=>by cases h.1) rfl hT (fun w hw=> ?_) ?_
 ·obtain rfl:=hw
  any_goals go_simp
 refine A7 (v:=(.int .i64 n)) 18 rfl (by kernel_rfl) (fun _ _ _ h=>by cases h.1) rfl hT (fun w hw=> ?_) ?_
 ·obtain rfl:=hw
  any_goals go_simp
 refine A7 (v:=(.int .i64 (IntKind.i64.wrap (s+n)))) 19 rfl (by kernel_rfl) (fun _ _ _ h=>by cases h.1) rfl hT (fun w hw=> ?_) ?_
 ·obtain rfl:=hw
  any_goals go_simp
 refine A7 (v:=(.pointer (some ⟨cb,1,none⟩))) 20 rfl (by kernel_rfl) (fun _ _ _ h=>by cases h.1) rfl hT (fun w hw=> ?_) ?_
 ·obtain rfl:=hw
  any_goals go_simp
 refine En 21 rfl (by kernel_rfl) rfl fun K hK=> ?_
 go_simp
 refine hK _ _ ⟨.inl (by kernel_rfl),Ps (by kernel_rfl) ⟨rfl,rfl,?_⟩ _⟩
 iterate 21 refine AZ rfl ?_
 exact BE
theorem xEe{a:Act}{w:World}(hs:a.tmps.size=153){M rb fn fc rn rc:Nat}{fp rp:Option Addr}{bx:Int->Nat}{ks:List Int}{x:Int}{os:List Org}(hm:PMap w M bx ks)(hx:x∈ks)(h11:a.tmps[11]? =some (.map (some M)))(h15:a.tmps[15]? =some (.int .i64 x))(h14:a.tmps[14]? =some (.pointer (some ⟨rb,0,none⟩)))
 (hbl:bx x<w.heap.size) (hrl:rb<w.heap.size) (hbox:w.cell? ⟨bx x,1,none⟩=some (.slice fp fn fc)) (hrow:w.cell? ⟨rb,1,none⟩=some (.slice rp rn rc)) (hfz:w.frozen? ⟨bx x,1,none⟩=false)
 (hU:Calls Tryz.prog 239 #[.slice fp fn fc,.slice rp rn rc] w.drew fun e W' =>∃br cap,e= .returned (.slice (some ⟨br,0,none⟩) os.length cap)/\Below w.heap.size w.drew W' /\w.heap.size<=br/\OrgRow W' br cap os):
 (Rg 18).wp Tryz.prog (fun e a' w' =>e= .normal/\(∃br cap W',Below w.heap.size w.drew W' /\w.heap.size<=br/\OrgRow W' br cap os/\w' =W'.setCell ⟨bx x,1,none⟩ (.slice (some ⟨br,0,none⟩) os.length cap))/\Kp [3,4,5,6,9,10,11,12,14,15,55,56,57] a a') a w:=by
 dsimp only [Rg,Tryz.f194,Option.bind,As,Option.getD,cond,Nat.beq,Option.orElse];have h11:=A8 h11 hs (by decide);have h15:=A8 h15 hs (by decide);have h14:=A8 h14 hs (by decide);refine Pu (fun u=>PMap u M bx ks/\u.cell? ⟨bx x,1,none⟩=some (.slice fp fn fc)/\u.cell? ⟨rb,1,none⟩=some (.slice rp rn rc)) 14 O8 ?_;show Cf _ _ _ _ _ _ 15 _ _ w.drew;have hT:PMap w.drew M bx ks/\w.drew.cell? ⟨bx x,1,none⟩=some (.slice fp fn fc)/\w.drew.cell? ⟨rb,1,none⟩=some (.slice rp rn rc):=⟨hm,hbox,hrow⟩;refine A7 (v:=(.map (some M))) 0 rfl (by kernel_rfl) (fun _ _ _ h=>by cases h.1) rfl hT (fun w hw=> ?_) ?_
 ·obtain⟨t1,t2,t3⟩:=hw;have hl:=BT BH t1 x;rw [Zt hx,pbx] at hl
  any_goals go_simp
 refine A7 (v:=(.int .i64 x)) 1 rfl (by kernel_rfl) (fun _ _ _ h=>by cases h.1) rfl hT (fun w hw=> ?_) ?_
 ·obtain⟨t1,t2,t3⟩:=hw;have hl:=BT BH t1 x;rw [Zt hx,pbx] at hl
  any_goals go_simp
 refine A7 (v:=(.pointer (some ⟨bx x,0,none⟩))) 2 rfl (by kernel_rfl) (fun _ _ _ h=>by cases h.1) rfl hT (fun w hw=> ?_) ?_
 ·obtain⟨t1,t2,t3⟩:=hw;have hl:=BT BH t1 x;rw [Zt hx,pbx] at hl
  any_goals go_simp
 refine A7 (v:=(.map (some M))) 3 rfl (by kernel_rfl) (fun _ _ _ h=>by cases h.1) rfl hT (fun w hw=> ?_) ?_
 ·obtain⟨t1,t2,t3⟩:=hw;have hl:=BT BH t1 x;rw [Zt hx,pbx] at hl
  any_goals go_simp
 refine A7 (v:=(.int .i64 x)) 4 rfl (by kernel_rfl) (fun _ _ _ h=>by cases h.1) rfl hT (fun w hw=> ?_) ?_
 ·obtain⟨t1,t2,t3⟩:=hw;have hl:=BT BH t1 x;rw [Zt hx,pbx] at hl
  any_goals go_simp
 refine A7 (v:=(.pointer (some ⟨bx x,0,none⟩))) 5 rfl (by kernel_rfl) (fun _ _ _ h=>by cases h.1) rfl hT (fun w hw=> ?_) ?_
 ·obtain⟨t1,t2,t3⟩:=hw;have hl:=BT BH t1 x;rw [Zt hx,pbx] at hl
  any_goals go_simp
 refine A7 (v:=(.pointer (some ⟨bx x,0,none⟩))) 6 rfl (by kernel_rfl) (fun _ _ _ h=>by cases h.1) rfl hT (fun w hw=> ?_) ?_
 ·obtain⟨t1,t2,t3⟩:=hw;have hl:=BT BH t1 x;rw [Zt hx,pbx] at hl
  any_goals go_simp
 refine A7 (v:=(.pointer (some ⟨bx x,1,none⟩))) 7 rfl (by kernel_rfl) (fun _ _ _ h=>by cases h.1) rfl hT (fun w hw=> ?_) ?_
 ·obtain⟨t1,t2,t3⟩:=hw;have hl:=BT BH t1 x;rw [Zt hx,pbx] at hl
  any_goals go_simp
 refine A7 (v:=(.slice fp fn fc)) 8 rfl (by kernel_rfl) (fun _ _ _ h=>by cases h.1) rfl hT (fun w hw=> ?_) ?_
 ·obtain⟨t1,t2,t3⟩:=hw;have hl:=BT BH t1 x;rw [Zt hx,pbx] at hl
  any_goals go_simp
 refine A7 (v:=(.pointer (some ⟨rb,1,none⟩))) 9 rfl (by kernel_rfl) (fun _ _ _ h=>by cases h.1) rfl hT (fun w hw=> ?_) ?_
 ·obtain⟨t1,t2,t3⟩:=hw;have hl:=BT BH t1 x;rw [Zt hx,pbx] at hl
  any_goals go_simp
 refine A7 (v:=(.slice rp rn rc)) 10 rfl (by kernel_rfl) (fun _ _ _ h=>by cases h.1) rfl hT (fun w hw=> ?_) ?_
 ·obtain⟨t1,t2,t3⟩:=hw;have hl:=BT BH t1 x;rw [Zt hx,pbx] at hl
  any_goals go_simp
 refine En 11 rfl (by kernel_rfl) rfl fun K hK=> ?_
 go_simp
 go_at_call 239
 refine hU.mono ?_;rintro e W' ⟨br,cap,rfl,hb,hbr,hor⟩;have kb:∀b,b<w.heap.size->W'.heap[b]? =w.heap[b]? :=fun b hb' =>hb.block b hb';have c1:W'.cell? ⟨bx x,1,none⟩=some (.slice fp fn fc):=by rw [<-hbox];simp only [World.cell?,kb _ hbl]
 have c2:W'.cell? ⟨rb,1,none⟩=some (.slice rp rn rc):=by rw [<-hrow];simp only [World.cell?,kb _ hrl]
 have c3:W'.frozen? ⟨bx x,1,none⟩=false:=by rw [<-hfz];simp only [World.frozen?,kb _ hbl]
 have hT' :PMap W' M bx ks/\W'.cell? ⟨bx x,1,none⟩=some (.slice fp fn fc)/\W'.cell? ⟨rb,1,none⟩=some (.slice rp rn rc):=⟨hm.kept (kb _ hm.lt) (fun _ _=>rfl),c1,c2⟩;refine hK _ _ ⟨.inr hT',?_⟩;refine En 12 rfl (by kernel_rfl) rfl fun K hK=> ?_
 go_simp
 refine hK _ _ ⟨.inr hT',?_⟩;refine En 13 rfl (by kernel_rfl) rfl fun K hK=> ?_
 go_simp
 refine hK _ _ ⟨.inr hT',?_⟩;refine En 14 rfl (by kernel_rfl) rfl fun K hK=> ?_
 go_simp
 refine hK _ _ ⟨.inl (by kernel_rfl),Ps (by kernel_rfl) ⟨rfl,⟨br,cap,W',hb,hbr,hor,rfl⟩,?_⟩ _⟩
 iterate 14 refine AZ rfl ?_
 exact BE
theorem xK9(a b c:Int)(w:World):Calls Tryz.prog 177 #[.int .i64 a,.int .i64 b,.int .i64 c] w fun e w' =>e= .returned (.bool (decide (b<=a)&&decide (a<=c)))/\w' =w:=by
 go_enter Tryz.func177,Tryz.ntmps177
 go_wp2
 ·rename_i h
  go_ret
  simp_all
 ·rename_i h
  go_ret
  rw [Zw (by omega),ZY]
  simp_all
theorem xGl(n:Int)(w:World):Calls Tryz.prog 182 #[.int .i64 n] w fun e w' =>e= .returned (.bool (xO n))/\w' =w:=by
 have hs:∀(m:Int) (f:Ending->World->Prop),f (.returned (.bool (xO m))) w->Calls Tryz.prog 177 #[.int .i64 m,.int .i64 (-1000000000),.int .i64 1000000000] w f:=fun m f hf=>(xK9 m _ _ w).mono fun e w' ⟨he,hw⟩=>by rw [he,hw];exact hf
 go_enter Tryz.func182,Tryz.ntmps182
 go_wp2_with (go_at_call 177;refine hs _ _ ?_)
 go_ret
 simp_all
theorem Oo [Inhabited Lb]{fn:Func}{tmps:Array Value}{w:World}{t b:Nat}{u0 u1 u2 u3 u4 u5 u6:Value}{ty:TypeId}(hr:fn.results= #[.cell t 38])(ht:tmps.getD t undef= .pointer (some ⟨b,0,none⟩))(hb:w.heap[b]? =some (.cells #[u0,u1,u2,u3,u4,u5,u6] ty (0,0))):
 (results fn tmps).run Tryz.prog w= .ok (.agg #[u0,u1,u2,u3,u4,u5,u6]) w:=by
 refine qS (rs:=[.cell t 38]) (vs:=[.agg #[u0,u1,u2,u3,u4,u5,u6]]) (by rw [hr]) rfl fun i x v hx hv=> ?_
 match i,hx,hv with
 |0,hx,hv=>
  cases hx;cases hv;have c0:w.cell? ⟨b,0,none⟩=some u0:=by grind [World.cell?]
  have c1:w.cell? ⟨b,1,none⟩=some u1:=by grind [World.cell?]
  have c2:w.cell? ⟨b,2,none⟩=some u2:=by grind [World.cell?]
  have c3:w.cell? ⟨b,3,none⟩=some u3:=by grind [World.cell?]
  have c4:w.cell? ⟨b,4,none⟩=some u4:=by grind [World.cell?]
  have c5:w.cell? ⟨b,5,none⟩=some u5:=by simp only [World.cell?,hb];rfl
  have c6:w.cell? ⟨b,6,none⟩=some u6:=by simp only [World.cell?,hb];rfl
  unfold kR;simp only [ht]
  go_simp
theorem xDS [Inhabited Lb](w:World):Calls Tryz.prog 41 #[.int .i64 5] w fun e w' =>e= .returned (.agg #[.int .i64 6,.int .i64 5,.int .i64 0,.string ⟨#[]⟩,.slice none 0 0,.slice none 0 0,.slice none 0 0])/\Below w.heap.size w w' :=by
 go_enter Tryz.func41,Tryz.ntmps41
 go_wp2
 refine bodyPost_ret (Oo rfl rfl (by show(Array.push _ _)[_]? =_;rw [Y0,Zt rfl])) rfl ?_;exact⟨rfl,(Below.refl _ _).alloc (Zn _) _⟩
theorem xEg{a:Act}{w:World}(hs:a.tmps.size=153){R:World->Prop}{v:Value}(h12:a.tmps[12]? =some v)(hS:Calls Tryz.prog 240 #[v] w fun e w' =>e= .returned (.tuple #[])/\R w'):
 (Rg 20).wp Tryz.prog (fun e a' w' =>e= .normal/\R w' /\Kp [3,4,5,6,9,10,11,12] a a') a w:=by
 dsimp only [Rg,Tryz.f194,Option.bind,As,Option.getD,cond,Nat.beq,Option.orElse];have h12:=A8 h12 hs (by decide)
 go_wp2_with (go_at_call 240;refine hS.mono ?_;rintro e W' ⟨rfl,hR⟩)
 exact⟨hR,AZ rfl (AZ rfl BE)⟩
theorem xEh{a:Act}{w:World}(hs:a.tmps.size=153){B3 B4:Nat}{ta tb:ByteArray}(h3:a.tmps[3]? =some (.pointer (some ⟨B3,0,none⟩)))(h4:a.tmps[4]? =some (.pointer (some ⟨B4,0,none⟩)))(hc:w.cell? ⟨B3,3,none⟩=some (.string ta))(hd:w.cell? ⟨B4,3,none⟩=some (.string tb)):
 (Rg 21).wp Tryz.prog (fun e a' w' =>e= .normal/\w' =(w.alloc (.cells #[.string ta,.string tb] 9)).alloc (.cells #[.int .i64 5,.int .i64 0,.int .i64 0,.string ⟨#[]⟩,.slice none 0 0,.slice (some ⟨w.heap.size,0,none⟩) 2 2,.slice none 0 0] 38)/\a'.tmps[16]? =some (.pointer (some ⟨w.heap.size+1,0,none⟩))/\Kp [3,4,5,6,9,10,11,12] a a') a w:=by
 dsimp only [Rg,Tryz.f194,Option.bind,As,Option.getD,cond,Nat.beq,Option.orElse];have h3:=A8 h3 hs (by decide);have h4:=A8 h4 hs (by decide)
 go_wp2
 iterate 7 refine AZ rfl ?_
 exact BE
theorem xEi{a:Act}{w:World}(hs:a.tmps.size=153){p:Option Addr}{n c:Nat}(h12:a.tmps[12]? =some (.slice p n c)):
 (Rg 22).wp Tryz.prog (fun e a' w' =>e= .normal/\w' =w/\a'.tmps[124]? =some (.slice p n c)/\a'.tmps[125]? =some (.int .i64 n)/\a'.tmps[126]? =some (.int .i64 (0:Nat))/\Kp [3,4,5,6,9,10,11,12,16] a a') a w:=by
 dsimp only [Rg,Tryz.f194,Option.bind,As,Option.getD,cond,Nat.beq,Option.orElse];have h12:=A8 h12 hs (by decide)
 go_wp2
 exact AZ rfl (AZ rfl (AZ rfl BE))
theorem xEj{a:Act}{w:World}(hs:a.tmps.size=153){j n:Nat}(h56:a.tmps[125]? =some (.int .i64 n))(h57:a.tmps[126]? =some (.int .i64 j)):(Rg 23).wp Tryz.prog (fun e a' w' =>e= .normal/\w' =w/\a'.tmps[127]? =some (.bool (decide (j<n)))/\Kp [3,4,5,6,9,10,11,12,16,124,125,126] a a') a w:=by
 dsimp only [Rg,Tryz.f194,Option.bind,As,Option.getD,cond,Nat.beq,Option.orElse];have h56:=A8 h56 hs (by decide);have h57:=A8 h57 hs (by decide)
 go_wp2
 exact AZ rfl BE
theorem xEk{a:Act}{w:World}(hs:a.tmps.size=153){j n b c:Nat}(hj:j<n){x:Int}(h124:a.tmps[124]? =some (.slice (some ⟨b,0,none⟩) n c))(h126:a.tmps[126]? =some (.int .i64 j))(hc:w.cell? ⟨b,j,none⟩=some (.int .i64 x)):
 (Rg 24).wp Tryz.prog (fun e a' w' =>e= .normal/\w' =w/\a'.tmps[18]? =some (.int .i64 x)/\Kp [3,4,5,6,9,10,11,12,16,124,125,126] a a') a w:=by
 dsimp only [Rg,Tryz.f194,Option.bind,As,Option.getD,cond,Nat.beq,Option.orElse];have h124:=A8 h124 hs (by decide);have h126:=A8 h126 hs (by decide);have hc0:w.cell? ⟨b,0+j,none⟩=some (.int .i64 x):=by grind
 go_wp2
 exact AZ (v:= .int .i64 x) rfl (AZ rfl (AZ rfl BE))
theorem xEl{a:Act}{w:World}(hs:a.tmps.size=153){M cb:Nat}{bx:Int->Nat}{ks:List Int}{x s:Int}(hm:PMap w M bx ks)(hx:x∈ks)(h11:a.tmps[11]? =some (.map (some M)))(h18:a.tmps[18]? =some (.int .i64 x))
 (hbox:w.cell? ⟨bx x,0,none⟩=some (.slice (some ⟨cb,0,none⟩) 2 2)) (hcel:w.cell? ⟨cb,1,none⟩=some (.int .i64 s)):
 (Rg 25).wp Tryz.prog (fun e a' w' =>e= .normal/\w' =w/\a'.tmps[139]? =some (.bool (!xO s))/\Kp [3,4,5,6,9,10,11,12,16,18,124,125,126] a a') a w:=by
 dsimp only [Rg,Tryz.f194,Option.bind,As,Option.getD,cond,Nat.beq,Option.orElse];have h11:=A8 h11 hs (by decide);have h18:=A8 h18 hs (by decide);have hl:=BT BH hm x;rw [Zt hx,pbx] at hl
 go_wp2_with (go_at_call 182;refine(xGl _ _).mono ?_;rintro e W' ⟨rfl,rfl⟩)
 iterate 10 refine AZ rfl ?_
 exact BE
theorem Bi{w:World}{b o:Nat}{cs cs' :Array Value}{ty:TypeId}{v:Value}(h:w.heap[b]? =some (.cells cs ty (0,0)))(e:cs.setIfInBounds o v=cs'):Chg w (w.setCell ⟨b,o,none⟩ v) b (.cells cs' ty (0,0)):=by
 subst e;refine⟨rfl,rfl,rfl,by simp_all,?_,fun k hk=>Below.heap_setCell w _ v k hk⟩
 grind [World.setCell]
theorem Chg.trans{w w1 w2:World}{b:Nat}{o1 o2:Obj}(h:Chg w w1 b o1)(g:Chg w1 w2 b o2):Chg w w2 b o2:=
 ⟨g.os.trans h.os,g.tape.trans h.tape,g.output.trans h.output,g.size.trans h.size,g.at',fun k hk=>(g.other k hk).trans (h.other k hk)⟩
theorem xEm [Inhabited Lb]{a:Act}{w:World}(hs:a.tmps.size=153){B6:Nat}{u0 u1 u2 u3 u4 u5 u6:Value}{ty:TypeId}(h6:a.tmps[6]? =some (.pointer (some ⟨B6,0,none⟩)))(hb:w.heap[B6]? =some (.cells #[u0,u1,u2,u3,u4,u5,u6] ty (0,0))):
 (Rg 26).wp Tryz.prog (fun e a' w' =>e= .normal/\(∃W,Below w.heap.size w W/\Chg W w' B6 (.cells #[.int .i64 6,.int .i64 5,.int .i64 0,.string ⟨#[]⟩,.slice none 0 0,.slice none 0 0,.slice none 0 0] ty (0,0)))/\Kp [3,4,5,6,9,10,11,12,16] a a') a w:=by
 dsimp only [Rg,Tryz.f194,Option.bind,As,Option.getD,cond,Nat.beq,Option.orElse];have h6:=A8 h6 hs (by decide);have hbl:B6<w.heap.size:=(Zb.1 hb).1
 go_wp2_with (go_at_call 41;refine(xDS _).mono ?_;rintro e W ⟨rfl,hW⟩;have hB:W.heap[B6]? =some (.cells #[u0,u1,u2,u3,u4,u5,u6] ty (0,0)):=(hW.block _ hbl).trans hb;have f:∀o,W.frozen? ⟨B6,o,none⟩=false:=(fun o=>by grind [World.frozen?]);have c0:W.cell? ⟨B6,0,none⟩=some u0:=(by grind [World.cell?]);have c1:W.cell? ⟨B6,1,none⟩=some u1:=(by grind [World.cell?]);have c2:W.cell? ⟨B6,2,none⟩=some u2:=(by grind [World.cell?]);have c3:W.cell? ⟨B6,3,none⟩=some u3:=(by grind [World.cell?]);have c4:W.cell? ⟨B6,4,none⟩=some u4:=(by grind [World.cell?]);have c5:W.cell? ⟨B6,5,none⟩=some u5:=(by simp only [World.cell?,hB];rfl);have c6:W.cell? ⟨B6,6,none⟩=some u6:=(by simp only [World.cell?,hB];rfl))
 refine⟨⟨W,hW,?_⟩,AZ rfl BE⟩;have g0:=(Bi (o:=0) (v:= .int .i64 6) hB (by simp):Chg _ _ B6 (.cells #[.int .i64 6,u1,u2,u3,u4,u5,u6] ty (0,0)));have g1:=g0.trans (Bi (o:=1) (v:= .int .i64 5) g0.at' (by simp):Chg _ _ B6 (.cells #[.int .i64 6,.int .i64 5,u2,u3,u4,u5,u6] ty (0,0)));have g2:=g1.trans (Bi (o:=2) (v:= .int .i64 0) g1.at' (by simp):Chg _ _ B6 (.cells #[.int .i64 6,.int .i64 5,.int .i64 0,u3,u4,u5,u6] ty (0,0)));have g3:=g2.trans (Bi (o:=3) (v:= .string ⟨#[]⟩) g2.at' (by simp):Chg _ _ B6 (.cells #[.int .i64 6,.int .i64 5,.int .i64 0,.string ⟨#[]⟩,u4,u5,u6] ty (0,0)));have g4:=g3.trans (Bi (o:=4) (v:= .slice none 0 0) g3.at' (by simp):Chg _ _ B6 (.cells #[.int .i64 6,.int .i64 5,.int .i64 0,.string ⟨#[]⟩,.slice none 0 0,u5,u6] ty (0,0)));have g5:=g4.trans (Bi (o:=5) (v:= .slice none 0 0) g4.at' (by simp):Chg _ _ B6 (.cells #[.int .i64 6,.int .i64 5,.int .i64 0,.string ⟨#[]⟩,.slice none 0 0,.slice none 0 0,u6] ty (0,0)));exact g5.trans (Bi (o:=6) (v:= .slice none 0 0) g5.at' (by simp):Chg _ _ B6 (.cells #[.int .i64 6,.int .i64 5,.int .i64 0,.string ⟨#[]⟩,.slice none 0 0,.slice none 0 0,.slice none 0 0] ty (0,0)))
theorem xEo{a:Act}{w:World}(hs:a.tmps.size=153){j:Nat}(hj:j<1000)(h57:a.tmps[126]? =some (.int .i64 j)):
 (Rg 28).wp Tryz.prog (fun e a' w' =>e= .normal/\w' =w/\a'.tmps[126]? =some (.int .i64 (j+1:Nat))/\Kp [3,4,5,6,9,10,11,12,16,124,125] a a') a w:=by
 dsimp only [Rg,Tryz.f194,Option.bind,As,Option.getD,cond,Nat.beq,Option.orElse];have h57:=A8 h57 hs (by decide)
 go_wp2
 exact AZ rfl (AZ rfl BE)
theorem xEp{a:Act}{w:World}(hs:a.tmps.size=153){B6 ob:Nat}{u0 u1 u2 u3 u4 u5 u6:Value}{v1 v2 v3:Int}{v4:ByteArray}{p1 p2 p3:Option Addr}{n1 n2 n3 d1 d2 d3:Nat}{ty ty' :TypeId}(h6:a.tmps[6]? =some (.pointer (some ⟨B6,0,none⟩)))(h16:a.tmps[16]? =some (.pointer (some ⟨ob,0,none⟩)))(hB:w.heap[B6]? =some (.cells #[u0,u1,u2,u3,u4,u5,u6] ty (0,0)))
 (hO:w.heap[ob]? =some (.cells #[.int .i64 v1,.int .i64 v2,.int .i64 v3,.string v4,.slice p1 n1 d1,.slice p2 n2 d2,.slice p3 n3 d3] ty' (0,0))):
 (Rg 29).wp Tryz.prog (fun e a' w' =>e= .normal/\Chg w w' B6 (.cells #[.int .i64 v1,.int .i64 v2,.int .i64 v3,.string v4,.slice p1 n1 d1,.slice p2 n2 d2,.slice p3 n3 d3] ty (0,0))/\Kp [3,4,5,6,9,10,11,12,16] a a') a w:=by
 dsimp only [Rg,Tryz.f194,Option.bind,As,Option.getD,cond,Nat.beq,Option.orElse];have h6:=A8 h6 hs (by decide);have h16:=A8 h16 hs (by decide);have f:∀o,w.frozen? ⟨B6,o,none⟩=false:=fun o=>by grind [World.frozen?]
 have c0:w.cell? ⟨B6,0,none⟩=some u0:=by grind [World.cell?]
 have c1:w.cell? ⟨B6,1,none⟩=some u1:=by grind [World.cell?]
 have c2:w.cell? ⟨B6,2,none⟩=some u2:=by grind [World.cell?]
 have c3:w.cell? ⟨B6,3,none⟩=some u3:=by grind [World.cell?]
 have c4:w.cell? ⟨B6,4,none⟩=some u4:=by grind [World.cell?]
 have c5:w.cell? ⟨B6,5,none⟩=some u5:=by simp only [World.cell?,hB];rfl
 have c6:w.cell? ⟨B6,6,none⟩=some u6:=by simp only [World.cell?,hB];rfl
 have e0:w.cell? ⟨ob,0,none⟩=some (.int .i64 v1):=by grind [World.cell?]
 have e1:w.cell? ⟨ob,1,none⟩=some (.int .i64 v2):=by grind [World.cell?]
 have e2:w.cell? ⟨ob,2,none⟩=some (.int .i64 v3):=by grind [World.cell?]
 have e3:w.cell? ⟨ob,3,none⟩=some (.string v4):=by simp only [World.cell?,hO];rfl
 have e4:w.cell? ⟨ob,4,none⟩=some (.slice p1 n1 d1):=by simp only [World.cell?,hO];rfl
 have e5:w.cell? ⟨ob,5,none⟩=some (.slice p2 n2 d2):=by simp only [World.cell?,hO];rfl
 have e6:w.cell? ⟨ob,6,none⟩=some (.slice p3 n3 d3):=by simp only [World.cell?,hO];rfl
 go_wp2
 refine⟨?_,AZ rfl BE⟩;have g0:=(Bi (o:=0) (v:= .int .i64 v1) hB (by simp):Chg _ _ B6 (.cells #[.int .i64 v1,u1,u2,u3,u4,u5,u6] ty (0,0)));have g1:=g0.trans (Bi (o:=1) (v:= .int .i64 v2) g0.at' (by simp):Chg _ _ B6 (.cells #[.int .i64 v1,.int .i64 v2,u2,u3,u4,u5,u6] ty (0,0)));have g2:=g1.trans (Bi (o:=2) (v:= .int .i64 v3) g1.at' (by simp):Chg _ _ B6 (.cells #[.int .i64 v1,.int .i64 v2,.int .i64 v3,u3,u4,u5,u6] ty (0,0)));have g3:=g2.trans (Bi (o:=3) (v:= .string v4) g2.at' (by simp):Chg _ _ B6 (.cells #[.int .i64 v1,.int .i64 v2,.int .i64 v3,.string v4,u4,u5,u6] ty (0,0)));have g4:=g3.trans (Bi (o:=4) (v:= .slice p1 n1 d1) g3.at' (by simp):Chg _ _ B6 (.cells #[.int .i64 v1,.int .i64 v2,.int .i64 v3,.string v4,.slice p1 n1 d1,u5,u6] ty (0,0)));have g5:=g4.trans (Bi (o:=5) (v:= .slice p2 n2 d2) g4.at' (by simp):Chg _ _ B6 (.cells #[.int .i64 v1,.int .i64 v2,.int .i64 v3,.string v4,.slice p1 n1 d1,.slice p2 n2 d2,u6] ty (0,0)));exact g5.trans (Bi (o:=6) (v:= .slice p3 n3 d3) g5.at' (by simp):Chg _ _ B6 (.cells #[.int .i64 v1,.int .i64 v2,.int .i64 v3,.string v4,.slice p1 n1 d1,.slice p2 n2 d2,.slice p3 n3 d3] ty (0,0)))
theorem xEn{a:Act}{w:World}(hs:a.tmps.size=153){M ob rn rc n1 d1 n2 d2 base:Nat}{rp p1 p2:Option Addr}{bx:Int->Nat}{ks:List Int}{x:Int}{xs:List Value}(hm:PMap w M bx ks)(hx:x∈ks)(h11:a.tmps[11]? =some (.map (some M)))(h18:a.tmps[18]? =some (.int .i64 x))(h16:a.tmps[16]? =some (.pointer (some ⟨ob,0,none⟩)))
 (hlen:rn<=1000) (hbl:bx x<base) (hol:ob<base) (hMl:M<base) (hbase:base<=w.heap.size) (hrow:w.cell? ⟨ob,6,none⟩=some (.slice rp rn rc)) (hfz:w.frozen? ⟨ob,6,none⟩=false) (hb0:w.cell? ⟨bx x,0,none⟩=some (.slice p1 n1 d1)) (hb1:w.cell? ⟨bx x,1,none⟩=some (.slice p2 n2 d2))
 (hown:w.ownsRow base 150 2 (.slice rp rn rc) rn xs):
 (Rg 27).wp Tryz.prog (fun e a' w' =>e= .normal/\(∃v' W',W'.ownsRow base 150 2 v' (rn+1) (xs++ [.slice p1 n1 d1,.slice p2 n2 d2])/\Below base w W' /\w' =W'.setCell ⟨ob,6,none⟩ v')/\Kp [3,4,5,6,9,10,11,12,16,124,125,126] a a') a w:=by
 dsimp only [Rg,Tryz.f194,Option.bind,As,Option.getD,cond,Nat.beq,Option.orElse];have h11:=A8 h11 hs (by decide);have h18:=A8 h18 hs (by decide);have h16:=A8 h16 hs (by decide);obtain⟨i0,hi,hz0,hz1,hz2⟩:=info_parts xGg
 have keep:∀u:World,(∀b,b<base->u.heap[b]? =w.heap[b]?)->PMap u M bx ks/\u.cell? ⟨ob,6,none⟩=some (.slice rp rn rc)/\u.cell? ⟨bx x,0,none⟩=some (.slice p1 n1 d1)/\u.cell? ⟨bx x,1,none⟩=some (.slice p2 n2 d2):=fun u hu=>
  ⟨hm.kept (hu _ hMl) (fun _ _=>rfl),by rw [<-hrow];simp only [World.cell?,hu _ hol],by rw [<-hb0];simp only [World.cell?,hu _ hbl],by rw [<-hb1];simp only [World.cell?,hu _ hbl]⟩
 refine Pu (fun u=>PMap u M bx ks/\u.cell? ⟨ob,6,none⟩=some (.slice rp rn rc)/\u.cell? ⟨bx x,0,none⟩=some (.slice p1 n1 d1)/\u.cell? ⟨bx x,1,none⟩=some (.slice p2 n2 d2)) 10 O8 ?_;show Cf _ _ _ _ _ _ 11 _ _ w.drew;have hT:=keep w.drew fun _ _=>rfl;refine A7 (v:=(.pointer (some ⟨ob,6,none⟩))) 0 rfl (by kernel_rfl) (fun _ _ _ h=>by cases h.1) rfl hT (fun w hw=> ?_) ?_
 ·obtain⟨t1,t2,t3,t4⟩:=hw;have hl:=BT BH t1 x;rw [Zt hx,pbx] at hl
  any_goals go_simp
 refine A7 (v:=(.slice rp rn rc)) 1 rfl (by kernel_rfl) (fun _ _ _ h=>by cases h.1) rfl hT (fun w hw=> ?_) ?_
 ·obtain⟨t1,t2,t3,t4⟩:=hw;have hl:=BT BH t1 x;rw [Zt hx,pbx] at hl
  any_goals go_simp
 refine A7 (v:=(.map (some M))) 2 rfl (by kernel_rfl) (fun _ _ _ h=>by cases h.1) rfl hT (fun w hw=> ?_) ?_
 ·obtain⟨t1,t2,t3,t4⟩:=hw;have hl:=BT BH t1 x;rw [Zt hx,pbx] at hl
  any_goals go_simp
 refine A7 (v:=(.int .i64 x)) 3 rfl (by kernel_rfl) (fun _ _ _ h=>by cases h.1) rfl hT (fun w hw=> ?_) ?_
 ·obtain⟨t1,t2,t3,t4⟩:=hw;have hl:=BT BH t1 x;rw [Zt hx,pbx] at hl
  any_goals go_simp
 refine A7 (v:=(.pointer (some ⟨bx x,0,none⟩))) 4 rfl (by kernel_rfl) (fun _ _ _ h=>by cases h.1) rfl hT (fun w hw=> ?_) ?_
 ·obtain⟨t1,t2,t3,t4⟩:=hw;have hl:=BT BH t1 x;rw [Zt hx,pbx] at hl
  any_goals go_simp
 refine A7 (v:=(.pointer (some ⟨bx x,0,none⟩))) 5 rfl (by kernel_rfl) (fun _ _ _ h=>by cases h.1) rfl hT (fun w hw=> ?_) ?_
 ·obtain⟨t1,t2,t3,t4⟩:=hw;have hl:=BT BH t1 x;rw [Zt hx,pbx] at hl
  any_goals go_simp
 refine A7 (v:=(.agg #[.slice p1 n1 d1,.slice p2 n2 d2])) 6 rfl (by kernel_rfl) (fun _ _ _ h=>by cases h.1) rfl hT (fun w hw=> ?_) ?_
 ·obtain⟨t1,t2,t3,t4⟩:=hw;have hl:=BT BH t1 x;rw [Zt hx,pbx] at hl
  any_goals go_simp
 refine En 7 rfl (by kernel_rfl) rfl fun K hK=> ?_
 go_simp
 have al:∀b,b<base->(w.drew.alloc (.cells #[.slice p1 n1 d1,.slice p2 n2 d2] 150)).heap[b]? =w.heap[b]? :=fun b hb=>BB (w:=w.drew) (by show b<w.heap.size;omega);have hnew:(w.drew.alloc (.cells #[.slice p1 n1 d1,.slice p2 n2 d2] 150)).heap[w.heap.size]? =some (.cells #[.slice p1 n1 d1,.slice p2 n2 d2] 150 (0,0)):=by
  show(Array.push _ _)[_]? =_;rw [Y0,Zt (show w.heap.size=w.drew.heap.size from rfl)]
 have n0:(w.drew.alloc (.cells #[.slice p1 n1 d1,.slice p2 n2 d2] 150)).cell? ⟨w.heap.size,0,none⟩=some (.slice p1 n1 d1):=by simp only [World.cell?,hnew];rfl
 have n1' :(w.drew.alloc (.cells #[.slice p1 n1 d1,.slice p2 n2 d2] 150)).cell? ⟨w.heap.size,1,none⟩=some (.slice p2 n2 d2):=by simp only [World.cell?,hnew];rfl
 refine hK _ _ ⟨.inr (keep _ al),?_⟩;refine En 8 rfl (by kernel_rfl) rfl fun K hK=> ?_;refine xBn (sz:=2) (bytes:=48) _ Tryz.underlying36 _ _ rfl i0 hi hz0 hz1 hz2 rfl (by decide) (by decide) base (v:= .slice rp rn rc) (n:=rn) (xs:=xs) (by simp [Act.eval,Act.put,hs]) (hown.alloc _) ⟨w.heap.size,0,none⟩ 1 1 [.slice p1 n1 d1,.slice p2 n2 d2] (by simp [Act.eval,Act.put,hs]) rfl (fun j u hj=> ?_) (by simp [Value.oneCell']) (by omega) (by show base<=(Array.push w.heap _).size;rw [Yl];omega) ?_
 ·match j,hj with
  |0,hj=>simp at hj;subst hj;exact n0
  |1,hj=>simp at hj;subst hj;exact n1'
  |j+2,hj=>simp at hj
 intro v' W' o1 o2 o3 o4;have ob1:∀g,(Value.slice rp rn rc).ownBlock=some g->base<=g:=by
  intro g hg;rcases hown.2 with ⟨e,_⟩|⟨g',cap,cur,e,h2,_⟩
  ·rw [e] at hg;cases hg
  ·rw [e] at hg;cases hg;exact h2
 have kb:∀b,b<base->W'.heap[b]? =w.heap[b]? :=fun b hb=>(o2.block b (by show b<(Array.push w.heap _).size;rw [Yl];omega) (fun e=>by have:=ob1 b e.symm;omega)).trans (al b hb);have hT' :=keep W' kb;have hz:w.heap.size+1<=W'.heap.size:=by have:=o2.size;rw [show World.heap _=Array.push w.heap _ from rfl,Yl] at this;exact this
 have hbw:Below base w W' :=⟨o2.os,o2.tape,o2.output,by omega,kb⟩;have cc:=hT'.2.1;have cf:W'.frozen? ⟨ob,6,none⟩=false:=by rw [<-hfz];simp only [World.frozen?,kb _ hol]
 have hv:∃q1 q2 q3,v' = .slice q1 q2 q3:=by
  obtain⟨g,cap,rfl,_⟩:=ORow.of_owns o1 (by omega);exact⟨_,_,_,rfl⟩
 obtain⟨q1,q2,q3,rfl⟩:=hv;refine hK _ _ ⟨.inr hT',?_⟩;refine En 9 rfl (by kernel_rfl) rfl fun K hK=> ?_
 go_simp
 refine hK _ _ ⟨.inr hT',?_⟩;refine En 10 rfl (by kernel_rfl) rfl fun K hK=> ?_
 go_simp
 refine hK _ _ ⟨.inl (by kernel_rfl),Ps (by kernel_rfl) ⟨rfl,⟨_,W',o1,hbw,rfl⟩,?_⟩ _⟩
 iterate 10 refine AZ rfl ?_
 exact BE
noncomputable def cH1:Code:= .seq (Rg 17) (Rg 18)
noncomputable def cB1:Code:= .seq (Rg 12) (.seq (Rg 13) (.seq (.seq (Rg 14) (.cond (.tmp 69) (.seq (Rg 15) (Rg 16)) .skip)) cH1))
noncomputable def cL1:Code:= .block 0 (.loop (.seq (Rg 11) (.seq (.cond (.tmp 58) .skip (.exit 0)) (.seq (.block 1 cB1) (Rg 19)))))
structure F1 (a:Act) (B3 B4 B6 i k M:Nat) (kv rv:Value) (n j:Nat):Prop where
 d:a.defers=[]
 s:a.tmps.size=153
 s3:a.tmps[3]? =some (.pointer (some ⟨B3,0,none⟩))
 s4:a.tmps[4]? =some (.pointer (some ⟨B4,0,none⟩))
 s6:a.tmps[6]? =some (.pointer (some ⟨B6,0,none⟩))
 s9:a.tmps[9]? =some (.int .i64 i)
 s10:a.tmps[10]? =some (.int .i64 k)
 s11:a.tmps[11]? =some (.map (some M))
 s12:a.tmps[12]? =some kv
 s55:a.tmps[55]? =some rv
 s56:a.tmps[56]? =some (.int .i64 n)
 s57:a.tmps[57]? =some (.int .i64 j)
def J1(w0:World)(rs:List Rowd)(B3 B4 B6 i k:Nat)(rv:Value)(m j:Nat)(a:Act)(w:World):Prop:=
 ∃blk fc kc,F1 a B3 B4 B6 i k (blk .map) (.slice (some ⟨blk .keys,0,none⟩) (vF i (rs.take m)).length kc) rv rs.length j/\
  GRel w0 w w0.heap.size 150 3 blk (vF i (rs.take m)) (vF i (rs.take m)) (pA i k (rs.take m)) (vE i (rs.take m)) fc none kc
def J7 [Inhabited Lb]:Prop:=∀(xs ys:List Org) (u v:Value) (w:World),RowIn w u xs->RowIn w v ys->xs.length+ys.length<=1000000000000->(∀x∈kE,x.1<w.heap.size/\w.heap[x.1]? =some x.2)->
 Calls Tryz.prog 239 #[u,v] w fun e w' =>∃br cap,e= .returned (.slice (some ⟨br,0,none⟩) (rM xs ys).length cap)/\Below w.heap.size w w' /\w.heap.size<=br/\OrgRow w' br cap (rM xs ys)
structure RowOk (i k:Nat) (r:Rowd):Prop where
 i:i<r.cells.length
 k:k<r.cells.length
 f:r.frm.length<=100000000
theorem Sd{i:Nat}{r:Rowd}(h:i<r.cells.length):r.cells[i]=hD i r:=by
 grind [hD]
section
variable [Inhabited Lb] {w0:World} {rs:List Rowd} {B3 B4 B6 i k:Nat} {rv:Value}
theorem Sg(hU:J7)(hlaid:∀x∈kE,x.1<w0.heap.size/\w0.heap[x.1]? =some x.2)(hok:∀r∈rs,RowOk i k r)(hn:rs.length<=1000){j:Nat}(hj:j<rs.length)
 {a:Act} {w:World} {blk:Tg->Nat} {fc:Int->Nat} {nx:Option Int} {kc rb:Nat} {cb coff cc fn fcap:Nat} {fp:Option Addr}
 (F:F1 a B3 B4 B6 i k (blk .map) (.slice (some ⟨blk .keys,0,none⟩) (vF i (rs.take (j+1))).length kc) rv rs.length j)
 (h14:a.tmps[14]? =some (.pointer (some ⟨rb,0,none⟩))) (h15:a.tmps[15]? =some (.int .i64 (hD i rs[j])))
 (hrb:w.heap[rb]? =some (.cells #[.slice (some ⟨cb,coff,none⟩) rs[j].cells.length cc,.slice fp fn fcap] 150 (0,0)))
 (hcl:cb<w0.heap.size) (hcells:∀m (hm:m<rs[j].cells.length),w0.cell? ⟨cb,coff+m,none⟩=some (.int .i64 rs[j].cells[m])) (hfr:RowIn w0 (.slice fp fn fcap) rs[j].frm)
 (hx:hD i rs[j]∈vF i (rs.take (j+1))) (hnx:nx=none\/nx=some (hD i rs[j]))
 (hne:∀t,BW (vF i (rs.take (j+1))) nx t->blk t≠rb)
 (G:GRel w0 w w0.heap.size 150 3 blk (vF i (rs.take (j+1))) (vF i (rs.take (j+1))) (pA i k (rs.take j)) (vE i (rs.take j)) fc nx kc):
 cH1.wp Tryz.prog (fun e a' w' =>e= .normal/\J1 w0 rs B3 B4 B6 i k rv (j+1) j a' w') a w:=by
 have hr:=hok _ (ZN hj);generalize hxk:hD i rs[j]=x at h15 hx hnx;have bx:=G.box x hx;have cl:=G.cel x hx;have rbx:=G.rng (.box x) hx;have rcl:=G.rng (.cel x) hx;have rmp:=G.rng .map trivial;have nbc:blk (.box x)≠blk (.cel x):=fun e=>by grind
 have nmc:blk .map≠blk (.cel x):=fun e=>by have:=G.inj .map (.cel x) trivial hx e;grind
 have old:∀b,b<w0.heap.size->w.heap[b]? =w0.heap[b]? :=G.below.block;have hrbl:rb<w.heap.size:=(Zb.1 hrb).1;obtain⟨vp,vn,vc,hfv⟩:∃vp vn vc,frV blk fc (vE i (rs.take j)) nx x= .slice vp vn vc:=by
  grind [frV]
 rw [hfv] at bx;refine wp_seq (wp_mono (xEd (k:=k) F.s G.map hx hr.k F.s11 h15 F.s10 h14 (by simp only [World.cell?,bx];rfl) (by simp only [World.cell?,cl];rfl) (by simp only [World.cell?,hrb];rfl) ((Fw (old _ hcl)).trans (hcells k hr.k)) (by grind [World.frozen?])) ?_);rintro e a1 w1 ⟨rfl,hw1,K1⟩;rw [Sd hr.k] at hw1;obtain⟨s',hs'⟩:∃s',IntKind.i64.wrap (pA i k (rs.take j) x+hD k rs[j])=s' :=⟨_,rfl⟩;rw [hs'] at hw1;have c1:Chg w w1 (blk (.cel x)) (.cells #[.int .i64 x,.int .i64 s'] 3 (0,0)):=by
  have:=Bi (w:=w.drew) (o:=1) (v:= .int .i64 s') (cs' := #[.int .i64 x,.int .i64 s']) (b:=blk (.cel x)) cl (by simp);rw [hw1];exact⟨this.os,this.tape,this.output,this.size,this.at',this.other⟩
 clear hw1;have z1:=c1.size;have bx1:=(c1.other _ nbc).trans bx;have rb1:=(c1.other rb (fun e=>hne (.cel x) hx e.symm)).trans hrb;have hU1:Calls Tryz.prog 239 #[.slice vp vn vc,.slice fp fn fcap] w1.drew fun e W' =>∃br cap,e= .returned (.slice (some ⟨br,0,none⟩) (rM (vE i (rs.take j) x) rs[j].frm).length cap)/\Below w1.heap.size w1.drew W' /\w1.heap.size<=br/\OrgRow W' br cap (rM (vE i (rs.take j) x) rs[j].frm):=by
  have oldW:∀b,b<w0.heap.size->w1.heap[b]? =w0.heap[b]? :=fun b hb=>(c1.other b (by omega)).trans (old b hb);refine hU _ _ _ _ w1.drew ?_ (hfr.kept (w' :=w1.drew) (by show w0.heap.size<=w1.heap.size;omega) oldW) ?_ fun y hy=>⟨?_,(oldW _ (hlaid y hy).1).trans (hlaid y hy).2⟩
  ·by_cases hq:nx=some x
   ·rw [frV,Zt hq] at hfv;rw [<-hfv,G.nil x hq];exact⟨none,0,rfl,.inl rfl⟩
   ·rw [frV,Za hq] at hfv;rw [<-hfv];refine xHp (w:=w1.drew) ((G.frm x hx hq).kept (c1.other _ fun e=> ?_));have:=G.inj (.frm x) (.cel x) ⟨hx,hq⟩ hx e
    grind
  ·have h1:=xD3 (i:=i) (L:=100000000) (x:=x) (rs.take j) fun r hr=>(hok r (ZM hr)).f;have h2:(rs.take j).length*100000000<=1000*100000000:=Yh (by grind) (Zn _);have:=hr.f;omega
  ·have:=(hlaid y hy).1;show y.1<w1.heap.size;omega
 have e1:a1.tmps.size=153:=K1.2.1.trans F.s;refine wp_mono (xEe e1 (G.map.kept (c1.other _ nmc) (fun _ _=>rfl)) hx (K1.get F.s11 rfl) (K1.get h15 rfl) (K1.get h14 rfl) (by omega) (by omega) (by grind [World.cell?]) (by grind [World.cell?]) (by grind [World.frozen?]) hU1) ?_;rintro e a2 w2 ⟨rfl,⟨br,cap,W',g1,g2,g3,g4⟩,K2⟩;have hbW:Below w1.heap.size w1 W' :=⟨g1.os,g1.tape,g1.output,g1.size,g1.block⟩;have c2:Chg W' w2 (blk (.box x)) (.cells #[.slice (some ⟨blk (.cel x),0,none⟩) 2 2,.slice (some ⟨br,0,none⟩) (rM (vE i (rs.take j) x) rs[j].frm).length cap] 150 (0,0)):=by
  rw [g4];exact Bi ((hbW.block _ (by omega)).trans bx1) (by simp)
 have T:=G.turn hx hnx c1 hbW g2 g3 c2;have K:=K1.trans K2 (l2:=[3,4,6,9,10,11,12,55,56,57]) rfl;refine⟨rfl,Ae blk (.frm x) br,CF fc x cap,kc,?_,?_⟩
 ·have e2:Ae blk (.frm x) br .map=blk .map:=Za (by simp);have e3:Ae blk (.frm x) br .keys=blk .keys:=Za (by simp);rw [e2,e3];exact⟨K.1.trans F.d,K.2.1.trans F.s,K.get F.s3 rfl,K.get F.s4 rfl,K.get F.s6 rfl,K.get F.s9 rfl,K.get F.s10 rfl,K.get F.s11 rfl,K.get F.s12 rfl,K.get F.s55 rfl,K.get F.s56 rfl,K.get F.s57 rfl⟩
 grind [NV,Sf,Sc]
theorem xEx(hU:J7)(hlaid:∀x∈kE,x.1<w0.heap.size/\w0.heap[x.1]? =some x.2)(hrs:J5 w0 rv rs)(hok:∀r∈rs,RowOk i k r)(hn:rs.length<=1000){j:Nat}(hj:j<rs.length){a:Act}{w:World}(hJ:J1 w0 rs B3 B4 B6 i k rv j j a w):
 cB1.wp Tryz.prog (fun e a' w' =>e= .normal/\J1 w0 rs B3 B4 B6 i k rv (j+1) j a' w') a w:=by
 obtain⟨blk,fc,kc,F,G⟩:=hJ;obtain⟨p,c,rfl,hrows⟩:=hrs;obtain⟨b,off,rfl,hbl,hcell⟩:=hrows.resolve_left (fun e=>by grind);obtain⟨cv,fv,e1,e2,hi1,hi2⟩:=hcell j hj;have hr:=hok _ (ZN hj);obtain⟨cp,cc,rfl,hints⟩:=hi1;obtain⟨cb,coff,rfl,hcbl,hcells⟩:=hints.resolve_left (fun e=>by have:=hr.i;grind);obtain⟨fp,fcap,rfl,_⟩:=id hi2;have old:∀b,b<w0.heap.size->w.heap[b]? =w0.heap[b]? :=G.below.block;have z0:=G.below.size;refine wp_seq (wp_mono (xD8 F.s hj F.s55 F.s57 ((Fw (old _ hbl)).trans e1) ((Fw (old _ hbl)).trans e2)) ?_);rintro e a1 w1 ⟨rfl,hw1,h14,K1⟩;have hb1:Below w.heap.size w w1:=by rw [hw1];exact(Below.refl _ _).alloc (Zn _) _
 have z1:w1.heap.size=w.heap.size+1:=by simp_all
 have hrb:w1.heap[w.heap.size]? =some (.cells #[.slice (some ⟨cb,coff,none⟩) rs[j].cells.length cc,.slice fp rs[j].frm.length fcap] 150 (0,0)):=by
  rw [hw1];show(Array.push _ _)[_]? =_
  grind
 clear hw1;have G1:=G.grow hb1;have old1:∀b,b<w0.heap.size->w1.heap[b]? =w0.heap[b]? :=G1.below.block;have s1:a1.tmps.size=153:=K1.2.1.trans F.s;refine wp_seq (wp_mono (xD9 s1 hr.i h14 (K1.get F.s9 rfl) (by simp only [World.cell?,hrb];rfl) ((Fw (old1 _ hcbl)).trans (hcells i hr.i))) ?_);rintro e a2 w2 ⟨rfl,rfl,h15,K2⟩;rw [Sd hr.i] at h15;have K12:=K1.trans K2 (l2:=[3,4,6,9,10,11,12,55,56,57]) rfl;have s2:a2.tmps.size=153:=K2.2.1.trans s1;refine wp_seq (wp_seq (wp_mono (xEa s2 G1.map (K12.get F.s11 rfl) h15) ?_));rintro e a3 w3 ⟨rfl,rfl,h69,K3⟩;have K13:=K12.trans K3 (l2:=[3,4,6,9,10,11,12,55,56,57]) rfl;have h14' :=K3.get (K2.get h14 rfl) rfl;have h15' :=K3.get h15 rfl;have s3:a3.tmps.size=153:=K3.2.1.trans s2;have hc69:a3.eval (.tmp 69)= .bool (!decide (hD i rs[j]∈vF i (rs.take j))):=Dm h69;have rng:=G.rng;by_cases hx:hD i rs[j]∈vF i (rs.take j)
 ·have ek:vF i (rs.take (j+1))=vF i (rs.take j):=by grind [NV,Ny]
  rw [Zz hx] at hc69;refine wp_cond_false hc69 (wp_skip ?_);refine Sg (nx:=none) hU hlaid hok hn hj (rb:=w.heap.size) (blk:=blk) (fc:=fc) (kc:=kc) ⟨K13.1.trans F.d,s3,K13.get F.s3 rfl,K13.get F.s4 rfl,K13.get F.s6 rfl,K13.get F.s9 rfl,K13.get F.s10 rfl,K13.get F.s11 rfl,by rw [ek];exact K13.get F.s12 rfl,K13.get F.s55 rfl,K13.get F.s56 rfl,K13.get F.s57 rfl⟩ h14' h15' hrb hcbl hcells hi2 (by grind) (.inl rfl) (fun t ht=> ?_) (by grind)
  grind
 ·have ek:vF i (rs.take (j+1))=vF i (rs.take j)++ [hD i rs[j]]:=by grind [NV,Ny]
  rw [Zw hx] at hc69;refine wp_cond_true hc69 (wp_seq (wp_mono (xEb s3 G1.map hx (K13.get F.s11 rfl) h15') ?_));rintro e a4 w4 ⟨rfl,hm4,hg4,z4,K4⟩;have K14:=K13.trans K4 (l2:=[3,4,6,9,10,11,12,55,56,57]) rfl;have s4:a4.tmps.size=153:=K4.2.1.trans s3;generalize hA:(w3.alloc (.cells #[.int .i64 (hD i rs[j]),.int .i64 0] 3)).alloc (.cells #[.slice (some ⟨w3.heap.size,0,none⟩) 2 2,.slice none 0 0] 150)=A at hg4 z4;have zA:A.heap.size=w3.heap.size+2:=by grind [BX]
  have hbA:Below w3.heap.size w3 A:=by rw [<-hA];exact((Below.refl _ _).alloc (Zn _) _).alloc (by simp_all) _
  have hcA:A.heap[w3.heap.size]? =some (.cells #[.int .i64 (hD i rs[j]),.int .i64 0] 3 (0,0)):=by
   rw [<-hA,BB (by simp_all)];show(Array.push _ _)[_]? =_
   grind
  have hbA2:A.heap[w3.heap.size+1]? =some (.cells #[.slice (some ⟨w3.heap.size,0,none⟩) 2 2,.slice none 0 0] 150 (0,0)):=by
   rw [<-hA];show(Array.push _ _)[_]? =_
   grind [BX]
  clear hA;have rmap:=G1.rng .map trivial;have rkey:=G1.rng .keys trivial;have nmk:blk .keys≠blk .map:=fun e=>by have:=G1.inj .keys .map trivial trivial e;grind
  have hk4:ORow w4 3 (blk .keys) kc 1 (vF i (rs.take j)).length ((vF i (rs.take j)).map (Value.int .i64)):=G1.keys.kept ((hg4.block _ (by omega) (by grind)).trans (hbA.block _ rkey.2));have hlen:(vF i (rs.take j)).length<=1000:=ZT (Se i _) (by grind);refine wp_mono (xEc s4 hlen hk4 (K14.get F.s12 rfl) (K4.get h15' rfl)) ?_;rintro e a5 w5 ⟨rfl,kb',kc',hk5,hg5,hkb,h12,K5⟩;have K15:=K14.trans K5 (l2:=[3,4,6,9,10,11,55,56,57]) rfl;have s5:a5.tmps.size=153:=K5.2.1.trans s4;have hn0:=xD4 _ (rs.take j) rfl hx;have hb45:Below w4.heap.size w4 (w4.alloc (.cells #[.int .i64 (hD i rs[j])] 3)):=(Below.refl _ _).alloc (Zn _) _;have G5:=G1.add hx (hn0.1 k) hn0.2 hbA (Zn _) (Nat.le_succ _) (by omega) (by omega) (by omega) hcA hbA2 hm4 hg4 z4 hb45 hk5 hg5 hkb;have rb5:w5.heap[w.heap.size]? =w3.heap[w.heap.size]? :=by
   have rm:=rng .map trivial;have rk:=rng .keys trivial;exact(hg5.block _ (by grind [BX]) (by grind)).trans ((BB (by omega)).trans ((hg4.block _ (by omega) (by grind)).trans (hbA.block _ (by omega))))
  have bm:Ae (Ae (Ae blk (.box (hD i rs[j])) (w3.heap.size+1)) (.cel (hD i rs[j])) w3.heap.size) .keys kb' .map=blk .map:=by simp [Ae]
  have bk:Ae (Ae (Ae blk (.box (hD i rs[j])) (w3.heap.size+1)) (.cel (hD i rs[j])) w3.heap.size) .keys kb' .keys=kb' :=by simp [Ae]
  have hne:∀t,BW (vF i (rs.take j)++ [hD i rs[j]]) (some (hD i rs[j])) t->Ae (Ae (Ae blk (.box (hD i rs[j])) (w3.heap.size+1)) (.cel (hD i rs[j])) w3.heap.size) .keys kb' t≠w.heap.size:=by
   intro t ht;by_cases n1:t= .keys
   ·subst n1;rw [bk];have:=(rng .keys trivial).2
    grind [BX]
   ·by_cases n2:t= .cel (hD i rs[j])
    ·grind [Ae]
    ·by_cases n3:t= .box (hD i rs[j])
     ·grind [Ae]
     ·have e0:Ae (Ae (Ae blk (.box (hD i rs[j])) (w3.heap.size+1)) (.cel (hD i rs[j])) w3.heap.size) .keys kb' t=blk t:=by grind [Ae]
      rw [e0];have hl:BW (vF i (rs.take j)) none t:=by
       cases t with
       |map=>trivial
       |keys=>trivial
       |box y=>
        rcases Zf.1 (show y∈vF i (rs.take j)++ [hD i rs[j]] from ht) with e|e
        ·exact e
        grind
       |cel y=>
        rcases Zf.1 (show y∈vF i (rs.take j)++ [hD i rs[j]] from ht) with e|e
        ·exact e
        grind
       |frm y=>
        obtain⟨e,e2⟩:=ht;rcases Zf.1 e with e|e
        ·exact⟨e,by simp⟩
        grind
      grind
  refine Sg (nx:=some (hD i rs[j])) hU hlaid hok hn hj (rb:=w.heap.size) (blk:=Ae (Ae (Ae blk (.box (hD i rs[j])) (w3.heap.size+1)) (.cel (hD i rs[j])) w3.heap.size) .keys kb') (fc:=fc) (kc:=kc') ⟨K15.1.trans F.d,s5,K15.get F.s3 rfl,K15.get F.s4 rfl,K15.get F.s6 rfl,K15.get F.s9 rfl,K15.get F.s10 rfl,by rw [bm];exact K15.get F.s11 rfl,by grind,K15.get F.s55 rfl,K15.get F.s56 rfl,K15.get F.s57 rfl⟩ (K5.get (K4.get h14' rfl) rfl) (K5.get (K4.get h15' rfl) rfl) (rb5.trans hrb) hcbl hcells hi2 (by grind) (.inr rfl) (by grind) (by grind)
theorem xEv(hU:J7)(hlaid:∀x∈kE,x.1<w0.heap.size/\w0.heap[x.1]? =some x.2)(hrs:J5 w0 rv rs)(hok:∀r∈rs,RowOk i k r)(hn:rs.length<=1000){a:Act}{w:World}(hJ:J1 w0 rs B3 B4 B6 i k rv 0 0 a w):
 cL1.wp Tryz.prog (fun e a' w' =>e= .normal/\J1 w0 rs B3 B4 B6 i k rv rs.length rs.length a' w') a w:=by
 refine wp_block ?_;refine wp_loop (fun a w=>∃j,j<=rs.length/\J1 w0 rs B3 B4 B6 i k rv j j a w) (fun a _=>rs.length - (RowKit.intOf (a.tmps.getD 57 undef)).toNat) ⟨0,Zg _,hJ⟩ ?_;rintro a w ⟨j,hj,hJ⟩;obtain⟨blk,fc,kc,F,G⟩:=id hJ;have m0:(RowKit.intOf (a.tmps.getD 57 undef)).toNat=j:=by
  rw [show a.tmps.getD 57 undef= .int .i64 j from Dm F.s57];simp [RowKit.intOf]
 refine wp_seq (wp_mono (xD7 F.s F.s56 F.s57) ?_);rintro e a1 w1 ⟨rfl,rfl,h58,K1⟩;have F1' :F1 a1 B3 B4 B6 i k (blk .map) (.slice (some ⟨blk .keys,0,none⟩) (vF i (rs.take j)).length kc) rv rs.length j:=⟨K1.1.trans F.d,K1.2.1.trans F.s,K1.get F.s3 rfl,K1.get F.s4 rfl,K1.get F.s6 rfl,K1.get F.s9 rfl,K1.get F.s10 rfl,K1.get F.s11 rfl,K1.get F.s12 rfl,K1.get F.s55 rfl,K1.get F.s56 rfl,K1.get F.s57 rfl⟩;have hc:a1.eval (.tmp 58)= .bool (decide (j<rs.length)):=Dm h58;by_cases hlt:j<rs.length
 ·rw [Zz hlt] at hc;refine wp_seq (wp_cond_true hc (wp_skip ?_));refine wp_seq (wp_block ?_);refine wp_mono (xEx hU hlaid hrs hok hn hlt ⟨blk,fc,kc,F1',G⟩) ?_;rintro e a2 w2 ⟨rfl,blk2,fc2,kc2,F2,G2⟩;refine wp_mono (xEf F2.s (by omega) F2.s57) ?_;rintro e a3 w3 ⟨rfl,rfl,h57,K3⟩;refine⟨⟨j+1,hlt,blk2,fc2,kc2,⟨K3.1.trans F2.d,K3.2.1.trans F2.s,K3.get F2.s3 rfl,K3.get F2.s4 rfl,K3.get F2.s6 rfl,K3.get F2.s9 rfl,K3.get F2.s10 rfl,K3.get F2.s11 rfl,K3.get F2.s12 rfl,K3.get F2.s55 rfl,K3.get F2.s56 rfl,h57⟩,G2⟩,?_⟩;have m1:(RowKit.intOf (a3.tmps.getD 57 undef)).toNat=j+1:=by
   rw [show a3.tmps.getD 57 undef= .int .i64 (j+1:Nat) from Dm h57]
   grind [RowKit.intOf]
  grind
 ·rw [Zw hlt] at hc;obtain rfl:j=rs.length:=by omega
  refine wp_seq (wp_cond_false hc (wp_exit ?_));simp only [Exit.then,Exit.inBlock,Ys];exact⟨trivial,blk,fc,kc,F1',G⟩
end
noncomputable def cB2:Code:= .seq (Rg 24) (.seq (.seq (Rg 25) (.cond (.tmp 139) (.seq (Rg 26) .ret) .skip)) (Rg 27))
noncomputable def cL2:Code:= .block 2 (.loop (.seq (Rg 23) (.seq (.cond (.tmp 127) .skip (.exit 2)) (.seq (.block 3 cB2) (Rg 28)))))
noncomputable def cT2:Code:= .seq (Rg 29) .ret
noncomputable def cS2:Code:= .seq (.seq (Rg 22) cL2) cT2
noncomputable def cS1:Code:= .seq (Rg 20) (.seq (Rg 21) cS2)
noncomputable def Qe:Code:= .seq (Rg 9) (.seq (.seq (Rg 10) cL1) cS1)
def Qs:Array Value:= #[.int .i64 6,.int .i64 5,.int .i64 0,.string ⟨#[]⟩,.slice none 0 0,.slice none 0 0,.slice none 0 0]
def H8(cb:Nat)(rv:Value):Array Value:= #[.int .i64 5,.int .i64 0,.int .i64 0,.string ⟨#[]⟩,.slice none 0 0,.slice (some ⟨cb,0,none⟩) 2 2,rv]
structure Tab (w0 W:World) (ks xs:List Int) (sm:Int->Int) (fr:Int->List Org) (ta tb:ByteArray) (blk:Tg->Nat) (fc:Int->Nat) (cb:Nat) (rv:Value):Prop where
 rel:∃kc,GRel w0 W w0.heap.size 150 3 blk ks xs sm fr fc none kc
 lt:∀t,BW ks none t->blk t<cb
 col:W.heap[cb]? =some (.cells #[.string ta,.string tb] 9 (0,0))
 rows:W.ownsRow (cb+2) 150 2 rv xs.length (Gi blk fr fc xs)
 size:cb+2<=W.heap.size
def LG(w0:World)(ks xs:List Int)(sm:Int->Int)(fr:Int->List Org)(ta tb:ByteArray)(B6:Nat)(ty:TypeId)(a' :Act)(w' :World):Prop:=
 a'.defers=[]/\a'.tmps.size=153/\a'.tmps[6]? =some (.pointer (some ⟨B6,0,none⟩))/\∃W,Below w0.heap.size w0 W/\
  ((xs.all (fun x=>xO (sm x))=false/\Chg W w' B6 (.cells Qs ty (0,0)))\/
   (xs.all (fun x=>xO (sm x))=true/\∃blk fc cb rv,Chg W w' B6 (.cells (H8 cb rv) ty (0,0))/\Tab w0 W ks xs sm fr ta tb blk fc cb rv))
structure F2 (a:Act) (B6 M ob:Nat) (kv:Value) (n m:Nat):Prop where
 d:a.defers=[]
 s:a.tmps.size=153
 s6:a.tmps[6]? =some (.pointer (some ⟨B6,0,none⟩))
 s11:a.tmps[11]? =some (.map (some M))
 s16:a.tmps[16]? =some (.pointer (some ⟨ob,0,none⟩))
 s124:a.tmps[124]? =some kv
 s125:a.tmps[125]? =some (.int .i64 n)
 s126:a.tmps[126]? =some (.int .i64 m)
structure W2 (w0 wS w:World) (ks xs:List Int) (sm:Int->Int) (fr:Int->List Org) (ta tb:ByteArray) (blk:Tg->Nat) (fc:Int->Nat) (kc S m:Nat) (rv:Value):Prop where
 rel:GRel w0 wS w0.heap.size 150 3 blk ks xs sm fr fc none kc
 hS:S=wS.heap.size
 below:Below S wS w
 size:S+2<=w.heap.size
 col:w.heap[S]? =some (.cells #[.string ta,.string tb] 9 (0,0))
 out:w.heap[S+1]? =some (.cells (H8 S rv) 38 (0,0))
 rows:w.ownsRow (S+2) 150 2 rv m (Gi blk fr fc (xs.take m))
 nums:∀x∈xs.take m,xO (sm x)=true
section
variable [Inhabited Lb] {w0 wS:World} {ks xs:List Int} {sm:Int->Int} {fr:Int->List Org} {ta tb:ByteArray} {blk:Tg->Nat} {fc:Int->Nat} {kc S B6:Nat} {ty:TypeId} {u0 u1 u2 u3 u4 u5 u6:Value}
theorem W2.rel' {w:World}{m:Nat}{rv:Value}(h:W2 w0 wS w ks xs sm fr ta tb blk fc kc S m rv):GRel w0 w w0.heap.size 150 3 blk ks xs sm fr fc none kc:=h.rel.grow (by have:=h.below;rwa [h.hS] at this)
theorem Ok{w:World}{base te sz n:Nat}{v:Value}{xs:List Value}(h:w.ownsRow base te sz v n xs):∃p c,v= .slice p n c:=by
 rcases h.2 with ⟨rfl,rfl⟩|⟨g,cap,cur,rfl,_⟩
 all_goals grind
theorem xEy(hperm:∀x∈xs,x∈ks)(hn:xs.length<=1000)(h6:B6<w0.heap.size)(hB6:w0.heap[B6]? =some (.cells #[u0,u1,u2,u3,u4,u5,u6] ty (0,0))){m:Nat}(hm:m<xs.length){a:Act}{w:World}{rv:Value}
 (F:F2 a B6 (blk .map) (S+1) (.slice (some ⟨blk .keys,0,none⟩) xs.length kc) xs.length m) (H:W2 w0 wS w ks xs sm fr ta tb blk fc kc S m rv):
 cB2.wp Tryz.prog (Exit.then (fun a' w' =>F2 a' B6 (blk .map) (S+1) (.slice (some ⟨blk .keys,0,none⟩) xs.length kc) xs.length m/\∃rv',W2 w0 wS w' ks xs sm fr ta tb blk fc kc S (m+1) rv') (fun e a' w' =>e= .ret/\LG w0 ks xs sm fr ta tb B6 ty a' w')) a w:=by
 have G:=H.rel';have hx:xs[m]∈ks:=hperm _ (ZN hm);refine wp_seq (wp_mono (xEk F.s hm F.s124 F.s126 (G.keys.cellI hm)) ?_);rintro e a1 w1 ⟨rfl,hw,h18,K1⟩;obtain rfl:w=w1:=hw.symm;have bx:=G.box _ hx;have cl:=G.cel _ hx;have s1:a1.tmps.size=153:=K1.2.1.trans F.s;refine wp_seq (wp_seq (wp_mono (xEl s1 G.map hx (K1.get F.s11 rfl) h18 (by simp only [World.cell?,bx];rfl) (by simp only [World.cell?,cl];rfl)) ?_));rintro e a2 w2 ⟨rfl,hw,h139,K2⟩;obtain rfl:w=w2:=hw.symm;have s2:a2.tmps.size=153:=K2.2.1.trans s1;have K:=K1.trans K2 (l2:=[6,11,16,124,125,126]) rfl;have hc:a2.eval (.tmp 139)= .bool (!xO (sm xs[m])):=Dm h139;have old:∀b,b<w0.heap.size->w.heap[b]? =w0.heap[b]? :=G.below.block;have z0:=G.below.size;cases hnum:xO (sm xs[m]) with
 |false=>
  rw [hnum] at hc;refine wp_cond_true hc (wp_seq (wp_mono (xEm s2 (K.get F.s6 rfl) ((old _ h6).trans hB6)) ?_));rintro e a3 w3 ⟨rfl,⟨W,hW,hC⟩,K3⟩;refine wp_ret ⟨rfl,K3.1.trans (K.1.trans F.d),K3.2.1.trans s2,K3.get (K.get F.s6 rfl) rfl,W,G.below.trans ⟨hW.os,hW.tape,hW.output,hW.size,fun b hb=>hW.block b (by omega)⟩,.inl ⟨?_,hC⟩⟩
  grind
 |true=>
  rw [hnum] at hc;refine wp_cond_false hc (wp_skip ?_);obtain⟨rp,rc,rfl⟩:=Ok H.rows;have hS:=H.hS;have rb:=H.rel.rng (.box xs[m]) hx;have rm:=H.rel.rng .map trivial;have hsz:=H.size;have fv:frV blk fc fr none xs[m]= .slice (some ⟨blk (.frm xs[m]),0,none⟩) (fr xs[m]).length (fc xs[m]):=Za (by simp);rw [fv] at bx;have ho:=H.out;refine wp_mono (xEn s2 (base:=S+2) G.map hx (K.get F.s11 rfl) (K2.get h18 rfl) (K.get F.s16 rfl) (by omega) (by omega) (by omega) (by omega) hsz (by simp only [World.cell?,ho];rfl) (by grind [World.frozen?]) (by simp only [World.cell?,bx];rfl) (by simp only [World.cell?,bx];rfl) H.rows) ?_;rintro e a3 w3 ⟨rfl,⟨v',W',o1,o2,o3⟩,K3⟩;have KK:=K.trans K3 (l2:=[6,11,16,124,125,126]) rfl;refine⟨⟨KK.1.trans F.d,KK.2.1.trans F.s,KK.get F.s6 rfl,KK.get F.s11 rfl,KK.get F.s16 rfl,KK.get F.s124 rfl,KK.get F.s125 rfl,KK.get F.s126 rfl⟩,v',?_⟩;have hoW:W'.heap[S+1]? =some (.cells (H8 S (.slice rp m rc)) 38 (0,0)):=(o2.block _ (by omega)).trans ho;have C:Chg W' w3 (S+1) (.cells (H8 S v') 38 (0,0)):=by
   rw [o3];exact Bi hoW (by simp [H8])
  have tk:xs.take (m+1)=xs.take m++ [xs[m]]:=YX hm;refine⟨H.rel,H.hS,?_,?_,?_,C.at',?_,?_⟩
  ·exact H.below.trans ⟨C.os.trans o2.os,C.tape.trans o2.tape,C.output.trans o2.output,by rw [C.size];exact o2.size,fun b hb=>(C.other b (by omega)).trans (o2.block b (by omega))⟩
  ·rw [C.size];grind
  ·rw [C.other _ (by omega),o2.block _ (by omega)];exact H.col
  ·rw [tk,xHU];obtain⟨q0,q1⟩:=o1;refine⟨q0,?_⟩;rcases q1 with q1|⟨g,cap,cur,rfl,q2,q3,q4⟩
   ·grind
   ·exact .inr ⟨g,cap,cur,rfl,q2,(C.other _ (by omega)).trans q3,q4⟩
  ·intro x hx;rw [tk,Zf] at hx;rcases hx with hx|hx
   ·exact H.nums x hx
   grind
theorem xEw(hperm:∀x∈xs,x∈ks)(hn:xs.length<=1000)(h6:B6<w0.heap.size)(hB6:w0.heap[B6]? =some (.cells #[u0,u1,u2,u3,u4,u5,u6] ty (0,0))){a:Act}{w:World}{rv:Value}
 (F:F2 a B6 (blk .map) (S+1) (.slice (some ⟨blk .keys,0,none⟩) xs.length kc) xs.length 0) (H:W2 w0 wS w ks xs sm fr ta tb blk fc kc S 0 rv):
 cL2.wp Tryz.prog (Exit.then (fun a' w' =>F2 a' B6 (blk .map) (S+1) (.slice (some ⟨blk .keys,0,none⟩) xs.length kc) xs.length xs.length/\∃rv',W2 w0 wS w' ks xs sm fr ta tb blk fc kc S xs.length rv') (fun e a' w' =>e= .ret/\LG w0 ks xs sm fr ta tb B6 ty a' w')) a w:=by
 refine wp_block ?_;refine wp_loop (fun a w=>∃m rv,m<=xs.length/\F2 a B6 (blk .map) (S+1) (.slice (some ⟨blk .keys,0,none⟩) xs.length kc) xs.length m/\W2 w0 wS w ks xs sm fr ta tb blk fc kc S m rv) (fun a _=>xs.length - (RowKit.intOf (a.tmps.getD 126 undef)).toNat) ⟨0,rv,Zg _,F,H⟩ ?_;rintro a w ⟨m,rv,hm,F,H⟩;have m0:(RowKit.intOf (a.tmps.getD 126 undef)).toNat=m:=by
  rw [show a.tmps.getD 126 undef= .int .i64 m from Dm F.s126];simp [RowKit.intOf]
 refine wp_seq (wp_mono (xEj F.s F.s125 F.s126) ?_);rintro e a1 w1 ⟨rfl,hw,h127,K1⟩;obtain rfl:w=w1:=hw.symm;have F1' :F2 a1 B6 (blk .map) (S+1) (.slice (some ⟨blk .keys,0,none⟩) xs.length kc) xs.length m:=⟨K1.1.trans F.d,K1.2.1.trans F.s,K1.get F.s6 rfl,K1.get F.s11 rfl,K1.get F.s16 rfl,K1.get F.s124 rfl,K1.get F.s125 rfl,K1.get F.s126 rfl⟩;have hc:a1.eval (.tmp 127)= .bool (decide (m<xs.length)):=Dm h127;by_cases hlt:m<xs.length
 ·rw [Zz hlt] at hc;refine wp_seq (wp_cond_true hc (wp_skip ?_));refine wp_seq (wp_block ?_);refine wp_mono (xEy hperm hn h6 hB6 hlt F1' H) ?_;intro e a2 w2 h;cases e with
  |normal=>
   obtain⟨F2',rv',H2⟩:=h;refine wp_mono (xEo F2'.s (by omega) F2'.s126) ?_;rintro e a3 w3 ⟨rfl,hw,h126,K3⟩;obtain rfl:w2=w3:=hw.symm;refine⟨⟨m+1,rv',hlt,⟨K3.1.trans F2'.d,K3.2.1.trans F2'.s,K3.get F2'.s6 rfl,K3.get F2'.s11 rfl,K3.get F2'.s16 rfl,K3.get F2'.s124 rfl,K3.get F2'.s125 rfl,h126⟩,H2⟩,?_⟩;have m1:(RowKit.intOf (a3.tmps.getD 126 undef)).toNat=m+1:=by
    rw [show a3.tmps.getD 126 undef= .int .i64 (m+1:Nat) from Dm h126]
    grind [RowKit.intOf]
   grind
  |ret=>exact h
  |exit id=>exact absurd h.1 (by simp)
  |goto l=>exact absurd h.1 (by simp)
  |panic c=>exact absurd h.1 (by simp)
  |outgrown=>exact absurd h.1 (by simp)
 grind [wp_seq,wp_cond_false,wp_exit,Exit.then,Exit.inBlock]
end
structure F0 (a:Act) (B3 B4 B5 B6 i k:Nat):Prop where
 d:a.defers=[]
 s:a.tmps.size=153
 s3:a.tmps[3]? =some (.pointer (some ⟨B3,0,none⟩))
 s4:a.tmps[4]? =some (.pointer (some ⟨B4,0,none⟩))
 s5:a.tmps[5]? =some (.pointer (some ⟨B5,0,none⟩))
 s6:a.tmps[6]? =some (.pointer (some ⟨B6,0,none⟩))
 s9:a.tmps[9]? =some (.int .i64 i)
 s10:a.tmps[10]? =some (.int .i64 k)
def N6:Prop:=∀(blk cap:Nat) (zs:List Int) (w:World),Sort.Holds (Value.int .i64) w blk 0 zs.toArray->blk<w.heap.size->zs.length<4611686018427387904->
 Calls Tryz.prog 240 #[.slice (some ⟨blk,0,none⟩) zs.length cap] w fun e w' =>e= .returned (.tuple #[])/\∃n os,w' =Sort.grow (Sort.putRow (Value.int .i64) (Sort.ahead w n) blk 0 (zs.mergeSort fun x y=>decide (x<=y)).toArray) os
section
variable [Inhabited Lb] {w0:World} {rs:List Rowd} {B3 B4 B5 B6 i k:Nat} {rv:Value} {ta tb:ByteArray} {ty:TypeId} {u0 u1 u2 u3 u4 u5 u6:Value}
theorem xK6(hSo:N6)(hlen:rs.length<=1000)(h3:w0.cell? ⟨B3,3,none⟩=some (.string ta))(h4:w0.cell? ⟨B4,3,none⟩=some (.string tb))(hB6:w0.heap[B6]? =some (.cells #[u0,u1,u2,u3,u4,u5,u6] ty (0,0))){a:Act}{w:World}(hJ:J1 w0 rs B3 B4 B6 i k rv rs.length rs.length a w):
 cS1.wp Tryz.prog (fun e a' w' =>e= .ret/\LG w0 (vF i rs) (o9 i rs) (pA i k rs) (vE i rs) ta tb B6 ty a' w') a w:=by
 obtain⟨blk,fc,kc,F,G⟩:=hJ;rw [YV] at F G;have rk:=G.rng .keys trivial;have hkl:=Se i rs;have h6:B6<w0.heap.size:=(Zb.1 hB6).1;obtain⟨xs,hxs⟩:∃xs,o9 i rs=xs:=⟨_,rfl⟩;have hxl:xs.length=(vF i rs).length:=by rw [<-hxs];exact Y7 _
 have hperm:∀x∈xs,x∈vF i rs:=fun x hx=>by rw [<-hxs] at hx;exact YZ.1 hx
 refine wp_seq (wp_mono (xEg F.s F.s12 (hSo (blk .keys) kc (vF i rs) w G.keys.holdsI rk.2 (by omega))) ?_);rintro e a1 wS ⟨rfl,⟨n,os,hw⟩,K1⟩;rw [show((vF i rs).mergeSort fun x y=>decide (x<=y))=xs from hxs] at hw;obtain⟨p1,p2,p3⟩:=xIA (n:=n) (os:=os) G.keys hxl;rw [<-hw] at p1 p2 p3;have GS:=G.rekey (wr' :=wS) (by rw [hw];exact⟨rfl,rfl,rfl⟩) p2 p3 p1;clear hw;have s1:a1.tmps.size=153:=K1.2.1.trans F.s;have b3:=IS h3;have b4:=IS h4;have old:∀b,b<w0.heap.size->wS.heap[b]? =w0.heap[b]? :=GS.below.block;refine wp_seq (wp_mono (xEh s1 (K1.get F.s3 rfl) (K1.get F.s4 rfl) ((Fw (old _ b3)).trans h3) ((Fw (old _ b4)).trans h4)) ?_);rintro e a2 w2 ⟨rfl,hw2,h16,K2⟩;have K12:=K1.trans K2 (l2:=[6,11,12]) rfl;have s2:a2.tmps.size=153:=K2.2.1.trans s1;refine wp_seq (wp_seq (wp_mono (xEi s2 (K12.get F.s12 rfl)) ?_));rintro e a3 w3 ⟨rfl,hw,h124,h125,h126,K3⟩;obtain rfl:w2=w3:=hw.symm;have K13:=K12.trans K3 (l2:=[6,11]) rfl;rw [<-hxl] at h124 h125;have z2:w2.heap.size=wS.heap.size+2:=by simp_all
 have hcol:w2.heap[wS.heap.size]? =some (.cells #[.string ta,.string tb] 9 (0,0)):=by
  rw [hw2,BB (by simp_all)];show(Array.push _ _)[_]? =_
  grind
 have hout:w2.heap[wS.heap.size+1]? =some (.cells (H8 wS.heap.size (.slice none 0 0)) 38 (0,0)):=by
  rw [hw2];show(Array.push _ _)[_]? =_;rw [Y0,Zt (BX _ _).symm]
  rfl
 have hbS:Below wS.heap.size wS w2:=by rw [hw2];exact((Below.refl _ _).alloc (Zn _) _).alloc (by simp_all) _
 clear hw2;have H:W2 w0 wS w2 (vF i rs) xs (pA i k rs) (vE i rs) ta tb blk fc kc wS.heap.size 0 (.slice none 0 0):=⟨GS,rfl,hbS,by omega,hcol,hout,⟨rfl,.inl ⟨rfl,rfl⟩⟩,fun x hx=>by grind⟩;have FF:F2 a3 B6 (blk .map) (wS.heap.size+1) (.slice (some ⟨blk .keys,0,none⟩) xs.length kc) xs.length 0:=⟨K13.1.trans F.d,K3.2.1.trans s2,K13.get F.s6 rfl,K13.get F.s11 rfl,K3.get h16 rfl,h124,h125,h126⟩;rw [hxs];refine wp_mono (xEw hperm (by omega) h6 hB6 FF H) ?_;intro e a4 w4 h;cases e with
 |normal=>
  obtain⟨F4,rv',H4⟩:=h;obtain⟨rp,rc,rfl⟩:=Ok H4.rows;have G4:=H4.rel';refine wp_seq (wp_mono (xEp F4.s F4.s6 F4.s16 ((G4.below.block _ h6).trans hB6) H4.out) ?_);rintro e a5 w5 ⟨rfl,C,K5⟩;refine wp_ret ⟨rfl,K5.1.trans F4.d,K5.2.1.trans F4.s,K5.get F4.s6 rfl,w4,G4.below,.inr ⟨?_,blk,fc,wS.heap.size,_,C,⟨⟨kc,G4⟩,fun t ht=>(GS.rng t ht).2,H4.col,?_,H4.size⟩⟩⟩
  ·rw [Zx];intro x hx;exact H4.nums x (by grind)
  ·have:=H4.rows
   grind
 |ret=>exact h
 |exit id=>exact absurd h.1 (by simp)
 |goto l=>exact absurd h.1 (by simp)
 |panic c=>exact absurd h.1 (by simp)
 |outgrown=>exact absurd h.1 (by simp)
theorem xK5(hU:J7)(hSo:N6)(hlaid:∀x∈kE,x.1<w0.heap.size/\w0.heap[x.1]? =some x.2)(hrs:J5 w0 rv rs)(hok:∀r∈rs,RowOk i k r)(hlen:rs.length<=1000)(h3:w0.cell? ⟨B3,3,none⟩=some (.string ta))(h4:w0.cell? ⟨B4,3,none⟩=some (.string tb))(h5:w0.cell? ⟨B5,6,none⟩=some rv)
 (hB6:w0.heap[B6]? =some (.cells #[u0,u1,u2,u3,u4,u5,u6] ty (0,0))) {a:Act} (F:F0 a B3 B4 B5 B6 i k):
 (Rg 8).wp Tryz.prog (Exit.then (fun a1 w1=>Qe.wp Tryz.prog (fun e a' w' =>e= .ret/\LG w0 (vF i rs) (o9 i rs) (pA i k rs) (vE i rs) ta tb B6 ty a' w') a1 w1) (fun _ _ _=>False)) a w0:=by
 refine wp_mono (xEq F.s) ?_;rintro e a1 w1 ⟨rfl,hw1,h11,K1⟩;have s1:a1.tmps.size=153:=K1.2.1.trans F.s;refine wp_seq (wp_mono (xEr s1) ?_);rintro e a2 w2 ⟨rfl,hw2,h12,K2⟩;have K12:=K1.trans K2 (l2:=[3,4,5,6,9,10]) rfl;have s2:a2.tmps.size=153:=K2.2.1.trans s1;have z1:w1.heap.size=w0.heap.size+1:=by simp_all
 have z2:w2.heap.size=w0.heap.size+2:=by simp_all
 have hb:Below w0.heap.size w0 w2:=by rw [hw2,hw1];exact((Below.refl _ _).alloc (Zn _) _).alloc (by grind) _
 have hM:w2.heap[w0.heap.size]? =some (.map #[] 0):=by
  rw [hw2,BB (by omega),hw1];show(Array.push _ _)[_]? =_
  grind
 have hK:w2.heap[w0.heap.size+1]? =some (.cells #[] 3 (0,0)):=by
  rw [hw2];show(Array.push _ _)[_]? =_
  grind
 clear hw1 hw2;have b5:=IS h5;obtain⟨p,c,rfl,hrows⟩:=id hrs;refine wp_seq (wp_seq (wp_mono (xD6 s2 (K12.get F.s5 rfl) ((Fw (hb.block _ b5)).trans h5)) ?_));rintro e a3 w3 ⟨rfl,hw,h55,h56,h57,K3⟩;obtain rfl:w2=w3:=hw.symm;have K13:=K12.trans K3 (l2:=[3,4,6,9,10]) rfl;rw [z1] at h12
 let blk:Tg->Nat:=fun t=>match t with | .map=>w0.heap.size|_=>w0.heap.size+1
 have hJ:J1 w0 rs B3 B4 B6 i k (.slice p rs.length c) 0 0 a3 w2:=by
  refine⟨blk,fun _=>0,0,⟨K13.1.trans F.d,K3.2.1.trans s2,K13.get F.s3 rfl,K13.get F.s4 rfl,K13.get F.s6 rfl,K13.get F.s9 rfl,K13.get F.s10 rfl,K3.get (K2.get h11 rfl) rfl,K3.get h12 rfl,h55,h56,h57⟩,?_⟩;refine⟨⟨#[],0,hM,rfl⟩,fun x hx=>by(cases hx),fun x hx=>by(cases hx),fun x hx=>by(cases hx),fun x e=>by grind,⟨rfl, #[],hK,Zn _,by decide,rfl,rfl⟩,YS,fun t t' a b e=> ?_,fun t ht=> ?_,hb⟩
  ·cases t with
   |map=>
    grind
   |keys=>
    cases t' with
    |keys=>rfl
    |map=>grind
    |box x=>cases b
    |cel x=>cases b
    |frm x=>cases b.1
   |box x=>cases a
   |cel x=>cases a
   |frm x=>cases a.1
  grind
 refine wp_mono (xEv hU hlaid hrs hok hlen hJ) ?_;rintro e a4 w4 ⟨rfl,hJ4⟩;exact xK6 hSo hlen h3 h4 hB6 hJ4
end
def Eo(blk:Tg->Nat)(xs:List Int)(cb:Nat)(rv:Value)(b:Nat)(l:Nat×List (Nat×Nat)):Prop:=
 (b=cb/\l=(5,[]))\/(rv.ownBlock=some b/\l=(6,[]))\/∃(i:Nat) (x:Int),xs[i]? =some x/\((b=blk (.cel x)/\l=(6,[(i,0)]))\/(b=blk (.frm x)/\l=(6,[(i,1)])))
def Td(xs:List Int)(fr:Int->List Org):Nat×List (Nat×Nat)->Nat
 |(5,_)=>2
 |(_,[])=>xs.length*2
 |(_,[(_,0)])=>2
 |(_,[(i,_)])=>(fr (xs.getD i 0)).length*2
 |_=>0
section
variable [Inhabited Lb]
theorem xKJ{w0 W w' :World}{ks xs:List Int}{sm:Int->Int}{fr:Int->List Org}{ta tb:ByteArray}{blk:Tg->Nat}{fc:Int->Nat}{cb:Nat}{rv:Value}(E:Env)(hEw:E.w=w0)(T:Tab w0 W ks xs sm fr ta tb blk fc cb rv)
 (hW:∀b,w0.heap.size<=b->w'.heap[b]? =W.heap[b]?) (hsz:w'.heap.size=W.heap.size) (hperm:∀x∈xs,x∈ks) (hnd:xs.Nodup):
 ∃lab hwf,(∀b b' l,lab b=some l->lab b' =some l->b=b')/\(∀b l,lab b=some l->E.w.heap.size<=b/\b<w'.heap.size)/\
  VR (E.ended w' lab hwf) aL (.h 0) (.v true [.int .i64 5,.int .i64 0,.int .i64 0,.str [],.sl .own .val [],.sl .own .str [ta.data.toList,tb.data.toList],.sl .own .row (xs.map fun x=>(⟨[x,sm x],fr x⟩:Rowd))]) (.agg (H8 cb rv)):=by
 obtain⟨kc,G⟩:=T.rel;have lt:=T.lt;have hz0:=G.below.size;have hcs:=T.size;have lvc:∀ {i:Nat} {x:Int},xs[i]? =some x->x∈ks:=fun h=>hperm _ (Zy h);have rvb:∀ {b:Nat},rv.ownBlock=some b->cb+2<=b/\b<W.heap.size:=by
  intro b hb;rcases T.rows.2 with ⟨e,_⟩|⟨g,cap,cur,e,h2,h3,_⟩
  ·rw [e] at hb;cases hb
  ·rw [e] at hb;cases hb;grind
 have nidx:∀ {i j:Nat} {x:Int},xs[i]? =some x->xs[j]? =some x->i=j:=by
  grind [List.pairwise_iff_getElem]
 have rng:∀ {b l},Eo blk xs cb rv b l->w0.heap.size<=b/\b<W.heap.size:=by
  intro b l h;have hm:=G.rng .map trivial;have hl:=lt .map trivial;rcases h with ⟨rfl,_⟩|⟨h,_⟩|⟨i,x,hx,⟨rfl,_⟩|⟨rfl,_⟩⟩
  ·omega
  ·grind
  ·exact G.rng (.cel x) (lvc hx)
  ·exact G.rng (.frm x) ⟨lvc hx,by simp⟩
 have cls:∀ {b l},Eo blk xs cb rv b l->(b=cb/\l=(5,[]))\/((cb+2<=b/\rv.ownBlock=some b)/\l=(6,[]))\/∃(i:Nat) (x:Int) (t:Tg),xs[i]? =some x/\BW ks none t/\b=blk t/\blk t<cb/\((t= .cel x/\l=(6,[(i,0)]))\/(t= .frm x/\l=(6,[(i,1)]))):=by
  intro b l h;rcases h with h|⟨h,e⟩|⟨i,x,hx,⟨rfl,e⟩|⟨rfl,e⟩⟩
  ·grind
  ·grind
  ·exact .inr (.inr ⟨i,x,.cel x,hx,lvc hx,rfl,lt _ (lvc hx),.inl ⟨rfl,e⟩⟩)
  ·exact .inr (.inr ⟨i,x,.frm x,hx,⟨lvc hx,by simp⟩,rfl,lt (.frm x) ⟨lvc hx,by simp⟩,.inr ⟨rfl,e⟩⟩)
 obtain⟨lab,hlab⟩:=iL (Eo blk xs cb rv) fun b l l' h1 h2=>by
  rcases cls h1 with ⟨e1,rfl⟩|⟨⟨e1,_⟩,rfl⟩|⟨i,x,t,hx,lv,rfl,lc,q⟩ <;>rcases cls h2 with ⟨e2,rfl⟩|⟨⟨e2,_⟩,rfl⟩|⟨j,y,t',hy,lv',e,lc',q'⟩ <;>first
   |rfl
   |omega
   |skip
  have ht:=G.inj t t' lv lv' e
  grind
 have linj:∀b b' l,lab b=some l->lab b' =some l->b=b' :=by
  grind
 let hwf:Nat->Nat:=fun b=>match lab b with |some l=>Td xs fr l|none=>0
 have how:∀ {b l},Eo blk xs cb rv b l->(E.ended w' lab hwf).ow b=some (.arr (.h 0) l.1 l.2)/\(E.ended w' lab hwf).hw b=Td xs fr l:=by
  grind [Env.ended]
 have hww:(E.ended w' lab hwf).w=w' :=rfl;refine⟨lab,hwf,linj,fun b l h=>by grind,⟨_,rfl,rfl,rfl,rfl,⟨⟨#[]⟩,rfl,rfl⟩,.nil none 0 _ ⟨rfl,rfl⟩,?_,?_,trivial⟩⟩
 ·obtain⟨o1,o2⟩:=how (.inl ⟨rfl,rfl⟩:Eo blk xs cb rv cb (5,[]));have hc:w'.heap[cb]? =some (.cells #[.string ta,.string tb] 9 (0,0)):=(hW cb (by have:=G.rng .map trivial;have:=lt .map trivial;omega)).trans T.col;refine .sl cb 0 2 2 1 _ (fun i _=>if i=0 then .string ta else .string tb) rfl (Zn _) (fun r hr=> ?_) ⟨o1,o2,Zn _,_,_,0,0,hc,rfl,fun o a b=>by omega⟩ (fun i j hi hj=> ?_) (fun i j hi hj=> ?_)
  ·obtain⟨y,_,rfl⟩:=Zk.1 hr
   rfl
  ·have hj:j<1:=hj;obtain rfl:j=0:=by omega
   have:i=0\/i=1:=by omega
   rcases this with rfl|rfl
   ·exact⟨by grind [World.cell?],by rw [o2];show _<2;omega,o1⟩
   ·exact⟨by grind [World.cell?],by rw [o2];show _<2;omega,o1⟩
  ·have hi2:i<2:=hi;have:i=0\/i=1:=by omega
   rcases this with rfl|rfl
   ·have hj' :j<1:=hj;obtain rfl:j=0:=by omega
    exact .str ta
   ·have hj' :j<1:=hj;obtain rfl:j=0:=by omega
    exact .str tb
 ·rcases T.rows with ⟨hl0,⟨e,hn0⟩|⟨g,cap,cur,e,h2,h3,h4,h5,h6,h7⟩⟩
  ·have:xs=[]:=Z3.1 hn0;subst this;rw [e];exact .nil none 0 _ ⟨rfl,rfl⟩
  ·rw [e];obtain⟨o1,o2⟩:=how (.inr (.inl ⟨by rw [e];rfl,rfl⟩):Eo blk xs cb rv g (6,[]));have hg:w'.heap[g]? =some (.cells cur 150 (0,0)):=(hW g (by have:=G.rng .map trivial;have:=lt .map trivial;omega)).trans h3;have hcur:∀(i:Nat) (x:Int),xs[i]? =some x->cur[i*2]? =some (.slice (some ⟨blk (.cel x),0,none⟩) 2 2)/\cur[i*2+1]? =some (.slice (some ⟨blk (.frm x),0,none⟩) (fr x).length (fc x)):=by
    intro i x hx;obtain⟨hi,_⟩:=Zs.1 hx;have key:∀(l:List Int) (i:Nat) (x:Int),l[i]? =some x->(Gi blk fr fc l)[i*2]? =some (.slice (some ⟨blk (.cel x),0,none⟩) 2 2)/\(Gi blk fr fc l)[i*2+1]? =some (.slice (some ⟨blk (.frm x),0,none⟩) (fr x).length (fc x)):=by
     intro l
     induction l with
     |nil=>grind
     |cons y l ih=>
      intro i x h;cases i with
      |zero=>
       simp at h;subst h;exact⟨rfl,rfl⟩
      |succ i=>
       have:=ih i x (by grind);rw [show(i+1)*2=i*2+1+1 by omega];exact this
    grind
   refine .sl g 0 xs.length cap 2 _ (fun i j=>match xs[i]? with |some x=>if j=0 then .slice (some ⟨blk (.cel x),0,none⟩) 2 2 else .slice (some ⟨blk (.frm x),0,none⟩) (fr x).length (fc x) |none=>undef) (by simp) h4 (fun r hr=> ?_) ⟨o1,o2,h4,_,_,0,0,hg,h6.symm,fun o a b=>by omega⟩ (fun i j hi hj=> ?_) (fun i j hi hj=> ?_)
   ·obtain⟨y,_,rfl⟩:=Zk.1 hr
    rfl
   ·have hx:xs[i]? =some xs[i]:=Zv hi;have hj:j<2:=hj;obtain⟨k1,k2⟩:=hcur i _ hx;simp only [hx];refine⟨?_,by rw [o2];show 0+i*2+j<xs.length*2;omega,o1⟩;rw [hww];simp only [World.cell?,hg]
    grind
   ·have hi' :i<xs.length:=by grind
    have hx:xs[i]? =some xs[i]:=Zv hi';have hm:xs[i]∈ks:=hperm _ (ZN hi');have hr:(List.map Ty.row.toD (xs.map fun x=>(⟨[x,sm x],fr x⟩:Rowd)))[i]=Rowd.toD ⟨[xs[i],sm xs[i]],fr xs[i]⟩:=by rw [Yx,Yx];rfl
    have hj2:j<2:=by rw [hr] at hj;exact hj
    simp only [hx,hr]
    match j,hj2 with
    |0,_=>
     obtain⟨p1,p2⟩:=how (.inr (.inr ⟨i,_,hx,.inl ⟨rfl,rfl⟩⟩):Eo blk xs cb rv (blk (.cel xs[i])) (6,[(i,0)]));have rc:=G.rng (.cel xs[i]) hm;have hc:w'.heap[blk (.cel xs[i])]? =some (.cells #[.int .i64 xs[i],.int .i64 (sm xs[i])] 3 (0,0)):=(hW _ rc.1).trans (G.cel _ hm);refine .sl (blk (.cel xs[i])) 0 2 2 1 [[.int .i64 xs[i]],[.int .i64 (sm xs[i])]] (fun i' _=>if i' =0 then .int .i64 xs[i] else .int .i64 (sm xs[i])) rfl (Zn _) (fun r hr=> ?_) ⟨p1,p2,Zn _,_,_,0,0,hc,rfl,fun o a b=>by omega⟩ (fun i' j hi hj=> ?_) (fun i' j hi hj=> ?_)
     ·grind
     ·have hj:j<1:=hj;obtain rfl:j=0:=by omega
      have:i' =0\/i' =1:=by omega
      rcases this with rfl|rfl
      ·exact⟨by grind [World.cell?],by rw [p2];show _<2;omega,p1⟩
      ·exact⟨by grind [World.cell?],by rw [p2];show _<2;omega,p1⟩
     ·have hi2:i' <2:=hi;have:i' =0\/i' =1:=by omega
      rcases this with rfl|rfl
      ·have hj' :j<1:=hj;obtain rfl:j=0:=by omega
       exact .int .i64 _
      ·have hj' :j<1:=hj;obtain rfl:j=0:=by omega
       exact .int .i64 _
    |1,_=>
     obtain⟨p1,p2⟩:=how (.inr (.inr ⟨i,_,hx,.inr ⟨rfl,rfl⟩⟩):Eo blk xs cb rv (blk (.frm xs[i])) (6,[(i,1)]));have p2:(E.ended w' lab hwf).hw (blk (.frm xs[i]))=(fr xs[i]).length*2:=by
      rw [p2];show(fr (xs.getD i 0)).length*2=_
      grind
     have rc:=G.rng (.frm xs[i]) ⟨hm,by simp⟩;have ho:=(G.frm _ hm (by simp)).kept (hW _ rc.1);have ho' :=ho;obtain⟨q1,cs,ty,lo,hi',q2,q3,q4,_⟩:=ho';exact xHq (w:=(E.ended w' lab hwf).w) ho (fun o ho=>⟨by grind,p1⟩) ⟨p1,p2,q1,cs,ty,lo,hi',q2,q3,q4⟩
end
theorem xIo:N6:=fun blk cap zs w h1 h2 h3=>Any.sort_Ints Tryz.lays191 blk 0 cap zs w h1 h2 h3
section
variable [Inhabited Lb]
theorem xKX:J7:=xBg
theorem NX{E:Env}{bxs:Nat->Prop}{pl:Pl}{c0 c1 c2 c3 c4 c5 c6:CV}{l:List Value}(h:VRs E bxs pl 0 [c0,c1,c2,c3,c4,c5,c6] l):
 ∃v0 v1 v2 v3 v4 v5 v6,l=[v0,v1,v2,v3,v4,v5,v6]/\VRc E bxs pl 3 c3 v3/\VRc E bxs pl 6 c6 v6:=by
 rcases l with _|⟨v0,l⟩
 ·exact h.elim
 obtain⟨_,h⟩:=h;rcases l with _|⟨v1,l⟩
 ·exact h.elim
 obtain⟨_,h⟩:=h;rcases l with _|⟨v2,l⟩
 ·exact h.elim
 obtain⟨_,h⟩:=h;rcases l with _|⟨v3,l⟩
 ·exact h.elim
 obtain⟨q3,h⟩:=h;rcases l with _|⟨v4,l⟩
 ·exact h.elim
 obtain⟨_,h⟩:=h;rcases l with _|⟨v5,l⟩
 ·exact h.elim
 obtain⟨_,h⟩:=h;rcases l with _|⟨v6,l⟩
 ·exact h.elim
 obtain⟨q6,h⟩:=h;rcases l with _|⟨v7,l⟩
 ·grind
 ·exact h.elim
theorem Hk{a:Act}{k:Nat}{v:Value}(hs:a.tmps.size=153)(hk:k<153)(h:a.tmps.getD k undef=v):a.tmps[k]? =some v:=by
 simp_all
theorem xEu{x9 x10:Int}{b3 b4 b5:Val}{r:Val×Bool}{I:Info}{σ:St}{c0 c1 c2 c3 c4 c5 c6:CV}(hst:AF 8 I.body=[.code (Rg 8),.code Qe])(hx:I.ext=[])(hl:I.lnt=[])(hn:I.nt=153)
 (g6:σ.get 6= .v false [.ptr 3 0]) (g8:σ.get 8= .v false [.ptr 4 0]) (g10:σ.get 10= .v false [.ptr 5 0]) (g12:σ.get 12= .v false [.ptr 6 0]) (g18:σ.get 18= .v false [.int .i64 x9]) (g20:σ.get 20= .v false [.int .i64 x10])
 (g7:σ.get 7= .v true [.int .i64 (Val.kind b3),.int .i64 (Val.n b3),.int .i64 (Val.step b3),.str (Val.text b3),.sl .ro .val (Val.list b3),.sl .ro .str (Val.columns b3),.sl .ro .row (Val.rows b3)])
 (g9:σ.get 9= .v true [.int .i64 (Val.kind b4),.int .i64 (Val.n b4),.int .i64 (Val.step b4),.str (Val.text b4),.sl .ro .val (Val.list b4),.sl .ro .str (Val.columns b4),.sl .ro .row (Val.rows b4)])
 (g11:σ.get 11= .v true [.int .i64 (Val.kind b5),.int .i64 (Val.n b5),.int .i64 (Val.step b5),.str (Val.text b5),.sl .ro .val (Val.list b5),.sl .ro .str (Val.columns b5),.sl .ro .row (Val.rows b5)])
 (g13:σ.get 13= .v true [c0,c1,c2,c3,c4,c5,c6])
 (h:zX x9 x10 b3 b4 b5=some r):Reach Tryz.prog Tryz.f194 I (AF 8 I.body) σ (OE r):=by
 unfold zX at h;split at h
 case isFalse=>cases h
 rename_i hc;obtain⟨hi0,hk0,hall,hlen⟩:=hc;obtain⟨i,rfl⟩:∃i:Nat,x9=i:=⟨x9.toNat,by omega⟩;obtain⟨k,rfl⟩:∃k:Nat,x10=k:=⟨x10.toNat,by omega⟩;rw [jI,jI] at h hall;have hok:∀r∈Val.rows b5,RowOk i k r:=fun r hr=>by
  have:=Zx.1 hall r hr;simp only [yL,Zu,ZU] at this;exact⟨this.1.1,this.1.2,this.2⟩
 rw [hst];refine Reach.tail fun C hP hnt hext a w hR=> ?_;obtain⟨hd,E,rfl,hi⟩:=hR;have hs:a.tmps.size=153:=hi.nt.trans (hnt.trans hn);have t3:=hi.tmp 3;rw [show 2*3=6 from rfl,g6] at t3;have t4:=hi.tmp 4;rw [show 2*4=8 from rfl,g8] at t4;have t5:=hi.tmp 5;rw [show 2*5=10 from rfl,g10] at t5;have t6:=hi.tmp 6;rw [show 2*6=12 from rfl,g12] at t6;have t9:=hi.tmp 9;rw [show 2*9=18 from rfl,g18] at t9;have t10:=hi.tmp 10;rw [show 2*10=20 from rfl,g20] at t10;obtain⟨⟨e3,_⟩,_⟩:=t3;obtain⟨⟨e4,_⟩,_⟩:=t4;obtain⟨⟨e5,_⟩,_⟩:=t5;obtain⟨⟨e6,_⟩,_⟩:=t6;obtain⟨e9,_⟩:=t9;obtain⟨e10,_⟩:=t10;obtain⟨o3,vals3,ty3,hb3,hv3⟩:=hi.box 3 _ g7;obtain⟨o4,vals4,ty4,hb4,hv4⟩:=hi.box 4 _ g9;obtain⟨o5,vals5,ty5,hb5,hv5⟩:=hi.box 5 _ g11;obtain⟨o6,vals6,ty6,hb6,hv6⟩:=hi.box 6 _ g13;obtain⟨_,_,_,v3,_,_,_,l3,⟨ta,rfl,hta⟩,_⟩:=NX hv3;obtain⟨_,_,_,v4,_,_,_,l4,⟨tb,rfl,htb⟩,_⟩:=NX hv4;obtain⟨_,_,_,_,_,_,v5,l5,_,hrow⟩:=NX hv5;obtain⟨u0,u1,u2,u3,u4,u5,u6,l6,_,_⟩:=NX hv6;have hB6:E.w.heap[E.bx 6]? =some (.cells #[u0,u1,u2,u3,u4,u5,u6] ty6 (0,0)):=by rw [hb6,show vals6= #[u0,u1,u2,u3,u4,u5,u6] from Yg l6]
 have k3:E.w.cell? ⟨E.bx 3,3,none⟩=some (.string ta):=by
  have:vals3[3]? =some (.string ta):=by rw [<-ZO,l3];rfl
  grind [World.cell?]
 have k4:E.w.cell? ⟨E.bx 4,3,none⟩=some (.string tb):=by
  have:vals4[3]? =some (.string tb):=by rw [<-ZO,l4];rfl
  grind [World.cell?]
 have k5:E.w.cell? ⟨E.bx 5,6,none⟩=some v5:=by
  have:vals5[6]? =some v5:=by rw [<-ZO,l5];rfl
  grind [World.cell?]
 have hlaid:∀x∈kE,x.1<E.w.heap.size/\E.w.heap[x.1]? =some x.2:=fun x hx=>by
  obtain⟨b1,b2,b3,_⟩:=hi.base x hx;exact⟨ZZ b1 hi.size,(hi.old x.1 b1 b2).1.trans b3⟩
 have hrs:J5 E.w v5 (Val.rows b5):=xHW hrow;have W:=xK5 xKX xIo hlaid hrs hok hlen k3 k4 k5 hB6 (a:=a) ⟨hd,hs,Hk hs (by decide) e3,Hk hs (by decide) e4,Hk hs (by decide) e5,Hk hs (by decide) e6,Hk hs (by decide) e9,Hk hs (by decide) e10⟩;have hex:∀s b,C.ext s=some b->False:=fun s b hb=>by grind
 have hB6l:E.bx 6<E.w.heap.size:=(Zb.1 hB6).1;refine wp_mono W ?_;intro e a1 w1 h1;cases e with
 |normal=>
  refine wp_mono h1 ?_;rintro e a' w' ⟨rfl,d1,d2,d3,Wd,hbel,hcase⟩;refine⟨rfl,?_⟩;have d3' :a'.tmps.getD 6 undef= .pointer (some ⟨E.bx 6,0,none⟩):=Dm d3;rcases hcase with ⟨hall,hC⟩|⟨hall,blk,fc,cb,rv,hC,T⟩
  ·rw [Za (by grind)] at h;cases h;have hz:=hbel.size;refine Qw (B6:=E.bx 6) (lab:=fun _=>none) (hwf:=fun _=>0) hi hex hx hl (by grind) ⟨hC.os.trans hbel.os,hC.tape.trans hbel.tape,hC.output.trans hbel.output⟩ (by rw [hC.size];grind) (fun b hb hne=>(hC.other b hne).trans (hbel.block b hb)) d1 (d2.trans (hn.symm.trans hnt.symm)) (fun b b' l h=>by cases h) (fun b l h=>by cases h) (v:= .agg Qs) rfl ?_ ?_
   ·exact⟨_,rfl,rfl,rfl,rfl,⟨⟨#[]⟩,rfl,rfl⟩,.nil none 0 _ ⟨rfl,rfl⟩,.nil none 0 _ ⟨rfl,rfl⟩,.nil none 0 _ ⟨rfl,rfl⟩,trivial⟩
   ·rw [hP];exact Oo rfl d3' hC.at'
  ·rw [Zt hall] at h;cases h;have hz:=hbel.size;obtain⟨rp,rc,rfl⟩:=Ok T.rows;have hperm:∀x∈o9 i (Val.rows b5),x∈vF i (Val.rows b5):=fun x hx=>YZ.1 hx;obtain⟨kc,G⟩:=T.rel;have hnd:(o9 i (Val.rows b5)).Nodup:=(Y4 _ _).nodup_iff.2 G.nodup;obtain⟨lab,hwf,j1,j2,j3⟩:=xKJ E rfl T (w' :=w') (fun b hb=>hC.other b (by omega)) hC.size hperm hnd;rw [hta,htb] at j3;refine Qw (B6:=E.bx 6) (lab:=lab) (hwf:=hwf) hi hex hx hl (by grind) ⟨hC.os.trans hbel.os,hC.tape.trans hbel.tape,hC.output.trans hbel.output⟩ (by rw [hC.size];grind) (fun b hb hne=>(hC.other b hne).trans (hbel.block b hb)) d1 (d2.trans (hn.symm.trans hnt.symm)) j1 j2 rfl j3 ?_;rw [hP];exact Oo rfl d3' hC.at'
 |exit id=>exact h1.elim
 |goto l=>exact h1.elim
 |ret=>exact h1.elim
 |panic c=>exact h1.elim
 |outgrown=>exact h1.elim
end
end Go.Ab
end
section
open Go.Proofs
namespace Go.Ab.T
set_option maxRecDepth 100000
variable [Inhabited Lb]
def NY(q:Exp->Int->Option (Int)):Prop:=∀a0 a1 r,q a0 a1=some r->AbC 105 [.val (.v true (Ex .ro a0)),.val (vI a1)] (A9 r)
def RH:=fO Tryz.func105 [0,2,4,8,10,32,5] [(3,[2,4,10,5])] [(3,[(5,.take,false)])]
theorem xBI{N}{q0}(g0:NY q0):∀n {x1 x5 b2 r},F8 N q0 n x1 x5 b2=some r->RS RH 3 [(2,vI x1),(4,vP 2),(10,vI x5),(5,.v true (Ex .ro b2))] (A9 r):=
 nI nE fun n ih=>fun h=>cE (oA h) (fun h=>cE h (fun h=>bE (iE h) (g0 _ _ _) fun r1 h=>uS h ih) fun h=>dS h) fun h=>dS (cb F h)
theorem xJB{N}{q0}(g0:NY q0){a0 a1 r}(h:xAu N q0 a0 a1=some r):AbC 105 [.val (.v true (Ex .ro a0)),.val (vI a1)] (A9 r):=
 oK RH <| uE (oA h) (xBI g0 _)
theorem xAv{N:Nat}:∀d,NY (Iz N d)
 |0=>fun _ _ _ h=>nE h
 |d+1=>fun _ _ _ h=>xJB (N:=N) (xAv d) h
theorem xJC{N:Nat}{a0:Exp}{a1:Int}{r:Int}(h:PT N a0 a1=some r):AbC 105 [.val (.v true (Ex .ro a0)),.val (vI a1)] (A9 r):=xAv N _ _ r h
theorem xAI{N a0 a1 r}(h:HT N a0 a1=some r):AbC 149 [.val (vI a0),.val (vI a1)] (A9 r):=
 oK (fO Tryz.func149 [0,2,8,14]) <| cE (oA h) (fun h=>dE h) fun h=>dE h
def NZ(q:Exp->Option (Int)):Prop:=∀a0 r,q a0=some r->AbC 106 (BA a0) (A9 r)
def RI:=fO Tryz.func106 [0,2,4,6,8,18,3] [(3,[2,6,8,3])]
theorem xBJ{N}{q0}(g0:NZ q0):∀n {x3 x4 b1 r},Ir N q0 n x3 x4 b1=some r->RS RI 3 [(2,vP 1),(6,vI x3),(8,vI x4),(3,.v true (Ex .ro b1))] (A9 r):=
 nI nE fun n ih=>fun h=>cE (oA h) (fun h=>bE (iE h) (g0 _ _) fun r1 h=>bE h xAI fun r2 h=>uS h ih) fun h=>dS h
theorem xJe{N}{q0}(g0:NZ q0){a0 r}(h:xAj N q0 a0=some r):AbC 106 (BA a0) (A9 r):=
 oK RI <| uE (oA h) (xBJ g0 _)
theorem xAk{N:Nat}:∀d,NZ (Kd N d)
 |0=>fun _ _ h=>nE h
 |d+1=>fun _ _ h=>xJe (N:=N) (xAk d) h
theorem xJf{N:Nat}{a0:Exp}{r:Int}(h:PO N a0=some r):AbC 106 (BA a0) (A9 r):=xAk N _ r h
theorem HS{N a0 a1 a2 r}(h:Dj N a0 a1 a2=some r):AbC 201 [.val (vI a0),.val (vI a1),.val (vI a2)] (AN r):=
 oK (fO Tryz.func201 [0,2,4,12] [] [(1,[(3,.take,false)])]) <| cE (oA h) (fun h=>dE h) fun h=>dE h
def Rh:=fO Tryz.func202 [0,4,6,14,50] [(2,[0,6])] [(4,[(4,.take,false),(10,.take,false)])]
theorem xCg{N}:∀n {x0 x3 r},F6 N n x0 x3=some r->RS Rh 2 [(0,vTq x0),(6,vI x3)] (AN r):=
 nI nE fun n ih=>fun h=>cE (oA h) (fun h=>cE (iE h) (fun h=>dS (cb Y (cb Y h))) fun h=>cE (rp 1 h) (fun h=>dS (cb Y h)) fun h=>cE (rp 3 h) (fun h=>dS h) fun h=>uS h ih) fun h=>dS h
theorem xAg{N a0 r}(h:Mh N a0=some r):AbC 202 (C1 a0) (AN r):=
 oK Rh <| uE (oA h) (xCg _)
def Ry:=fO Tryz.func245 [0,4,6,8,10,18,82] [(2,[0,6])] [(4,[(4,.take,false)]),(5,[(4,.take,false)]),(6,[(0,.take,false),(2,.take,false),(5,.take,false),(6,.take,false)])]
theorem xCJ{N}:∀n {x0 x3 r},Dk N n x0 x3=some r->RS Ry 2 [(0,vTq x0),(6,vI x3)] (AN r):=
 nI nE fun n ih=>fun h=>cE (oA h) (fun h=>cE (iE h) (fun h=>cE (rp 2 (rp 1 h)) (fun h=>cE (rp 4 h) (fun h=>cE h (fun h=>dS (cb Y h)) fun h=>cE h (fun h=>dS h) fun h=>uS h ih) fun h=>uS (cb F h) ih) fun h=>cE h (fun h=>cE h (fun h=>dS (cb Y h)) fun h=>dS (cb Y h)) fun h=>uS (cb F h) ih) fun h=>cE (rp 1 h) (fun h=>cE (cb Y (rp 3 h)) (fun h=>dS (cb Y h)) fun h=>cE h (fun h=>dS h) fun h=>uS h ih) fun h=>cE (cb Y h) (fun h=>dS (cb Y h)) fun h=>dS (cb Y h)) fun h=>dS h
theorem xJ3{N a0 r}(h:P6 N a0=some r):AbC 245 (C1 a0) (AN r):=
 oK Ry <| uE (oA h) (xCJ _)
theorem xJ1{N  r}(h:P5 N  =some r):AbC 273 (xJ0 ) (HU r):=
 oK (fO Tryz.func273 [0]) <| dE (oA h)
def SJ:=fO Tryz.func272 [0,2,8,10,18,34] [(2,[0,2,10])]
theorem xCT{N}:∀n {x0 x1 x5 r},HR N n x0 x1 x5=some r->RS SJ 2 [(0,vS .ro .str x0),(2,vTq x1),(10,vI x5)] (AN r):=
 nI nE fun n ih=>fun h=>cE (oA h) (fun h=>cE (iE h) (fun h=>dS h) fun h=>uS h ih) fun h=>dS h
theorem xAH{N a0 a1 r}(h:NG N a0 a1=some r):AbC 272 [.val (vS .ro .str a0),.val (vTq a1)] (AN r):=
 oK SJ <| uE (oA h) (xCT _)
theorem xI4{N a0 r}(h:Mg N a0=some r):AbC 246 (C1 a0) (AN r):=
 oK (fO Tryz.func246 [0,4]) <| bE (oA h) xJ1 fun r1 h=>bE h xAH fun r2 h=>dE h
theorem Ka{N a0 r}(h:F5 N a0=some r):AbC 203 (C1 a0) (AN r):=
 oK (fO Tryz.func203 [0,4] [] [(1,[(2,.take,false),(7,.take,false)])]) <| bE (oA h) xJ3 fun r1 h=>cE h (fun h=>cE h (fun h=>bE h xI4 fun r2 h=>dE h) fun h=>dE h) fun h=>dE (cb F h)
theorem Un{N a0 r}(h:Db N a0=some r):AbC 204 (C1 a0) (A9 r):=
 oK (fO Tryz.func204 [0,4,6,8,12,24,40,48]) <| cE (oA h) (fun h=>dE h) fun h=>cE h (fun h=>dE (rb Y 0 h)) fun h=>cE h (fun h=>dE (rb Y 0 h)) fun h=>cE h (fun h=>dE (rb Y 0 h)) fun h=>cE h (fun h=>dE (rb Y 0 h)) fun h=>cE h (fun h=>dE h) fun h=>cE h (fun h=>dE (rb Y 0 h)) fun h=>cE h (fun h=>dE (rb Y 0 h)) fun h=>cE h (fun h=>dE (rb Y 0 h)) fun h=>cE h (fun h=>dE (rb Y 0 h)) fun h=>cE h (fun h=>dE (rb Y 0 h)) fun h=>cE h (fun h=>dE (rb Y 0 h)) fun h=>cE h (fun h=>dE h) fun h=>cE h (fun h=>dE (rb Y 0 h)) fun h=>cE h (fun h=>dE (rb Y 0 h)) fun h=>cE h (fun h=>dE h) fun h=>cE h (fun h=>dE h) fun h=>dE h
theorem xJG{N a0 r}(h:Mv N a0=some r):AbC 150 (BA a0) (AN r):=
 oK (fO Tryz.func150 [0,2,4,6,16,18,46,74,102,130,154,182,212,3] [] [(4,[(2,.take,false),(7,.take,false)]),(6,[(2,.take,false),(7,.take,false)]),(8,[(2,.take,false),(7,.take,false)]),(10,[(3,.take,false),(8,.take,false)]),(12,[(3,.take,false)]),(14,[(3,.take,false),(7,.take,false)]),(17,[(3,.take,false),(7,.take,false)]),(19,[(3,.take,false),(8,.take,false)])]) <| cE (oA h) (fun h=>cE h (fun h=>cE h (fun h=>bE h HS fun r1 h=>dE h) fun h=>dE h) fun h=>dE (cb F h)) fun h=>cE h (fun h=>cE h (fun h=>cE h (fun h=>bE h xAg fun r1 h=>dE h) fun h=>dE h) fun h=>dE (cb F h)) fun h=>cE h (fun h=>cE h (fun h=>cE h (fun h=>bE h Ka fun r1 h=>dE h) fun h=>dE h) fun h=>dE (cb F h)) fun h=>cE h (fun h=>cE h (fun h=>cE h (fun h=>dE h) fun h=>dE h) fun h=>dE (cb F h)) fun h=>cE h (fun h=>cE h (fun h=>bE h Un fun r1 h=>dE h) fun h=>dE h) fun h=>cE h (fun h=>cE h (fun h=>cE h (fun h=>bE h HS fun r1 h=>dE h) fun h=>dE h) fun h=>dE (cb F h)) fun h=>cE h (fun h=>cE (rb Y 0 h) (fun h=>cE h (fun h=>bE h Ka fun r1 h=>dE h) fun h=>dE h) fun h=>dE (cb F h)) fun h=>cE h (fun h=>cE h (fun h=>cE h (fun h=>bE h Ka fun r1 h=>dE h) fun h=>dE h) fun h=>dE (cb F h)) fun h=>cE h (fun h=>cE h (fun h=>cE h (fun h=>dE h) fun h=>dE h) fun h=>dE (cb F h)) fun h=>dE h
def N0(q:Exp->Option (Bool)):Prop:=∀a0 r,q a0=some r->AbC 107 (BA a0) (AN r)
def RJ:=fO Tryz.func107 [0,2,4,6,16,34,3] [(2,[2,6,3])]
theorem xBK{N}{q0}(g0:N0 q0):∀n {x3 b1 r},HJ N q0 n x3 b1=some r->RS RJ 2 [(2,vP 1),(6,vI x3),(3,.v true (Ex .ro b1))] (AN r):=
 nI nE fun n ih=>fun h=>cE (oA h) (fun h=>bE (iE h) (g0 _ _) fun r1 h=>cE h (fun h=>dS h) fun h=>uS h ih) fun h=>bE h xJG fun r1 h=>dS h
theorem xJz{N}{q0}(g0:N0 q0){a0 r}(h:xAq N q0 a0=some r):AbC 107 (BA a0) (AN r):=
 oK RJ <| uE (oA h) (xBK g0 _)
theorem xAr{N:Nat}:∀d,N0 (Kh N d)
 |0=>fun _ _ h=>nE h
 |d+1=>fun _ _ h=>xJz (N:=N) (xAr d) h
theorem xJA{N:Nat}{a0:Exp}{r:Bool}(h:PR N a0=some r):AbC 107 (BA a0) (AN r):=xAr N _ r h
theorem Im{N a0 r}(h:Cr N a0=some r):AbC 46 (BA a0) (AN r):=
 oK (fO Tryz.func46 [0,2,4,3] [] [(1,[(3,.take,false),(8,.take,false)])]) <| bE (oA h) xJC fun r1 h=>cE h (fun h=>bE h xJf fun r2 h=>cE h (fun h=>bE h xJA fun r3 h=>dE h) fun h=>dE h) fun h=>dE (cb F h)
theorem AS{N a0 r}(h:AK N a0=some r):AbC 47 [.val (vI a0)] (AW r):=
 oK (fO Tryz.func47 [0,4,5]) <| dE (oA h)
theorem BF{N a0 r}(h:A6 N a0=some r):AbC 85 [.val (vI a0)] (AW r):=
 oK (fO Tryz.func85 [0,4,5]) <| dE (oA h)
theorem Kg{N a0 r}(h:Df N a0=some r):AbC 108 (C1 a0) (AW r):=
 oK (fO Tryz.func108 [0,4,5]) <| dE (oA h)
theorem xAS{N a0 r}(h:Kq N a0=some r):AbC 118 [.val (.v true [.sl .ro .int a0.cells,.sl .ro .org a0.frm])] (Pd r):=
 oK (fO Tryz.func118 [0,2,4,3,5]) <| dE (iE (iE (oA h)))
def G50(q:Val->Option (Val)):Prop:=∀a0 r,q a0=some r->AbC 50 (Am a0) (AW r)
def Nu:=fO Tryz.func50 [0,2,4,6,8,10,46,82,3,5,7] [(3,[2,4,6,8,3,5,7]),(7,[2,4,6,10,3,5,7])] [(5,[(1,.take,false),(9,.take,false)]),(9,[(1,.take,false),(9,.take,false)]),(10,[(0,.take,false)])]
theorem xDc{N}{q0}(g0:G50 q0):∀n {x5 b1 b2 b3 r},HW N q0 n x5 b1 b2 b3=some r->RS Nu 7 [(2,vP 1),(4,vP 2),(6,vP 3),(10,vI x5),(3,vV .ro b1),(5,vV .own b2),(7,vV .own b3)] (AW r):=
 nI nE fun n ih=>fun h=>cE (oA h) (fun h=>bE (iE h) xAS fun r1 h=>uS (iE h) ih) fun h=>dS h
theorem xDb{N}{q0}(g0:G50 q0):∀n {x4 b1 b2 b3 r},JM N q0 n x4 b1 b2 b3=some r->RS Nu 3 [(2,vP 1),(4,vP 2),(6,vP 3),(8,vI x4),(3,vV .ro b1),(5,vV .own b2),(7,vV .own b3)] (AW r):=
 nI nE fun n ih=>fun h=>cE (oA h) (fun h=>bE (iE h) (g0 _ _) fun r1 h=>uS (iE h) ih) fun h=>uS h (xDc g0 _)
theorem xJ6{N}{q0}(g0:G50 q0){a0 r}(h:NJ N q0 a0=some r):AbC 50 (Am a0) (AW r):=
 oK Nu <| uE (iE (oA h)) (xDb g0 _)
theorem xAN{N:Nat}:∀d,G50 (HX N d)
 |0=>fun _ _ h=>nE h
 |d+1=>fun _ _ h=>xJ6 (N:=N) (xAN d) h
theorem DN{N:Nat}{a0:Val}{r:Val}(h:B1 N a0=some r):AbC 50 (Am a0) (AW r):=xAN N _ r h
def RK:=fO Tryz.func109 [0,2,8,10,20,38,9] [(2,[0,2,8,10,9])]
theorem xBL{N}:∀n {x0 x1 x5 b4 r},Iq N n x0 x1 x5 b4=some r->RS RK 2 [(0,vS .ro .bnd x0),(2,vTq x1),(8,vP 4),(10,vI x5),(9,vV .own b4)] (AW r):=
 nI nE fun n ih=>fun h=>cE (oA h) (fun h=>cE (iE h) (fun h=>bE (rp 1 h) DN fun r1 h=>dS h) fun h=>uS h ih) fun h=>bE h AS fun r1 h=>dS h
theorem xJb{N a0 a1 r}(h:Mk N a0 a1=some r):AbC 109 [.val (vS .ro .bnd a0),.val (vTq a1)] (AW r):=
 oK RK <| uE (oA h) (xBL _)
theorem Eb{N a0 r}(h:Cs N a0=some r):AbC 221 [.val (vI a0)] (AN r):=
 oK (fO Tryz.func221 [0,4]) <| bE (oA h) HS fun r1 h=>dE h
theorem xAP{N a0 r}(h:Ko N a0=some r):AbC 152 (Am a0) (AN r):=
 oK (fO Tryz.func152 [0,2,4,3] [] [(1,[(3,.take,false),(8,.take,false)])]) <| cE (oA h) (fun h=>dE (cb Y h)) fun h=>cE h (fun h=>dE h) fun h=>dE h
def N2(q:Val->Option (Int)):Prop:=∀a0 r,q a0=some r->AbC 154 (Am a0) (A9 r)
def R1:=fO Tryz.func154 [0,2,4,6,8,18,3] [(3,[2,6,8,3])]
theorem xB2{N}{q0}(g0:N2 q0):∀n {x3 x4 b1 r},Ij N q0 n x3 x4 b1=some r->RS R1 3 [(2,vP 1),(6,vI x3),(8,vI x4),(3,vV .ro b1)] (A9 r):=
 nI nE fun n ih=>fun h=>cE (oA h) (fun h=>bE (iE h) (g0 _ _) fun r1 h=>bE h xAI fun r2 h=>uS h ih) fun h=>dS h
theorem xIQ{N}{q0}(g0:N2 q0){a0 r}(h:Up N q0 a0=some r):AbC 154 (Am a0) (A9 r):=
 oK R1 <| uE (oA h) (xB2 g0 _)
theorem Uq{N:Nat}:∀d,N2 (Gy N d)
 |0=>fun _ _ h=>nE h
 |d+1=>fun _ _ h=>xIQ (N:=N) (Uq d) h
theorem xAa{N:Nat}{a0:Val}{r:Int}(h:Ii N a0=some r):AbC 154 (Am a0) (A9 r):=Uq N _ r h
def SB:=fO Tryz.func252 [0,4,6,14,34] [(2,[0,6])]
theorem xCM{N}:∀n {x0 x3 r},Gu N n x0 x3=some r->RS SB 2 [(0,vS .ro .str x0),(6,vI x3)] (AN r):=
 nI nE fun n ih=>fun h=>cE (oA h) (fun h=>bE (iE (iE h)) xAH fun r1 h=>cE h (fun h=>dS h) fun h=>uS h ih) fun h=>dS h
theorem PC{N a0 r}(h:KZ N a0=some r):AbC 252 [.val (vS .ro .str a0)] (AN r):=
 oK SB <| uE (oA h) (xCM _)
def SC:=fO Tryz.func253 [0,4,6,14,30] [(2,[0,6])] [(6,[(3,.take,false)])]
theorem xCN{N}:∀n {x0 x3 r},JL N n x0 x3=some r->RS SC 2 [(0,vS .ro .str x0),(6,vI x3)] (AN r):=
 nI nE fun n ih=>fun h=>cE (oA h) (fun h=>bE (iE h) Ka fun r1 h=>cE h (fun h=>dS h) fun h=>uS h ih) fun h=>bE h HS fun r1 h=>cE h (fun h=>bE h PC fun r2 h=>dS h) fun h=>dS h
theorem xAM{N a0 r}(h:NI N a0=some r):AbC 253 [.val (vS .ro .str a0)] (AN r):=
 oK SC <| uE (oA h) (xCN _)
theorem NH{N a0 a1 r}(h:HV N a0 a1=some r):AbC 278 (TZ a0 a1) (AN r):=
 oK (fO Tryz.func278 [0,2,4,6,8,5,7] [] [(1,[(5,.take,false),(11,.take,false)])]) <| cE (oA h) (fun h=>dE h) fun h=>cE h (fun h=>dE h) fun h=>dE h
def SG:=fO Tryz.func265 [0,4,6,14,80] [(2,[0,6])] [(4,[(6,.take,false),(14,.take,false),(17,.take,false)])]
theorem xCR{N}:∀n {x0 x3 r},Fg N n x0 x3=some r->RS SG 2 [(0,vS .ro .org x0),(6,vI x3)] (AN r):=
 nI nE fun n ih=>fun h=>cE (oA h) (fun h=>cE (iE h) (fun h=>dS (cb Y (cb Y h))) fun h=>cE (rp 1 h) (fun h=>dS (cb Y h)) fun h=>cE h (fun h=>bE (rp 5 (iE h)) NH fun r1 h=>cE h (fun h=>dS h) fun h=>uS h ih) fun h=>uS (cb F h) ih) fun h=>dS h
theorem xJ5{N a0 r}(h:P7 N a0=some r):AbC 265 [.val (vS .ro .org a0)] (AN r):=
 oK SG <| uE (oA h) (xCR _)
def LX:=fO Tryz.func227 [0,2,4,6,8,10,30,40,80,90,108,3,9] [(4,[2,6,3]),(10,[2,6,8,10,3,9])] [(1,[(4,.take,false)]),(7,[(7,.take,false)])]
theorem xCw{N}{k4}(hk4:∀ {z0 z1 r},k4 z0 z1=some r->RS LX 4 [(2,vP 1),(6,vI z0),(3,vV .ro z1)] (AN r)):∀n {x3 x5 b1 b4 r},H1 N k4 n x3 x5 b1 b4=some r->RS LX 10 [(2,vP 1),(6,vI x3),(8,vP 4),(10,vI x5),(3,vV .ro b1),(9,.v true [.sl .ro .int b4.cells,.sl .ro .org b4.frm])] (AN r):=
 nI nE fun n ih=>fun h=>cE (oA h) (fun h=>bE (iE h) Eb fun r1 h=>cE h (fun h=>dS h) fun h=>uS h ih) fun h=>uS h hk4
theorem xCx{N}:∀n {x3 b1 r},JS N n x3 b1=some r->RS LX 4 [(2,vP 1),(6,vI x3),(3,vV .ro b1)] (AN r):=
 nI nE fun n ih=>fun h=>cE (oA h) (fun h=>cE (iE h) (fun h=>dS (cb Y h)) fun h=>bE h xJ5 fun r1 h=>cE h (fun h=>dS h) fun h=>uS h (xCw ih _)) fun h=>dS h
theorem xKj{N a0 r}(h:NO N a0=some r):AbC 227 (Am a0) (AN r):=
 oK LX <| bE (oA h) xAM fun r1 h=>cE h (fun h=>dE (cb Y h)) fun h=>cE h (fun h=>dE h) fun h=>uE h (xCx _)
def LD(q:Val->Option (Bool)):Prop:=∀a0 r,q a0=some r->AbC 176 (Am a0) (AN r)
def LF(q:Val->Option (Bool)):Prop:=∀a0 r,q a0=some r->AbC 226 (Am a0) (AN r)
theorem xI6{N}{q0}(g0:LD q0){q1}(g1:LF q1){a0 r}(h:Mi N q0 q1 a0=some r):AbC 176 (Am a0) (AN r):=
 oK (fO Tryz.func176 [0,2,4,52,88,92,94,104,124,142,162,180,3] [] [(1,[(3,.take,false),(9,.take,false),(13,.take,false)]),(3,[(3,.take,false),(8,.take,false),(12,.take,false)]),(9,[(3,.take,false)]),(11,[(3,.take,false)]),(13,[(3,.take,false)]),(15,[(3,.take,false)])]) <| cE (oA h) (fun h=>cE h (fun h=>dE (cb Y h)) fun h=>cE h (fun h=>cE h (fun h=>dE h) fun h=>cE h (fun h=>cE h (fun h=>dE (cb Y h)) fun h=>cE h (fun h=>cE h (fun h=>dE h) fun h=>cE h (fun h=>bE h Eb fun r1 h=>dE h) fun h=>cE (ax ((a0.kind:Int)==5) false (AE (gt 9 (ax ((a0.kind:Int)==4) false (AE (gt 4 (ax ((a0.kind:Int)==3) false (AE (gt 9 (ax ((a0.kind:Int)==2) false (AE (gt 4 h)) h))) (ax ((a0.kind:Int)==2) false (AE (gt 4 h)) h)))) (ax ((a0.kind:Int)==3) false (AE (gt 9 (ax ((a0.kind:Int)==2) false (AE (gt 4 h)) h))) (ax ((a0.kind:Int)==2) false (AE (gt 4 h)) h))))) (ax ((a0.kind:Int)==4) false (AE (gt 4 (ax ((a0.kind:Int)==3) false (AE (gt 9 (ax ((a0.kind:Int)==2) false (AE (gt 4 h)) h))) (ax ((a0.kind:Int)==2) false (AE (gt 4 h)) h)))) (ax ((a0.kind:Int)==3) false (AE (gt 9 (ax ((a0.kind:Int)==2) false (AE (gt 4 h)) h))) (ax ((a0.kind:Int)==2) false (AE (gt 4 h)) h)))) (fun h=>bE h HS fun r1 h=>dE h) fun h=>dE h) fun h=>bE (ax ((a0.kind:Int)==4) true (AE (gt 4 (ax ((a0.kind:Int)==3) false (AE (gt 9 (ax ((a0.kind:Int)==2) false (AE (gt 4 (ax ((a0.kind:Int)==1) false (zW (AE (gt 1 (cb F h))) rfl) (cb F h)))) (ax ((a0.kind:Int)==1) false (zW (AE (gt 1 (cb F h))) rfl) (cb F h))))) (ax ((a0.kind:Int)==2) false (AE (gt 4 (ax ((a0.kind:Int)==1) false (zW (AE (gt 1 (cb F h))) rfl) (cb F h)))) (ax ((a0.kind:Int)==1) false (zW (AE (gt 1 (cb F h))) rfl) (cb F h)))))) (ax ((a0.kind:Int)==3) false (AE (gt 9 (ax ((a0.kind:Int)==2) false (AE (gt 4 (ax ((a0.kind:Int)==1) false (zW (AE (gt 1 (cb F h))) rfl) (cb F h)))) (ax ((a0.kind:Int)==1) false (zW (AE (gt 1 (cb F h))) rfl) (cb F h))))) (ax ((a0.kind:Int)==2) false (AE (gt 4 (ax ((a0.kind:Int)==1) false (zW (AE (gt 1 (cb F h))) rfl) (cb F h)))) (ax ((a0.kind:Int)==1) false (zW (AE (gt 1 (cb F h))) rfl) (cb F h))))) Eb fun r1 h=>cE h (fun h=>bE h Eb fun r2 h=>dE h) fun h=>dE h) fun h=>cE (ax ((a0.kind:Int) != 4) true (AC (zW (AE (gt 1 (cb F h))) rfl)) (cb F h)) (fun h=>dE h) fun h=>cE (ax ((a0.kind:Int)==2) true (AE (gt 4 (ax ((a0.kind:Int)==1) false (zW (AE (gt 3 h)) rfl) h))) (ax ((a0.kind:Int)==1) false (zW (AE (gt 3 h)) rfl) h)) (fun h=>bE h xAg fun r1 h=>dE h) fun h=>dE h) fun h=>cE (ax ((a0.kind:Int) != 2) true (AC (zW (AE (gt 1 (cb F h))) rfl)) (cb F h)) (fun h=>dE (cb Y h)) fun h=>cE (ax ((a0.kind:Int) != 4) true (AC (zW (AE (gt 3 h)) rfl)) h) (fun h=>dE h) fun h=>cE (ax ((a0.kind:Int)==5) true (AE (gt 9 (ax ((a0.kind:Int)==4) false (zW (AE (gt 8 (ax ((a0.kind:Int)==3) false (AE (gt 9 (ax ((a0.kind:Int)==2) false (zW (AE (gt 6 (ax ((a0.kind:Int)==1) false (zW (AE (gt 5 h)) rfl) h))) rfl) (ax ((a0.kind:Int)==1) false (zW (AE (gt 5 h)) rfl) h)))) (ax ((a0.kind:Int)==2) false (zW (AE (gt 6 (ax ((a0.kind:Int)==1) false (zW (AE (gt 5 h)) rfl) h))) rfl) (ax ((a0.kind:Int)==1) false (zW (AE (gt 5 h)) rfl) h))))) rfl) (ax ((a0.kind:Int)==3) false (AE (gt 9 (ax ((a0.kind:Int)==2) false (zW (AE (gt 6 (ax ((a0.kind:Int)==1) false (zW (AE (gt 5 h)) rfl) h))) rfl) (ax ((a0.kind:Int)==1) false (zW (AE (gt 5 h)) rfl) h)))) (ax ((a0.kind:Int)==2) false (zW (AE (gt 6 (ax ((a0.kind:Int)==1) false (zW (AE (gt 5 h)) rfl) h))) rfl) (ax ((a0.kind:Int)==1) false (zW (AE (gt 5 h)) rfl) h)))))) (ax ((a0.kind:Int)==4) false (zW (AE (gt 8 (ax ((a0.kind:Int)==3) false (AE (gt 9 (ax ((a0.kind:Int)==2) false (zW (AE (gt 6 (ax ((a0.kind:Int)==1) false (zW (AE (gt 5 h)) rfl) h))) rfl) (ax ((a0.kind:Int)==1) false (zW (AE (gt 5 h)) rfl) h)))) (ax ((a0.kind:Int)==2) false (zW (AE (gt 6 (ax ((a0.kind:Int)==1) false (zW (AE (gt 5 h)) rfl) h))) rfl) (ax ((a0.kind:Int)==1) false (zW (AE (gt 5 h)) rfl) h))))) rfl) (ax ((a0.kind:Int)==3) false (AE (gt 9 (ax ((a0.kind:Int)==2) false (zW (AE (gt 6 (ax ((a0.kind:Int)==1) false (zW (AE (gt 5 h)) rfl) h))) rfl) (ax ((a0.kind:Int)==1) false (zW (AE (gt 5 h)) rfl) h)))) (ax ((a0.kind:Int)==2) false (zW (AE (gt 6 (ax ((a0.kind:Int)==1) false (zW (AE (gt 5 h)) rfl) h))) rfl) (ax ((a0.kind:Int)==1) false (zW (AE (gt 5 h)) rfl) h))))) (fun h=>bE h xKj fun r1 h=>dE h) fun h=>dE h) fun h=>cE (ax ((a0.kind:Int) != 5) true (AC (zW (AE (gt 1 (cb F h))) rfl)) (cb F h)) (fun h=>dE h) fun h=>cE (ax ((a0.kind:Int) != 2) true (AC (zW (AE (gt 3 h)) rfl)) h) (fun h=>dE (cb Y h)) fun h=>cE (ax ((a0.kind:Int) != 4) true (AC (zW (AE (gt 5 h)) rfl)) h) (fun h=>dE h) fun h=>cE (ax ((a0.kind:Int)==3) true (AE (gt 9 (ax ((a0.kind:Int)==2) false (zW (AE (gt 8 (ax ((a0.kind:Int)==1) false (zW (AE (gt 7 h)) rfl) h))) rfl) (ax ((a0.kind:Int)==1) false (zW (AE (gt 7 h)) rfl) h)))) (ax ((a0.kind:Int)==2) false (zW (AE (gt 8 (ax ((a0.kind:Int)==1) false (zW (AE (gt 7 h)) rfl) h))) rfl) (ax ((a0.kind:Int)==1) false (zW (AE (gt 7 h)) rfl) h))) (fun h=>bE h (g1 _ _) fun r1 h=>dE h) fun h=>dE h
def Rp:=fO Tryz.func226 [0,2,4,6,16,52,3] [(2,[2,6,3])] [(4,[(7,.take,false)]),(6,[(4,.take,false)])]
theorem xCv{N}{q0}(g0:LD q0){q1}(g1:LF q1):∀n {x3 b1 r},HZ N q0 q1 n x3 b1=some r->RS Rp 2 [(2,vP 1),(6,vI x3),(3,vV .ro b1)] (AN r):=
 nI nE fun n ih=>fun h=>cE (oA h) (fun h=>bE (iE h) xAP fun r1 h=>cE h (fun h=>dS (cb Y h)) fun h=>bE (rp 2 h) (g0 _ _) fun r2 h=>cE h (fun h=>dS h) fun h=>uS h ih) fun h=>cE h (fun h=>bE h xAa fun r1 h=>dS h) fun h=>dS h
theorem xKd{N}{q0}(g0:LD q0){q1}(g1:LF q1){a0 r}(h:xAR N q0 q1 a0=some r):AbC 226 (Am a0) (AN r):=
 oK Rp <| uE (oA h) (xCv g0 g1 _)
theorem xI7{N:Nat}:∀d,LD (Bb N d).c0/\LF (Bb N d).c1:=by
 intro d
 induction d with
 |zero=>exact⟨fun _ _ h=>nE h,fun _ _ h=>nE h⟩
 |succ d ih=>
  obtain⟨ih0,ih1⟩:=ih;exact⟨fun _ _ h=>xI6 (N:=N) ih0 ih1 h,fun _ _ h=>xKd (N:=N) ih0 ih1 h⟩
theorem xAh{N:Nat}{a0:Val}{r:Bool}(h:In N a0=some r):AbC 176 (Am a0) (AN r):=(xI7 N).1 _ r h
def RZ:=fO Tryz.func151 [0,4,6,8,16,32,46,5] [(2,[0,4,8,5])]
theorem xB0{N}:∀n {x0 x4 b2 r},Fh N n x0 x4 b2=some r->RS RZ 2 [(0,vS .ro .val x0),(4,vP 2),(8,vI x4),(5,vV .own b2)] (Eg r):=
 nI nE fun n ih=>fun h=>cE (oA h) (fun h=>bE (iE h) xAh fun r1 h=>cE h (fun h=>bE h AS fun r2 h=>dS h) fun h=>cE (rp 2 h) (fun h=>bE (rp 4 h) AS fun r2 h=>dS h) fun h=>uS h ih) fun h=>dS h
theorem JV{N a0 r}(h:Ed N a0=some r):AbC 151 (Ee a0) (Eg r):=
 oK RZ <| uE (oA h) (xB0 _)
def R0:=fO Tryz.func153 [0,4,6,8,18,5,7] [(3,[0,4,6,8,5,7])] [(5,[(1,.take,false),(8,.take,false)]),(6,[(0,.take,false)])]
theorem xB1{N}:∀n {x0 x4 b2 b3 r},Ip N n x0 x4 b2 b3=some r->RS R0 3 [(0,vS .ro .val x0),(4,vP 2),(6,vP 3),(8,vI x4),(5,vV .own b2),(7,vV .own b3)] (AW r):=
 nI nE fun n ih=>fun h=>cE (oA h) (fun h=>bE (iE h) DN fun r1 h=>uS (iE h) ih) fun h=>dS h
theorem PN{N a0 r}(h:Kc N a0=some r):AbC 153 (Ee a0) (AW r):=
 oK R0 <| uE (oA h) (xB1 _)
def RN:=fO Tryz.func111 [0,4,6,8,10,12,24,36,52,74,5,7,13] [(5,[0,4,10,5])] [(1,[(2,.take,false)]),(2,[(0,.take,false)]),(10,[(3,.take,false)]),(12,[(0,.take,false)])]
theorem xBO{N}:∀n {x0 x5 b2 r},Gw N n x0 x5 b2=some r->RS RN 5 [(0,vS .ro .val x0),(4,vP 2),(10,vI x5),(5,vV .own b2)] (AW r):=
 nI nE fun n ih=>fun h=>cE (oA h) (fun h=>bE (iE h) xAP fun r1 h=>cE h (fun h=>bE h AS fun r2 h=>dS h) fun h=>uS h ih) fun h=>bE h PN fun r1 h=>cE h (fun h=>bE (cb Y h) AS fun r2 h=>dS h) fun h=>bE h xAa fun r2 h=>cE h (fun h=>bE h AS fun r3 h=>dS h) fun h=>dS h
theorem PE{N a0 r}(h:Gv N a0=some r):AbC 111 (Ee a0) (AW r):=
 oK RN <| bE (oA h) JV fun r1 h=>cE h (fun h=>bE h DN fun r2 h=>dE h) fun h=>uE h (xBO _)
def G9(q:Exp->Option (Bool)):Prop:=∀a0 r,q a0=some r->AbC 9 (BA a0) (AN r)
def fk9:=fO Tryz.func9 [0,2,4,6,42,52,68,3] [(4,[2,6,3])] [(1,[(3,.take,false),(7,.take,false),(12,.take,false)])]
theorem Qd{N}{q0}(g0:G9 q0):∀n {x3 b1 r},De N q0 n x3 b1=some r->RS fk9 4 [(2,vP 1),(6,vI x3),(3,.v true (Ex .ro b1))] (AN r):=
 nI nE fun n ih=>fun h=>cE (oA h) (fun h=>bE (iE h) (g0 _ _) fun r1 h=>cE h (fun h=>dS h) fun h=>uS h ih) fun h=>dS h
theorem xI0{N}{q0}(g0:G9 q0){a0 r}(h:Mf N q0 a0=some r):AbC 9 (BA a0) (AN r):=
 oK fk9 <| cE (oA h) (fun h=>cE h (fun h=>dE (cb Y (cb Y h))) fun h=>cE h (fun h=>dE (cb Y h)) fun h=>cE h (fun h=>dE h) fun h=>uE h (Qd g0 _)) fun h=>uE (cb F h) (Qd g0 _)
theorem xAe{N:Nat}:∀d,G9 (F3 N d)
 |0=>fun _ _ h=>nE h
 |d+1=>fun _ _ h=>xI0 (N:=N) (xAe d) h
theorem xAf{N:Nat}{a0:Exp}{r:Bool}(h:HD N a0=some r):AbC 9 (BA a0) (AN r):=xAe N _ r h
theorem xJa{N a0 r}(h:Mj N a0=some r):AbC 205 (Am a0) (AW r):=
 oK (fO Tryz.func205 [0,2,4,6,8,22,28,44,3,5,7] [] [(1,[(3,.take,false)]),(2,[(0,.take,false)]),(3,[(0,.take,false)])]) <| bE (oA h) JV fun r1 h=>cE h (fun h=>dE h) fun h=>cE h (fun h=>bE h BF fun r2 h=>dE h) fun h=>cE h (fun h=>bE h BF fun r2 h=>dE h) fun h=>bE h AS fun r2 h=>dE h
theorem K7{N a0 r}(h:Dd N a0=some r):AbC 161 [.val (vI a0)] (AW r):=
 oK (fO Tryz.func161 [0,4,10,5]) <| bE (oA h) Eb fun r1 h=>cE h (fun h=>bE h AS fun r2 h=>dE h) fun h=>bE h BF fun r2 h=>dE h
def Ri:=fO Tryz.func206 [0,2,4,6,8,10,12,26,34,48,66,94,3,5,7,11] [(8,[2,4,10,12,3,5,11])] [(1,[(3,.take,false)]),(2,[(0,.take,false)]),(3,[(0,.take,false)]),(14,[(0,.take,false)]),(15,[(0,.take,false)])]
theorem xCh{N}:∀n {x6 b1 b2 b5 r},EX N n x6 b1 b2 b5=some r->RS Ri 8 [(2,vP 1),(4,vP 2),(10,vP 5),(12,vI x6),(3,vV .ro b1),(5,vV .own b2),(11,vV .own b5)] (AW r):=
 nI nE fun n ih=>fun h=>cE (oA h) (fun h=>cE (iE h) (fun h=>bE h AS fun r1 h=>dS h) fun h=>bE (rp 1 h) K7 fun r1 h=>cE h (fun h=>dS h) fun h=>uS h ih) fun h=>dS h
theorem xJj{N a0 r}(h:Mo N a0=some r):AbC 206 (Am a0) (AW r):=
 oK Ri <| bE (oA h) JV fun r1 h=>cE h (fun h=>dE h) fun h=>cE h (fun h=>bE h AS fun r2 h=>dE h) fun h=>bE h BF fun r2 h=>uE h (xCh _)
def Rz:=fO Tryz.func247 [0,2,8,10,12,14,16,28,38,62,9,13] [(5,[0,2,8,16,9])] [(1,[(2,.take,false)]),(2,[(0,.take,false)]),(3,[(0,.take,false)])]
theorem xCK{N}:∀n {x0 x1 x8 b4 r},Fi N n x0 x1 x8 b4=some r->RS Rz 5 [(0,vS .ro .val x0),(2,vS .ro .int x1),(8,vP 4),(16,vI x8),(9,vV .own b4)] (Eg r):=
 nI nE fun n ih=>fun h=>cE (oA h) (fun h=>cE (iE (iE h)) (fun h=>bE h AS fun r1 h=>dS h) fun h=>uS h ih) fun h=>dS h
theorem Eh{N a0 a1 r}(h:Ct N a0 a1=some r):AbC 247 [.val (vS .ro .val a0),.val (vS .ro .int a1)] (Eg r):=
 oK Rz <| bE (oA h) JV fun r1 h=>cE h (fun h=>dE h) fun h=>uE h (xCK _)
theorem xIP{N a0 r}(h:M9 N a0=some r):AbC 207 (Am a0) (AW r):=
 oK (fO Tryz.func207 [0,2,4,6,8,24,3,5,7] [] [(1,[(4,.take,false)]),(2,[(0,.take,false)]),(3,[(0,.take,false)])]) <| bE (oA h) Eh fun r1 h=>cE h (fun h=>dE h) fun h=>bE h BF fun r2 h=>dE h
theorem Pg{N a0 a1 r}(h:JW N a0 a1=some r):AbC 248 (B2 a0 a1) (Eg r):=
 oK (fO Tryz.func248 [0,2,4,6,8,10,12,14,30,58,5,7,9,13] [] [(1,[(4,.take,false)]),(2,[(0,.take,false)]),(3,[(0,.take,false)]),(4,[(3,.take,false),(7,.take,false)])]) <| bE (oA h) JV fun r1 h=>cE h (fun h=>dE h) fun h=>cE h (fun h=>bE (cb Y h) AS fun r2 h=>dE h) fun h=>cE h (fun h=>cE h (fun h=>bE h AS fun r2 h=>dE h) fun h=>dE h) fun h=>dE (cb F h)
theorem Mm{N a0 a1 r}(h:CL N a0 a1=some r):AbC 210 (B2 a0 a1) (AW r):=
 oK (fO Tryz.func210 [0,2,4,6,8,10,12,26,60,68,5,7,9,11] [] [(1,[(3,.take,false)]),(2,[(0,.take,false)]),(3,[(0,.take,false)]),(4,[(3,.take,false),(7,.take,false)])]) <| bE (oA h) Pg fun r1 h=>cE h (fun h=>dE h) fun h=>cE h (fun h=>bE (cb Y h) AS fun r2 h=>dE h) fun h=>cE h (fun h=>cE h (fun h=>bE h AS fun r2 h=>dE h) fun h=>bE (iE (rb Y 1 h)) DN fun r2 h=>dE h) fun h=>bE (rb F 1 (cb F h)) K7 fun r2 h=>dE h
def Rj:=fO Tryz.func208 [0,2,4,6,8,10,12,14,16,18,32,42,54,78,94,5,7,9,11,15,19] [(8,[4,6,8,14,16,5,7,9,15])] [(1,[(3,.take,false)]),(2,[(0,.take,false)]),(3,[(0,.take,false)]),(10,[(3,.take,false)]),(11,[(0,.take,false)]),(14,[(0,.take,false)]),(15,[(1,.take,false),(2,.take,false),(4,.take,false)]),(16,[(0,.take,false)])]
theorem xCi{N}:∀n {x8 b2 b3 b4 b7 r},DJ N n x8 b2 b3 b4 b7=some r->RS Rj 8 [(4,vP 2),(6,vP 3),(8,vP 4),(14,vP 7),(16,vI x8),(5,vV .ro b2),(7,vV .ro b3),(9,vV .own b4),(15,vV .own b7)] (AW r):=
 nI nE fun n ih=>fun h=>cE (oA h) (fun h=>cE h (fun h=>cE h (fun h=>dS h) fun h=>bE h BF fun r1 h=>bE h Mm fun r2 h=>cE h (fun h=>dS h) fun h=>uS (iE h) ih) fun h=>bE (cb F h) BF fun r1 h=>bE h Mm fun r2 h=>cE h (fun h=>dS h) fun h=>uS (iE h) ih) fun h=>dS h
theorem xJl{N a0 a1 r}(h:HI N a0 a1=some r):AbC 208 (B2 a0 a1) (AW r):=
 oK Rj <| bE (oA h) Pg fun r1 h=>cE h (fun h=>dE h) fun h=>bE h HS fun r2 h=>cE h (fun h=>bE h AS fun r3 h=>dE h) fun h=>uE h (xCi _)
theorem xJX{N a0 a1 r}(h:P3 N a0 a1=some r):AbC 249 [.val (vI a0),.val (vI a1)] (A9 r):=
 oK (fO Tryz.func249 [0,2,8,14]) <| cE (oA h) (fun h=>dE h) fun h=>dE h
theorem PP{N a0 a1 r}(h:It N a0 a1=some r):AbC 137 [.val (vI a0),.val (vI a1)] (AW r):=
 oK (fO Tryz.func137 [0,2,8,9]) <| dE (oA h)
theorem xJh{N a0 a1 r}(h:HH N a0 a1=some r):AbC 209 (B2 a0 a1) (AW r):=
 oK (fO Tryz.func209 [0,2,4,6,8,10,12,14,28,36,44,76,5,7,9,11,15] [] [(1,[(3,.take,false)]),(2,[(0,.take,false)]),(3,[(0,.take,false)]),(10,[(0,.take,false)])]) <| bE (oA h) Pg fun r1 h=>cE h (fun h=>dE h) fun h=>cE h (fun h=>bE h AS fun r2 h=>dE h) fun h=>cE h (fun h=>bE h xJX fun r2 h=>bE (iE h) PN fun r3 h=>dE h) fun h=>bE h Mm fun r2 h=>cE h (fun h=>dE h) fun h=>bE h PP fun r3 h=>dE h
theorem xJK{N a0 a1 r}(h:Mx N a0 a1=some r):AbC 211 (B2 a0 a1) (AW r):=
 oK (fO Tryz.func211 [0,2,4,6,8,10,12,30,5,7,9,11] [] [(1,[(5,.take,false)]),(2,[(0,.take,false)]),(3,[(0,.take,false)])]) <| bE (oA h) Eh fun r1 h=>cE h (fun h=>dE h) fun h=>bE h PP fun r2 h=>dE h
def SA:=fO Tryz.func250 [0,2,8,10,12,14,24,50] [(4,[0,2,10,12,14])] [(6,[(4,.take,false)]),(7,[(0,.take,false),(2,.take,false)]),(9,[(0,.take,false)])]
theorem xCL{N}:∀n {x0 x1 x5 x6 x7 r},EW N n x0 x1 x5 x6 x7=some r->RS SA 4 [(0,vTq x0),(2,.v false [.int .u8 x1]),(10,vS .own .str x5),(12,vI x6),(14,vI x7)] (HU r):=
 nI nE fun n ih=>fun h=>cE (oA h) (fun h=>cE h (fun h=>uS (iE (iE (cb Y h))) ih) fun h=>cE (iE h) (fun h=>uS (iE (iE h)) ih) fun h=>uS h ih) fun h=>dS h
theorem xAm{N a0 a1 r}(h:Ke N a0 a1=some r):AbC 250 [.val (vTq a0),.val (.v false [.int .u8 a1])] (HU r):=
 oK SA <| uE (oA h) (xCL _)
def SK:=fO Tryz.func274 [0,2,8,10,18,34] [(2,[0,2,10])]
theorem xCU{N}:∀n {x0 x1 x5 r},Il N n x0 x1 x5=some r->RS SK 2 [(0,vS .ro .str x0),(2,vTq x1),(10,vI x5)] (A9 r):=
 nI nE fun n ih=>fun h=>cE (oA h) (fun h=>cE (iE h) (fun h=>dS h) fun h=>uS h ih) fun h=>dS h
theorem xI2{N a0 a1 r}(h:PI N a0 a1=some r):AbC 274 [.val (vS .ro .str a0),.val (vTq a1)] (A9 r):=
 oK SK <| uE (oA h) (xCU _)
theorem DI{N a0 a1 r}(h:C0 N a0 a1=some r):AbC 251 [.val (vV .ro a0),.val (vTq a1)] (A9 r):=
 oK (fO Tryz.func251 [0,2,4,8,5]) <| bE (oA h) xI2 fun r1 h=>dE h
def Je:=fO Tryz.func212 [0,2,4,6,8,10,12,14,16,18,20,22,24,42,62,90,102,132,5,7,9,11,17,23] [(7,[6,8,14,16,18,7,9,17]),(12,[6,8,14,16,20,7,9,17]),(16,[6,8,14,16,20,22,24,7,9,17,23])] [(1,[(5,.take,false)]),(2,[(0,.take,false)]),(3,[(0,.take,false)]),(4,[(2,.cp,true)]),(9,[(7,.take,false)]),(18,[(1,.take,false)]),(19,[(1,.take,false),(2,.take,false),(4,.take,false)]),(20,[(0,.take,false)])] (fcast:=[(9,4,true),(9,5,true),(9,6,true)])
def QB(x7:List Str)(x10:Int)(b3 b4 b8:Val):St:=[(6,vP 3),(8,vP 4),(14,vS .ro .str x7),(16,vP 8),(20,vI x10),(7,vV .ro b3),(9,vV .own b4),(17,.v true [.int .i64 b8.kind,.int .i64 b8.n,.int .i64 b8.step,.str b8.text,.sl .own .val b8.list,.sl .ro .str b8.columns,.sl .own .row b8.rows])]
theorem xCk{N}{k12}(hk12:∀ {z0 z1 z2 z3 z4 r},k12 z0 z1 z2 z3 z4=some r->RS Je 12 (QB z0 z1 z2 z3 z4) (EV r)):∀n {x7 x10 x12 b3 b4 b8 b11 r},HG N k12 n x7 x10 x12 b3 b4 b8 b11=some r->RS Je 16 [(6,vP 3),(8,vP 4),(14,vS .ro .str x7),(16,vP 8),(20,vI x10),(22,vP 11),(24,vI x12),(7,vV .ro b3),(9,vV .own b4),(17,.v true [.int .i64 b8.kind,.int .i64 b8.n,.int .i64 b8.step,.str b8.text,.sl .own .val b8.list,.sl .ro .str b8.columns,.sl .own .row b8.rows]),(23,.v true [.sl .own .int b11.cells,.sl .own .org b11.frm])] (EV r):=
 nI nE fun n ih=>fun h=>cE (oA h) (fun h=>bE (iE (iE h)) DI fun r1 h=>uS (iE (iE h)) ih) fun h=>uS (iE h) hk12
theorem xCj{N}:∀n {x7 x10 b3 b4 b8 r},ET N n x7 x10 b3 b4 b8=some r->RS Je 12 (QB x7 x10 b3 b4 b8) (EV r):=
 nI nE fun n ih=>fun h=>cE (oA h) (fun h=>uS (iE (iE h)) (xCk ih _)) fun h=>dS h
theorem xCl{N}:∀n {x7 x9 b3 b4 b8 r},EU N n x7 x9 b3 b4 b8=some r->RS Je 7 [(6,vP 3),(8,vP 4),(14,vS .ro .str x7),(16,vP 8),(18,vI x9),(7,vV .ro b3),(9,vV .own b4),(17,.v true [.int .i64 b8.kind,.int .i64 b8.n,.int .i64 b8.step,.str b8.text,.sl .own .val b8.list,.sl .ro .str b8.columns,.sl .own .row b8.rows])] (EV r):=
 nI nE fun n ih=>fun h=>cE (oA h) (fun h=>bE (iE h) DI fun r1 h=>cE h (fun h=>bE (cb Y h) AS fun r2 h=>dS h) fun h=>bE h PC fun r2 h=>cE h (fun h=>bE h AS fun r3 h=>dS h) fun h=>uS h ih) fun h=>uS h (xCj _)
theorem xI9{N a0 a1 r}(h:Kb N a0 a1=some r):AbC 212 (B2 a0 a1) (EV r):=
 oK Je <| bE (oA h) Eh fun r1 h=>cE h (fun h=>dE h) fun h=>bE h xAm fun r2 h=>uE h (xCl _)
def Rk:=fO Tryz.func213 [0,2,4,6,8,10,12,14,16,18,36,50,60,74,5,7,9,11,17] [(11,[6,8,14,16,18,7,9,17])] [(1,[(5,.take,false)]),(2,[(0,.take,false)]),(3,[(0,.take,false)]),(13,[(1,.take,false),(13,.take,false)]),(14,[(0,.take,false)])]
theorem xCm{N}:∀n {x7 x9 b3 b4 b8 r},Gx N n x7 x9 b3 b4 b8=some r->RS Rk 11 [(6,vP 3),(8,vP 4),(14,vI x7),(16,vP 8),(18,vI x9),(7,vV .ro b3),(9,vV .own b4),(17,vV .own b8)] (AW r):=
 nI nE fun n ih=>fun h=>cE (oA h) (fun h=>bE (iE (iE h)) BF fun r1 h=>uS (iE h) ih) fun h=>dS h
theorem xIO{N a0 a1 r}(h:Ih N a0 a1=some r):AbC 213 (B2 a0 a1) (AW r):=
 oK Rk <| bE (oA h) Eh fun r1 h=>cE h (fun h=>dE h) fun h=>bE h DI fun r2 h=>cE h (fun h=>bE h AS fun r3 h=>dE h) fun h=>cE h (fun h=>bE h AS fun r3 h=>dE h) fun h=>uE h (xCm _)
def SD:=fO Tryz.func254 [0,2,4,6,8,10,22,40,3] [(3,[2,8,10,3])] [(6,[(0,.take,false)]),(7,[(0,.take,false)]),(8,[(0,.take,false)])]
theorem xCO{N}:∀n {x4 x5 b1 r},H5 N n x4 x5 b1=some r->RS SD 3 [(2,vP 1),(8,vS .own .int x4),(10,vI x5),(3,vV .ro b1)] (xAX r):=
 nI nE fun n ih=>fun h=>cE (oA h) (fun h=>cE (iE h) (fun h=>dS h) fun h=>uS (iE (rp 1 h)) ih) fun h=>dS h
theorem xKl{N a0 r}(h:NP N a0=some r):AbC 254 (Am a0) (xAX r):=
 oK SD <| uE (oA h) (xCO _)
def Rl:=fO Tryz.func214 [0,2,4,6,8,10,12,14,16,18,20,38,56,68,110,5,7,9,11,15] [(8,[6,8,14,16,7,9,15])] [(1,[(5,.take,false)]),(2,[(0,.take,false)]),(3,[(0,.take,false)]),(10,[(6,.take,false)]),(11,[(0,.take,false),(2,.take,false)]),(13,[(1,.take,false),(2,.take,false),(5,.take,false)]),(14,[(0,.take,false)])]
theorem xCn{N}:∀n {x8 b3 b4 b7 r},EY N n x8 b3 b4 b7=some r->RS Rl 8 [(6,vP 3),(8,vP 4),(14,vP 7),(16,vI x8),(7,vV .ro b3),(9,vV .own b4),(15,vV .own b7)] (AW r):=
 nI nE fun n ih=>fun h=>cE (oA h) (fun h=>bE (iE h) xKl fun r1 h=>cE h (fun h=>bE (cb Y h) AS fun r2 h=>dS h) fun h=>cE h (fun h=>bE h AS fun r2 h=>dS h) fun h=>uS (iE h) ih) fun h=>dS h
theorem xJk{N a0 a1 r}(h:Kf N a0 a1=some r):AbC 214 (B2 a0 a1) (AW r):=
 oK Rl <| bE (oA h) Eh fun r1 h=>cE h (fun h=>dE h) fun h=>bE h xAm fun r2 h=>bE h xAM fun r3 h=>cE h (fun h=>bE h AS fun r4 h=>dE h) fun h=>uE h (xCn _)
def Rm:=fO Tryz.func215 [0,2,4,6,8,10,12,14,16,18,20,22,42,56,78,106,7,9,11,13,15,21] [(9,[8,10,12,18,20,22,9,11,13,21])] [(1,[(6,.take,false)]),(2,[(0,.take,false)]),(3,[(0,.take,false)]),(12,[(1,.take,false),(9,.take,false)]),(13,[(0,.take,false)])]
theorem xCo{N}:∀n {x9 x11 b4 b5 b6 b10 r},EZ N n x9 x11 b4 b5 b6 b10=some r->RS Rm 9 [(8,vP 4),(10,vP 5),(12,vP 6),(18,vI x9),(20,vP 10),(22,vI x11),(9,vV .ro b4),(11,vV .ro b5),(13,vV .own b6),(21,vV .own b10)] (AW r):=
 nI nE fun n ih=>fun h=>cE (oA h) (fun h=>cE (iE (iE h)) (fun h=>bE (rp 2 h) xAS fun r1 h=>uS (iE h) ih) fun h=>uS h ih) fun h=>dS h
theorem xJm{N a0 a1 a2 r}(h:Iw N a0 a1 a2=some r):AbC 215 (Ix a0 a1 a2) (AW r):=
 oK Rm <| bE (oA h) Eh fun r1 h=>cE h (fun h=>dE h) fun h=>bE h DI fun r2 h=>cE h (fun h=>bE h AS fun r3 h=>dE h) fun h=>uE (iE h) (xCo _)
def SL:=fO Tryz.func275 [0,2,8,10,12,14,36,60,122] [(4,[0,2,10,12,14])] [(4,[(4,.take,false)]),(5,[(0,.take,false)]),(8,[(4,.take,false),(9,.take,false)]),(9,[(0,.take,false)]),(11,[(4,.take,false)]),(12,[(0,.take,false)]),(14,[(0,.take,false)])]
theorem xCV{N}:∀n {x0 x1 x5 x6 x7 r},Bf N n x0 x1 x5 x6 x7=some r->RS SL 4 [(0,vS .ro .org x0),(2,vS .ro .org x1),(10,vS .own .org x5),(12,vI x6),(14,vI x7)] (NS r):=
 nI nE fun n ih=>fun h=>cE (oA h) (fun h=>cE (cb Y h) (fun h=>uS (iE (iE (cb Y h))) ih) fun h=>bE (iE (iE (rb Y 2 h))) NH fun r1 h=>cE h (fun h=>uS (iE (rp 3 h)) ih) fun h=>cE h (fun h=>uS (iE (rp 4 (cb Y h))) ih) fun h=>bE (rp 5 (rp 3 h)) NH fun r2 h=>cE h (fun h=>uS (iE (rp 7 h)) ih) fun h=>uS (iE (rp 8 h)) ih) fun h=>cE h (fun h=>cE h (fun h=>uS (iE (iE (cb Y h))) ih) fun h=>cE (cb F (rb F 2 h)) (fun h=>uS (iE (iE (cb Y h))) ih) fun h=>bE (iE (iE h)) NH fun r1 h=>cE h (fun h=>uS (iE (rp 3 h)) ih) fun h=>uS (iE (rp 2 h)) ih) fun h=>dS h
theorem xA0{N a0 a1 r}(h:Kt N a0 a1=some r):AbC 275 (Ku a0 a1) (NS r):=
 oK SL <| uE (oA h) (xCV _)
def SE:=fO Tryz.func255 [0,2,4,6,16,18,20,22,24,34,58,104,136,25] [(4,[0,2,4,6,18,20,22])] [(10,[(6,.take,false)]),(11,[(0,.take,false),(9,.take,false)]),(13,[(0,.take,false),(1,.take,false),(3,.take,false)]),(15,[(0,.take,false),(9,.take,false)]),(16,[(0,.take,false)])] (casts:=[(4,[(18,0,false)])])
theorem xCP{N}:∀n {x0 x1 x2 x3 x9 x10 x11 r},CN N n x0 x1 x2 x3 x9 x10 x11=some r->RS SE 4 [(0,vS .ro .row x0),(2,vI x1),(4,vI x2),(6,vS .ro .org x3),(18,vS .tip .row x9),(20,vB x10),(22,vI x11)] (xAY r):=
 nI nE fun n ih=>fun h=>cE (oA h) (fun h=>cE (iE (iE h)) (fun h=>bE (iE h) xA0 fun r1 h=>cE (iE h) (fun h=>uS (iE (cb F h)) ih) fun h=>uS (iE (cb F h)) ih) fun h=>cE (rp 1 h) (fun h=>cE h (fun h=>uS (iE (iE (iE h))) ih) fun h=>uS (iE h) ih) fun h=>uS (iE (cb F h)) ih) fun h=>cE h (fun h=>dS (iE (iE h))) fun h=>dS h
theorem xKo{N a0 a1 a2 a3 r}(h:Ph N a0 a1 a2 a3=some r):AbC 255 [.val (vS .ro .row a0),.val (vI a1),.val (vI a2),.val (vS .ro .org a3)] (xAY r):=
 oK SE <| uE (oA h) (xCP _)
def Nq:=fO Tryz.func216 [0,2,4,6,8,10,12,14,16,18,20,22,24,26,46,86,110,180,204,7,9,11,13,15,23] [(10,[10,12,18,20,22,24,11,13,23]),(14,[12,22,26,13,23])] [(1,[(6,.take,false)]),(2,[(0,.take,false)]),(3,[(0,.take,false)]),(6,[(2,.take,false),(6,.take,false)]),(18,[(0,.take,false)])] (casts:=[(10,[(23,6,true)])]) (fcast:=[(13,4,true),(13,5,true),(13,6,true)])
theorem xCq{N}:∀n {x13 b6 b11 r},FZ N n x13 b6 b11=some r->RS Nq 14 [(12,vP 6),(22,vP 11),(26,vI x13),(13,vV .own b6),(23,.v true [.int .i64 b11.kind,.int .i64 b11.n,.int .i64 b11.step,.str b11.text,.sl .own .val b11.list,.sl .own .str b11.columns,.sl .ro .row b11.rows])] (EV r):=
 nI nE fun n ih=>fun h=>cE (oA h) (fun h=>bE (iE (iE h)) Eb fun r1 h=>cE h (fun h=>bE h AS fun r2 h=>dS h) fun h=>uS h ih) fun h=>dS h
theorem xCp{N}:∀n {x9 x10 x12 b5 b6 b11 r},HC N n x9 x10 x12 b5 b6 b11=some r->RS Nq 10 [(10,vP 5),(12,vP 6),(18,vI x9),(20,vI x10),(22,vP 11),(24,vI x12),(11,vV .ro b5),(13,vV .own b6),(23,.v true [.int .i64 b11.kind,.int .i64 b11.n,.int .i64 b11.step,.str b11.text,.sl .own .val b11.list,.sl .own .str b11.columns,.sl .ro .row b11.rows])] (EV r):=
 nI nE fun n ih=>fun h=>cE (oA h) (fun h=>bE (rp 3 (iE (rp 1 (iE (iE h))))) xKo fun r1 h=>uS h ih) fun h=>uS h (xCq _)
theorem xIZ{N a0 a1 a2 r}(h:FY N a0 a1 a2=some r):AbC 216 (Ix a0 a1 a2) (EV r):=
 oK Nq <| bE (oA h) Eh fun r1 h=>cE h (fun h=>dE h) fun h=>bE h DI fun r2 h=>bE h DI fun r3 h=>cE h (fun h=>bE (cb Y (cb Y h)) AS fun r4 h=>dE h) fun h=>cE h (fun h=>bE (cb Y h) AS fun r4 h=>dE h) fun h=>cE h (fun h=>bE h AS fun r4 h=>dE h) fun h=>uE h (xCp _)
theorem xKm{N a0 a1 a2 r}(h:NQ N a0 a1 a2=some r):AbC 256 [.val (.v true [.sl .ro .int a0.cells,.sl .ro .org a0.frm]),.val (.v true [.sl .ro .int a1.cells,.sl .ro .org a1.frm]),.val (vI a2)] (Pd r):=
 oK (fO Tryz.func256 [0,2,4,6,8,12,14,7,9,13,15] [] [(2,[(1,.take,false)]),(3,[(0,.take,false)])]) <| bE (iE (oA h)) xA0 fun r1 h=>dE (iE (iE (iE (iE h))))
def LW:=fO Tryz.func217 [0,2,4,6,8,10,12,14,16,18,20,22,24,26,46,76,124,134,146,160,202,244,7,9,11,13,15,23] [(15,[8,10,12,18,20,22,24,9,11,13,23]),(18,[8,10,12,18,20,22,24,26,9,11,13,23])] [(1,[(6,.take,false)]),(2,[(0,.take,false)]),(3,[(0,.take,false)]),(6,[(2,.take,false)]),(9,[(1,.take,false)]),(21,[(1,.take,false),(15,.take,false)]),(24,[(0,.take,false)])]
def QC(x9 x10 x12:Int)(b4 b5 b6 b11:Val):St:=[(8,vP 4),(10,vP 5),(12,vP 6),(18,vI x9),(20,vI x10),(22,vP 11),(24,vI x12),(9,vV .ro b4),(11,vV .ro b5),(13,vV .own b6),(23,vV .own b11)]
theorem xCs{N}{k15}(hk15:∀ {z0 z1 z2 z3 z4 z5 z6 r},k15 z0 z1 z2 z3 z4 z5 z6=some r->RS LW 15 (QC z0 z1 z2 z3 z4 z5 z6) (AW r)):∀n {x9 x10 x12 x13 b4 b5 b6 b11 r},HF N k15 n x9 x10 x12 x13 b4 b5 b6 b11=some r->RS LW 18 [(8,vP 4),(10,vP 5),(12,vP 6),(18,vI x9),(20,vI x10),(22,vP 11),(24,vI x12),(26,vI x13),(9,vV .ro b4),(11,vV .ro b5),(13,vV .own b6),(23,vV .own b11)] (AW r):=
 nI nE fun n ih=>fun h=>cE (oA h) (fun h=>cE (iE (iE (iE (iE h)))) (fun h=>bE (rp 3 (rp 4 h)) xKm fun r1 h=>uS (iE h) ih) fun h=>uS h ih) fun h=>uS h hk15
theorem xCr{N}:∀n {x9 x10 x12 b4 b5 b6 b11 r},F7 N n x9 x10 x12 b4 b5 b6 b11=some r->RS LW 15 (QC x9 x10 x12 b4 b5 b6 b11) (AW r):=
 nI nE fun n ih=>fun h=>cE (oA h) (fun h=>uS h (xCs ih _)) fun h=>cE h (fun h=>bE h AS fun r1 h=>dS h) fun h=>dS h
theorem xI8{N a0 a1 a2 r}(h:HE N a0 a1 a2=some r):AbC 217 (Ix a0 a1 a2) (AW r):=
 oK LW <| bE (oA h) Eh fun r1 h=>cE h (fun h=>dE h) fun h=>bE h DI fun r2 h=>bE h DI fun r3 h=>cE h (fun h=>bE (cb Y h) AS fun r4 h=>dE h) fun h=>cE h (fun h=>bE h AS fun r4 h=>dE h) fun h=>bE (iE (iE (iE (iE (iE h))))) PC fun r4 h=>cE h (fun h=>bE h AS fun r5 h=>dE h) fun h=>cE h (fun h=>bE h AS fun r5 h=>dE h) fun h=>uE h (xCr _)
def Rn:=fO Tryz.func218 [0,2,4,6,8,10,12,14,16,18,20,22,24,26,28,30,52,108,118,148,196,9,11,13,15,17,19,27] [(13,[14,16,22,24,26,28,15,17,27])] [(1,[(7,.take,false)]),(2,[(0,.take,false)]),(3,[(0,.take,false)]),(6,[(4,.take,false),(11,.take,false),(15,.take,false)]),(11,[(1,.take,false)]),(18,[(1,.ref,false),(4,.ref,false),(8,.ref,false)]),(19,[(0,.take,false)])]
theorem xCt{N}:∀n {x11 x12 x14 b7 b8 b13 r},FX N n x11 x12 x14 b7 b8 b13=some r->RS Rn 13 [(14,vP 7),(16,vP 8),(22,vI x11),(24,vI x12),(26,vP 13),(28,vI x14),(15,vV .ro b7),(17,vV .own b8),(27,vV .own b13)] (AW r):=
 nI nE fun n ih=>fun {x11 x12 x14 b7 b8 b13 r} h=>cE (oA h) (fun h=>bE (iE (rp 1 (iE (iE h)))) Eb fun r1 h=>cE h (fun h=>bE h AS fun r2 h=>dS h) fun h=>uS (ap (show(27:Nat)=27/\(6:Nat)=6/\([(x14.toNat,0)]:List (Nat×Nat))=[(x14.toNat,0)] from⟨rfl,rfl,rfl⟩) (rp 1 (iE (iE h)))) ih) fun h=>dS h
theorem xIL{N a0 a1 a2 a3 r}(h:Da N a0 a1 a2 a3=some r):AbC 218 [.val (vV .ro a0),.val (vV .ro a1),.val (vV .ro a2),.val (vV .ro a3)] (AW r):=
 oK Rn <| bE (oA h) Eh fun r1 h=>cE h (fun h=>dE h) fun h=>bE h DI fun r2 h=>bE h DI fun r3 h=>bE h Ka fun r4 h=>cE h (fun h=>bE (cb Y (cb Y (cb Y h))) AS fun r5 h=>dE h) fun h=>bE h DI fun r5 h=>cE h (fun h=>bE (cb Y (cb Y h)) AS fun r6 h=>dE h) fun h=>cE h (fun h=>bE (cb Y h) AS fun r6 h=>dE h) fun h=>cE h (fun h=>bE h AS fun r6 h=>dE h) fun h=>cE h (fun h=>bE h AS fun r6 h=>dE h) fun h=>bE h DN fun r6 h=>uE (iE h) (xCt _)
theorem xIN{N a0 a1 r}(h:Dc N a0 a1=some r):AbC 155 [.val (vTq a0),.val (vS .ro .val a1)] (EV r):=
 oK (fO Tryz.func155 [0,2,8,18,22,24,36,48,60,78,96,114,132,150,168,186,210,234,258,9] (fcast:=[(9,4,true),(9,5,true),(9,6,true)])) <| bE (oA h) Un fun r1 h=>cE h (fun h=>bE h AS fun r2 h=>dE h) fun h=>cE h (fun h=>bE (iE h) xJa fun r2 h=>dE h) fun h=>cE h (fun h=>bE (iE h) xJj fun r2 h=>dE h) fun h=>cE h (fun h=>bE (iE h) xIP fun r2 h=>dE h) fun h=>cE h (fun h=>bE (iE (iE h)) xJl fun r2 h=>dE h) fun h=>cE h (fun h=>bE (iE (iE h)) xJh fun r2 h=>dE h) fun h=>cE h (fun h=>bE (iE (iE h)) Mm fun r2 h=>dE h) fun h=>cE h (fun h=>bE (iE (iE h)) xJK fun r2 h=>dE h) fun h=>cE h (fun h=>bE (iE (iE h)) xI9 fun r2 h=>dE h) fun h=>cE h (fun h=>bE (iE (iE h)) xIO fun r2 h=>dE h) fun h=>cE h (fun h=>bE (iE (iE h)) xJk fun r2 h=>dE h) fun h=>cE h (fun h=>bE (iE (iE (iE h))) xJm fun r2 h=>dE h) fun h=>cE h (fun h=>bE (iE (iE (iE h))) xIZ fun r2 h=>dE h) fun h=>cE h (fun h=>bE (iE (iE (iE h))) xI8 fun r2 h=>dE h) fun h=>cE h (fun h=>bE (iE (iE (iE (iE h)))) xIL fun r2 h=>dE h) fun h=>bE h AS fun r2 h=>dE h
theorem xJV{N a0 a1 r}(h:ND N a0 a1=some r):AbC 257 [.val (.v true (Rc .ro a0)),.val (.v true (Rc .ro a1))] (AN r):=
 oK (fO Tryz.func257 [0,2,4,6,8,5,7] [] [(1,[(5,.take,false),(12,.take,false),(19,.take,false)])]) <| cE (oA h) (fun h=>cE h (fun h=>cE h (fun h=>dE h) fun h=>dE h) fun h=>dE (cb F h)) fun h=>dE (cb F (cb F h))
def Ro:=fO Tryz.func219 [0,2,6,8,10,12,20,36,7,9] [(2,[0,6,8,12,7,9])]
theorem xCu{N}:∀n {x0 x6 b3 b4 r},HB N n x0 x6 b3 b4=some r->RS Ro 2 [(0,vS .ro .rea x0),(6,vP 3),(8,vP 4),(12,vI x6),(7,.v true (Rc .ro b3)),(9,vV .own b4)] (Eg r):=
 nI nE fun n ih=>fun h=>cE (oA h) (fun h=>bE (iE h) xJV fun r1 h=>cE h (fun h=>bE (rp 2 h) DN fun r2 h=>dS h) fun h=>uS h ih) fun h=>dS h
theorem xIX{N a0 a1 r}(h:PH N a0 a1=some r):AbC 219 [.val (vS .ro .rea a0),.val (.v true (Rc .ro a1))] (Eg r):=
 oK Ro <| uE (oA h) (xCu _)
theorem xAA{N a0 r}(h:Kl N a0=some r):AbC 276 [.val (vI a0)] (A9 r):=
 oK (fO Tryz.func276 [0,4,12]) <| cE (ap (show 2147483647≠(0:Int) by decide) (oA h)) (fun h=>dE h) fun h=>dE h
theorem xJd{N a0 a1 a2 a3 r}(h:Ml N a0 a1 a2 a3=some r):AbC 258 [.val (vI a0),.val (vI a1),.val (vI a2),.val (vI a3)] (A9 r):=
 oK (fO Tryz.func258 [0,2,4,6,16]) <| bE (oA h) xAA fun r1 h=>bE h xAA fun r2 h=>dE h
def SF:=fO Tryz.func259 [0,2,4,8,10,12,22,42,5] [(2,[2,4,12,5])]
theorem xCQ{N}:∀n {x1 x6 b2 r},HA N n x1 x6 b2=some r->RS SF 2 [(2,vTq x1),(4,vP 2),(12,vI x6),(5,.v true (Wc .ro b2))] (Me r):=
 nI nE fun n ih=>fun h=>cE (oA h) (fun h=>cE (iE h) (fun h=>dS (rp 1 h)) fun h=>uS h ih) fun h=>dS h
theorem xIW{N a0 a1 r}(h:PG N a0 a1=some r):AbC 259 [.val (.v true (Wc .ro a0)),.val (vTq a1)] (Me r):=
 oK SF <| uE (oA h) (xCQ _)
theorem xIT{N a0 a1 a2 a3 r}(h:Gz N a0 a1 a2 a3=some r):AbC 220 [.val (.v true (Wc .ro a0)),.val (vI a1),.val (vI a2),.val (.v true (Rc .ro a3))] (AW r):=
 oK (fO Tryz.func220 [0,2,4,6,8,14,16,18,20,24,26,34,42,52,78,98,104,9,15,17] [] [(10,[(4,.take,false)]),(11,[(0,.take,false)])]) <| cE (oA h) (fun h=>bE h Eb fun r1 h=>cE h (fun h=>bE h BF fun r2 h=>dE h) fun h=>bE h AS fun r2 h=>dE h) fun h=>cE h (fun h=>bE h HS fun r1 h=>cE h (fun h=>bE h AS fun r2 h=>dE h) fun h=>bE h xJd fun r2 h=>bE (iE h) BF fun r3 h=>dE h) fun h=>cE h (fun h=>bE h xIW fun r1 h=>cE h (fun h=>bE h AS fun r2 h=>dE h) fun h=>bE h Eb fun r2 h=>cE h (fun h=>bE h BF fun r3 h=>dE h) fun h=>bE h AS fun r3 h=>dE h) fun h=>bE h AS fun r1 h=>dE h
def R2:=fO Tryz.func156 [0,2,6,8,10,12,14,16,30,86,116,1,7,9,13,15] [(2,[0,6,8,10,1,7,9])] [(5,[(5,.take,false),(12,.take,false)]),(7,[(5,.cp,true),(6,.take,false),(7,.ref,false),(8,.ref,false)]),(8,[(0,.take,false)]),(9,[(13,.cp,true)]),(11,[(4,.take,false),(7,.take,false)])] (ext:=[0])
theorem xB3{N}:∀n {x5 b0 b3 b4 r},E7 N n x5 b0 b3 b4=some r->RS R2 2 [(0,vP 0),(6,vP 3),(8,vP 4),(10,vI x5),(1,.v true (Mc .tip b0)),(7,.v true (Rc .ro b3)),(9,vV .own b4)] (Dh r):=
 nI nE fun n ih=>fun h=>cE (oA h) (fun h=>cE (iE h) (fun h=>cE h (fun h=>cE h (fun h=>uS h ih) fun h=>uS h ih) fun h=>uS (cb F h) ih) fun h=>uS (cb F (cb F h)) ih) fun h=>bE h xIX fun r1 h=>cE h (fun h=>bE h xIT fun r2 h=>dS (iE h)) fun h=>dS (iE h)
theorem JE{N a0 a1 r}(h:E6 N a0 a1=some r):AbC 156 [.box (Mc .tip a0),.val (.v true (Rc .ro a1))] (Dh r):=
 oK R2 <| uE (oA h) (xB3 _)
def RO:=fO Tryz.func113 [0,2,4,10,12,14,16,26,11] [(3,[0,2,10,14,16,11])] [(5,[(0,.take,false),(14,.take,false)]),(6,[(0,.take,false),(6,.take,false)])]
theorem xBP{N}:∀n {x0 x1 x7 x8 b5 r},Ig N n x0 x1 x7 x8 b5=some r->RS RO 3 [(0,vS .ro .bnd x0),(2,vTq x1),(10,vP 5),(14,vS .own .bnd x7),(16,vI x8),(11,vV .ro b5)] (M8 r):=
 nI nE fun n ih=>fun h=>cE (oA h) (fun h=>bE (rp 0 (iE h)) DN fun r1 h=>uS (iE h) ih) fun h=>bE h DN fun r1 h=>dS (iE h)
theorem Uo{N a0 a1 a2 r}(h:K6 N a0 a1 a2=some r):AbC 113 [.val (vS .ro .bnd a0),.val (vTq a1),.val (vV .ro a2)] (M8 r):=
 oK RO <| uE (oA h) (xBP _)
theorem xI5{N a0 r}(h:PJ N a0=some r):AbC 114 (Am a0) (AN r):=
 oK (fO Tryz.func114 [0,2,4,3] [] [(1,[(3,.take,false)])]) <| cE (oA h) (fun h=>dE h) fun h=>dE h
theorem xAV{N a0 a1 r}(h:JU N a0 a1=some r):AbC 157 (B2 a0 a1) (AW r):=
 oK (fO Tryz.func157 [0,2,4,6,8,10,40,72,88,120,5,7,9] [] [(1,[(3,.take,false)]),(3,[(3,.take,false)]),(7,[(3,.take,false)])]) <| cE (oA h) (fun h=>cE h (fun h=>bE h K7 fun r1 h=>dE h) fun h=>bE (cb F (ax ((a0.kind:Int)==3) false (zW (gt 3 (cb F (ax ((a0.kind:Int)==2) false (zW (gt 1 h) rfl) h))) rfl) (cb F (ax ((a0.kind:Int)==2) false (zW (gt 1 h) rfl) h)))) AS fun r1 h=>dE h) fun h=>cE (cb F h) (fun h=>cE h (fun h=>cE h (fun h=>bE h AS fun r1 h=>dE h) fun h=>bE (iE h) Kg fun r1 h=>dE h) fun h=>bE (cb F (ax ((a0.kind:Int)==3) false (zW (gt 1 h) rfl) h)) AS fun r1 h=>dE h) fun h=>cE (cb F h) (fun h=>cE h (fun h=>cE h (fun h=>bE h AS fun r1 h=>dE h) fun h=>bE (iE (iE h)) PN fun r1 h=>dE h) fun h=>bE h AS fun r1 h=>dE h) fun h=>bE (cb F h) AS fun r1 h=>dE h
theorem Mp{N a0 r}(h:Iu N a0=some r):AbC 159 [.val (vB a0)] (AW r):=
 oK (fO Tryz.func159 [0,4,6,5]) <| cE (oA h) (fun h=>bE h BF fun r1 h=>dE h) fun h=>bE h BF fun r1 h=>dE h
theorem xAW{N a0 a1 r}(h:Ks N a0 a1=some r):AbC 158 (B2 a0 a1) (AW r):=
 oK (fO Tryz.func158 [0,2,4,6,8,24,52,5,7,9] [] [(1,[(3,.take,false)]),(3,[(3,.take,false)])]) <| cE (oA h) (fun h=>cE h (fun h=>bE h Mp fun r1 h=>dE h) fun h=>bE (cb F (ax ((a0.kind:Int)==2) false (zW (gt 1 h) rfl) h)) AS fun r1 h=>dE h) fun h=>cE (cb F h) (fun h=>cE h (fun h=>bE h Mp fun r1 h=>dE h) fun h=>bE h AS fun r1 h=>dE h) fun h=>bE (cb F h) AS fun r1 h=>dE h
def RD:=fO Tryz.func102 [0,2,8,10,20,28,50] [(4,[0,2,10])]
theorem xBF{N}:∀n {x0 x1 x5 r},Ec N n x0 x1 x5=some r->RS RD 4 [(0,vS .ro .str x0),(2,vS .ro .str x1),(10,vI x5)] (AN r):=
 nI nE fun n ih=>fun h=>cE (oA h) (fun h=>cE (iE (iE h)) (fun h=>dS h) fun h=>uS h ih) fun h=>dS h
theorem xKk{N a0 a1 r}(h:JT N a0 a1=some r):AbC 102 (Pf a0 a1) (AN r):=
 oK RD <| cE (oA h) (fun h=>dE h) fun h=>uE h (xBF _)
def RF:=fO Tryz.func103 [0,2,8,10,20,28,50] [(4,[0,2,10])]
theorem xBG{N}:∀n {x0 x1 x5 r},E8 N n x0 x1 x5=some r->RS RF 4 [(0,vS .ro .int x0),(2,vS .ro .int x1),(10,vI x5)] (AN r):=
 nI nE fun n ih=>fun h=>cE (oA h) (fun h=>cE (iE (iE h)) (fun h=>dS h) fun h=>uS h ih) fun h=>dS h
theorem xJW{N a0 a1 r}(h:JH N a0 a1=some r):AbC 103 [.val (vS .ro .int a0),.val (vS .ro .int a1)] (AN r):=
 oK RF <| cE (oA h) (fun h=>dE h) fun h=>uE h (xBG _)
def RG:=fO Tryz.func104 [0,2,8,10,20,28,50] [(4,[0,2,10])]
theorem xBH{N}:∀n {x0 x1 x5 r},JP N n x0 x1 x5=some r->RS RG 4 [(0,vS .ro .org x0),(2,vS .ro .org x1),(10,vI x5)] (AN r):=
 nI nE fun n ih=>fun h=>cE (oA h) (fun h=>cE (iE (iE h)) (fun h=>dS h) fun h=>uS h ih) fun h=>dS h
theorem xKf{N a0 a1 r}(h:NN N a0 a1=some r):AbC 104 (Ku a0 a1) (AN r):=
 oK RG <| cE (oA h) (fun h=>dE h) fun h=>uE h (xBH _)
def G45(q:Val->Val->Bool->Option (Bool)):Prop:=∀a0 a1 a2 r,q a0 a1 a2=some r->AbC 45 (JQ a0 a1 a2) (AN r)
def Nt:=fO Tryz.func45 [0,2,4,6,8,12,14,16,120,130,160,170,240,7,9] [(4,[4,6,8,14,7,9]),(9,[4,6,8,16,7,9])] [(1,[(5,.take,false),(12,.take,false),(19,.take,false),(26,.take,false),(35,.take,false),(43,.take,false)]),(11,[(14,.take,false),(16,.take,false)])]
theorem xC8{N}{q0}(g0:G45 q0):∀n {x2 x8 b3 b4 r},Cd N q0 n x2 x8 b3 b4=some r->RS Nt 9 [(4,vB x2),(6,vP 3),(8,vP 4),(16,vI x8),(7,vV .ro b3),(9,vV .ro b4)] (AN r):=
 nI nE fun n ih=>fun h=>cE (oA h) (fun h=>bE (iE (iE h)) xJW fun r1 h=>cE h (fun h=>dS (cb Y h)) fun h=>cE h (fun h=>bE (rp 4 (rp 4 h)) xKf fun r2 h=>cE h (fun h=>dS h) fun h=>uS h ih) fun h=>uS (cb F h) ih) fun h=>dS h
theorem xC7{N}{q0}(g0:G45 q0):∀n {x2 x7 b3 b4 r},Dl N q0 n x2 x7 b3 b4=some r->RS Nt 4 [(4,vB x2),(6,vP 3),(8,vP 4),(14,vI x7),(7,vV .ro b3),(9,vV .ro b4)] (AN r):=
 nI nE fun n ih=>fun h=>cE (oA h) (fun h=>bE (iE (iE h)) (g0 _ _ _ _) fun r1 h=>cE h (fun h=>dS h) fun h=>uS h ih) fun h=>uS h (xC8 g0 _)
theorem xKg{N}{q0}(g0:G45 q0){a0 a1 a2 r}(h:JR N q0 a0 a1 a2=some r):AbC 45 (JQ a0 a1 a2) (AN r):=
 oK Nt <| cE (oA h) (fun h=>dE (cb Y (cb Y (cb Y (cb Y (cb Y (cb Y h))))))) fun h=>cE h (fun h=>dE (cb Y (cb Y (cb Y (cb Y (cb Y h)))))) fun h=>cE h (fun h=>dE (cb Y (cb Y (cb Y (cb Y h))))) fun h=>cE h (fun h=>dE (cb Y (cb Y (cb Y h)))) fun h=>cE h (fun h=>dE (cb Y (cb Y h))) fun h=>bE h xKk fun r1 h=>cE h (fun h=>dE (cb Y h)) fun h=>cE h (fun h=>dE h) fun h=>uE h (xC7 g0 _)
theorem xAT{N:Nat}:∀d,G45 (Bc N d)
 |0=>fun _ _ _ _ h=>nE h
 |d+1=>fun _ _ _ _ h=>xKg (N:=N) (xAT d) h
theorem xAU{N:Nat}{a0:Val}{a1:Val}{a2:Bool}{r:Bool}(h:Kr N a0 a1 a2=some r):AbC 45 (JQ a0 a1 a2) (AN r):=xAT N _ _ _ r h
theorem xAc{N a0 a1 r}(h:Ik N a0 a1=some r):AbC 160 (B2 a0 a1) (AN r):=
 oK (fO Tryz.func160 [0,2,4,6,8,5,7]) <| bE (oA h) xAU fun r1 h=>dE h
theorem xIM{N a0 a1 a2 r}(h:K0 N a0 a1 a2=some r):AbC 116 [.val (vI a0),.val (vV .ro a1),.val (vV .ro a2)] (AW r):=
 oK (fO Tryz.func116 [0,2,4,8,10,12,14,16,18,34,54,66,78,92,116,9,11,13,15] [] [(1,[(4,.take,false)]),(2,[(0,.take,false)]),(3,[(0,.take,false)]),(4,[(3,.take,false)]),(11,[(2,.take,false)]),(13,[(2,.take,false)])]) <| bE (oA h) JV fun r1 h=>cE h (fun h=>dE h) fun h=>cE h (fun h=>cE h (fun h=>bE h xAV fun r2 h=>dE h) fun h=>cE h (fun h=>bE h xAW fun r2 h=>dE h) fun h=>cE h (fun h=>bE h xAc fun r2 h=>bE h Mp fun r3 h=>dE h) fun h=>cE h (fun h=>cE h (fun h=>bE h K7 fun r2 h=>dE h) fun h=>bE (cb F (ax ((a0:Int)==3) false (zW (gt 1 h) rfl) h)) AS fun r2 h=>dE h) fun h=>cE (cb F h) (fun h=>cE h (fun h=>bE h K7 fun r2 h=>dE h) fun h=>bE h AS fun r2 h=>dE h) fun h=>bE (cb F h) AS fun r2 h=>dE h) fun h=>cE h (fun h=>bE h xAV fun r2 h=>dE h) fun h=>cE h (fun h=>bE h xAW fun r2 h=>dE h) fun h=>cE h (fun h=>bE h xAc fun r2 h=>bE h Mp fun r3 h=>dE h) fun h=>cE h (fun h=>bE (cb F (ax ((a0:Int)==3) false (zW (gt 1 (cb F h)) rfl) (cb F h))) AS fun r2 h=>dE h) fun h=>cE (cb F h) (fun h=>bE (cb F h) AS fun r2 h=>dE h) fun h=>bE (cb F h) AS fun r2 h=>dE h
def Fo(q:Mch->(List Exp)->(List Bnd)->Option ((List Val)×Mch)):Prop:=∀a0 a1 a2 r,q a0 a1 a2=some r->AbC 110 [.box (Mc .tip a0),.val (vS .ro .exp a1),.val (vS .ro .bnd a2)] (PY r)
def Fp(q:Mch->Exp->(List Bnd)->Option (Val×Mch)):Prop:=∀a0 a1 a2 r,q a0 a1 a2=some r->AbC 112 (HP a0 a1 a2) (Dh r)
def G48(q:Mch->Exp->(List Bnd)->Option (Val×Mch)):Prop:=∀a0 a1 a2 r,q a0 a1 a2=some r->AbC 48 (HP a0 a1 a2) (Dh r)
def Fq(q:Mch->Exp->(List Bnd)->Option (Val×Mch)):Prop:=∀a0 a1 a2 r,q a0 a1 a2=some r->AbC 115 (HP a0 a1 a2) (Dh r)
def RM:=fO Tryz.func110 [0,2,4,12,14,16,40,1] [(3,[0,2,4,14,16,1])] [(3,[(4,.take,false)]),(5,[(0,.take,false),(9,.take,false)]),(6,[(0,.take,false)])] (ext:=[0]) (casts:=[(3,[(14,0,false)])])
theorem xBN{N}{q0}(g0:Fo q0){q1}(g1:Fp q1){q2}(g2:G48 q2){q3}(g3:Fq q3):∀n {x1 x2 x7 x8 b0 r},HO N q0 q1 q2 q3 n x1 x2 x7 x8 b0=some r->RS RM 3 [(0,vP 0),(2,vS .ro .exp x1),(4,vS .ro .bnd x2),(14,vS .tip .val x7),(16,vI x8),(1,.v true (Mc .tip b0))] (PY r):=
 nI nE fun n ih=>fun h=>cE (oA h) (fun h=>cE h (fun h=>bE (iE h) (g2 _ _ _ _) fun r1 h=>uS (iE h) ih) fun h=>dS h) fun h=>dS (cb F h)
theorem xJL{N}{q0}(g0:Fo q0){q1}(g1:Fp q1){q2}(g2:G48 q2){q3}(g3:Fq q3){a0 a1 a2 r}(h:xAC N q0 q1 q2 q3 a0 a1 a2=some r):AbC 110 [.box (Mc .tip a0),.val (vS .ro .exp a1),.val (vS .ro .bnd a2)] (PY r):=
 oK RM <| uE (oA h) (xBN g0 g1 g2 g3 _)
theorem xJN{N}{q0}(g0:Fo q0){q1}(g1:Fp q1){q2}(g2:G48 q2){q3}(g3:Fq q3){a0 a1 a2 r}(h:Mz N q0 q1 q2 q3 a0 a1 a2=some r):AbC 112 (HP a0 a1 a2) (Dh r):=
 oK (fO Tryz.func112 [0,2,4,8,12,14,32,44,72,82,92,108,118,130,1,9,13] [] [(1,[(4,.cp,true)]),(5,[(2,.take,false)]),(6,[(3,.take,false)]),(10,[(5,.cp,true)]),(12,[(1,.cp,true)]),(15,[(5,.cp,true)])] (ext:=[0]) (fcast:=[(13,4,true),(13,5,true),(13,6,true)])) <| bE (oA h) (g0 _ _ _ _) fun r1 h=>cE h (fun h=>dE h) fun h=>bE h xAf fun r2 h=>cE h (fun h=>bE h xIN fun r3 h=>dE h) fun h=>cE h (fun h=>cE (iE h) (fun h=>dE (rp 1 h)) fun h=>cE h (fun h=>bE h JE fun r3 h=>dE h) fun h=>cE h (fun h=>cE (rp 3 h) (fun h=>bE (rp 5 h) JE fun r3 h=>dE h) fun h=>bE h AS fun r3 h=>dE h) fun h=>cE (rp 3 h) (fun h=>bE (rp 5 h) JE fun r3 h=>dE h) fun h=>bE h AS fun r3 h=>dE h) fun h=>cE (cb F h) (fun h=>bE h JE fun r3 h=>dE h) fun h=>cE h (fun h=>cE (iE h) (fun h=>bE (rp 1 h) JE fun r3 h=>dE h) fun h=>bE h AS fun r3 h=>dE h) fun h=>cE (iE h) (fun h=>bE (rp 1 h) JE fun r3 h=>dE h) fun h=>bE h AS fun r3 h=>dE h
theorem xJP{N}{q0}(g0:Fo q0){q1}(g1:Fp q1){q2}(g2:G48 q2){q3}(g3:Fq q3){a0 a1 a2 r}(h:Bq N q0 q1 q2 q3 a0 a1 a2=some r):AbC 48 (HP a0 a1 a2) (Dh r):=
 oK (fO Tryz.func48 [0,2,4,8,12,14,16,18,20,42,70,72,82,92,104,124,132,144,168,194,212,234,268,296,1,9,13,17,19] [] [(1,[(4,.take,false)]),(16,[(0,.take,false)]),(23,[(9,.cp,true)]),(26,[(4,.take,false)])] (ext:=[0]) (fcast:=[(13,4,true),(13,5,true),(13,6,true)])) <| cE (oA h) (fun h=>dE (cb Y h)) fun h=>cE h (fun h=>dE h) fun h=>cE h (fun h=>bE h BF fun r1 h=>dE h) fun h=>cE h (fun h=>bE h Kg fun r1 h=>dE h) fun h=>cE h (fun h=>bE h xJb fun r1 h=>dE h) fun h=>cE h (fun h=>bE h (g0 _ _ _ _) fun r1 h=>cE h (fun h=>dE h) fun h=>bE h PE fun r2 h=>dE h) fun h=>cE h (fun h=>bE h (g1 _ _ _ _) fun r1 h=>dE h) fun h=>cE h (fun h=>bE (iE h) (g2 _ _ _ _) fun r1 h=>cE h (fun h=>dE h) fun h=>bE (iE h) Uo fun r2 h=>bE h (g2 _ _ _ _) fun r3 h=>dE h) fun h=>cE h (fun h=>bE (iE h) (g2 _ _ _ _) fun r1 h=>cE h (fun h=>dE (cb Y h)) fun h=>cE h (fun h=>dE h) fun h=>bE h xI5 fun r2 h=>cE h (fun h=>bE (iE h) (g2 _ _ _ _) fun r3 h=>dE h) fun h=>bE (iE h) (g2 _ _ _ _) fun r3 h=>dE h) fun h=>cE h (fun h=>bE h (g3 _ _ _ _) fun r1 h=>dE h) fun h=>bE h (g0 _ _ _ _) fun r1 h=>cE h (fun h=>dE h) fun h=>bE (iE (iE h)) xIM fun r2 h=>dE h
def RP:=fO Tryz.func115 [0,2,4,8,12,14,16,18,50,58,86,134,1,9,13,15] [(8,[0,4,8,12,14,16,18,1,9,13,15])] [(2,[(4,.take,false)]),(8,[(5,.take,false)]),(10,[(0,.take,false),(14,.cp,true),(17,.take,false)])] (ext:=[0]) (casts:=[(8,[(16,0,false)])]) (fcast:=[(13,4,true),(13,5,true),(13,6,true)])
theorem xBQ{N}{q0}(g0:Fo q0){q1}(g1:Fp q1){q2}(g2:G48 q2){q3}(g3:Fq q3):∀n {x2 x8 x9 b0 b4 b6 b7 r},DM N q0 q1 q2 q3 n x2 x8 x9 b0 b4 b6 b7=some r->RS RP 8 [(0,vP 0),(4,vS .ro .bnd x2),(8,vP 4),(12,vP 6),(14,vP 7),(16,vS .tip .val x8),(18,vI x9),(1,.v true (Mc .tip b0)),(9,.v true (Ex .ro b4)),(13,vV .own b6),(15,vV .ro b7)] (Dh r):=
 nI nE fun n ih=>fun h=>cE (oA h) (fun h=>cE h (fun h=>bE (iE (iE h)) Uo fun r1 h=>bE h (g2 _ _ _ _) fun r2 h=>uS (iE h) ih) fun h=>cE h (fun h=>dS h) fun h=>bE h PE fun r1 h=>dS h) fun h=>cE (cb F h) (fun h=>dS h) fun h=>bE h PE fun r1 h=>dS h
theorem xJR{N}{q0}(g0:Fo q0){q1}(g1:Fp q1){q2}(g2:G48 q2){q3}(g3:Fq q3){a0 a1 a2 r}(h:NB N q0 q1 q2 q3 a0 a1 a2=some r):AbC 115 (HP a0 a1 a2) (Dh r):=
 oK RP <| bE (iE (oA h)) (g2 _ _ _ _) fun r1 h=>cE h (fun h=>dE (cb Y h)) fun h=>cE h (fun h=>dE h) fun h=>cE h (fun h=>bE h AS fun r2 h=>dE h) fun h=>uE h (xBQ g0 g1 g2 g3 _)
theorem xJM{N:Nat}:∀d,Fo (BL N d).c2/\Fp (BL N d).c3/\G48 (BL N d).c4/\Fq (BL N d).c5:=by
 intro d
 induction d with
 |zero=>exact⟨fun _ _ _ _ h=>nE h,fun _ _ _ _ h=>nE h,fun _ _ _ _ h=>nE h,fun _ _ _ _ h=>nE h⟩
 |succ d ih=>
  obtain⟨ih0,ih1,ih2,ih3⟩:=ih;exact⟨fun _ _ _ _ h=>xJL (N:=N) ih0 ih1 ih2 ih3 h,fun _ _ _ _ h=>xJN (N:=N) ih0 ih1 ih2 ih3 h,fun _ _ _ _ h=>xJP (N:=N) ih0 ih1 ih2 ih3 h,fun _ _ _ _ h=>xJR (N:=N) ih0 ih1 ih2 ih3 h⟩
theorem xJQ{N:Nat}{a0:Mch}{a1:Exp}{a2:List Bnd}{r:Val×Mch}(h:PZ N a0 a1 a2=some r):AbC 48 (HP a0 a1 a2) (Dh r):=(xJM N).2.2.1 _ _ _ r h
theorem xJT{N a0 r}(h:P2 N a0=some r):AbC 117 [.val (.v true (Rc .ro a0))] (xJU r):=
 oK (fO Tryz.func117 [0,2,4,3,5] [] [(2,[(0,.take,false)])]) <| bE (oA h) DN fun r1 h=>dE h
def ST:=fO Tryz.func49 [0,4,6,8,18] [(3,[0,6,8])] [(5,[(0,.take,false),(7,.take,false)]),(6,[(0,.take,false)])]
theorem xC9{N}:∀n {x0 x3 x4 r},JG N n x0 x3 x4=some r->RS ST 3 [(0,vS .ro .rea x0),(6,vS .own .rea x3),(8,vI x4)] (xAE r):=
 nI nE fun n ih=>fun h=>cE (oA h) (fun h=>bE (iE h) xJT fun r1 h=>uS (iE h) ih) fun h=>dS h
theorem xAD{N a0 r}(h:NC N a0=some r):AbC 49 [.val (vS .ro .rea a0)] (xAE r):=
 oK ST <| uE (oA h) (xC9 _)
def RL:=fO Tryz.func11 [0,2,4,6,8,10,12,18,24,26,28,34,66,13,19,25,29,51] [(4,[2,12,24,26,13,25,51])] (casts:=[(4,[(51,6,false)])])
theorem xBR{N}:∀ {x1 b6 b12 b25 r},PF N x1 b6 b12 b25=some r->RS RL 4 [(2,vS .ro .bnd x1),(12,vP 6),(24,vP 12),(26,vP 25),(13,.v true (Ex .ro b6)),(25,.v true [.int .i64 (b12.value.kind),.int .i64 (b12.value.n),.int .i64 (b12.value.step),.str (b12.value.text),.sl .own .val (b12.value.list),.sl .own .str (b12.value.columns),.sl .own .row (b12.value.rows),.sl .own .rea b12.reads,.int .i64 b12.steps]),(51,.v true (Mc .tip b25))] (Mb r):=
 fun h=>bE (oA h) xJQ fun r1 h=>cE h (fun h=>bE h AS fun r2 h=>bE h xAD fun r3 h=>dS h) fun h=>bE h DN fun r2 h=>bE h xAD fun r3 h=>dS h
theorem xIU{N a0 a1 a2 a3 a4 a5 r}(h:K9 N a0 a1 a2 a3 a4 a5=some r):AbC 11 [.val (.v true (Ex .ro a0)),.val (vS .ro .bnd a1),.val (vS .ro .rea a2),.val (.v true (Wc .ro a3)),.val (vI a4),.val (vI a5)] (Mb r):=
 oK RL <| bE (oA h) Im fun r1 h=>cE h (fun h=>bE h AS fun r2 h=>dE h) fun h=>uE h xBR
def G87(q:Exp->Option (Int)):Prop:=∀a0 r,q a0=some r->AbC 87 (BA a0) (A9 r)
def SX:=fO Tryz.func87 [0,2,4,6,10,14,16,18,20,3,11] [(3,[6,14,16,18])] [(6,[(1,.take,false)])]
theorem xDl{N}{q0}(g0:G87 q0):∀n {x3 x7 x8 x9 r},GN N q0 n x3 x7 x8 x9=some r->RS SX 3 [(6,vI x3),(14,vS .ro .exp x7),(16,vI x8),(18,vI x9)] (A9 r):=
 nI nE fun n ih=>fun h=>cE (oA h) (fun h=>bE (iE h) (g0 _ _) fun r1 h=>uS h ih) fun h=>dS h
theorem xFd{N}{q0}(g0:G87 q0){a0 r}(h:TD N q0 a0=some r):AbC 87 (BA a0) (A9 r):=
 oK SX <| uE (oA h) (xDl g0 _)
theorem TE{N:Nat}:∀d,G87 (Hw N d)
 |0=>fun _ _ h=>nE h
 |d+1=>fun _ _ h=>xFd (N:=N) (TE d) h
theorem xFe{N:Nat}{a0:Exp}{r:Int}(h:OL N a0=some r):AbC 87 (BA a0) (A9 r):=TE N _ r h
def G88(q:Exp->Option (Int)):Prop:=∀a0 r,q a0=some r->AbC 88 (BA a0) (A9 r)
def SY:=fO Tryz.func88 [0,2,4,6,10,14,16,18,20,3,11] [(3,[6,14,16,18])] [(6,[(1,.take,false)])]
theorem xDm{N}{q0}(g0:G88 q0):∀n {x3 x7 x8 x9 r},Hv N q0 n x3 x7 x8 x9=some r->RS SY 3 [(6,vI x3),(14,vS .ro .exp x7),(16,vI x8),(18,vI x9)] (A9 r):=
 nI nE fun n ih=>fun h=>cE (oA h) (fun h=>bE (iE h) (g0 _ _) fun r1 h=>uS h ih) fun h=>dS h
theorem xFb{N}{q0}(g0:G88 q0){a0 r}(h:TB N q0 a0=some r):AbC 88 (BA a0) (A9 r):=
 oK SY <| uE (oA h) (xDm g0 _)
theorem TC{N:Nat}:∀d,G88 (Js N d)
 |0=>fun _ _ h=>nE h
 |d+1=>fun _ _ h=>xFb (N:=N) (TC d) h
theorem xFc{N:Nat}{a0:Exp}{r:Int}(h:OK N a0=some r):AbC 88 (BA a0) (A9 r):=TC N _ r h
theorem EI{N a0 a1 a2 r}(h:Cm N a0 a1 a2=some r):AbC 177 [.val (vI a0),.val (vI a1),.val (vI a2)] (AN r):=
 oK (fO Tryz.func177 [0,2,4,12] [] [(1,[(3,.take,false)])]) <| cE (oA h) (fun h=>dE h) fun h=>dE h
def R5:=fO Tryz.func178 [0,4,6,14,50] [(2,[0,6])] [(4,[(4,.take,false),(10,.take,false)])]
theorem xB6{N}:∀n {x0 x3 r},Jo N n x0 x3=some r->RS R5 2 [(0,vTq x0),(6,vI x3)] (AN r):=
 nI nE fun n ih=>fun h=>cE (oA h) (fun h=>cE (iE h) (fun h=>dS (cb Y (cb Y h))) fun h=>cE (rp 1 h) (fun h=>dS (cb Y h)) fun h=>cE (rp 3 h) (fun h=>dS h) fun h=>uS h ih) fun h=>dS h
theorem Sz{N a0 r}(h:Lk N a0=some r):AbC 178 (C1 a0) (AN r):=
 oK R5 <| uE (oA h) (xB6 _)
def Rq:=fO Tryz.func228 [0,4,6,8,16,76] [(2,[0,6])] [(4,[(4,.take,false)]),(5,[(0,.take,false),(2,.take,false),(5,.take,false),(11,.take,false)])]
theorem xCy{N}:∀n {x0 x3 r},EB N n x0 x3=some r->RS Rq 2 [(0,vTq x0),(6,vI x3)] (AN r):=
 nI nE fun n ih=>fun h=>cE (oA h) (fun h=>cE (iE h) (fun h=>cE (rp 1 h) (fun h=>cE h (fun h=>dS (cb Y (cb Y h))) fun h=>cE (rp 4 h) (fun h=>dS (cb Y h)) fun h=>cE (rp 6 h) (fun h=>dS h) fun h=>uS h ih) fun h=>uS (cb F h) ih) fun h=>cE (cb Y h) (fun h=>dS (cb Y (cb Y h))) fun h=>cE (rp 3 h) (fun h=>dS (cb Y h)) fun h=>cE (rp 5 h) (fun h=>dS h) fun h=>uS h ih) fun h=>bE h EI fun r1 h=>dS h
theorem xFI{N a0 r}(h:OT N a0=some r):AbC 228 (C1 a0) (AN r):=
 oK Rq <| uE (oA h) (xCy _)
theorem OB{N a0 r}(h:GE N a0=some r):AbC 180 (C1 a0) (A9 r):=
 oK (fO Tryz.func180 [0,4,6,8,12,24,40,48]) <| cE (oA h) (fun h=>dE h) fun h=>cE h (fun h=>dE (rb Y 0 h)) fun h=>cE h (fun h=>dE (rb Y 0 h)) fun h=>cE h (fun h=>dE (rb Y 0 h)) fun h=>cE h (fun h=>dE (rb Y 0 h)) fun h=>cE h (fun h=>dE h) fun h=>cE h (fun h=>dE (rb Y 0 h)) fun h=>cE h (fun h=>dE (rb Y 0 h)) fun h=>cE h (fun h=>dE (rb Y 0 h)) fun h=>cE h (fun h=>dE (rb Y 0 h)) fun h=>cE h (fun h=>dE (rb Y 0 h)) fun h=>cE h (fun h=>dE (rb Y 0 h)) fun h=>cE h (fun h=>dE h) fun h=>cE h (fun h=>dE (rb Y 0 h)) fun h=>cE h (fun h=>dE (rb Y 0 h)) fun h=>cE h (fun h=>dE h) fun h=>cE h (fun h=>dE h) fun h=>dE h
theorem xEY{N a0 r}(h:Li N a0=some r):AbC 229 (C1 a0) (AN r):=
 oK (fO Tryz.func229 [0,4,6,8]) <| cE (oA h) (fun h=>dE (rb Y 0 h)) fun h=>cE h (fun h=>dE (rb Y 0 h)) fun h=>cE h (fun h=>dE (rb Y 0 h)) fun h=>cE h (fun h=>dE (rb Y 0 h)) fun h=>cE h (fun h=>dE (rb Y 0 h)) fun h=>cE h (fun h=>dE (rb Y 0 h)) fun h=>cE h (fun h=>dE h) fun h=>bE h OB fun r1 h=>dE h
theorem Ht{N a0 r}(h:Du N a0=some r):AbC 179 (C1 a0) (AN r):=
 oK (fO Tryz.func179 [0,4] [] [(1,[(2,.take,false)])]) <| bE (oA h) xFI fun r1 h=>cE h (fun h=>bE h xEY fun r2 h=>dE h) fun h=>dE h
theorem xFD{N a0 r}(h:ME N a0=some r):AbC 140 (BA a0) (AN r):=
 oK (fO Tryz.func140 [0,2,4,6,16,18,46,74,102,130,154,182,212,3] [] [(4,[(3,.take,false),(8,.take,false)]),(6,[(3,.take,false),(8,.take,false)]),(8,[(3,.take,false),(8,.take,false)]),(10,[(3,.take,false),(8,.take,false)]),(12,[(3,.take,false)]),(14,[(3,.take,false),(8,.take,false)]),(17,[(3,.take,false),(8,.take,false)]),(19,[(3,.take,false),(8,.take,false)])]) <| cE (oA h) (fun h=>bE h EI fun r1 h=>cE h (fun h=>cE h (fun h=>dE h) fun h=>dE h) fun h=>dE (cb F h)) fun h=>cE h (fun h=>cE h (fun h=>bE h Sz fun r1 h=>cE h (fun h=>dE h) fun h=>dE h) fun h=>dE (cb F h)) fun h=>cE h (fun h=>cE h (fun h=>bE h Ht fun r1 h=>cE h (fun h=>dE h) fun h=>dE h) fun h=>dE (cb F h)) fun h=>cE h (fun h=>cE h (fun h=>cE h (fun h=>dE h) fun h=>dE h) fun h=>dE (cb F h)) fun h=>cE h (fun h=>cE h (fun h=>bE h OB fun r1 h=>dE h) fun h=>dE h) fun h=>cE h (fun h=>bE h EI fun r1 h=>cE h (fun h=>cE h (fun h=>dE h) fun h=>dE h) fun h=>dE (cb F h)) fun h=>cE h (fun h=>cE (rb Y 0 h) (fun h=>bE h Ht fun r1 h=>cE h (fun h=>dE h) fun h=>dE h) fun h=>dE (cb F h)) fun h=>cE h (fun h=>cE h (fun h=>bE h Ht fun r1 h=>cE h (fun h=>dE h) fun h=>dE h) fun h=>dE (cb F h)) fun h=>cE h (fun h=>cE h (fun h=>cE h (fun h=>dE h) fun h=>dE h) fun h=>dE (cb F h)) fun h=>dE h
def G89(q:Exp->Option (Bool)):Prop:=∀a0 r,q a0=some r->AbC 89 (BA a0) (AN r)
def SZ:=fO Tryz.func89 [0,2,4,8,12,14,16,18,28,3,9] [(2,[2,12,14,16,3])] [(6,[(1,.take,false)])]
theorem xDn{N}{q0}(g0:G89 q0):∀n {x6 x7 x8 b1 r},GR N q0 n x6 x7 x8 b1=some r->RS SZ 2 [(2,vP 1),(12,vS .ro .exp x6),(14,vI x7),(16,vI x8),(3,.v true (Ex .ro b1))] (AN r):=
 nI nE fun n ih=>fun h=>cE (oA h) (fun h=>bE (iE h) (g0 _ _) fun r1 h=>cE h (fun h=>dS h) fun h=>uS h ih) fun h=>bE h xFD fun r1 h=>dS h
theorem xFs{N}{q0}(g0:G89 q0){a0 r}(h:TN N q0 a0=some r):AbC 89 (BA a0) (AN r):=
 oK SZ <| uE (oA h) (xDn g0 _)
theorem TO{N:Nat}:∀d,G89 (Jy N d)
 |0=>fun _ _ h=>nE h
 |d+1=>fun _ _ h=>xFs (N:=N) (TO d) h
theorem xFt{N:Nat}{a0:Exp}{r:Bool}(h:OO N a0=some r):AbC 89 (BA a0) (AN r):=TO N _ r h
theorem xE0{N a0 r}(h:Lj N a0=some r):AbC 40 (BA a0) (AN r):=
 oK (fO Tryz.func40 [0,2,4,3] [] [(1,[(3,.take,false),(8,.take,false)])]) <| bE (oA h) xFe fun r1 h=>cE h (fun h=>bE h xFc fun r2 h=>cE h (fun h=>bE h xFt fun r3 h=>dE h) fun h=>dE h) fun h=>dE (cb F h)
theorem AQ{N a0 r}(h:AJ N a0=some r):AbC 41 [.val (vI a0)] (AW r):=
 oK (fO Tryz.func41 [0,4,5]) <| dE (oA h)
theorem Bv{N a0 r}(h:Ax N a0=some r):AbC 90 [.val (vI a0)] (AW r):=
 oK (fO Tryz.func90 [0,4,5]) <| dE (oA h)
theorem TJ{N a0 r}(h:Ju N a0=some r):AbC 91 (C1 a0) (AW r):=
 oK (fO Tryz.func91 [0,4,5]) <| dE (oA h)
theorem TS{N a0 r}(h:Lz N a0=some r):AbC 101 [.val (.v true [.sl .ro .int a0.cells,.sl .ro .org a0.frm])] (Pd r):=
 oK (fO Tryz.func101 [0,2,4,3,5]) <| dE (iE (iE (oA h)))
def G43(q:Val->Option (Val)):Prop:=∀a0 r,q a0=some r->AbC 43 (Am a0) (AW r)
def J4(q:(List Val)->Option ((List Val))):Prop:=∀a0 r,q a0=some r->AbC 100 (Ee a0) (MC r)
def SS:=fO Tryz.func43 [0,2,4,6,10,36,38,40,42,3,5,7,11] [(6,[4,6,36,38,40,5,7])] [(8,[(1,.take,false),(5,.take,false)]),(9,[(1,.take,false)]),(10,[(0,.take,false)])]
theorem xC6{N}{q0}(g0:G43 q0){q1}(g1:J4 q1):∀n {x18 x19 x20 b2 b3 r},GT N q0 q1 n x18 x19 x20 b2 b3=some r->RS SS 6 [(4,vP 2),(6,vP 3),(36,vS .ro .row x18),(38,vI x19),(40,vI x20),(5,vV .own b2),(7,vV .own b3)] (AW r):=
 nI nE fun n ih=>fun h=>cE (oA h) (fun h=>bE (iE h) TS fun r1 h=>uS (iE h) ih) fun h=>dS h
theorem xFv{N}{q0}(g0:G43 q0){q1}(g1:J4 q1){a0 r}(h:MA N q0 q1 a0=some r):AbC 43 (Am a0) (AW r):=
 oK SS <| bE (oA h) (g1 _ _) fun r1 h=>uE (iE h) (xC6 g0 g1 _)
def RC:=fO Tryz.func100 [0,4,6,10,14,16,18,20,11] [(3,[6,14,16,18])] [(5,[(0,.take,false),(4,.take,false)]),(6,[(1,.take,false)]),(7,[(0,.take,false)])]
theorem xBE{N}{q0}(g0:G43 q0){q1}(g1:J4 q1):∀n {x3 x7 x8 x9 r},IB N q0 q1 n x3 x7 x8 x9=some r->RS RC 3 [(6,vS .own .val x3),(14,vS .ro .val x7),(16,vI x8),(18,vI x9)] (MC r):=
 nI nE fun n ih=>fun h=>cE (oA h) (fun h=>bE (iE h) (g0 _ _) fun r1 h=>uS (iE h) ih) fun h=>dS h
theorem xFw{N}{q0}(g0:G43 q0){q1}(g1:J4 q1){a0 r}(h:MB N q0 q1 a0=some r):AbC 100 (Ee a0) (MC r):=
 oK RC <| uE (oA h) (xBE g0 g1 _)
theorem TU{N:Nat}:∀d,G43 (B0 N d).c6/\J4 (B0 N d).c7:=by
 intro d
 induction d with
 |zero=>exact⟨fun _ _ h=>nE h,fun _ _ h=>nE h⟩
 |succ d ih=>
  obtain⟨ih0,ih1⟩:=ih;exact⟨fun _ _ h=>xFv (N:=N) ih0 ih1 h,fun _ _ h=>xFw (N:=N) ih0 ih1 h⟩
theorem C7{N:Nat}{a0:Val}{r:Val}(h:Bm N a0=some r):AbC 43 (Am a0) (AW r):=(TU N).1 _ r h
theorem OP{N:Nat}{a0:List Val}{r:(List Val)}(h:GU N a0=some r):AbC 100 (Ee a0) (MC r):=(TU N).2 _ r h
def S0:=fO Tryz.func92 [0,2,8,10,20,38,9] [(2,[0,2,8,10,9])]
theorem xDo{N}:∀n {x0 x1 x5 b4 r},Hu N n x0 x1 x5 b4=some r->RS S0 2 [(0,vS .ro .bnd x0),(2,vTq x1),(8,vP 4),(10,vI x5),(9,vV .own b4)] (AW r):=
 nI nE fun n ih=>fun h=>cE (oA h) (fun h=>cE (iE h) (fun h=>bE (rp 1 h) C7 fun r1 h=>dS h) fun h=>uS h ih) fun h=>bE h AQ fun r1 h=>dS h
theorem xE8{N a0 a1 r}(h:Lq N a0 a1=some r):AbC 92 [.val (vS .ro .bnd a0),.val (vTq a1)] (AW r):=
 oK S0 <| uE (oA h) (xDo _)
theorem D3{N a0 r}(h:C8 N a0=some r):AbC 182 [.val (vI a0)] (AN r):=
 oK (fO Tryz.func182 [0,4]) <| bE (oA h) EI fun r1 h=>dE h
def SH:=fO Tryz.func268 [0,2,8,10,12,14,16,18,20,32] [(2,[2,14,16,18])] [(4,[(0,.take,false)]),(5,[(0,.take,false)]),(6,[(1,.take,false)])]
theorem xCS{N}:∀n {x1 x7 x8 x9 r},Hs N n x1 x7 x8 x9=some r->RS SH 2 [(2,vTq x1),(14,vS .ro .str x7),(16,vI x8),(18,vI x9)] (A9 r):=
 nI nE fun n ih=>fun h=>cE (oA h) (fun h=>cE (iE h) (fun h=>dS h) fun h=>uS h ih) fun h=>dS h
theorem OG{N a0 a1 r}(h:Jn N a0 a1=some r):AbC 268 [.val (vS .ro .str a0),.val (vTq a1)] (A9 r):=
 oK SH <| uE (oA h) (xCS _)
def Ru:=fO Tryz.func237 [0,4,6,8,10,12,14,16,32] [(2,[0,10,12,14])] [(4,[(1,.take,false),(3,.take,false)]),(6,[(1,.take,false)])]
theorem xCF{N}:∀n {x0 x5 x6 x7 r},GC N n x0 x5 x6 x7=some r->RS Ru 2 [(0,vS .ro .str x0),(10,vS .ro .str x5),(12,vI x6),(14,vI x7)] (AN r):=
 nI nE fun n ih=>fun h=>cE (oA h) (fun h=>bE (iE h) OG fun r1 h=>cE h (fun h=>dS h) fun h=>uS h ih) fun h=>dS h
theorem L7{N a0 r}(h:Hl N a0=some r):AbC 237 [.val (vS .ro .str a0)] (AN r):=
 oK Ru <| uE (oA h) (xCF _)
def Rv:=fO Tryz.func238 [0,4,8,10,12,14,16,26] [(2,[0,10,12,14])] [(4,[(0,.take,false)]),(6,[(1,.take,false)]),(7,[(3,.take,false)])]
theorem xCG{N}:∀n {x0 x5 x6 x7 r},IA N n x0 x5 x6 x7=some r->RS Rv 2 [(0,vS .ro .str x0),(10,vS .ro .str x5),(12,vI x6),(14,vI x7)] (AN r):=
 nI nE fun n ih=>fun h=>cE (oA h) (fun h=>bE (iE h) Ht fun r1 h=>cE h (fun h=>dS h) fun h=>uS h ih) fun h=>bE h EI fun r1 h=>cE h (fun h=>bE h L7 fun r2 h=>dS h) fun h=>dS h
theorem ON{N a0 r}(h:Jx N a0=some r):AbC 238 [.val (vS .ro .str a0)] (AN r):=
 oK Rv <| uE (oA h) (xCG _)
def Hi:=fO Tryz.func230 [0,2,4,8,12,14,16,36,40,42,44,46,64,68,70,72,74,84,90,92,94,96,148,3,9,17] [(4,[2,40,42,44,3]),(9,[2,8,40,42,44,68,70,72,3,9]),(15,[2,8,40,42,44,90,92,94,3,9])] [(1,[(4,.take,false)]),(11,[(0,.take,false)]),(13,[(1,.take,false)]),(17,[(3,.take,false),(8,.take,false),(11,.take,false)]),(19,[(1,.take,false)]),(20,[(1,.take,false)])]
def N5(x20:List Rowd)(x21 x22:Int)(b1:Val):St:=[(2,vP 1),(40,vS .ro .row x20),(42,vI x21),(44,vI x22),(3,vV .ro b1)]
theorem xCz{N}{k4}(hk4:∀ {z0 z1 z2 z3 r},k4 z0 z1 z2 z3=some r->RS Hi 4 (N5 z0 z1 z2 z3) (AN r)):∀n {x20 x21 x22 x45 x46 x47 b1 b4 r},FH N k4 n x20 x21 x22 x45 x46 x47 b1 b4=some r->RS Hi 15 [(2,vP 1),(8,vP 4),(40,vS .ro .row x20),(42,vI x21),(44,vI x22),(90,vS .ro .org x45),(92,vI x46),(94,vI x47),(3,vV .ro b1),(9,.v true [.sl .ro .int b4.cells,.sl .ro .org b4.frm])] (AN r):=
 nI nE fun n ih=>fun h=>cE (oA h) (fun h=>cE (iE h) (fun h=>dS (cb Y (cb Y h))) fun h=>cE h (fun h=>dS (cb Y h)) fun h=>cE h (fun h=>bE (iE h) T0 fun r1 h=>cE h (fun h=>dS h) fun h=>uS h ih) fun h=>uS (cb F h) ih) fun h=>uS h hk4
theorem xCB{N}{k4}(hk4:∀ {z0 z1 z2 z3 r},k4 z0 z1 z2 z3=some r->RS Hi 4 (N5 z0 z1 z2 z3) (AN r)):∀n {x20 x21 x22 x34 x35 x36 b1 b4 r},GW N k4 n x20 x21 x22 x34 x35 x36 b1 b4=some r->RS Hi 9 [(2,vP 1),(8,vP 4),(40,vS .ro .row x20),(42,vI x21),(44,vI x22),(68,vS .ro .int x34),(70,vI x35),(72,vI x36),(3,vV .ro b1),(9,.v true [.sl .ro .int b4.cells,.sl .ro .org b4.frm])] (AN r):=
 nI nE fun n ih=>fun h=>cE (oA h) (fun h=>bE (iE h) D3 fun r1 h=>cE h (fun h=>dS h) fun h=>uS h ih) fun h=>uS h (xCz hk4 _)
theorem xCA{N}:∀n {x20 x21 x22 b1 r},IC N n x20 x21 x22 b1=some r->RS Hi 4 (N5 x20 x21 x22 b1) (AN r):=
 nI nE fun n ih=>fun h=>cE (oA h) (fun h=>cE (iE h) (fun h=>dS h) fun h=>uS h (xCB ih _)) fun h=>dS h
theorem TW{N a0 r}(h:KA N a0=some r):AbC 230 (Am a0) (AN r):=
 oK Hi <| bE (oA h) ON fun r1 h=>cE h (fun h=>dE (cb Y h)) fun h=>cE h (fun h=>dE h) fun h=>uE h (xCA _)
def N1(q:Val->Option (Int)):Prop:=∀a0 r,q a0=some r->AbC 143 (Am a0) (A9 r)
def RX:=fO Tryz.func143 [0,2,4,6,10,14,16,18,20,3,11] [(3,[6,14,16,18])] [(6,[(1,.take,false)])]
theorem xBY{N}{q0}(g0:N1 q0):∀n {x3 x7 x8 x9 r},Hq N q0 n x3 x7 x8 x9=some r->RS RX 3 [(6,vI x3),(14,vS .ro .val x7),(16,vI x8),(18,vI x9)] (A9 r):=
 nI nE fun n ih=>fun h=>cE (oA h) (fun h=>bE (iE h) (g0 _ _) fun r1 h=>uS h ih) fun h=>dS h
theorem xEN{N}{q0}(g0:N1 q0){a0 r}(h:Sr N q0 a0=some r):AbC 143 (Am a0) (A9 r):=
 oK RX <| uE (oA h) (xBY g0 _)
theorem Ss{N:Nat}:∀d,N1 (GF N d)
 |0=>fun _ _ h=>nE h
 |d+1=>fun _ _ h=>xEN (N:=N) (Ss d) h
theorem Su{N:Nat}{a0:Val}{r:Int}(h:Hp N a0=some r):AbC 143 (Am a0) (A9 r):=Ss N _ r h
def N3(q:Val->Option (Bool)):Prop:=∀a0 r,q a0=some r->AbC 181 (Am a0) (AN r)
def R6:=fO Tryz.func181 [0,2,4,6,10,46,48,84,120,156,192,242,248,250,252,254,294,3,11] [(15,[2,248,250,252,3])] [(1,[(4,.take,false),(10,.take,false)]),(4,[(1,.take,false),(6,.take,false),(11,.take,false)]),(6,[(1,.take,false),(6,.take,false),(11,.take,false)]),(8,[(1,.take,false),(6,.take,false),(11,.take,false)]),(10,[(1,.take,false),(6,.take,false),(11,.take,false)]),(12,[(3,.take,false),(8,.take,false),(13,.take,false),(19,.take,false)]),(17,[(3,.take,false),(8,.take,false),(13,.take,false)]),(19,[(1,.take,false)]),(20,[(3,.take,false),(8,.take,false),(13,.take,false),(19,.take,false),(25,.take,false),(31,.take,false)])]
theorem Nd{N}{q0}(g0:N3 q0):∀n {x124 x125 x126 b1 r},Cz N q0 n x124 x125 x126 b1=some r->RS R6 15 [(2,vP 1),(248,vS .ro .val x124),(250,vI x125),(252,vI x126),(3,vV .ro b1)] (AN r):=
 nI nE fun n ih=>fun h=>cE (oA h) (fun h=>cE (iE h) (fun h=>cE h (fun h=>cE h (fun h=>dS (cb Y h)) fun h=>bE h (g0 _ _) fun r1 h=>cE h (fun h=>dS h) fun h=>uS h ih) fun h=>bE (cb F h) (g0 _ _) fun r1 h=>cE h (fun h=>dS h) fun h=>uS h ih) fun h=>bE (cb F (cb F h)) (g0 _ _) fun r1 h=>cE h (fun h=>dS h) fun h=>uS h ih) fun h=>cE h (fun h=>cE h (fun h=>cE h (fun h=>cE h (fun h=>cE h (fun h=>cE h (fun h=>bE h Su fun r1 h=>dS h) fun h=>dS h) fun h=>dS (cb F h)) fun h=>dS (cb F (cb F h))) fun h=>dS (cb F (cb F (cb F h)))) fun h=>dS (cb F (cb F (cb F (cb F h))))) fun h=>dS (cb F (cb F (cb F (cb F (cb F h)))))
theorem xE2{N}{q0}(g0:N3 q0){a0 r}(h:Ll N q0 a0=some r):AbC 181 (Am a0) (AN r):=
 oK R6 <| cE (oA h) (fun h=>cE h (fun h=>cE h (fun h=>cE h (fun h=>cE h (fun h=>cE h (fun h=>bE h D3 fun r1 h=>dE h) fun h=>dE h) fun h=>dE (cb F h)) fun h=>dE (cb F (cb F h))) fun h=>cE h (fun h=>cE h (fun h=>cE h (fun h=>cE h (fun h=>bE h Sz fun r1 h=>dE h) fun h=>dE h) fun h=>dE (cb F h)) fun h=>dE (cb F (cb F h))) fun h=>cE h (fun h=>cE h (fun h=>cE h (fun h=>bE h D3 fun r1 h=>cE h (fun h=>bE h D3 fun r2 h=>dE h) fun h=>dE h) fun h=>dE (cb F h)) fun h=>dE (cb F (cb F h))) fun h=>cE h (fun h=>cE h (fun h=>cE h (fun h=>cE h (fun h=>bE h EI fun r1 h=>dE h) fun h=>dE h) fun h=>dE (cb F h)) fun h=>dE (cb F (cb F h))) fun h=>cE h (fun h=>cE h (fun h=>cE h (fun h=>cE h (fun h=>bE (rb Y 9 h) TW fun r1 h=>dE h) fun h=>dE (cb F h)) fun h=>dE (cb F (cb F h))) fun h=>dE (cb F (cb F (cb F h)))) fun h=>cE h (fun h=>uE h (Nd g0 _)) fun h=>dE h) fun h=>cE h (fun h=>dE (cb F (cb F (cb F h)))) fun h=>cE h (fun h=>dE (cb F (cb F (cb F h)))) fun h=>cE h (fun h=>dE (cb F (cb F (cb F h)))) fun h=>cE h (fun h=>dE (cb F (cb F (cb F h)))) fun h=>cE h (fun h=>cE h (fun h=>cE h (fun h=>cE h (fun h=>bE (rb Y 9 h) TW fun r1 h=>dE h) fun h=>dE (cb F h)) fun h=>dE (cb F (cb F h))) fun h=>dE (cb F (cb F (cb F h)))) fun h=>cE h (fun h=>uE h (Nd g0 _)) fun h=>dE h) fun h=>cE (cb F h) (fun h=>dE (cb F (cb F (cb F h)))) fun h=>cE h (fun h=>dE (cb F (cb F (cb F h)))) fun h=>cE h (fun h=>dE (cb F (cb F (cb F h)))) fun h=>cE h (fun h=>dE (cb F (cb F (cb F h)))) fun h=>cE h (fun h=>cE h (fun h=>cE h (fun h=>cE h (fun h=>dE (rb F 9 h)) fun h=>dE (cb F h)) fun h=>dE (cb F (cb F h))) fun h=>dE (cb F (cb F (cb F h)))) fun h=>cE h (fun h=>uE h (Nd g0 _)) fun h=>dE h
theorem TA{N:Nat}:∀d,N3 (DA N d)
 |0=>fun _ _ h=>nE h
 |d+1=>fun _ _ h=>xE2 (N:=N) (TA d) h
theorem xE3{N:Nat}{a0:Val}{r:Bool}(h:OJ N a0=some r):AbC 181 (Am a0) (AN r):=TA N _ r h
end Go.Ab.T
end
