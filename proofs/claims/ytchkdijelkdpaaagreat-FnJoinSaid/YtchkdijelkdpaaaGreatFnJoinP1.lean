/- The statement FnJoin holds: plain functions, certificates, laws. Conditions: none. -/
import Derived.Test.YtchkdijelkdpaaaGreatL2
import Derived.Test.YtchkdijelkdpaaaGreatFnJoinP0
set_option linter.all false
section
namespace Go.Ab
open Go.Sort
theorem xNo(N:Nat){x y:Int}{i j:Nat}(s:Int){d:Array Org}(hx:x=i)(hy:y=j)(hi:i<d.size)(hj:j<d.size) :
 ∃(i' j' :Nat) (s' :Int),xBC N x y s d.toList=some ((i' :Int),(j' :Int),s',d.toList)∧((i' =i∧j' =j)∨(i' =j∧j' =i)):=by
 subst hx hy
 unfold xBC
 rw [xFh N rfl rfl hj hi]
 dsimp only
 cases olt d[j]! d[i]! with
 |true=>exact⟨j,i,_,rfl, .inr ⟨rfl,rfl⟩⟩
 |false=>exact⟨i,j,_,rfl, .inl ⟨rfl,rfl⟩⟩
theorem xM9(N:Nat){x y z:Int}{i j k:Nat}(s:Int){d:Array Org}(hx:x=i)(hy:y=j)(hz:z=k)(hi:i<d.size)(hj:j<d.size)(hk:k<d.size) :
 ∃(m:Nat) (s' :Int),xBB N x y z s d.toList=some ((m:Int),s',d.toList)∧(m=i∨m=j∨m=k):=by
 unfold xBB
 obtain⟨i1,j1,s1,e1,h1⟩:=xNo N s hx hy hi hj
 rw [e1]
 obtain⟨i2,j2,s2,e2,h2⟩:=xNo N s1 (x:=(j1:Int)) (y:=z) rfl hz (by omega) hk
 simp only [jS]
 rw [e2]
 obtain⟨i3,j3,s3,e3,h3⟩:=xNo N s2 (x:=(i1:Int)) (y:=(i2:Int)) (d:=d) rfl rfl (by omega) (by omega)
 simp only [jS]
 rw [e3]
 exact⟨j3,s3,rfl,by omega⟩
theorem xM8(N:Nat){x:Int}{i:Nat}(s:Int){d:Array Org}(hx:x=i)(h0:0<i)(hi:i+1<d.size)(hs:d.size<1152921504606846976) :
 ∃(m:Nat) (s' :Int),xAY N x s d.toList=some ((m:Int),s',d.toList)∧(m=i - 1∨m=i∨m=i+1):=by
 subst hx
 unfold xAY
 have w1:IntKind.i64.wrap ((i:Int) - 1)=((i - 1:Nat):Int):=wn _ (by omega) (by omega)
 have w2:IntKind.i64.wrap ((i:Int)+1)=((i+1:Nat):Int):=wn _ (by omega) (by omega)
 rw [w1,w2]
 obtain⟨m,s1,e1,h1⟩:=xM9 N s (x:=((i - 1:Nat):Int)) (y:=(i:Int)) (z:=((i+1:Nat):Int)) (d:=d) rfl rfl rfl (by omega) (by omega) hi
 rw [e1]
 exact⟨m,s1,rfl,h1⟩
theorem xTx(N:Nat){a b:Nat}{d:Array Org}(hab:a+12<b)(hb:b≤d.size)(hs:d.size<1152921504606846976) :
 ∃(p:Nat) (h:Int),xBT N (a:Int) (b:Int) d.toList=some ((p:Int),h,d.toList)∧(a≤p∧p<b):=by
 have w1:IntKind.i64.wrap ((b:Int) - (a:Int))=((b - a:Nat):Int):=wn _ (by omega) (by omega)
 have t:Int.tdiv ((b - a:Nat):Int) 4=(((b - a) / 4:Nat):Int):=rfl
 have w2:IntKind.i64.wrap (Int.tdiv ((b - a:Nat):Int) 4)=(((b - a) / 4:Nat):Int):=by rw [t];exact wn _ rfl (by omega)
 have q:∀c:Nat,c≤3→IntKind.i64.wrap ((a:Int)+IntKind.i64.wrap ((((b - a) / 4:Nat):Int)*(c:Int)))=((a+(b - a) / 4*c:Nat):Int):=by
  intro c hc
  have hle:(b - a) / 4*c≤(b - a) / 4*3:=Nat.mul_le_mul_left _ hc
  have e:IntKind.i64.wrap ((((b - a) / 4:Nat):Int)*(c:Int))=(((b - a) / 4*c:Nat):Int):=wn _ (by simp) (by omega)
  rw [e]
  exact wn _ (by simp) (by omega)
 have q1:=q 1 (by omega)
 have q2:=q 2 (by omega)
 have q3:=q 3 (by omega)
 have q1:IntKind.i64.wrap ((a:Int)+IntKind.i64.wrap ((((b - a) / 4:Nat):Int)*1))=_:=q1
 have q2:IntKind.i64.wrap ((a:Int)+IntKind.i64.wrap ((((b - a) / 4:Nat):Int)*2))=_:=q2
 have q3:IntKind.i64.wrap ((a:Int)+IntKind.i64.wrap ((((b - a) / 4:Nat):Int)*3))=_:=q3
 unfold xBT
 rw [w1,w2,q1,q2,q3]
 have e8:(decide (((b - a:Nat):Int)≥8))=true:=decide_eq_true (by omega)
 rw [e8,cond_true]
 have k1:3≤(b - a) / 4:=by omega
 have k2:(b - a) / 4*4≤b - a:=by omega
 clear q q1 q2 q3 w2 t
 generalize (b - a) / 4=q at k1 k2
 by_cases h50:b - a≥50
 ·have e50:(decide (((b - a:Nat):Int)≥50))=true:=decide_eq_true (by omega)
  rw [e50,cond_true]
  obtain⟨m1,s1,e1,h1⟩:=xM8 N 0 (x:=((a+q*1:Nat):Int)) (d:=d) rfl (by omega) (by omega) hs
  rw [e1]
  simp only [jS]
  obtain⟨m2,s2,e2,h2⟩:=xM8 N s1 (x:=((a+q*2:Nat):Int)) (d:=d) rfl (by omega) (by omega) hs
  rw [e2]
  simp only [jS]
  obtain⟨m3,s3,e3,h3⟩:=xM8 N s2 (x:=((a+q*3:Nat):Int)) (d:=d) rfl (by omega) (by omega) hs
  rw [e3]
  simp only [jS]
  obtain⟨m4,s4,e4,h4⟩:=xM9 N s3 (x:=(m1:Int)) (y:=(m2:Int)) (z:=(m3:Int)) (d:=d) rfl rfl rfl (by omega) (by omega) (by omega)
  rw [e4]
  simp only [jS]
  have hm:a≤m4∧m4<b:=by omega
  generalize (s4==(0:Int))=c1
  generalize (s4==(12:Int))=c2
  cases c1 <;>cases c2 <;>exact⟨m4,_,rfl,hm⟩
 ·have e50:(decide (((b - a:Nat):Int)≥50))=false:=decide_eq_false (by omega)
  rw [e50,cond_false]
  obtain⟨m4,s4,e4,h4⟩:=xM9 N 0 (x:=((a+q*1:Nat):Int)) (y:=((a+q*2:Nat):Int)) (z:=((a+q*3:Nat):Int)) (d:=d) rfl rfl rfl (by omega) (by omega) (by omega)
  rw [e4]
  simp only [jS]
  have hm:a≤m4∧m4<b:=by omega
  generalize (s4==(0:Int))=c1
  generalize (s4==(12:Int))=c2
  cases c1 <;>cases c2 <;>exact⟨m4,_,rfl,hm⟩
theorem xLS{x:Int}(h1:0≤x)(h2:x<18446744073709551616):IntKind.u64.wrap x=x:=by
 have:IntKind.u64.wrap x=x % 18446744073709551616:=by
  unfold IntKind.wrap
  simp [IntKind.bits,IntKind.signed]
 rw [this]
 exact Int.emod_eq_of_lt h1 h2
theorem xZE{r y:Int}{m:Nat}(hy:y=m)(hm:m<9223372036854775808):∃o:Nat,andI .u64 r y=(o:Int)∧o≤m:=by
 subst hy
 unfold andI
 refine⟨(BitVec.ofInt 64 r &&& BitVec.ofInt 64 (m:Int)).toNat,?_,?_⟩
 ·show IntKind.u64.wrap (((BitVec.ofInt 64 r &&& BitVec.ofInt 64 (m:Int)).toNat:Nat):Int)=_
  refine xLS (by omega) ?_
  have:=(BitVec.ofInt 64 r &&& BitVec.ofInt 64 (m:Int)).isLt
  omega
 ·rw [BitVec.toNat_and]
  refine Nat.le_trans Nat.and_le_right ?_
  rw [BitVec.toNat_ofInt]
  omega
theorem brk6(N:Nat){a b M:Nat}(hl:12<b - a)(hM:M≤2*(b - a))(hM0:0<M):∀(m idx n:Nat) (st:Int) (d:Array Org),a+(b - a) / 4*2+2 - idx=m→a≤idx→b≤d.size→d.size<1152921504606846976→m<n→
 ∃d',xAU N n (a:Int) ((b - a:Nat):Int) (M:Int) (idx:Int) st d.toList=some d'.toList∧PermIn a b d d' :=by
 intro m
 induction m with
 |zero =>
  intro idx n st d hm hidx hb hs hn
  obtain⟨n,rfl⟩:∃m,n=m+1:=⟨n - 1,by omega⟩
  have t:Int.tdiv ((b - a:Nat):Int) 4=(((b - a) / 4:Nat):Int):=rfl
  have w2:IntKind.i64.wrap (Int.tdiv ((b - a:Nat):Int) 4)=(((b - a) / 4:Nat):Int):=by rw [t];exact wn _ rfl (by omega)
  have w3:IntKind.i64.wrap ((((b - a) / 4:Nat):Int)*2)=(((b - a) / 4*2:Nat):Int):=wn _ (by simp) (by omega)
  have w4:IntKind.i64.wrap ((a:Int)+(((b - a) / 4*2:Nat):Int))=((a+(b - a) / 4*2:Nat):Int):=wn _ (by simp) (by omega)
  have w5:IntKind.i64.wrap (((a+(b - a) / 4*2:Nat):Int)+1)=((a+(b - a) / 4*2+1:Nat):Int):=wn _ (by simp) (by omega)
  rw [xAU,w2,w3,w4,w5]
  have e:(decide ((idx:Int)≤((a+(b - a) / 4*2+1:Nat):Int)))=false:=decide_eq_false (by omega)
  rw [e,cond_false]
  exact⟨d,rfl,permIn_refl d a b⟩
 |succ m ih =>
  intro idx n st d hm hidx hb hs hn
  obtain⟨n,rfl⟩:∃m,n=m+1:=⟨n - 1,by omega⟩
  have t:Int.tdiv ((b - a:Nat):Int) 4=(((b - a) / 4:Nat):Int):=rfl
  have w2:IntKind.i64.wrap (Int.tdiv ((b - a:Nat):Int) 4)=(((b - a) / 4:Nat):Int):=by rw [t];exact wn _ rfl (by omega)
  have w3:IntKind.i64.wrap ((((b - a) / 4:Nat):Int)*2)=(((b - a) / 4*2:Nat):Int):=wn _ (by simp) (by omega)
  have w4:IntKind.i64.wrap ((a:Int)+(((b - a) / 4*2:Nat):Int))=((a+(b - a) / 4*2:Nat):Int):=wn _ (by simp) (by omega)
  have w5:IntKind.i64.wrap (((a+(b - a) / 4*2:Nat):Int)+1)=((a+(b - a) / 4*2+1:Nat):Int):=wn _ (by simp) (by omega)
  have w6:IntKind.u64.wrap ((M:Int) - 1)=((M - 1:Nat):Int):=by rw [xLS (by omega) (by omega)];omega
  have w7:IntKind.i64.wrap ((idx:Int)+1)=((idx+1:Nat):Int):=wn _ (by omega) (by omega)
  rw [xAU,w2,w3,w4,w5,w6,w7]
  have e:(decide ((idx:Int)≤((a+(b - a) / 4*2+1:Nat):Int)))=true:=decide_eq_true (by omega)
  rw [e,cond_true]
  cases hx:xFk N st with
  |none=>unfold xFk at hx;cases hx
  |some r =>
   rw [jS]
   obtain⟨o,ho1,ho2⟩:=xZE (r:=r.1) (y:=((M - 1:Nat):Int)) (m:=M - 1) rfl (by omega)
   have w8:IntKind.i64.wrap (andI .u64 r.1 ((M - 1:Nat):Int))=(o:Int):=by rw [ho1];exact wn o rfl (by omega)
   rw [w8]
   by_cases hc:o≥b - a
   ·have e2:(decide ((o:Int)≥((b - a:Nat):Int)))=true:=decide_eq_true (by omega)
    have w9:IntKind.i64.wrap ((o:Int) - ((b - a:Nat):Int))=((o - (b - a):Nat):Int):=wn _ (by omega) (by omega)
    have w10:IntKind.i64.wrap ((a:Int)+((o - (b - a):Nat):Int))=((a+(o - (b - a)):Nat):Int):=wn _ (by omega) (by omega)
    rw [e2,cond_true,w9,w10,xDR N rfl rfl (by omega) (by omega) (by omega)]
    obtain⟨d',h1,h2⟩:=ih (idx+1) n r.2 (swp d idx (a+(o - (b - a)))) (by omega) (by omega) (by rw [xCb];exact hb) (by rw [xCb];exact hs) (by omega)
    exact⟨d',h1,permIn_trans _ _ _ a b (swp_permIn d a b idx (a+(o - (b - a))) hidx (by omega) (by omega) (by omega) hb) h2⟩
   ·have e2:(decide ((o:Int)≥((b - a:Nat):Int)))=false:=decide_eq_false (by omega)
    have w10:IntKind.i64.wrap ((a:Int)+(o:Int))=((a+o:Nat):Int):=wn _ (by omega) (by omega)
    rw [e2,cond_false,w10,xDR N rfl rfl (by omega) (by omega) (by omega)]
    obtain⟨d',h1,h2⟩:=ih (idx+1) n r.2 (swp d idx (a+o)) (by omega) (by omega) (by rw [xCb];exact hb) (by rw [xCb];exact hs) (by omega)
    exact⟨d',h1,permIn_trans _ _ _ a b (swp_permIn d a b idx (a+o) hidx (by omega) (by omega) (by omega) hb) h2⟩
theorem xQh{x:Nat}(h0:0<x)(h:x<1152921504606846976):0<Lib.bitLen x∧Lib.bitLen x≤60∧2 ^ Lib.bitLen x≤2*x:=by
 obtain⟨h1,h2,h3⟩:=Lib.bitLenAux_bounds 64 x (by omega) (by omega)
 have h1:1≤Lib.bitLen x:=h1
 have h2:2 ^ (Lib.bitLen x - 1)≤x:=h2
 refine⟨by omega,Lib.bitLen_le x 60 (by omega) (by omega),?_⟩
 obtain⟨k,hk⟩:∃k,Lib.bitLen x=k+1:=⟨Lib.bitLen x - 1,by omega⟩
 rw [hk] at h2 ⊢
 rw [Nat.add_sub_cancel] at h2
 rw [Nat.pow_succ]
 omega
theorem xTn(N:Nat){l:Nat}(h0:0<l)(h:l<1152921504606846976):∃M:Nat,xEY N (l:Int)=some (M:Int)∧0<M∧M≤2*l:=by
 obtain⟨f1,f2,f3⟩:=xQh h0 h
 have w1:IntKind.u64.wrap (l:Int)=(l:Int):=xLS (by omega) (by omega)
 have w2:IntKind.u64.wrap ((Lib.bitLen l:Nat):Int)=((Lib.bitLen l:Nat):Int):=xLS (by omega) (by omega)
 have hp:(2:Nat) ^ Lib.bitLen l<18446744073709551616:=by omega
 unfold xEY xJ0 zFJ
 rw [w1,if_pos (by omega),Option.bind_some,Int.toNat_natCast,w2,if_pos (by omega),Int.toNat_natCast]
 refine⟨2 ^ Lib.bitLen l,?_,Nat.pos_of_ne_zero (by simp),f3⟩
 have e:(1:Int)*2 ^ Lib.bitLen l=((2 ^ Lib.bitLen l:Nat):Int):=by simp
 rw [e]
 generalize (2:Nat) ^ Lib.bitLen l=P at hp
 rw [xLS (by omega) (by omega)]
theorem vCF(N:Nat){a b:Nat}{d:Array Org}(hab:a+12<b)(hb:b≤d.size)(hs:d.size<1152921504606846976)(hN:5<N) :
 ∃d',xBK N (a:Int) (b:Int) d.toList=some d'.toList∧PermIn a b d d' :=by
 have w1:IntKind.i64.wrap ((b:Int) - (a:Int))=((b - a:Nat):Int):=wn _ (by omega) (by omega)
 have t:Int.tdiv ((b - a:Nat):Int) 4=(((b - a) / 4:Nat):Int):=rfl
 have w2:IntKind.i64.wrap (Int.tdiv ((b - a:Nat):Int) 4)=(((b - a) / 4:Nat):Int):=by rw [t];exact wn _ rfl (by omega)
 have w3:IntKind.i64.wrap ((((b - a) / 4:Nat):Int)*2)=(((b - a) / 4*2:Nat):Int):=wn _ (by simp) (by omega)
 have w4:IntKind.i64.wrap ((a:Int)+(((b - a) / 4*2:Nat):Int))=((a+(b - a) / 4*2:Nat):Int):=wn _ (by simp) (by omega)
 have w5:IntKind.i64.wrap (((a+(b - a) / 4*2:Nat):Int) - 1)=((a+(b - a) / 4*2 - 1:Nat):Int):=wn _ (by omega) (by omega)
 unfold xBK
 rw [w1,w2,w3,w4,w5]
 have e8:(decide (((b - a:Nat):Int)≥8))=true:=decide_eq_true (by omega)
 obtain⟨M,m1,m2,m3⟩:=xTn N (l:=b - a) (by omega) (by omega)
 rw [e8,cond_true,m1,Option.bind_some]
 exact brk6 N (by omega) m3 m2 _ _ N _ d rfl (by omega) hb hs (by omega)
def Sorts(a b:Nat)(d:Array Org)(o:Option (List Org)):Prop:=∃d',o=some d'.toList∧PermIn a b d d' ∧SortedIn olt a b d'
theorem Sorts.after{a b:Nat}{d d1:Array Org}{o:Option (List Org)}(h:PermIn a b d d1)(hs:Sorts a b d1 o):Sorts a b d o :=
 hs.elim fun d' ⟨h1,h2,h3⟩=>⟨d',h1,permIn_trans _ _ _ a b h h2,h3⟩
theorem vD7(N:Nat){q:Int→Int→Int→List Org→Option (List Org)}{k:Int→Int→Int→Bool→Bool→List Org→Option (List Org)}{a b p:Nat}(lim x10:Int){d:Array Org}
 (hp1:a≤p) (hp2:p<b) (hb:b≤d.size) (hab:a+12<b) (hs:d.size<1152921504606846976) (hN:d.size<N) (hB:Below olt a b d)
 (hq:∀(a' b' :Nat) (d' :Array Org),b' - a' <b - a→a' ≤b' →b' ≤d'.size→d'.size=d.size→Below olt a' b' d' →Sorts a' b' d' (q (a' :Int) (b' :Int) lim d'.toList))
 (hk:∀(a' b' :Nat) (wb wp:Bool) (d' :Array Org),b' - a' <b - a→a' ≤b' →b' ≤d'.size→d'.size=d.size→Below olt a' b' d' →Sorts a' b' d' (k (a' :Int) (b' :Int) lim wb wp d'.toList)) :
 Sorts a b d (xBW N q k (a:Int) (b:Int) lim x10 (p:Int) d.toList):=by
 unfold xBW
 rw [vCv N hp1 hp2 hb (by omega) (by omega) hs hN,Option.bind_some]
 obtain⟨mid,ap,d4,hx⟩:∃mid ap d4,partition olt d a b p=(mid,ap,d4):=⟨_,_,_,rfl⟩
 rw [hx]
 obtain⟨g1,g2,hs4,hBa,hBr,hleft,hright⟩:=round_part xJw (partition_holds olt) hp1 hp2 hb hB hx
 dsimp only
 have w1:IntKind.i64.wrap ((mid:Int) - (a:Int))=((mid - a:Nat):Int):=wn _ (by omega) (by omega)
 have w2:IntKind.i64.wrap ((b:Int) - (mid:Int))=((b - mid:Nat):Int):=wn _ (by omega) (by omega)
 have w3:IntKind.i64.wrap ((mid:Int)+1)=((mid+1:Nat):Int):=wn _ (by omega) (by omega)
 rw [w1,w2,w3]
 cases decide (((mid - a:Nat):Int)<((b - mid:Nat):Int)) with
 |true =>
  rw [jT]
  obtain⟨L,l1,l2,l3⟩:=hq a mid d4 (by omega) g1 (by omega) hs4 hBa
  rw [l1,Option.bind_some]
  obtain⟨hBL,hfin⟩:=hleft L l2 l3
  obtain⟨R,r1,r2,r3⟩:=hk (mid+1) b (decide (((mid - a:Nat):Int)≥IntKind.i64.wrap (Int.tdiv x10 8))) ap L (by omega) (by omega) (by rw [l2.1];omega) (by rw [l2.1];exact hs4) hBL
  exact⟨R,r1,hfin R r2 r3⟩
 |false =>
  rw [jF]
  obtain⟨L,l1,l2,l3⟩:=hq (mid+1) b d4 (by omega) (by omega) (by omega) hs4 hBr
  rw [l1,Option.bind_some]
  obtain⟨hBL,hfin⟩:=hright L l2 l3
  obtain⟨R,r1,r2,r3⟩:=hk a mid (decide (((b - mid:Nat):Int)≥IntKind.i64.wrap (Int.tdiv x10 8))) ap L (by omega) g1 (by rw [l2.1];omega) (by rw [l2.1];exact hs4) hBL
  exact⟨R,r1,hfin R r2 r3⟩
theorem vD6(N:Nat){q:Int→Int→Int→List Org→Option (List Org)}{k:Int→Int→Int→Bool→Bool→List Org→Option (List Org)}{a b p:Nat}(lim x10:Int)(wb wp:Bool){d:Array Org}
 (hp1:a≤p) (hp2:p<b) (hb:b≤d.size) (hab:a+12<b) (hs:d.size<1152921504606846976) (hN:d.size<N) (hB:Below olt a b d)
 (hq:∀(a' b' :Nat) (d' :Array Org),b' - a' <b - a→a' ≤b' →b' ≤d'.size→d'.size=d.size→Below olt a' b' d' →Sorts a' b' d' (q (a' :Int) (b' :Int) lim d'.toList))
 (hk:∀(a' b' :Nat) (wb wp:Bool) (d' :Array Org),b' - a' <b - a→a' ≤b' →b' ≤d'.size→d'.size=d.size→Below olt a' b' d' →Sorts a' b' d' (k (a' :Int) (b' :Int) lim wb wp d'.toList)) :
 Sorts a b d (xA8 N q k (a:Int) (b:Int) lim wb wp x10 (p:Int) d.toList):=by
 unfold xA8
 by_cases ha:0<a
 ·have e:(decide ((a:Int)>0))=true:=decide_eq_true (by omega)
  have w1:IntKind.i64.wrap ((a:Int) - 1)=((a - 1:Nat):Int):=wn _ (by omega) (by omega)
  rw [e,cond_true,w1,xFh N rfl rfl (by omega) (by omega)]
  dsimp only
  cases hl:olt d[a - 1]! d[p]! with
  |true=>rw [Bool.not_true,cond_false];exact vD7 N lim x10 hp1 hp2 hb hab hs hN hB hq hk
  |false =>
   rw [Bool.not_false,cond_true,xUW N hp1 hp2 hb (by omega) (by omega) hs hN,Option.bind_some]
   obtain⟨mid,d4,hx⟩:∃mid d4,partitionEqual olt d a b p=(mid,d4):=⟨_,_,rfl⟩
   rw [hx]
   obtain⟨g1,g2,hs4,hB4,hfin⟩:=round_eq xJw (partitionEqual_holds olt) ha hp1 hp2 hb hB hl hx
   obtain⟨R,r1,r2,r3⟩:=hk mid b wb wp d4 (by omega) g2 (by omega) hs4 hB4
   exact⟨R,r1,hfin R r2 r3⟩
 ·have e:(decide ((a:Int)>0))=false:=decide_eq_false (by omega)
  rw [e,cond_false];exact vD7 N lim x10 hp1 hp2 hb hab hs hN hB hq hk
theorem vD5(N:Nat){q:Int→Int→Int→List Org→Option (List Org)}{k:Int→Int→Int→Bool→Bool→List Org→Option (List Org)}{a b p:Nat}(lim x10 x12:Int)(wb wp:Bool){d:Array Org}
 (hp1:a≤p) (hp2:p<b) (hb:b≤d.size) (hab:a+12<b) (hs:d.size<1152921504606846976) (hN:d.size+10<N) (hB:Below olt a b d)
 (hq:∀(a' b' :Nat) (d' :Array Org),b' - a' <b - a→a' ≤b' →b' ≤d'.size→d'.size=d.size→Below olt a' b' d' →Sorts a' b' d' (q (a' :Int) (b' :Int) lim d'.toList))
 (hk:∀(a' b' :Nat) (wb wp:Bool) (d' :Array Org),b' - a' <b - a→a' ≤b' →b' ≤d'.size→d'.size=d.size→Below olt a' b' d' →Sorts a' b' d' (k (a' :Int) (b' :Int) lim wb wp d'.toList)) :
 Sorts a b d (xBV N q k (a:Int) (b:Int) lim wb wp x10 (p:Int) x12 d.toList):=by
 have go:=vD6 N lim x10 wb wp hp1 hp2 hb hab hs (by omega) hB hq hk
 unfold xBV
 cases wb with
 |false=>exact go
 |true =>
  cases wp with
  |false=>exact go
  |true =>
   simp only [jT]
   cases (x12:Int)==1 with
   |false=>exact go
   |true =>
    rw [jT,vCx N (by omega) hb (by omega) hs hN,Option.bind_some]
    obtain⟨i1,i2⟩:=partialInsertionSort_holds xJw d a b (by omega) hb hB
    dsimp only
    cases hc:(partialInsertionSort olt d a b).2 with
    |true=>exact⟨_,rfl,i1,i2 hc⟩
    |false =>
     rw [jF]
     refine Sorts.after i1 ?_
     exact vD6 N lim x10 true true hp1 hp2 (by rw [i1.1];exact hb) hab (by rw [i1.1];exact hs) (by rw [i1.1];omega) (hB.perm hb i1) (fun a' b' d' g1 g2 g3 g4=>hq a' b' d' g1 g2 g3 (g4.trans i1.1)) (fun a' b' wb wp d' g1 g2 g3 g4=>hk a' b' wb wp d' g1 g2 g3 (g4.trans i1.1))
theorem vD4(N:Nat){q:Int→Int→Int→List Org→Option (List Org)}{k:Int→Int→Int→Bool→Bool→List Org→Option (List Org)}{a b:Nat}(lim x10:Int)(wb wp:Bool){d:Array Org}
 (hb:b≤d.size) (hab:a+12<b) (hs:d.size<1152921504606846976) (hN:d.size+10<N) (hB:Below olt a b d)
 (hq:∀(a' b' :Nat) (d' :Array Org),b' - a' <b - a→a' ≤b' →b' ≤d'.size→d'.size=d.size→Below olt a' b' d' →Sorts a' b' d' (q (a' :Int) (b' :Int) lim d'.toList))
 (hk:∀(a' b' :Nat) (wb wp:Bool) (d' :Array Org),b' - a' <b - a→a' ≤b' →b' ≤d'.size→d'.size=d.size→Below olt a' b' d' →Sorts a' b' d' (k (a' :Int) (b' :Int) lim wb wp d'.toList)) :
 Sorts a b d (xBU N q k (a:Int) (b:Int) lim wb wp x10 d.toList):=by
 unfold xBU
 obtain⟨p,h,e,hp1,hp2⟩:=xTx N hab hb hs
 rw [e,Option.bind_some]
 dsimp only
 cases h==(2:Int) with
 |false=>rw [jF];exact vD5 N lim x10 h wb wp hp1 hp2 hb hab hs hN hB hq hk
 |true =>
  have i1:=reverseRange_holds d a b (by omega) hb
  have w1:IntKind.i64.wrap ((b:Int) - 1)=((b - 1:Nat):Int):=wn _ (by omega) (by omega)
  have w2:IntKind.i64.wrap ((p:Int) - (a:Int))=((p - a:Nat):Int):=wn _ (by omega) (by omega)
  have w3:IntKind.i64.wrap (((b - 1:Nat):Int) - ((p - a:Nat):Int))=((b - 1 - (p - a):Nat):Int):=wn _ (by omega) (by omega)
  rw [jT,vD9 N (by omega) hb (by omega) hs (by omega),Option.bind_some,w1,w2,w3]
  refine Sorts.after i1 ?_
  exact vD5 N lim x10 1 wb wp (by omega) (by omega) (by rw [i1.1];exact hb) hab (by rw [i1.1];exact hs) (by rw [i1.1];omega) (hB.perm hb i1) (fun a' b' d' g1 g2 g3 g4=>hq a' b' d' g1 g2 g3 (g4.trans i1.1)) (fun a' b' wb wp d' g1 g2 g3 g4=>hk a' b' wb wp d' g1 g2 g3 (g4.trans i1.1))
theorem pdq3(N:Nat):∀(m a b n dep:Nat) (lim:Int) (wb wp:Bool) (d:Array Org),b - a=m→a≤b→b≤d.size→2≤d.size→d.size<1152921504606846976→m<n→m≤dep→d.size+10<N→Below olt a b d→
 Sorts a b d (xBe N (xA9 N dep) n (a:Int) (b:Int) lim wb wp d.toList):=by
 intro m
 induction m using Nat.strongRecOn with
 |_ m ih =>
  intro a b n dep lim wb wp d hm hab hb h2 hs hn hdep hN hB
  obtain⟨n,rfl⟩:∃m,n=m+1:=⟨n - 1,by omega⟩
  have w1:IntKind.i64.wrap ((b:Int) - (a:Int))=((b - a:Nat):Int):=wn _ (by omega) (by omega)
  rw [xBe,w1]
  by_cases h12:b - a≤12
  ·have e:(decide (((b - a:Nat):Int)≤12))=true:=decide_eq_true (by omega)
   rw [e,cond_true,vDR N hab hb h2 hs (by omega),Option.bind_some]
   exact⟨_,rfl,insertionSort_holds xJw d a b hab hb⟩
  ·have e:(decide (((b - a:Nat):Int)≤12))=false:=decide_eq_false (by omega)
   rw [e,cond_false]
   cases (lim==(0:Int)) with
   |true =>
    rw [jT,xZS N (by omega) hb h2 hs (by omega),Option.bind_some]
    exact⟨_,rfl,heapSort_holds xJw d a b hab hb⟩
   |false =>
    rw [jF]
    have hq:∀(lim:Int) (a' b' :Nat) (d' :Array Org),b' - a' <b - a→a' ≤b' →b' ≤d'.size→d'.size=d.size→Below olt a' b' d' →Sorts a' b' d' (xA9 N dep (a' :Int) (b' :Int) lim d'.toList):=by
     intro lim a' b' d' g1 g2 g3 g4 g5
     obtain⟨dep,rfl⟩:∃m,dep=m+1:=⟨dep - 1,by omega⟩
     rw [xA9]
     exact ih (b' - a') (by omega) a' b' N dep lim true true d' rfl g2 g3 (by omega) (by omega) (by omega) (by omega) (by omega) g5
    have hk:∀(lim:Int) (a' b' :Nat) (wb wp:Bool) (d' :Array Org),b' - a' <b - a→a' ≤b' →b' ≤d'.size→d'.size=d.size→Below olt a' b' d' →Sorts a' b' d' (xBe N (xA9 N dep) n (a' :Int) (b' :Int) lim wb wp d'.toList) :=
     fun lim a' b' wb wp d' g1 g2 g3 g4 g5=>ih (b' - a') (by omega) a' b' n dep lim wb wp d' rfl g2 g3 (by omega) (by omega) (by omega) (by omega) (by omega) g5
    cases wb with
    |true=>exact vD4 N lim _ true wp hb (by omega) hs hN hB (hq lim) (hk lim)
    |false =>
     obtain⟨d1,e1,i1⟩:=vCF N (a:=a) (b:=b) (d:=d) (by omega) hb hs (by omega)
     rw [Bool.not_false,cond_true,e1,Option.bind_some]
     refine Sorts.after i1 ?_
     exact vD4 N _ _ false wp (by rw [i1.1];exact hb) (by omega) (by rw [i1.1];exact hs) (by rw [i1.1];exact hN) (hB.perm hb i1)
      (fun a' b' d' g1 g2 g3 g4=>hq _ a' b' d' g1 g2 g3 (g4.trans i1.1)) (fun a' b' wb wp d' g1 g2 g3 g4=>hk _ a' b' wb wp d' g1 g2 g3 (g4.trans i1.1))
theorem xUX{xs:List Org}(h2:2≤xs.length)(hs:xs.length<1152921504606846976)(lim:Int) :
 xDC (xs.length+11) 0 (xs.length:Int) lim xs=some (xs.mergeSort fun x y=> !olt y x):=by
 have h:=pdq3 (xs.length+11) xs.length 0 xs.length (xs.length+11) (xs.length+10) lim true true xs.toArray rfl (Nat.zero_le _) (by simp) (by simpa using h2) (by simpa using hs) (by omega) (by omega) (by simp) (.inl rfl)
 obtain⟨d',e,h1,h3⟩:=h
 have hu:=sorted_unique_holds (lt:=olt) xJw xO8 xs.toArray d' (by simpa using h1) (by simpa using h3)
 rw [show xDC (xs.length+11) 0 (xs.length:Int) lim xs=_ from e,hu]
end Go.Ab
end
section
namespace Go.Ab
open Go.Proofs Go.RowKit Go.Shelf
theorem orgT:OrgT Tryz.prog 80 3 78 4 43:=⟨Tryz.underlying80,by kernel_rfl,Tryz.underlying3,Tryz.underlying78,Tryz.zeroValue4,Tryz.underlying43⟩
theorem vFd:(Tryz.prog.info? 80).map (fun i=>(i.zero,i.size,i.bytes))=some (some (.agg #[.int .i64 0, .int .i64 0]),2,16):=by kernel_rfl
set_option maxRecDepth 100000 in
set_option maxHeartbeats 4000000 in
theorem xTr [Inhabited Lb](srt:List Org→List Org)(hsl:∀l,(srt l).length=l.length)(xs ys:List Org)(u v:Value)(w:World)(hu:RowIn w u xs)(hv:RowIn w v ys)(hlen:xs.length+ys.length≤1000000000000)
 (hsort:∀(W:World) (g cap:Nat) (zs:List Org),zs.length≤1000000000000→Below w.heap.size w W→w.heap.size≤g→w.heap.size+1+1≠g→W.heap[w.heap.size+1+1]? =some (.cells #[.slice (some ⟨g,0,none⟩) zs.length cap] 43 (0,0))→OrgRow W g cap zs→
   Calls Tryz.prog 63 #[.iface 43 (.slice (some ⟨g,0,none⟩) zs.length cap), .func (.func 64) #[] #[.pointer (some ⟨w.heap.size+1+1,0,none⟩)]] W fun en W' =>en= .returned (.tuple #[])∧Sorted W (w.heap.size+1+1) g cap zs (srt zs) W') :
 Calls Tryz.prog 20 #[u,v] w fun e w' =>∃br cap,e= .returned (.slice (some ⟨br,0,none⟩) (srt (ded (xs++ys))).length cap)∧Below w.heap.size w w' ∧w.heap.size≤br∧OrgRow w' br cap (srt (ded (xs++ys))):=by
 obtain⟨i0,hi,hz0,hz1,hz2⟩:=info_parts vFd
 have hmm:= @run_makeMap Tryz.prog
 go_enter Tryz.func20,Tryz.ntmps20
 go_wp2_with (first
  |(at_builtin;refine xIl _ orgT rfl _ _ rfl i0 hi hz0 hz1 hz2 rfl (w.heap.size+1+1+1) 0 [] rfl (set4 w _ _ _ 80) u rfl xs (hu.below (xTv w _ _ _ _)) (by simp;omega) ?_;intro g1 c1 w1 r1 gr1 e1)
  |(at_builtin;refine xIl _ orgT rfl _ _ rfl i0 hi hz0 hz1 hz2 rfl g1 c1 ([]++xs) rfl r1 v rfl ys (hv.below (Below.grown (xTv w _ _ _ _) gr1 (by simp;omega) (fun k hk=>by cases hk;omega))) (by simpa using hlen) ?_;intro g2 c2 w2 r2 gr2 e2))
 have hst:=URel.start r2 gr1 e1 gr2 e2
 have hl2:(xs++ys).length=xs.length+ys.length:=List.length_append
 clear r1 gr1 e1 r2 gr2 e2 hu hv
 go_loopw [17] (fun i wr=>∃k g cap:Nat,k≤xs.length+ys.length∧i= .int .i64 k∧URel w 80 43 w.heap.size w2.heap.size g2 c2 (xs++ys) k g cap wr) (fun i _=>xs.length+ys.length - (intOf i).toNat)
 case atStart=>exact⟨0,_,_,Nat.zero_le _,rfl,hst⟩
 case round =>
  obtain⟨k,g,cap,hk,rfl,hr⟩:=hrel
  clear hst
  by_cases hlt:k<xs.length+ys.length
  ·obtain⟨c,hc⟩:∃c,(xs++ys)[k]'(by omega)=c:=⟨_,rfl⟩
   have hc0:wr.cell? ⟨g2,k*2,none⟩=some (.int .i64 c.cell):=by
    have:=hr.all.cell (xNp (xs++ys) k (by omega) 0 (by decide))
    rw [hc] at this
    exact this
   have hc1:wr.cell? ⟨g2,k*2+1,none⟩=some (.int .i64 c.row):=by
    have:=hr.all.cell (xNp (xs++ys) k (by omega) 1 (by decide))
    rw [hc] at this
    exact this
   have hcb:=hr.cell
   have hgl:=hr.row.lt
   have hsz:=hr.size
   have hga:=hr.hga
   have hgg:=hr.hg
   cases hct:(ded ((xs++ys).take k)).contains c with
   |true =>
    go_wp2_with (at_lookup;refine xJT _ orgT rfl _ _ rfl w.heap.size (ded ((xs++ys).take k)) rfl (hr.set.kept (xIy (by omega))) c rfl true hct ?_)
    go_roundw
    case rel=>exact⟨k+1,g,cap,by omega,by go_num,hr.old (by omega) (by rw [hc];exact hct) _⟩
    case measure=>simp [intOf];omega
   |false =>
    go_wp2_with (first
     |(at_lookup;refine xJT _ orgT rfl _ _ rfl w.heap.size (ded ((xs++ys).take k)) rfl (hr.set.kept (xIy (by omega))) c rfl false hct ?_)
     |(at_mapUpdate;refine xMi _ orgT rfl _ _ _ rfl w.heap.size (ded ((xs++ys).take k)) rfl (hr.set.kept (xIy (by omega))) c rfl rfl hct ?_;intro w3 hs3 hg3 hz3;obtain⟨m1,m2,m3,m4⟩:=hr.mid hg3 hz3)
     |(at_builtin;refine xIl _ orgT rfl _ _ rfl i0 hi hz0 hz1 hz2 rfl g cap (ded ((xs++ys).take k)) rfl (m4 _) (.slice (some ⟨wr.heap.size+1,0,none⟩) 1 1) rfl [c] (by have h:=xUY w3 80 c;rw [hz3,xHs] at h;exact h) (by have:=xZu ((xs++ys).take k);simp at this ⊢;omega) ?_;intro g' cap' w4 r4 g4 e4;obtain⟨n1,n2⟩:=hr.mid4 hg3 hz3 g4))
    go_roundw
    case rel=>exact⟨k+1,g',cap',by omega,by go_num,by
     have:=hr.new (by omega) (by rw [hc];exact hct) (by rw [hc];exact hs3) hg3 hz3 (by rw [hc];exact r4) g4 e4
     rw [hc] at this
     simpa using this⟩
    case measure=>simp [intOf];omega
  ·have hk2:k=(xs++ys).length:=by omega
   have ht:(xs++ys).take k=xs++ys:=by rw [hk2];exact List.take_length
   have hcb:=hr.cell
   have hsz:=hr.size
   have hga:=hr.hga
   have hgg:=hr.hg
   have hs:=hsort wr g cap (ded (xs++ys)) (by have:=xZu (xs++ys);omega) hr.below (by omega) (by omega) (by have:=hr.box;rw [ht] at this;exact this) (by have:=hr.row.org;rw [ht] at this;exact this)
   have hgr:=hr.below
   rw [ht] at hcb
   clear hr hsort
   go_wp2_with (go_at_call 63;refine hs.mono ?_;rintro e W' ⟨rfl,hS⟩;obtain⟨ty',hbx⟩:=hS.box;have hcb2:W'.cell? ⟨w.heap.size+1+1,0,none⟩=some (.slice (some ⟨g,0,none⟩) (ded (xs++ys)).length cap):=by(simp only [World.cell?,hbx];rfl))
   go_ret
   exact⟨g,cap,by rw [hsl];rfl,hgr.trans ⟨hS.os,hS.tape,hS.output,hS.size,fun k hk=>hS.old k (by have:=hgr.size;omega) (by omega) (by omega)⟩,by omega,hS.row⟩
theorem vFe:∀w,(Extern.Rtype.kind 80).run Tryz.prog w= .ok 25 w:=by intro w;kernel_rfl
theorem vFb:(Tryz.prog.info? 43).map (fun i=>i.desc)=some (.slice 80):=by kernel_rfl
theorem vFj:(Tryz.prog.info? 80).map (fun i=>(i.hasPointers,i.bytes))=some (false,16):=by kernel_rfl
theorem vFg:Tryz.prog.packed 43=false:=by kernel_rfl
theorem sw1:Tryz.prog.funcs.findIdx? (·.name== "internal/reflectlite" ++ ".Swapper$1")=some 133:=by kernel_rfl
theorem sw2:Tryz.prog.funcs.findIdx? (·.name== "internal/reflectlite" ++ ".Swapper$2")=some 134:=by kernel_rfl
theorem sw9:Tryz.prog.funcs.findIdx? (·.name== "internal/reflectlite" ++ ".Swapper$9")=some 141:=by kernel_rfl
theorem xZR:typeHandle Tryz.prog 80= .pointer (some ⟨0,80,none⟩):=by kernel_rfl
theorem xZq [Inhabited Lb]{a0 a1 r:List Org}(h:zJr a0 a1=some r):AbsCalls Tryz.prog 20 (xFt a0 a1) (xCF r):=by
 obtain⟨i,hi,hd⟩:=Option.map_eq_some_iff.1 vFb
 obtain⟨ie,hie,he⟩:=Option.map_eq_some_iff.1 vFj
 simp only [Prod.mk.injEq] at he
 refine xTN (enters_of Tryz.func20 (by kernel_rfl) rfl) (fun xs ys u v w hu hv hlen hb=>xTr (fun l=>l.mergeSort fun x y=> !olt y x) (fun l=>by simp) xs ys u v w hu hv hlen fun W g cap zs hz hB hg hne hbo hrow=> ?_) h
 refine vCz Tryz.laysGg6 43 80 i ie hi hd vFg hie 25 vFe he.1 he.2 133 134 141 64 sw1 sw2 sw9 (fun l h2 hl=> ?_) hz hbo hrow hne (fun x hx=> ?_)
 ·rw [xZR]
  exact T.sort_pdqsort_func_cUnionOrigins_1_ok (xUX h2 (by omega) (Lib.bitLen l.length))
 ·obtain⟨b1,b2⟩:=hb x hx
  exact⟨Nat.lt_of_lt_of_le b1 hB.size,by omega,by omega,(hB.block _ b1).trans b2⟩
end Go.Ab
end
section
open Go.Proofs
namespace Go.Ab.T
set_option maxRecDepth 100000
variable [Inhabited Lb]
noncomputable def I120:Info:= { body:=(Tryz.f120.body).getD .skip,nt:=15,results:= [.tmp 6],keep:= [0,2,4,12],live:= [],modes:= [(1, [(3, .take,false)])] }
theorem xZN:FnOk Tryz.prog 120 Tryz.f120 I120:=⟨Tryz.func120,by kernel_rfl,by kernel_rfl,by kernel_rfl,by kernel_rfl⟩
def xWz(a0 a1 a2:Int):rE I120 (xFI a0 a1 a2) [Y] []=dn (xDL (dc (a0≤a2))) [iY (dc (a0≥a1))]:=by kernel_rfl
def xWA(a0 a1 a2:Int):rE I120 (xFI a0 a1 a2) [F] []=dn (xDL false) [iN (dc (a0≥a1))]:=by kernel_rfl
theorem vC4{N:Nat}:∀a0 a1 a2 r,xIZ N a0 a1 a2=some r→RE Tryz.f120 I120 (xFI a0 a1 a2) (xDL r):=fun a0 a1 a2 r h =>
 cE h (fun h0 h=>dE h xZN (xWz a0 a1 a2) (oc h0 on)) fun h0 h =>
 dE h xZN (xWA a0 a1 a2) (oc h0 on)
theorem xJi{N:Nat}{a0:Int}{a1:Int}{a2:Int}{r:Bool}(h:xIZ N  a0 a1 a2=some r):AbC 120 (xFI a0 a1 a2) (xDL r) :=
 AbsCalls.of_reach xZN rfl rfl rfl (Nat.le_of_ble_eq_true rfl) (vC4 a0 a1 a2 r h)
noncomputable def I80:Info:= { body:=(Tryz.f80.body).getD .skip,nt:=5,results:= [.tmp 2],keep:= [0,4],live:= [],modes:= [] }
theorem fk80:FnOk Tryz.prog 80 Tryz.f80 I80:=⟨Tryz.func80,by kernel_rfl,by kernel_rfl,by kernel_rfl,by kernel_rfl⟩
def vBP(a0:Int)(r1:Bool):rE I80 (xDo a0) [] [xDL r1]=dn (xBR r1) [AbC 120 (xFI a0 (-1000000000) 1000000000) (xDL r1)]:=by kernel_rfl
theorem vEU{N:Nat}:∀a0 r,xFo N a0=some r→RE Tryz.f80 I80 (xDo a0) (xBR r):=fun a0 r h =>
 bE h fun r1 h0 h=>dE h fk80 (vBP a0 r1) (oc (xJi h0) on)
theorem xFe{N:Nat}{a0:Int}{r:Bool}(h:xFo N  a0=some r):AbC 80 (xDo a0) (xBR r) :=
 AbsCalls.of_reach fk80 rfl rfl rfl (Nat.le_of_ble_eq_true rfl) (vEU a0 r h)
noncomputable def I117:Info:= { body:=(Tryz.f117.body).getD .skip,nt:=29,results:= [.tmp 2],keep:= [0,4,6,14,50],live:= [(2, [0,6])],modes:= [(4, [(4, .take,false),(10, .take,false)])] }
theorem xRz:FnOk Tryz.prog 117 Tryz.f117 I117:=⟨Tryz.func117,by kernel_rfl,by kernel_rfl,by kernel_rfl,by kernel_rfl⟩
def xMl(x0:Str)(x3:Int):St:= [(0, .v false [.str x0]),(6, .v false [.int .i64 x3])]
abbrev xFj(v0:Int)(v1:Str):Prop:=iY (dc (v0<(Ln v1:Int)))
abbrev xBn(v0:Int)(v1:Str):Prop:=(0:Int)≤v0∧v0<(Ln v1)
abbrev xRP(v0:Str)(v1:Int):=dc ((((gD v0 (tN v1) 0).toNat:Int):Int)<32)
def xV2(x0:Str)(x3:Int):rS 2 I117 (xMl x0 x3) [Y,Y,Y,Y] []=dn (xCz false) [xFj x3 x0,xBn x3 x0,iY (xRP x0 x3),iY true,iY true]:=by kernel_rfl
abbrev xOq(v0:Str)(v1:Int):Prop:=iN (xRP v0 v1)
abbrev xRQ(v0:Str)(v1:Int):=dc ((((gD v0 (tN v1) 0).toNat:Int):Int)>126)
def xV3(x0:Str)(x3:Int):rS 2 I117 (xMl x0 x3) [Y,F,Y,Y] []=dn (xCz false) [xFj x3 x0,xBn x3 x0,xOq x0 x3,xBn x3 x0,iY (xRQ x0 x3),iY true]:=by kernel_rfl
abbrev xSw(v0:Str)(v1:Int):Prop:=iN (xRQ v0 v1)
abbrev xOV(v0:Str)(v1:Int):=(((gD v0 (tN v1) 0).toNat:Int):Int)==34
def xV4(x0:Str)(x3:Int):rS 2 I117 (xMl x0 x3) [Y,F,F,Y] []=dn (xCz false) [xFj x3 x0,xBn x3 x0,xOq x0 x3,xBn x3 x0,xSw x0 x3,xBn x3 x0,iY (xOV x0 x3)]:=by kernel_rfl
def xV5(x0:Str)(x3:Int):rS 2 I117 (xMl x0 x3) [Y,F,F,F] []=st 2 I117 (xMl x0 (W (x3+1))) [xFj x3 x0,xBn x3 x0,xOq x0 x3,xBn x3 x0,xSw x0 x3,xBn x3 x0,iN (xOV x0 x3)]:=by kernel_rfl
def xV6(x0:Str)(x3:Int):rS 2 I117 (xMl x0 x3) [F] []=dn (xCz (dc ((Ln x0:Int)≤20))) [iN (dc (x3<(Ln x0:Int)))]:=by kernel_rfl
def xV7(a0:Str):rE I117 (xFV a0) [] []=st 2 I117 (xMl a0 0) []:=by kernel_rfl
theorem vCX{N:Nat}:∀n x0 x3 r,xCU N n x0 x3=some r→RS Tryz.f117 I117 2 (xMl x0 x3) (xCz r):=by
 intro n
 induction n with
 |zero=>exact fun _ _ _ h=>nE h
 |succ n ih =>
  exact fun x0 x3 r h =>
   cE h (fun h0 h=>iE h fun h1 h=>cE h (fun h2 h=>dS h xRz (xV2 x0 x3) (oc5 h0 h1 h2 rfl rfl on)) fun h2 h =>
   cE h (fun h4 h=>dS h xRz (xV3 x0 x3) (oc6 h0 h1 h2 h1 h4 rfl on)) fun h4 h =>
   cE h (fun h6 h=>dS h xRz (xV4 x0 x3) (oc7 h0 h1 h2 h1 h4 h1 h6 on)) fun h6 h =>
   tS xRz (xV5 x0 x3) (oc7 h0 h1 h2 h1 h4 h1 h6 on) (ih _ _ _ h)) fun h0 h =>
   dS h xRz (xV6 x0 x3) (oc h0 on)
theorem vCY{N:Nat}:∀a0 r,xG6 N a0=some r→RE Tryz.f117 I117 (xFV a0) (xCz r):=fun a0 r h =>
 tE xRz (xV7 a0) on (vCX _ _ _ _ h)
theorem xLh{N:Nat}{a0:Str}{r:Bool}(h:xG6 N  a0=some r):AbC 117 (xFV a0) (xCz r) :=
 AbsCalls.of_reach xRz rfl rfl rfl (Nat.le_of_ble_eq_true rfl) (vCY a0 r h)
noncomputable def I158:Info:= { body:=(Tryz.f158.body).getD .skip,nt:=16,results:= [.tmp 2],keep:= [0,2,4,3],live:= [],modes:= [(1, [(3, .take,false),(8, .take,false)])] }
theorem xVa:FnOk Tryz.prog 158 Tryz.f158 I158:=⟨Tryz.func158,by kernel_rfl,by kernel_rfl,by kernel_rfl,by kernel_rfl⟩
abbrev xMr(v0:Val):Prop:=iY ((Val.kind v0)==1)
def xWX(a0:Val):rE I158 (xEG a0) [Y,Y] []=dn (xC2 true) [xMr a0,iY true]:=by kernel_rfl
abbrev xCO(v0:Val):Prop:=iN ((Val.kind v0)==1)
abbrev xLA(v0:Val):Prop:=iY ((Val.kind v0)==2)
def xWY(a0:Val):rE I158 (xEG a0) [F,Y] []=dn (xC2 true) [xCO a0,xLA a0]:=by kernel_rfl
abbrev xDB(v0:Val):Prop:=iN ((Val.kind v0)==2)
def xWZ(a0:Val):rE I158 (xEG a0) [F,F] []=dn (xC2 ((Val.kind a0)==3)) [xCO a0,xDB a0]:=by kernel_rfl
theorem vDi{N:Nat}:∀a0 r,xH3 N a0=some r→RE Tryz.f158 I158 (xEG a0) (xC2 r):=fun a0 r h =>
 cE h (fun h0 h=>dE h xVa (xWX a0) (oc2 h0 rfl on)) fun h0 h =>
 cE h (fun h1 h=>dE h xVa (xWY a0) (oc2 h0 h1 on)) fun h1 h =>
 dE h xVa (xWZ a0) (oc2 h0 h1 on)
theorem xHV{N:Nat}{a0:Val}{r:Bool}(h:xH3 N  a0=some r):AbC 158 (xEG a0) (xC2 r) :=
 AbsCalls.of_reach xVa rfl rfl rfl (Nat.le_of_ble_eq_true rfl) (vDi a0 r h)
noncomputable def I173:Info:= { body:=(Tryz.f173.body).getD .skip,nt:=10,results:= [.tmp 4],keep:= [0,2,8,14],live:= [],modes:= [] }
theorem xZQ:FnOk Tryz.prog 173 Tryz.f173 I173:=⟨Tryz.func173,by kernel_rfl,by kernel_rfl,by kernel_rfl,by kernel_rfl⟩
def xXp(a0 a1:Int):rE I173 (xHC a0 a1) [Y] []=dn (xGI a0) [iY (dc (a0>a1))]:=by kernel_rfl
def xXq(a0 a1:Int):rE I173 (xHC a0 a1) [F] []=dn (xGI a1) [iN (dc (a0>a1))]:=by kernel_rfl
theorem vDu{N:Nat}:∀a0 a1 r,xJQ N a0 a1=some r→RE Tryz.f173 I173 (xHC a0 a1) (xGI r):=fun a0 a1 r h =>
 cE h (fun h0 h=>dE h xZQ (xXp a0 a1) (oc h0 on)) fun h0 h =>
 dE h xZQ (xXq a0 a1) (oc h0 on)
theorem xP8{N:Nat}{a0:Int}{a1:Int}{r:Int}(h:xJQ N  a0 a1=some r):AbC 173 (xHC a0 a1) (xGI r) :=
 AbsCalls.of_reach xZQ rfl rfl rfl (Nat.le_of_ble_eq_true rfl) (vDu a0 a1 r h)
def G159(q:Val→Option (Int)):Prop:=∀a0 r,q a0=some r→AbC 159 (xE0 a0) (xDf r)
noncomputable def I159:Info:= { body:=(Tryz.f159.body).getD .skip,nt:=22,results:= [.tmp 2],keep:= [0,2,4,6,8,18,3],live:= [(3, [2,6,8,3])],modes:= [] }
theorem xVb:FnOk Tryz.prog 159 Tryz.f159 I159:=⟨Tryz.func159,by kernel_rfl,by kernel_rfl,by kernel_rfl,by kernel_rfl⟩
def xQf(x3 x4:Int)(b1:Val):St:= [(2, .v false [.ptr 1 0]),(6, .v false [.int .i64 x3]),(8, .v false [.int .i64 x4]),(3, .v true [.int .i64 (Val.kind b1), .int .i64 (Val.n b1), .int .i64 (Val.step b1), .str (Val.text b1), .sl .ro .val (Val.list b1), .sl .ro .str (Val.columns b1), .sl .ro .row (Val.rows b1)])]
abbrev xIN(v0:Val):=(Ln (Val.list v0):Int)
abbrev xOr(v0:Int)(v1:Val):Prop:=iY (dc (v0<(xIN v1)))
abbrev xKU(v0:Int)(v1:Val):Prop:=(0:Int)≤v0∧v0<(Ln (Val.list v1))
abbrev xKw(v0:Val)(v1:Int):=gD (Val.list v0) (tN v1) vd
def xW0(x3 x4:Int)(b1:Val)(r1 r2:Int):rS 3 I159 (xQf x3 x4 b1) [Y] [xDf r1,xGI r2]=st 3 I159 (xQf r2 (W (x4+1)) b1) [xOr x4 b1,xKU x4 b1,AbC 159 (xE0 (xKw b1 x4)) (xDf r1),AbC 173 (xHC x3 r1) (xGI r2)]:=by kernel_rfl
abbrev xSx(v0:Int)(v1:Val):Prop:=iN (dc (v0<(xIN v1)))
def xW1(x3 x4:Int)(b1:Val):rS 3 I159 (xQf x3 x4 b1) [F] []=dn (xDf (W (x3+1))) [xSx x4 b1]:=by kernel_rfl
def xW2(a0:Val):rE I159 (xE0 a0) [] []=st 3 I159 (xQf 0 0 a0) []:=by kernel_rfl
theorem vDj{N q0}(g0:G159 q0):∀n x3 x4 b1 r,xFz N q0 n x3 x4 b1=some r→RS Tryz.f159 I159 3 (xQf x3 x4 b1) (xDf r):=by
 intro n
 induction n with
 |zero=>exact fun _ _ _ _ h=>nE h
 |succ n ih =>
  exact fun x3 x4 b1 r h =>
   cE h (fun h0 h=>iE h fun h1 h=>bE h fun r1 h2 h=>bE h fun r2 h3 h=>tS xVb (xW0 x3 x4 b1 r1 r2) (oc4 h0 h1 (g0 _ _ h2) (xP8 h3) on) (ih _ _ _ _ h)) fun h0 h =>
   dS h xVb (xW1 x3 x4 b1) (oc h0 on)
theorem vDk{N q0}(g0:G159 q0):∀a0 r,xHS N q0 a0=some r→RE Tryz.f159 I159 (xE0 a0) (xDf r):=fun a0 r h =>
 tE xVb (xW2 a0) on (vDj g0 _ _ _ _ _ h)
theorem xKP{N q0}(g0:G159 q0){a0}{r}(h:xHS N q0 a0=some r):AbC 159 (xE0 a0) (xDf r) :=
 AbsCalls.of_reach xVb rfl rfl rfl (Nat.le_of_ble_eq_true rfl) (vDk g0 a0 r h)
theorem xIW{N:Nat}:∀d,G159 (xEs N d)
 |0=>fun _ _ h=>nE h
 |d+1=>fun _ _ h=>xKP (N:=N) (xIW d) h
theorem xNu{N:Nat}{a0:Val}{r:Int}(h:xJg N a0=some r):AbC 159 (xE0 a0) (xDf r):=xIW N _ r h
noncomputable def I187:Info:= { body:=(Tryz.f187.body).getD .skip,nt:=45,results:= [.tmp 2],keep:= [0,4,6,8,10,18,82],live:= [(2, [0,6])],modes:= [(4, [(4, .take,false)]),(5, [(4, .take,false)]),(6, [(0, .take,false),(2, .take,false),(5, .take,false),(6, .take,false)])] }
theorem xK2:FnOk Tryz.prog 187 Tryz.f187 I187:=⟨Tryz.func187,by kernel_rfl,by kernel_rfl,by kernel_rfl,by kernel_rfl⟩
def xHq(x0:Str)(x3:Int):St:= [(0, .v false [.str x0]),(6, .v false [.int .i64 x3])]
abbrev xMa(v0:Str)(v1:Int):=(((gD v0 (tN v1) 0).toNat:Int):Int)
abbrev xKg(v0:Str)(v1:Int):Prop:=iY (dc ((xMa v0 v1)≥97))
abbrev xNj(v0:Str)(v1:Int):Prop:=iY (dc ((xMa v0 v1)≥48))
abbrev xLB(v0:Str)(v1:Int):Prop:=iY (!(dc ((xMa v0 v1)≤122)))
def xXM(x0:Str)(x3:Int):rS 2 I187 (xHq x0 x3) [Y,Y,Y,Y,Y,Y] []=dn (xBG false) [xFj x3 x0,xBn x3 x0,xKg x0 x3,xBn x3 x0,xBn x3 x0,xNj x0 x3,xBn x3 x0,xLB x0 x3,iY (x3==0),iY true]:=by kernel_rfl
abbrev xOW(v0:Str)(v1:Int):=dc ((((gD v0 (tN v1) 0).toNat:Int):Int)≤57)
def xXN(x0:Str)(x3:Int):rS 2 I187 (xHq x0 x3) [Y,Y,Y,Y,F,Y] []=dn (xBG false) [xFj x3 x0,xBn x3 x0,xKg x0 x3,xBn x3 x0,xBn x3 x0,xNj x0 x3,xBn x3 x0,xLB x0 x3,xJb x3,iY (!(xOW x0 x3))]:=by kernel_rfl
def xXO(x0:Str)(x3:Int):rS 2 I187 (xHq x0 x3) [Y,Y,Y,Y,F,F] []=st 2 I187 (xHq x0 (W (x3+1))) [xFj x3 x0,xBn x3 x0,xKg x0 x3,xBn x3 x0,xBn x3 x0,xNj x0 x3,xBn x3 x0,xLB x0 x3,xJb x3,iN (!(xOW x0 x3))]:=by kernel_rfl
abbrev xUe(v0:Str)(v1:Int):Prop:=iN (!(dc ((xMa v0 v1)≤122)))
def xXP(x0:Str)(x3:Int):rS 2 I187 (xHq x0 x3) [Y,Y,Y,F,F] []=st 2 I187 (xHq x0 (W (x3+1))) [xFj x3 x0,xBn x3 x0,xKg x0 x3,xBn x3 x0,xBn x3 x0,xNj x0 x3,xBn x3 x0,xUe x0 x3,iN false]:=by kernel_rfl
abbrev xQt(v0:Str)(v1:Int):Prop:=iN (dc ((xMa v0 v1)≥48))
def xXQ(x0:Str)(x3:Int):rS 2 I187 (xHq x0 x3) [Y,Y,F,Y,Y,Y] []=dn (xBG false) [xFj x3 x0,xBn x3 x0,xKg x0 x3,xBn x3 x0,xBn x3 x0,xQt x0 x3,xLB x0 x3,iY (x3==0),iY true]:=by kernel_rfl
def xXR(x0:Str)(x3:Int):rS 2 I187 (xHq x0 x3) [Y,Y,F,Y,F,Y] []=dn (xBG false) [xFj x3 x0,xBn x3 x0,xKg x0 x3,xBn x3 x0,xBn x3 x0,xQt x0 x3,xLB x0 x3,xJb x3,iY (!false)]:=by kernel_rfl
def xXS(x0:Str)(x3:Int):rS 2 I187 (xHq x0 x3) [Y,Y,F,F,F] []=st 2 I187 (xHq x0 (W (x3+1))) [xFj x3 x0,xBn x3 x0,xKg x0 x3,xBn x3 x0,xBn x3 x0,xQt x0 x3,xUe x0 x3,iN false]:=by kernel_rfl
abbrev xLC(v0:Str)(v1:Int):Prop:=iN (dc ((xMa v0 v1)≥97))
def xXT(x0:Str)(x3:Int):rS 2 I187 (xHq x0 x3) [Y,F,Y,Y,Y,Y] []=dn (xBG false) [xFj x3 x0,xBn x3 x0,xLC x0 x3,xBn x3 x0,xNj x0 x3,xBn x3 x0,iY (!false),iY (x3==0),iY true]:=by kernel_rfl
def xXU(x0:Str)(x3:Int):rS 2 I187 (xHq x0 x3) [Y,F,Y,Y,F,Y] []=dn (xBG false) [xFj x3 x0,xBn x3 x0,xLC x0 x3,xBn x3 x0,xNj x0 x3,xBn x3 x0,iY (!false),xJb x3,iY (!(xOW x0 x3))]:=by kernel_rfl
def xXV(x0:Str)(x3:Int):rS 2 I187 (xHq x0 x3) [Y,F,Y,Y,F,F] []=st 2 I187 (xHq x0 (W (x3+1))) [xFj x3 x0,xBn x3 x0,xLC x0 x3,xBn x3 x0,xNj x0 x3,xBn x3 x0,iY (!false),xJb x3,iN (!(xOW x0 x3))]:=by kernel_rfl
def xUF(x0:Str)(x3:Int):rS 2 I187 (xHq x0 x3) [Y,F,F,Y,Y,Y] []=dn (xBG false) [xFj x3 x0,xBn x3 x0,xLC x0 x3,xBn x3 x0,xQt x0 x3,iY (!false),iY (x3==0),iY true]:=by kernel_rfl
def xUG(x0:Str)(x3:Int):rS 2 I187 (xHq x0 x3) [Y,F,F,Y,F,Y] []=dn (xBG false) [xFj x3 x0,xBn x3 x0,xLC x0 x3,xBn x3 x0,xQt x0 x3,iY (!false),xJb x3,iY (!false)]:=by kernel_rfl
def xUH(x0:Str)(x3:Int):rS 2 I187 (xHq x0 x3) [F] []=dn (xBG (dc ((Ln x0:Int)>0))) [iN (dc (x3<(Ln x0:Int)))]:=by kernel_rfl
def xUI(a0:Str):rE I187 (xFC a0) [] []=st 2 I187 (xHq a0 0) []:=by kernel_rfl
theorem vDz{N:Nat}:∀n x0 x3 r,xDi N n x0 x3=some r→RS Tryz.f187 I187 2 (xHq x0 x3) (xBG r):=by
 intro n
 induction n with
 |zero=>exact fun _ _ _ h=>nE h
 |succ n ih =>
  exact fun x0 x3 r h =>
   cE h (fun h0 h=>iE h fun h1 h=>cE h (fun h2 h=>cE h (fun h5 h=>cE h (fun h7 h=>cE h (fun h8 h=>dS h xK2 (xXM x0 x3) (oc10 h0 h1 h2 h1 h1 h5 h1 h7 h8 rfl on)) fun h8 h =>
   cE h (fun h9 h=>dS h xK2 (xXN x0 x3) (oc10 h0 h1 h2 h1 h1 h5 h1 h7 h8 h9 on)) fun h9 h =>
   tS xK2 (xXO x0 x3) (oc10 h0 h1 h2 h1 h1 h5 h1 h7 h8 h9 on) (ih _ _ _ h)) fun h7 h =>
   tS xK2 (xXP x0 x3) (oc9 h0 h1 h2 h1 h1 h5 h1 h7 rfl on) (ih _ _ _ h)) fun h5 h =>
   cE h (fun h6 h=>cE h (fun h7 h=>dS h xK2 (xXQ x0 x3) (oc9 h0 h1 h2 h1 h1 h5 h6 h7 rfl on)) fun h7 h =>
   dS h xK2 (xXR x0 x3) (oc9 h0 h1 h2 h1 h1 h5 h6 h7 rfl on)) fun h6 h =>
   tS xK2 (xXS x0 x3) (oc8 h0 h1 h2 h1 h1 h5 h6 rfl on) (ih _ _ _ h)) fun h2 h =>
   cE h (fun h4 h=>cE h (fun h7 h=>dS h xK2 (xXT x0 x3) (oc9 h0 h1 h2 h1 h4 h1 rfl h7 rfl on)) fun h7 h =>
   cE h (fun h8 h=>dS h xK2 (xXU x0 x3) (oc9 h0 h1 h2 h1 h4 h1 rfl h7 h8 on)) fun h8 h =>
   tS xK2 (xXV x0 x3) (oc9 h0 h1 h2 h1 h4 h1 rfl h7 h8 on) (ih _ _ _ h)) fun h4 h =>
   cE h (fun h6 h=>dS h xK2 (xUF x0 x3) (oc8 h0 h1 h2 h1 h4 rfl h6 rfl on)) fun h6 h =>
   dS h xK2 (xUG x0 x3) (oc8 h0 h1 h2 h1 h4 rfl h6 rfl on)) fun h0 h =>
   dS h xK2 (xUH x0 x3) (oc h0 on)
theorem vDA{N:Nat}:∀a0 r,xJj N a0=some r→RE Tryz.f187 I187 (xFC a0) (xBG r):=fun a0 r h =>
 tE xK2 (xUI a0) on (vDz _ _ _ _ h)
theorem xI1{N:Nat}{a0:Str}{r:Bool}(h:xJj N  a0=some r):AbC 187 (xFC a0) (xBG r) :=
 AbsCalls.of_reach xK2 rfl rfl rfl (Nat.le_of_ble_eq_true rfl) (vDA a0 r h)
noncomputable def I196:Info:= { body:=(Tryz.f196.body).getD .skip,nt:=2,results:= [.tmp 0],keep:= [0],live:= [],modes:= [] }
theorem vDO:FnOk Tryz.prog 196 Tryz.f196 I196:=⟨Tryz.func196,by kernel_rfl,by kernel_rfl,by kernel_rfl,by kernel_rfl⟩
def xX7:rE I196 (xGp ) [] []=dn (xFm [[108,101,116], [105,110], [105,102], [116,104,101,110], [101,108,115,101], [102,111,114], [100,111], [108,101,110], [115,117,109], [116,97,107,101], [115,107,105,112], [114,97,110,103,101], [110,116,104], [119,104,101,114,101], [107,101,101,112], [97,100,100], [103,114,111,117,112], [106,111,105,110], [99,111,108,117,109,110], [114,111,119,115], [99,108,111,99,107], [99,104,97,110,99,101], [102,105,108,101], [116,97,98,108,101]]) []:=by kernel_rfl
theorem vDD{N:Nat}:∀r,xHE N=some r→RE Tryz.f196 I196 (xGp ) (xFm r):=fun r h =>
 dE h vDO (xX7) on
theorem xLN{N:Nat}{r:(List Str)}(h:xHE N   =some r):AbC 196 (xGp ) (xFm r) :=
 AbsCalls.of_reach vDO rfl rfl rfl (Nat.le_of_ble_eq_true rfl) (vDD  r h)
noncomputable def I86:Info:= { body:=(Tryz.f86.body).getD .skip,nt:=18,results:= [.tmp 4],keep:= [0,2,8,10,18,34],live:= [(2, [0,2,10])],modes:= [] }
theorem fk86:FnOk Tryz.prog 86 Tryz.f86 I86:=⟨Tryz.func86,by kernel_rfl,by kernel_rfl,by kernel_rfl,by kernel_rfl⟩
def xST(x0:List Str)(x1:Str)(x5:Int):St:= [(0, .v false [.sl .ro .str x0]),(2, .v false [.str x1]),(10, .v false [.int .i64 x5])]
abbrev xKV(v0:Int)(v1:List Str):Prop:=iY (dc (v0<(Ln v1:Int)))
abbrev xHj(v0:Int)(v1:List Str):Prop:=(0:Int)≤v0∧v0<(Ln v1)
abbrev xMb(v0:List Str)(v1:Int)(v2:Str):=((gD v0 (tN v1) Ty.str.dflt):Str)==v2
def vBW(x0:List Str)(x1:Str)(x5:Int):rS 2 I86 (xST x0 x1 x5) [Y,Y] []=dn (xDF true) [xKV x5 x0,xHj x5 x0,iY (xMb x0 x5 x1)]:=by kernel_rfl
def vBX(x0:List Str)(x1:Str)(x5:Int):rS 2 I86 (xST x0 x1 x5) [Y,F] []=st 2 I86 (xST x0 x1 (W (x5+1))) [xKV x5 x0,xHj x5 x0,iN (xMb x0 x5 x1)]:=by kernel_rfl
abbrev xOs(v0:Int)(v1:List Str):Prop:=iN (dc (v0<(Ln v1:Int)))
def vBY(x0:List Str)(x1:Str)(x5:Int):rS 2 I86 (xST x0 x1 x5) [F] []=dn (xDF false) [xOs x5 x0]:=by kernel_rfl
def vBZ(a0:List Str)(a1:Str):rE I86 (xGH a0 a1) [] []=st 2 I86 (xST a0 a1 0) []:=by kernel_rfl
theorem vEY{N:Nat}:∀n x0 x1 x5 r,xF0 N n x0 x1 x5=some r→RS Tryz.f86 I86 2 (xST x0 x1 x5) (xDF r):=by
 intro n
 induction n with
 |zero=>exact fun _ _ _ _ h=>nE h
 |succ n ih =>
  exact fun x0 x1 x5 r h =>
   cE h (fun h0 h=>iE h fun h1 h=>cE h (fun h2 h=>dS h fk86 (vBW x0 x1 x5) (oc3 h0 h1 h2 on)) fun h2 h =>
   tS fk86 (vBX x0 x1 x5) (oc3 h0 h1 h2 on) (ih _ _ _ _ h)) fun h0 h =>
   dS h fk86 (vBY x0 x1 x5) (oc h0 on)
theorem vEZ{N:Nat}:∀a0 a1 r,xJP N a0 a1=some r→RE Tryz.f86 I86 (xGH a0 a1) (xDF r):=fun a0 a1 r h =>
 tE fk86 (vBZ a0 a1) on (vEY _ _ _ _ _ h)
theorem xJ6{N:Nat}{a0:List Str}{a1:Str}{r:Bool}(h:xJP N  a0 a1=some r):AbC 86 (xGH a0 a1) (xDF r) :=
 AbsCalls.of_reach fk86 rfl rfl rfl (Nat.le_of_ble_eq_true rfl) (vEZ a0 a1 r h)
noncomputable def I188:Info:= { body:=(Tryz.f188.body).getD .skip,nt:=6,results:= [.tmp 2],keep:= [0,4],live:= [],modes:= [] }
theorem vDN:FnOk Tryz.prog 188 Tryz.f188 I188:=⟨Tryz.func188,by kernel_rfl,by kernel_rfl,by kernel_rfl,by kernel_rfl⟩
def xXW(a0:Str)(r1:(List Str))(r2:Bool):rE I188 (xGo a0) [] [xFm r1,xDF r2]=dn (xFl r2) [AbC 196 xGp (xFm r1),AbC 86 (xGH r1 a0) (xDF r2)]:=by kernel_rfl
theorem vDB{N:Nat}:∀a0 r,xGx N a0=some r→RE Tryz.f188 I188 (xGo a0) (xFl r):=fun a0 r h =>
 bE h fun r1 h0 h=>bE h fun r2 h1 h=>dE h vDN (xXW a0 r1 r2) (oc2 (xLN h0) (xJ6 h1) on)
theorem xLL{N:Nat}{a0:Str}{r:Bool}(h:xGx N  a0=some r):AbC 188 (xGo a0) (xFl r) :=
 AbsCalls.of_reach vDN rfl rfl rfl (Nat.le_of_ble_eq_true rfl) (vDB a0 r h)
noncomputable def I174:Info:= { body:=(Tryz.f174.body).getD .skip,nt:=15,results:= [.tmp 2],keep:= [0,4],live:= [],modes:= [(1, [(2, .take,false),(7, .take,false)])] }
theorem xVc:FnOk Tryz.prog 174 Tryz.f174 I174:=⟨Tryz.func174,by kernel_rfl,by kernel_rfl,by kernel_rfl,by kernel_rfl⟩
def xXr(a0:Str)(r1 r2:Bool):rE I174 (xDu a0) [Y,Y] [xBG r1,xFl r2]=dn (xCy (!r2)) [AbC 187 (xFC a0) (xBG r1),iY r1,iY (dc ((Ln a0:Int)≤8)),AbC 188 (xGo a0) (xFl r2)]:=by kernel_rfl
def xXs(a0:Str)(r1:Bool):rE I174 (xDu a0) [Y,F] [xBG r1]=dn (xCy false) [AbC 187 (xFC a0) (xBG r1),iY r1,iN (dc ((Ln a0:Int)≤8))]:=by kernel_rfl
def xXt(a0:Str)(r1:Bool):rE I174 (xDu a0) [F,F] [xBG r1]=dn (xCy false) [AbC 187 (xFC a0) (xBG r1),iN r1,iN false]:=by kernel_rfl
theorem vDv{N:Nat}:∀a0 r,xF8 N a0=some r→RE Tryz.f174 I174 (xDu a0) (xCy r):=fun a0 r h =>
 bE h fun r1 h0 h=>cE h (fun h1 h=>cE h (fun h2 h=>bE h fun r2 h3 h=>dE h xVc (xXr a0 r1 r2) (oc4 (xI1 h0) h1 h2 (xLL h3) on)) fun h2 h =>
 dE h xVc (xXs a0 r1) (oc3 (xI1 h0) h1 h2 on)) fun h1 h =>
 dE h xVc (xXt a0 r1) (oc3 (xI1 h0) h1 rfl on)
theorem xIX{N:Nat}{a0:Str}{r:Bool}(h:xF8 N  a0=some r):AbC 174 (xDu a0) (xCy r) :=
 AbsCalls.of_reach xVc rfl rfl rfl (Nat.le_of_ble_eq_true rfl) (vDv a0 r h)
noncomputable def I37:Info:= { body:=(Tryz.f37.body).getD .skip,nt:=18,results:= [.tmp 2],keep:= [0,4,6,14,34],live:= [(2, [0,6])],modes:= [] }
theorem fk37:FnOk Tryz.prog 37 Tryz.f37 I37:=⟨Tryz.func37,by kernel_rfl,by kernel_rfl,by kernel_rfl,by kernel_rfl⟩
def xSO(x0:List Str)(x3:Int):St:= [(0, .v false [.sl .ro .str x0]),(6, .v false [.int .i64 x3])]
abbrev xIO(v0:List Str)(v1:Int):=gD v0 (tN v1) Ty.str.dflt
def vAo(x0:List Str)(x3:Int)(r1:Bool):rS 2 I37 (xSO x0 x3) [Y,Y] [xDF r1]=dn (xB5 false) [xKV x3 x0,(0:Int)≤x3∧x3≤(Ln x0),xHj x3 x0,AbC 86 (xGH (List.take (tN x3) x0) (xIO x0 x3)) (xDF r1),iY r1]:=by kernel_rfl
def vAp(x0:List Str)(x3:Int)(r1:Bool):rS 2 I37 (xSO x0 x3) [Y,F] [xDF r1]=st 2 I37 (xSO x0 (W (x3+1))) [xKV x3 x0,(0:Int)≤x3∧x3≤(Ln x0),xHj x3 x0,AbC 86 (xGH (List.take (tN x3) x0) (xIO x0 x3)) (xDF r1),iN r1]:=by kernel_rfl
def vAq(x0:List Str)(x3:Int):rS 2 I37 (xSO x0 x3) [F] []=dn (xB5 true) [xOs x3 x0]:=by kernel_rfl
def vAr(a0:List Str):rE I37 (xEZ a0) [] []=st 2 I37 (xSO a0 0) []:=by kernel_rfl
theorem vEq{N:Nat}:∀n x0 x3 r,xDt N n x0 x3=some r→RS Tryz.f37 I37 2 (xSO x0 x3) (xB5 r):=by
 intro n
 induction n with
 |zero=>exact fun _ _ _ h=>nE h
 |succ n ih =>
  exact fun x0 x3 r h =>
   cE h (fun h0 h=>iE h fun h1 h=>iE h fun h2 h=>bE h fun r1 h3 h=>cE h (fun h4 h=>dS h fk37 (vAo x0 x3 r1) (oc5 h0 h1 h2 (xJ6 h3) h4 on)) fun h4 h =>
   tS fk37 (vAp x0 x3 r1) (oc5 h0 h1 h2 (xJ6 h3) h4 on) (ih _ _ _ h)) fun h0 h =>
   dS h fk37 (vAq x0 x3) (oc h0 on)
theorem vEr{N:Nat}:∀a0 r,xF7 N a0=some r→RE Tryz.f37 I37 (xEZ a0) (xB5 r):=fun a0 r h =>
 tE fk37 (vAr a0) on (vEq _ _ _ _ h)
theorem xFT{N:Nat}{a0:List Str}{r:Bool}(h:xF7 N  a0=some r):AbC 37 (xEZ a0) (xB5 r) :=
 AbsCalls.of_reach fk37 rfl rfl rfl (Nat.le_of_ble_eq_true rfl) (vEr a0 r h)
noncomputable def I160:Info:= { body:=(Tryz.f160.body).getD .skip,nt:=23,results:= [.tmp 2],keep:= [0,4,6,14,30],live:= [(2, [0,6])],modes:= [(6, [(3, .take,false)])] }
theorem xTg:FnOk Tryz.prog 160 Tryz.f160 I160:=⟨Tryz.func160,by kernel_rfl,by kernel_rfl,by kernel_rfl,by kernel_rfl⟩
def xMO(x0:List Str)(x3:Int):St:= [(0, .v false [.sl .ro .str x0]),(6, .v false [.int .i64 x3])]
def xW3(x0:List Str)(x3:Int)(r1:Bool):rS 2 I160 (xMO x0 x3) [Y,Y] [xCy r1]=dn (xCe false) [xKV x3 x0,xHj x3 x0,AbC 174 (xDu (xIO x0 x3)) (xCy r1),iY (!r1)]:=by kernel_rfl
def xW4(x0:List Str)(x3:Int)(r1:Bool):rS 2 I160 (xMO x0 x3) [Y,F] [xCy r1]=st 2 I160 (xMO x0 (W (x3+1))) [xKV x3 x0,xHj x3 x0,AbC 174 (xDu (xIO x0 x3)) (xCy r1),iN (!r1)]:=by kernel_rfl
def xW5(x0:List Str)(x3:Int)(r1 r2:Bool):rS 2 I160 (xMO x0 x3) [F,Y] [xDL r1,xB5 r2]=dn (xCe r2) [xOs x3 x0,AbC 120 (xFI (Ln x0:Int) 1 4) (xDL r1),iY r1,AbC 37 (xEZ x0) (xB5 r2)]:=by kernel_rfl
def xW6(x0:List Str)(x3:Int)(r1:Bool):rS 2 I160 (xMO x0 x3) [F,F] [xDL r1]=dn (xCe false) [xOs x3 x0,AbC 120 (xFI (Ln x0:Int) 1 4) (xDL r1),iN r1]:=by kernel_rfl
def xW7(a0:List Str):rE I160 (xEE a0) [] []=st 2 I160 (xMO a0 0) []:=by kernel_rfl
theorem vDl{N:Nat}:∀n x0 x3 r,xEF N n x0 x3=some r→RS Tryz.f160 I160 2 (xMO x0 x3) (xCe r):=by
 intro n
 induction n with
 |zero=>exact fun _ _ _ h=>nE h
 |succ n ih =>
  exact fun x0 x3 r h =>
   cE h (fun h0 h=>iE h fun h1 h=>bE h fun r1 h2 h=>cE h (fun h3 h=>dS h xTg (xW3 x0 x3 r1) (oc4 h0 h1 (xIX h2) h3 on)) fun h3 h =>
   tS xTg (xW4 x0 x3 r1) (oc4 h0 h1 (xIX h2) h3 on) (ih _ _ _ h)) fun h0 h =>
   bE h fun r1 h1 h=>cE h (fun h2 h=>bE h fun r2 h3 h=>dS h xTg (xW5 x0 x3 r1 r2) (oc4 h0 (xJi h1) h2 (xFT h3) on)) fun h2 h =>
   dS h xTg (xW6 x0 x3 r1) (oc3 h0 (xJi h1) h2 on)
theorem vDm{N:Nat}:∀a0 r,xH2 N a0=some r→RE Tryz.f160 I160 (xEE a0) (xCe r):=fun a0 r h =>
 tE xTg (xW7 a0) on (vDl _ _ _ _ h)
theorem xHU{N:Nat}{a0:List Str}{r:Bool}(h:xH2 N  a0=some r):AbC 160 (xEE a0) (xCe r) :=
 AbsCalls.of_reach xTg rfl rfl rfl (Nat.le_of_ble_eq_true rfl) (vDm a0 r h)
noncomputable def I126:Info:= { body:=(Tryz.f126.body).getD .skip,nt:=24,results:= [.tmp 4],keep:= [0,2,4,6,8,5,7],live:= [],modes:= [(1, [(5, .take,false),(11, .take,false)])] }
theorem xU6:FnOk Tryz.prog 126 Tryz.f126 I126:=⟨Tryz.func126,by kernel_rfl,by kernel_rfl,by kernel_rfl,by kernel_rfl⟩
def xWB(a0 a1:Org):rE I126 (xDM a0 a1) [Y] []=dn (xBl true) [iY (dc ((Org.cell a0)<(Org.cell a1)))]:=by kernel_rfl
def xWC(a0 a1:Org):rE I126 (xDM a0 a1) [F,Y] []=dn (xBl (dc ((Org.row a0)<(Org.row a1)))) [xVi a0 a1,iY ((Org.cell a0)==(Org.cell a1))]:=by kernel_rfl
def xWD(a0 a1:Org):rE I126 (xDM a0 a1) [F,F] []=dn (xBl false) [xVi a0 a1,iN ((Org.cell a0)==(Org.cell a1))]:=by kernel_rfl
theorem vC5{N:Nat}:∀a0 a1 r,xFn N a0 a1=some r→RE Tryz.f126 I126 (xDM a0 a1) (xBl r):=fun a0 a1 r h =>
 cE h (fun h0 h=>dE h xU6 (xWB a0 a1) (oc h0 on)) fun h0 h =>
 cE h (fun h1 h=>dE h xU6 (xWC a0 a1) (oc2 h0 h1 on)) fun h1 h =>
 dE h xU6 (xWD a0 a1) (oc2 h0 h1 on)
theorem xCX{N:Nat}{a0:Org}{a1:Org}{r:Bool}(h:xFn N  a0 a1=some r):AbC 126 (xDM a0 a1) (xBl r) :=
 AbsCalls.of_reach xU6 rfl rfl rfl (Nat.le_of_ble_eq_true rfl) (vC5 a0 a1 r h)
noncomputable def I161:Info:= { body:=(Tryz.f161.body).getD .skip,nt:=41,results:= [.tmp 2],keep:= [0,4,6,14,80],live:= [(2, [0,6])],modes:= [(4, [(6, .take,false),(14, .take,false),(17, .take,false)])] }
theorem xQl:FnOk Tryz.prog 161 Tryz.f161 I161:=⟨Tryz.func161,by kernel_rfl,by kernel_rfl,by kernel_rfl,by kernel_rfl⟩
def xKR(x0:List Org)(x3:Int):St:= [(0, .v false [.sl .ro .org x0]),(6, .v false [.int .i64 x3])]
abbrev xHk(v0:Int)(v1:List Org):Prop:=iY (dc (v0<(Ln v1:Int)))
abbrev xRR(v0:List Org)(v1:Int):=dc (((Org.cell (gD v0 (tN v1) Ty.org.dflt)):Int)<0)
def xW8(x0:List Org)(x3:Int):rS 2 I161 (xKR x0 x3) [Y,Y,Y,Y] []=dn (xB6 false) [xHk x3 x0,xEX x3 x0,iY (xRR x0 x3),iY true,iY true]:=by kernel_rfl
abbrev xMs(v0:List Org)(v1:Int):Prop:=iN (xRR v0 v1)
abbrev xRS(v0:List Org)(v1:Int):=dc (((Org.row (gD v0 (tN v1) Ty.org.dflt)):Int)<0)
def xW9(x0:List Org)(x3:Int):rS 2 I161 (xKR x0 x3) [Y,F,Y,Y] []=dn (xB6 false) [xHk x3 x0,xEX x3 x0,xMs x0 x3,xEX x3 x0,iY (xRS x0 x3),iY true]:=by kernel_rfl
abbrev xOt(v0:List Org)(v1:Int):Prop:=iN (xRS v0 v1)
def xXa(x0:List Org)(x3:Int)(r1:Bool):rS 2 I161 (xKR x0 x3) [Y,F,F,Y,Y] [xBl r1]=dn (xB6 false) [xHk x3 x0,xEX x3 x0,xMs x0 x3,xEX x3 x0,xOt x0 x3,iY (dc (x3>0)),(0:Int)≤(W (x3 - 1))∧(W (x3 - 1))<(Ln x0),xEX x3 x0,AbC 126 (xDM (gD x0 (tN (W (x3 - 1))) Ty.org.dflt) (xGj x0 x3)) (xBl r1),iY (!r1)]:=by kernel_rfl
def xXb(x0:List Org)(x3:Int)(r1:Bool):rS 2 I161 (xKR x0 x3) [Y,F,F,Y,F] [xBl r1]=st 2 I161 (xKR x0 (W (x3+1))) [xHk x3 x0,xEX x3 x0,xMs x0 x3,xEX x3 x0,xOt x0 x3,iY (dc (x3>0)),(0:Int)≤(W (x3 - 1))∧(W (x3 - 1))<(Ln x0),xEX x3 x0,AbC 126 (xDM (gD x0 (tN (W (x3 - 1))) Ty.org.dflt) (xGj x0 x3)) (xBl r1),iN (!r1)]:=by kernel_rfl
def xXc(x0:List Org)(x3:Int):rS 2 I161 (xKR x0 x3) [Y,F,F,F,F] []=st 2 I161 (xKR x0 (W (x3+1))) [xHk x3 x0,xEX x3 x0,xMs x0 x3,xEX x3 x0,xOt x0 x3,iN (dc (x3>0)),iN false]:=by kernel_rfl
abbrev xKy(v0:Int)(v1:List Org):Prop:=iN (dc (v0<(Ln v1:Int)))
def xXd(x0:List Org)(x3:Int):rS 2 I161 (xKR x0 x3) [F] []=dn (xB6 true) [xKy x3 x0]:=by kernel_rfl
def xXe(a0:List Org):rE I161 (xE6 a0) [] []=st 2 I161 (xKR a0 0) []:=by kernel_rfl
theorem vDn{N:Nat}:∀n x0 x3 r,xCV N n x0 x3=some r→RS Tryz.f161 I161 2 (xKR x0 x3) (xB6 r):=by
 intro n
 induction n with
 |zero=>exact fun _ _ _ h=>nE h
 |succ n ih =>
  exact fun x0 x3 r h =>
   cE h (fun h0 h=>iE h fun h1 h=>cE h (fun h2 h=>dS h xQl (xW8 x0 x3) (oc5 h0 h1 h2 rfl rfl on)) fun h2 h =>
   cE h (fun h4 h=>dS h xQl (xW9 x0 x3) (oc6 h0 h1 h2 h1 h4 rfl on)) fun h4 h =>
   cE h (fun h5 h=>iE h fun h6 h=>bE h fun r1 h8 h=>cE h (fun h9 h=>dS h xQl (xXa x0 x3 r1) (oc10 h0 h1 h2 h1 h4 h5 h6 h1 (xCX h8) h9 on)) fun h9 h =>
   tS xQl (xXb x0 x3 r1) (oc10 h0 h1 h2 h1 h4 h5 h6 h1 (xCX h8) h9 on) (ih _ _ _ h)) fun h5 h =>
   tS xQl (xXc x0 x3) (oc7 h0 h1 h2 h1 h4 h5 rfl on) (ih _ _ _ h)) fun h0 h =>
   dS h xQl (xXd x0 x3) (oc h0 on)
theorem vDo{N:Nat}:∀a0 r,xG7 N a0=some r→RE Tryz.f161 I161 (xE6 a0) (xB6 r):=fun a0 r h =>
 tE xQl (xXe a0) on (vDn _ _ _ _ h)
theorem xI2{N:Nat}{a0:List Org}{r:Bool}(h:xG7 N  a0=some r):AbC 161 (xE6 a0) (xB6 r) :=
 AbsCalls.of_reach xQl rfl rfl rfl (Nat.le_of_ble_eq_true rfl) (vDo a0 r h)
noncomputable def I119:Info:= { body:=(Tryz.f119.body).getD .skip,nt:=55,results:= [.tmp 2],keep:= [0,2,4,6,8,10,30,40,80,90,108,3,9],live:= [(4, [2,6,3]),(10, [2,6,8,10,3,9])],modes:= [(1, [(4, .take,false)]),(7, [(7, .take,false)])] }
theorem xMZ:FnOk Tryz.prog 119 Tryz.f119 I119:=⟨Tryz.func119,by kernel_rfl,by kernel_rfl,by kernel_rfl,by kernel_rfl⟩
def xMn(x3:Int)(b1:Val):St:= [(2, .v false [.ptr 1 0]),(6, .v false [.int .i64 x3]),(3, .v true [.int .i64 (Val.kind b1), .int .i64 (Val.n b1), .int .i64 (Val.step b1), .str (Val.text b1), .sl .ro .val (Val.list b1), .sl .ro .str (Val.columns b1), .sl .ro .row (Val.rows b1)])]
def xLT(x3 x5:Int)(b1:Val)(b4:Rowd):St:= [(2, .v false [.ptr 1 0]),(6, .v false [.int .i64 x3]),(8, .v false [.ptr 4 0]),(10, .v false [.int .i64 x5]),(3, .v true [.int .i64 (Val.kind b1), .int .i64 (Val.n b1), .int .i64 (Val.step b1), .str (Val.text b1), .sl .ro .val (Val.list b1), .sl .ro .str (Val.columns b1), .sl .ro .row (Val.rows b1)]),(9, .v true [.sl .ro .int (Rowd.cells b4), .sl .ro .org (Rowd.frm b4)])]
abbrev xE9(v0:Rowd):=Rowd.cells v0
abbrev xSy(v0:Int)(v1:Rowd):Prop:=(0:Int)≤v0∧v0<(Ln (xE9 v1))
abbrev xOX(v0:Rowd)(v1:Int):=gD (Rowd.cells v0) (tN v1) Ty.int.dflt
def xUB(x3 x5:Int)(b1:Val)(b4:Rowd)(r1:Bool):rS 10 I119 (xLT x3 x5 b1 b4) [Y,Y] [xBR r1]=dn (xCo false) [iY (dc (x5<(Ln (xE9 b4):Int))),xSy x5 b4,AbC 80 (xDo (xOX b4 x5)) (xBR r1),iY (!r1)]:=by kernel_rfl
def xUC(x3 x5:Int)(b1:Val)(b4:Rowd)(r1:Bool):rS 10 I119 (xLT x3 x5 b1 b4) [Y,F] [xBR r1]=st 10 I119 (xLT x3 (W (x5+1)) b1 b4) [iY (dc (x5<(Ln (xE9 b4):Int))),xSy x5 b4,AbC 80 (xDo (xOX b4 x5)) (xBR r1),iN (!r1)]:=by kernel_rfl
def xUD(x3 x5:Int)(b1:Val)(b4:Rowd):rS 10 I119 (xLT x3 x5 b1 b4) [F] []=st 4 I119 (xMn (W (x3+1)) b1) [iN (dc (x5<(Ln (xE9 b4):Int)))]:=by kernel_rfl
abbrev xHb(v0:Val):=(Ln (Val.rows v0):Int)
abbrev xIa(v0:Int)(v1:Val):Prop:=iY (dc (v0<(xHb v1)))
abbrev xCP(v0:Int)(v1:Val):Prop:=(0:Int)≤v0∧v0<(Ln (Val.rows v1))
abbrev xT3(v0:Val)(v1:Int):=((Ln (Rowd.cells (gD (Val.rows v0) (tN v1) rd)):Int):Int) != (Ln (Val.columns v0):Int)
def xWe(x3:Int)(b1:Val):rS 4 I119 (xMn x3 b1) [Y,Y,Y] []=dn (xCo false) [xIa x3 b1,xCP x3 b1,iY (xT3 b1 x3),iY true]:=by kernel_rfl
abbrev xZv(v0:Val)(v1:Int):Prop:=iN (xT3 v0 v1)
abbrev xJu(v0:Val)(v1:Int):=Rowd.frm (gD (Val.rows v0) (tN v1) rd)
def xWf(x3:Int)(b1:Val)(r1:Bool):rS 4 I119 (xMn x3 b1) [Y,F,Y] [xB6 r1]=dn (xCo false) [xIa x3 b1,xCP x3 b1,xZv b1 x3,AbC 161 (xE6 (xJu b1 x3)) (xB6 r1),iY (!r1)]:=by kernel_rfl
abbrev xRT(v0:Val)(v1:Int):=gD (Val.rows v0) (tN v1) rd
def xWg(x3:Int)(b1:Val)(r1:Bool):rS 4 I119 (xMn x3 b1) [Y,F,F] [xB6 r1]=st 10 I119 (xLT x3 0 b1 (xRT b1 x3)) [xIa x3 b1,xCP x3 b1,xZv b1 x3,AbC 161 (xE6 (xJu b1 x3)) (xB6 r1),iN (!r1)]:=by kernel_rfl
abbrev xLD(v0:Int)(v1:Val):Prop:=iN (dc (v0<(xHb v1)))
def xWh(x3:Int)(b1:Val):rS 4 I119 (xMn x3 b1) [F] []=dn (xCo true) [xLD x3 b1]:=by kernel_rfl
abbrev xCN(v0:Val):=Val.columns v0
def xWi(a0:Val)(r1:Bool):rE I119 (xFD a0) [Y,Y] [xCe r1]=dn (xCo false) [AbC 160 (xEE (xCN a0)) (xCe r1),iY (!r1),iY true]:=by kernel_rfl
abbrev xSz(v0:Val):Prop:=iY (dc ((xHb v0)>12))
def xWj(a0:Val)(r1:Bool):rE I119 (xFD a0) [F,Y] [xCe r1]=dn (xCo false) [AbC 160 (xEE (xCN a0)) (xCe r1),iN (!r1),xSz a0]:=by kernel_rfl
abbrev xSA(v0:Val):Prop:=iN (dc ((xHb v0)>12))
def xWk(a0:Val)(r1:Bool):rE I119 (xFD a0) [F,F] [xCe r1]=st 4 I119 (xMn 0 a0) [AbC 160 (xEE (xCN a0)) (xCe r1),iN (!r1),xSA a0]:=by kernel_rfl
theorem xZH{N:Nat}{k4:Int→Val→Option (Bool)}(hk4:∀z0 z1 r,k4 z0 z1=some r→RS Tryz.f119 I119 4 (xMn z0 z1) (xCo r)):∀n x3 x5 b1 b4 r,xEu N k4 n x3 x5 b1 b4=some r→RS Tryz.f119 I119 10 (xLT x3 x5 b1 b4) (xCo r):=by
 intro n
 induction n with
 |zero=>exact fun _ _ _ _ _ h=>nE h
 |succ n ih =>
  exact fun x3 x5 b1 b4 r h =>
   cE h (fun h0 h=>iE h fun h1 h=>bE h fun r1 h2 h=>cE h (fun h3 h=>dS h xMZ (xUB x3 x5 b1 b4 r1) (oc4 h0 h1 (xFe h2) h3 on)) fun h3 h =>
   tS xMZ (xUC x3 x5 b1 b4 r1) (oc4 h0 h1 (xFe h2) h3 on) (ih _ _ _ _ _ h)) fun h0 h =>
   tS xMZ (xUD x3 x5 b1 b4) (oc h0 on) (hk4 _ _ _ h)
theorem vC1{N:Nat}:∀n x3 b1 r,xE7 N n x3 b1=some r→RS Tryz.f119 I119 4 (xMn x3 b1) (xCo r):=by
 intro n
 induction n with
 |zero=>exact fun _ _ _ h=>nE h
 |succ n ih =>
  exact fun x3 b1 r h =>
   cE h (fun h0 h=>iE h fun h1 h=>cE h (fun h2 h=>dS h xMZ (xWe x3 b1) (oc4 h0 h1 h2 rfl on)) fun h2 h =>
   bE h fun r1 h3 h=>cE h (fun h4 h=>dS h xMZ (xWf x3 b1 r1) (oc5 h0 h1 h2 (xI2 h3) h4 on)) fun h4 h =>
   tS xMZ (xWg x3 b1 r1) (oc5 h0 h1 h2 (xI2 h3) h4 on) (xZH ih _ _ _ _ _ _ h)) fun h0 h =>
   dS h xMZ (xWh x3 b1) (oc h0 on)
theorem vC2{N:Nat}:∀a0 r,xId N a0=some r→RE Tryz.f119 I119 (xFD a0) (xCo r):=fun a0 r h =>
 bE h fun r1 h0 h=>cE h (fun h1 h=>dE h xMZ (xWi a0 r1) (oc3 (xHU h0) h1 rfl on)) fun h1 h =>
 cE h (fun h2 h=>dE h xMZ (xWj a0 r1) (oc3 (xHU h0) h1 h2 on)) fun h2 h =>
 tE xMZ (xWk a0 r1) (oc3 (xHU h0) h1 h2 on) (vC1 _ _ _ _ h)
theorem xNB{N:Nat}{a0:Val}{r:Bool}(h:xId N  a0=some r):AbC 119 (xFD a0) (xCo r) :=
 AbsCalls.of_reach xMZ rfl rfl rfl (Nat.le_of_ble_eq_true rfl) (vC2 a0 r h)
def G75(q:Val→Option (Bool)):Prop:=∀a0 r,q a0=some r→AbC 75 (xAp a0) (xAl r)
def G118(q:Val→Option (Bool)):Prop:=∀a0 r,q a0=some r→AbC 118 (xG1 a0) (xDy r)
noncomputable def I75:Info:= { body:=(Tryz.f75.body).getD .skip,nt:=95,results:= [.tmp 2],keep:= [0,2,4,52,88,92,94,104,124,142,162,180,3],live:= [],modes:= [(1, [(3, .take,false),(9, .take,false),(13, .take,false)]),(3, [(3, .take,false),(8, .take,false),(12, .take,false)]),(9, [(3, .take,false)]),(11, [(3, .take,false)]),(13, [(3, .take,false)]),(15, [(3, .take,false)])] }
theorem fk75:FnOk Tryz.prog 75 Tryz.f75 I75:=⟨Tryz.func75,by kernel_rfl,by kernel_rfl,by kernel_rfl,by kernel_rfl⟩
abbrev xIn(v0:Val):Prop:=iY ((Val.kind v0) != 3)
def vBF(a0:Val):rE I75 (xAp a0) [Y,Y,Y] []=dn (xAl false) [xIn a0,iY (dc ((xIN a0)>0)),iY true]:=by kernel_rfl
abbrev xIP(v0:Val):Prop:=iN (dc ((xIN v0)>0))
abbrev xIo(v0:Val):Prop:=iY ((Val.kind v0) != 5)
abbrev xT4(v0:Val):=dc (((W ((Ln (Val.columns v0):Int)+(Ln (Val.rows v0):Int))):Int)>0)
abbrev xZw(v0:Val):Prop:=iY (xT4 v0)
def vBG(a0:Val):rE I75 (xAp a0) [Y,F,Y,Y] []=dn (xAl false) [xIn a0,xIP a0,xIo a0,xZw a0]:=by kernel_rfl
abbrev xJc(v0:Val):Prop:=iN (xT4 v0)
abbrev xIQ(v0:Val):Prop:=iY ((Val.kind v0) != 2)
abbrev xOY(v0:Val):=((Val.text v0):Str)== []
abbrev xUf(v0:Val):Prop:=iY (!(xOY v0))
def vBH(a0:Val):rE I75 (xAp a0) [Y,F,Y,F,Y,Y,Y] []=dn (xAl false) [xIn a0,xIP a0,xIo a0,xJc a0,xIQ a0,xUf a0,iY true]:=by kernel_rfl
abbrev xKh(v0:Val):Prop:=iN (!(xOY v0))
abbrev xJJ(v0:Val):Prop:=iY ((Val.kind v0) != 4)
abbrev xSB(v0:Val):Prop:=iY ((Val.step v0) != 0)
def vBI(a0:Val):rE I75 (xAp a0) [Y,F,Y,F,Y,F,Y,Y] []=dn (xAl false) [xIn a0,xIP a0,xIo a0,xJc a0,xIQ a0,xKh a0,xJJ a0,xSB a0]:=by kernel_rfl
abbrev xLE(v0:Val):Prop:=iN ((Val.step v0) != 0)
def vBJ(a0:Val)(r1:Bool):rE I75 (xAp a0) [Y,F,Y,F,Y,F,Y,F,Y] [xBR r1]=dn (xAl r1) [xIn a0,xIP a0,xIo a0,xJc a0,xIQ a0,xKh a0,xJJ a0,xLE a0,xMr a0,AbC 80 (xDo (Val.n a0)) (xBR r1)]:=by kernel_rfl
abbrev xLF(v0:Val):Prop:=iN ((Val.kind v0)==3)
abbrev xFr(v0:Val):Prop:=iN ((Val.kind v0)==4)
abbrev xMt(v0:Val):Prop:=iN ((Val.kind v0)==5)
abbrev xNk(v0:Val):Prop:=iY ((Val.kind v0)==6)
def vBK(a0:Val)(r1:Bool):rE I75 (xAp a0) [Y,F,Y,F,Y,F,Y,F,F,F,F,F,F,Y] [xDL r1]=dn (xAl r1) [xIn a0,xIP a0,xIo a0,xJc a0,xIQ a0,xKh a0,xJJ a0,xLE a0,xCO a0,xDB a0,xLF a0,xFr a0,xMt a0,xNk a0,AbC 120 (xFI (Val.n a0) 1 8) (xDL r1)]:=by kernel_rfl
abbrev xHA(v0:Val):Prop:=iN ((Val.kind v0)==6)
def vBL(a0:Val):rE I75 (xAp a0) [Y,F,Y,F,Y,F,Y,F,F,F,F,F,F,F] []=dn (xAl false) [xIn a0,xIP a0,xIo a0,xJc a0,xIQ a0,xKh a0,xJJ a0,xLE a0,xCO a0,xDB a0,xLF a0,xFr a0,xMt a0,xHA a0]:=by kernel_rfl
abbrev xMu(v0:Val):Prop:=iY ((Val.kind v0)==4)
def vBM(a0:Val)(r1 r2:Bool):rE I75 (xAp a0) [Y,F,Y,F,Y,F,F,F,F,F,F,Y,Y] [xBR r1,xBR r2]=dn (xAl r2) [xIn a0,xIP a0,xIo a0,xJc a0,xIQ a0,xKh a0,iN ((Val.kind a0) != 4),iN false,xCO a0,xDB a0,xLF a0,xMu a0,AbC 80 (xDo (Val.n a0)) (xBR r1),iY r1,AbC 80 (xDo (Val.step a0)) (xBR r2)]:=by kernel_rfl
def vBN(a0:Val)(r1:Bool):rE I75 (xAp a0) [Y,F,Y,F,Y,F,F,F,F,F,F,Y,F] [xBR r1]=dn (xAl false) [xIn a0,xIP a0,xIo a0,xJc a0,xIQ a0,xKh a0,iN ((Val.kind a0) != 4),iN false,xCO a0,xDB a0,xLF a0,xMu a0,AbC 80 (xDo (Val.n a0)) (xBR r1),iN r1]:=by kernel_rfl
def vBO(a0:Val):rE I75 (xAp a0) [Y,F,Y,F,F,F,Y,Y] []=dn (xAl false) [xIn a0,xIP a0,xIo a0,xJc a0,iN ((Val.kind a0) != 2),iN false,xJJ a0,xSB a0]:=by kernel_rfl
abbrev xHl(v0:Val):Prop:=iY ((Val.n v0)==0)
def xY4(a0:Val)(r1:Bool):rE I75 (xAp a0) [Y,F,Y,F,F,F,Y,F,F,Y,Y] [xCz r1]=dn (xAl r1) [xIn a0,xIP a0,xIo a0,xJc a0,iN ((Val.kind a0) != 2),iN false,xJJ a0,xLE a0,xCO a0,xLA a0,xHl a0,AbC 117 (xFV (Val.text a0)) (xCz r1)]:=by kernel_rfl
abbrev xMv(v0:Val):Prop:=iN ((Val.n v0)==0)
def xY5(a0:Val):rE I75 (xAp a0) [Y,F,Y,F,F,F,Y,F,F,Y,F] []=dn (xAl false) [xIn a0,xIP a0,xIo a0,xJc a0,iN ((Val.kind a0) != 2),iN false,xJJ a0,xLE a0,xCO a0,xLA a0,xMv a0]:=by kernel_rfl
abbrev xSC(v0:Val):Prop:=iN ((Val.kind v0) != 5)
def xY6(a0:Val):rE I75 (xAp a0) [Y,F,F,F,Y,Y,Y] []=dn (xAl false) [xIn a0,xIP a0,xSC a0,iN false,xIQ a0,xUf a0,iY true]:=by kernel_rfl
def xY7(a0:Val):rE I75 (xAp a0) [Y,F,F,F,Y,F,Y,Y] []=dn (xAl false) [xIn a0,xIP a0,xSC a0,iN false,xIQ a0,xKh a0,xJJ a0,xSB a0]:=by kernel_rfl
abbrev xJd(v0:Val):Prop:=iY ((Val.kind v0)==5)
def xY8(a0:Val)(r1:Bool):rE I75 (xAp a0) [Y,F,F,F,Y,F,Y,F,F,F,F,F,Y,Y] [xCo r1]=dn (xAl r1) [xIn a0,xIP a0,xSC a0,iN false,xIQ a0,xKh a0,xJJ a0,xLE a0,xCO a0,xDB a0,xLF a0,xFr a0,xJd a0,xHl a0,AbC 119 (xFD a0) (xCo r1)]:=by kernel_rfl
def xY9(a0:Val):rE I75 (xAp a0) [Y,F,F,F,Y,F,Y,F,F,F,F,F,Y,F] []=dn (xAl false) [xIn a0,xIP a0,xSC a0,iN false,xIQ a0,xKh a0,xJJ a0,xLE a0,xCO a0,xDB a0,xLF a0,xFr a0,xJd a0,xMv a0]:=by kernel_rfl
abbrev xQu(v0:Val):Prop:=iN ((Val.kind v0) != 3)
def xZa(a0:Val):rE I75 (xAp a0) [F,F,Y,Y] []=dn (xAl false) [xQu a0,iN false,xIo a0,xZw a0]:=by kernel_rfl
def xZb(a0:Val):rE I75 (xAp a0) [F,F,Y,F,Y,Y,Y] []=dn (xAl false) [xQu a0,iN false,xIo a0,xJc a0,xIQ a0,xUf a0,iY true]:=by kernel_rfl
def xZc(a0:Val):rE I75 (xAp a0) [F,F,Y,F,Y,F,Y,Y] []=dn (xAl false) [xQu a0,iN false,xIo a0,xJc a0,xIQ a0,xKh a0,xJJ a0,xSB a0]:=by kernel_rfl
abbrev xQv(v0:Val):Prop:=iY ((Val.kind v0)==3)
def xZd(a0:Val)(r1:Bool):rE I75 (xAp a0) [F,F,Y,F,Y,F,Y,F,F,F,Y,Y] [xDy r1]=dn (xAl r1) [xQu a0,iN false,xIo a0,xJc a0,xIQ a0,xKh a0,xJJ a0,xLE a0,xCO a0,xDB a0,xQv a0,xHl a0,AbC 118 (xG1 a0) (xDy r1)]:=by kernel_rfl
def xZe(a0:Val):rE I75 (xAp a0) [F,F,Y,F,Y,F,Y,F,F,F,Y,F] []=dn (xAl false) [xQu a0,iN false,xIo a0,xJc a0,xIQ a0,xKh a0,xJJ a0,xLE a0,xCO a0,xDB a0,xQv a0,xMv a0]:=by kernel_rfl
theorem vET{N q0 q1}(g0:G75 q0)(g1:G118 q1):∀a0 r,xDQ N q0 q1 a0=some r→RE Tryz.f75 I75 (xAp a0) (xAl r):=fun a0 r h =>
 cE h (fun h0 h=>cE h (fun h1 h=>dE h fk75 (vBF a0) (oc3 h0 h1 rfl on)) fun h1 h =>
 cE h (fun h2 h=>cE h (fun h3 h=>dE h fk75 (vBG a0) (oc4 h0 h1 h2 h3 on)) fun h3 h =>
 cE h (fun h4 h=>cE h (fun h5 h=>dE h fk75 (vBH a0) (oc7 h0 h1 h2 h3 h4 h5 rfl on)) fun h5 h =>
 cE h (fun h6 h=>cE h (fun h7 h=>dE h fk75 (vBI a0) (oc8 h0 h1 h2 h3 h4 h5 h6 h7 on)) fun h7 h =>
 cE h (fun h8 h=>bE h fun r1 h9 h=>dE h fk75 (vBJ a0 r1) (oc10 h0 h1 h2 h3 h4 h5 h6 h7 h8 (xFe h9) on)) fun h8 h =>
 cE h (fun h13 h=>bE h fun r1 h14 h=>dE h fk75 (vBK a0 r1) (oc12 h0 h1 h2 h3 h4 h5 h6 h7 h8 (zJq h4) (zJq h0) (zJq h6) (oc3 (zJq h2) h13 (xJi h14) on))) fun h13 h =>
 dE h fk75 (vBL a0) (oc12 h0 h1 h2 h3 h4 h5 h6 h7 h8 (zJq h4) (zJq h0) (zJq h6) (oc2 (zJq h2) h13 on))) fun h6 h =>
 bE h fun r1 h12 h=>cE h (fun h13 h=>bE h fun r2 h14 h=>dE h fk75 (vBM a0 r1 r2) (oc12 h0 h1 h2 h3 h4 h5 h6 rfl (eq_ne (zJq h6) rfl) (zJq h4) (zJq h0) (zJq h6) (oc3 (xFe h12) h13 (xFe h14) on))) fun h13 h =>
 dE h fk75 (vBN a0 r1) (oc12 h0 h1 h2 h3 h4 h5 h6 rfl (eq_ne (zJq h6) rfl) (zJq h4) (zJq h0) (zJq h6) (oc2 (xFe h12) h13 on))) fun h4 h =>
 cE h (fun h7 h=>dE h fk75 (vBO a0) (oc8 h0 h1 h2 h3 h4 rfl (zJp (eq_ne (zJq h4) rfl)) h7 on)) fun h7 h =>
 cE h (fun h10 h=>bE h fun r1 h11 h=>dE h fk75 (xY4 a0 r1) (oc12 h0 h1 h2 h3 h4 rfl (zJp (eq_ne (zJq h4) rfl)) h7 (eq_ne (zJq h4) rfl) (zJq h4) h10 (xLh h11) on)) fun h10 h =>
 dE h fk75 (xY5 a0) (oc11 h0 h1 h2 h3 h4 rfl (zJp (eq_ne (zJq h4) rfl)) h7 (eq_ne (zJq h4) rfl) (zJq h4) h10 on)) fun h2 h =>
 cE h (fun h5 h=>dE h fk75 (xY6 a0) (oc7 h0 h1 h2 rfl (zJp (eq_ne (zJq h2) rfl)) h5 rfl on)) fun h5 h =>
 cE h (fun h7 h=>dE h fk75 (xY7 a0) (oc8 h0 h1 h2 rfl (zJp (eq_ne (zJq h2) rfl)) h5 (zJp (eq_ne (zJq h2) rfl)) h7 on)) fun h7 h =>
 cE h (fun h13 h=>bE h fun r1 h14 h=>dE h fk75 (xY8 a0 r1) (oc12 h0 h1 h2 rfl (zJp (eq_ne (zJq h2) rfl)) h5 (zJp (eq_ne (zJq h2) rfl)) h7 (eq_ne (zJq h2) rfl) (eq_ne (zJq h2) rfl) (zJq h0) (eq_ne (zJq h2) rfl) (oc3 (zJq h2) h13 (xNB h14) on))) fun h13 h =>
 dE h fk75 (xY9 a0) (oc12 h0 h1 h2 rfl (zJp (eq_ne (zJq h2) rfl)) h5 (zJp (eq_ne (zJq h2) rfl)) h7 (eq_ne (zJq h2) rfl) (eq_ne (zJq h2) rfl) (zJq h0) (eq_ne (zJq h2) rfl) (oc2 (zJq h2) h13 on))) fun h0 h =>
 cE h (fun h3 h=>dE h fk75 (xZa a0) (oc4 h0 rfl (zJp (eq_ne (zJq h0) rfl)) h3 on)) fun h3 h =>
 cE h (fun h5 h=>dE h fk75 (xZb a0) (oc7 h0 rfl (zJp (eq_ne (zJq h0) rfl)) h3 (zJp (eq_ne (zJq h0) rfl)) h5 rfl on)) fun h5 h =>
 cE h (fun h7 h=>dE h fk75 (xZc a0) (oc8 h0 rfl (zJp (eq_ne (zJq h0) rfl)) h3 (zJp (eq_ne (zJq h0) rfl)) h5 (zJp (eq_ne (zJq h0) rfl)) h7 on)) fun h7 h =>
 cE h (fun h11 h=>bE h fun r1 h12 h=>dE h fk75 (xZd a0 r1) (oc12 h0 rfl (zJp (eq_ne (zJq h0) rfl)) h3 (zJp (eq_ne (zJq h0) rfl)) h5 (zJp (eq_ne (zJq h0) rfl)) h7 (eq_ne (zJq h0) rfl) (eq_ne (zJq h0) rfl) (zJq h0) h11 (oc (g1 _ _ h12) on))) fun h11 h =>
 dE h fk75 (xZe a0) (oc12 h0 rfl (zJp (eq_ne (zJq h0) rfl)) h3 (zJp (eq_ne (zJq h0) rfl)) h5 (zJp (eq_ne (zJq h0) rfl)) h7 (eq_ne (zJq h0) rfl) (eq_ne (zJq h0) rfl) (zJq h0) h11 on)
theorem xJx{N q0 q1}(g0:G75 q0)(g1:G118 q1){a0}{r}(h:xDQ N q0 q1 a0=some r):AbC 75 (xAp a0) (xAl r) :=
 AbsCalls.of_reach fk75 rfl rfl rfl (Nat.le_of_ble_eq_true rfl) (vET g0 g1 a0 r h)
noncomputable def I118:Info:= { body:=(Tryz.f118.body).getD .skip,nt:=36,results:= [.tmp 2],keep:= [0,2,4,6,16,52,3],live:= [(2, [2,6,3])],modes:= [(4, [(7, .take,false)]),(6, [(4, .take,false)])] }
theorem xRA:FnOk Tryz.prog 118 Tryz.f118 I118:=⟨Tryz.func118,by kernel_rfl,by kernel_rfl,by kernel_rfl,by kernel_rfl⟩
def xMm(x3:Int)(b1:Val):St:= [(2, .v false [.ptr 1 0]),(6, .v false [.int .i64 x3]),(3, .v true [.int .i64 (Val.kind b1), .int .i64 (Val.n b1), .int .i64 (Val.step b1), .str (Val.text b1), .sl .ro .val (Val.list b1), .sl .ro .str (Val.columns b1), .sl .ro .row (Val.rows b1)])]
abbrev xUg(v0:Val)(v1:Int)(v2:Bool):Prop:=AbC 158 (xEG (xKw v0 v1)) (xC2 v2)
def xV8(x3:Int)(b1:Val)(r1:Bool):rS 2 I118 (xMm x3 b1) [Y,Y,Y] [xC2 r1]=dn (xDy false) [xOr x3 b1,xKU x3 b1,xUg b1 x3 r1,iY (!r1),iY true]:=by kernel_rfl
def xV9(x3:Int)(b1:Val)(r1 r2:Bool):rS 2 I118 (xMm x3 b1) [Y,F,Y] [xC2 r1,xAl r2]=dn (xDy false) [xOr x3 b1,xKU x3 b1,xUg b1 x3 r1,iN (!r1),xKU x3 b1,AbC 75 (xAp (xKw b1 x3)) (xAl r2),iY (!r2)]:=by kernel_rfl
def xWa(x3:Int)(b1:Val)(r1 r2:Bool):rS 2 I118 (xMm x3 b1) [Y,F,F] [xC2 r1,xAl r2]=st 2 I118 (xMm (W (x3+1)) b1) [xOr x3 b1,xKU x3 b1,xUg b1 x3 r1,iN (!r1),xKU x3 b1,AbC 75 (xAp (xKw b1 x3)) (xAl r2),iN (!r2)]:=by kernel_rfl
abbrev xOZ(v0:Val):=dc ((Ln (Val.list v0):Int)≤8)
def xWb(x3:Int)(b1:Val)(r1:Int):rS 2 I118 (xMm x3 b1) [F,Y] [xDf r1]=dn (xDy (dc (r1≤3))) [xSx x3 b1,iY (xOZ b1),AbC 159 (xE0 b1) (xDf r1)]:=by kernel_rfl
def xWc(x3:Int)(b1:Val):rS 2 I118 (xMm x3 b1) [F,F] []=dn (xDy false) [xSx x3 b1,iN (xOZ b1)]:=by kernel_rfl
def xWd(a0:Val):rE I118 (xG1 a0) [] []=st 2 I118 (xMm 0 a0) []:=by kernel_rfl
theorem vCZ{N q0 q1}(g0:G75 q0)(g1:G118 q1):∀n x3 b1 r,xEA N q0 q1 n x3 b1=some r→RS Tryz.f118 I118 2 (xMm x3 b1) (xDy r):=by
 intro n
 induction n with
 |zero=>exact fun _ _ _ h=>nE h
 |succ n ih =>
  exact fun x3 b1 r h =>
   cE h (fun h0 h=>iE h fun h1 h=>bE h fun r1 h2 h=>cE h (fun h3 h=>dS h xRA (xV8 x3 b1 r1) (oc5 h0 h1 (xHV h2) h3 rfl on)) fun h3 h =>
   bE h fun r2 h5 h=>cE h (fun h6 h=>dS h xRA (xV9 x3 b1 r1 r2) (oc7 h0 h1 (xHV h2) h3 h1 (g0 _ _ h5) h6 on)) fun h6 h =>
   tS xRA (xWa x3 b1 r1 r2) (oc7 h0 h1 (xHV h2) h3 h1 (g0 _ _ h5) h6 on) (ih _ _ _ h)) fun h0 h =>
   cE h (fun h1 h=>bE h fun r1 h2 h=>dS h xRA (xWb x3 b1 r1) (oc3 h0 h1 (xNu h2) on)) fun h1 h =>
   dS h xRA (xWc x3 b1) (oc2 h0 h1 on)
theorem vC0{N q0 q1}(g0:G75 q0)(g1:G118 q1):∀a0 r,xIk N q0 q1 a0=some r→RE Tryz.f118 I118 (xG1 a0) (xDy r):=fun a0 r h =>
 tE xRA (xWd a0) on (vCZ g0 g1 _ _ _ _ h)
theorem xLl{N q0 q1}(g0:G75 q0)(g1:G118 q1){a0}{r}(h:xIk N q0 q1 a0=some r):AbC 118 (xG1 a0) (xDy r) :=
 AbsCalls.of_reach xRA rfl rfl rfl (Nat.le_of_ble_eq_true rfl) (vC0 g0 g1 a0 r h)
theorem xJO{N:Nat}:∀d,G75 (xAA N d).c_spec_IsValidValue∧G118 (xAA N d).c_spec_l3List:=by
 intro d
 induction d with
 |zero=>exact⟨fun _ _ h=>nE h,fun _ _ h=>nE h⟩
 |succ d ih =>
  obtain⟨ih0,ih1⟩:=ih
  exact⟨fun _ _ h=>xJx (N:=N) ih0 ih1 h,fun _ _ h=>xLl (N:=N) ih0 ih1 h⟩
theorem xGS{N:Nat}{a0:Val}{r:Bool}(h:xHT N a0=some r):AbC 75 (xAp a0) (xAl r):=(xJO N).1 _ r h
noncomputable def I36:Info:= { body:=(Tryz.f36.body).getD .skip,nt:=5,results:= [.cell 2 31],keep:= [0,4,5],live:= [],modes:= [] }
theorem fk36:FnOk Tryz.prog 36 Tryz.f36 I36:=⟨Tryz.func36,by kernel_rfl,by kernel_rfl,by kernel_rfl,by kernel_rfl⟩
def vAn(a0:Int):rE I36 (xB2 a0) [] []=dn (xAM (Val.mk 6 a0 0 [] [] [] [])) []:=by kernel_rfl
theorem vEp{N:Nat}:∀a0 r,xBF N a0=some r→RE Tryz.f36 I36 (xB2 a0) (xAM r):=fun a0 r h =>
 dE h fk36 (vAn a0) on
theorem xCL{N:Nat}{a0:Int}{r:Val}(h:xBF N  a0=some r):AbC 36 (xB2 a0) (xAM r) :=
 AbsCalls.of_reach fk36 rfl rfl rfl (Nat.le_of_ble_eq_true rfl) (vEp a0 r h)
noncomputable def I85:Info:= { body:=(Tryz.f85.body).getD .skip,nt:=31,results:= [.cell 2 31, .tmp 3],keep:= [0,4,6,8,16,32,46,5],live:= [(2, [0,4,8,5])],modes:= [] }
theorem fk85:FnOk Tryz.prog 85 Tryz.f85 I85:=⟨Tryz.func85,by kernel_rfl,by kernel_rfl,by kernel_rfl,by kernel_rfl⟩
def xRf(x0:List Val)(x4:Int)(b2:Val):St:= [(0, .v false [.sl .ro .val x0]),(4, .v false [.ptr 2 0]),(8, .v false [.int .i64 x4]),(5, .v true [.int .i64 (Val.kind b2), .int .i64 (Val.n b2), .int .i64 (Val.step b2), .str (Val.text b2), .sl .own .val (Val.list b2), .sl .own .str (Val.columns b2), .sl .own .row (Val.rows b2)])]
abbrev xQw(v0:Int)(v1:List Val):Prop:=iY (dc (v0<(Ln v1:Int)))
abbrev xGX(v0:Int)(v1:List Val):Prop:=(0:Int)≤v0∧v0<(Ln v1)
abbrev xLf(v0:List Val)(v1:Int):=gD v0 (tN v1) vd
def vBR(x0:List Val)(x4:Int)(b2:Val)(r1:Bool)(r2:Val):rS 2 I85 (xRf x0 x4 b2) [Y,Y] [xAl r1,xAM r2]=dn (xDl (r2,true)) [xQw x4 x0,xGX x4 x0,AbC 75 (xAp (xLf x0 x4)) (xAl r1),iY (!r1),AbC 36 (xB2 4) (xAM r2)]:=by kernel_rfl
abbrev xO0(v0:List Val)(v1:Int):=((Val.kind (gD v0 (tN v1) vd)):Int)==6
def vBS(x0:List Val)(x4:Int)(b2:Val)(r1:Bool)(r2:Val):rS 2 I85 (xRf x0 x4 b2) [Y,F,Y] [xAl r1,xAM r2]=dn (xDl (r2,true)) [xQw x4 x0,xGX x4 x0,AbC 75 (xAp (xLf x0 x4)) (xAl r1),iN (!r1),xGX x4 x0,iY (xO0 x0 x4),xGX x4 x0,AbC 36 (xB2 (Val.n (xLf x0 x4))) (xAM r2)]:=by kernel_rfl
def vBT(x0:List Val)(x4:Int)(b2:Val)(r1:Bool):rS 2 I85 (xRf x0 x4 b2) [Y,F,F] [xAl r1]=st 2 I85 (xRf x0 (W (x4+1)) b2) [xQw x4 x0,xGX x4 x0,AbC 75 (xAp (xLf x0 x4)) (xAl r1),iN (!r1),xGX x4 x0,iN (xO0 x0 x4)]:=by kernel_rfl
def vBU(x0:List Val)(x4:Int)(b2:Val):rS 2 I85 (xRf x0 x4 b2) [F] []=dn (xDl ((Val.mk 0 0 0 [] [] [] []),false)) [iN (dc (x4<(Ln x0:Int)))]:=by kernel_rfl
def vBV(a0:List Val):rE I85 (xGz a0) [] []=st 2 I85 (xRf a0 0 (Val.mk 0 0 0 [] [] [] [])) []:=by kernel_rfl
theorem vEW{N:Nat}:∀n x0 x4 b2 r,xEe N n x0 x4 b2=some r→RS Tryz.f85 I85 2 (xRf x0 x4 b2) (xDl r):=by
 intro n
 induction n with
 |zero=>exact fun _ _ _ _ h=>nE h
 |succ n ih =>
  exact fun x0 x4 b2 r h =>
   cE h (fun h0 h=>iE h fun h1 h=>bE h fun r1 h2 h=>cE h (fun h3 h=>bE h fun r2 h4 h=>dS h fk85 (vBR x0 x4 b2 r1 r2) (oc5 h0 h1 (xGS h2) h3 (xCL h4) on)) fun h3 h =>
   cE h (fun h5 h=>bE h fun r2 h7 h=>dS h fk85 (vBS x0 x4 b2 r1 r2) (oc8 h0 h1 (xGS h2) h3 h1 h5 h1 (xCL h7) on)) fun h5 h =>
   tS fk85 (vBT x0 x4 b2 r1) (oc6 h0 h1 (xGS h2) h3 h1 h5 on) (ih _ _ _ _ h)) fun h0 h =>
   dS h fk85 (vBU x0 x4 b2) (oc h0 on)
theorem vEX{N:Nat}:∀a0 r,xJl N a0=some r→RE Tryz.f85 I85 (xGz a0) (xDl r):=fun a0 r h =>
 tE fk85 (vBV a0) on (vEW _ _ _ _ _ h)
theorem xKE{N:Nat}{a0:List Val}{r:Val × Bool}(h:xJl N  a0=some r):AbC 85 (xGz a0) (xDl r) :=
 AbsCalls.of_reach fk85 rfl rfl rfl (Nat.le_of_ble_eq_true rfl) (vEX a0 r h)
noncomputable def I35:Info:= { body:=(Tryz.f35.body).getD .skip,nt:=34,results:= [.cell 4 31, .tmp 5],keep:= [0,2,8,10,12,14,16,28,38,62,9,13],live:= [(5, [0,2,8,16,9])],modes:= [(1, [(2, .take,false)]),(2, [(0, .take,false)]),(3, [(0, .take,false)])] }
theorem fk35:FnOk Tryz.prog 35 Tryz.f35 I35:=⟨Tryz.func35,by kernel_rfl,by kernel_rfl,by kernel_rfl,by kernel_rfl⟩
def xSN(x0:List Val)(x1:List Int)(x8:Int)(b4:Val):St:= [(0, .v false [.sl .ro .val x0]),(2, .v false [.sl .ro .int x1]),(8, .v false [.ptr 4 0]),(16, .v false [.int .i64 x8]),(9, .v true [.int .i64 (Val.kind b4), .int .i64 (Val.n b4), .int .i64 (Val.step b4), .str (Val.text b4), .sl .own .val (Val.list b4), .sl .own .str (Val.columns b4), .sl .own .row (Val.rows b4)])]
abbrev xIR(v0:Int)(v1:List Int):Prop:=(0:Int)≤v0∧v0<(Ln v1)
abbrev xO1(v0:List Val)(v1:Int)(v2:List Int):=((Val.kind (gD v0 (tN v1) vd)):Int) != (gD v2 (tN v1) Ty.int.dflt)
def vAi(x0:List Val)(x1:List Int)(x8:Int)(b4 r1:Val):rS 5 I35 (xSN x0 x1 x8 b4) [Y,Y] [xAM r1]=dn (xCp (r1,true)) [xQw x8 x0,xGX x8 x0,xIR x8 x1,iY (xO1 x0 x8 x1),AbC 36 (xB2 4) (xAM r1)]:=by kernel_rfl
def vAj(x0:List Val)(x1:List Int)(x8:Int)(b4:Val):rS 5 I35 (xSN x0 x1 x8 b4) [Y,F] []=st 5 I35 (xSN x0 x1 (W (x8+1)) b4) [xQw x8 x0,xGX x8 x0,xIR x8 x1,iN (xO1 x0 x8 x1)]:=by kernel_rfl
def vAk(x0:List Val)(x1:List Int)(x8:Int)(b4:Val):rS 5 I35 (xSN x0 x1 x8 b4) [F] []=dn (xCp ((Val.mk 0 0 0 [] [] [] []),false)) [iN (dc (x8<(Ln x0:Int)))]:=by kernel_rfl
def vAl(a0:List Val)(a1:List Int)(r1:Val × Bool):rE I35 (xGA a0 a1) [Y] [xDl r1]=dn (xCp (r1.1,true)) [AbC 85 (xGz a0) (xDl r1),iY r1.2]:=by kernel_rfl
def vAm(a0:List Val)(a1:List Int)(r1:Val × Bool):rE I35 (xGA a0 a1) [F] [xDl r1]=st 5 I35 (xSN a0 a1 0 (Val.mk 0 0 0 [] [] [] [])) [AbC 85 (xGz a0) (xDl r1),iN r1.2]:=by kernel_rfl
theorem vEn{N:Nat}:∀n x0 x1 x8 b4 r,xEf N n x0 x1 x8 b4=some r→RS Tryz.f35 I35 5 (xSN x0 x1 x8 b4) (xCp r):=by
 intro n
 induction n with
 |zero=>exact fun _ _ _ _ _ h=>nE h
 |succ n ih =>
  exact fun x0 x1 x8 b4 r h =>
   cE h (fun h0 h=>iE h fun h1 h=>iE h fun h2 h=>cE h (fun h3 h=>bE h fun r1 h4 h=>dS h fk35 (vAi x0 x1 x8 b4 r1) (oc5 h0 h1 h2 h3 (xCL h4) on)) fun h3 h =>
   tS fk35 (vAj x0 x1 x8 b4) (oc4 h0 h1 h2 h3 on) (ih _ _ _ _ _ h)) fun h0 h =>
   dS h fk35 (vAk x0 x1 x8 b4) (oc h0 on)
theorem vEo{N:Nat}:∀a0 a1 r,xIf N a0 a1=some r→RE Tryz.f35 I35 (xGA a0 a1) (xCp r):=fun a0 a1 r h =>
 bE h fun r1 h0 h=>cE h (fun h1 h=>dE h fk35 (vAl a0 a1 r1) (oc2 (xKE h0) h1 on)) fun h1 h =>
 tE fk35 (vAm a0 a1 r1) (oc2 (xKE h0) h1 on) (vEn _ _ _ _ _ _ h)
theorem xFF{N:Nat}{a0:List Val}{a1:List Int}{r:Val × Bool}(h:xIf N  a0 a1=some r):AbC 35 (xGA a0 a1) (xCp r) :=
 AbsCalls.of_reach fk35 rfl rfl rfl (Nat.le_of_ble_eq_true rfl) (vEo a0 a1 r h)
noncomputable def I61:Info:= { body:=(Tryz.f61.body).getD .skip,nt:=19,results:= [.tmp 4],keep:= [0,2,8,10,18,34],live:= [(2, [0,2,10])],modes:= [] }
theorem fk61:FnOk Tryz.prog 61 Tryz.f61 I61:=⟨Tryz.func61,by kernel_rfl,by kernel_rfl,by kernel_rfl,by kernel_rfl⟩
def xSS(x0:List Str)(x1:Str)(x5:Int):St:= [(0, .v false [.sl .ro .str x0]),(2, .v false [.str x1]),(10, .v false [.int .i64 x5])]
def vBl(x0:List Str)(x1:Str)(x5:Int):rS 2 I61 (xSS x0 x1 x5) [Y,Y] []=dn (xE3 x5) [xKV x5 x0,xHj x5 x0,iY (xMb x0 x5 x1)]:=by kernel_rfl
def vBm(x0:List Str)(x1:Str)(x5:Int):rS 2 I61 (xSS x0 x1 x5) [Y,F] []=st 2 I61 (xSS x0 x1 (W (x5+1))) [xKV x5 x0,xHj x5 x0,iN (xMb x0 x5 x1)]:=by kernel_rfl
def vBn(x0:List Str)(x1:Str)(x5:Int):rS 2 I61 (xSS x0 x1 x5) [F] []=dn (xE3 (-1)) [xOs x5 x0]:=by kernel_rfl
def vBo(a0:List Str)(a1:Str):rE I61 (xHB a0 a1) [] []=st 2 I61 (xSS a0 a1 0) []:=by kernel_rfl
theorem vEL{N:Nat}:∀n x0 x1 x5 r,xE2 N n x0 x1 x5=some r→RS Tryz.f61 I61 2 (xSS x0 x1 x5) (xE3 r):=by
 intro n
 induction n with
 |zero=>exact fun _ _ _ _ h=>nE h
 |succ n ih =>
  exact fun x0 x1 x5 r h =>
   cE h (fun h0 h=>iE h fun h1 h=>cE h (fun h2 h=>dS h fk61 (vBl x0 x1 x5) (oc3 h0 h1 h2 on)) fun h2 h =>
   tS fk61 (vBm x0 x1 x5) (oc3 h0 h1 h2 on) (ih _ _ _ _ h)) fun h0 h =>
   dS h fk61 (vBn x0 x1 x5) (oc h0 on)
theorem vEM{N:Nat}:∀a0 a1 r,xJh N a0 a1=some r→RE Tryz.f61 I61 (xHB a0 a1) (xE3 r):=fun a0 a1 r h =>
 tE fk61 (vBo a0 a1) on (vEL _ _ _ _ _ h)
theorem xNx{N:Nat}{a0:List Str}{a1:Str}{r:Int}(h:xJh N  a0 a1=some r):AbC 61 (xHB a0 a1) (xE3 r) :=
 AbsCalls.of_reach fk61 rfl rfl rfl (Nat.le_of_ble_eq_true rfl) (vEM a0 a1 r h)
noncomputable def I18:Info:= { body:=(Tryz.f18.body).getD .skip,nt:=9,results:= [.tmp 4],keep:= [0,2,4,8,5],live:= [],modes:= [] }
theorem fk18:FnOk Tryz.prog 18 Tryz.f18 I18:=⟨Tryz.func18,by kernel_rfl,by kernel_rfl,by kernel_rfl,by kernel_rfl⟩
def vAb(a0:Val)(a1:Str)(r1:Int):rE I18 (xCT a0 a1) [] [xE3 r1]=dn (xAF r1) [AbC 61 (xHB (xCN a0) a1) (xE3 r1)]:=by kernel_rfl
theorem vEj{N:Nat}:∀a0 a1 r,xCm N a0 a1=some r→RE Tryz.f18 I18 (xCT a0 a1) (xAF r):=fun a0 a1 r h =>
 bE h fun r1 h0 h=>dE h fk18 (vAb a0 a1 r1) (oc (xNx h0) on)
theorem xBt{N:Nat}{a0:Val}{a1:Str}{r:Int}(h:xCm N  a0 a1=some r):AbC 18 (xCT a0 a1) (xAF r) :=
 AbsCalls.of_reach fk18 rfl rfl rfl (Nat.le_of_ble_eq_true rfl) (vEj a0 a1 r h)
noncomputable def I87:Info:= { body:=(Tryz.f87.body).getD .skip,nt:=87,results:= [.tmp 4],keep:= [0,2,8,10,12,14,36,60,122],live:= [(4, [0,2,10,12,14])],modes:= [(4, [(4, .take,false)]),(5, [(0, .take,false)]),(8, [(4, .take,false),(9, .take,false)]),(9, [(0, .take,false)]),(11, [(4, .take,false)]),(12, [(0, .take,false)]),(14, [(0, .take,false)])] }
theorem fk87:FnOk Tryz.prog 87 Tryz.f87 I87:=⟨Tryz.func87,by kernel_rfl,by kernel_rfl,by kernel_rfl,by kernel_rfl⟩
def xJn(x0 x1 x5:List Org)(x6 x7:Int):St:= [(0, .v false [.sl .ro .org x0]),(2, .v false [.sl .ro .org x1]),(10, .v false [.sl .own .org x5]),(12, .v false [.int .i64 x6]),(14, .v false [.int .i64 x7])]
abbrev xLG(v0 v1:List Org)(v2:Int):Prop:=Ln v0+Ln [(xGj v1 v2)]≤Lim
def vB0(x0 x1 x5:List Org)(x6 x7:Int):rS 4 I87 (xJn x0 x1 x5 x6 x7) [Y,Y,Y,Y] []=st 4 I87 (xJn x0 x1 (x5++ [(xGj x0 x6)]) (W (x6+1)) x7) [xHk x6 x0,iY true,iY (x7==(Ln x1:Int)),iY true,xEX x6 x0,xLG x5 x0 x6]:=by kernel_rfl
abbrev xKz(v0:Int)(v1:List Org):Prop:=iN (v0==(Ln v1:Int))
abbrev xMw(v0:List Org)(v1:Int)(v2:List Org)(v3:Int)(v4:Bool):Prop:=AbC 126 (xDM (xGj v0 v1) (xGj v2 v3)) (xBl v4)
def vB1(x0 x1 x5:List Org)(x6 x7:Int)(r1:Bool):rS 4 I87 (xJn x0 x1 x5 x6 x7) [Y,Y,F,Y,Y] [xBl r1]=st 4 I87 (xJn x0 x1 (x5++ [(xGj x0 x6)]) (W (x6+1)) x7) [xHk x6 x0,iY true,xKz x7 x1,xHk x6 x0,xEX x6 x0,xEX x7 x1,xMw x0 x6 x1 x7 r1,iY r1,xEX x6 x0,xLG x5 x0 x6]:=by kernel_rfl
def vB2(x0 x1 x5:List Org)(x6 x7:Int)(r1:Bool):rS 4 I87 (xJn x0 x1 x5 x6 x7) [Y,Y,F,Y,F,Y,Y] [xBl r1]=st 4 I87 (xJn x0 x1 (x5++ [(xGj x1 x7)]) x6 (W (x7+1))) [xHk x6 x0,iY true,xKz x7 x1,xHk x6 x0,xEX x6 x0,xEX x7 x1,xMw x0 x6 x1 x7 r1,iN r1,iY (x6==(Ln x0:Int)),iY true,xEX x7 x1,xLG x5 x1 x7]:=by kernel_rfl
def vB3(x0 x1 x5:List Org)(x6 x7:Int)(r1 r2:Bool):rS 4 I87 (xJn x0 x1 x5 x6 x7) [Y,Y,F,Y,F,F,Y] [xBl r1,xBl r2]=st 4 I87 (xJn x0 x1 (x5++ [(xGj x1 x7)]) x6 (W (x7+1))) [xHk x6 x0,iY true,xKz x7 x1,xHk x6 x0,xEX x6 x0,xEX x7 x1,xMw x0 x6 x1 x7 r1,iN r1,xKz x6 x0,xEX x7 x1,xEX x6 x0,xMw x1 x7 x0 x6 r2,iY r2,xEX x7 x1,xLG x5 x1 x7]:=by kernel_rfl
def vB4(x0 x1 x5:List Org)(x6 x7:Int)(r1 r2:Bool):rS 4 I87 (xJn x0 x1 x5 x6 x7) [Y,Y,F,Y,F,F,F] [xBl r1,xBl r2]=st 4 I87 (xJn x0 x1 (x5++ [(xGj x0 x6)]) (W (x6+1)) (W (x7+1))) [xHk x6 x0,iY true,xKz x7 x1,xHk x6 x0,xEX x6 x0,xEX x7 x1,xMw x0 x6 x1 x7 r1,iN r1,xKz x6 x0,xEX x7 x1,xEX x6 x0,xMw x1 x7 x0 x6 r2,iN r2,xEX x6 x0,xLG x5 x0 x6]:=by kernel_rfl
def vB5(x0 x1 x5:List Org)(x6 x7:Int):rS 4 I87 (xJn x0 x1 x5 x6 x7) [F,Y,Y,Y] []=st 4 I87 (xJn x0 x1 (x5++ [(xGj x0 x6)]) (W (x6+1)) x7) [xKy x6 x0,xHk x7 x1,iY (x7==(Ln x1:Int)),iY true,xEX x6 x0,xLG x5 x0 x6]:=by kernel_rfl
def vB6(x0 x1 x5:List Org)(x6 x7:Int):rS 4 I87 (xJn x0 x1 x5 x6 x7) [F,Y,F,F,F,Y,Y] []=st 4 I87 (xJn x0 x1 (x5++ [(xGj x1 x7)]) x6 (W (x7+1))) [xKy x6 x0,xHk x7 x1,xKz x7 x1,xKy x6 x0,iN false,iY (x6==(Ln x0:Int)),iY true,xEX x7 x1,xLG x5 x1 x7]:=by kernel_rfl
def vB7(x0 x1 x5:List Org)(x6 x7:Int)(r1:Bool):rS 4 I87 (xJn x0 x1 x5 x6 x7) [F,Y,F,F,F,F,Y] [xBl r1]=st 4 I87 (xJn x0 x1 (x5++ [(xGj x1 x7)]) x6 (W (x7+1))) [xKy x6 x0,xHk x7 x1,xKz x7 x1,xKy x6 x0,iN false,xKz x6 x0,xEX x7 x1,xEX x6 x0,xMw x1 x7 x0 x6 r1,iY r1,xEX x7 x1,xLG x5 x1 x7]:=by kernel_rfl
def vB8(x0 x1 x5:List Org)(x6 x7:Int)(r1:Bool):rS 4 I87 (xJn x0 x1 x5 x6 x7) [F,Y,F,F,F,F,F] [xBl r1]=st 4 I87 (xJn x0 x1 (x5++ [(xGj x0 x6)]) (W (x6+1)) (W (x7+1))) [xKy x6 x0,xHk x7 x1,xKz x7 x1,xKy x6 x0,iN false,xKz x6 x0,xEX x7 x1,xEX x6 x0,xMw x1 x7 x0 x6 r1,iN r1,xEX x6 x0,xLG x5 x0 x6]:=by kernel_rfl
def vB9(x0 x1 x5:List Org)(x6 x7:Int):rS 4 I87 (xJn x0 x1 x5 x6 x7) [F,F] []=dn (xFG x5) [xKy x6 x0,xKy x7 x1]:=by kernel_rfl
def xZf(a0 a1:List Org):rE I87 (xHF a0 a1) [] []=st 4 I87 (xJn a0 a1 [] 0 0) []:=by kernel_rfl
theorem vE0{N:Nat}:∀n x0 x1 x5 x6 x7 r,xBH N n x0 x1 x5 x6 x7=some r→RS Tryz.f87 I87 4 (xJn x0 x1 x5 x6 x7) (xFG r):=by
 intro n
 induction n with
 |zero=>exact fun _ _ _ _ _ _ h=>nE h
 |succ n ih =>
  exact fun x0 x1 x5 x6 x7 r h =>
   cE h (fun h0 h=>cE h (fun h2 h=>iE h fun h4 h=>iE h fun h5 h=>tS fk87 (vB0 x0 x1 x5 x6 x7) (oc6 h0 rfl h2 rfl h4 h5 on) (ih _ _ _ _ _ _ h)) fun h2 h =>
   iE h fun h4 h=>iE h fun h5 h=>bE h fun r1 h6 h=>cE h (fun h7 h=>iE h fun h9 h=>tS fk87 (vB1 x0 x1 x5 x6 x7 r1) (oc10 h0 rfl h2 h0 h4 h5 (xCX h6) h7 h4 h9 on) (ih _ _ _ _ _ _ h)) fun h7 h =>
   cE h (fun h8 h=>iE h fun h11 h=>tS fk87 (vB2 x0 x1 x5 x6 x7 r1) (oc12 h0 rfl h2 h0 h4 h5 (xCX h6) h7 h8 rfl h5 h11 on) (ih _ _ _ _ _ _ h)) fun h8 h =>
   bE h fun r2 h11 h=>cE h (fun h12 h=>iE h fun h14 h=>tS fk87 (vB3 x0 x1 x5 x6 x7 r1 r2) (oc12 h0 rfl h2 h0 h4 h5 (xCX h6) h7 h8 h5 h4 (xCX h11) (oc3 h12 h5 h14 on)) (ih _ _ _ _ _ _ h)) fun h12 h =>
   iE h fun h14 h=>tS fk87 (vB4 x0 x1 x5 x6 x7 r1 r2) (oc12 h0 rfl h2 h0 h4 h5 (xCX h6) h7 h8 h5 h4 (xCX h11) (oc3 h12 h4 h14 on)) (ih _ _ _ _ _ _ h)) fun h0 h =>
   cE h (fun h1 h=>cE h (fun h2 h=>iE h fun h4 h=>iE h fun h5 h=>tS fk87 (vB5 x0 x1 x5 x6 x7) (oc6 h0 h1 h2 rfl h4 h5 on) (ih _ _ _ _ _ _ h)) fun h2 h =>
   cE h (fun h5 h=>iE h fun h7 h=>iE h fun h8 h=>tS fk87 (vB6 x0 x1 x5 x6 x7) (oc9 h0 h1 h2 h0 rfl h5 rfl h7 h8 on) (ih _ _ _ _ _ _ h)) fun h5 h =>
   iE h fun h6 h=>iE h fun h7 h=>bE h fun r1 h8 h=>cE h (fun h9 h=>iE h fun h11 h=>tS fk87 (vB7 x0 x1 x5 x6 x7 r1) (oc12 h0 h1 h2 h0 rfl h5 h6 h7 (xCX h8) h9 h6 h11 on) (ih _ _ _ _ _ _ h)) fun h9 h =>
   iE h fun h11 h=>tS fk87 (vB8 x0 x1 x5 x6 x7 r1) (oc12 h0 h1 h2 h0 rfl h5 h6 h7 (xCX h8) h9 h7 h11 on) (ih _ _ _ _ _ _ h)) fun h1 h =>
   dS h fk87 (vB9 x0 x1 x5 x6 x7) (oc2 h0 h1 on)
theorem vE1{N:Nat}:∀a0 a1 r,xIg N a0 a1=some r→RE Tryz.f87 I87 (xHF a0 a1) (xFG r):=fun a0 a1 r h =>
 tE fk87 (xZf a0 a1) on (vE0 _ _ _ _ _ _ _ h)
theorem xND{N:Nat}{a0:List Org}{a1:List Org}{r:(List Org)}(h:xIg N  a0 a1=some r):AbC 87 (xHF a0 a1) (xFG r) :=
 AbsCalls.of_reach fk87 rfl rfl rfl (Nat.le_of_ble_eq_true rfl) (vE1 a0 a1 r h)
noncomputable def I38:Info:= { body:=(Tryz.f38.body).getD .skip,nt:=33,results:= [.cell 6 45],keep:= [0,2,4,6,8,12,14,7,9,13,15],live:= [],modes:= [(2, [(1, .take,false)]),(3, [(0, .take,false)])] }
theorem fk38:FnOk Tryz.prog 38 Tryz.f38 I38:=⟨Tryz.func38,by kernel_rfl,by kernel_rfl,by kernel_rfl,by kernel_rfl⟩
abbrev xT7(v0:Int):=tN (W (v0+1))
def vAs(a0 a1:Rowd)(a2:Int)(r1:(List Org)):rE I38 (xH6 a0 a1 a2) [] [xFG r1]=dn (xG3 (Rowd.mk ((([]++(xE9 a0))++(List.take (tN a2) (xE9 a1)))++(List.drop (xT7 a2) (xE9 a1))) r1)) [0+Ln (xE9 a0)≤Lim,AbC 87 (xHF (Rowd.frm a0) (Rowd.frm a1)) (xFG r1),(0:Int)≤a2∧a2≤(Ln (xE9 a1)),Ln ([]++(xE9 a0))+Ln (List.take (tN a2) (xE9 a1))≤Lim,(0:Int)≤(W (a2+1))∧(W (a2+1))≤(Ln (xE9 a1)),Ln (([]++(xE9 a0))++(List.take (tN a2) (xE9 a1)))+Ln (List.drop (xT7 a2) (xE9 a1))≤Lim]:=by kernel_rfl
theorem vEs{N:Nat}:∀a0 a1 a2 r,xI6 N a0 a1 a2=some r→RE Tryz.f38 I38 (xH6 a0 a1 a2) (xG3 r):=fun a0 a1 a2 r h =>
 iE h fun h0 h=>bE h fun r1 h1 h=>iE h fun h2 h=>iE h fun h3 h=>iE h fun h4 h=>iE h fun h5 h=>dE h fk38 (vAs a0 a1 a2 r1) (oc6 h0 (xND h1) h2 h3 h4 h5 on)
theorem xOe{N:Nat}{a0:Rowd}{a1:Rowd}{a2:Int}{r:Rowd}(h:xI6 N  a0 a1 a2=some r):AbC 38 (xH6 a0 a1 a2) (xG3 r) :=
 AbsCalls.of_reach fk38 rfl rfl rfl (Nat.le_of_ble_eq_true rfl) (vEs a0 a1 a2 r h)
end Go.Ab.T
end
section
open Go.Proofs
namespace Go.Ab.T
set_option maxRecDepth 100000
variable [Inhabited Lb]
noncomputable def I9:Info:= { body:=(Tryz.f9.body).getD .skip,nt:=125,results:= [.cell 6 31],keep:= [0,2,4,6,8,10,12,14,16,18,20,22,24,26,46,76,124,134,146,160,202,244,7,9,11,13,15,23],live:= [(15, [8,10,12,18,20,22,24,9,11,13,23]),(18, [8,10,12,18,20,22,24,26,9,11,13,23])],modes:= [(1, [(6, .take,false)]),(2, [(0, .take,false)]),(3, [(0, .take,false)]),(6, [(2, .take,false)]),(9, [(1, .take,false)]),(21, [(1, .take,false),(15, .take,false)]),(24, [(0, .take,false)])] }
theorem fk9:FnOk Tryz.prog 9 Tryz.f9 I9:=⟨Tryz.func9,by kernel_rfl,by kernel_rfl,by kernel_rfl,by kernel_rfl⟩
def xRh(x9 x10 x12:Int)(b4 b5 b6 b11:Val):St:= [(8, .v false [.ptr 4 0]),(10, .v false [.ptr 5 0]),(12, .v false [.ptr 6 0]),(18, .v false [.int .i64 x9]),(20, .v false [.int .i64 x10]),(22, .v false [.ptr 11 0]),(24, .v false [.int .i64 x12]),(9, .v true [.int .i64 (Val.kind b4), .int .i64 (Val.n b4), .int .i64 (Val.step b4), .str (Val.text b4), .sl .ro .val (Val.list b4), .sl .ro .str (Val.columns b4), .sl .ro .row (Val.rows b4)]),(11, .v true [.int .i64 (Val.kind b5), .int .i64 (Val.n b5), .int .i64 (Val.step b5), .str (Val.text b5), .sl .ro .val (Val.list b5), .sl .ro .str (Val.columns b5), .sl .ro .row (Val.rows b5)]),(13, .v true [.int .i64 (Val.kind b6), .int .i64 (Val.n b6), .int .i64 (Val.step b6), .str (Val.text b6), .sl .own .val (Val.list b6), .sl .own .str (Val.columns b6), .sl .own .row (Val.rows b6)]),(23, .v true [.int .i64 (Val.kind b11), .int .i64 (Val.n b11), .int .i64 (Val.step b11), .str (Val.text b11), .sl .own .val (Val.list b11), .sl .own .str (Val.columns b11), .sl .own .row (Val.rows b11)])]
def xRi(x9 x10 x12 x13:Int)(b4 b5 b6 b11:Val):St:= [(8, .v false [.ptr 4 0]),(10, .v false [.ptr 5 0]),(12, .v false [.ptr 6 0]),(18, .v false [.int .i64 x9]),(20, .v false [.int .i64 x10]),(22, .v false [.ptr 11 0]),(24, .v false [.int .i64 x12]),(26, .v false [.int .i64 x13]),(9, .v true [.int .i64 (Val.kind b4), .int .i64 (Val.n b4), .int .i64 (Val.step b4), .str (Val.text b4), .sl .ro .val (Val.list b4), .sl .ro .str (Val.columns b4), .sl .ro .row (Val.rows b4)]),(11, .v true [.int .i64 (Val.kind b5), .int .i64 (Val.n b5), .int .i64 (Val.step b5), .str (Val.text b5), .sl .ro .val (Val.list b5), .sl .ro .str (Val.columns b5), .sl .ro .row (Val.rows b5)]),(13, .v true [.int .i64 (Val.kind b6), .int .i64 (Val.n b6), .int .i64 (Val.step b6), .str (Val.text b6), .sl .own .val (Val.list b6), .sl .own .str (Val.columns b6), .sl .own .row (Val.rows b6)]),(23, .v true [.int .i64 (Val.kind b11), .int .i64 (Val.n b11), .int .i64 (Val.step b11), .str (Val.text b11), .sl .own .val (Val.list b11), .sl .own .str (Val.columns b11), .sl .own .row (Val.rows b11)])]
abbrev xLe(v0:Val)(v1:Int):=Rowd.cells (gD (Val.rows v0) (tN v1) rd)
abbrev xIS(v0:Int)(v1:Val)(v2:Int):Prop:=(0:Int)≤v0∧v0<(Ln (xLe v1 v2))
abbrev xT8(v0:Val)(v1 v2:Int)(v3:Val)(v4 v5:Int):=((gD (Rowd.cells (gD (Val.rows v0) (tN v1) rd)) (tN v2) Ty.int.dflt):Int)==(gD (Rowd.cells (gD (Val.rows v3) (tN v4) rd)) (tN v5) Ty.int.dflt)
def vCq(x9 x10 x12 x13:Int)(b4 b5 b6 b11:Val)(r1:Rowd):rS 18 I9 (xRi x9 x10 x12 x13 b4 b5 b6 b11) [Y,Y] [xG3 r1]=st 18 I9 (xRi x9 x10 x12 (W (x13+1)) b4 b5 b6 (Val.mk (Val.kind b11) (Val.n b11) (Val.step b11) (Val.text b11) (Val.list b11) (xCN b11) ((Val.rows b11)++ [r1]))) [xIa x13 b5,xCP x12 b4,xIS x9 b4 x12,xCP x13 b5,xIS x10 b5 x13,iY (xT8 b4 x12 x9 b5 x13 x10),xCP x12 b4,xCP x13 b5,AbC 38 (xH6 (xRT b4 x12) (xRT b5 x13) x10) (xG3 r1),Ln (Val.rows b11)+Ln [r1]≤Lim]:=by kernel_rfl
def vCr(x9 x10 x12 x13:Int)(b4 b5 b6 b11:Val):rS 18 I9 (xRi x9 x10 x12 x13 b4 b5 b6 b11) [Y,F] []=st 18 I9 (xRi x9 x10 x12 (W (x13+1)) b4 b5 b6 b11) [xIa x13 b5,xCP x12 b4,xIS x9 b4 x12,xCP x13 b5,xIS x10 b5 x13,iN (xT8 b4 x12 x9 b5 x13 x10)]:=by kernel_rfl
def vCs(x9 x10 x12 x13:Int)(b4 b5 b6 b11:Val):rS 18 I9 (xRi x9 x10 x12 x13 b4 b5 b6 b11) [F] []=st 15 I9 (xRh x9 x10 (W (x12+1)) b4 b5 b6 b11) [xLD x13 b5]:=by kernel_rfl
def vCn(x9 x10 x12:Int)(b4 b5 b6 b11:Val):rS 15 I9 (xRh x9 x10 x12 b4 b5 b6 b11) [Y] []=st 18 I9 (xRi x9 x10 x12 0 b4 b5 b6 b11) [xIa x12 b4]:=by kernel_rfl
def vCo(x9 x10 x12:Int)(b4 b5 b6 b11 r1:Val):rS 15 I9 (xRh x9 x10 x12 b4 b5 b6 b11) [F,Y] [xAM r1]=dn (xBJ r1) [xLD x12 b4,xSz b11,AbC 36 (xB2 6) (xAM r1)]:=by kernel_rfl
def vCp(x9 x10 x12:Int)(b4 b5 b6 b11:Val):rS 15 I9 (xRh x9 x10 x12 b4 b5 b6 b11) [F,F] []=dn (xBJ b11) [xLD x12 b4,xSA b11]:=by kernel_rfl
abbrev xOu(v0 v1 v2:Val)(v3:Val × Bool):Prop:=AbC 35 (xGA [(Val.re v0),(Val.re v1),(Val.re v2)] [2,5,5]) (xCp v3)
def vDW(a0 a1 a2:Val)(r1:Val × Bool):rE I9 (xD5 a0 a1 a2) [Y] [xCp r1]=dn (xBJ r1.1) [xOu a0 a1 a2 r1,iY r1.2]:=by kernel_rfl
abbrev xKW(v0 v1:Val)(v2:Int):Prop:=AbC 18 (xCT v0 (Val.text v1)) (xAF v2)
abbrev xNl(v0:Int):Prop:=iY (dc (v0<0))
def vDX(a0 a1 a2:Val)(r1:Val × Bool)(r2 r3:Int)(r4:Val):rE I9 (xD5 a0 a1 a2) [F,Y,Y] [xCp r1,xAF r2,xAF r3,xAM r4]=dn (xBJ r4) [xOu a0 a1 a2 r1,iN r1.2,xKW a1 a0 r2,xKW a2 a0 r3,xNl r2,iY true,AbC 36 (xB2 7) (xAM r4)]:=by kernel_rfl
abbrev xGM(v0:Int):Prop:=iN (dc (v0<0))
def vDY(a0 a1 a2:Val)(r1:Val × Bool)(r2 r3:Int)(r4:Val):rE I9 (xD5 a0 a1 a2) [F,F,Y] [xCp r1,xAF r2,xAF r3,xAM r4]=dn (xBJ r4) [xOu a0 a1 a2 r1,iN r1.2,xKW a1 a0 r2,xKW a2 a0 r3,xGM r2,xNl r3,AbC 36 (xB2 7) (xAM r4)]:=by kernel_rfl
abbrev xJK(v0:Val):Prop:=0+Ln (xCN v0)≤Lim
abbrev xUh(v0:Int)(v1:Val):Prop:=(0:Int)≤v0∧v0≤(Ln (xCN v1))
abbrev xMc(v0:Int)(v1:Val):=List.take (tN v0) (Val.columns v1)
abbrev xUi(v0:Val)(v1:Int)(v2:Val):Prop:=Ln ([]++(xCN v0))+Ln (xMc v1 v2)≤Lim
abbrev xUj(v0:Int)(v1:Val):Prop:=(0:Int)≤(W (v0+1))∧(W (v0+1))≤(Ln (xCN v1))
abbrev xNh(v0:Int)(v1:Val):=List.drop (tN (W (v0+1))) (Val.columns v1)
abbrev xUk(v0:Val)(v1:Int)(v2:Val):Prop:=Ln (([]++(xCN v0))++(xMc v1 v2))+Ln (xNh v1 v2)≤Lim
abbrev xUl(v0:Val)(v1:Int)(v2:Val)(v3:Bool):Prop:=AbC 37 (xEZ ((([]++(xCN v0))++(xMc v1 v2))++(xNh v1 v2))) (xB5 v3)
def vDZ(a0 a1 a2:Val)(r1:Val × Bool)(r2 r3:Int)(r4:Bool)(r5:Val):rE I9 (xD5 a0 a1 a2) [F,F,F,Y] [xCp r1,xAF r2,xAF r3,xB5 r4,xAM r5]=dn (xBJ r5) [xOu a0 a1 a2 r1,iN r1.2,xKW a1 a0 r2,xKW a2 a0 r3,xGM r2,xGM r3,xJK a1,xUh r3 a2,xUi a1 r3 a2,xUj r3 a2,xUk a1 r3 a2,xUl a1 r3 a2 r4,iY (!r4),AbC 36 (xB2 7) (xAM r5)]:=by kernel_rfl
def vCt(a0 a1 a2:Val)(r1:Val × Bool)(r2 r3:Int)(r4:Bool)(r5:Val):rE I9 (xD5 a0 a1 a2) [F,F,F,F,Y] [xCp r1,xAF r2,xAF r3,xB5 r4,xAM r5]=dn (xBJ r5) [xOu a0 a1 a2 r1,iN r1.2,xKW a1 a0 r2,xKW a2 a0 r3,xGM r2,xGM r3,xJK a1,xUh r3 a2,xUi a1 r3 a2,xUj r3 a2,xUk a1 r3 a2,xUl a1 r3 a2 r4,iN (!r4),iY (dc (((Ln ((([]++(xCN a1))++(xMc r3 a2))++(xNh r3 a2)):Int):Int)>4)),AbC 36 (xB2 6) (xAM r5)]:=by kernel_rfl
def vCu(a0 a1 a2:Val)(r1:Val × Bool)(r2 r3:Int)(r4:Bool):rE I9 (xD5 a0 a1 a2) [F,F,F,F,F] [xCp r1,xAF r2,xAF r3,xB5 r4]=st 15 I9 (xRh r2 r3 0 a1 a2 (Val.mk 0 0 0 [] [] [] []) (Val.mk 5 0 0 [] [] ((([]++(xCN a1))++(xMc r3 a2))++(xNh r3 a2)) [])) [xOu a0 a1 a2 r1,iN r1.2,xKW a1 a0 r2,xKW a2 a0 r3,xGM r2,xGM r3,xJK a1,xUh r3 a2,xUi a1 r3 a2,xUj r3 a2,xUk a1 r3 a2,xUl a1 r3 a2 r4,iN (!r4),iN (dc (((Ln ((([]++(xCN a1))++(xMc r3 a2))++(xNh r3 a2)):Int):Int)>4))]:=by kernel_rfl
theorem vFa{N:Nat}{k15:Int→Int→Int→Val→Val→Val→Val→Option (Val)}(hk15:∀z0 z1 z2 z3 z4 z5 z6 r,k15 z0 z1 z2 z3 z4 z5 z6=some r→RS Tryz.f9 I9 15 (xRh z0 z1 z2 z3 z4 z5 z6) (xBJ r)):∀n x9 x10 x12 x13 b4 b5 b6 b11 r,xE4 N k15 n x9 x10 x12 x13 b4 b5 b6 b11=some r→RS Tryz.f9 I9 18 (xRi x9 x10 x12 x13 b4 b5 b6 b11) (xBJ r):=by
 intro n
 induction n with
 |zero=>exact fun _ _ _ _ _ _ _ _ _ h=>nE h
 |succ n ih =>
  exact fun x9 x10 x12 x13 b4 b5 b6 b11 r h =>
   cE h (fun h0 h=>iE h fun h1 h=>iE h fun h2 h=>iE h fun h3 h=>iE h fun h4 h=>cE h (fun h5 h=>bE h fun r1 h8 h=>iE h fun h9 h=>tS fk9 (vCq x9 x10 x12 x13 b4 b5 b6 b11 r1) (oc10 h0 h1 h2 h3 h4 h5 h1 h3 (xOe h8) h9 on) (ih _ _ _ _ _ _ _ _ _ h)) fun h5 h =>
   tS fk9 (vCr x9 x10 x12 x13 b4 b5 b6 b11) (oc6 h0 h1 h2 h3 h4 h5 on) (ih _ _ _ _ _ _ _ _ _ h)) fun h0 h =>
   tS fk9 (vCs x9 x10 x12 x13 b4 b5 b6 b11) (oc h0 on) (hk15 _ _ _ _ _ _ _ _ h)
theorem vE9{N:Nat}:∀n x9 x10 x12 b4 b5 b6 b11 r,xEd N n x9 x10 x12 b4 b5 b6 b11=some r→RS Tryz.f9 I9 15 (xRh x9 x10 x12 b4 b5 b6 b11) (xBJ r):=by
 intro n
 induction n with
 |zero=>exact fun _ _ _ _ _ _ _ _ h=>nE h
 |succ n ih =>
  exact fun x9 x10 x12 b4 b5 b6 b11 r h =>
   cE h (fun h0 h=>tS fk9 (vCn x9 x10 x12 b4 b5 b6 b11) (oc h0 on) (vFa ih _ _ _ _ _ _ _ _ _ _ h)) fun h0 h =>
   cE h (fun h1 h=>bE h fun r1 h2 h=>dS h fk9 (vCo x9 x10 x12 b4 b5 b6 b11 r1) (oc3 h0 h1 (xCL h2) on)) fun h1 h =>
   dS h fk9 (vCp x9 x10 x12 b4 b5 b6 b11) (oc2 h0 h1 on)
theorem c9_e{N:Nat}:∀a0 a1 a2 r,xFW N a0 a1 a2=some r→RE Tryz.f9 I9 (xD5 a0 a1 a2) (xBJ r):=fun a0 a1 a2 r h =>
 bE h fun r1 h0 h=>cE h (fun h1 h=>dE h fk9 (vDW a0 a1 a2 r1) (oc2 (xFF h0) h1 on)) fun h1 h =>
 bE h fun r2 h2 h=>bE h fun r3 h3 h=>cE h (fun h4 h=>bE h fun r4 h6 h=>dE h fk9 (vDX a0 a1 a2 r1 r2 r3 r4) (oc7 (xFF h0) h1 (xBt h2) (xBt h3) h4 rfl (xCL h6) on)) fun h4 h =>
 cE h (fun h5 h=>bE h fun r4 h6 h=>dE h fk9 (vDY a0 a1 a2 r1 r2 r3 r4) (oc7 (xFF h0) h1 (xBt h2) (xBt h3) h4 h5 (xCL h6) on)) fun h5 h =>
 iE h fun h6 h=>iE h fun h7 h=>iE h fun h8 h=>iE h fun h9 h=>iE h fun h10 h=>bE h fun r4 h11 h=>cE h (fun h12 h=>bE h fun r5 h13 h=>dE h fk9 (vDZ a0 a1 a2 r1 r2 r3 r4 r5) (oc12 (xFF h0) h1 (xBt h2) (xBt h3) h4 h5 h6 h7 h8 h9 h10 (xFT h11) (oc2 h12 (xCL h13) on))) fun h12 h =>
 cE h (fun h13 h=>bE h fun r5 h14 h=>dE h fk9 (vCt a0 a1 a2 r1 r2 r3 r4 r5) (oc12 (xFF h0) h1 (xBt h2) (xBt h3) h4 h5 h6 h7 h8 h9 h10 (xFT h11) (oc3 h12 h13 (xCL h14) on))) fun h13 h =>
 tE fk9 (vCu a0 a1 a2 r1 r2 r3 r4) (oc12 (xFF h0) h1 (xBt h2) (xBt h3) h4 h5 h6 h7 h8 h9 h10 (xFT h11) (oc2 h12 h13 on)) (vE9 _ _ _ _ _ _ _ _ _ h)
theorem xGc{N:Nat}{a0:Val}{a1:Val}{a2:Val}{r:Val}(h:xFW N  a0 a1 a2=some r):AbC 9 (xD5 a0 a1 a2) (xBJ r) :=
 AbsCalls.of_reach fk9 rfl rfl rfl (Nat.le_of_ble_eq_true rfl) (c9_e a0 a1 a2 r h)
noncomputable def I114:Info:= { body:=(Tryz.f114.body).getD .skip,nt:=15,results:= [.tmp 6],keep:= [0,2,4,12],live:= [],modes:= [(1, [(3, .take,false)])] }
theorem xZM:FnOk Tryz.prog 114 Tryz.f114 I114:=⟨Tryz.func114,by kernel_rfl,by kernel_rfl,by kernel_rfl,by kernel_rfl⟩
def xVT(a0 a1 a2:Int):rE I114 (xD3 a0 a1 a2) [Y] []=dn (xCr (dc (a0≤a2))) [xKO a1 a0]:=by kernel_rfl
def xVU(a0 a1 a2:Int):rE I114 (xD3 a0 a1 a2) [F] []=dn (xCr false) [xNP a1 a0]:=by kernel_rfl
theorem vCR{N:Nat}:∀a0 a1 a2 r,xGw N a0 a1 a2=some r→RE Tryz.f114 I114 (xD3 a0 a1 a2) (xCr r):=fun a0 a1 a2 r h =>
 cE h (fun h0 h=>dE h xZM (xVT a0 a1 a2) (oc h0 on)) fun h0 h =>
 dE h xZM (xVU a0 a1 a2) (oc h0 on)
theorem xGW{N:Nat}{a0:Int}{a1:Int}{a2:Int}{r:Bool}(h:xGw N  a0 a1 a2=some r):AbC 114 (xD3 a0 a1 a2) (xCr r) :=
 AbsCalls.of_reach xZM rfl rfl rfl (Nat.le_of_ble_eq_true rfl) (vCR a0 a1 a2 r h)
noncomputable def I82:Info:= { body:=(Tryz.f82.body).getD .skip,nt:=5,results:= [.tmp 2],keep:= [0,4],live:= [],modes:= [] }
theorem fk82:FnOk Tryz.prog 82 Tryz.f82 I82:=⟨Tryz.func82,by kernel_rfl,by kernel_rfl,by kernel_rfl,by kernel_rfl⟩
def vBQ(a0:Int)(r1:Bool):rE I82 (xDm a0) [] [xCr r1]=dn (xBQ r1) [AbC 114 (xD3 a0 (-1000000000) 1000000000) (xCr r1)]:=by kernel_rfl
theorem vEV{N:Nat}:∀a0 r,xFg N a0=some r→RE Tryz.f82 I82 (xDm a0) (xBQ r):=fun a0 r h =>
 bE h fun r1 h0 h=>dE h fk82 (vBQ a0 r1) (oc (xGW h0) on)
theorem xFc{N:Nat}{a0:Int}{r:Bool}(h:xFg N  a0=some r):AbC 82 (xDm a0) (xBQ r) :=
 AbsCalls.of_reach fk82 rfl rfl rfl (Nat.le_of_ble_eq_true rfl) (vEV a0 r h)
noncomputable def I113:Info:= { body:=(Tryz.f113.body).getD .skip,nt:=29,results:= [.tmp 2],keep:= [0,4,6,14,50],live:= [(2, [0,6])],modes:= [(4, [(4, .take,false),(10, .take,false)])] }
theorem xRy:FnOk Tryz.prog 113 Tryz.f113 I113:=⟨Tryz.func113,by kernel_rfl,by kernel_rfl,by kernel_rfl,by kernel_rfl⟩
def xMj(x0:Str)(x3:Int):St:= [(0, .v false [.str x0]),(6, .v false [.int .i64 x3])]
def xVN(x0:Str)(x3:Int):rS 2 I113 (xMj x0 x3) [Y,Y,Y,Y] []=dn (xCx false) [xFj x3 x0,xBn x3 x0,iY (xRP x0 x3),iY true,iY true]:=by kernel_rfl
def xVO(x0:Str)(x3:Int):rS 2 I113 (xMj x0 x3) [Y,F,Y,Y] []=dn (xCx false) [xFj x3 x0,xBn x3 x0,xOq x0 x3,xBn x3 x0,iY (xRQ x0 x3),iY true]:=by kernel_rfl
def xVP(x0:Str)(x3:Int):rS 2 I113 (xMj x0 x3) [Y,F,F,Y] []=dn (xCx false) [xFj x3 x0,xBn x3 x0,xOq x0 x3,xBn x3 x0,xSw x0 x3,xBn x3 x0,iY (xOV x0 x3)]:=by kernel_rfl
def xVQ(x0:Str)(x3:Int):rS 2 I113 (xMj x0 x3) [Y,F,F,F] []=st 2 I113 (xMj x0 (W (x3+1))) [xFj x3 x0,xBn x3 x0,xOq x0 x3,xBn x3 x0,xSw x0 x3,xBn x3 x0,iN (xOV x0 x3)]:=by kernel_rfl
def xVR(x0:Str)(x3:Int):rS 2 I113 (xMj x0 x3) [F] []=dn (xCx (dc ((Ln x0:Int)≤20))) [iN (dc (x3<(Ln x0:Int)))]:=by kernel_rfl
def xVS(a0:Str):rE I113 (xFO a0) [] []=st 2 I113 (xMj a0 0) []:=by kernel_rfl
theorem vCP{N:Nat}:∀n x0 x3 r,xEP N n x0 x3=some r→RS Tryz.f113 I113 2 (xMj x0 x3) (xCx r):=by
 intro n
 induction n with
 |zero=>exact fun _ _ _ h=>nE h
 |succ n ih =>
  exact fun x0 x3 r h =>
   cE h (fun h0 h=>iE h fun h1 h=>cE h (fun h2 h=>dS h xRy (xVN x0 x3) (oc5 h0 h1 h2 rfl rfl on)) fun h2 h =>
   cE h (fun h4 h=>dS h xRy (xVO x0 x3) (oc6 h0 h1 h2 h1 h4 rfl on)) fun h4 h =>
   cE h (fun h6 h=>dS h xRy (xVP x0 x3) (oc7 h0 h1 h2 h1 h4 h1 h6 on)) fun h6 h =>
   tS xRy (xVQ x0 x3) (oc7 h0 h1 h2 h1 h4 h1 h6 on) (ih _ _ _ h)) fun h0 h =>
   dS h xRy (xVR x0 x3) (oc h0 on)
theorem vCQ{N:Nat}:∀a0 r,xG4 N a0=some r→RE Tryz.f113 I113 (xFO a0) (xCx r):=fun a0 r h =>
 tE xRy (xVS a0) on (vCP _ _ _ _ h)
theorem xK5{N:Nat}{a0:Str}{r:Bool}(h:xG4 N  a0=some r):AbC 113 (xFO a0) (xCx r) :=
 AbsCalls.of_reach xRy rfl rfl rfl (Nat.le_of_ble_eq_true rfl) (vCQ a0 r h)
noncomputable def I185:Info:= { body:=(Tryz.f185.body).getD .skip,nt:=42,results:= [.tmp 2],keep:= [0,4,6,8,16,76],live:= [(2, [0,6])],modes:= [(4, [(4, .take,false)]),(5, [(0, .take,false),(2, .take,false),(5, .take,false),(11, .take,false)])] }
theorem xMz:FnOk Tryz.prog 185 Tryz.f185 I185:=⟨Tryz.func185,by kernel_rfl,by kernel_rfl,by kernel_rfl,by kernel_rfl⟩
def xIv(x0:Str)(x3:Int):St:= [(0, .v false [.str x0]),(6, .v false [.int .i64 x3])]
def xXu(x0:Str)(x3:Int):rS 2 I185 (xIv x0 x3) [Y,Y,Y,Y,Y,Y] []=dn (xCq false) [xFj x3 x0,xBn x3 x0,xKg x0 x3,xBn x3 x0,xLB x0 x3,iY (x3==0),iY true,iY true]:=by kernel_rfl
abbrev xRU(v0:Str)(v1:Int):=dc ((((gD v0 (tN v1) 0).toNat:Int):Int)<48)
def xXv(x0:Str)(x3:Int):rS 2 I185 (xIv x0 x3) [Y,Y,Y,F,Y,Y] []=dn (xCq false) [xFj x3 x0,xBn x3 x0,xKg x0 x3,xBn x3 x0,xLB x0 x3,xJb x3,xBn x3 x0,iY (xRU x0 x3),iY true]:=by kernel_rfl
abbrev xSD(v0:Str)(v1:Int):Prop:=iN (xRU v0 v1)
abbrev xO2(v0:Str)(v1:Int):=dc ((((gD v0 (tN v1) 0).toNat:Int):Int)>57)
def xXw(x0:Str)(x3:Int):rS 2 I185 (xIv x0 x3) [Y,Y,Y,F,F,Y] []=dn (xCq false) [xFj x3 x0,xBn x3 x0,xKg x0 x3,xBn x3 x0,xLB x0 x3,xJb x3,xBn x3 x0,xSD x0 x3,xBn x3 x0,iY (xO2 x0 x3)]:=by kernel_rfl
def xXx(x0:Str)(x3:Int):rS 2 I185 (xIv x0 x3) [Y,Y,Y,F,F,F] []=st 2 I185 (xIv x0 (W (x3+1))) [xFj x3 x0,xBn x3 x0,xKg x0 x3,xBn x3 x0,xLB x0 x3,xJb x3,xBn x3 x0,xSD x0 x3,xBn x3 x0,iN (xO2 x0 x3)]:=by kernel_rfl
def xXy(x0:Str)(x3:Int):rS 2 I185 (xIv x0 x3) [Y,Y,F,F] []=st 2 I185 (xIv x0 (W (x3+1))) [xFj x3 x0,xBn x3 x0,xKg x0 x3,xBn x3 x0,xUe x0 x3,iN false]:=by kernel_rfl
def xXz(x0:Str)(x3:Int):rS 2 I185 (xIv x0 x3) [Y,F,Y,Y,Y,Y] []=dn (xCq false) [xFj x3 x0,xBn x3 x0,xLC x0 x3,iY (!false),iY (x3==0),iY true,iY true]:=by kernel_rfl
def xXA(x0:Str)(x3:Int):rS 2 I185 (xIv x0 x3) [Y,F,Y,F,Y,Y] []=dn (xCq false) [xFj x3 x0,xBn x3 x0,xLC x0 x3,iY (!false),xJb x3,xBn x3 x0,iY (xRU x0 x3),iY true]:=by kernel_rfl
def xXB(x0:Str)(x3:Int):rS 2 I185 (xIv x0 x3) [Y,F,Y,F,F,Y] []=dn (xCq false) [xFj x3 x0,xBn x3 x0,xLC x0 x3,iY (!false),xJb x3,xBn x3 x0,xSD x0 x3,xBn x3 x0,iY (xO2 x0 x3)]:=by kernel_rfl
def xXC(x0:Str)(x3:Int):rS 2 I185 (xIv x0 x3) [Y,F,Y,F,F,F] []=st 2 I185 (xIv x0 (W (x3+1))) [xFj x3 x0,xBn x3 x0,xLC x0 x3,iY (!false),xJb x3,xBn x3 x0,xSD x0 x3,xBn x3 x0,iN (xO2 x0 x3)]:=by kernel_rfl
def xXD(x0:Str)(x3:Int)(r1:Bool):rS 2 I185 (xIv x0 x3) [F] [xCr r1]=dn (xCq r1) [iN (dc (x3<(Ln x0:Int))),AbC 114 (xD3 (Ln x0:Int) 1 8) (xCr r1)]:=by kernel_rfl
def xUE(a0:Str):rE I185 (xGU a0) [] []=st 2 I185 (xIv a0 0) []:=by kernel_rfl
theorem vDw{N:Nat}:∀n x0 x3 r,xD2 N n x0 x3=some r→RS Tryz.f185 I185 2 (xIv x0 x3) (xCq r):=by
 intro n
 induction n with
 |zero=>exact fun _ _ _ h=>nE h
 |succ n ih =>
  exact fun x0 x3 r h =>
   cE h (fun h0 h=>iE h fun h1 h=>cE h (fun h2 h=>cE h (fun h4 h=>cE h (fun h5 h=>dS h xMz (xXu x0 x3) (oc8 h0 h1 h2 h1 h4 h5 rfl rfl on)) fun h5 h =>
   cE h (fun h7 h=>dS h xMz (xXv x0 x3) (oc9 h0 h1 h2 h1 h4 h5 h1 h7 rfl on)) fun h7 h =>
   cE h (fun h9 h=>dS h xMz (xXw x0 x3) (oc10 h0 h1 h2 h1 h4 h5 h1 h7 h1 h9 on)) fun h9 h =>
   tS xMz (xXx x0 x3) (oc10 h0 h1 h2 h1 h4 h5 h1 h7 h1 h9 on) (ih _ _ _ h)) fun h4 h =>
   tS xMz (xXy x0 x3) (oc6 h0 h1 h2 h1 h4 rfl on) (ih _ _ _ h)) fun h2 h =>
   cE h (fun h4 h=>dS h xMz (xXz x0 x3) (oc7 h0 h1 h2 rfl h4 rfl rfl on)) fun h4 h =>
   cE h (fun h6 h=>dS h xMz (xXA x0 x3) (oc8 h0 h1 h2 rfl h4 h1 h6 rfl on)) fun h6 h =>
   cE h (fun h8 h=>dS h xMz (xXB x0 x3) (oc9 h0 h1 h2 rfl h4 h1 h6 h1 h8 on)) fun h8 h =>
   tS xMz (xXC x0 x3) (oc9 h0 h1 h2 rfl h4 h1 h6 h1 h8 on) (ih _ _ _ h)) fun h0 h =>
   bE h fun r1 h1 h=>dS h xMz (xXD x0 x3 r1) (oc2 h0 (xGW h1) on)
theorem vDx{N:Nat}:∀a0 r,xJW N a0=some r→RE Tryz.f185 I185 (xGU a0) (xCq r):=fun a0 r h =>
 tE xMz (xUE a0) on (vDw _ _ _ _ h)
theorem xKS{N:Nat}{a0:Str}{r:Bool}(h:xJW N  a0=some r):AbC 185 (xGU a0) (xCq r) :=
 AbsCalls.of_reach xMz rfl rfl rfl (Nat.le_of_ble_eq_true rfl) (vDx a0 r h)
noncomputable def I195:Info:= { body:=(Tryz.f195.body).getD .skip,nt:=26,results:= [.tmp 2],keep:= [0,4,6,8,12,24,40,48],live:= [],modes:= [] }
theorem xJV:FnOk Tryz.prog 195 Tryz.f195 I195:=⟨Tryz.func195,by kernel_rfl,by kernel_rfl,by kernel_rfl,by kernel_rfl⟩
def xXX(a0:Str):rE I195 (xAy a0) [Y] []=dn (xAt 0) [iY ((a0:Str)== [99,108,111,99,107])]:=by kernel_rfl
abbrev xIb(v0:Str):Prop:=iN ((v0:Str)== [99,108,111,99,107])
def xXY(a0:Str):rE I195 (xAy a0) [F,Y,Y] []=dn (xAt 1) [xIb a0,iY ((a0:Str)== [108,101,110]),iY ((a0:Str)== [108,101,110])]:=by kernel_rfl
abbrev xIp(v0:Str):Prop:=iN ((v0:Str)== [108,101,110])
def xXZ(a0:Str):rE I195 (xAy a0) [F,F,Y,Y] []=dn (xAt 1) [xIb a0,xIp a0,iY ((a0:Str)== [115,117,109]),iY ((a0:Str)== [115,117,109])]:=by kernel_rfl
abbrev xIT(v0:Str):Prop:=iN ((v0:Str)== [115,117,109])
abbrev xRV(v0:Str):=(v0:Str)== [114,111,119,115]
def xX0(a0:Str):rE I195 (xAy a0) [F,F,F,Y,Y] []=dn (xAt 1) [xIb a0,xIp a0,xIT a0,iY (xRV a0),iY (xRV a0)]:=by kernel_rfl
abbrev xJe(v0:Str):Prop:=iN (xRV v0)
abbrev xRW(v0:Str):=(v0:Str)== [99,104,97,110,99,101]
def xX1(a0:Str):rE I195 (xAy a0) [F,F,F,F,Y,Y] []=dn (xAt 1) [xIb a0,xIp a0,xIT a0,xJe a0,iY (xRW a0),iY (xRW a0)]:=by kernel_rfl
abbrev xJL(v0:Str):Prop:=iN (xRW v0)
def xX2(a0:Str):rE I195 (xAy a0) [F,F,F,F,F,Y] []=dn (xAt 1) [xIb a0,xIp a0,xIT a0,xJe a0,xJL a0,iY ((a0:Str)== [102,105,108,101])]:=by kernel_rfl
abbrev xKi(v0:Str):Prop:=iN ((v0:Str)== [102,105,108,101])
abbrev xRX(v0:Str):=(v0:Str)== [116,97,107,101]
def xX3(a0:Str):rE I195 (xAy a0) [F,F,F,F,F,F,Y,Y] []=dn (xAt 2) [xIb a0,xIp a0,xIT a0,xJe a0,xJL a0,xKi a0,iY (xRX a0),iY (xRX a0)]:=by kernel_rfl
abbrev xKB(v0:Str):Prop:=iN (xRX v0)
abbrev xRY(v0:Str):=(v0:Str)== [115,107,105,112]
def xX4(a0:Str):rE I195 (xAy a0) [F,F,F,F,F,F,F,Y,Y] []=dn (xAt 2) [xIb a0,xIp a0,xIT a0,xJe a0,xJL a0,xKi a0,xKB a0,iY (xRY a0),iY (xRY a0)]:=by kernel_rfl
abbrev xKX(v0:Str):Prop:=iN (xRY v0)
abbrev xRZ(v0:Str):=(v0:Str)== [114,97,110,103,101]
def xX5(a0:Str):rE I195 (xAy a0) [F,F,F,F,F,F,F,F,Y,Y] []=dn (xAt 2) [xIb a0,xIp a0,xIT a0,xJe a0,xJL a0,xKi a0,xKB a0,xKX a0,iY (xRZ a0),iY (xRZ a0)]:=by kernel_rfl
abbrev xLH(v0:Str):Prop:=iN (xRZ v0)
def xX6(a0:Str):rE I195 (xAy a0) [F,F,F,F,F,F,F,F,F,Y,Y] []=dn (xAt 2) [xIb a0,xIp a0,xIT a0,xJe a0,xJL a0,xKi a0,xKB a0,xKX a0,xLH a0,iY ((a0:Str)== [110,116,104]),iY ((a0:Str)== [110,116,104])]:=by kernel_rfl
abbrev xKs(v0:Str):Prop:=iN ((v0:Str)== [110,116,104])
abbrev xR0(v0:Str):=(v0:Str)== [107,101,101,112]
def xUJ(a0:Str):rE I195 (xAy a0) [F,F,F,F,F,F,F,F,F,F,Y,Y] []=dn (xAt 2) [xIb a0,xIp a0,xIT a0,xJe a0,xJL a0,xKi a0,xKB a0,xKX a0,xLH a0,xKs a0,iY (xR0 a0),iY (xR0 a0)]:=by kernel_rfl
abbrev xK8(v0:Str):Prop:=iN (xR0 v0)
abbrev xR1(v0:Str):=(v0:Str)== [99,111,108,117,109,110]
def xUK(a0:Str):rE I195 (xAy a0) [F,F,F,F,F,F,F,F,F,F,F,Y,Y] []=dn (xAt 2) [xIb a0,xIp a0,xIT a0,xJe a0,xJL a0,xKi a0,xKB a0,xKX a0,xLH a0,xKs a0,xK8 a0,iY (xR1 a0),iY (xR1 a0)]:=by kernel_rfl
abbrev xLY(v0:Str):Prop:=iN (xR1 v0)
def xUL(a0:Str):rE I195 (xAy a0) [F,F,F,F,F,F,F,F,F,F,F,F,Y] []=dn (xAt 2) [xIb a0,xIp a0,xIT a0,xJe a0,xJL a0,xKi a0,xKB a0,xKX a0,xLH a0,xKs a0,xK8 a0,xLY a0,iY ((a0:Str)== [116,97,98,108,101])]:=by kernel_rfl
abbrev xNb(v0:Str):Prop:=iN ((v0:Str)== [116,97,98,108,101])
abbrev xR2(v0:Str):=(v0:Str)== [119,104,101,114,101]
def xUM(a0:Str):rE I195 (xAy a0) [F,F,F,F,F,F,F,F,F,F,F,F,F,Y,Y] []=dn (xAt 3) [xIb a0,xIp a0,xIT a0,xJe a0,xJL a0,xKi a0,xKB a0,xKX a0,xLH a0,xKs a0,xK8 a0,xLY a0,xNb a0,iY (xR2 a0),iY (xR2 a0)]:=by kernel_rfl
abbrev xOL(v0:Str):Prop:=iN (xR2 v0)
abbrev xR3(v0:Str):=(v0:Str)== [103,114,111,117,112]
def xUN(a0:Str):rE I195 (xAy a0) [F,F,F,F,F,F,F,F,F,F,F,F,F,F,Y,Y] []=dn (xAt 3) [xIb a0,xIp a0,xIT a0,xJe a0,xJL a0,xKi a0,xKB a0,xKX a0,xLH a0,xKs a0,xK8 a0,xLY a0,xNb a0,xOL a0,iY (xR3 a0),iY (xR3 a0)]:=by kernel_rfl
abbrev xRF(v0:Str):Prop:=iN (xR3 v0)
abbrev xR4(v0:Str):=(v0:Str)== [106,111,105,110]
def xUO(a0:Str):rE I195 (xAy a0) [F,F,F,F,F,F,F,F,F,F,F,F,F,F,F,Y] []=dn (xAt 3) [xIb a0,xIp a0,xIT a0,xJe a0,xJL a0,xKi a0,xKB a0,xKX a0,xLH a0,xKs a0,xK8 a0,xLY a0,xNb a0,xOL a0,xRF a0,iY (xR4 a0)]:=by kernel_rfl
def xUP(a0:Str):rE I195 (xAy a0) [F,F,F,F,F,F,F,F,F,F,F,F,F,F,F,F,Y] []=dn (xAt 4) [xIb a0,xIp a0,xIT a0,xJe a0,xJL a0,xKi a0,xKB a0,xKX a0,xLH a0,xKs a0,xK8 a0,xLY a0,xNb a0,xOL a0,xRF a0,iN (xR4 a0),iY ((a0:Str)== [97,100,100])]:=by kernel_rfl
def xUQ(a0:Str):rE I195 (xAy a0) [F,F,F,F,F,F,F,F,F,F,F,F,F,F,F,F,F] []=dn (xAt (-1)) [xIb a0,xIp a0,xIT a0,xJe a0,xJL a0,xKi a0,xKB a0,xKX a0,xLH a0,xKs a0,xK8 a0,xLY a0,xNb a0,xOL a0,xRF a0,iN (xR4 a0),iN ((a0:Str)== [97,100,100])]:=by kernel_rfl
theorem vDC{N:Nat}:∀a0 r,xGm N a0=some r→RE Tryz.f195 I195 (xAy a0) (xAt r):=fun a0 r h =>
 cE h (fun h0 h=>dE h xJV (xXX a0) (oc h0 on)) fun h0 h =>
 cE h (fun h1 h=>dE h xJV (xXY a0) (oc3 h0 h1 h1 on)) fun h1 h =>
 cE h (fun h2 h=>dE h xJV (xXZ a0) (oc4 h0 h1 h2 h2 on)) fun h2 h =>
 cE h (fun h3 h=>dE h xJV (xX0 a0) (oc5 h0 h1 h2 h3 h3 on)) fun h3 h =>
 cE h (fun h4 h=>dE h xJV (xX1 a0) (oc6 h0 h1 h2 h3 h4 h4 on)) fun h4 h =>
 cE h (fun h5 h=>dE h xJV (xX2 a0) (oc6 h0 h1 h2 h3 h4 h5 on)) fun h5 h =>
 cE h (fun h6 h=>dE h xJV (xX3 a0) (oc8 h0 h1 h2 h3 h4 h5 h6 h6 on)) fun h6 h =>
 cE h (fun h7 h=>dE h xJV (xX4 a0) (oc9 h0 h1 h2 h3 h4 h5 h6 h7 h7 on)) fun h7 h =>
 cE h (fun h8 h=>dE h xJV (xX5 a0) (oc10 h0 h1 h2 h3 h4 h5 h6 h7 h8 h8 on)) fun h8 h =>
 cE h (fun h9 h=>dE h xJV (xX6 a0) (oc11 h0 h1 h2 h3 h4 h5 h6 h7 h8 h9 h9 on)) fun h9 h =>
 cE h (fun h10 h=>dE h xJV (xUJ a0) (oc12 h0 h1 h2 h3 h4 h5 h6 h7 h8 h9 h10 h10 on)) fun h10 h =>
 cE h (fun h11 h=>dE h xJV (xUK a0) (oc12 h0 h1 h2 h3 h4 h5 h6 h7 h8 h9 h10 h11 (oc h11 on))) fun h11 h =>
 cE h (fun h12 h=>dE h xJV (xUL a0) (oc12 h0 h1 h2 h3 h4 h5 h6 h7 h8 h9 h10 h11 (oc h12 on))) fun h12 h =>
 cE h (fun h13 h=>dE h xJV (xUM a0) (oc12 h0 h1 h2 h3 h4 h5 h6 h7 h8 h9 h10 h11 (oc3 h12 h13 h13 on))) fun h13 h =>
 cE h (fun h14 h=>dE h xJV (xUN a0) (oc12 h0 h1 h2 h3 h4 h5 h6 h7 h8 h9 h10 h11 (oc4 h12 h13 h14 h14 on))) fun h14 h =>
 cE h (fun h15 h=>dE h xJV (xUO a0) (oc12 h0 h1 h2 h3 h4 h5 h6 h7 h8 h9 h10 h11 (oc4 h12 h13 h14 h15 on))) fun h15 h =>
 cE h (fun h16 h=>dE h xJV (xUP a0) (oc12 h0 h1 h2 h3 h4 h5 h6 h7 h8 h9 h10 h11 (oc5 h12 h13 h14 h15 h16 on))) fun h16 h =>
 dE h xJV (xUQ a0) (oc12 h0 h1 h2 h3 h4 h5 h6 h7 h8 h9 h10 h11 (oc5 h12 h13 h14 h15 h16 on))
theorem xKq{N:Nat}{a0:Str}{r:Int}(h:xGm N  a0=some r):AbC 195 (xAy a0) (xAt r) :=
 AbsCalls.of_reach xJV rfl rfl rfl (Nat.le_of_ble_eq_true rfl) (vDC a0 r h)
noncomputable def I186:Info:= { body:=(Tryz.f186.body).getD .skip,nt:=15,results:= [.tmp 2],keep:= [0,4,6,8],live:= [],modes:= [] }
theorem xOE:FnOk Tryz.prog 186 Tryz.f186 I186:=⟨Tryz.func186,by kernel_rfl,by kernel_rfl,by kernel_rfl,by kernel_rfl⟩
def xXE(a0:Str):rE I186 (xCg a0) [Y,Y] []=dn (xBZ true) [iY ((a0:Str)== [108,101,116]),iY ((a0:Str)== [108,101,116])]:=by kernel_rfl
abbrev xK9(v0:Str):Prop:=iN ((v0:Str)== [108,101,116])
def xXF(a0:Str):rE I186 (xCg a0) [F,Y,Y] []=dn (xBZ true) [xK9 a0,iY ((a0:Str)== [105,110]),iY ((a0:Str)== [105,110])]:=by kernel_rfl
abbrev xLZ(v0:Str):Prop:=iN ((v0:Str)== [105,110])
def xXG(a0:Str):rE I186 (xCg a0) [F,F,Y,Y] []=dn (xBZ true) [xK9 a0,xLZ a0,iY ((a0:Str)== [105,102]),iY ((a0:Str)== [105,102])]:=by kernel_rfl
abbrev xNc(v0:Str):Prop:=iN ((v0:Str)== [105,102])
abbrev xR5(v0:Str):=(v0:Str)== [116,104,101,110]
def xXH(a0:Str):rE I186 (xCg a0) [F,F,F,Y,Y] []=dn (xBZ true) [xK9 a0,xLZ a0,xNc a0,iY (xR5 a0),iY (xR5 a0)]:=by kernel_rfl
abbrev xOM(v0:Str):Prop:=iN (xR5 v0)
abbrev xR6(v0:Str):=(v0:Str)== [101,108,115,101]
def xXI(a0:Str):rE I186 (xCg a0) [F,F,F,F,Y,Y] []=dn (xBZ true) [xK9 a0,xLZ a0,xNc a0,xOM a0,iY (xR6 a0),iY (xR6 a0)]:=by kernel_rfl
abbrev xRG(v0:Str):Prop:=iN (xR6 v0)
abbrev xO3(v0:Str):=(v0:Str)== [102,111,114]
def xXJ(a0:Str):rE I186 (xCg a0) [F,F,F,F,F,Y,Y] []=dn (xBZ true) [xK9 a0,xLZ a0,xNc a0,xOM a0,xRG a0,iY (xO3 a0),iY (xO3 a0)]:=by kernel_rfl
def xXK(a0:Str):rE I186 (xCg a0) [F,F,F,F,F,F,Y] []=dn (xBZ true) [xK9 a0,xLZ a0,xNc a0,xOM a0,xRG a0,iN (xO3 a0),iY ((a0:Str)== [100,111])]:=by kernel_rfl
def xXL(a0:Str)(r1:Int):rE I186 (xCg a0) [F,F,F,F,F,F,F] [xAt r1]=dn (xBZ (dc (r1≥0))) [xK9 a0,xLZ a0,xNc a0,xOM a0,xRG a0,iN (xO3 a0),iN ((a0:Str)== [100,111]),AbC 195 (xAy a0) (xAt r1)]:=by kernel_rfl
theorem vDy{N:Nat}:∀a0 r,xGu N a0=some r→RE Tryz.f186 I186 (xCg a0) (xBZ r):=fun a0 r h =>
 cE h (fun h0 h=>dE h xOE (xXE a0) (oc2 h0 h0 on)) fun h0 h =>
 cE h (fun h1 h=>dE h xOE (xXF a0) (oc3 h0 h1 h1 on)) fun h1 h =>
 cE h (fun h2 h=>dE h xOE (xXG a0) (oc4 h0 h1 h2 h2 on)) fun h2 h =>
 cE h (fun h3 h=>dE h xOE (xXH a0) (oc5 h0 h1 h2 h3 h3 on)) fun h3 h =>
 cE h (fun h4 h=>dE h xOE (xXI a0) (oc6 h0 h1 h2 h3 h4 h4 on)) fun h4 h =>
 cE h (fun h5 h=>dE h xOE (xXJ a0) (oc7 h0 h1 h2 h3 h4 h5 h5 on)) fun h5 h =>
 cE h (fun h6 h=>dE h xOE (xXK a0) (oc7 h0 h1 h2 h3 h4 h5 h6 on)) fun h6 h =>
 bE h fun r1 h7 h=>dE h xOE (xXL a0 r1) (oc8 h0 h1 h2 h3 h4 h5 h6 (xKq h7) on)
theorem xLu{N:Nat}{a0:Str}{r:Bool}(h:xGu N  a0=some r):AbC 186 (xCg a0) (xBZ r) :=
 AbsCalls.of_reach xOE rfl rfl rfl (Nat.le_of_ble_eq_true rfl) (vDy a0 r h)
noncomputable def I172:Info:= { body:=(Tryz.f172.body).getD .skip,nt:=10,results:= [.tmp 2],keep:= [0,4],live:= [],modes:= [(1, [(2, .take,false)])] }
theorem xZP:FnOk Tryz.prog 172 Tryz.f172 I172:=⟨Tryz.func172,by kernel_rfl,by kernel_rfl,by kernel_rfl,by kernel_rfl⟩
def xXn(a0:Str)(r1 r2:Bool):rE I172 (xDS a0) [Y] [xCq r1,xBZ r2]=dn (xCR (!r2)) [AbC 185 (xGU a0) (xCq r1),iY r1,AbC 186 (xCg a0) (xBZ r2)]:=by kernel_rfl
def xXo(a0:Str)(r1:Bool):rE I172 (xDS a0) [F] [xCq r1]=dn (xCR false) [AbC 185 (xGU a0) (xCq r1),iN r1]:=by kernel_rfl
theorem vDt{N:Nat}:∀a0 r,xF3 N a0=some r→RE Tryz.f172 I172 (xDS a0) (xCR r):=fun a0 r h =>
 bE h fun r1 h0 h=>cE h (fun h1 h=>bE h fun r2 h2 h=>dE h xZP (xXn a0 r1 r2) (oc3 (xKS h0) h1 (xLu h2) on)) fun h1 h =>
 dE h xZP (xXo a0 r1) (oc2 (xKS h0) h1 on)
theorem xID{N:Nat}{a0:Str}{r:Bool}(h:xF3 N  a0=some r):AbC 172 (xDS a0) (xCR r) :=
 AbsCalls.of_reach xZP rfl rfl rfl (Nat.le_of_ble_eq_true rfl) (vDt a0 r h)
noncomputable def I90:Info:= { body:=(Tryz.f90.body).getD .skip,nt:=19,results:= [.tmp 4],keep:= [0,2,8,10,12,14,16,18,20,32],live:= [(2, [2,14,16,18])],modes:= [(4, [(0, .take,false)]),(5, [(0, .take,false)]),(6, [(1, .take,false)])] }
theorem fk90:FnOk Tryz.prog 90 Tryz.f90 I90:=⟨Tryz.func90,by kernel_rfl,by kernel_rfl,by kernel_rfl,by kernel_rfl⟩
def xSU(x1:Str)(x7:List Str)(x8 x9:Int):St:= [(2, .v false [.str x1]),(14, .v false [.sl .ro .str x7]),(16, .v false [.int .i64 x8]),(18, .v false [.int .i64 x9])]
def vCf(x1:Str)(x7:List Str)(x8 x9:Int):rS 2 I90 (xSU x1 x7 x8 x9) [Y,Y] []=dn (xCA x9) [xFi x9 x8,xHj x9 x7,iY (xMb x7 x9 x1)]:=by kernel_rfl
def vCg(x1:Str)(x7:List Str)(x8 x9:Int):rS 2 I90 (xSU x1 x7 x8 x9) [Y,F] []=st 2 I90 (xSU x1 x7 x8 (W (x9+1))) [xFi x9 x8,xHj x9 x7,iN (xMb x7 x9 x1)]:=by kernel_rfl
def vCh(x1:Str)(x7:List Str)(x8 x9:Int):rS 2 I90 (xSU x1 x7 x8 x9) [F] []=dn (xCA (-1)) [xHn x9 x8]:=by kernel_rfl
def vCi(a0:List Str)(a1:Str):rE I90 (xGs a0 a1) [] []=st 2 I90 (xSU a1 a0 (Ln a0:Int) 0) []:=by kernel_rfl
theorem vE4{N:Nat}:∀n x1 x7 x8 x9 r,xEO N n x1 x7 x8 x9=some r→RS Tryz.f90 I90 2 (xSU x1 x7 x8 x9) (xCA r):=by
 intro n
 induction n with
 |zero=>exact fun _ _ _ _ _ h=>nE h
 |succ n ih =>
  exact fun x1 x7 x8 x9 r h =>
   cE h (fun h0 h=>iE h fun h1 h=>cE h (fun h2 h=>dS h fk90 (vCf x1 x7 x8 x9) (oc3 h0 h1 h2 on)) fun h2 h =>
   tS fk90 (vCg x1 x7 x8 x9) (oc3 h0 h1 h2 on) (ih _ _ _ _ _ h)) fun h0 h =>
   dS h fk90 (vCh x1 x7 x8 x9) (oc h0 on)
theorem vE5{N:Nat}:∀a0 a1 r,xHf N a0 a1=some r→RE Tryz.f90 I90 (xGs a0 a1) (xCA r):=fun a0 a1 r h =>
 tE fk90 (vCi a0 a1) on (vE4 _ _ _ _ _ _ h)
theorem xGt{N:Nat}{a0:List Str}{a1:Str}{r:Int}(h:xHf N  a0 a1=some r):AbC 90 (xGs a0 a1) (xCA r) :=
 AbsCalls.of_reach fk90 rfl rfl rfl (Nat.le_of_ble_eq_true rfl) (vE5 a0 a1 r h)
noncomputable def I45:Info:= { body:=(Tryz.f45.body).getD .skip,nt:=18,results:= [.tmp 2],keep:= [0,4,6,8,10,12,14,16,32],live:= [(2, [0,10,12,14])],modes:= [(4, [(1, .take,false),(3, .take,false)]),(6, [(1, .take,false)])] }
theorem fk45:FnOk Tryz.prog 45 Tryz.f45 I45:=⟨Tryz.func45,by kernel_rfl,by kernel_rfl,by kernel_rfl,by kernel_rfl⟩
def xSP(x0 x5:List Str)(x6 x7:Int):St:= [(0, .v false [.sl .ro .str x0]),(10, .v false [.sl .ro .str x5]),(12, .v false [.int .i64 x6]),(14, .v false [.int .i64 x7])]
abbrev xON(v0 v1:List Str)(v2 v3:Int):Prop:=AbC 90 (xGs v0 (xIO v1 v2)) (xCA v3)
def vAF(x0 x5:List Str)(x6 x7 r1:Int):rS 2 I45 (xSP x0 x5 x6 x7) [Y,Y] [xCA r1]=dn (xBq false) [xFi x7 x6,xHj x7 x5,xON x0 x5 x7 r1,iY (r1 != x7)]:=by kernel_rfl
def vAG(x0 x5:List Str)(x6 x7 r1:Int):rS 2 I45 (xSP x0 x5 x6 x7) [Y,F] [xCA r1]=st 2 I45 (xSP x0 x5 x6 (W (x7+1))) [xFi x7 x6,xHj x7 x5,xON x0 x5 x7 r1,iN (r1 != x7)]:=by kernel_rfl
def vAH(x0 x5:List Str)(x6 x7:Int):rS 2 I45 (xSP x0 x5 x6 x7) [F] []=dn (xBq true) [xHn x7 x6]:=by kernel_rfl
def vAI(a0:List Str):rE I45 (xEM a0) [] []=st 2 I45 (xSP a0 a0 (Ln a0:Int) 0) []:=by kernel_rfl
theorem vEx{N:Nat}:∀n x0 x5 x6 x7 r,xDp N n x0 x5 x6 x7=some r→RS Tryz.f45 I45 2 (xSP x0 x5 x6 x7) (xBq r):=by
 intro n
 induction n with
 |zero=>exact fun _ _ _ _ _ h=>nE h
 |succ n ih =>
  exact fun x0 x5 x6 x7 r h =>
   cE h (fun h0 h=>iE h fun h1 h=>bE h fun r1 h2 h=>cE h (fun h3 h=>dS h fk45 (vAF x0 x5 x6 x7 r1) (oc4 h0 h1 (xGt h2) h3 on)) fun h3 h =>
   tS fk45 (vAG x0 x5 x6 x7 r1) (oc4 h0 h1 (xGt h2) h3 on) (ih _ _ _ _ _ h)) fun h0 h =>
   dS h fk45 (vAH x0 x5 x6 x7) (oc h0 on)
theorem vEy{N:Nat}:∀a0 r,xFb N a0=some r→RE Tryz.f45 I45 (xEM a0) (xBq r):=fun a0 r h =>
 tE fk45 (vAI a0) on (vEx _ _ _ _ _ _ h)
theorem xDq{N:Nat}{a0:List Str}{r:Bool}(h:xFb N  a0=some r):AbC 45 (xEM a0) (xBq r) :=
 AbsCalls.of_reach fk45 rfl rfl rfl (Nat.le_of_ble_eq_true rfl) (vEy a0 r h)
noncomputable def I157:Info:= { body:=(Tryz.f157.body).getD .skip,nt:=22,results:= [.tmp 2],keep:= [0,4,8,10,12,14,16,26],live:= [(2, [0,10,12,14])],modes:= [(4, [(0, .take,false)]),(6, [(1, .take,false)]),(7, [(3, .take,false)])] }
theorem xTf:FnOk Tryz.prog 157 Tryz.f157 I157:=⟨Tryz.func157,by kernel_rfl,by kernel_rfl,by kernel_rfl,by kernel_rfl⟩
def xMN(x0 x5:List Str)(x6 x7:Int):St:= [(0, .v false [.sl .ro .str x0]),(10, .v false [.sl .ro .str x5]),(12, .v false [.int .i64 x6]),(14, .v false [.int .i64 x7])]
def xWS(x0 x5:List Str)(x6 x7:Int)(r1:Bool):rS 2 I157 (xMN x0 x5 x6 x7) [Y,Y] [xCR r1]=dn (xB0 false) [xFi x7 x6,xHj x7 x5,AbC 172 (xDS (xIO x5 x7)) (xCR r1),iY (!r1)]:=by kernel_rfl
def xWT(x0 x5:List Str)(x6 x7:Int)(r1:Bool):rS 2 I157 (xMN x0 x5 x6 x7) [Y,F] [xCR r1]=st 2 I157 (xMN x0 x5 x6 (W (x7+1))) [xFi x7 x6,xHj x7 x5,AbC 172 (xDS (xIO x5 x7)) (xCR r1),iN (!r1)]:=by kernel_rfl
def xWU(x0 x5:List Str)(x6 x7:Int)(r1 r2:Bool):rS 2 I157 (xMN x0 x5 x6 x7) [F,Y] [xCr r1,xBq r2]=dn (xB0 r2) [xHn x7 x6,AbC 114 (xD3 (Ln x0:Int) 1 4) (xCr r1),iY r1,AbC 45 (xEM x0) (xBq r2)]:=by kernel_rfl
def xWV(x0 x5:List Str)(x6 x7:Int)(r1:Bool):rS 2 I157 (xMN x0 x5 x6 x7) [F,F] [xCr r1]=dn (xB0 false) [xHn x7 x6,AbC 114 (xD3 (Ln x0:Int) 1 4) (xCr r1),iN r1]:=by kernel_rfl
def xWW(a0:List Str):rE I157 (xEi a0) [] []=st 2 I157 (xMN a0 a0 (Ln a0:Int) 0) []:=by kernel_rfl
theorem vDg{N:Nat}:∀n x0 x5 x6 x7 r,xEj N n x0 x5 x6 x7=some r→RS Tryz.f157 I157 2 (xMN x0 x5 x6 x7) (xB0 r):=by
 intro n
 induction n with
 |zero=>exact fun _ _ _ _ _ h=>nE h
 |succ n ih =>
  exact fun x0 x5 x6 x7 r h =>
   cE h (fun h0 h=>iE h fun h1 h=>bE h fun r1 h2 h=>cE h (fun h3 h=>dS h xTf (xWS x0 x5 x6 x7 r1) (oc4 h0 h1 (xID h2) h3 on)) fun h3 h =>
   tS xTf (xWT x0 x5 x6 x7 r1) (oc4 h0 h1 (xID h2) h3 on) (ih _ _ _ _ _ h)) fun h0 h =>
   bE h fun r1 h1 h=>cE h (fun h2 h=>bE h fun r2 h3 h=>dS h xTf (xWU x0 x5 x6 x7 r1 r2) (oc4 h0 (xGW h1) h2 (xDq h3) on)) fun h2 h =>
   dS h xTf (xWV x0 x5 x6 x7 r1) (oc3 h0 (xGW h1) h2 on)
theorem vDh{N:Nat}:∀a0 r,xHv N a0=some r→RE Tryz.f157 I157 (xEi a0) (xB0 r):=fun a0 r h =>
 tE xTf (xWW a0) on (vDg _ _ _ _ _ _ h)
theorem xHw{N:Nat}{a0:List Str}{r:Bool}(h:xHv N  a0=some r):AbC 157 (xEi a0) (xB0 r) :=
 AbsCalls.of_reach xTf rfl rfl rfl (Nat.le_of_ble_eq_true rfl) (vDh a0 r h)
noncomputable def I115:Info:= { body:=(Tryz.f115.body).getD .skip,nt:=77,results:= [.tmp 2],keep:= [0,2,4,8,12,14,16,36,40,42,44,46,64,68,70,72,74,84,90,92,94,96,148,3,9,17],live:= [(4, [2,40,42,44,3]),(9, [2,8,40,42,44,68,70,72,3,9]),(15, [2,8,40,42,44,90,92,94,3,9])],modes:= [(1, [(4, .take,false)]),(11, [(0, .take,false)]),(13, [(1, .take,false)]),(17, [(3, .take,false),(8, .take,false),(11, .take,false)]),(19, [(1, .take,false)]),(20, [(1, .take,false)])] }
theorem xKL:FnOk Tryz.prog 115 Tryz.f115 I115:=⟨Tryz.func115,by kernel_rfl,by kernel_rfl,by kernel_rfl,by kernel_rfl⟩
def xMk(x20:List Rowd)(x21 x22:Int)(b1:Val):St:= [(2, .v false [.ptr 1 0]),(40, .v false [.sl .ro .row x20]),(42, .v false [.int .i64 x21]),(44, .v false [.int .i64 x22]),(3, .v true [.int .i64 (Val.kind b1), .int .i64 (Val.n b1), .int .i64 (Val.step b1), .str (Val.text b1), .sl .ro .val (Val.list b1), .sl .ro .str (Val.columns b1), .sl .ro .row (Val.rows b1)])]
def xOi(x20:List Rowd)(x21 x22:Int)(x34:List Int)(x35 x36:Int)(b1:Val)(b4:Rowd):St:= [(2, .v false [.ptr 1 0]),(8, .v false [.ptr 4 0]),(40, .v false [.sl .ro .row x20]),(42, .v false [.int .i64 x21]),(44, .v false [.int .i64 x22]),(68, .v false [.sl .ro .int x34]),(70, .v false [.int .i64 x35]),(72, .v false [.int .i64 x36]),(3, .v true [.int .i64 (Val.kind b1), .int .i64 (Val.n b1), .int .i64 (Val.step b1), .str (Val.text b1), .sl .ro .val (Val.list b1), .sl .ro .str (Val.columns b1), .sl .ro .row (Val.rows b1)]),(9, .v true [.sl .ro .int (Rowd.cells b4), .sl .ro .org (Rowd.frm b4)])]
def xJm(x20:List Rowd)(x21 x22:Int)(x45:List Org)(x46 x47:Int)(b1:Val)(b4:Rowd):St:= [(2, .v false [.ptr 1 0]),(8, .v false [.ptr 4 0]),(40, .v false [.sl .ro .row x20]),(42, .v false [.int .i64 x21]),(44, .v false [.int .i64 x22]),(90, .v false [.sl .ro .org x45]),(92, .v false [.int .i64 x46]),(94, .v false [.int .i64 x47]),(3, .v true [.int .i64 (Val.kind b1), .int .i64 (Val.n b1), .int .i64 (Val.step b1), .str (Val.text b1), .sl .ro .val (Val.list b1), .sl .ro .str (Val.columns b1), .sl .ro .row (Val.rows b1)]),(9, .v true [.sl .ro .int (Rowd.cells b4), .sl .ro .org (Rowd.frm b4)])]
def xUq(x20:List Rowd)(x21 x22:Int)(x45:List Org)(x46 x47:Int)(b1:Val)(b4:Rowd):rS 15 I115 (xJm x20 x21 x22 x45 x46 x47 b1 b4) [Y,Y,Y,Y] []=dn (xBs false) [xFi x47 x46,xEX x47 x45,iY (xRR x45 x47),iY true,iY true]:=by kernel_rfl
def xUr(x20:List Rowd)(x21 x22:Int)(x45:List Org)(x46 x47:Int)(b1:Val)(b4:Rowd):rS 15 I115 (xJm x20 x21 x22 x45 x46 x47 b1 b4) [Y,F,Y,Y] []=dn (xBs false) [xFi x47 x46,xEX x47 x45,xMs x45 x47,iY (xRS x45 x47),iY true]:=by kernel_rfl
def xUs(x20:List Rowd)(x21 x22:Int)(x45:List Org)(x46 x47:Int)(b1:Val)(b4:Rowd)(r1:Bool):rS 15 I115 (xJm x20 x21 x22 x45 x46 x47 b1 b4) [Y,F,F,Y,Y] [xBS r1]=dn (xBs false) [xFi x47 x46,xEX x47 x45,xMs x45 x47,xOt x45 x47,iY (dc (x47>0)),(0:Int)≤(W (x47 - 1))∧(W (x47 - 1))<(Ln (Rowd.frm b4)),AbC 65 (xCH (gD (Rowd.frm b4) (tN (W (x47 - 1))) Ty.org.dflt) (xGj x45 x47)) (xBS r1),iY (!r1)]:=by kernel_rfl
def xUt(x20:List Rowd)(x21 x22:Int)(x45:List Org)(x46 x47:Int)(b1:Val)(b4:Rowd)(r1:Bool):rS 15 I115 (xJm x20 x21 x22 x45 x46 x47 b1 b4) [Y,F,F,Y,F] [xBS r1]=st 15 I115 (xJm x20 x21 x22 x45 x46 (W (x47+1)) b1 b4) [xFi x47 x46,xEX x47 x45,xMs x45 x47,xOt x45 x47,iY (dc (x47>0)),(0:Int)≤(W (x47 - 1))∧(W (x47 - 1))<(Ln (Rowd.frm b4)),AbC 65 (xCH (gD (Rowd.frm b4) (tN (W (x47 - 1))) Ty.org.dflt) (xGj x45 x47)) (xBS r1),iN (!r1)]:=by kernel_rfl
def xUu(x20:List Rowd)(x21 x22:Int)(x45:List Org)(x46 x47:Int)(b1:Val)(b4:Rowd):rS 15 I115 (xJm x20 x21 x22 x45 x46 x47 b1 b4) [Y,F,F,F,F] []=st 15 I115 (xJm x20 x21 x22 x45 x46 (W (x47+1)) b1 b4) [xFi x47 x46,xEX x47 x45,xMs x45 x47,xOt x45 x47,iN (dc (x47>0)),iN false]:=by kernel_rfl
def xUv(x20:List Rowd)(x21 x22:Int)(x45:List Org)(x46 x47:Int)(b1:Val)(b4:Rowd):rS 15 I115 (xJm x20 x21 x22 x45 x46 x47 b1 b4) [F] []=st 4 I115 (xMk x20 x21 (W (x22+1)) b1) [xHn x47 x46]:=by kernel_rfl
abbrev xT6(v0:List Int)(v1:Int):=gD v0 (tN v1) Ty.int.dflt
def xVW(x20:List Rowd)(x21 x22:Int)(x34:List Int)(x35 x36:Int)(b1:Val)(b4:Rowd)(r1:Bool):rS 9 I115 (xOi x20 x21 x22 x34 x35 x36 b1 b4) [Y,Y] [xBQ r1]=dn (xBs false) [xFi x36 x35,xIR x36 x34,AbC 82 (xDm (xT6 x34 x36)) (xBQ r1),iY (!r1)]:=by kernel_rfl
def xVX(x20:List Rowd)(x21 x22:Int)(x34:List Int)(x35 x36:Int)(b1:Val)(b4:Rowd)(r1:Bool):rS 9 I115 (xOi x20 x21 x22 x34 x35 x36 b1 b4) [Y,F] [xBQ r1]=st 9 I115 (xOi x20 x21 x22 x34 x35 (W (x36+1)) b1 b4) [xFi x36 x35,xIR x36 x34,AbC 82 (xDm (xT6 x34 x36)) (xBQ r1),iN (!r1)]:=by kernel_rfl
def xVY(x20:List Rowd)(x21 x22:Int)(x34:List Int)(x35 x36:Int)(b1:Val)(b4:Rowd):rS 9 I115 (xOi x20 x21 x22 x34 x35 x36 b1 b4) [F] []=st 15 I115 (xJm x20 x21 x22 (Rowd.frm b4) (Ln (Rowd.frm b4):Int) 0 b1 b4) [xHn x36 x35]:=by kernel_rfl
abbrev xNd(v0:Int)(v1:List Rowd):Prop:=(0:Int)≤v0∧v0<(Ln v1)
abbrev xMd(v0:List Rowd)(v1:Int):=Rowd.cells (gD v0 (tN v1) rd)
abbrev xJt(v0:Val):=(Ln (Val.columns v0):Int)
def xVV(x20:List Rowd)(x21 x22:Int)(b1:Val):rS 4 I115 (xMk x20 x21 x22 b1) [Y,Y] []=dn (xBs false) [xFi x22 x21,xNd x22 x20,iY (((Ln (xMd x20 x22):Int):Int) != (xJt b1))]:=by kernel_rfl
abbrev xR7(v0:List Rowd)(v1:Int):=gD v0 (tN v1) rd
def xUw(x20:List Rowd)(x21 x22:Int)(b1:Val):rS 4 I115 (xMk x20 x21 x22 b1) [Y,F] []=st 9 I115 (xOi x20 x21 x22 (xMd x20 x22) (Ln (xMd x20 x22):Int) 0 b1 (xR7 x20 x22)) [xFi x22 x21,xNd x22 x20,iN (((Ln (xMd x20 x22):Int):Int) != (xJt b1))]:=by kernel_rfl
def xUx(x20:List Rowd)(x21 x22:Int)(b1:Val):rS 4 I115 (xMk x20 x21 x22 b1) [F] []=dn (xBs true) [xHn x22 x21]:=by kernel_rfl
def xUy(a0:Val)(r1:Bool):rE I115 (xES a0) [Y,Y] [xB0 r1]=dn (xBs false) [AbC 157 (xEi (xCN a0)) (xB0 r1),iY (!r1),iY true]:=by kernel_rfl
def xUz(a0:Val)(r1:Bool):rE I115 (xES a0) [F,Y] [xB0 r1]=dn (xBs false) [AbC 157 (xEi (xCN a0)) (xB0 r1),iN (!r1),xSz a0]:=by kernel_rfl
def xUA(a0:Val)(r1:Bool):rE I115 (xES a0) [F,F] [xB0 r1]=st 4 I115 (xMk (Val.rows a0) (xHb a0) 0 a0) [AbC 157 (xEi (xCN a0)) (xB0 r1),iN (!r1),xSA a0]:=by kernel_rfl
theorem xZG{N:Nat}{k4:(List Rowd)→Int→Int→Val→Option (Bool)}(hk4:∀z0 z1 z2 z3 r,k4 z0 z1 z2 z3=some r→RS Tryz.f115 I115 4 (xMk z0 z1 z2 z3) (xBs r)):∀n x20 x21 x22 x45 x46 x47 b1 b4 r,xDJ N k4 n x20 x21 x22 x45 x46 x47 b1 b4=some r→RS Tryz.f115 I115 15 (xJm x20 x21 x22 x45 x46 x47 b1 b4) (xBs r):=by
 intro n
 induction n with
 |zero=>exact fun _ _ _ _ _ _ _ _ _ h=>nE h
 |succ n ih =>
  exact fun x20 x21 x22 x45 x46 x47 b1 b4 r h =>
   cE h (fun h0 h=>iE h fun h1 h=>cE h (fun h2 h=>dS h xKL (xUq x20 x21 x22 x45 x46 x47 b1 b4) (oc5 h0 h1 h2 rfl rfl on)) fun h2 h =>
   cE h (fun h3 h=>dS h xKL (xUr x20 x21 x22 x45 x46 x47 b1 b4) (oc5 h0 h1 h2 h3 rfl on)) fun h3 h =>
   cE h (fun h4 h=>iE h fun h5 h=>bE h fun r1 h6 h=>cE h (fun h7 h=>dS h xKL (xUs x20 x21 x22 x45 x46 x47 b1 b4 r1) (oc8 h0 h1 h2 h3 h4 h5 (xGP h6) h7 on)) fun h7 h =>
   tS xKL (xUt x20 x21 x22 x45 x46 x47 b1 b4 r1) (oc8 h0 h1 h2 h3 h4 h5 (xGP h6) h7 on) (ih _ _ _ _ _ _ _ _ _ h)) fun h4 h =>
   tS xKL (xUu x20 x21 x22 x45 x46 x47 b1 b4) (oc6 h0 h1 h2 h3 h4 rfl on) (ih _ _ _ _ _ _ _ _ _ h)) fun h0 h =>
   tS xKL (xUv x20 x21 x22 x45 x46 x47 b1 b4) (oc h0 on) (hk4 _ _ _ _ _ h)
theorem vCT{N:Nat}{k4:(List Rowd)→Int→Int→Val→Option (Bool)}(hk4:∀z0 z1 z2 z3 r,k4 z0 z1 z2 z3=some r→RS Tryz.f115 I115 4 (xMk z0 z1 z2 z3) (xBs r)):∀n x20 x21 x22 x34 x35 x36 b1 b4 r,xEU N k4 n x20 x21 x22 x34 x35 x36 b1 b4=some r→RS Tryz.f115 I115 9 (xOi x20 x21 x22 x34 x35 x36 b1 b4) (xBs r):=by
 intro n
 induction n with
 |zero=>exact fun _ _ _ _ _ _ _ _ _ h=>nE h
 |succ n ih =>
  exact fun x20 x21 x22 x34 x35 x36 b1 b4 r h =>
   cE h (fun h0 h=>iE h fun h1 h=>bE h fun r1 h2 h=>cE h (fun h3 h=>dS h xKL (xVW x20 x21 x22 x34 x35 x36 b1 b4 r1) (oc4 h0 h1 (xFc h2) h3 on)) fun h3 h =>
   tS xKL (xVX x20 x21 x22 x34 x35 x36 b1 b4 r1) (oc4 h0 h1 (xFc h2) h3 on) (ih _ _ _ _ _ _ _ _ _ h)) fun h0 h =>
   tS xKL (xVY x20 x21 x22 x34 x35 x36 b1 b4) (oc h0 on) (xZG hk4 _ _ _ _ _ _ _ _ _ _ h)
theorem vCS{N:Nat}:∀n x20 x21 x22 b1 r,xET N n x20 x21 x22 b1=some r→RS Tryz.f115 I115 4 (xMk x20 x21 x22 b1) (xBs r):=by
 intro n
 induction n with
 |zero=>exact fun _ _ _ _ _ h=>nE h
 |succ n ih =>
  exact fun x20 x21 x22 b1 r h =>
   cE h (fun h0 h=>iE h fun h1 h=>cE h (fun h2 h=>dS h xKL (xVV x20 x21 x22 b1) (oc3 h0 h1 h2 on)) fun h2 h =>
   tS xKL (xUw x20 x21 x22 b1) (oc3 h0 h1 h2 on) (vCT ih _ _ _ _ _ _ _ _ _ _ h)) fun h0 h =>
   dS h xKL (xUx x20 x21 x22 b1) (oc h0 on)
theorem vCU{N:Nat}:∀a0 r,xHi N a0=some r→RE Tryz.f115 I115 (xES a0) (xBs r):=fun a0 r h =>
 bE h fun r1 h0 h=>cE h (fun h1 h=>dE h xKL (xUy a0 r1) (oc3 (xHw h0) h1 rfl on)) fun h1 h =>
 cE h (fun h2 h=>dE h xKL (xUz a0 r1) (oc3 (xHw h0) h1 h2 on)) fun h2 h =>
 tE xKL (xUA a0 r1) (oc3 (xHw h0) h1 h2 on) (vCS _ _ _ _ _ _ h)
theorem xKr{N:Nat}{a0:Val}{r:Bool}(h:xHi N  a0=some r):AbC 115 (xES a0) (xBs r) :=
 AbsCalls.of_reach xKL rfl rfl rfl (Nat.le_of_ble_eq_true rfl) (vCU a0 r h)
def G116(q:Val→Option (Int)):Prop:=∀a0 r,q a0=some r→AbC 116 (xEN a0) (xDc r)
noncomputable def I116:Info:= { body:=(Tryz.f116.body).getD .skip,nt:=20,results:= [.tmp 2],keep:= [0,2,4,6,10,14,16,18,20,3,11],live:= [(3, [6,14,16,18])],modes:= [(6, [(1, .take,false)])] }
theorem xU5:FnOk Tryz.prog 116 Tryz.f116 I116:=⟨Tryz.func116,by kernel_rfl,by kernel_rfl,by kernel_rfl,by kernel_rfl⟩
def xQb(x3:Int)(x7:List Val)(x8 x9:Int):St:= [(6, .v false [.int .i64 x3]),(14, .v false [.sl .ro .val x7]),(16, .v false [.int .i64 x8]),(18, .v false [.int .i64 x9])]
def xVZ(x3:Int)(x7:List Val)(x8 x9 r1:Int):rS 3 I116 (xQb x3 x7 x8 x9) [Y] [xDc r1]=st 3 I116 (xQb (if r1>x3 then r1 else x3) x7 x8 (W (x9+1))) [xFi x9 x8,xGX x9 x7,AbC 116 (xEN (xLf x7 x9)) (xDc r1)]:=by kernel_rfl
def xV0(x3:Int)(x7:List Val)(x8 x9:Int):rS 3 I116 (xQb x3 x7 x8 x9) [F] []=dn (xDc (W (x3+1))) [xHn x9 x8]:=by kernel_rfl
def xV1(a0:Val):rE I116 (xEN a0) [] []=st 3 I116 (xQb 0 (Val.list a0) (xIN a0) 0) []:=by kernel_rfl
theorem vCV{N q0}(g0:G116 q0):∀n x3 x7 x8 x9 r,xFw N q0 n x3 x7 x8 x9=some r→RS Tryz.f116 I116 3 (xQb x3 x7 x8 x9) (xDc r):=by
 intro n
 induction n with
 |zero=>exact fun _ _ _ _ _ h=>nE h
 |succ n ih =>
  exact fun x3 x7 x8 x9 r h =>
   cE h (fun h0 h=>iE h fun h1 h=>bE h fun r1 h2 h=>tS xU5 (xVZ x3 x7 x8 x9 r1) (oc3 h0 h1 (g0 _ _ h2) on) (ih _ _ _ _ _ h)) fun h0 h =>
   dS h xU5 (xV0 x3 x7 x8 x9) (oc h0 on)
theorem vCW{N q0}(g0:G116 q0):∀a0 r,xHO N q0 a0=some r→RE Tryz.f116 I116 (xEN a0) (xDc r):=fun a0 r h =>
 tE xU5 (xV1 a0) on (vCV g0 _ _ _ _ _ _ h)
theorem xKM{N q0}(g0:G116 q0){a0}{r}(h:xHO N q0 a0=some r):AbC 116 (xEN a0) (xDc r) :=
 AbsCalls.of_reach xU5 rfl rfl rfl (Nat.le_of_ble_eq_true rfl) (vCW g0 a0 r h)
theorem xIC{N:Nat}:∀d,G116 (xEq N d)
 |0=>fun _ _ h=>nE h
 |d+1=>fun _ _ h=>xKM (N:=N) (xIC d) h
theorem xM0{N:Nat}{a0:Val}{r:Int}(h:xH7 N a0=some r):AbC 116 (xEN a0) (xDc r):=xIC N _ r h
def G72(q:Val→Option (Bool)):Prop:=∀a0 r,q a0=some r→AbC 72 (xAe a0) (xAb r)
noncomputable def I72:Info:= { body:=(Tryz.f72.body).getD .skip,nt:=185,results:= [.tmp 2],keep:= [0,2,4,6,10,46,48,84,120,156,192,242,248,250,252,254,294,3,11],live:= [(15, [2,248,250,252,3])],modes:= [(1, [(4, .take,false),(10, .take,false)]),(4, [(1, .take,false),(6, .take,false),(11, .take,false)]),(6, [(1, .take,false),(6, .take,false),(11, .take,false)]),(8, [(1, .take,false),(6, .take,false),(11, .take,false)]),(10, [(1, .take,false),(6, .take,false),(11, .take,false)]),(12, [(3, .take,false),(8, .take,false),(13, .take,false),(19, .take,false)]),(17, [(3, .take,false),(8, .take,false),(13, .take,false)]),(19, [(1, .take,false)]),(20, [(3, .take,false),(8, .take,false),(13, .take,false),(19, .take,false),(25, .take,false),(31, .take,false)])] }
theorem fk72:FnOk Tryz.prog 72 Tryz.f72 I72:=⟨Tryz.func72,by kernel_rfl,by kernel_rfl,by kernel_rfl,by kernel_rfl⟩
def xHr(x124:List Val)(x125 x126:Int)(b1:Val):St:= [(2, .v false [.ptr 1 0]),(248, .v false [.sl .ro .val x124]),(250, .v false [.int .i64 x125]),(252, .v false [.int .i64 x126]),(3, .v true [.int .i64 (Val.kind b1), .int .i64 (Val.n b1), .int .i64 (Val.step b1), .str (Val.text b1), .sl .ro .val (Val.list b1), .sl .ro .str (Val.columns b1), .sl .ro .row (Val.rows b1)])]
abbrev xJ5(v0:List Val)(v1:Int):=((Val.kind (gD v0 (tN v1) vd)):Int)
abbrev xNe(v0:List Val)(v1:Int):Prop:=iY ((xJ5 v0 v1) != 1)
abbrev xRH(v0:List Val)(v1:Int):Prop:=iY ((xJ5 v0 v1) != 2)
def xYe(x124:List Val)(x125 x126:Int)(b1:Val):rS 15 I72 (xHr x124 x125 x126 b1) [Y,Y,Y,Y,Y] []=dn (xAb false) [xFi x126 x125,xGX x126 x124,xNe x124 x126,xRH x124 x126,iY ((xJ5 x124 x126) != 3),iY true]:=by kernel_rfl
abbrev xJ2(v0:List Val)(v1:Int)(v2:Bool):Prop:=AbC 72 (xAe (xLf v0 v1)) (xAb v2)
def xYf(x124:List Val)(x125 x126:Int)(b1:Val)(r1:Bool):rS 15 I72 (xHr x124 x125 x126 b1) [Y,Y,Y,F,Y] [xAb r1]=dn (xAb false) [xFi x126 x125,xGX x126 x124,xNe x124 x126,xRH x124 x126,iN ((xJ5 x124 x126) != 3),xJ2 x124 x126 r1,iY (!r1)]:=by kernel_rfl
def xYg(x124:List Val)(x125 x126:Int)(b1:Val)(r1:Bool):rS 15 I72 (xHr x124 x125 x126 b1) [Y,Y,Y,F,F] [xAb r1]=st 15 I72 (xHr x124 x125 (W (x126+1)) b1) [xFi x126 x125,xGX x126 x124,xNe x124 x126,xRH x124 x126,iN ((xJ5 x124 x126) != 3),xJ2 x124 x126 r1,iN (!r1)]:=by kernel_rfl
def xYh(x124:List Val)(x125 x126:Int)(b1:Val)(r1:Bool):rS 15 I72 (xHr x124 x125 x126 b1) [Y,Y,F,F,Y] [xAb r1]=dn (xAb false) [xFi x126 x125,xGX x126 x124,xNe x124 x126,iN ((xJ5 x124 x126) != 2),iN false,xJ2 x124 x126 r1,iY (!r1)]:=by kernel_rfl
def xYi(x124:List Val)(x125 x126:Int)(b1:Val)(r1:Bool):rS 15 I72 (xHr x124 x125 x126 b1) [Y,Y,F,F,F] [xAb r1]=st 15 I72 (xHr x124 x125 (W (x126+1)) b1) [xFi x126 x125,xGX x126 x124,xNe x124 x126,iN ((xJ5 x124 x126) != 2),iN false,xJ2 x124 x126 r1,iN (!r1)]:=by kernel_rfl
def xYj(x124:List Val)(x125 x126:Int)(b1:Val)(r1:Bool):rS 15 I72 (xHr x124 x125 x126 b1) [Y,F,F,F,Y] [xAb r1]=dn (xAb false) [xFi x126 x125,xGX x126 x124,iN ((xJ5 x124 x126) != 1),iN false,iN false,xJ2 x124 x126 r1,iY (!r1)]:=by kernel_rfl
def xYk(x124:List Val)(x125 x126:Int)(b1:Val)(r1:Bool):rS 15 I72 (xHr x124 x125 x126 b1) [Y,F,F,F,F] [xAb r1]=st 15 I72 (xHr x124 x125 (W (x126+1)) b1) [xFi x126 x125,xGX x126 x124,iN ((xJ5 x124 x126) != 1),iN false,iN false,xJ2 x124 x126 r1,iN (!r1)]:=by kernel_rfl
abbrev xGQ(v0:Val):Prop:=iY ((Val.step v0)==0)
abbrev xIJ(v0:Val):Prop:=iY (xOY v0)
abbrev xEr(v0:Val):Prop:=iY ((xJt v0)==0)
abbrev xHz(v0:Val):Prop:=iY ((xHb v0)==0)
def xYl(x124:List Val)(x125 x126:Int)(b1:Val)(r1:Int):rS 15 I72 (xHr x124 x125 x126 b1) [F,Y,Y,Y,Y,Y,Y] [xDc r1]=dn (xAb (dc (r1≤3))) [xHn x126 x125,xHl b1,xGQ b1,xIJ b1,xEr b1,xHz b1,iY (xOZ b1),AbC 116 (xEN b1) (xDc r1)]:=by kernel_rfl
def xYm(x124:List Val)(x125 x126:Int)(b1:Val):rS 15 I72 (xHr x124 x125 x126 b1) [F,Y,Y,Y,Y,Y,F] []=dn (xAb false) [xHn x126 x125,xHl b1,xGQ b1,xIJ b1,xEr b1,xHz b1,iN (xOZ b1)]:=by kernel_rfl
abbrev xNf(v0:Val):Prop:=iN ((xHb v0)==0)
def xYn(x124:List Val)(x125 x126:Int)(b1:Val):rS 15 I72 (xHr x124 x125 x126 b1) [F,Y,Y,Y,Y,F,F] []=dn (xAb false) [xHn x126 x125,xHl b1,xGQ b1,xIJ b1,xEr b1,xNf b1,iN false]:=by kernel_rfl
abbrev xIK(v0:Val):Prop:=iN ((xJt v0)==0)
def xUR(x124:List Val)(x125 x126:Int)(b1:Val):rS 15 I72 (xHr x124 x125 x126 b1) [F,Y,Y,Y,F,F,F] []=dn (xAb false) [xHn x126 x125,xHl b1,xGQ b1,xIJ b1,xIK b1,iN false,iN false]:=by kernel_rfl
abbrev xLa(v0:Val):Prop:=iN (xOY v0)
def xUS(x124:List Val)(x125 x126:Int)(b1:Val):rS 15 I72 (xHr x124 x125 x126 b1) [F,Y,Y,F,F,F,F] []=dn (xAb false) [xHn x126 x125,xHl b1,xGQ b1,xLa b1,iN false,iN false,iN false]:=by kernel_rfl
abbrev xLb(v0:Val):Prop:=iN ((Val.step v0)==0)
def xUT(x124:List Val)(x125 x126:Int)(b1:Val):rS 15 I72 (xHr x124 x125 x126 b1) [F,Y,F,F,F,F,F] []=dn (xAb false) [xHn x126 x125,xHl b1,xLb b1,iN false,iN false,iN false,iN false]:=by kernel_rfl
def xUU(x124:List Val)(x125 x126:Int)(b1:Val):rS 15 I72 (xHr x124 x125 x126 b1) [F,F,F,F,F,F,F] []=dn (xAb false) [xHn x126 x125,xMv b1,iN false,iN false,iN false,iN false,iN false]:=by kernel_rfl
abbrev xC0(v0:Val):Prop:=iY ((xIN v0)==0)
def xYo(a0:Val)(r1:Bool):rE I72 (xAe a0) [Y,Y,Y,Y,Y,Y] [xBQ r1]=dn (xAb r1) [xC0 a0,xEr a0,xMr a0,xHz a0,xGQ a0,xIJ a0,AbC 82 (xDm (Val.n a0)) (xBQ r1)]:=by kernel_rfl
def xYp(a0:Val):rE I72 (xAe a0) [Y,Y,Y,Y,Y,F] []=dn (xAb false) [xC0 a0,xEr a0,xMr a0,xHz a0,xGQ a0,xLa a0]:=by kernel_rfl
def xYq(a0:Val):rE I72 (xAe a0) [Y,Y,Y,Y,F,F] []=dn (xAb false) [xC0 a0,xEr a0,xMr a0,xHz a0,xLb a0,iN false]:=by kernel_rfl
def xYr(a0:Val):rE I72 (xAe a0) [Y,Y,Y,F,F,F] []=dn (xAb false) [xC0 a0,xEr a0,xMr a0,xNf a0,iN false,iN false]:=by kernel_rfl
def xYs(a0:Val)(r1:Bool):rE I72 (xAe a0) [Y,Y,F,Y,Y,Y,Y] [xCx r1]=dn (xAb r1) [xC0 a0,xEr a0,xCO a0,xLA a0,xHz a0,xHl a0,xGQ a0,AbC 113 (xFO (Val.text a0)) (xCx r1)]:=by kernel_rfl
def xYt(a0:Val):rE I72 (xAe a0) [Y,Y,F,Y,Y,Y,F] []=dn (xAb false) [xC0 a0,xEr a0,xCO a0,xLA a0,xHz a0,xHl a0,xLb a0]:=by kernel_rfl
def xYu(a0:Val):rE I72 (xAe a0) [Y,Y,F,Y,Y,F,F] []=dn (xAb false) [xC0 a0,xEr a0,xCO a0,xLA a0,xHz a0,xMv a0,iN false]:=by kernel_rfl
def xYv(a0:Val):rE I72 (xAe a0) [Y,Y,F,Y,F,F,F] []=dn (xAb false) [xC0 a0,xEr a0,xCO a0,xLA a0,xNf a0,iN false,iN false]:=by kernel_rfl
def xYw(a0:Val)(r1 r2:Bool):rE I72 (xAe a0) [Y,Y,F,F,Y,Y,Y,Y] [xBQ r1,xBQ r2]=dn (xAb r2) [xC0 a0,xEr a0,xCO a0,xDB a0,xMu a0,xHz a0,xIJ a0,AbC 82 (xDm (Val.n a0)) (xBQ r1),iY r1,AbC 82 (xDm (Val.step a0)) (xBQ r2)]:=by kernel_rfl
def xYx(a0:Val)(r1:Bool):rE I72 (xAe a0) [Y,Y,F,F,Y,Y,Y,F] [xBQ r1]=dn (xAb false) [xC0 a0,xEr a0,xCO a0,xDB a0,xMu a0,xHz a0,xIJ a0,AbC 82 (xDm (Val.n a0)) (xBQ r1),iN r1]:=by kernel_rfl
def xYy(a0:Val):rE I72 (xAe a0) [Y,Y,F,F,Y,Y,F,F] []=dn (xAb false) [xC0 a0,xEr a0,xCO a0,xDB a0,xMu a0,xHz a0,xLa a0,iN false]:=by kernel_rfl
def xYz(a0:Val):rE I72 (xAe a0) [Y,Y,F,F,Y,F,F,F] []=dn (xAb false) [xC0 a0,xEr a0,xCO a0,xDB a0,xMu a0,xNf a0,iN false,iN false]:=by kernel_rfl
def xYA(a0:Val)(r1:Bool):rE I72 (xAe a0) [Y,Y,F,F,F,Y,Y,Y,Y] [xCr r1]=dn (xAb r1) [xC0 a0,xEr a0,xCO a0,xDB a0,xFr a0,xNk a0,xHz a0,xGQ a0,xIJ a0,AbC 114 (xD3 (Val.n a0) 1 8) (xCr r1)]:=by kernel_rfl
def xYB(a0:Val):rE I72 (xAe a0) [Y,Y,F,F,F,Y,Y,Y,F] []=dn (xAb false) [xC0 a0,xEr a0,xCO a0,xDB a0,xFr a0,xNk a0,xHz a0,xGQ a0,xLa a0]:=by kernel_rfl
def xYC(a0:Val):rE I72 (xAe a0) [Y,Y,F,F,F,Y,Y,F,F] []=dn (xAb false) [xC0 a0,xEr a0,xCO a0,xDB a0,xFr a0,xNk a0,xHz a0,xLb a0,iN false]:=by kernel_rfl
def xYD(a0:Val):rE I72 (xAe a0) [Y,Y,F,F,F,Y,F,F,F] []=dn (xAb false) [xC0 a0,xEr a0,xCO a0,xDB a0,xFr a0,xNk a0,xNf a0,iN false,iN false]:=by kernel_rfl
def xYE(a0:Val)(r1:Bool):rE I72 (xAe a0) [Y,Y,F,F,F,F,Y,Y,Y,Y,Y] [xBs r1]=dn (xAb r1) [xC0 a0,xEr a0,xCO a0,xDB a0,xFr a0,xHA a0,xJd a0,xHl a0,xGQ a0,xIJ a0,xC0 a0,AbC 115 (xES a0) (xBs r1)]:=by kernel_rfl
def xYF(a0:Val):rE I72 (xAe a0) [Y,Y,F,F,F,F,Y,Y,Y,F,F] []=dn (xAb false) [xC0 a0,xEr a0,xCO a0,xDB a0,xFr a0,xHA a0,xJd a0,xHl a0,xGQ a0,xLa a0,iN false]:=by kernel_rfl
def xYG(a0:Val):rE I72 (xAe a0) [Y,Y,F,F,F,F,Y,Y,F,F,F] []=dn (xAb false) [xC0 a0,xEr a0,xCO a0,xDB a0,xFr a0,xHA a0,xJd a0,xHl a0,xLb a0,iN false,iN false]:=by kernel_rfl
def xYH(a0:Val):rE I72 (xAe a0) [Y,Y,F,F,F,F,Y,F,F,F,F] []=dn (xAb false) [xC0 a0,xEr a0,xCO a0,xDB a0,xFr a0,xHA a0,xJd a0,xMv a0,iN false,iN false,iN false]:=by kernel_rfl
abbrev xR8(v0:Val):=xHr (Val.list v0) (Ln (Val.list v0):Int) 0 v0
def xYI(a0:Val):rE I72 (xAe a0) [Y,Y,F,F,F,F,F,Y] []=st 15 I72 (xR8 a0) [xC0 a0,xEr a0,xCO a0,xDB a0,xFr a0,xHA a0,xMt a0,xQv a0]:=by kernel_rfl
def xYJ(a0:Val):rE I72 (xAe a0) [Y,Y,F,F,F,F,F,F] []=dn (xAb false) [xC0 a0,xEr a0,xCO a0,xDB a0,xFr a0,xHA a0,xMt a0,xLF a0]:=by kernel_rfl
def xYK(a0:Val):rE I72 (xAe a0) [Y,F,Y,F,F,F] []=dn (xAb false) [xC0 a0,xIK a0,xMr a0,iN false,iN false,iN false]:=by kernel_rfl
def xYL(a0:Val):rE I72 (xAe a0) [Y,F,F,Y,F,F,F] []=dn (xAb false) [xC0 a0,xIK a0,xCO a0,xLA a0,iN false,iN false,iN false]:=by kernel_rfl
def xYM(a0:Val):rE I72 (xAe a0) [Y,F,F,F,Y,F,F,F] []=dn (xAb false) [xC0 a0,xIK a0,xCO a0,xDB a0,xMu a0,iN false,iN false,iN false]:=by kernel_rfl
def xYN(a0:Val):rE I72 (xAe a0) [Y,F,F,F,F,Y,F,F,F] []=dn (xAb false) [xC0 a0,xIK a0,xCO a0,xDB a0,xFr a0,xNk a0,iN false,iN false,iN false]:=by kernel_rfl
def xYO(a0:Val)(r1:Bool):rE I72 (xAe a0) [Y,F,F,F,F,F,Y,Y,Y,Y,Y] [xBs r1]=dn (xAb r1) [xC0 a0,xIK a0,xCO a0,xDB a0,xFr a0,xHA a0,xJd a0,xHl a0,xGQ a0,xIJ a0,xC0 a0,AbC 115 (xES a0) (xBs r1)]:=by kernel_rfl
def xYP(a0:Val):rE I72 (xAe a0) [Y,F,F,F,F,F,Y,Y,Y,F,F] []=dn (xAb false) [xC0 a0,xIK a0,xCO a0,xDB a0,xFr a0,xHA a0,xJd a0,xHl a0,xGQ a0,xLa a0,iN false]:=by kernel_rfl
def xYQ(a0:Val):rE I72 (xAe a0) [Y,F,F,F,F,F,Y,Y,F,F,F] []=dn (xAb false) [xC0 a0,xIK a0,xCO a0,xDB a0,xFr a0,xHA a0,xJd a0,xHl a0,xLb a0,iN false,iN false]:=by kernel_rfl
def xYR(a0:Val):rE I72 (xAe a0) [Y,F,F,F,F,F,Y,F,F,F,F] []=dn (xAb false) [xC0 a0,xIK a0,xCO a0,xDB a0,xFr a0,xHA a0,xJd a0,xMv a0,iN false,iN false,iN false]:=by kernel_rfl
def xYS(a0:Val):rE I72 (xAe a0) [Y,F,F,F,F,F,F,Y] []=st 15 I72 (xR8 a0) [xC0 a0,xIK a0,xCO a0,xDB a0,xFr a0,xHA a0,xMt a0,xQv a0]:=by kernel_rfl
def xYT(a0:Val):rE I72 (xAe a0) [Y,F,F,F,F,F,F,F] []=dn (xAb false) [xC0 a0,xIK a0,xCO a0,xDB a0,xFr a0,xHA a0,xMt a0,xLF a0]:=by kernel_rfl
abbrev xIL(v0:Val):Prop:=iN ((xIN v0)==0)
def xYU(a0:Val):rE I72 (xAe a0) [F,F,Y,F,F,F] []=dn (xAb false) [xIL a0,iN false,xMr a0,iN false,iN false,iN false]:=by kernel_rfl
def xYV(a0:Val):rE I72 (xAe a0) [F,F,F,Y,F,F,F] []=dn (xAb false) [xIL a0,iN false,xCO a0,xLA a0,iN false,iN false,iN false]:=by kernel_rfl
def xYW(a0:Val):rE I72 (xAe a0) [F,F,F,F,Y,F,F,F] []=dn (xAb false) [xIL a0,iN false,xCO a0,xDB a0,xMu a0,iN false,iN false,iN false]:=by kernel_rfl
def xYX(a0:Val):rE I72 (xAe a0) [F,F,F,F,F,Y,F,F,F] []=dn (xAb false) [xIL a0,iN false,xCO a0,xDB a0,xFr a0,xNk a0,iN false,iN false,iN false]:=by kernel_rfl
def xYY(a0:Val):rE I72 (xAe a0) [F,F,F,F,F,F,Y,Y,Y,Y,F] []=dn (xAb false) [xIL a0,iN false,xCO a0,xDB a0,xFr a0,xHA a0,xJd a0,xHl a0,xGQ a0,xIJ a0,xIL a0]:=by kernel_rfl
def xYZ(a0:Val):rE I72 (xAe a0) [F,F,F,F,F,F,Y,Y,Y,F,F] []=dn (xAb false) [xIL a0,iN false,xCO a0,xDB a0,xFr a0,xHA a0,xJd a0,xHl a0,xGQ a0,xLa a0,iN false]:=by kernel_rfl
def xY0(a0:Val):rE I72 (xAe a0) [F,F,F,F,F,F,Y,Y,F,F,F] []=dn (xAb false) [xIL a0,iN false,xCO a0,xDB a0,xFr a0,xHA a0,xJd a0,xHl a0,xLb a0,iN false,iN false]:=by kernel_rfl
def xY1(a0:Val):rE I72 (xAe a0) [F,F,F,F,F,F,Y,F,F,F,F] []=dn (xAb false) [xIL a0,iN false,xCO a0,xDB a0,xFr a0,xHA a0,xJd a0,xMv a0,iN false,iN false,iN false]:=by kernel_rfl
def xY2(a0:Val):rE I72 (xAe a0) [F,F,F,F,F,F,F,Y] []=st 15 I72 (xR8 a0) [xIL a0,iN false,xCO a0,xDB a0,xFr a0,xHA a0,xMt a0,xQv a0]:=by kernel_rfl
def xY3(a0:Val):rE I72 (xAe a0) [F,F,F,F,F,F,F,F] []=dn (xAb false) [xIL a0,iN false,xCO a0,xDB a0,xFr a0,xHA a0,xMt a0,xLF a0]:=by kernel_rfl
theorem xTw{N q0}(g0:G72 q0):∀n x124 x125 x126 b1 r,xBy N q0 n x124 x125 x126 b1=some r→RS Tryz.f72 I72 15 (xHr x124 x125 x126 b1) (xAb r):=by
 intro n
 induction n with
 |zero=>exact fun _ _ _ _ _ h=>nE h
 |succ n ih =>
  exact fun x124 x125 x126 b1 r h =>
   cE h (fun h0 h=>iE h fun h1 h=>cE h (fun h2 h=>cE h (fun h3 h=>cE h (fun h4 h=>dS h fk72 (xYe x124 x125 x126 b1) (oc6 h0 h1 h2 h3 h4 rfl on)) fun h4 h =>
   bE h fun r1 h5 h=>cE h (fun h6 h=>dS h fk72 (xYf x124 x125 x126 b1 r1) (oc7 h0 h1 h2 h3 h4 (g0 _ _ h5) h6 on)) fun h6 h =>
   tS fk72 (xYg x124 x125 x126 b1 r1) (oc7 h0 h1 h2 h3 h4 (g0 _ _ h5) h6 on) (ih _ _ _ _ _ h)) fun h3 h =>
   bE h fun r1 h5 h=>cE h (fun h6 h=>dS h fk72 (xYh x124 x125 x126 b1 r1) (oc7 h0 h1 h2 h3 rfl (g0 _ _ h5) h6 on)) fun h6 h =>
   tS fk72 (xYi x124 x125 x126 b1 r1) (oc7 h0 h1 h2 h3 rfl (g0 _ _ h5) h6 on) (ih _ _ _ _ _ h)) fun h2 h =>
   bE h fun r1 h5 h=>cE h (fun h6 h=>dS h fk72 (xYj x124 x125 x126 b1 r1) (oc7 h0 h1 h2 rfl rfl (g0 _ _ h5) h6 on)) fun h6 h =>
   tS fk72 (xYk x124 x125 x126 b1 r1) (oc7 h0 h1 h2 rfl rfl (g0 _ _ h5) h6 on) (ih _ _ _ _ _ h)) fun h0 h =>
   cE h (fun h1 h=>cE h (fun h2 h=>cE h (fun h3 h=>cE h (fun h4 h=>cE h (fun h5 h=>cE h (fun h6 h=>bE h fun r1 h7 h=>dS h fk72 (xYl x124 x125 x126 b1 r1) (oc8 h0 h1 h2 h3 h4 h5 h6 (xM0 h7) on)) fun h6 h =>
   dS h fk72 (xYm x124 x125 x126 b1) (oc7 h0 h1 h2 h3 h4 h5 h6 on)) fun h5 h =>
   dS h fk72 (xYn x124 x125 x126 b1) (oc7 h0 h1 h2 h3 h4 h5 rfl on)) fun h4 h =>
   dS h fk72 (xUR x124 x125 x126 b1) (oc7 h0 h1 h2 h3 h4 rfl rfl on)) fun h3 h =>
   dS h fk72 (xUS x124 x125 x126 b1) (oc7 h0 h1 h2 h3 rfl rfl rfl on)) fun h2 h =>
   dS h fk72 (xUT x124 x125 x126 b1) (oc7 h0 h1 h2 rfl rfl rfl rfl on)) fun h1 h =>
   dS h fk72 (xUU x124 x125 x126 b1) (oc7 h0 h1 rfl rfl rfl rfl rfl on)
theorem vES{N q0}(g0:G72 q0):∀a0 r,xDO N q0 a0=some r→RE Tryz.f72 I72 (xAe a0) (xAb r):=fun a0 r h =>
 cE h (fun h0 h=>cE h (fun h1 h=>cE h (fun h2 h=>cE h (fun h3 h=>cE h (fun h4 h=>cE h (fun h5 h=>bE h fun r1 h6 h=>dE h fk72 (xYo a0 r1) (oc7 h0 h1 h2 h3 h4 h5 (xFc h6) on)) fun h5 h =>
 dE h fk72 (xYp a0) (oc6 h0 h1 h2 h3 h4 h5 on)) fun h4 h =>
 dE h fk72 (xYq a0) (oc6 h0 h1 h2 h3 h4 rfl on)) fun h3 h =>
 dE h fk72 (xYr a0) (oc6 h0 h1 h2 h3 rfl rfl on)) fun h2 h =>
 cE h (fun h3 h=>cE h (fun h4 h=>cE h (fun h5 h=>cE h (fun h6 h=>bE h fun r1 h7 h=>dE h fk72 (xYs a0 r1) (oc8 h0 h1 h2 h3 h4 h5 h6 (xK5 h7) on)) fun h6 h =>
 dE h fk72 (xYt a0) (oc7 h0 h1 h2 h3 h4 h5 h6 on)) fun h5 h =>
 dE h fk72 (xYu a0) (oc7 h0 h1 h2 h3 h4 h5 rfl on)) fun h4 h =>
 dE h fk72 (xYv a0) (oc7 h0 h1 h2 h3 h4 rfl rfl on)) fun h3 h =>
 cE h (fun h4 h=>cE h (fun h5 h=>cE h (fun h6 h=>bE h fun r1 h7 h=>cE h (fun h8 h=>bE h fun r2 h9 h=>dE h fk72 (xYw a0 r1 r2) (oc10 h0 h1 h2 h3 h4 h5 h6 (xFc h7) h8 (xFc h9) on)) fun h8 h =>
 dE h fk72 (xYx a0 r1) (oc9 h0 h1 h2 h3 h4 h5 h6 (xFc h7) h8 on)) fun h6 h =>
 dE h fk72 (xYy a0) (oc8 h0 h1 h2 h3 h4 h5 h6 rfl on)) fun h5 h =>
 dE h fk72 (xYz a0) (oc8 h0 h1 h2 h3 h4 h5 rfl rfl on)) fun h4 h =>
 cE h (fun h5 h=>cE h (fun h6 h=>cE h (fun h7 h=>cE h (fun h8 h=>bE h fun r1 h9 h=>dE h fk72 (xYA a0 r1) (oc10 h0 h1 h2 h3 h4 h5 h6 h7 h8 (xGW h9) on)) fun h8 h =>
 dE h fk72 (xYB a0) (oc9 h0 h1 h2 h3 h4 h5 h6 h7 h8 on)) fun h7 h =>
 dE h fk72 (xYC a0) (oc9 h0 h1 h2 h3 h4 h5 h6 h7 rfl on)) fun h6 h =>
 dE h fk72 (xYD a0) (oc9 h0 h1 h2 h3 h4 h5 h6 rfl rfl on)) fun h5 h =>
 cE h (fun h6 h=>cE h (fun h7 h=>cE h (fun h8 h=>cE h (fun h9 h=>bE h fun r1 h11 h=>dE h fk72 (xYE a0 r1) (oc12 h0 h1 h2 h3 h4 h5 h6 h7 h8 h9 h0 (xKr h11) on)) fun h9 h =>
 dE h fk72 (xYF a0) (oc11 h0 h1 h2 h3 h4 h5 h6 h7 h8 h9 rfl on)) fun h8 h =>
 dE h fk72 (xYG a0) (oc11 h0 h1 h2 h3 h4 h5 h6 h7 h8 rfl rfl on)) fun h7 h =>
 dE h fk72 (xYH a0) (oc11 h0 h1 h2 h3 h4 h5 h6 h7 rfl rfl rfl on)) fun h6 h =>
 cE h (fun h7 h=>tE fk72 (xYI a0) (oc8 h0 h1 h2 h3 h4 h5 h6 h7 on) (xTw g0 _ _ _ _ _ _ h)) fun h7 h =>
 dE h fk72 (xYJ a0) (oc8 h0 h1 h2 h3 h4 h5 h6 h7 on)) fun h1 h =>
 cE h (fun h2 h=>dE h fk72 (xYK a0) (oc6 h0 h1 h2 rfl rfl rfl on)) fun h2 h =>
 cE h (fun h3 h=>dE h fk72 (xYL a0) (oc7 h0 h1 h2 h3 rfl rfl rfl on)) fun h3 h =>
 cE h (fun h4 h=>dE h fk72 (xYM a0) (oc8 h0 h1 h2 h3 h4 rfl rfl rfl on)) fun h4 h =>
 cE h (fun h5 h=>dE h fk72 (xYN a0) (oc9 h0 h1 h2 h3 h4 h5 rfl rfl rfl on)) fun h5 h =>
 cE h (fun h6 h=>cE h (fun h7 h=>cE h (fun h8 h=>cE h (fun h9 h=>bE h fun r1 h11 h=>dE h fk72 (xYO a0 r1) (oc12 h0 h1 h2 h3 h4 h5 h6 h7 h8 h9 h0 (xKr h11) on)) fun h9 h =>
 dE h fk72 (xYP a0) (oc11 h0 h1 h2 h3 h4 h5 h6 h7 h8 h9 rfl on)) fun h8 h =>
 dE h fk72 (xYQ a0) (oc11 h0 h1 h2 h3 h4 h5 h6 h7 h8 rfl rfl on)) fun h7 h =>
 dE h fk72 (xYR a0) (oc11 h0 h1 h2 h3 h4 h5 h6 h7 rfl rfl rfl on)) fun h6 h =>
 cE h (fun h7 h=>tE fk72 (xYS a0) (oc8 h0 h1 h2 h3 h4 h5 h6 h7 on) (xTw g0 _ _ _ _ _ _ h)) fun h7 h =>
 dE h fk72 (xYT a0) (oc8 h0 h1 h2 h3 h4 h5 h6 h7 on)) fun h0 h =>
 cE h (fun h2 h=>dE h fk72 (xYU a0) (oc6 h0 rfl h2 rfl rfl rfl on)) fun h2 h =>
 cE h (fun h3 h=>dE h fk72 (xYV a0) (oc7 h0 rfl h2 h3 rfl rfl rfl on)) fun h3 h =>
 cE h (fun h4 h=>dE h fk72 (xYW a0) (oc8 h0 rfl h2 h3 h4 rfl rfl rfl on)) fun h4 h =>
 cE h (fun h5 h=>dE h fk72 (xYX a0) (oc9 h0 rfl h2 h3 h4 h5 rfl rfl rfl on)) fun h5 h =>
 cE h (fun h6 h=>cE h (fun h7 h=>cE h (fun h8 h=>cE h (fun h9 h=>dE h fk72 (xYY a0) (oc11 h0 rfl h2 h3 h4 h5 h6 h7 h8 h9 h0 on)) fun h9 h =>
 dE h fk72 (xYZ a0) (oc11 h0 rfl h2 h3 h4 h5 h6 h7 h8 h9 rfl on)) fun h8 h =>
 dE h fk72 (xY0 a0) (oc11 h0 rfl h2 h3 h4 h5 h6 h7 h8 rfl rfl on)) fun h7 h =>
 dE h fk72 (xY1 a0) (oc11 h0 rfl h2 h3 h4 h5 h6 h7 rfl rfl rfl on)) fun h6 h =>
 cE h (fun h7 h=>tE fk72 (xY2 a0) (oc8 h0 rfl h2 h3 h4 h5 h6 h7 on) (xTw g0 _ _ _ _ _ _ h)) fun h7 h =>
 dE h fk72 (xY3 a0) (oc8 h0 rfl h2 h3 h4 h5 h6 h7 on)
theorem xJp{N q0}(g0:G72 q0){a0}{r}(h:xDO N q0 a0=some r):AbC 72 (xAe a0) (xAb r) :=
 AbsCalls.of_reach fk72 rfl rfl rfl (Nat.le_of_ble_eq_true rfl) (vES g0 a0 r h)
theorem xHg{N:Nat}:∀d,G72 (xBz N d)
 |0=>fun _ _ h=>nE h
 |d+1=>fun _ _ h=>xJp (N:=N) (xHg d) h
theorem xGO{N:Nat}{a0:Val}{r:Bool}(h:xHP N a0=some r):AbC 72 (xAe a0) (xAb r):=xHg N _ r h
noncomputable def I46:Info:= { body:=(Tryz.f46.body).getD .skip,nt:=5,results:= [.cell 2 31],keep:= [0,4,5],live:= [],modes:= [] }
theorem fk46:FnOk Tryz.prog 46 Tryz.f46 I46:=⟨Tryz.func46,by kernel_rfl,by kernel_rfl,by kernel_rfl,by kernel_rfl⟩
def vAJ(a0:Int):rE I46 (xCI a0) [] []=dn (xAS (Val.mk 6 a0 0 [] [] [] [])) []:=by kernel_rfl
theorem vEz{N:Nat}:∀a0 r,xBr N a0=some r→RE Tryz.f46 I46 (xCI a0) (xAS r):=fun a0 r h =>
 dE h fk46 (vAJ a0) on
theorem xCf{N:Nat}{a0:Int}{r:Val}(h:xBr N  a0=some r):AbC 46 (xCI a0) (xAS r) :=
 AbsCalls.of_reach fk46 rfl rfl rfl (Nat.le_of_ble_eq_true rfl) (vEz a0 r h)
theorem xH9{P:Program}{f:FuncId}{ags:List Arg}{r:Val × Bool × Bool}(h:AbsCalls P f ags (xB8 r))(ht:r.2.2=true):AbsCalls P f ags (xDx r):=by
 unfold xB8 at h;rw [ht] at h;exact h
theorem xH8{P:Program}{f:FuncId}{ags:List Arg}{r:Val × Bool × Bool}(h:AbsCalls P f ags (xB8 r))(ht:r.2.2=false):AbsCalls P f ags (xDw r):=by
 unfold xB8 at h;rw [ht] at h;exact h
noncomputable def I89:Info:= { body:=(Tryz.f89.body).getD .skip,nt:=22,results:= [.cell 2 31, .tmp 3],keep:= [0,4,6,10,12,14,16,18,28,36,5,11],live:= [(2, [4,12,14,16,5])],modes:= [(8, [(1, .take,false)])] }
theorem fk89:FnOk Tryz.prog 89 Tryz.f89 I89:=⟨Tryz.func89,by kernel_rfl,by kernel_rfl,by kernel_rfl,by kernel_rfl⟩
def xRg(x6:List Val)(x7 x8:Int)(b2:Val):St:= [(4, .v false [.ptr 2 0]),(12, .v false [.sl .ro .val x6]),(14, .v false [.int .i64 x7]),(16, .v false [.int .i64 x8]),(5, .v true [.int .i64 (Val.kind b2), .int .i64 (Val.n b2), .int .i64 (Val.step b2), .str (Val.text b2), .sl .own .val (Val.list b2), .sl .own .str (Val.columns b2), .sl .own .row (Val.rows b2)])]
def vCa(x6:List Val)(x7 x8:Int)(b2:Val)(r1:Bool)(r2:Val):rS 2 I89 (xRg x6 x7 x8 b2) [Y,Y] [xAb r1,xAS r2]=dn (xB8 (r2,true,false)) [xFi x8 x7,xGX x8 x6,xJ2 x6 x8 r1,iY (!r1),AbC 46 (xCI 4) (xAS r2)]:=by kernel_rfl
def vCb(x6:List Val)(x7 x8:Int)(b2:Val)(r1:Bool):rS 2 I89 (xRg x6 x7 x8 b2) [Y,F,Y] [xAb r1]=dn (xB8 ((xLf x6 x8),true,true)) [xFi x8 x7,xGX x8 x6,xJ2 x6 x8 r1,iN (!r1),iY (xO0 x6 x8)]:=by kernel_rfl
def vCc(x6:List Val)(x7 x8:Int)(b2:Val)(r1:Bool):rS 2 I89 (xRg x6 x7 x8 b2) [Y,F,F] [xAb r1]=st 2 I89 (xRg x6 x7 (W (x8+1)) b2) [xFi x8 x7,xGX x8 x6,xJ2 x6 x8 r1,iN (!r1),iN (xO0 x6 x8)]:=by kernel_rfl
def vCd(x6:List Val)(x7 x8:Int)(b2:Val):rS 2 I89 (xRg x6 x7 x8 b2) [F] []=dn (xB8 ((Val.mk 0 0 0 [] [] [] []),false,false)) [xHn x8 x7]:=by kernel_rfl
def vCe(a0:List Val):rE I89 (xC5 a0) [] []=st 2 I89 (xRg a0 (Ln a0:Int) 0 (Val.mk 0 0 0 [] [] [] [])) []:=by kernel_rfl
theorem vE2{N:Nat}:∀n x6 x7 x8 b2 r,xCG N n x6 x7 x8 b2=some r→RS Tryz.f89 I89 2 (xRg x6 x7 x8 b2) (xB8 r):=by
 intro n
 induction n with
 |zero=>exact fun _ _ _ _ _ h=>nE h
 |succ n ih =>
  exact fun x6 x7 x8 b2 r h =>
   cE h (fun h0 h=>iE h fun h1 h=>bE h fun r1 h2 h=>cE h (fun h3 h=>bE h fun r2 h4 h=>dS h fk89 (vCa x6 x7 x8 b2 r1 r2) (oc5 h0 h1 (xGO h2) h3 (xCf h4) on)) fun h3 h =>
   cE h (fun h4 h=>dS h fk89 (vCb x6 x7 x8 b2 r1) (oc5 h0 h1 (xGO h2) h3 h4 on)) fun h4 h =>
   tS fk89 (vCc x6 x7 x8 b2 r1) (oc5 h0 h1 (xGO h2) h3 h4 on) (ih _ _ _ _ _ h)) fun h0 h =>
   dS h fk89 (vCd x6 x7 x8 b2) (oc h0 on)
theorem vE3{N:Nat}:∀a0 r,xGF N a0=some r→RE Tryz.f89 I89 (xC5 a0) (xB8 r):=fun a0 r h =>
 tE fk89 (vCe a0) on (vE2 _ _ _ _ _ _ h)
theorem xFv{N:Nat}{a0:List Val}{r:Val × Bool × Bool}(h:xGF N  a0=some r):AbC 89 (xC5 a0) (xB8 r) :=
 AbsCalls.of_reach fk89 rfl rfl rfl (Nat.le_of_ble_eq_true rfl) (vE3 a0 r h)
theorem xLx{P:Program}{f:FuncId}{ags:List Arg}{r:Val × Bool × Bool}(h:AbsCalls P f ags (xCd r))(ht:r.2.2=true):AbsCalls P f ags (xHx r):=by
 unfold xCd at h;rw [ht] at h;exact h
theorem xEl{P:Program}{f:FuncId}{ags:List Arg}{r:Val × Bool × Bool}(h:AbsCalls P f ags (xCd r))(ht:r.2.2=false):AbsCalls P f ags (xCJ r):=by
 unfold xCd at h;rw [ht] at h;exact h
theorem xEk{P:Program}{f:FuncId}{ags:List Arg}{r:Val × Bool × Bool}(h:AbsCalls P f ags (xCd r))(ht:r.2.2=true)(e0:List.isEmpty (Val.list r.1)=true)(e1:List.isEmpty (Val.columns r.1)=true)(e2:List.isEmpty (Val.rows r.1)=true):AbsCalls P f ags (xC8 r):=by
 have h:=xLx h ht
 unfold xHx at h;rw [List.isEmpty_iff.1 e0,List.isEmpty_iff.1 e1,List.isEmpty_iff.1 e2] at h;exact h
noncomputable def I42:Info:= { body:=(Tryz.f42.body).getD .skip,nt:=34,results:= [.cell 4 31, .tmp 5],keep:= [0,2,8,10,12,14,16,18,30,34,36,38,40,60,9,13,19],live:= [(5, [0,8,34,36,38,9])],modes:= [(1, [(2, .take,false)]),(2, [(0, .take,false)]),(3, [(0, .take,false)]),(7, [(3, .take,false)]),(9, [(1, .take,false)])] }
theorem fk42:FnOk Tryz.prog 42 Tryz.f42 I42:=⟨Tryz.func42,by kernel_rfl,by kernel_rfl,by kernel_rfl,by kernel_rfl⟩
def xRa(x0:List Int)(x17:List Val)(x18 x19:Int)(b4:Val):St:= [(0, .v false [.sl .ro .int x0]),(8, .v false [.ptr 4 0]),(34, .v false [.sl .ro .val x17]),(36, .v false [.int .i64 x18]),(38, .v false [.int .i64 x19]),(9, .v true [.int .i64 (Val.kind b4), .int .i64 (Val.n b4), .int .i64 (Val.step b4), .str (Val.text b4), .sl .own .val (Val.list b4), .sl .own .str (Val.columns b4), .sl .own .row (Val.rows b4)])]
def vAt(x0:List Int)(x17:List Val)(x18 x19:Int)(b4 r1:Val):rS 5 I42 (xRa x0 x17 x18 x19 b4) [Y,Y] [xAS r1]=dn (xCd (r1,true,false)) [xFi x19 x18,xGX x19 x17,xIR x19 x0,iY (xO1 x17 x19 x0),AbC 46 (xCI 4) (xAS r1)]:=by kernel_rfl
def vAu(x0:List Int)(x17:List Val)(x18 x19:Int)(b4:Val):rS 5 I42 (xRa x0 x17 x18 x19 b4) [Y,F] []=st 5 I42 (xRa x0 x17 x18 (W (x19+1)) b4) [xFi x19 x18,xGX x19 x17,xIR x19 x0,iN (xO1 x17 x19 x0)]:=by kernel_rfl
def vAv(x0:List Int)(x17:List Val)(x18 x19:Int)(b4:Val):rS 5 I42 (xRa x0 x17 x18 x19 b4) [F] []=dn (xCd ((Val.mk 0 0 0 [] [] [] []),false,false)) [xHn x19 x18]:=by kernel_rfl
def vAw(a0:List Int)(a1:List Val)(r1:Val × Bool × Bool):rE I42 (xDv a0 a1) [Y] [xDx r1]=dn (xCd (r1.1,true,true)) [AbC 89 (xC5 a1) (xDx r1),iY r1.2.1]:=by kernel_rfl
def vAx(a0:List Int)(a1:List Val)(r1:Val × Bool × Bool):rE I42 (xDv a0 a1) [F] [xDx r1]=st 5 I42 (xRa a0 a1 (Ln a1:Int) 0 (Val.mk 0 0 0 [] [] [] [])) [AbC 89 (xC5 a1) (xDx r1),iN r1.2.1]:=by kernel_rfl
def vAy(a0:List Int)(a1:List Val)(r1:Val × Bool × Bool):rE I42 (xDv a0 a1) [Y] [xDw r1]=dn (xCd (r1.1,true,false)) [AbC 89 (xC5 a1) (xDw r1),iY r1.2.1]:=by kernel_rfl
def vAz(a0:List Int)(a1:List Val)(r1:Val × Bool × Bool):rE I42 (xDv a0 a1) [F] [xDw r1]=st 5 I42 (xRa a0 a1 (Ln a1:Int) 0 (Val.mk 0 0 0 [] [] [] [])) [AbC 89 (xC5 a1) (xDw r1),iN r1.2.1]:=by kernel_rfl
theorem vDE{N:Nat}:∀n x0 x17 x18 x19 b4 r,xCZ N n x0 x17 x18 x19 b4=some r→RS Tryz.f42 I42 5 (xRa x0 x17 x18 x19 b4) (xCd r):=by
 intro n
 induction n with
 |zero=>exact fun _ _ _ _ _ _ h=>nE h
 |succ n ih =>
  exact fun x0 x17 x18 x19 b4 r h =>
   cE h (fun h0 h=>iE h fun h1 h=>iE h fun h2 h=>cE h (fun h3 h=>bE h fun r1 h4 h=>dS h fk42 (vAt x0 x17 x18 x19 b4 r1) (oc5 h0 h1 h2 h3 (xCf h4) on)) fun h3 h =>
   tS fk42 (vAu x0 x17 x18 x19 b4) (oc4 h0 h1 h2 h3 on) (ih _ _ _ _ _ _ h)) fun h0 h =>
   dS h fk42 (vAv x0 x17 x18 x19 b4) (oc h0 on)
theorem vEt{N:Nat}:∀a0 a1 r,xGV N a0 a1=some r→RE Tryz.f42 I42 (xDv a0 a1) (xCd r):=fun a0 a1 r h =>
 bE h fun r1 h0 h=>cE h (fun h1 h=>cE h (fun h2 h=>dE h fk42 (vAw a0 a1 r1) (oc2 (xH9 (xFv h0) h1) h2 on)) fun h2 h =>
 tE fk42 (vAx a0 a1 r1) (oc2 (xH9 (xFv h0) h1) h2 on) (vDE _ _ _ _ _ _ _ h)) fun h1 h =>
 cE h (fun h2 h=>dE h fk42 (vAy a0 a1 r1) (oc2 (xH8 (xFv h0) h1) h2 on)) fun h2 h =>
 tE fk42 (vAz a0 a1 r1) (oc2 (xH8 (xFv h0) h1) h2 on) (vDE _ _ _ _ _ _ _ h)
theorem xCc{N:Nat}{a0:List Int}{a1:List Val}{r:Val × Bool × Bool}(h:xGV N  a0 a1=some r):AbC 42 (xDv a0 a1) (xCd r) :=
 AbsCalls.of_reach fk42 rfl rfl rfl (Nat.le_of_ble_eq_true rfl) (vEt a0 a1 r h)
noncomputable def I43:Info:= { body:=(Tryz.f43.body).getD .skip,nt:=9,results:= [.tmp 4],keep:= [0,2,4,8,5],live:= [],modes:= [] }
theorem fk43:FnOk Tryz.prog 43 Tryz.f43 I43:=⟨Tryz.func43,by kernel_rfl,by kernel_rfl,by kernel_rfl,by kernel_rfl⟩
def vAA(a0:Val)(a1:Str)(r1:Int):rE I43 (xFN a0 a1) [] [xCA r1]=dn (xAv r1) [AbC 90 (xGs (xCN a0) a1) (xCA r1)]:=by kernel_rfl
theorem vEu{N:Nat}:∀a0 a1 r,xDI N a0 a1=some r→RE Tryz.f43 I43 (xFN a0 a1) (xAv r):=fun a0 a1 r h =>
 bE h fun r1 h0 h=>dE h fk43 (vAA a0 a1 r1) (oc (xGt h0) on)
theorem xAK{N:Nat}{a0:Val}{a1:Str}{r:Int}(h:xDI N  a0 a1=some r):AbC 43 (xFN a0 a1) (xAv r) :=
 AbsCalls.of_reach fk43 rfl rfl rfl (Nat.le_of_ble_eq_true rfl) (vEu a0 a1 r h)
noncomputable def I44:Info:= { body:=(Tryz.f44.body).getD .skip,nt:=25,results:= [.tmp 4],keep:= [0,2,8,10,14,18,20,22,24,36],live:= [(3, [2,10,18,20,22])],modes:= [(6, [(0, .take,false)]),(7, [(1, .take,false)]),(8, [(0, .take,false)])] }
theorem fk44:FnOk Tryz.prog 44 Tryz.f44 I44:=⟨Tryz.func44,by kernel_rfl,by kernel_rfl,by kernel_rfl,by kernel_rfl⟩
def xRb(x1 x5 x9:List Str)(x10 x11:Int):St:= [(2, .v false [.sl .ro .str x1]),(10, .v false [.sl .own .str x5]),(18, .v false [.sl .ro .str x9]),(20, .v false [.int .i64 x10]),(22, .v false [.int .i64 x11])]
def vAB(x1 x5 x9:List Str)(x10 x11 r1:Int):rS 3 I44 (xRb x1 x5 x9 x10 x11) [Y,Y] [xCA r1]=st 3 I44 (xRb x1 (x5++ [(xIO x9 x11)]) x9 x10 (W (x11+1))) [xFi x11 x10,xHj x11 x9,xON x1 x9 x11 r1,xNl r1,Ln x5+Ln [(xIO x9 x11)]≤Lim]:=by kernel_rfl
def vAC(x1 x5 x9:List Str)(x10 x11 r1:Int):rS 3 I44 (xRb x1 x5 x9 x10 x11) [Y,F] [xCA r1]=st 3 I44 (xRb x1 x5 x9 x10 (W (x11+1))) [xFi x11 x10,xHj x11 x9,xON x1 x9 x11 r1,xGM r1]:=by kernel_rfl
def vAD(x1 x5 x9:List Str)(x10 x11:Int):rS 3 I44 (xRb x1 x5 x9 x10 x11) [F] []=dn (xB3 x5) [xHn x11 x10]:=by kernel_rfl
def vAE(a0 a1:List Str):rE I44 (xHu a0 a1) [] []=st 3 I44 (xRb a1 [] a0 (Ln a0:Int) 0) []:=by kernel_rfl
theorem vEv{N:Nat}:∀n x1 x5 x9 x10 x11 r,xEb N n x1 x5 x9 x10 x11=some r→RS Tryz.f44 I44 3 (xRb x1 x5 x9 x10 x11) (xB3 r):=by
 intro n
 induction n with
 |zero=>exact fun _ _ _ _ _ _ h=>nE h
 |succ n ih =>
  exact fun x1 x5 x9 x10 x11 r h =>
   cE h (fun h0 h=>iE h fun h1 h=>bE h fun r1 h2 h=>cE h (fun h3 h=>iE h fun h4 h=>tS fk44 (vAB x1 x5 x9 x10 x11 r1) (oc5 h0 h1 (xGt h2) h3 h4 on) (ih _ _ _ _ _ _ h)) fun h3 h =>
   tS fk44 (vAC x1 x5 x9 x10 x11 r1) (oc4 h0 h1 (xGt h2) h3 on) (ih _ _ _ _ _ _ h)) fun h0 h =>
   dS h fk44 (vAD x1 x5 x9 x10 x11) (oc h0 on)
theorem vEw{N:Nat}:∀a0 a1 r,xHh N a0 a1=some r→RE Tryz.f44 I44 (xHu a0 a1) (xB3 r):=fun a0 a1 r h =>
 tE fk44 (vAE a0 a1) on (vEv _ _ _ _ _ _ _ h)
theorem xDd{N:Nat}{a0:List Str}{a1:List Str}{r:(List Str)}(h:xHh N  a0 a1=some r):AbC 44 (xHu a0 a1) (xB3 r) :=
 AbsCalls.of_reach fk44 rfl rfl rfl (Nat.le_of_ble_eq_true rfl) (vEw a0 a1 r h)
theorem xFu{N:Nat}{a0 a1 r:List Org}(h:xFx N a0 a1=some r):AbC 20 (xFt a0 a1) (xCF r):=xZq h
end Go.Ab.T
end
section
open Go.Proofs
namespace Go.Ab.T
set_option maxRecDepth 100000
variable [Inhabited Lb]
theorem xM2{P:Program}{f:FuncId}{ags:List Arg}{r:Val × Bool}(h:AbsCalls P f ags (xCC r))(ht:r.2=true):AbsCalls P f ags (xIE r):=by
 unfold xCC at h;rw [ht] at h;exact h
theorem xIG{P:Program}{f:FuncId}{ags:List Arg}{r:Val × Bool}(h:AbsCalls P f ags (xCC r))(ht:r.2=false):AbsCalls P f ags (xEa r):=by
 unfold xCC at h;rw [ht] at h;exact h
theorem xIF{P:Program}{f:FuncId}{ags:List Arg}{r:Val × Bool}(h:AbsCalls P f ags (xCC r))(ht:r.2=true)(e0:List.isEmpty (Val.list r.1)=true)(e1:List.isEmpty (Val.columns r.1)=true)(e2:List.isEmpty (Val.rows r.1)=true):AbsCalls P f ags (xER r):=by
 have h:=xM2 h ht
 unfold xIE at h;rw [List.isEmpty_iff.1 e0,List.isEmpty_iff.1 e1,List.isEmpty_iff.1 e2] at h;exact h
noncomputable def I11:Info:= { body:=(Tryz.f11.body).getD .skip,nt:=128,results:= [.cell 6 31],keep:= [0,2,4,6,8,10,12,14,16,18,20,22,24,28,32,34,54,122,132,138,140,142,144,152,154,156,158,184,250,7,9,11,13,15,25,29,33],live:= [(13, [10,12,18,20,24,138,140,142,11,13,25]),(16, [10,12,18,20,24,28,138,140,142,152,154,156,11,13,25,29])],modes:= [(1, [(5, .take,true),(6, .take,false)]),(2, [(0, .take,false)]),(3, [(0, .take,false)]),(7, [(4, .take,false)]),(8, [(2, .take,false),(6, .take,false)]),(20, [(1, .take,false),(2, .take,false),(10, .take,false)]),(21, [(1, .take,false)]),(22, [(1, .take,false)]),(25, [(0, .take,false)])] }
theorem fk11:FnOk Tryz.prog 11 Tryz.f11 I11:=⟨Tryz.func11,by kernel_rfl,by kernel_rfl,by kernel_rfl,by kernel_rfl⟩
def xMo(x9 x10:Int)(x69:List Rowd)(x70 x71:Int)(b5 b6 b12:Val):St:= [(10, .v false [.ptr 5 0]),(12, .v false [.ptr 6 0]),(18, .v false [.int .i64 x9]),(20, .v false [.int .i64 x10]),(24, .v false [.ptr 12 0]),(138, .v false [.sl .ro .row x69]),(140, .v false [.int .i64 x70]),(142, .v false [.int .i64 x71]),(11, .v true [.int .i64 (Val.kind b5), .int .i64 (Val.n b5), .int .i64 (Val.step b5), .str (Val.text b5), .sl .ro .val (Val.list b5), .sl .ro .str (Val.columns b5), .sl .ro .row (Val.rows b5)]),(13, .v true [.int .i64 (Val.kind b6), .int .i64 (Val.n b6), .int .i64 (Val.step b6), .str (Val.text b6), .sl .own .val (Val.list b6), .sl .own .str (Val.columns b6), .sl .own .row (Val.rows b6)]),(25, .v true [.int .i64 (Val.kind b12), .int .i64 (Val.n b12), .int .i64 (Val.step b12), .str (Val.text b12), .sl .own .val (Val.list b12), .sl .own .str (Val.columns b12), .sl .own .row (Val.rows b12)])]
def xMM(x9 x10:Int)(x69:List Rowd)(x70 x71:Int)(x76:List Rowd)(x77 x78:Int)(b5 b6 b12:Val)(b14:Rowd):St:= [(10, .v false [.ptr 5 0]),(12, .v false [.ptr 6 0]),(18, .v false [.int .i64 x9]),(20, .v false [.int .i64 x10]),(24, .v false [.ptr 12 0]),(28, .v false [.ptr 14 0]),(138, .v false [.sl .ro .row x69]),(140, .v false [.int .i64 x70]),(142, .v false [.int .i64 x71]),(152, .v false [.sl .ro .row x76]),(154, .v false [.int .i64 x77]),(156, .v false [.int .i64 x78]),(11, .v true [.int .i64 (Val.kind b5), .int .i64 (Val.n b5), .int .i64 (Val.step b5), .str (Val.text b5), .sl .ro .val (Val.list b5), .sl .ro .str (Val.columns b5), .sl .ro .row (Val.rows b5)]),(13, .v true [.int .i64 (Val.kind b6), .int .i64 (Val.n b6), .int .i64 (Val.step b6), .str (Val.text b6), .sl .own .val (Val.list b6), .sl .own .str (Val.columns b6), .sl .own .row (Val.rows b6)]),(25, .v true [.int .i64 (Val.kind b12), .int .i64 (Val.n b12), .int .i64 (Val.step b12), .str (Val.text b12), .sl .own .val (Val.list b12), .sl .own .str (Val.columns b12), .sl .own .row (Val.rows b12)]),(29, .v true [.sl .ro .int (Rowd.cells b14), .sl .ro .org (Rowd.frm b14)])]
abbrev xO4(v0:List Rowd)(v1:Int):=Ln (Rowd.cells (gD v0 (tN v1) rd))
def xWo(x9 x10:Int)(x69:List Rowd)(x70 x71:Int)(x76:List Rowd)(x77 x78:Int)(b5 b6 b12:Val)(b14:Rowd):rS 16 I11 (xMM x9 x10 x69 x70 x71 x76 x77 x78 b5 b6 b12 b14) [Y,Y] []=st 16 I11 (xMM x9 x10 x69 x70 x71 x76 x77 (W (x78+1)) b5 b6 b12 b14) [xFi x78 x77,xNd x78 x76,xSy x9 b14,(0:Int)≤x10∧x10<(xO4 x76 x78),iY ((xOX b14 x9) != (gD (xMd x76 x78) (tN x10) Ty.int.dflt))]:=by kernel_rfl
abbrev xR9(v0:Int)(v1:List Rowd)(v2:Int):=List.drop (tN (W (v0+1))) (Rowd.cells (gD v1 (tN v2) rd))
abbrev xO5(v0:Int)(v1:List Rowd)(v2:Int):=List.take (tN v0) (Rowd.cells (gD v1 (tN v2) rd))
def xWp(x9 x10:Int)(x69:List Rowd)(x70 x71:Int)(x76:List Rowd)(x77 x78:Int)(b5 b6 b12:Val)(b14:Rowd)(r1:(List Org)):rS 16 I11 (xMM x9 x10 x69 x70 x71 x76 x77 x78 b5 b6 b12 b14) [Y,F] [xCF r1]=st 16 I11 (xMM x9 x10 x69 x70 x71 x76 x77 (W (x78+1)) b5 b6 (Val.mk (Val.kind b12) (Val.n b12) (Val.step b12) (Val.text b12) (Val.list b12) (xCN b12) ((Val.rows b12)++ [(Rowd.mk ((([]++(xE9 b14))++(xO5 x10 x76 x78))++(xR9 x10 x76 x78)) r1)])) b14) [xFi x78 x77,xNd x78 x76,xSy x9 b14,(0:Int)≤x10∧x10<(xO4 x76 x78),iN ((xOX b14 x9) != (gD (xMd x76 x78) (tN x10) Ty.int.dflt)),0+Ln (xE9 b14)≤Lim,(0:Int)≤x10∧x10≤(xO4 x76 x78),Ln ([]++(xE9 b14))+Ln (xO5 x10 x76 x78)≤Lim,(0:Int)≤(W (x10+1))∧(W (x10+1))≤(xO4 x76 x78),Ln (([]++(xE9 b14))++(xO5 x10 x76 x78))+Ln (xR9 x10 x76 x78)≤Lim,AbC 20 (xFt (Rowd.frm b14) (Rowd.frm (xR7 x76 x78))) (xCF r1),Ln (Val.rows b12)+Ln [(Rowd.mk ((([]++(xE9 b14))++(xO5 x10 x76 x78))++(xR9 x10 x76 x78)) r1)]≤Lim]:=by kernel_rfl
def xWq(x9 x10:Int)(x69:List Rowd)(x70 x71:Int)(x76:List Rowd)(x77 x78:Int)(b5 b6 b12:Val)(b14:Rowd):rS 16 I11 (xMM x9 x10 x69 x70 x71 x76 x77 x78 b5 b6 b12 b14) [F] []=st 13 I11 (xMo x9 x10 x69 x70 (W (x71+1)) b5 b6 b12) [xHn x78 x77]:=by kernel_rfl
def xWl(x9 x10:Int)(x69:List Rowd)(x70 x71:Int)(b5 b6 b12:Val):rS 13 I11 (xMo x9 x10 x69 x70 x71 b5 b6 b12) [Y] []=st 16 I11 (xMM x9 x10 x69 x70 x71 (Val.rows b5) (xHb b5) 0 b5 b6 b12 (xR7 x69 x71)) [xFi x71 x70,xNd x71 x69]:=by kernel_rfl
abbrev xJv(v0:Val):=xCC (v0,false)
def xWm(x9 x10:Int)(x69:List Rowd)(x70 x71:Int)(b5 b6 b12 r1:Val):rS 13 I11 (xMo x9 x10 x69 x70 x71 b5 b6 b12) [F,Y] [xAS r1]=dn (xJv r1) [xHn x71 x70,xSz b12,AbC 46 (xCI 6) (xAS r1)]:=by kernel_rfl
def xWn(x9 x10:Int)(x69:List Rowd)(x70 x71:Int)(b5 b6 b12:Val):rS 13 I11 (xMo x9 x10 x69 x70 x71 b5 b6 b12) [F,F] []=dn (xJv b12) [xHn x71 x70,xSA b12]:=by kernel_rfl
abbrev xL0(v0 v1 v2:Val)(v3:Val × Bool × Bool):Prop:=AbC 42 (xDv [2,5,5] [(Val.re v0),(Val.re v1),(Val.re v2)]) (xC8 v3)
def xZ1(a0 a1 a2:Val)(r1:Val × Bool × Bool):rE I11 (xCh a0 a1 a2) [Y] [xC8 r1]=dn (xCC ((Val.mk (Val.kind r1.1) (Val.n r1.1) (Val.step r1.1) (Val.text r1.1) [] [] []),true)) [xL0 a0 a1 a2 r1,iY r1.2.1]:=by kernel_rfl
abbrev xFy(v0 v1:Val)(v2:Int):Prop:=AbC 43 (xFN v0 (Val.text v1)) (xAv v2)
abbrev xJr(v0 v1:Val)(v2:(List Str)):Prop:=AbC 44 (xHu (xCN v0) [(Val.text v1)]) (xB3 v2)
abbrev xJs(v0:Val)(v1:(List Str)):Prop:=Ln ([]++(xCN v0))+Ln v1≤Lim
abbrev xL1(v0:Val):Prop:=AbC 46 (xCI 7) (xAS v0)
def xZ2(a0 a1 a2:Val)(r1:Val × Bool × Bool)(r2 r3:Int)(r4:(List Str))(r5:Val):rE I11 (xCh a0 a1 a2) [F,Y,Y,Y] [xC8 r1,xAv r2,xAv r3,xB3 r4,xAS r5]=dn (xJv r5) [xL0 a0 a1 a2 r1,iN r1.2.1,xFy a1 a0 r2,xFy a2 a0 r3,xJr a2 a0 r4,xJK a1,xJs a1 r4,xNl r2,iY true,iY true,xL1 r5]:=by kernel_rfl
def xZ3(a0 a1 a2:Val)(r1:Val × Bool × Bool)(r2 r3:Int)(r4:(List Str))(r5:Val):rE I11 (xCh a0 a1 a2) [F,F,Y,Y] [xC8 r1,xAv r2,xAv r3,xB3 r4,xAS r5]=dn (xJv r5) [xL0 a0 a1 a2 r1,iN r1.2.1,xFy a1 a0 r2,xFy a2 a0 r3,xJr a2 a0 r4,xJK a1,xJs a1 r4,xGM r2,xNl r3,iY true,xL1 r5]:=by kernel_rfl
abbrev xL2(v0:Val)(v1:(List Str))(v2:Bool):Prop:=AbC 45 (xEM (([]++(xCN v0))++v1)) (xBq v2)
def xZ4(a0 a1 a2:Val)(r1:Val × Bool × Bool)(r2 r3:Int)(r4:(List Str))(r5:Bool)(r6:Val):rE I11 (xCh a0 a1 a2) [F,F,F,Y] [xC8 r1,xAv r2,xAv r3,xB3 r4,xBq r5,xAS r6]=dn (xJv r6) [xL0 a0 a1 a2 r1,iN r1.2.1,xFy a1 a0 r2,xFy a2 a0 r3,xJr a2 a0 r4,xJK a1,xJs a1 r4,xGM r2,xGM r3,xL2 a1 r4 r5,iY (!r5),xL1 r6]:=by kernel_rfl
def xWr(a0 a1 a2:Val)(r1:Val × Bool × Bool)(r2 r3:Int)(r4:(List Str))(r5:Bool)(r6:Val):rE I11 (xCh a0 a1 a2) [F,F,F,F,Y] [xC8 r1,xAv r2,xAv r3,xB3 r4,xBq r5,xAS r6]=dn (xJv r6) [xL0 a0 a1 a2 r1,iN r1.2.1,xFy a1 a0 r2,xFy a2 a0 r3,xJr a2 a0 r4,xJK a1,xJs a1 r4,xGM r2,xGM r3,xL2 a1 r4 r5,iN (!r5),iY (dc (((Ln (([]++(xCN a1))++r4):Int):Int)>4)),AbC 46 (xCI 6) (xAS r6)]:=by kernel_rfl
def xWs(a0 a1 a2:Val)(r1:Val × Bool × Bool)(r2 r3:Int)(r4:(List Str))(r5:Bool):rE I11 (xCh a0 a1 a2) [F,F,F,F,F] [xC8 r1,xAv r2,xAv r3,xB3 r4,xBq r5]=st 13 I11 (xMo r2 r3 (Val.rows a1) (xHb a1) 0 a2 (Val.mk 0 0 0 [] [] [] []) (Val.mk 5 0 0 [] [] (([]++(xCN a1))++r4) [])) [xL0 a0 a1 a2 r1,iN r1.2.1,xFy a1 a0 r2,xFy a2 a0 r3,xJr a2 a0 r4,xJK a1,xJs a1 r4,xGM r2,xGM r3,xL2 a1 r4 r5,iN (!r5),iN (dc (((Ln (([]++(xCN a1))++r4):Int):Int)>4))]:=by kernel_rfl
abbrev xL3(v0 v1 v2:Val)(v3:Val × Bool × Bool):Prop:=AbC 42 (xDv [2,5,5] [(Val.re v0),(Val.re v1),(Val.re v2)]) (xCJ v3)
def xWt(a0 a1 a2:Val)(r1:Val × Bool × Bool):rE I11 (xCh a0 a1 a2) [Y] [xCJ r1]=dn (xCC (r1.1,false)) [xL3 a0 a1 a2 r1,iY r1.2.1]:=by kernel_rfl
def xWu(a0 a1 a2:Val)(r1:Val × Bool × Bool)(r2 r3:Int)(r4:(List Str))(r5:Val):rE I11 (xCh a0 a1 a2) [F,Y,Y,Y] [xCJ r1,xAv r2,xAv r3,xB3 r4,xAS r5]=dn (xJv r5) [xL3 a0 a1 a2 r1,iN r1.2.1,xFy a1 a0 r2,xFy a2 a0 r3,xJr a2 a0 r4,xJK a1,xJs a1 r4,xNl r2,iY true,iY true,xL1 r5]:=by kernel_rfl
def xWv(a0 a1 a2:Val)(r1:Val × Bool × Bool)(r2 r3:Int)(r4:(List Str))(r5:Val):rE I11 (xCh a0 a1 a2) [F,F,Y,Y] [xCJ r1,xAv r2,xAv r3,xB3 r4,xAS r5]=dn (xJv r5) [xL3 a0 a1 a2 r1,iN r1.2.1,xFy a1 a0 r2,xFy a2 a0 r3,xJr a2 a0 r4,xJK a1,xJs a1 r4,xGM r2,xNl r3,iY true,xL1 r5]:=by kernel_rfl
def xWw(a0 a1 a2:Val)(r1:Val × Bool × Bool)(r2 r3:Int)(r4:(List Str))(r5:Bool)(r6:Val):rE I11 (xCh a0 a1 a2) [F,F,F,Y] [xCJ r1,xAv r2,xAv r3,xB3 r4,xBq r5,xAS r6]=dn (xJv r6) [xL3 a0 a1 a2 r1,iN r1.2.1,xFy a1 a0 r2,xFy a2 a0 r3,xJr a2 a0 r4,xJK a1,xJs a1 r4,xGM r2,xGM r3,xL2 a1 r4 r5,iY (!r5),xL1 r6]:=by kernel_rfl
def xWx(a0 a1 a2:Val)(r1:Val × Bool × Bool)(r2 r3:Int)(r4:(List Str))(r5:Bool)(r6:Val):rE I11 (xCh a0 a1 a2) [F,F,F,F,Y] [xCJ r1,xAv r2,xAv r3,xB3 r4,xBq r5,xAS r6]=dn (xJv r6) [xL3 a0 a1 a2 r1,iN r1.2.1,xFy a1 a0 r2,xFy a2 a0 r3,xJr a2 a0 r4,xJK a1,xJs a1 r4,xGM r2,xGM r3,xL2 a1 r4 r5,iN (!r5),iY (dc (((Ln (([]++(xCN a1))++r4):Int):Int)>4)),AbC 46 (xCI 6) (xAS r6)]:=by kernel_rfl
def xWy(a0 a1 a2:Val)(r1:Val × Bool × Bool)(r2 r3:Int)(r4:(List Str))(r5:Bool):rE I11 (xCh a0 a1 a2) [F,F,F,F,F] [xCJ r1,xAv r2,xAv r3,xB3 r4,xBq r5]=st 13 I11 (xMo r2 r3 (Val.rows a1) (xHb a1) 0 a2 (Val.mk 0 0 0 [] [] [] []) (Val.mk 5 0 0 [] [] (([]++(xCN a1))++r4) [])) [xL3 a0 a1 a2 r1,iN r1.2.1,xFy a1 a0 r2,xFy a2 a0 r3,xJr a2 a0 r4,xJK a1,xJs a1 r4,xGM r2,xGM r3,xL2 a1 r4 r5,iN (!r5),iN (dc (((Ln (([]++(xCN a1))++r4):Int):Int)>4))]:=by kernel_rfl
theorem vC3{N:Nat}{k13:Int→Int→(List Rowd)→Int→Int→Val→Val→Val→Option (Val × Bool)}(hk13:∀z0 z1 z2 z3 z4 z5 z6 z7 r,k13 z0 z1 z2 z3 z4 z5 z6 z7=some r→RS Tryz.f11 I11 13 (xMo z0 z1 z2 z3 z4 z5 z6 z7) (xCC r)):∀n x9 x10 x69 x70 x71 x76 x77 x78 b5 b6 b12 b14 r,xEQ N k13 n x9 x10 x69 x70 x71 x76 x77 x78 b5 b6 b12 b14=some r→RS Tryz.f11 I11 16 (xMM x9 x10 x69 x70 x71 x76 x77 x78 b5 b6 b12 b14) (xCC r):=by
 intro n
 induction n with
 |zero=>exact fun _ _ _ _ _ _ _ _ _ _ _ _ _ h=>nE h
 |succ n ih =>
  exact fun x9 x10 x69 x70 x71 x76 x77 x78 b5 b6 b12 b14 r h =>
   cE h (fun h0 h=>iE h fun h1 h=>iE h fun h2 h=>iE h fun h3 h=>cE h (fun h4 h=>tS fk11 (xWo x9 x10 x69 x70 x71 x76 x77 x78 b5 b6 b12 b14) (oc5 h0 h1 h2 h3 h4 on) (ih _ _ _ _ _ _ _ _ _ _ _ _ _ h)) fun h4 h =>
   iE h fun h5 h=>iE h fun h6 h=>iE h fun h7 h=>iE h fun h8 h=>iE h fun h9 h=>bE h fun r1 h10 h=>iE h fun h11 h=>tS fk11 (xWp x9 x10 x69 x70 x71 x76 x77 x78 b5 b6 b12 b14 r1) (oc12 h0 h1 h2 h3 h4 h5 h6 h7 h8 h9 (xFu h10) h11 on) (ih _ _ _ _ _ _ _ _ _ _ _ _ _ h)) fun h0 h =>
   tS fk11 (xWq x9 x10 x69 x70 x71 x76 x77 x78 b5 b6 b12 b14) (oc h0 on) (hk13 _ _ _ _ _ _ _ _ _ h)
theorem xZs{N:Nat}:∀n x9 x10 x69 x70 x71 b5 b6 b12 r,xDA N n x9 x10 x69 x70 x71 b5 b6 b12=some r→RS Tryz.f11 I11 13 (xMo x9 x10 x69 x70 x71 b5 b6 b12) (xCC r):=by
 intro n
 induction n with
 |zero=>exact fun _ _ _ _ _ _ _ _ _ h=>nE h
 |succ n ih =>
  exact fun x9 x10 x69 x70 x71 b5 b6 b12 r h =>
   cE h (fun h0 h=>iE h fun h1 h=>tS fk11 (xWl x9 x10 x69 x70 x71 b5 b6 b12) (oc2 h0 h1 on) (vC3 ih _ _ _ _ _ _ _ _ _ _ _ _ _ _ h)) fun h0 h =>
   cE h (fun h1 h=>bE h fun r1 h2 h=>dS h fk11 (xWm x9 x10 x69 x70 x71 b5 b6 b12 r1) (oc3 h0 h1 (xCf h2) on)) fun h1 h =>
   dS h fk11 (xWn x9 x10 x69 x70 x71 b5 b6 b12) (oc2 h0 h1 on)
theorem vEe{N:Nat}:∀a0 a1 a2 r,xGv N a0 a1 a2=some r→RE Tryz.f11 I11 (xCh a0 a1 a2) (xCC r):=fun a0 a1 a2 r h =>
 bE h fun r1 h0 h=>cE h (fun h1 h=>iE h fun h2 h=>iE h fun h3 h=>iE h fun h4 h=>cE h (fun h5 h=>dE h fk11 (xZ1 a0 a1 a2 r1) (oc2 (xEk (xCc h0) h1 h2 h3 h4) h5 on)) fun h5 h =>
 bE h fun r2 h6 h=>bE h fun r3 h7 h=>bE h fun r4 h8 h=>iE h fun h9 h=>iE h fun h10 h=>cE h (fun h11 h=>bE h fun r5 h14 h=>dE h fk11 (xZ2 a0 a1 a2 r1 r2 r3 r4 r5) (oc11 (xEk (xCc h0) h1 h2 h3 h4) h5 (xAK h6) (xAK h7) (xDd h8) h9 h10 h11 rfl rfl (xCf h14) on)) fun h11 h =>
 cE h (fun h12 h=>bE h fun r5 h14 h=>dE h fk11 (xZ3 a0 a1 a2 r1 r2 r3 r4 r5) (oc11 (xEk (xCc h0) h1 h2 h3 h4) h5 (xAK h6) (xAK h7) (xDd h8) h9 h10 h11 h12 rfl (xCf h14) on)) fun h12 h =>
 bE h fun r5 h13 h=>cE h (fun h14 h=>bE h fun r6 h15 h=>dE h fk11 (xZ4 a0 a1 a2 r1 r2 r3 r4 r5 r6) (oc12 (xEk (xCc h0) h1 h2 h3 h4) h5 (xAK h6) (xAK h7) (xDd h8) h9 h10 h11 h12 (xDq h13) h14 (xCf h15) on)) fun h14 h =>
 cE h (fun h15 h=>bE h fun r6 h16 h=>dE h fk11 (xWr a0 a1 a2 r1 r2 r3 r4 r5 r6) (oc12 (xEk (xCc h0) h1 h2 h3 h4) h5 (xAK h6) (xAK h7) (xDd h8) h9 h10 h11 h12 (xDq h13) h14 h15 (oc (xCf h16) on))) fun h15 h =>
 tE fk11 (xWs a0 a1 a2 r1 r2 r3 r4 r5) (oc12 (xEk (xCc h0) h1 h2 h3 h4) h5 (xAK h6) (xAK h7) (xDd h8) h9 h10 h11 h12 (xDq h13) h14 h15 on) (xZs _ _ _ _ _ _ _ _ _ _ h)) fun h1 h =>
 cE h (fun h2 h=>dE h fk11 (xWt a0 a1 a2 r1) (oc2 (xEl (xCc h0) h1) h2 on)) fun h2 h =>
 bE h fun r2 h3 h=>bE h fun r3 h4 h=>bE h fun r4 h5 h=>iE h fun h6 h=>iE h fun h7 h=>cE h (fun h8 h=>bE h fun r5 h11 h=>dE h fk11 (xWu a0 a1 a2 r1 r2 r3 r4 r5) (oc11 (xEl (xCc h0) h1) h2 (xAK h3) (xAK h4) (xDd h5) h6 h7 h8 rfl rfl (xCf h11) on)) fun h8 h =>
 cE h (fun h9 h=>bE h fun r5 h11 h=>dE h fk11 (xWv a0 a1 a2 r1 r2 r3 r4 r5) (oc11 (xEl (xCc h0) h1) h2 (xAK h3) (xAK h4) (xDd h5) h6 h7 h8 h9 rfl (xCf h11) on)) fun h9 h =>
 bE h fun r5 h10 h=>cE h (fun h11 h=>bE h fun r6 h12 h=>dE h fk11 (xWw a0 a1 a2 r1 r2 r3 r4 r5 r6) (oc12 (xEl (xCc h0) h1) h2 (xAK h3) (xAK h4) (xDd h5) h6 h7 h8 h9 (xDq h10) h11 (xCf h12) on)) fun h11 h =>
 cE h (fun h12 h=>bE h fun r6 h13 h=>dE h fk11 (xWx a0 a1 a2 r1 r2 r3 r4 r5 r6) (oc12 (xEl (xCc h0) h1) h2 (xAK h3) (xAK h4) (xDd h5) h6 h7 h8 h9 (xDq h10) h11 h12 (oc (xCf h13) on))) fun h12 h =>
 tE fk11 (xWy a0 a1 a2 r1 r2 r3 r4 r5) (oc12 (xEl (xCc h0) h1) h2 (xAK h3) (xAK h4) (xDd h5) h6 h7 h8 h9 (xDq h10) h11 h12 on) (xZs _ _ _ _ _ _ _ _ _ _ h)
theorem xGb{N:Nat}{a0:Val}{a1:Val}{a2:Val}{r:Val × Bool}(h:xGv N  a0 a1 a2=some r):AbC 11 (xCh a0 a1 a2) (xCC r) :=
 AbsCalls.of_reach fk11 rfl rfl rfl (Nat.le_of_ble_eq_true rfl) (vEe a0 a1 a2 r h)
end Go.Ab.T
end
section
open Go.Proofs
namespace Go.Ab.T
set_option maxRecDepth 100000
variable [Inhabited Lb]
noncomputable def I15:Info:= { body:=(Tryz.f15.body).getD .skip,nt:=6,results:= [.tmp 2],keep:= [0,4],live:= [],modes:= [] }
theorem fk15:FnOk Tryz.prog 15 Tryz.f15 I15:=⟨Tryz.func15,by kernel_rfl,by kernel_rfl,by kernel_rfl,by kernel_rfl⟩
def xZ5(a0:List Int):rE I15 (xJY a0) [] []=dn (xEW (dc ((Ln a0:Int)>1048576))) []:=by kernel_rfl
theorem vEf{N:Nat}:∀a0 r,xKG N a0=some r→RE Tryz.f15 I15 (xJY a0) (xEW r):=fun a0 r h =>
 dE h fk15 (xZ5 a0) on
theorem xG8{N:Nat}{a0:List Int}{r:Bool}(h:xKG N  a0=some r):AbC 15 (xJY a0) (xEW r) :=
 AbsCalls.of_reach fk15 rfl rfl rfl (Nat.le_of_ble_eq_true rfl) (vEf a0 r h)
noncomputable def I56:Info:= { body:=(Tryz.f56.body).getD .skip,nt:=32,results:= [.tmp 2],keep:= [0,4,6,8,30,63],live:= [(3, [0,6,8])],modes:= [(3, [(4, .take,false)])] }
theorem fk56:FnOk Tryz.prog 56 Tryz.f56 I56:=⟨Tryz.func56,by kernel_rfl,by kernel_rfl,by kernel_rfl,by kernel_rfl⟩
def xSQ(x0:List Int)(x3 x4:Int):St:= [(0, .v false [.sl .ro .byte x0]),(6, .v false [.int .i64 x3]),(8, .v false [.int .i64 x4])]
abbrev xL4(v0:Int)(v1:List Int):Prop:=iY (dc (v0<(Ln v1:Int)))
def vAX(x0:List Int)(x3 x4:Int):rS 3 I56 (xSQ x0 x3 x4) [Y,Y] []=st 3 I56 (xSQ x0 (andI .i64 (W ((W ((W (x3*131))+(W ((gD x0 (tN x4) Ty.byte.dflt)))))+7)) 1073741823) (W (x4+1))) [xL4 x4 x0,iY (dc (x4<4000)),xIR x4 x0]:=by kernel_rfl
def vAY(x0:List Int)(x3 x4:Int):rS 3 I56 (xSQ x0 x3 x4) [Y,F] []=dn (xF1 (Cur.mk x0 0 x3)) [xL4 x4 x0,iN (dc (x4<4000))]:=by kernel_rfl
def vAZ(x0:List Int)(x3 x4:Int):rS 3 I56 (xSQ x0 x3 x4) [F,F] []=dn (xF1 (Cur.mk x0 0 x3)) [iN (dc (x4<(Ln x0:Int))),iN false]:=by kernel_rfl
def vA0(a0:List Int):rE I56 (xIr a0) [] []=st 3 I56 (xSQ a0 (W (26583+(Ln a0:Int))) 0) []:=by kernel_rfl
theorem vEB{N:Nat}:∀n x0 x3 x4 r,xGJ N n x0 x3 x4=some r→RS Tryz.f56 I56 3 (xSQ x0 x3 x4) (xF1 r):=by
 intro n
 induction n with
 |zero=>exact fun _ _ _ _ h=>nE h
 |succ n ih =>
  exact fun x0 x3 x4 r h =>
   cE h (fun h0 h=>cE h (fun h1 h=>iE h fun h2 h=>tS fk56 (vAX x0 x3 x4) (oc3 h0 h1 h2 on) (ih _ _ _ _ h)) fun h1 h =>
   dS h fk56 (vAY x0 x3 x4) (oc2 h0 h1 on)) fun h0 h =>
   dS h fk56 (vAZ x0 x3 x4) (oc2 h0 rfl on)
theorem vEC{N:Nat}:∀a0 r,xIu N a0=some r→RE Tryz.f56 I56 (xIr a0) (xF1 r):=fun a0 r h =>
 tE fk56 (vA0 a0) on (vEB _ _ _ _ _ h)
theorem xP9{N:Nat}{a0:List Int}{r:Cur}(h:xIu N  a0=some r):AbC 56 (xIr a0) (xF1 r) :=
 AbsCalls.of_reach fk56 rfl rfl rfl (Nat.le_of_ble_eq_true rfl) (vEC a0 r h)
noncomputable def I108:Info:= { body:=(Tryz.f108.body).getD .skip,nt:=58,results:= [.tmp 2],keep:= [0,4,6,68,1],live:= [],modes:= [],ext:= [0] }
theorem xZK:FnOk Tryz.prog 108 Tryz.f108 I108:=⟨Tryz.func108,by kernel_rfl,by kernel_rfl,by kernel_rfl,by kernel_rfl⟩
abbrev xUa(v0:Cur):=andI .i64 (xorI .i64 (Int.fdiv (W ((W ((Cur.h v0)*6364136223846793005))+1442695040888963407)) ((2:Int) ^ (tN 33))) (Int.fdiv (W ((W ((Cur.h v0)*6364136223846793005))+1442695040888963407)) ((2:Int) ^ (tN 45)))) 255
abbrev xT9(v0:Cur):=W ((W ((Cur.h v0)*6364136223846793005))+1442695040888963407)
def xVA(a0:Cur):rE I108 (xD7 a0) [Y] []=dn (xCt ((andI .i64 (W ((xUa a0)+(W ((gD (Cur.b a0) (tN (Cur.i a0)) Ty.byte.dflt))))) 255),(Cur.mk (Cur.b a0) (W ((Cur.i a0)+1)) (xT9 a0)))) [(0:Int)≤33∧(33:Int)<64,(0:Int)≤45∧(45:Int)<64,iY (dc ((Cur.i a0)<(Ln (Cur.b a0):Int))),(0:Int)≤(Cur.i a0)∧(Cur.i a0)<(Ln (Cur.b a0))]:=by kernel_rfl
def xVB(a0:Cur):rE I108 (xD7 a0) [F] []=dn (xCt ((xUa a0),(Cur.mk (Cur.b a0) (Cur.i a0) (xT9 a0)))) [(0:Int)≤33∧(33:Int)<64,(0:Int)≤45∧(45:Int)<64,iN (dc ((Cur.i a0)<(Ln (Cur.b a0):Int)))]:=by kernel_rfl
theorem vCM{N:Nat}:∀a0 r,xFZ N a0=some r→RE Tryz.f108 I108 (xD7 a0) (xCt r):=fun a0 r h =>
 cE h (fun h2 h=>iE h fun h3 h=>dE h xZK (xVA a0) (oc4 (by decide) (by decide) h2 h3 on)) fun h2 h =>
 dE h xZK (xVB a0) (oc3 (by decide) (by decide) h2 on)
theorem xGY{N:Nat}{a0:Cur}{r:Int × Cur}(h:xFZ N  a0=some r):AbC 108 (xD7 a0) (xCt r) :=
 AbsCalls.of_reach xZK rfl rfl rfl (Nat.le_of_ble_eq_true rfl) (vCM a0 r h)
noncomputable def I67:Info:= { body:=(Tryz.f67.body).getD .skip,nt:=37,results:= [.tmp 4],keep:= [0,2,8,10,12,14,16,20,24,1],live:= [],modes:= [(9, [(0, .take,false),(2, .take,false),(5, .take,false),(8, .take,false)])],ext:= [0] }
theorem fk67:FnOk Tryz.prog 67 Tryz.f67 I67:=⟨Tryz.func67,by kernel_rfl,by kernel_rfl,by kernel_rfl,by kernel_rfl⟩
def vBu(a0:Cur)(a1:Int):rE I67 (xA3 a0 a1) [Y] []=dn (xAj (0,a0)) [iY (dc (a1≤0))]:=by kernel_rfl
def vBv(a0:Cur)(a1:Int)(r1:Int × Cur):rE I67 (xA3 a0 a1) [F,Y] [xCt r1]=dn (xAj ((Int.tmod r1.1 a1),r1.2)) [iN (dc (a1≤0)),iY (dc (a1≤256)),AbC 108 (xD7 a0) (xCt r1),a1≠(0:Int)]:=by kernel_rfl
def vBw(a0:Cur)(a1:Int)(r1:Int × Cur)(r2:Int × Cur)(r3:Int × Cur)(r4:Int × Cur):rE I67 (xA3 a0 a1) [F,F] [xCt r1,xCt r2,xCt r3,xCt r4]=dn (xAj ((Int.tmod (W ((W ((W ((W (r1.1*16777216))+(W (r2.1*65536))))+(W (r3.1*256))))+r4.1)) a1),r4.2)) [iN (dc (a1≤0)),iN (dc (a1≤256)),AbC 108 (xD7 a0) (xCt r1),AbC 108 (xD7 r1.2) (xCt r2),AbC 108 (xD7 r2.2) (xCt r3),AbC 108 (xD7 r3.2) (xCt r4),a1≠(0:Int)]:=by kernel_rfl
theorem vEQ{N:Nat}:∀a0 a1 r,xBM N a0 a1=some r→RE Tryz.f67 I67 (xA3 a0 a1) (xAj r):=fun a0 a1 r h =>
 cE h (fun h0 h=>dE h fk67 (vBu a0 a1) (oc h0 on)) fun h0 h =>
 cE h (fun h1 h=>bE h fun r1 h2 h=>iE h fun h3 h=>dE h fk67 (vBv a0 a1 r1) (oc4 h0 h1 (xGY h2) h3 on)) fun h1 h =>
 bE h fun r1 h2 h=>bE h fun r2 h3 h=>bE h fun r3 h4 h=>bE h fun r4 h5 h=>iE h fun h6 h=>dE h fk67 (vBw a0 a1 r1 r2 r3 r4) (oc7 h0 h1 (xGY h2) (xGY h3) (xGY h4) (xGY h5) h6 on)
theorem xAB{N:Nat}{a0:Cur}{a1:Int}{r:Int × Cur}(h:xBM N  a0 a1=some r):AbC 67 (xA3 a0 a1) (xAj r) :=
 AbsCalls.of_reach fk67 rfl rfl rfl (Nat.le_of_ble_eq_true rfl) (vEQ a0 a1 r h)
noncomputable def I58:Info:= { body:=(Tryz.f58.body).getD .skip,nt:=9,results:= [.tmp 4],keep:= [0,2,8,1],live:= [],modes:= [],ext:= [0] }
theorem fk58:FnOk Tryz.prog 58 Tryz.f58 I58:=⟨Tryz.func58,by kernel_rfl,by kernel_rfl,by kernel_rfl,by kernel_rfl⟩
def vA8(a0:Cur)(a1:Int)(r1:Int × Cur):rE I58 (xA4 a0 a1) [] [xAj r1]=dn (xAs ((r1.1==0),r1.2)) [AbC 67 (xA3 a0 a1) (xAj r1)]:=by kernel_rfl
theorem vEG{N:Nat}:∀a0 a1 r,xC6 N a0 a1=some r→RE Tryz.f58 I58 (xA4 a0 a1) (xAs r):=fun a0 a1 r h =>
 bE h fun r1 h0 h=>dE h fk58 (vA8 a0 a1 r1) (oc (xAB h0) on)
theorem xBo{N:Nat}{a0:Cur}{a1:Int}{r:Bool × Cur}(h:xC6 N  a0 a1=some r):AbC 58 (xA4 a0 a1) (xAs r) :=
 AbsCalls.of_reach fk58 rfl rfl rfl (Nat.le_of_ble_eq_true rfl) (vEG a0 a1 r h)
noncomputable def I131:Info:= { body:=(Tryz.f131.body).getD .skip,nt:=31,results:= [.tmp 2],keep:= [0,4,6,8,10,12,24,1],live:= [(5, [0,6,8,10,12,1])],modes:= [(5, [(1, .take,false)]),(7, [(0, .take,false)]),(9, [(0, .take,false)])],ext:= [0] }
theorem xU7:FnOk Tryz.prog 131 Tryz.f131 I131:=⟨Tryz.func131,by kernel_rfl,by kernel_rfl,by kernel_rfl,by kernel_rfl⟩
def xQc(x3:List Org)(x4 x5 x6:Int)(b0:Cur):St:= [(0, .v false [.ptr 0 0]),(6, .v false [.sl .own .org x3]),(8, .v false [.int .i64 x4]),(10, .v false [.int .i64 x5]),(12, .v false [.int .i64 x6]),(1, .v true [.sl .ro .byte (Cur.b b0), .int .i64 (Cur.i b0), .int .i64 (Cur.h b0)])]
def xWE(x3:List Org)(x4 x5 x6:Int)(b0:Cur)(r1:Int × Cur)(r2:Int × Cur):rS 5 I131 (xQc x3 x4 x5 x6 b0) [Y] [xAj r1,xAj r2]=st 5 I131 (xQc (x3++ [(Org.mk x4 (W (x6+(W (r1.1*2)))))]) (W ((W (x4+1))+r2.1)) x5 (W (x6+1)) r2.2) [xFi x6 x5,AbC 67 (xA3 b0 2) (xAj r1),Ln x3+Ln [(Org.mk x4 (W (x6+(W (r1.1*2)))))]≤Lim,AbC 67 (xA3 r1.2 2) (xAj r2)]:=by kernel_rfl
def xWF(x3:List Org)(x4 x5 x6:Int)(b0:Cur):rS 5 I131 (xQc x3 x4 x5 x6 b0) [F] []=dn (xGf (x3,b0)) [xHn x6 x5]:=by kernel_rfl
def xWG(a0:Cur)(r1:Int × Cur):rE I131 (xH4 a0) [] [xAj r1]=st 5 I131 (xQc [] 1 r1.1 0 r1.2) [AbC 67 (xA3 a0 3) (xAj r1)]:=by kernel_rfl
theorem vC6{N:Nat}:∀n x3 x4 x5 x6 b0 r,xGe N n x3 x4 x5 x6 b0=some r→RS Tryz.f131 I131 5 (xQc x3 x4 x5 x6 b0) (xGf r):=by
 intro n
 induction n with
 |zero=>exact fun _ _ _ _ _ _ h=>nE h
 |succ n ih =>
  exact fun x3 x4 x5 x6 b0 r h =>
   cE h (fun h0 h=>bE h fun r1 h1 h=>iE h fun h2 h=>bE h fun r2 h3 h=>tS xU7 (xWE x3 x4 x5 x6 b0 r1 r2) (oc4 h0 (xAB h1) h2 (xAB h3) on) (ih _ _ _ _ _ _ h)) fun h0 h =>
   dS h xU7 (xWF x3 x4 x5 x6 b0) (oc h0 on)
theorem vC7{N:Nat}:∀a0 r,xJ9 N a0=some r→RE Tryz.f131 I131 (xH4 a0) (xGf r):=fun a0 r h =>
 bE h fun r1 h0 h=>tE xU7 (xWG a0 r1) (oc (xAB h0) on) (vC6 _ _ _ _ _ _ _ h)
theorem xOc{N:Nat}{a0:Cur}{r:(List Org) × Cur}(h:xJ9 N  a0=some r):AbC 131 (xH4 a0) (xGf r) :=
 AbsCalls.of_reach xU7 rfl rfl rfl (Nat.le_of_ble_eq_true rfl) (vC7 a0 r h)
noncomputable def I165:Info:= { body:=(Tryz.f165.body).getD .skip,nt:=12,results:= [.tmp 4],keep:= [0,2,8,1],live:= [],modes:= [],ext:= [0] }
theorem vDK:FnOk Tryz.prog 165 Tryz.f165 I165:=⟨Tryz.func165,by kernel_rfl,by kernel_rfl,by kernel_rfl,by kernel_rfl⟩
def xXf(a0:Cur)(a1:List Int)(r1:Int × Cur):rE I165 (xFB a0 a1) [] [xAj r1]=dn (xDW ((gD a1 (tN r1.1) Ty.int.dflt),r1.2)) [AbC 67 (xA3 a0 (Ln a1:Int)) (xAj r1),(0:Int)≤r1.1∧r1.1<(Ln a1)]:=by kernel_rfl
theorem vDp{N:Nat}:∀a0 a1 r,xFp N a0 a1=some r→RE Tryz.f165 I165 (xFB a0 a1) (xDW r):=fun a0 a1 r h =>
 bE h fun r1 h0 h=>iE h fun h1 h=>dE h vDK (xXf a0 a1 r1) (oc2 (xAB h0) h1 on)
theorem xJR{N:Nat}{a0:Cur}{a1:List Int}{r:Int × Cur}(h:xFp N  a0 a1=some r):AbC 165 (xFB a0 a1) (xDW r) :=
 AbsCalls.of_reach vDK rfl rfl rfl (Nat.le_of_ble_eq_true rfl) (vDp a0 a1 r h)
noncomputable def I132:Info:= { body:=(Tryz.f132.body).getD .skip,nt:=11,results:= [.tmp 2],keep:= [0,4,8,1],live:= [],modes:= [(2, [(1, .cp,true)])],ext:= [0] }
theorem xZO:FnOk Tryz.prog 132 Tryz.f132 I132:=⟨Tryz.func132,by kernel_rfl,by kernel_rfl,by kernel_rfl,by kernel_rfl⟩
def xWH(a0:Cur)(r1:Bool × Cur)(r2:Int × Cur):rE I132 (xC3 a0) [Y] [xAs r1,xDW r2]=dn (xBD (r2.1,r2.2)) [AbC 58 (xA4 a0 12) (xAs r1),iY r1.1,AbC 165 (xFB r1.2 [1000000000,(-1000000000),999999999,500000000,40000]) (xDW r2)]:=by kernel_rfl
def xWI(a0:Cur)(r1:Bool × Cur)(r2:Int × Cur):rE I132 (xC3 a0) [F] [xAs r1,xAj r2]=dn (xBD ((W (r2.1 - 3)),r2.2)) [AbC 58 (xA4 a0 12) (xAs r1),iN r1.1,AbC 67 (xA3 r1.2 12) (xAj r2)]:=by kernel_rfl
theorem vC8{N:Nat}:∀a0 r,xDY N a0=some r→RE Tryz.f132 I132 (xC3 a0) (xBD r):=fun a0 r h =>
 bE h fun r1 h0 h=>cE h (fun h1 h=>bE h fun r2 h2 h=>dE h xZO (xWH a0 r1 r2) (oc3 (xBo h0) h1 (xJR h2) on)) fun h1 h =>
 bE h fun r2 h2 h=>dE h xZO (xWI a0 r1 r2) (oc3 (xBo h0) h1 (xAB h2) on)
theorem xEy{N:Nat}{a0:Cur}{r:Int × Cur}(h:xDY N  a0=some r):AbC 132 (xC3 a0) (xBD r) :=
 AbsCalls.of_reach xZO rfl rfl rfl (Nat.le_of_ble_eq_true rfl) (vC8 a0 r h)
noncomputable def I97:Info:= { body:=(Tryz.f97.body).getD .skip,nt:=58,results:= [.cell 2 31],keep:= [0,4,6,8,10,12,14,16,18,42,66,82,1,5,11,17],live:= [(10, [0,4,8,10,12,14,1,5,11]),(14, [0,4,8,10,12,14,16,18,1,5,11,17])],modes:= [(3, [(1, .take,false)]),(5, [(1, .ref,false)]),(6, [(1, .take,false),(2, .take,false)]),(10, [(1, .take,false)]),(16, [(1, .take,false)]),(17, [(1, .take,false),(2, .take,false),(4, .take,false)]),(18, [(0, .take,false)])],ext:= [0] }
theorem fk97:FnOk Tryz.prog 97 Tryz.f97 I97:=⟨Tryz.func97,by kernel_rfl,by kernel_rfl,by kernel_rfl,by kernel_rfl⟩
def xMP(x4 x6 x7:Int)(b0:Cur)(b2 b5:Val):St:= [(0, .v false [.ptr 0 0]),(4, .v false [.ptr 2 0]),(8, .v false [.int .i64 x4]),(10, .v false [.ptr 5 0]),(12, .v false [.int .i64 x6]),(14, .v false [.int .i64 x7]),(1, .v true [.sl .ro .byte (Cur.b b0), .int .i64 (Cur.i b0), .int .i64 (Cur.h b0)]),(5, .v true [.int .i64 (Val.kind b2), .int .i64 (Val.n b2), .int .i64 (Val.step b2), .str (Val.text b2), .sl .own .val (Val.list b2), .sl .own .str (Val.columns b2), .sl .own .row (Val.rows b2)]),(11, .v true [.int .i64 (Val.kind b5), .int .i64 (Val.n b5), .int .i64 (Val.step b5), .str (Val.text b5), .sl .own .val (Val.list b5), .sl .own .str (Val.columns b5), .sl .own .row (Val.rows b5)])]
def xQg(x4 x6 x7 x9:Int)(b0:Cur)(b2 b5:Val)(b8:Rowd):St:= [(0, .v false [.ptr 0 0]),(4, .v false [.ptr 2 0]),(8, .v false [.int .i64 x4]),(10, .v false [.ptr 5 0]),(12, .v false [.int .i64 x6]),(14, .v false [.int .i64 x7]),(16, .v false [.ptr 8 0]),(18, .v false [.int .i64 x9]),(1, .v true [.sl .ro .byte (Cur.b b0), .int .i64 (Cur.i b0), .int .i64 (Cur.h b0)]),(5, .v true [.int .i64 (Val.kind b2), .int .i64 (Val.n b2), .int .i64 (Val.step b2), .str (Val.text b2), .sl .own .val (Val.list b2), .sl .own .str (Val.columns b2), .sl .own .row (Val.rows b2)]),(11, .v true [.int .i64 (Val.kind b5), .int .i64 (Val.n b5), .int .i64 (Val.step b5), .str (Val.text b5), .sl .own .val (Val.list b5), .sl .own .str (Val.columns b5), .sl .own .row (Val.rows b5)]),(17, .v true [.sl .own .int (Rowd.cells b8), .sl .own .org (Rowd.frm b8)])]
def xZi(x4 x6 x7 x9:Int)(b0:Cur)(b2 b5:Val)(b8:Rowd)(r1:Int × Cur):rS 14 I97 (xQg x4 x6 x7 x9 b0 b2 b5 b8) [Y] [xBD r1]=st 14 I97 (xQg x4 x6 x7 (W (x9+1)) r1.2 b2 b5 (Rowd.mk ((xE9 b8)++ [r1.1]) (Rowd.frm b8))) [xFi x9 x4,AbC 132 (xC3 b0) (xBD r1),Ln (xE9 b8)+Ln [r1.1]≤Lim]:=by kernel_rfl
def xZj(x4 x6 x7 x9:Int)(b0:Cur)(b2 b5:Val)(b8:Rowd):rS 14 I97 (xQg x4 x6 x7 x9 b0 b2 b5 b8) [F] []=st 10 I97 (xMP x4 x6 (W (x7+1)) b0 b2 (Val.mk (Val.kind b5) (Val.n b5) (Val.step b5) (Val.text b5) (Val.list b5) (xCN b5) ((Val.rows b5)++ [b8]))) [xHn x9 x4,Ln (Val.rows b5)+Ln [b8]≤Lim]:=by kernel_rfl
def xZg(x4 x6 x7:Int)(b0:Cur)(b2 b5:Val)(r1:(List Org) × Cur):rS 10 I97 (xMP x4 x6 x7 b0 b2 b5) [Y] [xGf r1]=st 14 I97 (xQg x4 x6 x7 0 r1.2 b2 b5 (Rowd.mk [] r1.1)) [xFi x7 x6,AbC 131 (xH4 b0) (xGf r1)]:=by kernel_rfl
def xZh(x4 x6 x7:Int)(b0:Cur)(b2 b5:Val):rS 10 I97 (xMP x4 x6 x7 b0 b2 b5) [F] []=dn (xCj (b5,b0)) [xHn x7 x6]:=by kernel_rfl
abbrev xTW(v0:Int × Cur):Prop:=(0:Int)≤(W (1+v0.1))∧(W (1+v0.1))≤(Ln ([[97], [98], [99], [120]]:List Str))
abbrev xNi(v0:Int × Cur):=List.take (tN (W (1+v0.1))) ([[97], [98], [99], [120]]:List Str)
abbrev xTX(v0:Int × Cur):Prop:=0+Ln (xNi v0)≤Lim
def vCj(a0:Cur)(r1:Int × Cur)(r2:Bool × Cur)(r3:Int × Cur):rE I97 (xDX a0) [Y] [xAj r1,xAs r2,xAj r3]=st 10 I97 (xMP 1 r3.1 0 r3.2 (Val.mk 0 0 0 [] [] [] []) (Val.mk 5 0 0 [] [] (List.take (tN 1) ((fun(z8:List Str)=>List.set z8 (tN 0) [120]) ([]++(xNi r1)))) [])) [AbC 67 (xA3 a0 3) (xAj r1),xTW r1,xTX r1,AbC 58 (xA4 r1.2 5) (xAs r2),iY r2.1,(0:Int)≤0∧(0:Int)<(Ln ([]++(xNi r1))),(0:Int)≤1∧(1:Int)≤(Ln ((fun(z8:List Str)=>List.set z8 (tN 0) [120]) ([]++(xNi r1)))),AbC 67 (xA3 r2.2 6) (xAj r3)]:=by kernel_rfl
def vCk(a0:Cur)(r1:Int × Cur)(r2:Bool × Cur)(r3:Int × Cur):rE I97 (xDX a0) [F] [xAj r1,xAs r2,xAj r3]=st 10 I97 (xMP (W (1+r1.1)) r3.1 0 r3.2 (Val.mk 0 0 0 [] [] [] []) (Val.mk 5 0 0 [] [] ([]++(xNi r1)) [])) [AbC 67 (xA3 a0 3) (xAj r1),xTW r1,xTX r1,AbC 58 (xA4 r1.2 5) (xAs r2),iN r2.1,AbC 67 (xA3 r2.2 6) (xAj r3)]:=by kernel_rfl
theorem vDG{N:Nat}{k10:Int→Int→Int→Cur→Val→Val→Option (Val × Cur)}(hk10:∀z0 z1 z2 z3 z4 z5 r,k10 z0 z1 z2 z3 z4 z5=some r→RS Tryz.f97 I97 10 (xMP z0 z1 z2 z3 z4 z5) (xCj r)):∀n x4 x6 x7 x9 b0 b2 b5 b8 r,xC7 N k10 n x4 x6 x7 x9 b0 b2 b5 b8=some r→RS Tryz.f97 I97 14 (xQg x4 x6 x7 x9 b0 b2 b5 b8) (xCj r):=by
 intro n
 induction n with
 |zero=>exact fun _ _ _ _ _ _ _ _ _ h=>nE h
 |succ n ih =>
  exact fun x4 x6 x7 x9 b0 b2 b5 b8 r h =>
   cE h (fun h0 h=>bE h fun r1 h1 h=>iE h fun h2 h=>tS fk97 (xZi x4 x6 x7 x9 b0 b2 b5 b8 r1) (oc3 h0 (xEy h1) h2 on) (ih _ _ _ _ _ _ _ _ _ h)) fun h0 h =>
   iE h fun h1 h=>tS fk97 (xZj x4 x6 x7 x9 b0 b2 b5 b8) (oc2 h0 h1 on) (hk10 _ _ _ _ _ _ _ h)
theorem xZt{N:Nat}:∀n x4 x6 x7 b0 b2 b5 r,xB9 N n x4 x6 x7 b0 b2 b5=some r→RS Tryz.f97 I97 10 (xMP x4 x6 x7 b0 b2 b5) (xCj r):=by
 intro n
 induction n with
 |zero=>exact fun _ _ _ _ _ _ _ h=>nE h
 |succ n ih =>
  exact fun x4 x6 x7 b0 b2 b5 r h =>
   cE h (fun h0 h=>bE h fun r1 h1 h=>tS fk97 (xZg x4 x6 x7 b0 b2 b5 r1) (oc2 h0 (xOc h1) on) (vDG ih _ _ _ _ _ _ _ _ _ _ h)) fun h0 h =>
   dS h fk97 (xZh x4 x6 x7 b0 b2 b5) (oc h0 on)
theorem vE6{N:Nat}:∀a0 r,xEt N a0=some r→RE Tryz.f97 I97 (xDX a0) (xCj r):=fun a0 r h =>
 bE h fun r1 h0 h=>iE h fun h1 h=>iE h fun h2 h=>bE h fun r2 h3 h=>cE h (fun h4 h=>iE h fun h5 h=>iE h fun h6 h=>bE h fun r3 h7 h=>tE fk97 (vCj a0 r1 r2 r3) (oc8 (xAB h0) h1 h2 (xBo h3) h4 h5 h6 (xAB h7) on) (xZt _ _ _ _ _ _ _ _ h)) fun h4 h =>
 bE h fun r3 h5 h=>tE fk97 (vCk a0 r1 r2 r3) (oc6 (xAB h0) h1 h2 (xBo h3) h4 (xAB h5) on) (xZt _ _ _ _ _ _ _ _ h)
theorem xI4{N:Nat}{a0:Cur}{r:Val × Cur}(h:xEt N  a0=some r):AbC 97 (xDX a0) (xCj r) :=
 AbsCalls.of_reach fk97 rfl rfl rfl (Nat.le_of_ble_eq_true rfl) (vE6 a0 r h)
noncomputable def I66:Info:= { body:=(Tryz.f66.body).getD .skip,nt:=5,results:= [.cell 2 31],keep:= [0,4,5],live:= [],modes:= [] }
theorem fk66:FnOk Tryz.prog 66 Tryz.f66 I66:=⟨Tryz.func66,by kernel_rfl,by kernel_rfl,by kernel_rfl,by kernel_rfl⟩
def vBt(a0:Int):rE I66 (xFX a0) [] []=dn (xCi (Val.mk 1 a0 0 [] [] [] [])) []:=by kernel_rfl
theorem vEP{N:Nat}:∀a0 r,xCB N a0=some r→RE Tryz.f66 I66 (xFX a0) (xCi r):=fun a0 r h =>
 dE h fk66 (vBt a0) on
theorem xDU{N:Nat}{a0:Int}{r:Val}(h:xCB N  a0=some r):AbC 66 (xFX a0) (xCi r) :=
 AbsCalls.of_reach fk66 rfl rfl rfl (Nat.le_of_ble_eq_true rfl) (vEP a0 r h)
noncomputable def I99:Info:= { body:=(Tryz.f99.body).getD .skip,nt:=12,results:= [.tmp 4],keep:= [0,2,8,1],live:= [],modes:= [],ext:= [0] }
theorem fk99:FnOk Tryz.prog 99 Tryz.f99 I99:=⟨Tryz.func99,by kernel_rfl,by kernel_rfl,by kernel_rfl,by kernel_rfl⟩
def vCm(a0:Cur)(a1:List Str)(r1:Int × Cur):rE I99 (xFq a0 a1) [] [xAj r1]=dn (xDh ((gD a1 (tN r1.1) Ty.str.dflt),r1.2)) [AbC 67 (xA3 a0 (Ln a1:Int)) (xAj r1),(0:Int)≤r1.1∧r1.1<(Ln a1)]:=by kernel_rfl
theorem vE8{N:Nat}:∀a0 a1 r,xF2 N a0 a1=some r→RE Tryz.f99 I99 (xFq a0 a1) (xDh r):=fun a0 a1 r h =>
 bE h fun r1 h0 h=>iE h fun h1 h=>dE h fk99 (vCm a0 a1 r1) (oc2 (xAB h0) h1 on)
theorem xH0{N:Nat}{a0:Cur}{a1:List Str}{r:Str × Cur}(h:xF2 N  a0 a1=some r):AbC 99 (xFq a0 a1) (xDh r) :=
 AbsCalls.of_reach fk99 rfl rfl rfl (Nat.le_of_ble_eq_true rfl) (vE8 a0 a1 r h)
noncomputable def I152:Info:= { body:=(Tryz.f152.body).getD .skip,nt:=6,results:= [.tmp 2],keep:= [0,4,1],live:= [],modes:= [(1, [(1, .cp,true)])],ext:= [0] }
theorem vDH:FnOk Tryz.prog 152 Tryz.f152 I152:=⟨Tryz.func152,by kernel_rfl,by kernel_rfl,by kernel_rfl,by kernel_rfl⟩
def xWJ(a0:Cur)(r1:Str × Cur):rE I152 (xGh a0) [] [xDh r1]=dn (xD9 (r1.1,r1.2)) [AbC 99 (xFq a0 [[], [97], [98], [97,98], [104,101,108,108,111], [116,119,101,110,116,121,32,99,104,97,114,97,99,116,101,114,115,32,111,107], [110,105,110,101,116,101,101,110,32,99,104,97,114,97,99,116,101,114,46]]) (xDh r1)]:=by kernel_rfl
theorem vC9{N:Nat}:∀a0 r,xHe N a0=some r→RE Tryz.f152 I152 (xGh a0) (xD9 r):=fun a0 r h =>
 bE h fun r1 h0 h=>dE h vDH (xWJ a0 r1) (oc (xH0 h0) on)
theorem xJy{N:Nat}{a0:Cur}{r:Str × Cur}(h:xHe N  a0=some r):AbC 152 (xGh a0) (xD9 r) :=
 AbsCalls.of_reach vDH rfl rfl rfl (Nat.le_of_ble_eq_true rfl) (vC9 a0 r h)
noncomputable def I98:Info:= { body:=(Tryz.f98.body).getD .skip,nt:=5,results:= [.cell 2 31],keep:= [0,4,5],live:= [],modes:= [] }
theorem fk98:FnOk Tryz.prog 98 Tryz.f98 I98:=⟨Tryz.func98,by kernel_rfl,by kernel_rfl,by kernel_rfl,by kernel_rfl⟩
def vCl(a0:Str):rE I98 (xDV a0) [] []=dn (xCn (Val.mk 2 0 0 a0 [] [] [])) []:=by kernel_rfl
theorem vE7{N:Nat}:∀a0 r,xD6 N a0=some r→RE Tryz.f98 I98 (xDV a0) (xCn r):=fun a0 r h =>
 dE h fk98 (vCl a0) on
theorem xGG{N:Nat}{a0:Str}{r:Val}(h:xD6 N  a0=some r):AbC 98 (xDV a0) (xCn r) :=
 AbsCalls.of_reach fk98 rfl rfl rfl (Nat.le_of_ble_eq_true rfl) (vE7 a0 r h)
def G153(q:Cur→Int→Option (Val × Cur)):Prop:=∀a0 a1 r,q a0 a1=some r→AbC 153 (xDG a0 a1) (xCv r)
def G171(q:Cur→Int→Option (Val × Cur)):Prop:=∀a0 a1 r,q a0 a1=some r→AbC 171 (xCM a0 a1) (xCw r)
noncomputable def I153:Info:= { body:=(Tryz.f153.body).getD .skip,nt:=26,results:= [.cell 4 31],keep:= [0,2,8,10,12,14,28,1,9,11],live:= [(4, [0,2,8,10,12,14,1,9,11])],modes:= [(2, [(1, .cp,true)]),(4, [(1, .take,false)]),(6, [(1, .take,false),(6, .take,false)]),(7, [(0, .take,false)])],ext:= [0] }
theorem xU8:FnOk Tryz.prog 153 Tryz.f153 I153:=⟨Tryz.func153,by kernel_rfl,by kernel_rfl,by kernel_rfl,by kernel_rfl⟩
def xQd(x1 x6 x7:Int)(b0:Cur)(b4 b5:Val):St:= [(0, .v false [.ptr 0 0]),(2, .v false [.int .i64 x1]),(8, .v false [.ptr 4 0]),(10, .v false [.ptr 5 0]),(12, .v false [.int .i64 x6]),(14, .v false [.int .i64 x7]),(1, .v true [.sl .ro .byte (Cur.b b0), .int .i64 (Cur.i b0), .int .i64 (Cur.h b0)]),(9, .v true [.int .i64 (Val.kind b4), .int .i64 (Val.n b4), .int .i64 (Val.step b4), .str (Val.text b4), .sl .own .val (Val.list b4), .sl .own .str (Val.columns b4), .sl .own .row (Val.rows b4)]),(11, .v true [.int .i64 (Val.kind b5), .int .i64 (Val.n b5), .int .i64 (Val.step b5), .str (Val.text b5), .sl .own .val (Val.list b5), .sl .own .str (Val.columns b5), .sl .own .row (Val.rows b5)])]
def xWK(x1 x6 x7:Int)(b0:Cur)(b4 b5:Val)(r1:Val × Cur):rS 4 I153 (xQd x1 x6 x7 b0 b4 b5) [Y] [xCw r1]=st 4 I153 (xQd x1 x6 (W (x7+1)) r1.2 b4 (Val.mk (Val.kind b5) (Val.n b5) (Val.step b5) (Val.text b5) ((Val.list b5)++ [(Val.re r1.1)]) (xCN b5) (Val.rows b5))) [xFi x7 x6,AbC 171 (xCM b0 x1) (xCw r1),Ln (Val.list b5)+Ln [(Val.re r1.1)]≤Lim]:=by kernel_rfl
def xWL(x1 x6 x7:Int)(b0:Cur)(b4 b5:Val):rS 4 I153 (xQd x1 x6 x7 b0 b4 b5) [F] []=dn (xCv (b5,b0)) [xHn x7 x6]:=by kernel_rfl
def xWM(a0:Cur)(a1:Int)(r1:Int × Cur):rE I153 (xDG a0 a1) [] [xDW r1]=st 4 I153 (xQd a1 r1.1 0 r1.2 (Val.mk 0 0 0 [] [] [] []) (Val.mk 3 0 0 [] [] [] [])) [AbC 165 (xFB a0 [0,1,2,3,3,4,5,8]) (xDW r1)]:=by kernel_rfl
theorem vDa{N q0 q1}(g0:G153 q0)(g1:G171 q1):∀n x1 x6 x7 b0 b4 b5 r,xDH N q0 q1 n x1 x6 x7 b0 b4 b5=some r→RS Tryz.f153 I153 4 (xQd x1 x6 x7 b0 b4 b5) (xCv r):=by
 intro n
 induction n with
 |zero=>exact fun _ _ _ _ _ _ _ h=>nE h
 |succ n ih =>
  exact fun x1 x6 x7 b0 b4 b5 r h =>
   cE h (fun h0 h=>bE h fun r1 h1 h=>iE h fun h2 h=>tS xU8 (xWK x1 x6 x7 b0 b4 b5 r1) (oc3 h0 (g1 _ _ _ h1) h2 on) (ih _ _ _ _ _ _ _ h)) fun h0 h =>
   dS h xU8 (xWL x1 x6 x7 b0 b4 b5) (oc h0 on)
theorem vDb{N q0 q1}(g0:G153 q0)(g1:G171 q1):∀a0 a1 r,xEw N q0 q1 a0 a1=some r→RE Tryz.f153 I153 (xDG a0 a1) (xCv r):=fun a0 a1 r h =>
 bE h fun r1 h0 h=>tE xU8 (xWM a0 a1 r1) (oc (xJR h0) on) (vDa g0 g1 _ _ _ _ _ _ _ _ h)
theorem xJ7{N q0 q1}(g0:G153 q0)(g1:G171 q1){a0}{a1}{r}(h:xEw N q0 q1 a0 a1=some r):AbC 153 (xDG a0 a1) (xCv r) :=
 AbsCalls.of_reach xU8 rfl rfl rfl (Nat.le_of_ble_eq_true rfl) (vDb g0 g1 a0 a1 r h)
noncomputable def I171:Info:= { body:=(Tryz.f171.body).getD .skip,nt:=23,results:= [.cell 4 31],keep:= [0,2,8,20,32,1,9],live:= [],modes:= [(1, [(2, .take,false)])],ext:= [0] }
theorem xTh:FnOk Tryz.prog 171 Tryz.f171 I171:=⟨Tryz.func171,by kernel_rfl,by kernel_rfl,by kernel_rfl,by kernel_rfl⟩
def xXi(a0:Cur)(a1:Int)(r1:Bool × Cur)(r2:Val × Cur):rE I171 (xCM a0 a1) [Y,Y] [xAs r1,xCv r2]=dn (xCw (r2.1,r2.2)) [iY (dc (a1>1)),AbC 58 (xA4 a0 4) (xAs r1),iY r1.1,AbC 153 (xDG r1.2 (W (a1 - 1))) (xCv r2)]:=by kernel_rfl
def xXj(a0:Cur)(a1:Int)(r1:Bool × Cur)(r2:Bool × Cur)(r3:Str × Cur)(r4:Val):rE I171 (xCM a0 a1) [Y,F,Y] [xAs r1,xAs r2,xD9 r3,xCn r4]=dn (xCw (r4,r3.2)) [iY (dc (a1>1)),AbC 58 (xA4 a0 4) (xAs r1),iN r1.1,AbC 58 (xA4 r1.2 4) (xAs r2),iY r2.1,AbC 152 (xGh r2.2) (xD9 r3),AbC 98 (xDV r3.1) (xCn r4)]:=by kernel_rfl
abbrev xL5(v0:Int × Cur)(v1:Val):Prop:=AbC 66 (xFX v0.1) (xCi v1)
def xXk(a0:Cur)(a1:Int)(r1:Bool × Cur)(r2:Bool × Cur)(r3:Int × Cur)(r4:Val):rE I171 (xCM a0 a1) [Y,F,F] [xAs r1,xAs r2,xBD r3,xCi r4]=dn (xCw (r4,r3.2)) [iY (dc (a1>1)),AbC 58 (xA4 a0 4) (xAs r1),iN r1.1,AbC 58 (xA4 r1.2 4) (xAs r2),iN r2.1,AbC 132 (xC3 r2.2) (xBD r3),xL5 r3 r4]:=by kernel_rfl
def xXl(a0:Cur)(a1:Int)(r1:Bool × Cur)(r2:Str × Cur)(r3:Val):rE I171 (xCM a0 a1) [F,F,Y] [xAs r1,xD9 r2,xCn r3]=dn (xCw (r3,r2.2)) [iN (dc (a1>1)),iN false,AbC 58 (xA4 a0 4) (xAs r1),iY r1.1,AbC 152 (xGh r1.2) (xD9 r2),AbC 98 (xDV r2.1) (xCn r3)]:=by kernel_rfl
def xXm(a0:Cur)(a1:Int)(r1:Bool × Cur)(r2:Int × Cur)(r3:Val):rE I171 (xCM a0 a1) [F,F,F] [xAs r1,xBD r2,xCi r3]=dn (xCw (r3,r2.2)) [iN (dc (a1>1)),iN false,AbC 58 (xA4 a0 4) (xAs r1),iN r1.1,AbC 132 (xC3 r1.2) (xBD r2),xL5 r2 r3]:=by kernel_rfl
theorem vDs{N q0 q1}(g0:G153 q0)(g1:G171 q1):∀a0 a1 r,xEx N q0 q1 a0 a1=some r→RE Tryz.f171 I171 (xCM a0 a1) (xCw r):=fun a0 a1 r h =>
 cE h (fun h0 h=>bE h fun r1 h1 h=>cE h (fun h2 h=>bE h fun r2 h3 h=>dE h xTh (xXi a0 a1 r1 r2) (oc4 h0 (xBo h1) h2 (g0 _ _ _ h3) on)) fun h2 h =>
 bE h fun r2 h3 h=>cE h (fun h4 h=>bE h fun r3 h5 h=>bE h fun r4 h6 h=>dE h xTh (xXj a0 a1 r1 r2 r3 r4) (oc7 h0 (xBo h1) h2 (xBo h3) h4 (xJy h5) (xGG h6) on)) fun h4 h =>
 bE h fun r3 h5 h=>bE h fun r4 h6 h=>dE h xTh (xXk a0 a1 r1 r2 r3 r4) (oc7 h0 (xBo h1) h2 (xBo h3) h4 (xEy h5) (xDU h6) on)) fun h0 h =>
 bE h fun r1 h2 h=>cE h (fun h3 h=>bE h fun r2 h4 h=>bE h fun r3 h5 h=>dE h xTh (xXl a0 a1 r1 r2 r3) (oc6 h0 rfl (xBo h2) h3 (xJy h4) (xGG h5) on)) fun h3 h =>
 bE h fun r2 h4 h=>bE h fun r3 h5 h=>dE h xTh (xXm a0 a1 r1 r2 r3) (oc6 h0 rfl (xBo h2) h3 (xEy h4) (xDU h5) on)
theorem xJ8{N q0 q1}(g0:G153 q0)(g1:G171 q1){a0}{a1}{r}(h:xEx N q0 q1 a0 a1=some r):AbC 171 (xCM a0 a1) (xCw r) :=
 AbsCalls.of_reach xTh rfl rfl rfl (Nat.le_of_ble_eq_true rfl) (vDs g0 g1 a0 a1 r h)
theorem xKn{N:Nat}:∀d,G153 (xAL N d).c_spec_l3DrawList∧G171 (xAL N d).c_spec_l3Element2:=by
 intro d
 induction d with
 |zero=>exact⟨fun _ _ _ h=>nE h,fun _ _ _ h=>nE h⟩
 |succ d ih =>
  obtain⟨ih0,ih1⟩:=ih
  exact⟨fun _ _ _ h=>xJ7 (N:=N) ih0 ih1 h,fun _ _ _ h=>xJ8 (N:=N) ih0 ih1 h⟩
theorem xLO{N:Nat}{a0:Cur}{a1:Int}{r:Val × Cur}(h:xI3 N a0 a1=some r):AbC 153 (xDG a0 a1) (xCv r):=(xKn N).1 _ _ r h
noncomputable def I154:Info:= { body:=(Tryz.f154.body).getD .skip,nt:=23,results:= [.cell 2 31],keep:= [0,4,6,8,10,22,1,5,7],live:= [(4, [0,4,6,8,10,1,5,7])],modes:= [(4, [(1, .take,false)]),(6, [(1, .take,false),(6, .take,false)]),(7, [(0, .take,false)])],ext:= [0] }
theorem xU9:FnOk Tryz.prog 154 Tryz.f154 I154:=⟨Tryz.func154,by kernel_rfl,by kernel_rfl,by kernel_rfl,by kernel_rfl⟩
def xQe(x4 x5:Int)(b0:Cur)(b2 b3:Val):St:= [(0, .v false [.ptr 0 0]),(4, .v false [.ptr 2 0]),(6, .v false [.ptr 3 0]),(8, .v false [.int .i64 x4]),(10, .v false [.int .i64 x5]),(1, .v true [.sl .ro .byte (Cur.b b0), .int .i64 (Cur.i b0), .int .i64 (Cur.h b0)]),(5, .v true [.int .i64 (Val.kind b2), .int .i64 (Val.n b2), .int .i64 (Val.step b2), .str (Val.text b2), .sl .own .val (Val.list b2), .sl .own .str (Val.columns b2), .sl .own .row (Val.rows b2)]),(7, .v true [.int .i64 (Val.kind b3), .int .i64 (Val.n b3), .int .i64 (Val.step b3), .str (Val.text b3), .sl .own .val (Val.list b3), .sl .own .str (Val.columns b3), .sl .own .row (Val.rows b3)])]
def xWN(x4 x5:Int)(b0:Cur)(b2 b3:Val)(r1:Int × Cur)(r2:Val):rS 4 I154 (xQe x4 x5 b0 b2 b3) [Y] [xBD r1,xCi r2]=st 4 I154 (xQe x4 (W (x5+1)) r1.2 b2 (Val.mk (Val.kind b3) (Val.n b3) (Val.step b3) (Val.text b3) ((Val.list b3)++ [(Val.re r2)]) (xCN b3) (Val.rows b3))) [xFi x5 x4,AbC 132 (xC3 b0) (xBD r1),xL5 r1 r2,Ln (Val.list b3)+Ln [(Val.re r2)]≤Lim]:=by kernel_rfl
def xWO(x4 x5:Int)(b0:Cur)(b2 b3:Val):rS 4 I154 (xQe x4 x5 b0 b2 b3) [F] []=dn (xEH (b3,b0)) [xHn x5 x4]:=by kernel_rfl
def xWP(a0:Cur)(r1:Int × Cur):rE I154 (xGL a0) [] [xAj r1]=st 4 I154 (xQe r1.1 0 r1.2 (Val.mk 0 0 0 [] [] [] []) (Val.mk 3 0 0 [] [] [] [])) [AbC 67 (xA3 a0 9) (xAj r1)]:=by kernel_rfl
theorem vDc{N:Nat}:∀n x4 x5 b0 b2 b3 r,xDZ N n x4 x5 b0 b2 b3=some r→RS Tryz.f154 I154 4 (xQe x4 x5 b0 b2 b3) (xEH r):=by
 intro n
 induction n with
 |zero=>exact fun _ _ _ _ _ _ h=>nE h
 |succ n ih =>
  exact fun x4 x5 b0 b2 b3 r h =>
   cE h (fun h0 h=>bE h fun r1 h1 h=>bE h fun r2 h2 h=>iE h fun h3 h=>tS xU9 (xWN x4 x5 b0 b2 b3 r1 r2) (oc4 h0 (xEy h1) (xDU h2) h3 on) (ih _ _ _ _ _ _ h)) fun h0 h =>
   dS h xU9 (xWO x4 x5 b0 b2 b3) (oc h0 on)
theorem vDd{N:Nat}:∀a0 r,xH5 N a0=some r→RE Tryz.f154 I154 (xGL a0) (xEH r):=fun a0 r h =>
 bE h fun r1 h0 h=>tE xU9 (xWP a0 r1) (oc (xAB h0) on) (vDc _ _ _ _ _ _ _ h)
theorem xMg{N:Nat}{a0:Cur}{r:Val × Cur}(h:xH5 N  a0=some r):AbC 154 (xGL a0) (xEH r) :=
 AbsCalls.of_reach xU9 rfl rfl rfl (Nat.le_of_ble_eq_true rfl) (vDd a0 r h)
noncomputable def I155:Info:= { body:=(Tryz.f155.body).getD .skip,nt:=8,results:= [.cell 4 31],keep:= [0,2,8,9],live:= [],modes:= [] }
theorem vDI:FnOk Tryz.prog 155 Tryz.f155 I155:=⟨Tryz.func155,by kernel_rfl,by kernel_rfl,by kernel_rfl,by kernel_rfl⟩
def xWQ(a0 a1:Int):rE I155 (xFY a0 a1) [] []=dn (xE5 (Val.mk 4 a0 a1 [] [] [] [])) []:=by kernel_rfl
theorem vDe{N:Nat}:∀a0 a1 r,xIi N a0 a1=some r→RE Tryz.f155 I155 (xFY a0 a1) (xE5 r):=fun a0 a1 r h =>
 dE h vDI (xWQ a0 a1) on
theorem xLi{N:Nat}{a0:Int}{a1:Int}{r:Val}(h:xIi N  a0 a1=some r):AbC 155 (xFY a0 a1) (xE5 r) :=
 AbsCalls.of_reach vDI rfl rfl rfl (Nat.le_of_ble_eq_true rfl) (vDe a0 a1 r h)
noncomputable def I109:Info:= { body:=(Tryz.f109.body).getD .skip,nt:=40,results:= [.cell 2 31],keep:= [0,4,8,10,24,34,42,50,64,1,5],live:= [],modes:= [],ext:= [0] }
theorem xNJ:FnOk Tryz.prog 109 Tryz.f109 I109:=⟨Tryz.func109,by kernel_rfl,by kernel_rfl,by kernel_rfl,by kernel_rfl⟩
abbrev xJ3(v0:Cur)(v1:Int × Cur):Prop:=AbC 67 (xA3 v0 10) (xAj v1)
def xVC(a0:Cur)(r1:Int × Cur)(r2:Int × Cur)(r3:Val):rE I109 (xCD a0) [Y,Y] [xAj r1,xBD r2,xCi r3]=dn (xBj (r3,r2.2)) [xJ3 a0 r1,iY (r1.1==0),iY (r1.1==0),AbC 132 (xC3 r1.2) (xBD r2),xL5 r2 r3]:=by kernel_rfl
abbrev xHa(v0:Int × Cur):Prop:=iN (v0.1==0)
def xVD(a0:Cur)(r1:Int × Cur)(r2:Int × Cur)(r3:Val):rE I109 (xCD a0) [F,Y,Y] [xAj r1,xBD r2,xCi r3]=dn (xBj (r3,r2.2)) [xJ3 a0 r1,xHa r1,iY (r1.1==1),iY (r1.1==1),AbC 132 (xC3 r1.2) (xBD r2),xL5 r2 r3]:=by kernel_rfl
abbrev xHR(v0:Int × Cur):Prop:=iN (v0.1==1)
def xVE(a0:Cur)(r1:Int × Cur)(r2:Int × Cur)(r3:Val):rE I109 (xCD a0) [F,F,Y] [xAj r1,xBD r2,xCi r3]=dn (xBj (r3,r2.2)) [xJ3 a0 r1,xHa r1,xHR r1,iY (r1.1==2),AbC 132 (xC3 r1.2) (xBD r2),xL5 r2 r3]:=by kernel_rfl
abbrev xIM(v0:Int × Cur):Prop:=iN (v0.1==2)
def xVF(a0:Cur)(r1:Int × Cur)(r2:Str × Cur)(r3:Val):rE I109 (xCD a0) [F,F,F,Y] [xAj r1,xD9 r2,xCn r3]=dn (xBj (r3,r2.2)) [xJ3 a0 r1,xHa r1,xHR r1,xIM r1,iY (r1.1==3),AbC 152 (xGh r1.2) (xD9 r2),AbC 98 (xDV r2.1) (xCn r3)]:=by kernel_rfl
abbrev xJ4(v0:Int × Cur):Prop:=iN (v0.1==3)
def xVG(a0:Cur)(r1:Int × Cur)(r2:Val × Cur):rE I109 (xCD a0) [F,F,F,F,Y] [xAj r1,xCv r2]=dn (xBj (r2.1,r2.2)) [xJ3 a0 r1,xHa r1,xHR r1,xIM r1,xJ4 r1,iY (r1.1==4),AbC 153 (xDG r1.2 3) (xCv r2)]:=by kernel_rfl
def xVH(a0:Cur)(r1:Int × Cur)(r2:Val × Cur):rE I109 (xCD a0) [F,F,F,F,F,Y] [xAj r1,xEH r2]=dn (xBj (r2.1,r2.2)) [xJ3 a0 r1,xHa r1,xHR r1,xIM r1,xJ4 r1,iN (r1.1==4),iY (r1.1==5),AbC 154 (xGL r1.2) (xEH r2)]:=by kernel_rfl
def xVI(a0:Cur)(r1:Int × Cur)(r2:Int × Cur)(r3:Int × Cur)(r4:Val):rE I109 (xCD a0) [F,F,F,F,F,F,Y] [xAj r1,xBD r2,xBD r3,xE5 r4]=dn (xBj (r4,r3.2)) [xJ3 a0 r1,xHa r1,xHR r1,xIM r1,xJ4 r1,iN (r1.1==4),iN (r1.1==5),iY (r1.1==6),AbC 132 (xC3 r1.2) (xBD r2),AbC 132 (xC3 r2.2) (xBD r3),AbC 155 (xFY r2.1 r3.1) (xE5 r4)]:=by kernel_rfl
def xVJ(a0:Cur)(r1:Int × Cur)(r2:Int × Cur)(r3:Val):rE I109 (xCD a0) [F,F,F,F,F,F,F,Y] [xAj r1,xAj r2,xAM r3]=dn (xBj (r3,r2.2)) [xJ3 a0 r1,xHa r1,xHR r1,xIM r1,xJ4 r1,iN (r1.1==4),iN (r1.1==5),iN (r1.1==6),iY (r1.1==7),AbC 67 (xA3 r1.2 8) (xAj r2),AbC 36 (xB2 (W (1+r2.1))) (xAM r3)]:=by kernel_rfl
def xVK(a0:Cur)(r1:Int × Cur)(r2:Val × Cur):rE I109 (xCD a0) [F,F,F,F,F,F,F,F] [xAj r1,xCj r2]=dn (xBj (r2.1,r2.2)) [xJ3 a0 r1,xHa r1,xHR r1,xIM r1,xJ4 r1,iN (r1.1==4),iN (r1.1==5),iN (r1.1==6),iN (r1.1==7),AbC 97 (xDX r1.2) (xCj r2)]:=by kernel_rfl
theorem vCN{N:Nat}:∀a0 r,xHd N a0=some r→RE Tryz.f109 I109 (xCD a0) (xBj r):=fun a0 r h =>
 bE h fun r1 h0 h=>cE h (fun h1 h=>bE h fun r2 h3 h=>bE h fun r3 h4 h=>dE h xNJ (xVC a0 r1 r2 r3) (oc5 (xAB h0) h1 h1 (xEy h3) (xDU h4) on)) fun h1 h =>
 cE h (fun h2 h=>bE h fun r2 h4 h=>bE h fun r3 h5 h=>dE h xNJ (xVD a0 r1 r2 r3) (oc6 (xAB h0) h1 h2 h2 (xEy h4) (xDU h5) on)) fun h2 h =>
 cE h (fun h3 h=>bE h fun r2 h4 h=>bE h fun r3 h5 h=>dE h xNJ (xVE a0 r1 r2 r3) (oc6 (xAB h0) h1 h2 h3 (xEy h4) (xDU h5) on)) fun h3 h =>
 cE h (fun h4 h=>bE h fun r2 h5 h=>bE h fun r3 h6 h=>dE h xNJ (xVF a0 r1 r2 r3) (oc7 (xAB h0) h1 h2 h3 h4 (xJy h5) (xGG h6) on)) fun h4 h =>
 cE h (fun h5 h=>bE h fun r2 h6 h=>dE h xNJ (xVG a0 r1 r2) (oc7 (xAB h0) h1 h2 h3 h4 h5 (xLO h6) on)) fun h5 h =>
 cE h (fun h6 h=>bE h fun r2 h7 h=>dE h xNJ (xVH a0 r1 r2) (oc8 (xAB h0) h1 h2 h3 h4 h5 h6 (xMg h7) on)) fun h6 h =>
 cE h (fun h7 h=>bE h fun r2 h8 h=>bE h fun r3 h9 h=>bE h fun r4 h10 h=>dE h xNJ (xVI a0 r1 r2 r3 r4) (oc11 (xAB h0) h1 h2 h3 h4 h5 h6 h7 (xEy h8) (xEy h9) (xLi h10) on)) fun h7 h =>
 cE h (fun h8 h=>bE h fun r2 h9 h=>bE h fun r3 h10 h=>dE h xNJ (xVJ a0 r1 r2 r3) (oc11 (xAB h0) h1 h2 h3 h4 h5 h6 h7 h8 (xAB h9) (xCL h10) on)) fun h8 h =>
 bE h fun r2 h9 h=>dE h xNJ (xVK a0 r1 r2) (oc10 (xAB h0) h1 h2 h3 h4 h5 h6 h7 h8 (xI4 h9) on)
theorem xD8{N:Nat}{a0:Cur}{r:Val × Cur}(h:xHd N  a0=some r):AbC 109 (xCD a0) (xBj r) :=
 AbsCalls.of_reach xNJ rfl rfl rfl (Nat.le_of_ble_eq_true rfl) (vCN a0 r h)
noncomputable def I156:Info:= { body:=(Tryz.f156.body).getD .skip,nt:=6,results:= [.tmp 2],keep:= [0,4,1],live:= [],modes:= [(1, [(1, .cp,true)])],ext:= [0] }
theorem vDJ:FnOk Tryz.prog 156 Tryz.f156 I156:=⟨Tryz.func156,by kernel_rfl,by kernel_rfl,by kernel_rfl,by kernel_rfl⟩
def xWR(a0:Cur)(r1:Str × Cur):rE I156 (xH1 a0) [] [xDh r1]=dn (xG0 (r1.1,r1.2)) [AbC 99 (xFq a0 [[97], [98], [99], [100], [120], [121], [116], [117]]) (xDh r1)]:=by kernel_rfl
theorem vDf{N:Nat}:∀a0 r,xLj N a0=some r→RE Tryz.f156 I156 (xH1 a0) (xG0 r):=fun a0 r h =>
 bE h fun r1 h0 h=>dE h vDJ (xWR a0 r1) (oc (xH0 h0) on)
theorem xOb{N:Nat}{a0:Cur}{r:Str × Cur}(h:xLj N  a0=some r):AbC 156 (xH1 a0) (xG0 r) :=
 AbsCalls.of_reach vDJ rfl rfl rfl (Nat.le_of_ble_eq_true rfl) (vDf a0 r h)
noncomputable def I110:Info:= { body:=(Tryz.f110.body).getD .skip,nt:=10,results:= [.tmp 2],keep:= [0,4,8,1],live:= [],modes:= [(3, [(1, .cp,true)])],ext:= [0] }
theorem xZL:FnOk Tryz.prog 110 Tryz.f110 I110:=⟨Tryz.func110,by kernel_rfl,by kernel_rfl,by kernel_rfl,by kernel_rfl⟩
def xVL(a0:Cur)(r1:Bool × Cur)(r2:Str × Cur):rE I110 (xHD a0) [Y] [xAs r1,xG0 r2]=dn (xGK (r2.1,r2.2)) [AbC 58 (xA4 a0 2) (xAs r1),iY r1.1,AbC 156 (xH1 r1.2) (xG0 r2)]:=by kernel_rfl
def xVM(a0:Cur)(r1:Bool × Cur)(r2:Str × Cur):rE I110 (xHD a0) [F] [xAs r1,xDh r2]=dn (xGK (r2.1,r2.2)) [AbC 58 (xA4 a0 2) (xAs r1),iN r1.1,AbC 99 (xFq r1.2 [[], [49,97], [97,49], [97,98,99,100,101,102,103,104], [97,98,99,100,101,102,103,104,105], [108,101,116], [116,97,98,108,101], [115,117,109], [115,117,109,115], [65], [97,95,98], [108,101,110]]) (xDh r2)]:=by kernel_rfl
theorem vCO{N:Nat}:∀a0 r,xKI N a0=some r→RE Tryz.f110 I110 (xHD a0) (xGK r):=fun a0 r h =>
 bE h fun r1 h0 h=>cE h (fun h1 h=>bE h fun r2 h2 h=>dE h xZL (xVL a0 r1 r2) (oc3 (xBo h0) h1 (xOb h2) on)) fun h1 h =>
 bE h fun r2 h2 h=>dE h xZL (xVM a0 r1 r2) (oc3 (xBo h0) h1 (xH0 h2) on)
theorem xQa{N:Nat}{a0:Cur}{r:Str × Cur}(h:xKI N  a0=some r):AbC 110 (xHD a0) (xGK r) :=
 AbsCalls.of_reach xZL rfl rfl rfl (Nat.le_of_ble_eq_true rfl) (vCO a0 r h)
noncomputable def I68:Info:= { body:=(Tryz.f68.body).getD .skip,nt:=59,results:= [.cell 2 31],keep:= [0,4,6,14,16,28,40,50,68,92,110,1,5,7],live:= [],modes:= [(10, [(1, .take,false),(5, .take,false)]),(12, [(1, .take,false),(8, .take,false)]),(14, [(1, .take,false)]),(17, [(0, .take,false)])],ext:= [0] }
theorem fk68:FnOk Tryz.prog 68 Tryz.f68 I68:=⟨Tryz.func68,by kernel_rfl,by kernel_rfl,by kernel_rfl,by kernel_rfl⟩
abbrev xKt(v0:Cur)(v1:Val × Cur):Prop:=AbC 109 (xCD v0) (xBj v1)
abbrev xKu(v0:Val × Cur)(v1:Int × Cur):Prop:=AbC 67 (xA3 v0.2 16) (xAj v1)
abbrev xKx(v0:Val × Cur):=Val.columns v0.1
def vBx(a0:Cur)(r1:Val × Cur)(r2:Int × Cur):rE I68 (xCY a0) [Y] [xBj r1,xAj r2]=dn (xCu ((Val.mk (Val.kind r1.1) (W ((Val.n r1.1)+1000000000)) (Val.step r1.1) (Val.text r1.1) (Val.list r1.1) (xKx r1) (Val.rows r1.1)),r2.2)) [xKt a0 r1,xKu r1 r2,iY (r2.1==0)]:=by kernel_rfl
def vBy(a0:Cur)(r1:Val × Cur)(r2:Int × Cur):rE I68 (xCY a0) [F,Y] [xBj r1,xAj r2]=dn (xCu ((Val.mk (Val.kind r1.1) (Val.n r1.1) (Val.step r1.1) ((Val.text r1.1)++ [120,34,121]) (Val.list r1.1) (xKx r1) (Val.rows r1.1)),r2.2)) [xKt a0 r1,xKu r1 r2,xHa r2,iY (r2.1==1),Ln (Val.text r1.1)+Ln [120,34,121]≤Lim]:=by kernel_rfl
def vBz(a0:Cur)(r1:Val × Cur)(r2:Int × Cur)(r3:Int × Cur):rE I68 (xCY a0) [F,F,Y] [xBj r1,xAj r2,xAj r3]=dn (xCu ((Val.mk r3.1 (Val.n r1.1) (Val.step r1.1) (Val.text r1.1) (Val.list r1.1) (xKx r1) (Val.rows r1.1)),r3.2)) [xKt a0 r1,xKu r1 r2,xHa r2,xHR r2,iY (r2.1==2),AbC 67 (xA3 r2.2 8) (xAj r3)]:=by kernel_rfl
def vBA(a0:Cur)(r1:Val × Cur)(r2:Int × Cur)(r3:Val × Cur):rE I68 (xCY a0) [F,F,F,Y] [xBj r1,xAj r2,xBj r3]=dn (xCu ((Val.mk (Val.kind r1.1) (Val.n r1.1) (Val.step r1.1) (Val.text r1.1) ((Val.list r1.1)++ [(Val.re r3.1)]) (xKx r1) (Val.rows r1.1)),r3.2)) [xKt a0 r1,xKu r1 r2,xHa r2,xHR r2,xIM r2,iY (r2.1==3),AbC 109 (xCD r2.2) (xBj r3),Ln (Val.list r1.1)+Ln [(Val.re r3.1)]≤Lim]:=by kernel_rfl
def vBB(a0:Cur)(r1:Val × Cur)(r2:Int × Cur):rE I68 (xCY a0) [F,F,F,F,Y] [xBj r1,xAj r2]=dn (xCu ((Val.mk (Val.kind r1.1) (Val.n r1.1) (Val.step r1.1) (Val.text r1.1) (Val.list r1.1) (xKx r1) ((Val.rows r1.1)++ [(Rowd.mk [1] [(Org.mk 2 1),(Org.mk 1 1)])])),r2.2)) [xKt a0 r1,xKu r1 r2,xHa r2,xHR r2,xIM r2,xJ4 r2,iY (r2.1==4),Ln (Val.rows r1.1)+Ln [(Rowd.mk [1] [(Org.mk 2 1),(Org.mk 1 1)])]≤Lim]:=by kernel_rfl
def vBC(a0:Cur)(r1:Val × Cur)(r2:Int × Cur)(r3:Str × Cur):rE I68 (xCY a0) [F,F,F,F,F,Y] [xBj r1,xAj r2,xGK r3]=dn (xCu ((Val.mk (Val.kind r1.1) (Val.n r1.1) (Val.step r1.1) (Val.text r1.1) (Val.list r1.1) ((xKx r1)++ [r3.1]) (Val.rows r1.1)),r3.2)) [xKt a0 r1,xKu r1 r2,xHa r2,xHR r2,xIM r2,xJ4 r2,iN (r2.1==4),iY (r2.1==5),AbC 110 (xHD r2.2) (xGK r3),Ln (xKx r1)+Ln [r3.1]≤Lim]:=by kernel_rfl
def vBD(a0:Cur)(r1:Val × Cur)(r2:Int × Cur):rE I68 (xCY a0) [F,F,F,F,F,F,Y] [xBj r1,xAj r2]=dn (xCu ((Val.mk (Val.kind r1.1) (Val.n r1.1) 7 (Val.text r1.1) (Val.list r1.1) (xKx r1) (Val.rows r1.1)),r2.2)) [xKt a0 r1,xKu r1 r2,xHa r2,xHR r2,xIM r2,xJ4 r2,iN (r2.1==4),iN (r2.1==5),iY (r2.1==6)]:=by kernel_rfl
def vBE(a0:Cur)(r1:Val × Cur)(r2:Int × Cur):rE I68 (xCY a0) [F,F,F,F,F,F,F] [xBj r1,xAj r2]=dn (xCu (r1.1,r2.2)) [xKt a0 r1,xKu r1 r2,xHa r2,xHR r2,xIM r2,xJ4 r2,iN (r2.1==4),iN (r2.1==5),iN (r2.1==6)]:=by kernel_rfl
theorem vER{N:Nat}:∀a0 r,xHc N a0=some r→RE Tryz.f68 I68 (xCY a0) (xCu r):=fun a0 r h =>
 bE h fun r1 h0 h=>bE h fun r2 h1 h=>cE h (fun h2 h=>dE h fk68 (vBx a0 r1 r2) (oc3 (xD8 h0) (xAB h1) h2 on)) fun h2 h =>
 cE h (fun h3 h=>iE h fun h4 h=>dE h fk68 (vBy a0 r1 r2) (oc5 (xD8 h0) (xAB h1) h2 h3 h4 on)) fun h3 h =>
 cE h (fun h4 h=>bE h fun r3 h5 h=>dE h fk68 (vBz a0 r1 r2 r3) (oc6 (xD8 h0) (xAB h1) h2 h3 h4 (xAB h5) on)) fun h4 h =>
 cE h (fun h5 h=>bE h fun r3 h6 h=>iE h fun h7 h=>dE h fk68 (vBA a0 r1 r2 r3) (oc8 (xD8 h0) (xAB h1) h2 h3 h4 h5 (xD8 h6) h7 on)) fun h5 h =>
 cE h (fun h6 h=>iE h fun h7 h=>dE h fk68 (vBB a0 r1 r2) (oc8 (xD8 h0) (xAB h1) h2 h3 h4 h5 h6 h7 on)) fun h6 h =>
 cE h (fun h7 h=>bE h fun r3 h8 h=>iE h fun h9 h=>dE h fk68 (vBC a0 r1 r2 r3) (oc10 (xD8 h0) (xAB h1) h2 h3 h4 h5 h6 h7 (xQa h8) h9 on)) fun h7 h =>
 cE h (fun h8 h=>dE h fk68 (vBD a0 r1 r2) (oc9 (xD8 h0) (xAB h1) h2 h3 h4 h5 h6 h7 h8 on)) fun h8 h =>
 dE h fk68 (vBE a0 r1 r2) (oc9 (xD8 h0) (xAB h1) h2 h3 h4 h5 h6 h7 h8 on)
theorem xKZ{N:Nat}{a0:Cur}{r:Val × Cur}(h:xHc N  a0=some r):AbC 68 (xCY a0) (xCu r) :=
 AbsCalls.of_reach fk68 rfl rfl rfl (Nat.le_of_ble_eq_true rfl) (vER a0 r h)
noncomputable def I57:Info:= { body:=(Tryz.f57.body).getD .skip,nt:=44,results:= [.cell 2 31],keep:= [0,4,6,8,10,24,46,56,80,1,5,7],live:= [(3, [0,4,6,8,1,5,7]),(6, [0,4,6,8,10,1,5,7])],modes:= [(9, [(1, .ref,false),(5, .ref,false)]),(12, [(0, .take,false)])],ext:= [0] }
theorem fk57:FnOk Tryz.prog 57 Tryz.f57 I57:=⟨Tryz.func57,by kernel_rfl,by kernel_rfl,by kernel_rfl,by kernel_rfl⟩
def xRd(x4:Int)(b0:Cur)(b2 b3:Val):St:= [(0, .v false [.ptr 0 0]),(4, .v false [.ptr 2 0]),(6, .v false [.ptr 3 0]),(8, .v false [.int .i64 x4]),(1, .v true [.sl .ro .byte (Cur.b b0), .int .i64 (Cur.i b0), .int .i64 (Cur.h b0)]),(5, .v true [.int .i64 (Val.kind b2), .int .i64 (Val.n b2), .int .i64 (Val.step b2), .str (Val.text b2), .sl .own .val (Val.list b2), .sl .own .str (Val.columns b2), .sl .own .row (Val.rows b2)]),(7, .v true [.int .i64 (Val.kind b3), .int .i64 (Val.n b3), .int .i64 (Val.step b3), .str (Val.text b3), .sl .own .val (Val.list b3), .sl .own .str (Val.columns b3), .sl .own .row (Val.rows b3)])]
def xRe(x4 x5:Int)(b0:Cur)(b2 b3:Val):St:= [(0, .v false [.ptr 0 0]),(4, .v false [.ptr 2 0]),(6, .v false [.ptr 3 0]),(8, .v false [.int .i64 x4]),(10, .v false [.int .i64 x5]),(1, .v true [.sl .ro .byte (Cur.b b0), .int .i64 (Cur.i b0), .int .i64 (Cur.h b0)]),(5, .v true [.int .i64 (Val.kind b2), .int .i64 (Val.n b2), .int .i64 (Val.step b2), .str (Val.text b2), .sl .own .val (Val.list b2), .sl .own .str (Val.columns b2), .sl .own .row (Val.rows b2)]),(7, .v true [.int .i64 (Val.kind b3), .int .i64 (Val.n b3), .int .i64 (Val.step b3), .str (Val.text b3), .sl .own .val (Val.list b3), .sl .own .str (Val.columns b3), .sl .own .row (Val.rows b3)])]
abbrev xSa(v0:Int)(v1:Val)(v2:Int):=dc (v0<(Ln (Rowd.cells (gD (Val.rows v1) (tN v2) rd)):Int))
def vA4(x4 x5:Int)(b0:Cur)(b2 b3:Val)(r1:Bool × Cur)(r2:Int × Cur):rS 6 I57 (xRe x4 x5 b0 b2 b3) [Y,Y] [xAs r1,xAj r2]=st 6 I57 (xRe x4 (W (x5+1)) r2.2 b2 (Val.mk (Val.kind b3) (Val.n b3) (Val.step b3) (Val.text b3) (Val.list b3) (xCN b3) (List.set (Val.rows b3) (tN x4) (Rowd.mk ((fun(z1:List Int)=>List.set z1 (tN x5) r2.1) (xLe b3 x4)) (xJu b3 x4))))) [xCP x4 b3,iY (xSa x5 b3 x4),AbC 58 (xA4 b0 8) (xAs r1),iY (!r1.1),xCP x4 b3,AbC 67 (xA3 r1.2 4) (xAj r2),xIS x5 b3 x4]:=by kernel_rfl
def vA5(x4 x5:Int)(b0:Cur)(b2 b3:Val)(r1:Bool × Cur):rS 6 I57 (xRe x4 x5 b0 b2 b3) [Y,F] [xAs r1]=st 6 I57 (xRe x4 (W (x5+1)) r1.2 b2 b3) [xCP x4 b3,iY (xSa x5 b3 x4),AbC 58 (xA4 b0 8) (xAs r1),iN (!r1.1)]:=by kernel_rfl
def vA6(x4 x5:Int)(b0:Cur)(b2 b3:Val):rS 6 I57 (xRe x4 x5 b0 b2 b3) [F] []=st 3 I57 (xRd (W (x4+1)) b0 b2 b3) [xCP x4 b3,iN (xSa x5 b3 x4)]:=by kernel_rfl
def vA1(x4:Int)(b0:Cur)(b2 b3:Val):rS 3 I57 (xRd x4 b0 b2 b3) [Y] []=st 6 I57 (xRe x4 0 b0 b2 b3) [xIa x4 b3]:=by kernel_rfl
def vA2(x4:Int)(b0:Cur)(b2 b3:Val)(r1:Bool × Cur)(r2:Val × Cur):rS 3 I57 (xRd x4 b0 b2 b3) [F,Y] [xAs r1,xCu r2]=dn (xCW (r2.1,r2.2)) [xLD x4 b3,AbC 58 (xA4 b0 12) (xAs r1),iY r1.1,AbC 68 (xCY r1.2) (xCu r2)]:=by kernel_rfl
def vA3(x4:Int)(b0:Cur)(b2 b3:Val)(r1:Bool × Cur):rS 3 I57 (xRd x4 b0 b2 b3) [F,F] [xAs r1]=dn (xCW (b3,r1.2)) [xLD x4 b3,AbC 58 (xA4 b0 12) (xAs r1),iN r1.1]:=by kernel_rfl
def vA7(a0:Cur)(r1:Val × Cur):rE I57 (xGC a0) [] [xCj r1]=st 3 I57 (xRd 0 r1.2 (Val.mk 0 0 0 [] [] [] []) r1.1) [AbC 97 (xDX a0) (xCj r1)]:=by kernel_rfl
theorem vEE{N:Nat}{k3:Int→Cur→Val→Val→Option (Val × Cur)}(hk3:∀z0 z1 z2 z3 r,k3 z0 z1 z2 z3=some r→RS Tryz.f57 I57 3 (xRd z0 z1 z2 z3) (xCW r)):∀n x4 x5 b0 b2 b3 r,xEh N k3 n x4 x5 b0 b2 b3=some r→RS Tryz.f57 I57 6 (xRe x4 x5 b0 b2 b3) (xCW r):=by
 intro n
 induction n with
 |zero=>exact fun _ _ _ _ _ _ h=>nE h
 |succ n ih =>
  exact fun x4 x5 b0 b2 b3 r h =>
   iE h fun h0 h=>cE h (fun h1 h=>bE h fun r1 h2 h=>cE h (fun h3 h=>bE h fun r2 h5 h=>iE h fun h6 h=>tS fk57 (vA4 x4 x5 b0 b2 b3 r1 r2) (oc7 h0 h1 (xBo h2) h3 h0 (xAB h5) h6 on) (ih _ _ _ _ _ _ h)) fun h3 h =>
   tS fk57 (vA5 x4 x5 b0 b2 b3 r1) (oc4 h0 h1 (xBo h2) h3 on) (ih _ _ _ _ _ _ h)) fun h1 h =>
   tS fk57 (vA6 x4 x5 b0 b2 b3) (oc2 h0 h1 on) (hk3 _ _ _ _ _ h)
theorem vED{N:Nat}:∀n x4 b0 b2 b3 r,xEg N n x4 b0 b2 b3=some r→RS Tryz.f57 I57 3 (xRd x4 b0 b2 b3) (xCW r):=by
 intro n
 induction n with
 |zero=>exact fun _ _ _ _ _ h=>nE h
 |succ n ih =>
  exact fun x4 b0 b2 b3 r h =>
   cE h (fun h0 h=>tS fk57 (vA1 x4 b0 b2 b3) (oc h0 on) (vEE ih _ _ _ _ _ _ _ h)) fun h0 h =>
   bE h fun r1 h1 h=>cE h (fun h2 h=>bE h fun r2 h3 h=>dS h fk57 (vA2 x4 b0 b2 b3 r1 r2) (oc4 h0 (xBo h1) h2 (xKZ h3) on)) fun h2 h =>
   dS h fk57 (vA3 x4 b0 b2 b3 r1) (oc3 h0 (xBo h1) h2 on)
theorem vEF{N:Nat}:∀a0 r,xFJ N a0=some r→RE Tryz.f57 I57 (xGC a0) (xCW r):=fun a0 r h =>
 bE h fun r1 h0 h=>tE fk57 (vA7 a0 r1) (oc (xI4 h0) on) (vED _ _ _ _ _ _ h)
theorem xKF{N:Nat}{a0:Cur}{r:Val × Cur}(h:xFJ N  a0=some r):AbC 57 (xGC a0) (xCW r) :=
 AbsCalls.of_reach fk57 rfl rfl rfl (Nat.le_of_ble_eq_true rfl) (vEF a0 r h)
noncomputable def I59:Info:= { body:=(Tryz.f59.body).getD .skip,nt:=11,results:= [.cell 2 31],keep:= [0,4,8,1,5],live:= [],modes:= [(3, [(1, .cp,true)])],ext:= [0] }
theorem fk59:FnOk Tryz.prog 59 Tryz.f59 I59:=⟨Tryz.func59,by kernel_rfl,by kernel_rfl,by kernel_rfl,by kernel_rfl⟩
def vA9(a0:Cur)(r1:Bool × Cur)(r2:Val × Cur):rE I59 (xGi a0) [Y] [xAs r1,xCu r2]=dn (xEC (r2.1,r2.2)) [AbC 58 (xA4 a0 16) (xAs r1),iY r1.1,AbC 68 (xCY r1.2) (xCu r2)]:=by kernel_rfl
def vBa(a0:Cur)(r1:Bool × Cur)(r2:Str × Cur)(r3:Val):rE I59 (xGi a0) [F] [xAs r1,xDh r2,xCn r3]=dn (xEC (r3,r2.2)) [AbC 58 (xA4 a0 16) (xAs r1),iN r1.1,AbC 99 (xFq r1.2 [[97], [97], [97], [98], [98], [99], [120], [122], []]) (xDh r2),AbC 98 (xDV r2.1) (xCn r3)]:=by kernel_rfl
theorem vEH{N:Nat}:∀a0 r,xGB N a0=some r→RE Tryz.f59 I59 (xGi a0) (xEC r):=fun a0 r h =>
 bE h fun r1 h0 h=>cE h (fun h1 h=>bE h fun r2 h2 h=>dE h fk59 (vA9 a0 r1 r2) (oc3 (xBo h0) h1 (xKZ h2) on)) fun h1 h =>
 bE h fun r2 h2 h=>bE h fun r3 h3 h=>dE h fk59 (vBa a0 r1 r2 r3) (oc4 (xBo h0) h1 (xH0 h2) (xGG h3) on)
theorem xK0{N:Nat}{a0:Cur}{r:Val × Cur}(h:xGB N  a0=some r):AbC 59 (xGi a0) (xEC r) :=
 AbsCalls.of_reach fk59 rfl rfl rfl (Nat.le_of_ble_eq_true rfl) (vEH a0 r h)
noncomputable def I16:Info:= { body:=(Tryz.f16.body).getD .skip,nt:=39,results:= [.cell 2 31, .cell 3 31, .cell 4 31],keep:= [0,4,6,8,10,12,14,16,48,5,7,9,13,15,21],live:= [(5, [4,6,8,10,12,14,16,5,7,9,13,15,21])],modes:= [(5, [(5, .take,false)]),(7, [(1, .ref,false)]),(8, [(2, .take,false),(3, .take,false)])] }
theorem fk16:FnOk Tryz.prog 16 Tryz.f16 I16:=⟨Tryz.func16,by kernel_rfl,by kernel_rfl,by kernel_rfl,by kernel_rfl⟩
def xSL(x8:Int)(b2 b3 b4 b6 b7:Val)(b10:Cur):St:= [(4, .v false [.ptr 2 0]),(6, .v false [.ptr 3 0]),(8, .v false [.ptr 4 0]),(10, .v false [.ptr 10 0]),(12, .v false [.ptr 6 0]),(14, .v false [.ptr 7 0]),(16, .v false [.int .i64 x8]),(5, .v true [.int .i64 (Val.kind b2), .int .i64 (Val.n b2), .int .i64 (Val.step b2), .str (Val.text b2), .sl .own .val (Val.list b2), .sl .own .str (Val.columns b2), .sl .own .row (Val.rows b2)]),(7, .v true [.int .i64 (Val.kind b3), .int .i64 (Val.n b3), .int .i64 (Val.step b3), .str (Val.text b3), .sl .own .val (Val.list b3), .sl .own .str (Val.columns b3), .sl .own .row (Val.rows b3)]),(9, .v true [.int .i64 (Val.kind b4), .int .i64 (Val.n b4), .int .i64 (Val.step b4), .str (Val.text b4), .sl .own .val (Val.list b4), .sl .own .str (Val.columns b4), .sl .own .row (Val.rows b4)]),(13, .v true [.int .i64 (Val.kind b6), .int .i64 (Val.n b6), .int .i64 (Val.step b6), .str (Val.text b6), .sl .own .val (Val.list b6), .sl .own .str (Val.columns b6), .sl .own .row (Val.rows b6)]),(15, .v true [.int .i64 (Val.kind b7), .int .i64 (Val.n b7), .int .i64 (Val.step b7), .str (Val.text b7), .sl .own .val (Val.list b7), .sl .own .str (Val.columns b7), .sl .own .row (Val.rows b7)]),(21, .v true [.sl .ro .byte (Cur.b b10), .int .i64 (Cur.i b10), .int .i64 (Cur.h b10)])]
def xZ6(x8:Int)(b2 b3 b4 b6 b7:Val)(b10:Cur)(r1:Bool × Cur):rS 5 I16 (xSL x8 b2 b3 b4 b6 b7 b10) [Y,Y] [xAs r1]=st 5 I16 (xSL (W (x8+1)) b2 b3 b4 b6 (Val.mk (Val.kind b7) (Val.n b7) (Val.step b7) (Val.text b7) (Val.list b7) (List.set (xCN b7) (tN x8) (gD [[], [100], [101], [102], [103], [104]] (tN x8) Ty.str.dflt)) (Val.rows b7)) r1.2) [iY (dc (x8<(xJt b7))),AbC 58 (xA4 b10 6) (xAs r1),iY (!r1.1),(0:Int)≤x8∧x8<(Ln [[], [100], [101], [102], [103], [104]]),(0:Int)≤x8∧x8<(Ln (xCN b7))]:=by kernel_rfl
def xZ7(x8:Int)(b2 b3 b4 b6 b7:Val)(b10:Cur)(r1:Bool × Cur)(r2:Val × Cur):rS 5 I16 (xSL x8 b2 b3 b4 b6 b7 b10) [Y,F] [xAs r1,xEC r2]=dn (xBa (r2.1,b6,b7)) [iY (dc (x8<(xJt b7))),AbC 58 (xA4 b10 6) (xAs r1),iN (!r1.1),AbC 59 (xGi r1.2) (xEC r2)]:=by kernel_rfl
def xZ8(x8:Int)(b2 b3 b4 b6 b7:Val)(b10:Cur)(r1:Val × Cur):rS 5 I16 (xSL x8 b2 b3 b4 b6 b7 b10) [F,F] [xEC r1]=dn (xBa (r1.1,b6,b7)) [iN (dc (x8<(xJt b7))),iN false,AbC 59 (xGi b10) (xEC r1)]:=by kernel_rfl
def xZ9(a0:List Int)(r1:Cur)(r2:Val × Cur)(r3:Val × Cur):rE I16 (xCK a0) [] [xF1 r1,xCW r2,xCW r3]=st 5 I16 (xSL 1 (Val.mk 0 0 0 [] [] [] []) (Val.mk 0 0 0 [] [] [] []) (Val.mk 0 0 0 [] [] [] []) r2.1 r3.1 r3.2) [AbC 56 (xIr a0) (xF1 r1),AbC 57 (xGC r1) (xCW r2),AbC 57 (xGC r2.2) (xCW r3)]:=by kernel_rfl
theorem vEg{N:Nat}:∀n x8 b2 b3 b4 b6 b7 b10 r,xDD N n x8 b2 b3 b4 b6 b7 b10=some r→RS Tryz.f16 I16 5 (xSL x8 b2 b3 b4 b6 b7 b10) (xBa r):=by
 intro n
 induction n with
 |zero=>exact fun _ _ _ _ _ _ _ _ h=>nE h
 |succ n ih =>
  exact fun x8 b2 b3 b4 b6 b7 b10 r h =>
   cE h (fun h0 h=>bE h fun r1 h1 h=>cE h (fun h2 h=>iE h fun h3 h=>iE h fun h4 h=>tS fk16 (xZ6 x8 b2 b3 b4 b6 b7 b10 r1) (oc5 h0 (xBo h1) h2 h3 h4 on) (ih _ _ _ _ _ _ _ _ h)) fun h2 h =>
   bE h fun r2 h3 h=>dS h fk16 (xZ7 x8 b2 b3 b4 b6 b7 b10 r1 r2) (oc4 h0 (xBo h1) h2 (xK0 h3) on)) fun h0 h =>
   bE h fun r1 h2 h=>dS h fk16 (xZ8 x8 b2 b3 b4 b6 b7 b10 r1) (oc3 h0 rfl (xK0 h2) on)
theorem vEh{N:Nat}:∀a0 r,xFA N a0=some r→RE Tryz.f16 I16 (xCK a0) (xBa r):=fun a0 r h =>
 bE h fun r1 h0 h=>bE h fun r2 h1 h=>bE h fun r3 h2 h=>tE fk16 (xZ9 a0 r1 r2 r3) (oc3 (xP9 h0) (xKF h1) (xKF h2) on) (vEg _ _ _ _ _ _ _ _ _ h)
theorem xEn{N:Nat}{a0:List Int}{r:Val × Val × Val}(h:xFA N  a0=some r):AbC 16 (xCK a0) (xBa r) :=
 AbsCalls.of_reach fk16 rfl rfl rfl (Nat.le_of_ble_eq_true rfl) (vEh a0 r h)
noncomputable def I100:Info:= { body:=(Tryz.f100.body).getD .skip,nt:=26,results:= [.tmp 4],keep:= [0,2,8,10,20,28,50],live:= [(4, [0,2,10])],modes:= [] }
theorem xTc:FnOk Tryz.prog 100 Tryz.f100 I100:=⟨Tryz.func100,by kernel_rfl,by kernel_rfl,by kernel_rfl,by kernel_rfl⟩
def xOf(x0 x1:List Str)(x5:Int):St:= [(0, .v false [.sl .ro .str x0]),(2, .v false [.sl .ro .str x1]),(10, .v false [.int .i64 x5])]
abbrev xT2(v0:List Str)(v1:Int):=((gD v0 (tN v1) Ty.str.dflt):Str)
def xVl(x0 x1:List Str)(x5:Int):rS 4 I100 (xOf x0 x1 x5) [Y,Y] []=dn (xDk false) [xKV x5 x0,xHj x5 x0,xHj x5 x1,iY (!((xT2 x0 x5)==(xIO x1 x5)))]:=by kernel_rfl
def xVm(x0 x1:List Str)(x5:Int):rS 4 I100 (xOf x0 x1 x5) [Y,F] []=st 4 I100 (xOf x0 x1 (W (x5+1))) [xKV x5 x0,xHj x5 x0,xHj x5 x1,iN (!((xT2 x0 x5)==(xIO x1 x5)))]:=by kernel_rfl
def xVn(x0 x1:List Str)(x5:Int):rS 4 I100 (xOf x0 x1 x5) [F] []=dn (xDk true) [xOs x5 x0]:=by kernel_rfl
def xVo(a0 a1:List Str):rE I100 (xGy a0 a1) [Y] []=dn (xDk false) [iY ((Ln a0:Int) != (Ln a1:Int))]:=by kernel_rfl
def xVp(a0 a1:List Str):rE I100 (xGy a0 a1) [F] []=st 4 I100 (xOf a0 a1 0) [iN ((Ln a0:Int) != (Ln a1:Int))]:=by kernel_rfl
theorem vCG{N:Nat}:∀n x0 x1 x5 r,xFE N n x0 x1 x5=some r→RS Tryz.f100 I100 4 (xOf x0 x1 x5) (xDk r):=by
 intro n
 induction n with
 |zero=>exact fun _ _ _ _ h=>nE h
 |succ n ih =>
  exact fun x0 x1 x5 r h =>
   cE h (fun h0 h=>iE h fun h1 h=>iE h fun h2 h=>cE h (fun h3 h=>dS h xTc (xVl x0 x1 x5) (oc4 h0 h1 h2 h3 on)) fun h3 h =>
   tS xTc (xVm x0 x1 x5) (oc4 h0 h1 h2 h3 on) (ih _ _ _ _ h)) fun h0 h =>
   dS h xTc (xVn x0 x1 x5) (oc h0 on)
theorem vCH{N:Nat}:∀a0 a1 r,xIe N a0 a1=some r→RE Tryz.f100 I100 (xGy a0 a1) (xDk r):=fun a0 a1 r h =>
 cE h (fun h0 h=>dE h xTc (xVo a0 a1) (oc h0 on)) fun h0 h =>
 tE xTc (xVp a0 a1) (oc h0 on) (vCG _ _ _ _ _ h)
theorem xI5{N:Nat}{a0:List Str}{a1:List Str}{r:Bool}(h:xIe N  a0 a1=some r):AbC 100 (xGy a0 a1) (xDk r) :=
 AbsCalls.of_reach xTc rfl rfl rfl (Nat.le_of_ble_eq_true rfl) (vCH a0 a1 r h)
noncomputable def I101:Info:= { body:=(Tryz.f101.body).getD .skip,nt:=26,results:= [.tmp 4],keep:= [0,2,8,10,20,28,50],live:= [(4, [0,2,10])],modes:= [] }
theorem xTd:FnOk Tryz.prog 101 Tryz.f101 I101:=⟨Tryz.func101,by kernel_rfl,by kernel_rfl,by kernel_rfl,by kernel_rfl⟩
def xOg(x0 x1:List Int)(x5:Int):St:= [(0, .v false [.sl .ro .int x0]),(2, .v false [.sl .ro .int x1]),(10, .v false [.int .i64 x5])]
abbrev xO6(v0:List Int)(v1:Int)(v2:List Int):=(gD v0 (tN v1) Ty.int.dflt) != (gD v2 (tN v1) Ty.int.dflt)
def xVq(x0 x1:List Int)(x5:Int):rS 4 I101 (xOg x0 x1 x5) [Y,Y] []=dn (xDg false) [xL4 x5 x0,xIR x5 x0,xIR x5 x1,iY (xO6 x0 x5 x1)]:=by kernel_rfl
def xVr(x0 x1:List Int)(x5:Int):rS 4 I101 (xOg x0 x1 x5) [Y,F] []=st 4 I101 (xOg x0 x1 (W (x5+1))) [xL4 x5 x0,xIR x5 x0,xIR x5 x1,iN (xO6 x0 x5 x1)]:=by kernel_rfl
def xVs(x0 x1:List Int)(x5:Int):rS 4 I101 (xOg x0 x1 x5) [F] []=dn (xDg true) [iN (dc (x5<(Ln x0:Int)))]:=by kernel_rfl
def xVt(a0 a1:List Int):rE I101 (xGZ a0 a1) [Y] []=dn (xDg false) [iY ((Ln a0:Int) != (Ln a1:Int))]:=by kernel_rfl
def xVu(a0 a1:List Int):rE I101 (xGZ a0 a1) [F] []=st 4 I101 (xOg a0 a1 0) [iN ((Ln a0:Int) != (Ln a1:Int))]:=by kernel_rfl
theorem vCI{N:Nat}:∀n x0 x1 x5 r,xGd N n x0 x1 x5=some r→RS Tryz.f101 I101 4 (xOg x0 x1 x5) (xDg r):=by
 intro n
 induction n with
 |zero=>exact fun _ _ _ _ h=>nE h
 |succ n ih =>
  exact fun x0 x1 x5 r h =>
   cE h (fun h0 h=>iE h fun h1 h=>iE h fun h2 h=>cE h (fun h3 h=>dS h xTd (xVq x0 x1 x5) (oc4 h0 h1 h2 h3 on)) fun h3 h =>
   tS xTd (xVr x0 x1 x5) (oc4 h0 h1 h2 h3 on) (ih _ _ _ _ h)) fun h0 h =>
   dS h xTd (xVs x0 x1 x5) (oc h0 on)
theorem vCJ{N:Nat}:∀a0 a1 r,xI0 N a0 a1=some r→RE Tryz.f101 I101 (xGZ a0 a1) (xDg r):=fun a0 a1 r h =>
 cE h (fun h0 h=>dE h xTd (xVt a0 a1) (oc h0 on)) fun h0 h =>
 tE xTd (xVu a0 a1) (oc h0 on) (vCI _ _ _ _ _ h)
theorem xHZ{N:Nat}{a0:List Int}{a1:List Int}{r:Bool}(h:xI0 N  a0 a1=some r):AbC 101 (xGZ a0 a1) (xDg r) :=
 AbsCalls.of_reach xTd rfl rfl rfl (Nat.le_of_ble_eq_true rfl) (vCJ a0 a1 r h)
noncomputable def I102:Info:= { body:=(Tryz.f102.body).getD .skip,nt:=26,results:= [.tmp 4],keep:= [0,2,8,10,20,28,50],live:= [(4, [0,2,10])],modes:= [] }
theorem xTe:FnOk Tryz.prog 102 Tryz.f102 I102:=⟨Tryz.func102,by kernel_rfl,by kernel_rfl,by kernel_rfl,by kernel_rfl⟩
def xOh(x0 x1:List Org)(x5:Int):St:= [(0, .v false [.sl .ro .org x0]),(2, .v false [.sl .ro .org x1]),(10, .v false [.int .i64 x5])]
abbrev xUb(v0:List Org)(v1:Int)(v2:List Org):=(((Org.cell (gD v0 (tN v1) Ty.org.dflt)):Int)==(Org.cell (gD v2 (tN v1) Ty.org.dflt)))&&(((Org.row (gD v0 (tN v1) Ty.org.dflt)):Int)==(Org.row (gD v2 (tN v1) Ty.org.dflt)))
def xVv(x0 x1:List Org)(x5:Int):rS 4 I102 (xOh x0 x1 x5) [Y,Y] []=dn (xCE false) [xHk x5 x0,xEX x5 x0,xEX x5 x1,iY (!(xUb x0 x5 x1))]:=by kernel_rfl
def xVw(x0 x1:List Org)(x5:Int):rS 4 I102 (xOh x0 x1 x5) [Y,F] []=st 4 I102 (xOh x0 x1 (W (x5+1))) [xHk x5 x0,xEX x5 x0,xEX x5 x1,iN (!(xUb x0 x5 x1))]:=by kernel_rfl
def xVx(x0 x1:List Org)(x5:Int):rS 4 I102 (xOh x0 x1 x5) [F] []=dn (xCE true) [xKy x5 x0]:=by kernel_rfl
def xVy(a0 a1:List Org):rE I102 (xEI a0 a1) [Y] []=dn (xCE false) [iY ((Ln a0:Int) != (Ln a1:Int))]:=by kernel_rfl
def xVz(a0 a1:List Org):rE I102 (xEI a0 a1) [F] []=st 4 I102 (xOh a0 a1 0) [iN ((Ln a0:Int) != (Ln a1:Int))]:=by kernel_rfl
theorem vCK{N:Nat}:∀n x0 x1 x5 r,xEJ N n x0 x1 x5=some r→RS Tryz.f102 I102 4 (xOh x0 x1 x5) (xCE r):=by
 intro n
 induction n with
 |zero=>exact fun _ _ _ _ h=>nE h
 |succ n ih =>
  exact fun x0 x1 x5 r h =>
   cE h (fun h0 h=>iE h fun h1 h=>iE h fun h2 h=>cE h (fun h3 h=>dS h xTe (xVv x0 x1 x5) (oc4 h0 h1 h2 h3 on)) fun h3 h =>
   tS xTe (xVw x0 x1 x5) (oc4 h0 h1 h2 h3 on) (ih _ _ _ _ h)) fun h0 h =>
   dS h xTe (xVx x0 x1 x5) (oc h0 on)
theorem vCL{N:Nat}:∀a0 a1 r,xG2 N a0 a1=some r→RE Tryz.f102 I102 (xEI a0 a1) (xCE r):=fun a0 a1 r h =>
 cE h (fun h0 h=>dE h xTe (xVy a0 a1) (oc h0 on)) fun h0 h =>
 tE xTe (xVz a0 a1) (oc h0 on) (vCK _ _ _ _ _ h)
theorem xJS{N:Nat}{a0:List Org}{a1:List Org}{r:Bool}(h:xG2 N  a0 a1=some r):AbC 102 (xEI a0 a1) (xCE r) :=
 AbsCalls.of_reach xTe rfl rfl rfl (Nat.le_of_ble_eq_true rfl) (vCL a0 a1 r h)
def G60(q:Val→Val→Bool→Option (Bool)):Prop:=∀a0 a1 a2 r,q a0 a1 a2=some r→AbC 60 (xCk a0 a1 a2) (xBf r)
noncomputable def I60:Info:= { body:=(Tryz.f60.body).getD .skip,nt:=121,results:= [.tmp 6],keep:= [0,2,4,6,8,12,14,16,120,130,160,170,240,7,9],live:= [(4, [4,6,8,14,7,9]),(9, [4,6,8,16,7,9])],modes:= [(1, [(5, .take,false),(12, .take,false),(19, .take,false),(26, .take,false),(35, .take,false),(43, .take,false)]),(11, [(14, .take,false),(16, .take,false)])] }
theorem fk60:FnOk Tryz.prog 60 Tryz.f60 I60:=⟨Tryz.func60,by kernel_rfl,by kernel_rfl,by kernel_rfl,by kernel_rfl⟩
def xSR(x2:Bool)(x7:Int)(b3 b4:Val):St:= [(4, .v false [.bool x2]),(6, .v false [.ptr 3 0]),(8, .v false [.ptr 4 0]),(14, .v false [.int .i64 x7]),(7, .v true [.int .i64 (Val.kind b3), .int .i64 (Val.n b3), .int .i64 (Val.step b3), .str (Val.text b3), .sl .ro .val (Val.list b3), .sl .ro .str (Val.columns b3), .sl .ro .row (Val.rows b3)]),(9, .v true [.int .i64 (Val.kind b4), .int .i64 (Val.n b4), .int .i64 (Val.step b4), .str (Val.text b4), .sl .ro .val (Val.list b4), .sl .ro .str (Val.columns b4), .sl .ro .row (Val.rows b4)])]
def xOy(x2:Bool)(x8:Int)(b3 b4:Val):St:= [(4, .v false [.bool x2]),(6, .v false [.ptr 3 0]),(8, .v false [.ptr 4 0]),(16, .v false [.int .i64 x8]),(7, .v true [.int .i64 (Val.kind b3), .int .i64 (Val.n b3), .int .i64 (Val.step b3), .str (Val.text b3), .sl .ro .val (Val.list b3), .sl .ro .str (Val.columns b3), .sl .ro .row (Val.rows b3)]),(9, .v true [.int .i64 (Val.kind b4), .int .i64 (Val.n b4), .int .i64 (Val.step b4), .str (Val.text b4), .sl .ro .val (Val.list b4), .sl .ro .str (Val.columns b4), .sl .ro .row (Val.rows b4)])]
abbrev xOO(v0:Val)(v1:Int)(v2:Val)(v3:Bool):Prop:=AbC 101 (xGZ (xLe v0 v1) (xLe v2 v1)) (xDg v3)
def vBe(x2:Bool)(x8:Int)(b3 b4:Val)(r1:Bool):rS 9 I60 (xOy x2 x8 b3 b4) [Y,Y,Y] [xDg r1]=dn (xBf false) [xIa x8 b3,xCP x8 b3,xCP x8 b4,xOO b3 x8 b4 r1,iY (!r1),iY true]:=by kernel_rfl
def vBf(x2:Bool)(x8:Int)(b3 b4:Val)(r1 r2:Bool):rS 9 I60 (xOy x2 x8 b3 b4) [Y,F,Y,Y] [xDg r1,xCE r2]=dn (xBf false) [xIa x8 b3,xCP x8 b3,xCP x8 b4,xOO b3 x8 b4 r1,iN (!r1),iY x2,xCP x8 b3,xCP x8 b4,AbC 102 (xEI (xJu b3 x8) (xJu b4 x8)) (xCE r2),iY (!r2)]:=by kernel_rfl
def vBg(x2:Bool)(x8:Int)(b3 b4:Val)(r1 r2:Bool):rS 9 I60 (xOy x2 x8 b3 b4) [Y,F,Y,F] [xDg r1,xCE r2]=st 9 I60 (xOy x2 (W (x8+1)) b3 b4) [xIa x8 b3,xCP x8 b3,xCP x8 b4,xOO b3 x8 b4 r1,iN (!r1),iY x2,xCP x8 b3,xCP x8 b4,AbC 102 (xEI (xJu b3 x8) (xJu b4 x8)) (xCE r2),iN (!r2)]:=by kernel_rfl
def vBh(x2:Bool)(x8:Int)(b3 b4:Val)(r1:Bool):rS 9 I60 (xOy x2 x8 b3 b4) [Y,F,F,F] [xDg r1]=st 9 I60 (xOy x2 (W (x8+1)) b3 b4) [xIa x8 b3,xCP x8 b3,xCP x8 b4,xOO b3 x8 b4 r1,iN (!r1),iN x2,iN false]:=by kernel_rfl
def vBi(x2:Bool)(x8:Int)(b3 b4:Val):rS 9 I60 (xOy x2 x8 b3 b4) [F] []=dn (xBf true) [xLD x8 b3]:=by kernel_rfl
def vBb(x2:Bool)(x7:Int)(b3 b4:Val)(r1:Bool):rS 4 I60 (xSR x2 x7 b3 b4) [Y,Y] [xBf r1]=dn (xBf false) [xOr x7 b3,xKU x7 b3,xKU x7 b4,AbC 60 (xCk (xKw b3 x7) (xKw b4 x7) x2) (xBf r1),iY (!r1)]:=by kernel_rfl
def vBc(x2:Bool)(x7:Int)(b3 b4:Val)(r1:Bool):rS 4 I60 (xSR x2 x7 b3 b4) [Y,F] [xBf r1]=st 4 I60 (xSR x2 (W (x7+1)) b3 b4) [xOr x7 b3,xKU x7 b3,xKU x7 b4,AbC 60 (xCk (xKw b3 x7) (xKw b4 x7) x2) (xBf r1),iN (!r1)]:=by kernel_rfl
def vBd(x2:Bool)(x7:Int)(b3 b4:Val):rS 4 I60 (xSR x2 x7 b3 b4) [F] []=st 9 I60 (xOy x2 0 b3 b4) [xSx x7 b3]:=by kernel_rfl
def vBj(a0 a1:Val)(a2:Bool):rE I60 (xCk a0 a1 a2) [Y,Y,Y,Y,Y,Y,Y] []=dn (xBf false) [iY ((Val.kind a0) != (Val.kind a1)),iY true,iY true,iY true,iY true,iY true,iY true]:=by kernel_rfl
abbrev xLc(v0 v1:Val):Prop:=iN ((Val.kind v0) != (Val.kind v1))
def vBk(a0 a1:Val)(a2:Bool):rE I60 (xCk a0 a1 a2) [F,Y,Y,Y,Y,Y,Y] []=dn (xBf false) [xLc a0 a1,iY ((Val.n a0) != (Val.n a1)),iY true,iY true,iY true,iY true,iY true]:=by kernel_rfl
abbrev xL6(v0 v1:Val):Prop:=iN ((Val.n v0) != (Val.n v1))
def xX8(a0 a1:Val)(a2:Bool):rE I60 (xCk a0 a1 a2) [F,F,Y,Y,Y,Y,Y] []=dn (xBf false) [xLc a0 a1,xL6 a0 a1,iY ((Val.step a0) != (Val.step a1)),iY true,iY true,iY true,iY true]:=by kernel_rfl
abbrev xNg(v0 v1:Val):Prop:=iN ((Val.step v0) != (Val.step v1))
abbrev xT5(v0:Val):=((Val.text v0):Str)
def xX9(a0 a1:Val)(a2:Bool):rE I60 (xCk a0 a1 a2) [F,F,F,Y,Y,Y,Y] []=dn (xBf false) [xLc a0 a1,xL6 a0 a1,xNg a0 a1,iY (!((xT5 a0)==(Val.text a1))),iY true,iY true,iY true]:=by kernel_rfl
abbrev xOP(v0 v1:Val):Prop:=iN (!((xT5 v0)==(Val.text v1)))
def xYa(a0 a1:Val)(a2:Bool):rE I60 (xCk a0 a1 a2) [F,F,F,F,Y,Y,Y] []=dn (xBf false) [xLc a0 a1,xL6 a0 a1,xNg a0 a1,xOP a0 a1,iY ((xIN a0) != (xIN a1)),iY true,iY true]:=by kernel_rfl
abbrev xRI(v0 v1:Val):Prop:=iN ((xIN v0) != (xIN v1))
abbrev xRJ(v0 v1:Val)(v2:Bool):Prop:=AbC 100 (xGy (xCN v0) (xCN v1)) (xDk v2)
def xYb(a0 a1:Val)(a2 r1:Bool):rE I60 (xCk a0 a1 a2) [F,F,F,F,F,Y,Y] [xDk r1]=dn (xBf false) [xLc a0 a1,xL6 a0 a1,xNg a0 a1,xOP a0 a1,xRI a0 a1,xRJ a0 a1 r1,iY (!r1),iY true]:=by kernel_rfl
def xYc(a0 a1:Val)(a2 r1:Bool):rE I60 (xCk a0 a1 a2) [F,F,F,F,F,F,Y] [xDk r1]=dn (xBf false) [xLc a0 a1,xL6 a0 a1,xNg a0 a1,xOP a0 a1,xRI a0 a1,xRJ a0 a1 r1,iN (!r1),iY ((xHb a0) != (xHb a1))]:=by kernel_rfl
def xYd(a0 a1:Val)(a2 r1:Bool):rE I60 (xCk a0 a1 a2) [F,F,F,F,F,F,F] [xDk r1]=st 4 I60 (xSR a2 0 a0 a1) [xLc a0 a1,xL6 a0 a1,xNg a0 a1,xOP a0 a1,xRI a0 a1,xRJ a0 a1 r1,iN (!r1),iN ((xHb a0) != (xHb a1))]:=by kernel_rfl
theorem vEJ{N q0}(g0:G60 q0):∀n x2 x8 b3 b4 r,xEB N q0 n x2 x8 b3 b4=some r→RS Tryz.f60 I60 9 (xOy x2 x8 b3 b4) (xBf r):=by
 intro n
 induction n with
 |zero=>exact fun _ _ _ _ _ h=>nE h
 |succ n ih =>
  exact fun x2 x8 b3 b4 r h =>
   cE h (fun h0 h=>iE h fun h1 h=>iE h fun h2 h=>bE h fun r1 h3 h=>cE h (fun h4 h=>dS h fk60 (vBe x2 x8 b3 b4 r1) (oc6 h0 h1 h2 (xHZ h3) h4 rfl on)) fun h4 h =>
   cE h (fun h5 h=>bE h fun r2 h8 h=>cE h (fun h9 h=>dS h fk60 (vBf x2 x8 b3 b4 r1 r2) (oc10 h0 h1 h2 (xHZ h3) h4 h5 h1 h2 (xJS h8) h9 on)) fun h9 h =>
   tS fk60 (vBg x2 x8 b3 b4 r1 r2) (oc10 h0 h1 h2 (xHZ h3) h4 h5 h1 h2 (xJS h8) h9 on) (ih _ _ _ _ _ h)) fun h5 h =>
   tS fk60 (vBh x2 x8 b3 b4 r1) (oc7 h0 h1 h2 (xHZ h3) h4 h5 rfl on) (ih _ _ _ _ _ h)) fun h0 h =>
   dS h fk60 (vBi x2 x8 b3 b4) (oc h0 on)
theorem vEI{N q0}(g0:G60 q0):∀n x2 x7 b3 b4 r,xGg N q0 n x2 x7 b3 b4=some r→RS Tryz.f60 I60 4 (xSR x2 x7 b3 b4) (xBf r):=by
 intro n
 induction n with
 |zero=>exact fun _ _ _ _ _ h=>nE h
 |succ n ih =>
  exact fun x2 x7 b3 b4 r h =>
   cE h (fun h0 h=>iE h fun h1 h=>iE h fun h2 h=>bE h fun r1 h3 h=>cE h (fun h4 h=>dS h fk60 (vBb x2 x7 b3 b4 r1) (oc5 h0 h1 h2 (g0 _ _ _ _ h3) h4 on)) fun h4 h =>
   tS fk60 (vBc x2 x7 b3 b4 r1) (oc5 h0 h1 h2 (g0 _ _ _ _ h3) h4 on) (ih _ _ _ _ _ h)) fun h0 h =>
   tS fk60 (vBd x2 x7 b3 b4) (oc h0 on) (vEJ g0 _ _ _ _ _ _ h)
theorem vEK{N q0}(g0:G60 q0):∀a0 a1 a2 r,xF9 N q0 a0 a1 a2=some r→RE Tryz.f60 I60 (xCk a0 a1 a2) (xBf r):=fun a0 a1 a2 r h =>
 cE h (fun h0 h=>dE h fk60 (vBj a0 a1 a2) (oc7 h0 rfl rfl rfl rfl rfl rfl on)) fun h0 h =>
 cE h (fun h1 h=>dE h fk60 (vBk a0 a1 a2) (oc7 h0 h1 rfl rfl rfl rfl rfl on)) fun h1 h =>
 cE h (fun h2 h=>dE h fk60 (xX8 a0 a1 a2) (oc7 h0 h1 h2 rfl rfl rfl rfl on)) fun h2 h =>
 cE h (fun h3 h=>dE h fk60 (xX9 a0 a1 a2) (oc7 h0 h1 h2 h3 rfl rfl rfl on)) fun h3 h =>
 cE h (fun h4 h=>dE h fk60 (xYa a0 a1 a2) (oc7 h0 h1 h2 h3 h4 rfl rfl on)) fun h4 h =>
 bE h fun r1 h5 h=>cE h (fun h6 h=>dE h fk60 (xYb a0 a1 a2 r1) (oc8 h0 h1 h2 h3 h4 (xI5 h5) h6 rfl on)) fun h6 h =>
 cE h (fun h7 h=>dE h fk60 (xYc a0 a1 a2 r1) (oc8 h0 h1 h2 h3 h4 (xI5 h5) h6 h7 on)) fun h7 h =>
 tE fk60 (xYd a0 a1 a2 r1) (oc8 h0 h1 h2 h3 h4 (xI5 h5) h6 h7 on) (vEI g0 _ _ _ _ _ _ h)
theorem xLn{N q0}(g0:G60 q0){a0}{a1}{a2}{r}(h:xF9 N q0 a0 a1 a2=some r):AbC 60 (xCk a0 a1 a2) (xBf r) :=
 AbsCalls.of_reach fk60 rfl rfl rfl (Nat.le_of_ble_eq_true rfl) (vEK g0 a0 a1 a2 r h)
theorem xJk{N:Nat}:∀d,G60 (xDj N d)
 |0=>fun _ _ _ _ h=>nE h
 |d+1=>fun _ _ _ _ h=>xLn (N:=N) (xJk d) h
theorem xOd{N:Nat}{a0:Val}{a1:Val}{a2:Bool}{r:Bool}(h:xLm N a0 a1 a2=some r):AbC 60 (xCk a0 a1 a2) (xBf r):=xJk N _ _ _ r h
noncomputable def I17:Info:= { body:=(Tryz.f17.body).getD .skip,nt:=8,results:= [.tmp 4],keep:= [0,2,4,6,8,5,7],live:= [],modes:= [] }
theorem fk17:FnOk Tryz.prog 17 Tryz.f17 I17:=⟨Tryz.func17,by kernel_rfl,by kernel_rfl,by kernel_rfl,by kernel_rfl⟩
def vAa(a0 a1:Val)(r1:Bool):rE I17 (xC9 a0 a1) [] [xBf r1]=dn (xBu r1) [AbC 60 (xCk a0 a1 true) (xBf r1)]:=by kernel_rfl
theorem vEi{N:Nat}:∀a0 a1 r,xE1 N a0 a1=some r→RE Tryz.f17 I17 (xC9 a0 a1) (xBu r):=fun a0 a1 r h =>
 bE h fun r1 h0 h=>dE h fk17 (vAa a0 a1 r1) (oc (xOd h0) on)
theorem xDE{N:Nat}{a0:Val}{a1:Val}{r:Bool}(h:xE1 N  a0 a1=some r):AbC 17 (xC9 a0 a1) (xBu r) :=
 AbsCalls.of_reach fk17 rfl rfl rfl (Nat.le_of_ble_eq_true rfl) (vEi a0 a1 r h)
noncomputable def I62:Info:= { body:=(Tryz.f62.body).getD .skip,nt:=7,results:= [.cell 2 31],keep:= [0,4,5],live:= [],modes:= [] }
theorem fk62:FnOk Tryz.prog 62 Tryz.f62 I62:=⟨Tryz.func62,by kernel_rfl,by kernel_rfl,by kernel_rfl,by kernel_rfl⟩
def vBp(a0:List Org):rE I62 (xHy a0) [] []=dn (xFR (Val.mk 0 0 0 [] [] [] [(Rowd.mk [] a0)])) []:=by kernel_rfl
theorem vEN{N:Nat}:∀a0 r,xJI N a0=some r→RE Tryz.f62 I62 (xHy a0) (xFR r):=fun a0 r h =>
 dE h fk62 (vBp a0) on
theorem xLz{N:Nat}{a0:List Org}{r:Val}(h:xJI N  a0=some r):AbC 62 (xHy a0) (xFR r) :=
 AbsCalls.of_reach fk62 rfl rfl rfl (Nat.le_of_ble_eq_true rfl) (vEN a0 r h)
noncomputable def I19:Info:= { body:=(Tryz.f19.body).getD .skip,nt:=10,results:= [.tmp 4],keep:= [0,2,8],live:= [],modes:= [] }
theorem fk19:FnOk Tryz.prog 19 Tryz.f19 I19:=⟨Tryz.func19,by kernel_rfl,by kernel_rfl,by kernel_rfl,by kernel_rfl⟩
def vAc(a0 a1:List Org)(r1 r2:Val)(r3:Bool):rE I19 (xFQ a0 a1) [] [xFR r1,xFR r2,xBu r3]=dn (xDr r3) [AbC 62 (xHy a0) (xFR r1),AbC 62 (xHy a1) (xFR r2),AbC 17 (xC9 r1 r2) (xBu r3)]:=by kernel_rfl
theorem vEk{N:Nat}:∀a0 a1 r,xDK N a0 a1=some r→RE Tryz.f19 I19 (xFQ a0 a1) (xDr r):=fun a0 a1 r h =>
 bE h fun r1 h0 h=>bE h fun r2 h1 h=>bE h fun r3 h2 h=>dE h fk19 (vAc a0 a1 r1 r2 r3) (oc3 (xLz h0) (xLz h1) (xDE h2) on)
theorem xG9{N:Nat}{a0:List Org}{a1:List Org}{r:Bool}(h:xDK N  a0 a1=some r):AbC 19 (xFQ a0 a1) (xDr r) :=
 AbsCalls.of_reach fk19 rfl rfl rfl (Nat.le_of_ble_eq_true rfl) (vEk a0 a1 r h)
noncomputable def I21:Info:= { body:=(Tryz.f21.body).getD .skip,nt:=26,results:= [.tmp 4],keep:= [0,2,8,10,20,28,50],live:= [(4, [0,2,10])],modes:= [] }
theorem fk21:FnOk Tryz.prog 21 Tryz.f21 I21:=⟨Tryz.func21,by kernel_rfl,by kernel_rfl,by kernel_rfl,by kernel_rfl⟩
def xSM(x0 x1:List Int)(x5:Int):St:= [(0, .v false [.sl .ro .int x0]),(2, .v false [.sl .ro .int x1]),(10, .v false [.int .i64 x5])]
def vAd(x0 x1:List Int)(x5:Int):rS 4 I21 (xSM x0 x1 x5) [Y,Y] []=dn (xDn false) [xL4 x5 x0,xIR x5 x0,xIR x5 x1,iY (xO6 x0 x5 x1)]:=by kernel_rfl
def vAe(x0 x1:List Int)(x5:Int):rS 4 I21 (xSM x0 x1 x5) [Y,F] []=st 4 I21 (xSM x0 x1 (W (x5+1))) [xL4 x5 x0,xIR x5 x0,xIR x5 x1,iN (xO6 x0 x5 x1)]:=by kernel_rfl
def vAf(x0 x1:List Int)(x5:Int):rS 4 I21 (xSM x0 x1 x5) [F] []=dn (xDn true) [iN (dc (x5<(Ln x0:Int)))]:=by kernel_rfl
def vAg(a0 a1:List Int):rE I21 (xF4 a0 a1) [Y] []=dn (xDn false) [iY ((Ln a0:Int) != (Ln a1:Int))]:=by kernel_rfl
def vAh(a0 a1:List Int):rE I21 (xF4 a0 a1) [F] []=st 4 I21 (xSM a0 a1 0) [iN ((Ln a0:Int) != (Ln a1:Int))]:=by kernel_rfl
theorem vEl{N:Nat}:∀n x0 x1 x5 r,xFd N n x0 x1 x5=some r→RS Tryz.f21 I21 4 (xSM x0 x1 x5) (xDn r):=by
 intro n
 induction n with
 |zero=>exact fun _ _ _ _ h=>nE h
 |succ n ih =>
  exact fun x0 x1 x5 r h =>
   cE h (fun h0 h=>iE h fun h1 h=>iE h fun h2 h=>cE h (fun h3 h=>dS h fk21 (vAd x0 x1 x5) (oc4 h0 h1 h2 h3 on)) fun h3 h =>
   tS fk21 (vAe x0 x1 x5) (oc4 h0 h1 h2 h3 on) (ih _ _ _ _ h)) fun h0 h =>
   dS h fk21 (vAf x0 x1 x5) (oc h0 on)
theorem vEm{N:Nat}:∀a0 a1 r,xFP N a0 a1=some r→RE Tryz.f21 I21 (xF4 a0 a1) (xDn r):=fun a0 a1 r h =>
 cE h (fun h0 h=>dE h fk21 (vAg a0 a1) (oc h0 on)) fun h0 h =>
 tE fk21 (vAh a0 a1) (oc h0 on) (vEl _ _ _ _ _ h)
theorem xKd{N:Nat}{a0:List Int}{a1:List Int}{r:Bool}(h:xFP N  a0 a1=some r):AbC 21 (xF4 a0 a1) (xDn r) :=
 AbsCalls.of_reach fk21 rfl rfl rfl (Nat.le_of_ble_eq_true rfl) (vEm a0 a1 r h)
noncomputable def I4:Info:= { body:=(Tryz.f4.body).getD .skip,nt:=133,results:= [.tmp 2],keep:= [0,4,6,8,10,12,14,16,18,20,22,26,60,66,98,112,154,250,7,9,11,13],live:= [(13, [8,10,12,14,16,18,20,9,11,13]),(16, [8,10,12,14,16,18,20,22,9,11,13])],modes:= [(3, [(2, .take,false)]),(4, [(3, .take,true)]),(18, [(6, .take,false),(15, .take,false)]),(19, [(5, .take,false),(28, .take,false)])],casts:= [(13, [(13,4,true),(13,5,true),(13,6,true)])] }
theorem fk4:FnOk Tryz.prog 4 Tryz.f4 I4:=⟨Tryz.func4,by kernel_rfl,by kernel_rfl,by kernel_rfl,by kernel_rfl⟩
def xRc(x7 x8 x9 x10:Int)(b4 b5 b6:Val):St:= [(8, .v false [.ptr 4 0]),(10, .v false [.ptr 5 0]),(12, .v false [.ptr 6 0]),(14, .v false [.int .i64 x7]),(16, .v false [.int .i64 x8]),(18, .v false [.int .i64 x9]),(20, .v false [.int .i64 x10]),(9, .v true [.int .i64 (Val.kind b4), .int .i64 (Val.n b4), .int .i64 (Val.step b4), .str (Val.text b4), .sl .own .val (Val.list b4), .sl .own .str (Val.columns b4), .sl .own .row (Val.rows b4)]),(11, .v true [.int .i64 (Val.kind b5), .int .i64 (Val.n b5), .int .i64 (Val.step b5), .str (Val.text b5), .sl .own .val (Val.list b5), .sl .own .str (Val.columns b5), .sl .own .row (Val.rows b5)]),(13, .v true [.int .i64 (Val.kind b6), .int .i64 (Val.n b6), .int .i64 (Val.step b6), .str (Val.text b6), .sl .ro .val (Val.list b6), .sl .ro .str (Val.columns b6), .sl .ro .row (Val.rows b6)])]
def xNG(x7 x8 x9 x10 x11:Int)(b4 b5 b6:Val):St:= [(8, .v false [.ptr 4 0]),(10, .v false [.ptr 5 0]),(12, .v false [.ptr 6 0]),(14, .v false [.int .i64 x7]),(16, .v false [.int .i64 x8]),(18, .v false [.int .i64 x9]),(20, .v false [.int .i64 x10]),(22, .v false [.int .i64 x11]),(9, .v true [.int .i64 (Val.kind b4), .int .i64 (Val.n b4), .int .i64 (Val.step b4), .str (Val.text b4), .sl .own .val (Val.list b4), .sl .own .str (Val.columns b4), .sl .own .row (Val.rows b4)]),(11, .v true [.int .i64 (Val.kind b5), .int .i64 (Val.n b5), .int .i64 (Val.step b5), .str (Val.text b5), .sl .own .val (Val.list b5), .sl .own .str (Val.columns b5), .sl .own .row (Val.rows b5)]),(13, .v true [.int .i64 (Val.kind b6), .int .i64 (Val.n b6), .int .i64 (Val.step b6), .str (Val.text b6), .sl .ro .val (Val.list b6), .sl .ro .str (Val.columns b6), .sl .ro .row (Val.rows b6)])]
abbrev xUc(v0:Val)(v1 v2:Int)(v3:Val)(v4 v5:Int):=((gD (Rowd.cells (gD (Val.rows v0) (tN v1) rd)) (tN v2) Ty.int.dflt):Int) != (gD (Rowd.cells (gD (Val.rows v3) (tN v4) rd)) (tN v5) Ty.int.dflt)
def vAM(x7 x8 x9 x10 x11:Int)(b4 b5 b6:Val):rS 16 I4 (xNG x7 x8 x9 x10 x11 b4 b5 b6) [Y,Y] []=st 16 I4 (xNG x7 x8 x9 x10 (W (x11+1)) b4 b5 b6) [xIa x11 b5,xCP x10 b4,xIS x7 b4 x10,xCP x11 b5,xIS x8 b5 x11,iY (xUc b4 x10 x7 b5 x11 x8)]:=by kernel_rfl
abbrev xOQ(v0:Val)(v1 v2:Int)(v3:Val)(v4 v5:Int):Prop:=iN (xUc v0 v1 v2 v3 v4 v5)
abbrev xO7(v0:Int)(v1:Val):=dc (v0≥(Ln (Val.rows v1):Int))
def vAN(x7 x8 x9 x10 x11:Int)(b4 b5 b6:Val):rS 16 I4 (xNG x7 x8 x9 x10 x11 b4 b5 b6) [Y,F,Y,Y,Y] []=dn (xCs false) [xIa x11 b5,xCP x10 b4,xIS x7 b4 x10,xCP x11 b5,xIS x8 b5 x11,xOQ b4 x10 x7 b5 x11 x8,iY (xO7 x9 b6),iY true,iY true]:=by kernel_rfl
abbrev xRK(v0:Val)(v1:Int)(v2:Val)(v3:Int)(v4:(List Org)):Prop:=AbC 20 (xFt (xJu v0 v1) (xJu v2 v3)) (xCF v4)
abbrev xRL(v0:Val)(v1:Int)(v2:(List Org))(v3:Bool):Prop:=AbC 19 (xFQ (xJu v0 v1) v2) (xDr v3)
def vAO(x7 x8 x9 x10 x11:Int)(b4 b5 b6:Val)(r1:(List Org))(r2:Bool):rS 16 I4 (xNG x7 x8 x9 x10 x11 b4 b5 b6) [Y,F,F,Y,Y] [xCF r1,xDr r2]=dn (xCs false) [xIa x11 b5,xCP x10 b4,xIS x7 b4 x10,xCP x11 b5,xIS x8 b5 x11,xOQ b4 x10 x7 b5 x11 x8,iN (xO7 x9 b6),xCP x9 b6,xCP x10 b4,xCP x11 b5,xRK b4 x10 b5 x11 r1,xRL b6 x9 r1 r2,iY (!r2),iY true]:=by kernel_rfl
abbrev xTZ(v0 v1:Val)(v2:Int):Prop:=(0:Int)≤(xJt v0)∧(xJt v0)≤(Ln (xLe v1 v2))
abbrev xT0(v0 v1:Val)(v2 v3:Int)(v4:Bool):Prop:=AbC 21 (xF4 (List.take (tN (xJt v0)) (xLe v1 v2)) (xLe v0 v3)) (xDn v4)
def vAP(x7 x8 x9 x10 x11:Int)(b4 b5 b6:Val)(r1:(List Org))(r2 r3:Bool):rS 16 I4 (xNG x7 x8 x9 x10 x11 b4 b5 b6) [Y,F,F,F,Y] [xCF r1,xDr r2,xDn r3]=dn (xCs false) [xIa x11 b5,xCP x10 b4,xIS x7 b4 x10,xCP x11 b5,xIS x8 b5 x11,xOQ b4 x10 x7 b5 x11 x8,iN (xO7 x9 b6),xCP x9 b6,xCP x10 b4,xCP x11 b5,xRK b4 x10 b5 x11 r1,xRL b6 x9 r1 r2,iN (!r2),xCP x9 b6,xTZ b4 b6 x9,xCP x10 b4,xT0 b4 b6 x9 x10 r3,iY (!r3)]:=by kernel_rfl
def vAQ(x7 x8 x9 x10 x11:Int)(b4 b5 b6:Val)(r1:(List Org))(r2 r3:Bool):rS 16 I4 (xNG x7 x8 x9 x10 x11 b4 b5 b6) [Y,F,F,F,F] [xCF r1,xDr r2,xDn r3]=st 16 I4 (xNG x7 x8 (W (x9+1)) x10 (W (x11+1)) b4 b5 b6) [xIa x11 b5,xCP x10 b4,xIS x7 b4 x10,xCP x11 b5,xIS x8 b5 x11,xOQ b4 x10 x7 b5 x11 x8,iN (xO7 x9 b6),xCP x9 b6,xCP x10 b4,xCP x11 b5,xRK b4 x10 b5 x11 r1,xRL b6 x9 r1 r2,iN (!r2),xCP x9 b6,xTZ b4 b6 x9,xCP x10 b4,xT0 b4 b6 x9 x10 r3,iN (!r3)]:=by kernel_rfl
def vAR(x7 x8 x9 x10 x11:Int)(b4 b5 b6:Val):rS 16 I4 (xNG x7 x8 x9 x10 x11 b4 b5 b6) [F] []=st 13 I4 (xRc x7 x8 x9 (W (x10+1)) b4 b5 b6) [xLD x11 b5]:=by kernel_rfl
def vAK(x7 x8 x9 x10:Int)(b4 b5 b6:Val):rS 13 I4 (xRc x7 x8 x9 x10 b4 b5 b6) [Y] []=st 16 I4 (xNG x7 x8 x9 x10 0 b4 b5 b6) [xIa x10 b4]:=by kernel_rfl
def vAL(x7 x8 x9 x10:Int)(b4 b5 b6:Val):rS 13 I4 (xRc x7 x8 x9 x10 b4 b5 b6) [F] []=dn (xCs (x9==(xHb b6))) [xLD x10 b4]:=by kernel_rfl
abbrev xLd(v0:List Int)(v1:Bool):Prop:=AbC 15 (xJY v0) (xEW v1)
def vDU(a0:List Int)(r1:Bool):rE I4 (xD4 a0) [Y] [xEW r1]=dn (xCs true) [xLd a0 r1,iY r1]:=by kernel_rfl
abbrev xL7(v0:Val × Val × Val)(v1:Val):Prop:=AbC 9 (xD5 v0.1 v0.2.1 v0.2.2) (xBJ v1)
abbrev xUd(v0:Val × Bool):=Val.mk (Val.kind v0.1) (Val.n v0.1) (Val.step v0.1) (Val.text v0.1) [] [] []
abbrev xRM(v0:Val × Bool)(v1:Val)(v2:Bool):Prop:=AbC 17 (xC9 (xUd v0) v1) (xBu v2)
abbrev xMe(v0:Val × Val × Val):=xCh v0.1 v0.2.1 v0.2.2
def vDV(a0:List Int)(r1:Bool)(r2:Val × Val × Val)(r3:Val × Bool)(r4:Val)(r5:Bool):rE I4 (xD4 a0) [F,Y] [xEW r1,xBa r2,xER r3,xBJ r4,xBu r5]=dn (xCs false) [xLd a0 r1,iN r1,AbC 16 (xCK a0) (xBa r2),AbC 11 (xMe r2) (xER r3),xL7 r2 r4,xRM r3 r4 r5,iY (!r5)]:=by kernel_rfl
def vAS(a0:List Int)(r1:Bool)(r2:Val × Val × Val)(r3:Val × Bool)(r4:Val)(r5:Bool):rE I4 (xD4 a0) [F,F,Y] [xEW r1,xBa r2,xER r3,xBJ r4,xBu r5]=dn (xCs ((Val.kind r3.1)==6)) [xLd a0 r1,iN r1,AbC 16 (xCK a0) (xBa r2),AbC 11 (xMe r2) (xER r3),xL7 r2 r4,xRM r3 r4 r5,iN (!r5),iY ((Val.kind r3.1) != 5)]:=by kernel_rfl
def vAT(a0:List Int)(r1:Bool)(r2:Val × Val × Val)(r3:Val × Bool)(r4:Val)(r5:Bool)(r6 r7:Int):rE I4 (xD4 a0) [F,F,F] [xEW r1,xBa r2,xER r3,xBJ r4,xBu r5,xAF r6,xAF r7]=st 13 I4 (xRc r6 r7 0 0 r2.2.1 r2.2.2 (xUd r3)) [xLd a0 r1,iN r1,AbC 16 (xCK a0) (xBa r2),AbC 11 (xMe r2) (xER r3),xL7 r2 r4,xRM r3 r4 r5,iN (!r5),iN ((Val.kind r3.1) != 5),AbC 18 (xCT r2.2.1 (Val.text r2.1)) (xAF r6),AbC 18 (xCT r2.2.2 (Val.text r2.1)) (xAF r7)]:=by kernel_rfl
def vAU(a0:List Int)(r1:Bool)(r2:Val × Val × Val)(r3:Val × Bool)(r4:Val)(r5:Bool):rE I4 (xD4 a0) [F,Y] [xEW r1,xBa r2,xEa r3,xBJ r4,xBu r5]=dn (xCs false) [xLd a0 r1,iN r1,AbC 16 (xCK a0) (xBa r2),AbC 11 (xMe r2) (xEa r3),xL7 r2 r4,AbC 17 (xC9 r3.1 r4) (xBu r5),iY (!r5)]:=by kernel_rfl
def vAV(a0:List Int)(r1:Bool)(r2:Val × Val × Val)(r3:Val × Bool)(r4:Val)(r5:Bool):rE I4 (xD4 a0) [F,F,Y] [xEW r1,xBa r2,xEa r3,xBJ r4,xBu r5]=dn (xCs ((Val.kind r3.1)==6)) [xLd a0 r1,iN r1,AbC 16 (xCK a0) (xBa r2),AbC 11 (xMe r2) (xEa r3),xL7 r2 r4,AbC 17 (xC9 r3.1 r4) (xBu r5),iN (!r5),iY ((Val.kind r3.1) != 5)]:=by kernel_rfl
def vAW(a0:List Int)(r1:Bool)(r2:Val × Val × Val)(r3:Val × Bool)(r4:Val)(r5:Bool)(r6 r7:Int):rE I4 (xD4 a0) [F,F,F] [xEW r1,xBa r2,xEa r3,xBJ r4,xBu r5,xAF r6,xAF r7]=st 13 I4 (xRc r6 r7 0 0 r2.2.1 r2.2.2 r3.1) [xLd a0 r1,iN r1,AbC 16 (xCK a0) (xBa r2),AbC 11 (xMe r2) (xEa r3),xL7 r2 r4,AbC 17 (xC9 r3.1 r4) (xBu r5),iN (!r5),iN ((Val.kind r3.1) != 5),AbC 18 (xCT r2.2.1 (Val.text r2.1)) (xAF r6),AbC 18 (xCT r2.2.2 (Val.text r2.1)) (xAF r7)]:=by kernel_rfl
theorem vEA{N:Nat}{k13:Int→Int→Int→Int→Val→Val→Val→Option (Bool)}(hk13:∀z0 z1 z2 z3 z4 z5 z6 r,k13 z0 z1 z2 z3 z4 z5 z6=some r→RS Tryz.f4 I4 13 (xRc z0 z1 z2 z3 z4 z5 z6) (xCs r)):∀n x7 x8 x9 x10 x11 b4 b5 b6 r,xEV N k13 n x7 x8 x9 x10 x11 b4 b5 b6=some r→RS Tryz.f4 I4 16 (xNG x7 x8 x9 x10 x11 b4 b5 b6) (xCs r):=by
 intro n
 induction n with
 |zero=>exact fun _ _ _ _ _ _ _ _ _ h=>nE h
 |succ n ih =>
  exact fun x7 x8 x9 x10 x11 b4 b5 b6 r h =>
   cE h (fun h0 h=>iE h fun h1 h=>iE h fun h2 h=>iE h fun h3 h=>iE h fun h4 h=>cE h (fun h5 h=>tS fk4 (vAM x7 x8 x9 x10 x11 b4 b5 b6) (oc6 h0 h1 h2 h3 h4 h5 on) (ih _ _ _ _ _ _ _ _ _ h)) fun h5 h =>
   cE h (fun h6 h=>dS h fk4 (vAN x7 x8 x9 x10 x11 b4 b5 b6) (oc9 h0 h1 h2 h3 h4 h5 h6 rfl rfl on)) fun h6 h =>
   iE h fun h7 h=>bE h fun r1 h10 h=>bE h fun r2 h11 h=>cE h (fun h12 h=>dS h fk4 (vAO x7 x8 x9 x10 x11 b4 b5 b6 r1 r2) (oc12 h0 h1 h2 h3 h4 h5 h6 h7 h1 h3 (xFu h10) (xG9 h11) (oc2 h12 rfl on))) fun h12 h =>
   iE h fun h14 h=>bE h fun r3 h16 h=>cE h (fun h17 h=>dS h fk4 (vAP x7 x8 x9 x10 x11 b4 b5 b6 r1 r2 r3) (oc12 h0 h1 h2 h3 h4 h5 h6 h7 h1 h3 (xFu h10) (xG9 h11) (oc6 h12 h7 h14 h1 (xKd h16) h17 on))) fun h17 h =>
   tS fk4 (vAQ x7 x8 x9 x10 x11 b4 b5 b6 r1 r2 r3) (oc12 h0 h1 h2 h3 h4 h5 h6 h7 h1 h3 (xFu h10) (xG9 h11) (oc6 h12 h7 h14 h1 (xKd h16) h17 on)) (ih _ _ _ _ _ _ _ _ _ h)) fun h0 h =>
   tS fk4 (vAR x7 x8 x9 x10 x11 b4 b5 b6) (oc h0 on) (hk13 _ _ _ _ _ _ _ _ h)
theorem vDF{N:Nat}:∀n x7 x8 x9 x10 b4 b5 b6 r,xDe N n x7 x8 x9 x10 b4 b5 b6=some r→RS Tryz.f4 I4 13 (xRc x7 x8 x9 x10 b4 b5 b6) (xCs r):=by
 intro n
 induction n with
 |zero=>exact fun _ _ _ _ _ _ _ _ h=>nE h
 |succ n ih =>
  exact fun x7 x8 x9 x10 b4 b5 b6 r h =>
   cE h (fun h0 h=>tS fk4 (vAK x7 x8 x9 x10 b4 b5 b6) (oc h0 on) (vEA ih _ _ _ _ _ _ _ _ _ _ h)) fun h0 h =>
   dS h fk4 (vAL x7 x8 x9 x10 b4 b5 b6) (oc h0 on)
theorem c4_e{N:Nat}:∀a0 r,xII N a0=some r→RE Tryz.f4 I4 (xD4 a0) (xCs r):=fun a0 r h =>
 bE h fun r1 h0 h=>cE h (fun h1 h=>dE h fk4 (vDU a0 r1) (oc2 (xG8 h0) h1 on)) fun h1 h =>
 bE h fun r2 h2 h=>bE h fun r3 h3 h=>cE h (fun h4 h=>iE h fun h5 h=>iE h fun h6 h=>iE h fun h7 h=>bE h fun r4 h8 h=>bE h fun r5 h9 h=>cE h (fun h10 h=>dE h fk4 (vDV a0 r1 r2 r3 r4 r5) (oc7 (xG8 h0) h1 (xEn h2) (xIF (xGb h3) h4 h5 h6 h7) (xGc h8) (xDE h9) h10 on)) fun h10 h =>
 cE h (fun h11 h=>dE h fk4 (vAS a0 r1 r2 r3 r4 r5) (oc8 (xG8 h0) h1 (xEn h2) (xIF (xGb h3) h4 h5 h6 h7) (xGc h8) (xDE h9) h10 h11 on)) fun h11 h =>
 bE h fun r6 h12 h=>bE h fun r7 h13 h=>tE fk4 (vAT a0 r1 r2 r3 r4 r5 r6 r7) (oc10 (xG8 h0) h1 (xEn h2) (xIF (xGb h3) h4 h5 h6 h7) (xGc h8) (xDE h9) h10 h11 (xBt h12) (xBt h13) on) (vDF _ _ _ _ _ _ _ _ _ h)) fun h4 h =>
 bE h fun r4 h5 h=>bE h fun r5 h6 h=>cE h (fun h7 h=>dE h fk4 (vAU a0 r1 r2 r3 r4 r5) (oc7 (xG8 h0) h1 (xEn h2) (xIG (xGb h3) h4) (xGc h5) (xDE h6) h7 on)) fun h7 h =>
 cE h (fun h8 h=>dE h fk4 (vAV a0 r1 r2 r3 r4 r5) (oc8 (xG8 h0) h1 (xEn h2) (xIG (xGb h3) h4) (xGc h5) (xDE h6) h7 h8 on)) fun h8 h =>
 bE h fun r6 h9 h=>bE h fun r7 h10 h=>tE fk4 (vAW a0 r1 r2 r3 r4 r5 r6 r7) (oc10 (xG8 h0) h1 (xEn h2) (xIG (xGb h3) h4) (xGc h5) (xDE h6) h7 h8 (xBt h9) (xBt h10) on) (vDF _ _ _ _ _ _ _ _ _ h)
theorem laws_FnJoin_ok{N:Nat}{a0:List Int}{r:Bool}(h:xII N  a0=some r):AbC 4 (xD4 a0) (xCs r) :=
 AbsCalls.of_reach fk4 rfl rfl rfl (Nat.le_of_ble_eq_true rfl) (c4_e a0 r h)
end Go.Ab.T
end
section
namespace Go.Ab
inductive DK (K:Nat):D→Prop where
 |int {k n} (h:(Lit.int k n).wf=true):DK K (.int k n)
 |bool (b):DK K (.bool b)
 |str {s:Str} (h:s.length≤K):DK K (.str s)
 |sl {sz rows} (h:rows.length≤K) (hr:∀r ∈ rows,∀x ∈ r,DK K x):DK K (.sl sz rows)
theorem DK.mono{K M:Nat}(hKM:K≤M){d:D}(h:DK K d):DK M d:=by
 induction h with
 |int h=>exact .int h
 |bool b=>exact .bool b
 |str h=>exact .str (by omega)
 |sl h _ ih=>exact .sl (by omega) ih
theorem xZC{n:Int}:(Lit.int .i64 n).wf=true↔I64 n:=by
 show(decide (_≤n)&&decide (n≤_))=true↔_
 rw [Bool.and_eq_true,decide_eq_true_eq,decide_eq_true_eq]
 exact Iff.rfl
theorem DK.i64{K:Nat}{n:Int}:DK K (.int .i64 n)↔I64 n:=⟨fun h=>by cases h with |int h=>exact xZC.1 h,fun h=> .int (xZC.2 h)⟩
theorem DK.str_iff{K:Nat}{s:Str}:DK K (.str s)↔s.length≤K:=⟨fun h=>by cases h;assumption, .str⟩
theorem DK.sl_iff{K sz:Nat}{α:Type}{f:α→List D}{xs:List α}:DK K (.sl sz (xs.map f))↔xs.length≤K∧∀x ∈ xs,∀d ∈ f x,DK K d:=by
 constructor
 ·intro h
  cases h with
  |sl h hr=>exact⟨by simpa using h,fun x hx=>hr _ (List.mem_map_of_mem hx)⟩
 ·rintro ⟨h,hr⟩
  refine .sl (by simpa using h) fun r hr' => ?_
  obtain⟨x,hx,rfl⟩:=List.mem_map.1 hr'
  exact hr x hx
def LFit{α:Type}(K:Nat)(p:α→Prop)(l:List α):Prop:=l.length≤K∧∀x ∈ l,p x
def Ty.Fit(K:Nat)(T:Ty)(x:T.den):Prop:=∀d ∈ T.toD x,DK K d
def Org.Fit(o:Org):Prop:=I64 o.cell∧I64 o.row
def Rowd.Fit(K:Nat)(r:Rowd):Prop:=LFit K I64 r.cells∧LFit K Org.Fit r.frm
def Str.Fit(K:Nat)(s:Str):Prop:=s.length≤K
def Val.Fit(K:Nat)(v:Val):Prop:=∀d ∈ Val.toD v,DK K d
def Fil.Fit(K:Nat)(v:Fil):Prop:=Str.Fit K v.name∧I64 v.n
theorem xZm{K:Nat}{r:Rowd}:(∀d ∈ Rowd.toD r,DK K d)↔r.Fit K:=by
 simp only [Rowd.toD,List.mem_cons,List.not_mem_nil,or_false,forall_eq_or_imp,forall_eq,DK.sl_iff,DK.i64,Rowd.Fit,LFit,Org.Fit]
theorem vFc{K:Nat}{r:Fil}:Ty.Fit K .fil r↔r.Fit K:=by
 simp only [Ty.Fit,Ty.toD,List.mem_cons,List.not_mem_nil,or_false,forall_eq_or_imp,forall_eq,DK.str_iff,DK.i64,Fil.Fit,Str.Fit]
theorem Val.fit_iff{K:Nat}{v:Val}:v.Fit K↔I64 v.kind∧I64 v.n∧I64 v.step∧Str.Fit K v.text∧LFit K (Val.Fit K) v.list∧LFit K (Str.Fit K) v.columns∧LFit K (Rowd.Fit K) v.rows:=by
 cases v
 simp only [Val.Fit,Val.toD,Val.toDs_eq,List.mem_cons,List.not_mem_nil,or_false,forall_eq_or_imp,forall_eq,DK.sl_iff,DK.i64,DK.str_iff,Str.Fit,LFit,Val.kind,Val.n,Val.step,Val.text,Val.list,Val.columns,Val.rows,xZm]
theorem xNs{l:List Val}{x:Val}(h:x ∈ l)(k n s:Int)(t:Str)(c:List Str)(r:List Rowd):SizeOf.sizeOf x<SizeOf.sizeOf (Val.mk k n s t l c r):=by
 have:=List.sizeOf_lt_of_mem h
 simp only [Val.mk.sizeOf_spec]
 omega
theorem Val.ind{p:Val→Prop}(h:∀k n s t l c r,(∀x ∈ l,p x)→p (.mk k n s t l c r)):∀v,p v
 | .mk k n s t l c r=>h k n s t l c r fun x hx=>Val.ind h x
termination_by v=>SizeOf.sizeOf v
decreasing_by exact xNs hx k n s t c r
end Go.Ab
end
section
namespace Go.Ab
theorem xGN{α σ ρ:Type}{L:Nat→Int→σ→Option ρ}(x0:List α)(g:List α→σ→ρ)(Inv:Nat→σ→Prop)
 (hnil:∀n s,Inv x0.length s→L (n+1) (x0.length:Nat) s=some (g [] s))
 (hcons:∀i x l s,x0.drop i=x::l→i<x0.length→x0[i]? =some x→Inv i s→
   (∃s',Inv (i+1) s' ∧g (x::l) s=g l s' ∧∀n,L (n+1) (i:Nat) s=L n ((i+1:Nat):Int) s')∨(∀n,L (n+1) (i:Nat) s=some (g (x::l) s))) :
 ∀n i s,Inv i s→i≤x0.length→x0.length<n+i→L n (i:Nat) s=some (g (x0.drop i) s):=by
 intro n
 induction n with
 |zero=>intro i s _ h1 h2;omega
 |succ n ih =>
  intro i s hs hi hn
  cases hd:x0.drop i with
  |nil =>
   have:=xMH hd
   obtain rfl:i=x0.length:=by omega
   exact hnil n s hs
  |cons x l =>
   obtain⟨h1,h2,h3⟩:=xJD hd
   rcases hcons i x l s hd h1 h2 hs with ⟨s',h4,h5,h6⟩ |h
   ·rw [h6,ih (i+1) s' h4 (by omega) (by omega),h3,h5]
   ·exact h n
theorem xBp{α:Type}{xs:List α}{i:Nat}{x:α}(h:xs[i]? =some x)(d:α):xs.getD i d=x:=by simp [List.getD,h]
theorem xAX{i:Nat}{len:Nat}(h:i<len)(hl:len≤9223372036854775807):IntKind.i64.wrap ((i:Int)+1)=((i+1:Nat):Int):=by
 rw [xEo (by omega) (by omega)];omega
section
variable {α:Type} {d:α}
theorem xQk{L:Nat→Int→Option Bool}{x0:List α}(hend:∀n,L (n+1) (x0.length:Nat)=some true)
 (hcons:∀(i:Nat) x n,i<x0.length→x0[i]? =some x→x ∈ x0→L (n+1) (i:Nat)=L n ((i+1:Nat):Int)) {n:Nat} (hn:x0.length<n):L n 0=some true:=by
 have key:=xGN (σ:=Unit) (L:=fun n i _=>L n i) x0 (fun _ _=>true) (fun _ _=>True) (fun n _ _=>hend n)
  (fun i x r s hd hi hx _=> .inl ⟨(),trivial,rfl,fun n=>hcons i x n hi hx (List.mem_of_getElem? hx)⟩) n 0 () trivial (by omega) (by omega)
 exact key
end
end Go.Ab
end
section
namespace Go.Ab
theorem vk(a b c:Int)(t:Str)(l:List Val)(k:List Str)(r:List Rowd):(Val.mk a b c t l k r).kind=a:=rfl
theorem vn(a b c:Int)(t:Str)(l:List Val)(k:List Str)(r:List Rowd):(Val.mk a b c t l k r).n=b:=rfl
theorem vs(a b c:Int)(t:Str)(l:List Val)(k:List Str)(r:List Rowd):(Val.mk a b c t l k r).step=c:=rfl
theorem vt(a b c:Int)(t:Str)(l:List Val)(k:List Str)(r:List Rowd):(Val.mk a b c t l k r).text=t:=rfl
theorem vl(a b c:Int)(t:Str)(l:List Val)(k:List Str)(r:List Rowd):(Val.mk a b c t l k r).list=l:=rfl
theorem vc(a b c:Int)(t:Str)(l:List Val)(k:List Str)(r:List Rowd):(Val.mk a b c t l k r).columns=k:=rfl
theorem vr(a b c:Int)(t:Str)(l:List Val)(k:List Str)(r:List Rowd):(Val.mk a b c t l k r).rows=r:=rfl
theorem ek(a b:Int)(t:Str)(l:List Exp):(Exp.mk a b t l).kind=a:=rfl
theorem en(a b:Int)(t:Str)(l:List Exp):(Exp.mk a b t l).n=b:=rfl
theorem ea(a b:Int)(t:Str)(l:List Exp):(Exp.mk a b t l).args=l:=rfl
theorem xLq(n:Nat):Big fun N=>n<N:=⟨n+1,fun N h=>by omega⟩
end Go.Ab
end
section
namespace Go.Ab
theorem xTp{α:Type}{f g:α→Nat}{l:List α}{a:Nat}(h:∀x ∈ l,f x≤a+a*g x):(l.map f).sum≤a*(l.length+(l.map g).sum):=by
 induction l with
 |nil=>simp
 |cons x l ih =>
  have h1:=h x List.mem_cons_self
  have h2:=ih fun y hy=>h y (List.mem_cons_of_mem _ hy)
  simp only [List.map_cons,List.sum_cons,List.length_cons,Nat.mul_add] at h2 ⊢
  omega
theorem xOF{α:Type}{xs:List α}{i:Nat}(h:i<xs.length)(y d:α):(xs.set i y).getD i d=y:=by simp [List.getD,h]
end Go.Ab
end
section
namespace Go.Ab
def xK7(c:UInt8):Bool:=decide ((c.toNat:Int)≥97)&&decide ((c.toNat:Int)≤122)
def xMX(c:UInt8):Bool:=decide ((c.toNat:Int)≥48)&&decide ((c.toNat:Int)≤57)
def xJf:List UInt8→Bool→Bool
 | [],_=>true
 |x::r,f=>(xK7 x||(!f&&xMX x))&&xJf r false
theorem xNz{N:Nat}{s:Str}(hl:s.length≤9223372036854775807)(hn:s.length<N):xJj N s=some (xJf s true&&decide ((s.length:Int)>0)) :=
 xGN (L:=fun n i _=>xDi N n s i) s (fun l f=>xJf l f&&decide ((s.length:Int)>0)) (fun i f=>f=(i==0)) (fun n _ _=>by simp [xDi,xJf])
  (fun i x l f hd hi hx hf=>by
    have hi' :(i:Int)<(s.length:Int):=by omega
    have hi0:((i:Int)==0)=f:=by rw [hf];cases i <;>simp <;>omega
    by_cases h1:(xK7 x||(!f&&xMX x))=true
    ·refine .inl ⟨false,by simp,by simp [xJf,h1],fun n=> ?_⟩
     simp only [xDi,decide_eq_true hi',cond_true,Int.toNat_natCast,xBp hx,xAX hi hl,hi0]
     rw [if_pos (by omega)]
     unfold xK7 xMX at h1
     by_cases c1:(x.toNat:Int)≥97 <;>by_cases c2:(x.toNat:Int)≤122 <;>by_cases c3:(x.toNat:Int)≥48 <;>by_cases c4:(x.toNat:Int)≤57 <;>cases f <;>
      simp only [c1,c2,c3,c4,decide_true,decide_false,cond_true,cond_false,Bool.not_true,Bool.not_false,Bool.and_true,Bool.and_false,Bool.or_true,Bool.or_false,Bool.false_and,Bool.true_and,Bool.false_or,Bool.false_eq_true] at h1 ⊢
    ·refine .inr fun n=> ?_
     have h1:=Bool.eq_false_iff.2 h1
     simp only [xDi,decide_eq_true hi',cond_true,Int.toNat_natCast,xBp hx,xAX hi hl,hi0,xJf,h1,Bool.false_and]
     rw [if_pos (by omega)]
     unfold xK7 xMX at h1
     by_cases c1:(x.toNat:Int)≥97 <;>by_cases c2:(x.toNat:Int)≤122 <;>by_cases c3:(x.toNat:Int)≥48 <;>by_cases c4:(x.toNat:Int)≤57 <;>cases f <;>
      simp only [c1,c2,c3,c4,decide_true,decide_false,cond_true,cond_false,Bool.not_true,Bool.not_false,Bool.and_true,Bool.and_false,Bool.or_true,Bool.or_false,Bool.false_and,Bool.true_and,Bool.false_or,Bool.true_eq_false] at h1 ⊢) N 0 true rfl (by omega) (by omega)
theorem xHX(N:Nat)(a b c:Int):xGw N a b c=some (decide (b≤a)&&decide (a≤c)):=by
 unfold xGw
 cases h:decide (b≤a) <;>simp
theorem xKD(N:Nat)(a b c:Int):xIZ N a b c=some (decide (b≤a)&&decide (a≤c)):=by
 unfold xIZ
 cases h:decide (b≤a)
 ·rfl
 ·rfl
theorem xNK{N:Nat}{s:Str}(hl:s.length≤9223372036854775807)(hn:s.length<N):xJW N s=some (xJf s true&&(decide ((1:Int)≤s.length)&&decide ((s.length:Int)≤8))) :=
 xGN (L:=fun n i _=>xD2 N n s i) s (fun l f=>xJf l f&&(decide ((1:Int)≤s.length)&&decide ((s.length:Int)≤8))) (fun i f=>f=(i==0)) (fun n _ _=>by simp [xD2,xJf,xHX])
  (fun i x l f hd hi hx hf=>by
    have hi' :(i:Int)<(s.length:Int):=by omega
    have hi0:((i:Int)==0)=f:=by rw [hf];cases i <;>simp <;>omega
    have e1:decide ((x.toNat:Int)<48)= !decide ((x.toNat:Int)≥48):=by by_cases c:(x.toNat:Int)≥48 <;>simp [c] <;>omega
    have e2:decide ((x.toNat:Int)>57)= !decide ((x.toNat:Int)≤57):=by by_cases c:(x.toNat:Int)≤57 <;>simp [c] <;>omega
    by_cases h1:(xK7 x||(!f&&xMX x))=true
    ·refine .inl ⟨false,by simp,by simp [xJf,h1],fun n=> ?_⟩
     simp only [xD2,decide_eq_true hi',cond_true,Int.toNat_natCast,xBp hx,xAX hi hl,hi0,e1,e2]
     rw [if_pos (by omega)]
     unfold xK7 xMX at h1
     by_cases c1:(x.toNat:Int)≥97 <;>by_cases c2:(x.toNat:Int)≤122 <;>by_cases c3:(x.toNat:Int)≥48 <;>by_cases c4:(x.toNat:Int)≤57 <;>cases f <;>
      simp only [c1,c2,c3,c4,decide_true,decide_false,cond_true,cond_false,Bool.not_true,Bool.not_false,Bool.and_true,Bool.and_false,Bool.or_true,Bool.or_false,Bool.false_and,Bool.true_and,Bool.false_or,Bool.false_eq_true] at h1 ⊢
    ·refine .inr fun n=> ?_
     have h1:=Bool.eq_false_iff.2 h1
     simp only [xD2,decide_eq_true hi',cond_true,Int.toNat_natCast,xBp hx,xAX hi hl,hi0,e1,e2,xJf,h1,Bool.false_and]
     rw [if_pos (by omega)]
     unfold xK7 xMX at h1
     by_cases c1:(x.toNat:Int)≥97 <;>by_cases c2:(x.toNat:Int)≤122 <;>by_cases c3:(x.toNat:Int)≥48 <;>by_cases c4:(x.toNat:Int)≤57 <;>cases f <;>
      simp only [c1,c2,c3,c4,decide_true,decide_false,cond_true,cond_false,Bool.not_true,Bool.not_false,Bool.and_true,Bool.and_false,Bool.or_true,Bool.or_false,Bool.false_and,Bool.true_and,Bool.false_or,Bool.true_eq_false] at h1 ⊢) N 0 true rfl (by omega) (by omega)
def xJN:List Str:= [[108,101,116], [105,110], [105,102], [116,104,101,110], [101,108,115,101], [102,111,114], [100,111], [108,101,110], [115,117,109], [116,97,107,101], [115,107,105,112], [114,97,110,103,101], [110,116,104], [119,104,101,114,101], [107,101,101,112], [97,100,100], [103,114,111,117,112], [106,111,105,110], [99,111,108,117,109,110], [114,111,119,115], [99,108,111,99,107], [99,104,97,110,99,101], [102,105,108,101], [116,97,98,108,101]]
theorem xLM{N:Nat}{xs:List Str}{s:Str}(hl:xs.length≤9223372036854775807)(hn:xs.length<N):xJP N xs s=some (xs.any (· ==s)) :=
 xGN (σ:=Unit) (L:=fun n i _=>xF0 N n xs s i) xs (fun l _=>l.any (· ==s)) (fun _ _=>True) (fun n _ _=>by simp [xF0])
  (fun i x l _ hd hi hx _=>by
    have hi' :(i:Int)<(xs.length:Int):=by omega
    cases h1:x==s
    ·refine .inl ⟨(),trivial,by simp [h1],fun n=> ?_⟩
     simp only [xF0,decide_eq_true hi',cond_true,Int.toNat_natCast,xBp hx,h1,cond_false,xAX hi hl]
     rw [if_pos (by omega)]
    ·refine .inr fun n=> ?_
     simp only [xF0,decide_eq_true hi',cond_true,Int.toNat_natCast,xBp hx,h1]
     rw [if_pos (by omega)]
     simp [h1]) N 0 () trivial (by omega) (by omega)
def xKH(s:Str):Bool:=xJN.any (· ==s)
theorem xLK{N:Nat}{s:Str}(hn:24<N):xGx N s=some (xKH s):=by
 unfold xGx xHE
 rw [jS,show([[108,101,116], [105,110], [105,102], [116,104,101,110], [101,108,115,101], [102,111,114], [100,111], [108,101,110], [115,117,109], [116,97,107,101], [115,107,105,112], [114,97,110,103,101], [110,116,104], [119,104,101,114,101], [107,101,101,112], [97,100,100], [103,114,111,117,112], [106,111,105,110], [99,111,108,117,109,110], [114,111,119,115], [99,108,111,99,107], [99,104,97,110,99,101], [102,105,108,101], [116,97,98,108,101]]:List Str)=xJN from rfl,xLM (by decide) hn]
 rfl
theorem xLt(N:Nat)(s:Str):xGu N s=some (xKH s):=by
 by_cases h:s ∈ xJN
 ·have h' :xKH s=true:=List.any_eq_true.2 ⟨s,h,by simp⟩
  rw [h']
  simp only [xJN,List.mem_cons,List.not_mem_nil,or_false] at h
  rcases h with h |h |h |h |h |h |h |h |h |h |h |h |h |h |h |h |h |h |h |h |h |h |h |h <;>subst h <;>rfl
 ·have h' :xKH s=false:=by
   unfold xKH
   rw [List.any_eq_false]
   intro x hx hxs
   exact h (by rw [←eq_of_beq hxs];exact hx)
  rw [h']
  have hne:∀x ∈ xJN,(s==x)=false:=by
   intro x hx
   cases hb:s==x
   ·rfl
   ·exact absurd (by rw [eq_of_beq hb];exact hx) h
  simp only [xJN,List.mem_cons,List.not_mem_nil,or_false,forall_eq_or_imp,forall_eq] at hne
  simp only [xGu,xGm,hne,cond_false,Option.bind_some]
  rfl
def xI8(s:Str):Bool:=xJf s true&&(decide ((1:Int)≤s.length)&&decide ((s.length:Int)≤8))&& !xKH s
theorem xK3{N:Nat}{s:Str}(hl:s.length≤9223372036854775807)(hn:s.length<N):xF3 N s=some (xI8 s):=by
 unfold xF3 xI8
 rw [xNK hl hn,Option.bind_some]
 cases (xJf s true&&(decide ((1:Int)≤s.length)&&decide ((s.length:Int)≤8)))
 ·rfl
 ·rw [xLt];rfl
theorem xLg{N:Nat}{s:Str}(hl:s.length≤9223372036854775807)(hn:s.length<N)(hn2:24<N):xF8 N s=some (xI8 s):=by
 unfold xF8 xI8
 rw [xNz hl hn,Option.bind_some,xLK hn2]
 have:decide ((s.length:Int)>0)=decide ((1:Int)≤s.length):=by by_cases c:(s.length:Int)>0 <;>simp [c] <;>omega
 rw [this]
 cases xJf s true <;>cases decide ((1:Int)≤s.length) <;>cases decide ((s.length:Int)≤8) <;>rfl
end Go.Ab
end
section
namespace Go.Ab
def xJ1(n:Int):Bool:=decide ((-1000000000:Int)≤n)&&decide (n≤1000000000)
theorem xKk(N:Nat)(n:Int):xFo N n=some (xJ1 n):=by simp [xFo,xKD,xJ1]
theorem xKc(N:Nat)(n:Int):xFg N n=some (xJ1 n):=by simp [xFg,xHX,xJ1]
theorem xU3{i len:Nat}(h0:i≠0)(h:i<len)(hl:len≤9223372036854775807):IntKind.i64.wrap ((i:Int) - 1)=((i - 1:Nat):Int):=by
 rw [xEo (by omega) (by omega)];omega
end Go.Ab
end
section
namespace Go.Ab
def cOne{α:Type}(_:α):Nat:=1
def cOrg(_:Org):Nat:=2
def cRow(r:Rowd):Nat:=(r.cells.map cOne).sum+(r.frm.map cOrg).sum
theorem xSi{α:Type}(xs:List α):(xs.map cOne).sum=xs.length:=by
 induction xs with
 |nil=>rfl
 |cons x l ih=>simp only [List.map_cons,List.sum_cons,ih,List.length_cons,cOne];omega
mutual
def Val.cnt:Val→Nat
 | .mk _ _ _ _ l c r=>4+Val.cnts l+(c.map cOne).sum+(r.map cRow).sum
def Val.cnts:List Val→Nat
 | []=>0
 |x::r=>Val.cnt x+Val.cnts r
end
theorem Val.cnts_eq(l:List Val):Val.cnts l=(l.map Val.cnt).sum:=by
 induction l with
 |nil=>rfl
 |cons x l ih=>simp [Val.cnts,ih]
end Go.Ab
end
section
namespace Go.Ab
theorem xZB(v:Val):v.cnt=4+((v.list.map Val.cnt).sum+(v.columns.map cOne).sum+(v.rows.map cRow).sum):=by
 cases v;simp only [Val.cnt,Val.cnts_eq,vl,vc,vr];omega
theorem xCQ{x:Int}(h1: -1000000≤x)(h2:x≤1000000):I64 x:=⟨by omega,by omega⟩
theorem xGn{α:Type}{K:Nat}{p:α→Prop}:LFit K p []:=⟨Nat.zero_le _,fun x hx=>by cases hx⟩
theorem xSn{K:Nat}{a b c:Int}{t:Str}(h1:I64 a)(h2:I64 b)(h3:I64 c)(h4:t.length≤K):(Val.mk a b c t [] [] []).Fit K:=Val.fit_iff.2 ⟨h1,h2,h3,h4,xGn,xGn,xGn⟩
end Go.Ab
end
