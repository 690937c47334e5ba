/- The statement FnExactGroupSum holds: plain functions, certificates, laws. Conditions: none. -/
import Derived.Test.YtchkdijelkdpaaaGreatL2
import Derived.Test.YtchkdijelkdpaaaGreatFnExactGroupSumP0
set_option linter.all false
section
open Go.IntKind (i64)
namespace Go.Ab
open Go.Sort
theorem xOx(N:Nat){x y:Int}{i j:Nat}(s:Int){d:Array Org}(hx:x=i)(hy:y=j)(hi:i<d.size)(hj:j<d.size):
 ∃(i' j' :Nat) (s' :Int),xBV N x y s d.toList=some ((i' :Int),(j' :Int),s',d.toList)/\((i' =i/\j' =j)\/(i' =j/\j' =i)):=by
 subst hx hy;unfold xBV;rw [xFV N rfl rfl hj hi];dsimp only;cases olt d[j]! d[i]! with
 |true=>exact⟨j,i,_,rfl,.inr ⟨rfl,rfl⟩⟩
 |false=>exact⟨i,j,_,rfl,.inl ⟨rfl,rfl⟩⟩
theorem xOi(N:Nat){x y z:Int}{i j k:Nat}(s:Int){d:Array Org}(hx:x=i)(hy:y=j)(hz:z=k)(hi:i<d.size)(hj:j<d.size)(hk:k<d.size):
 ∃(m:Nat) (s' :Int),xBU N x y z s d.toList=some ((m:Int),s',d.toList)/\(m=i\/m=j\/m=k):=by
 unfold xBU;obtain⟨i1,j1,s1,e1,h1⟩:=xOx N s hx hy hi hj;rw [e1];obtain⟨i2,j2,s2,e2,h2⟩:=xOx N s1 (x:=(j1:Int)) (y:=z) rfl hz (by omega) hk;simp only [jS];rw [e2];obtain⟨i3,j3,s3,e3,h3⟩:=xOx N s2 (x:=(i1:Int)) (y:=(i2:Int)) (d:=d) rfl rfl (by omega) (by omega);simp only [jS];rw [e3];exact⟨j3,s3,rfl,by omega⟩
theorem xOh(N:Nat){x:Int}{i:Nat}(s:Int){d:Array Org}(hx:x=i)(h0:0<i)(hi:i+1<d.size)(hs:d.size<1152921504606846976):
 ∃(m:Nat) (s' :Int),xBf N x s d.toList=some ((m:Int),s',d.toList)/\(m=i - 1\/m=i\/m=i+1):=by
 subst hx;unfold xBf;have w1:i64.wrap ((i:Int) - 1)=((i - 1:Nat):Int):=wn _ (by omega) (by omega);have w2:i64.wrap ((i:Int)+1)=((i+1:Nat):Int):=wn _ (by omega) (by omega);rw [w1,w2];obtain⟨m,s1,e1,h1⟩:=xOi N s (x:=((i - 1:Nat):Int)) (y:=(i:Int)) (z:=((i+1:Nat):Int)) (d:=d) rfl rfl rfl (by omega) (by omega) hi;rw [e1];exact⟨m,s1,rfl,h1⟩
theorem xU4(N:Nat){a b:Nat}{d:Array Org}(hab:a+12<b)(hb:b<=d.size)(hs:d.size<1152921504606846976):
 ∃(p:Nat) (h:Int),xCc N (a:Int) (b:Int) d.toList=some ((p:Int),h,d.toList)/\(a<=p/\p<b):=by
 have w1:i64.wrap ((b:Int) - (a:Int))=((b - a:Nat):Int):=wn _ (by omega) (by omega);have t:Int.tdiv ((b - a:Nat):Int) 4=(((b - a) / 4:Nat):Int):=rfl;have w2:i64.wrap (Int.tdiv ((b - a:Nat):Int) 4)=(((b - a) / 4:Nat):Int):=by rw [t];exact wn _ rfl (by omega)
 have q:∀c:Nat,c<=3->i64.wrap ((a:Int)+i64.wrap ((((b - a) / 4:Nat):Int)*(c:Int)))=((a+(b - a) / 4*c:Nat):Int):=by
  intro c hc;have hle:(b - a) / 4*c<=(b - a) / 4*3:=Nat.mul_le_mul_left _ hc;have e:i64.wrap ((((b - a) / 4:Nat):Int)*(c:Int))=(((b - a) / 4*c:Nat):Int):=wn _ (by simp) (by omega);rw [e];exact wn _ (by simp) (by omega)
 have q1:=q 1 (by omega);have q2:=q 2 (by omega);have q3:=q 3 (by omega);have q1:i64.wrap ((a:Int)+i64.wrap ((((b - a) / 4:Nat):Int)*1))=_:=q1;have q2:i64.wrap ((a:Int)+i64.wrap ((((b - a) / 4:Nat):Int)*2))=_:=q2;have q3:i64.wrap ((a:Int)+i64.wrap ((((b - a) / 4:Nat):Int)*3))=_:=q3;unfold xCc;rw [w1,w2,q1,q2,q3];have e8:(decide (((b - a:Nat):Int)>=8))=true:=decide_eq_true (by omega);rw [e8,cond_true];have k1:3<=(b - a) / 4:=by omega
 have k2:(b - a) / 4*4<=b - a:=by omega
 clear q q1 q2 q3 w2 t;generalize (b - a) / 4=q at k1 k2;by_cases h50:b - a>=50
 ·have e50:(decide (((b - a:Nat):Int)>=50))=true:=decide_eq_true (by omega);rw [e50,cond_true];obtain⟨m1,s1,e1,h1⟩:=xOh N 0 (x:=((a+q*1:Nat):Int)) (d:=d) rfl (by omega) (by omega) hs;rw [e1];simp only [jS];obtain⟨m2,s2,e2,h2⟩:=xOh N s1 (x:=((a+q*2:Nat):Int)) (d:=d) rfl (by omega) (by omega) hs;rw [e2];simp only [jS];obtain⟨m3,s3,e3,h3⟩:=xOh N s2 (x:=((a+q*3:Nat):Int)) (d:=d) rfl (by omega) (by omega) hs;rw [e3];simp only [jS];obtain⟨m4,s4,e4,h4⟩:=xOi N s3 (x:=(m1:Int)) (y:=(m2:Int)) (z:=(m3:Int)) (d:=d) rfl rfl rfl (by omega) (by omega) (by omega);rw [e4];simp only [jS];have hm:a<=m4/\m4<b:=by omega
  generalize (s4==(0:Int))=c1;generalize (s4==(12:Int))=c2;cases c1 <;>cases c2 <;>exact⟨m4,_,rfl,hm⟩
 ·have e50:(decide (((b - a:Nat):Int)>=50))=false:=decide_eq_false (by omega);rw [e50,cond_false];obtain⟨m4,s4,e4,h4⟩:=xOi N 0 (x:=((a+q*1:Nat):Int)) (y:=((a+q*2:Nat):Int)) (z:=((a+q*3:Nat):Int)) (d:=d) rfl rfl rfl (by omega) (by omega) (by omega);rw [e4];simp only [jS];have hm:a<=m4/\m4<b:=by omega
  generalize (s4==(0:Int))=c1;generalize (s4==(12:Int))=c2;cases c1 <;>cases c2 <;>exact⟨m4,_,rfl,hm⟩
theorem xM1{x:Int}(h1:0<=x)(h2:x<18446744073709551616):IntKind.u64.wrap x=x:=by
 have:IntKind.u64.wrap x=x % 18446744073709551616:=by
  unfold IntKind.wrap;simp [IntKind.bits,IntKind.signed]
 rw [this];exact Int.emod_eq_of_lt h1 h2
theorem vAE{r y:Int}{m:Nat}(hy:y=m)(hm:m<9223372036854775808):∃o:Nat,andI .u64 r y=(o:Int)/\o<=m:=by
 subst hy;unfold andI;refine⟨(BitVec.ofInt 64 r &&& BitVec.ofInt 64 (m:Int)).toNat,?_,?_⟩
 ·show IntKind.u64.wrap (((BitVec.ofInt 64 r &&& BitVec.ofInt 64 (m:Int)).toNat:Nat):Int)=_;refine xM1 (by omega) ?_;have:=(BitVec.ofInt 64 r &&& BitVec.ofInt 64 (m:Int)).isLt;omega
 ·rw [BitVec.toNat_and];refine Nat.le_trans Nat.and_le_right ?_;rw [BitVec.toNat_ofInt];omega
theorem brk6(N:Nat){a b M:Nat}(hl:12<b - a)(hM:M<=2*(b - a))(hM0:0<M):∀(m idx n:Nat) (st:Int) (d:Array Org),a+(b - a) / 4*2+2 - idx=m->a<=idx->b<=d.size->d.size<1152921504606846976->m<n->
 ∃d',xBb N n (a:Int) ((b - a:Nat):Int) (M:Int) (idx:Int) st d.toList=some d'.toList/\PermIn a b d d' :=by
 intro m
 induction m with
 |zero=>
  intro idx n st d hm hidx hb hs hn;obtain⟨n,rfl⟩:∃m,n=m+1:=⟨n - 1,by omega⟩;have t:Int.tdiv ((b - a:Nat):Int) 4=(((b - a) / 4:Nat):Int):=rfl;have w2:i64.wrap (Int.tdiv ((b - a:Nat):Int) 4)=(((b - a) / 4:Nat):Int):=by rw [t];exact wn _ rfl (by omega)
  have w3:i64.wrap ((((b - a) / 4:Nat):Int)*2)=(((b - a) / 4*2:Nat):Int):=wn _ (by simp) (by omega);have w4:i64.wrap ((a:Int)+(((b - a) / 4*2:Nat):Int))=((a+(b - a) / 4*2:Nat):Int):=wn _ (by simp) (by omega);have w5:i64.wrap (((a+(b - a) / 4*2:Nat):Int)+1)=((a+(b - a) / 4*2+1:Nat):Int):=wn _ (by simp) (by omega);rw [xBb,w2,w3,w4,w5];have e:(decide ((idx:Int)<=((a+(b - a) / 4*2+1:Nat):Int)))=false:=decide_eq_false (by omega);rw [e,cond_false];exact⟨d,rfl,permIn_refl d a b⟩
 |succ m ih=>
  intro idx n st d hm hidx hb hs hn;obtain⟨n,rfl⟩:∃m,n=m+1:=⟨n - 1,by omega⟩;have t:Int.tdiv ((b - a:Nat):Int) 4=(((b - a) / 4:Nat):Int):=rfl;have w2:i64.wrap (Int.tdiv ((b - a:Nat):Int) 4)=(((b - a) / 4:Nat):Int):=by rw [t];exact wn _ rfl (by omega)
  have w3:i64.wrap ((((b - a) / 4:Nat):Int)*2)=(((b - a) / 4*2:Nat):Int):=wn _ (by simp) (by omega);have w4:i64.wrap ((a:Int)+(((b - a) / 4*2:Nat):Int))=((a+(b - a) / 4*2:Nat):Int):=wn _ (by simp) (by omega);have w5:i64.wrap (((a+(b - a) / 4*2:Nat):Int)+1)=((a+(b - a) / 4*2+1:Nat):Int):=wn _ (by simp) (by omega);have w6:IntKind.u64.wrap ((M:Int) - 1)=((M - 1:Nat):Int):=by rw [xM1 (by omega) (by omega)];omega
  have w7:i64.wrap ((idx:Int)+1)=((idx+1:Nat):Int):=wn _ (by omega) (by omega);rw [xBb,w2,w3,w4,w5,w6,w7];have e:(decide ((idx:Int)<=((a+(b - a) / 4*2+1:Nat):Int)))=true:=decide_eq_true (by omega);rw [e,cond_true];cases hx:xFX N st with
  |none=>unfold xFX at hx;cases hx
  |some r=>
   rw [jS];obtain⟨o,ho1,ho2⟩:=vAE (r:=r.1) (y:=((M - 1:Nat):Int)) (m:=M - 1) rfl (by omega);have w8:i64.wrap (andI .u64 r.1 ((M - 1:Nat):Int))=(o:Int):=by rw [ho1];exact wn o rfl (by omega)
   rw [w8];by_cases hc:o>=b - a
   ·have e2:(decide ((o:Int)>=((b - a:Nat):Int)))=true:=decide_eq_true (by omega);have w9:i64.wrap ((o:Int) - ((b - a:Nat):Int))=((o - (b - a):Nat):Int):=wn _ (by omega) (by omega);have w10:i64.wrap ((a:Int)+((o - (b - a):Nat):Int))=((a+(o - (b - a)):Nat):Int):=wn _ (by omega) (by omega);rw [e2,cond_true,w9,w10,xEk N rfl rfl (by omega) (by omega) (by omega)];obtain⟨d',h1,h2⟩:=ih (idx+1) n r.2 (swp d idx (a+(o - (b - a)))) (by omega) (by omega) (by rw [xCy];exact hb) (by rw [xCy];exact hs) (by omega);exact⟨d',h1,permIn_trans _ _ _ a b (swp_permIn d a b idx (a+(o - (b - a))) hidx (by omega) (by omega) (by omega) hb) h2⟩
   ·have e2:(decide ((o:Int)>=((b - a:Nat):Int)))=false:=decide_eq_false (by omega);have w10:i64.wrap ((a:Int)+(o:Int))=((a+o:Nat):Int):=wn _ (by omega) (by omega);rw [e2,cond_false,w10,xEk N rfl rfl (by omega) (by omega) (by omega)];obtain⟨d',h1,h2⟩:=ih (idx+1) n r.2 (swp d idx (a+o)) (by omega) (by omega) (by rw [xCy];exact hb) (by rw [xCy];exact hs) (by omega);exact⟨d',h1,permIn_trans _ _ _ a b (swp_permIn d a b idx (a+o) hidx (by omega) (by omega) (by omega) hb) h2⟩
theorem xRn{x:Nat}(h0:0<x)(h:x<1152921504606846976):0<Lib.bitLen x/\Lib.bitLen x<=60/\2 ^ Lib.bitLen x<=2*x:=by
 obtain⟨h1,h2,h3⟩:=Lib.bitLenAux_bounds 64 x (by omega) (by omega);have h1:1<=Lib.bitLen x:=h1;have h2:2 ^ (Lib.bitLen x - 1)<=x:=h2;refine⟨by omega,Lib.bitLen_le x 60 (by omega) (by omega),?_⟩;obtain⟨k,hk⟩:∃k,Lib.bitLen x=k+1:=⟨Lib.bitLen x - 1,by omega⟩;rw [hk] at h2 ⊢;rw [Nat.add_sub_cancel] at h2;rw [Nat.pow_succ];omega
theorem xUM(N:Nat){l:Nat}(h0:0<l)(h:l<1152921504606846976):∃M:Nat,xFs N (l:Int)=some (M:Int)/\0<M/\M<=2*l:=by
 obtain⟨f1,f2,f3⟩:=xRn h0 h;have w1:IntKind.u64.wrap (l:Int)=(l:Int):=xM1 (by omega) (by omega);have w2:IntKind.u64.wrap ((Lib.bitLen l:Nat):Int)=((Lib.bitLen l:Nat):Int):=xM1 (by omega) (by omega);have hp:(2:Nat) ^ Lib.bitLen l<18446744073709551616:=by omega
 unfold xFs xK3 zFJ;rw [w1,if_pos (by omega),Option.bind_some,Int.toNat_natCast,w2,if_pos (by omega),Int.toNat_natCast];refine⟨2 ^ Lib.bitLen l,?_,Nat.pos_of_ne_zero (by simp),f3⟩;have e:(1:Int)*2 ^ Lib.bitLen l=((2 ^ Lib.bitLen l:Nat):Int):=by simp
 rw [e];generalize (2:Nat) ^ Lib.bitLen l=P at hp;rw [xM1 (by omega) (by omega)]
theorem vER(N:Nat){a b:Nat}{d:Array Org}(hab:a+12<b)(hb:b<=d.size)(hs:d.size<1152921504606846976)(hN:5<N):
 ∃d',xB3 N (a:Int) (b:Int) d.toList=some d'.toList/\PermIn a b d d' :=by
 have w1:i64.wrap ((b:Int) - (a:Int))=((b - a:Nat):Int):=wn _ (by omega) (by omega);have t:Int.tdiv ((b - a:Nat):Int) 4=(((b - a) / 4:Nat):Int):=rfl;have w2:i64.wrap (Int.tdiv ((b - a:Nat):Int) 4)=(((b - a) / 4:Nat):Int):=by rw [t];exact wn _ rfl (by omega)
 have w3:i64.wrap ((((b - a) / 4:Nat):Int)*2)=(((b - a) / 4*2:Nat):Int):=wn _ (by simp) (by omega);have w4:i64.wrap ((a:Int)+(((b - a) / 4*2:Nat):Int))=((a+(b - a) / 4*2:Nat):Int):=wn _ (by simp) (by omega);have w5:i64.wrap (((a+(b - a) / 4*2:Nat):Int) - 1)=((a+(b - a) / 4*2 - 1:Nat):Int):=wn _ (by omega) (by omega);unfold xB3;rw [w1,w2,w3,w4,w5];have e8:(decide (((b - a:Nat):Int)>=8))=true:=decide_eq_true (by omega);obtain⟨M,m1,m2,m3⟩:=xUM N (l:=b - a) (by omega) (by omega);rw [e8,cond_true,m1,Option.bind_some];exact brk6 N (by omega) m3 m2 _ _ N _ d rfl (by omega) hb hs (by omega)
def Sorts(a b:Nat)(d:Array Org)(o:Option (List Org)):Prop:=∃d',o=some d'.toList/\PermIn a b d d' /\SortedIn olt a b d'
theorem Sorts.after{a b:Nat}{d d1:Array Org}{o:Option (List Org)}(h:PermIn a b d d1)(hs:Sorts a b d1 o):Sorts a b d o:=
 hs.elim fun d' ⟨h1,h2,h3⟩=>⟨d',h1,permIn_trans _ _ _ a b h h2,h3⟩
theorem vGh(N:Nat){q:Int->Int->Int->List Org->Option (List Org)}{k:Int->Int->Int->Bool->Bool->List Org->Option (List Org)}{a b p:Nat}(lim x10:Int){d:Array Org}
 (hp1:a<=p) (hp2:p<b) (hb:b<=d.size) (hab:a+12<b) (hs:d.size<1152921504606846976) (hN:d.size<N) (hB:Below olt a b d)
 (hq:∀(a' b' :Nat) (d' :Array Org),b' - a' <b - a->a' <=b' ->b' <=d'.size->d'.size=d.size->Below olt a' b' d' ->Sorts a' b' d' (q (a' :Int) (b' :Int) lim d'.toList))
 (hk:∀(a' b' :Nat) (wb wp:Bool) (d' :Array Org),b' - a' <b - a->a' <=b' ->b' <=d'.size->d'.size=d.size->Below olt a' b' d' ->Sorts a' b' d' (k (a' :Int) (b' :Int) lim wb wp d'.toList)):
 Sorts a b d (xCf N q k (a:Int) (b:Int) lim x10 (p:Int) d.toList):=by
 unfold xCf;rw [vEE N hp1 hp2 hb (by omega) (by omega) hs hN,Option.bind_some];obtain⟨mid,ap,d4,hx⟩:∃mid ap d4,partition olt d a b p=(mid,ap,d4):=⟨_,_,_,rfl⟩;rw [hx];obtain⟨g1,g2,hs4,hBa,hBr,hleft,hright⟩:=round_part xKu (partition_holds olt) hp1 hp2 hb hB hx;dsimp only;have w1:i64.wrap ((mid:Int) - (a:Int))=((mid - a:Nat):Int):=wn _ (by omega) (by omega);have w2:i64.wrap ((b:Int) - (mid:Int))=((b - mid:Nat):Int):=wn _ (by omega) (by omega);have w3:i64.wrap ((mid:Int)+1)=((mid+1:Nat):Int):=wn _ (by omega) (by omega);rw [w1,w2,w3];cases decide (((mid - a:Nat):Int)<((b - mid:Nat):Int)) with
 |true=>
  rw [jT];obtain⟨L,l1,l2,l3⟩:=hq a mid d4 (by omega) g1 (by omega) hs4 hBa;rw [l1,Option.bind_some];obtain⟨hBL,hfin⟩:=hleft L l2 l3;obtain⟨R,r1,r2,r3⟩:=hk (mid+1) b (decide (((mid - a:Nat):Int)>=i64.wrap (Int.tdiv x10 8))) ap L (by omega) (by omega) (by rw [l2.1];omega) (by rw [l2.1];exact hs4) hBL;exact⟨R,r1,hfin R r2 r3⟩
 |false=>
  rw [jF];obtain⟨L,l1,l2,l3⟩:=hq (mid+1) b d4 (by omega) (by omega) (by omega) hs4 hBr;rw [l1,Option.bind_some];obtain⟨hBL,hfin⟩:=hright L l2 l3;obtain⟨R,r1,r2,r3⟩:=hk a mid (decide (((b - mid:Nat):Int)>=i64.wrap (Int.tdiv x10 8))) ap L (by omega) g1 (by rw [l2.1];omega) (by rw [l2.1];exact hs4) hBL;exact⟨R,r1,hfin R r2 r3⟩
theorem vGg(N:Nat){q:Int->Int->Int->List Org->Option (List Org)}{k:Int->Int->Int->Bool->Bool->List Org->Option (List Org)}{a b p:Nat}(lim x10:Int)(wb wp:Bool){d:Array Org}
 (hp1:a<=p) (hp2:p<b) (hb:b<=d.size) (hab:a+12<b) (hs:d.size<1152921504606846976) (hN:d.size<N) (hB:Below olt a b d)
 (hq:∀(a' b' :Nat) (d' :Array Org),b' - a' <b - a->a' <=b' ->b' <=d'.size->d'.size=d.size->Below olt a' b' d' ->Sorts a' b' d' (q (a' :Int) (b' :Int) lim d'.toList))
 (hk:∀(a' b' :Nat) (wb wp:Bool) (d' :Array Org),b' - a' <b - a->a' <=b' ->b' <=d'.size->d'.size=d.size->Below olt a' b' d' ->Sorts a' b' d' (k (a' :Int) (b' :Int) lim wb wp d'.toList)):
 Sorts a b d (xBu N q k (a:Int) (b:Int) lim wb wp x10 (p:Int) d.toList):=by
 unfold xBu;by_cases ha:0<a
 ·have e:(decide ((a:Int)>0))=true:=decide_eq_true (by omega);have w1:i64.wrap ((a:Int) - 1)=((a - 1:Nat):Int):=wn _ (by omega) (by omega);rw [e,cond_true,w1,xFV N rfl rfl (by omega) (by omega)];dsimp only;cases hl:olt d[a - 1]! d[p]! with
  |true=>rw [Bool.not_true,cond_false];exact vGh N lim x10 hp1 hp2 hb hab hs hN hB hq hk
  |false=>
   rw [Bool.not_false,cond_true,xWe N hp1 hp2 hb (by omega) (by omega) hs hN,Option.bind_some];obtain⟨mid,d4,hx⟩:∃mid d4,partitionEqual olt d a b p=(mid,d4):=⟨_,_,rfl⟩;rw [hx];obtain⟨g1,g2,hs4,hB4,hfin⟩:=round_eq xKu (partitionEqual_holds olt) ha hp1 hp2 hb hB hl hx;obtain⟨R,r1,r2,r3⟩:=hk mid b wb wp d4 (by omega) g2 (by omega) hs4 hB4;exact⟨R,r1,hfin R r2 r3⟩
 ·have e:(decide ((a:Int)>0))=false:=decide_eq_false (by omega);rw [e,cond_false];exact vGh N lim x10 hp1 hp2 hb hab hs hN hB hq hk
theorem vGf(N:Nat){q:Int->Int->Int->List Org->Option (List Org)}{k:Int->Int->Int->Bool->Bool->List Org->Option (List Org)}{a b p:Nat}(lim x10 x12:Int)(wb wp:Bool){d:Array Org}
 (hp1:a<=p) (hp2:p<b) (hb:b<=d.size) (hab:a+12<b) (hs:d.size<1152921504606846976) (hN:d.size+10<N) (hB:Below olt a b d)
 (hq:∀(a' b' :Nat) (d' :Array Org),b' - a' <b - a->a' <=b' ->b' <=d'.size->d'.size=d.size->Below olt a' b' d' ->Sorts a' b' d' (q (a' :Int) (b' :Int) lim d'.toList))
 (hk:∀(a' b' :Nat) (wb wp:Bool) (d' :Array Org),b' - a' <b - a->a' <=b' ->b' <=d'.size->d'.size=d.size->Below olt a' b' d' ->Sorts a' b' d' (k (a' :Int) (b' :Int) lim wb wp d'.toList)):
 Sorts a b d (xCe N q k (a:Int) (b:Int) lim wb wp x10 (p:Int) x12 d.toList):=by
 have go:=vGg N lim x10 wb wp hp1 hp2 hb hab hs (by omega) hB hq hk;unfold xCe;cases wb with
 |false=>exact go
 |true=>
  cases wp with
  |false=>exact go
  |true=>
   simp only [jT];cases (x12:Int)==1 with
   |false=>exact go
   |true=>
    rw [jT,vEG N (by omega) hb (by omega) hs hN,Option.bind_some];obtain⟨i1,i2⟩:=partialInsertionSort_holds xKu d a b (by omega) hb hB;dsimp only;cases hc:(partialInsertionSort olt d a b).2 with
    |true=>exact⟨_,rfl,i1,i2 hc⟩
    |false=>
     rw [jF];refine Sorts.after i1 ?_;exact vGg N lim x10 true true hp1 hp2 (by rw [i1.1];exact hb) hab (by rw [i1.1];exact hs) (by rw [i1.1];omega) (hB.perm hb i1) (fun a' b' d' g1 g2 g3 g4=>hq a' b' d' g1 g2 g3 (g4.trans i1.1)) (fun a' b' wb wp d' g1 g2 g3 g4=>hk a' b' wb wp d' g1 g2 g3 (g4.trans i1.1))
theorem vGe(N:Nat){q:Int->Int->Int->List Org->Option (List Org)}{k:Int->Int->Int->Bool->Bool->List Org->Option (List Org)}{a b:Nat}(lim x10:Int)(wb wp:Bool){d:Array Org}
 (hb:b<=d.size) (hab:a+12<b) (hs:d.size<1152921504606846976) (hN:d.size+10<N) (hB:Below olt a b d)
 (hq:∀(a' b' :Nat) (d' :Array Org),b' - a' <b - a->a' <=b' ->b' <=d'.size->d'.size=d.size->Below olt a' b' d' ->Sorts a' b' d' (q (a' :Int) (b' :Int) lim d'.toList))
 (hk:∀(a' b' :Nat) (wb wp:Bool) (d' :Array Org),b' - a' <b - a->a' <=b' ->b' <=d'.size->d'.size=d.size->Below olt a' b' d' ->Sorts a' b' d' (k (a' :Int) (b' :Int) lim wb wp d'.toList)):
 Sorts a b d (xCd N q k (a:Int) (b:Int) lim wb wp x10 d.toList):=by
 unfold xCd;obtain⟨p,h,e,hp1,hp2⟩:=xU4 N hab hb hs;rw [e,Option.bind_some];dsimp only;cases h==(2:Int) with
 |false=>rw [jF];exact vGf N lim x10 h wb wp hp1 hp2 hb hab hs hN hB hq hk
 |true=>
  have i1:=reverseRange_holds d a b (by omega) hb;have w1:i64.wrap ((b:Int) - 1)=((b - 1:Nat):Int):=wn _ (by omega) (by omega);have w2:i64.wrap ((p:Int) - (a:Int))=((p - a:Nat):Int):=wn _ (by omega) (by omega);have w3:i64.wrap (((b - 1:Nat):Int) - ((p - a:Nat):Int))=((b - 1 - (p - a):Nat):Int):=wn _ (by omega) (by omega);rw [jT,vGj N (by omega) hb (by omega) hs (by omega),Option.bind_some,w1,w2,w3];refine Sorts.after i1 ?_;exact vGf N lim x10 1 wb wp (by omega) (by omega) (by rw [i1.1];exact hb) hab (by rw [i1.1];exact hs) (by rw [i1.1];omega) (hB.perm hb i1) (fun a' b' d' g1 g2 g3 g4=>hq a' b' d' g1 g2 g3 (g4.trans i1.1)) (fun a' b' wb wp d' g1 g2 g3 g4=>hk a' b' wb wp d' g1 g2 g3 (g4.trans i1.1))
theorem pdq3(N:Nat):∀(m a b n dep:Nat) (lim:Int) (wb wp:Bool) (d:Array Org),b - a=m->a<=b->b<=d.size->2<=d.size->d.size<1152921504606846976->m<n->m<=dep->d.size+10<N->Below olt a b d->
 Sorts a b d (xBA N (xBv N dep) n (a:Int) (b:Int) lim wb wp d.toList):=by
 intro m
 induction m using Nat.strongRecOn with
 |_ m ih=>
  intro a b n dep lim wb wp d hm hab hb h2 hs hn hdep hN hB;obtain⟨n,rfl⟩:∃m,n=m+1:=⟨n - 1,by omega⟩;have w1:i64.wrap ((b:Int) - (a:Int))=((b - a:Nat):Int):=wn _ (by omega) (by omega);rw [xBA,w1];by_cases h12:b - a<=12
  ·have e:(decide (((b - a:Nat):Int)<=12))=true:=decide_eq_true (by omega);rw [e,cond_true,vFT N hab hb h2 hs (by omega),Option.bind_some];exact⟨_,rfl,insertionSort_holds xKu d a b hab hb⟩
  ·have e:(decide (((b - a:Nat):Int)<=12))=false:=decide_eq_false (by omega);rw [e,cond_false];cases (lim==(0:Int)) with
   |true=>
    rw [jT,vAQ N (by omega) hb h2 hs (by omega),Option.bind_some];exact⟨_,rfl,heapSort_holds xKu d a b hab hb⟩
   |false=>
    rw [jF];have hq:∀(lim:Int) (a' b' :Nat) (d' :Array Org),b' - a' <b - a->a' <=b' ->b' <=d'.size->d'.size=d.size->Below olt a' b' d' ->Sorts a' b' d' (xBv N dep (a' :Int) (b' :Int) lim d'.toList):=by
     intro lim a' b' d' g1 g2 g3 g4 g5;obtain⟨dep,rfl⟩:∃m,dep=m+1:=⟨dep - 1,by omega⟩;rw [xBv];exact ih (b' - a') (by omega) a' b' N dep lim true true d' rfl g2 g3 (by omega) (by omega) (by omega) (by omega) (by omega) g5
    have hk:∀(lim:Int) (a' b' :Nat) (wb wp:Bool) (d' :Array Org),b' - a' <b - a->a' <=b' ->b' <=d'.size->d'.size=d.size->Below olt a' b' d' ->Sorts a' b' d' (xBA N (xBv N dep) n (a' :Int) (b' :Int) lim wb wp d'.toList):=
     fun lim a' b' wb wp d' g1 g2 g3 g4 g5=>ih (b' - a') (by omega) a' b' n dep lim wb wp d' rfl g2 g3 (by omega) (by omega) (by omega) (by omega) (by omega) g5
    cases wb with
    |true=>exact vGe N lim _ true wp hb (by omega) hs hN hB (hq lim) (hk lim)
    |false=>
     obtain⟨d1,e1,i1⟩:=vER N (a:=a) (b:=b) (d:=d) (by omega) hb hs (by omega);rw [Bool.not_false,cond_true,e1,Option.bind_some];refine Sorts.after i1 ?_
     exact vGe N _ _ false wp (by rw [i1.1];exact hb) (by omega) (by rw [i1.1];exact hs) (by rw [i1.1];exact hN) (hB.perm hb i1)
      (fun a' b' d' g1 g2 g3 g4=>hq _ a' b' d' g1 g2 g3 (g4.trans i1.1)) (fun a' b' wb wp d' g1 g2 g3 g4=>hk _ a' b' wb wp d' g1 g2 g3 (g4.trans i1.1))
theorem xWf{xs:List Org}(h2:2<=xs.length)(hs:xs.length<1152921504606846976)(lim:Int):
 xD3 (xs.length+11) 0 (xs.length:Int) lim xs=some (xs.mergeSort fun x y=> !olt y x):=by
 have h:=pdq3 (xs.length+11) xs.length 0 xs.length (xs.length+11) (xs.length+10) lim true true xs.toArray rfl (Nat.zero_le _) (by simp) (by simpa using h2) (by simpa using hs) (by omega) (by omega) (by simp) (.inl rfl);obtain⟨d',e,h1,h3⟩:=h;have hu:=sorted_unique_holds (lt:=olt) xKu xQh xs.toArray d' (by simpa using h1) (by simpa using h3);rw [show xD3 (xs.length+11) 0 (xs.length:Int) lim xs=_ from e,hu]
end Go.Ab
end
section
namespace Go.Ab
open Go.Proofs Go.RowKit Go.Shelf
theorem orgT:OrgT Tryz.prog 80 3 78 4 43:=⟨Tryz.underlying80,by kernel_rfl,Tryz.underlying3,Tryz.underlying78,Tryz.zeroValue4,Tryz.underlying43⟩
theorem vH0:(Tryz.prog.info? 80).map (fun i=>(i.zero,i.size,i.bytes))=some (some (.agg #[.int .i64 0,.int .i64 0]),2,16):=by kernel_rfl
set_option maxRecDepth 100000 in
set_option maxHeartbeats 4000000 in
theorem xUQ [Inhabited Lb](srt:List Org->List Org)(hsl:∀l,(srt l).length=l.length)(xs ys:List Org)(u v:Value)(w:World)(hu:RowIn w u xs)(hv:RowIn w v ys)(hlen:xs.length+ys.length<=1000000000000)
 (hsort:∀(W:World) (g cap:Nat) (zs:List Org),zs.length<=1000000000000->Below w.heap.size w W->w.heap.size<=g->w.heap.size+1+1≠g->W.heap[w.heap.size+1+1]? =some (.cells #[.slice (some ⟨g,0,none⟩) zs.length cap] 43 (0,0))->OrgRow W g cap zs->
   Calls Tryz.prog 63 #[.iface 43 (.slice (some ⟨g,0,none⟩) zs.length cap),.func (.func 64) #[] #[.pointer (some ⟨w.heap.size+1+1,0,none⟩)]] W fun en W' =>en= .returned (.tuple #[])/\Sorted W (w.heap.size+1+1) g cap zs (srt zs) W'):
 Calls Tryz.prog 20 #[u,v] w fun e w' =>∃br cap,e= .returned (.slice (some ⟨br,0,none⟩) (srt (ded (xs++ys))).length cap)/\Below w.heap.size w w' /\w.heap.size<=br/\OrgRow w' br cap (srt (ded (xs++ys))):=by
 obtain⟨i0,hi,hz0,hz1,hz2⟩:=info_parts vH0;have hmm:= @run_makeMap Tryz.prog
 go_enter Tryz.func20,Tryz.ntmps20
 go_wp2_with (first
  |(at_builtin;refine xJb _ orgT rfl _ _ rfl i0 hi hz0 hz1 hz2 rfl (w.heap.size+1+1+1) 0 [] rfl (set4 w _ _ _ 80) u rfl xs (hu.below (xU2 w _ _ _ _)) (by simp;omega) ?_;intro g1 c1 w1 r1 gr1 e1)
  |(at_builtin;refine xJb _ orgT rfl _ _ rfl i0 hi hz0 hz1 hz2 rfl g1 c1 ([]++xs) rfl r1 v rfl ys (hv.below (Below.grown (xU2 w _ _ _ _) gr1 (by simp;omega) (fun k hk=>by cases hk;omega))) (by simpa using hlen) ?_;intro g2 c2 w2 r2 gr2 e2))
 have hst:=URel.start r2 gr1 e1 gr2 e2;have hl2:(xs++ys).length=xs.length+ys.length:=List.length_append;clear r1 gr1 e1 r2 gr2 e2 hu hv
 go_loopw [17] (fun i wr=>∃k g cap:Nat,k<=xs.length+ys.length/\i= .int .i64 k/\URel w 80 43 w.heap.size w2.heap.size g2 c2 (xs++ys) k g cap wr) (fun i _=>xs.length+ys.length - (RowKit.intOf i).toNat)
 case atStart=>exact⟨0,_,_,Nat.zero_le _,rfl,hst⟩
 case round=>
  obtain⟨k,g,cap,hk,rfl,hr⟩:=hrel;clear hst;by_cases hlt:k<xs.length+ys.length
  ·obtain⟨c,hc⟩:∃c,(xs++ys)[k]'(by omega)=c:=⟨_,rfl⟩;have hc0:wr.cell? ⟨g2,k*2,none⟩=some (.int .i64 c.cell):=by
    have:=hr.all.cell (xNk (xs++ys) k (by omega) 0 (by decide));rw [hc] at this;exact this
   have hc1:wr.cell? ⟨g2,k*2+1,none⟩=some (.int .i64 c.row):=by
    have:=hr.all.cell (xNk (xs++ys) k (by omega) 1 (by decide));rw [hc] at this;exact this
   have hcb:=hr.cell;have hgl:=hr.row.lt;have hsz:=hr.size;have hga:=hr.hga;have hgg:=hr.hg;cases hct:(ded ((xs++ys).take k)).contains c with
   |true=>
    go_wp2_with (at_lookup;refine xKS _ orgT rfl _ _ rfl w.heap.size (ded ((xs++ys).take k)) rfl (hr.set.kept (xG1 (by omega))) c rfl true hct ?_)
    go_roundw
    case rel=>exact⟨k+1,g,cap,by omega,by go_num,hr.old (by omega) (by rw [hc];exact hct) _⟩
    case measure=>simp [RowKit.intOf];omega
   |false=>
    go_wp2_with (first
     |(at_lookup;refine xKS _ orgT rfl _ _ rfl w.heap.size (ded ((xs++ys).take k)) rfl (hr.set.kept (xG1 (by omega))) c rfl false hct ?_)
     |(at_mapUpdate;refine xNp _ orgT rfl _ _ _ rfl w.heap.size (ded ((xs++ys).take k)) rfl (hr.set.kept (xG1 (by omega))) c rfl rfl hct ?_;intro w3 hs3 hg3 hz3;obtain⟨m1,m2,m3,m4⟩:=hr.mid hg3 hz3)
     |(at_builtin;refine xJb _ orgT rfl _ _ rfl i0 hi hz0 hz1 hz2 rfl g cap (ded ((xs++ys).take k)) rfl (m4 _) (.slice (some ⟨wr.heap.size+1,0,none⟩) 1 1) rfl [c] (by have h:=xWk w3 80 c;rw [hz3,xFz] at h;exact h) (by have:=xU5 ((xs++ys).take k);simp at this ⊢;omega) ?_;intro g' cap' w4 r4 g4 e4;obtain⟨n1,n2⟩:=hr.mid4 hg3 hz3 g4))
    go_roundw
    case rel=>exact⟨k+1,g',cap',by omega,by go_num,by
     have:=hr.new (by omega) (by rw [hc];exact hct) (by rw [hc];exact hs3) hg3 hz3 (by rw [hc];exact r4) g4 e4;rw [hc] at this;simpa using this⟩
    case measure=>simp [RowKit.intOf];omega
  ·have hk2:k=(xs++ys).length:=by omega
   have ht:(xs++ys).take k=xs++ys:=by rw [hk2];exact List.take_length
   have hcb:=hr.cell;have hsz:=hr.size;have hga:=hr.hga;have hgg:=hr.hg;have hs:=hsort wr g cap (ded (xs++ys)) (by have:=xU5 (xs++ys);omega) hr.below (by omega) (by omega) (by have:=hr.box;rw [ht] at this;exact this) (by have:=hr.row.org;rw [ht] at this;exact this);have hgr:=hr.below;rw [ht] at hcb;clear hr hsort
   go_wp2_with (go_at_call 63;refine hs.mono ?_;rintro e W' ⟨rfl,hS⟩;obtain⟨ty',hbx⟩:=hS.box;have hcb2:W'.cell? ⟨w.heap.size+1+1,0,none⟩=some (.slice (some ⟨g,0,none⟩) (ded (xs++ys)).length cap):=by(simp only [World.cell?,hbx];rfl))
   go_ret
   exact⟨g,cap,by rw [hsl];rfl,hgr.trans ⟨hS.os,hS.tape,hS.output,hS.size,fun k hk=>hS.old k (by have:=hgr.size;omega) (by omega) (by omega)⟩,by omega,hS.row⟩
theorem vH3:∀w,(Extern.Rtype.kind 80).run Tryz.prog w= .ok 25 w:=by intro w;kernel_rfl
theorem vHE:(Tryz.prog.info? 43).map (fun i=>i.desc)=some (.slice 80):=by kernel_rfl
theorem vH8:(Tryz.prog.info? 80).map (fun i=>(i.hasPointers,i.bytes))=some (false,16):=by kernel_rfl
theorem vH5:Tryz.prog.packed 43=false:=by kernel_rfl
theorem sw1:Tryz.prog.funcs.findIdx? (·.name== "internal/reflectlite" ++ ".Swapper$1")=some 133:=by kernel_rfl
theorem sw2:Tryz.prog.funcs.findIdx? (·.name== "internal/reflectlite" ++ ".Swapper$2")=some 134:=by kernel_rfl
theorem sw9:Tryz.prog.funcs.findIdx? (·.name== "internal/reflectlite" ++ ".Swapper$9")=some 141:=by kernel_rfl
theorem vAP:typeHandle Tryz.prog 80= .pointer (some ⟨0,80,none⟩):=by kernel_rfl
theorem xTy [Inhabited Lb](xs ys:List Org)(u v:Value)(w:World)(hu:RowIn w u xs)(hv:RowIn w v ys)(hlen:xs.length+ys.length<=1000000000000)(hb:∀x∈zH7,x.1<w.heap.size/\w.heap[x.1]? =some x.2):
 Calls Tryz.prog 20 #[u,v] w fun e w' =>∃br cap,e= .returned (.slice (some ⟨br,0,none⟩) (zJe xs ys).length cap)/\Below w.heap.size w w' /\w.heap.size<=br/\OrgRow w' br cap (zJe xs ys):=by
 obtain⟨i,hi,hd⟩:=Option.map_eq_some_iff.1 vHE;obtain⟨ie,hie,he⟩:=Option.map_eq_some_iff.1 vH8;simp only [Prod.mk.injEq] at he;refine xUQ (fun l=>l.mergeSort fun x y=> !olt y x) (fun l=>by simp) xs ys u v w hu hv hlen fun W g cap zs hz hB hg hne hbo hrow=> ?_;refine vEJ Tryz.laysGg6 43 80 i ie hi hd vH5 hie 25 vH3 he.1 he.2 133 134 141 64 sw1 sw2 sw9 (fun l h2 hl=> ?_) hz hbo hrow hne (fun x hx=> ?_)
 ·rw [vAP];exact T.sort_pdqsort_func_cUnionOrigins_1_ok (xWf h2 (by omega) (Lib.bitLen l.length))
 ·obtain⟨b1,b2⟩:=hb x hx;exact⟨Nat.lt_of_lt_of_le b1 hB.size,by omega,by omega,(hB.block _ b1).trans b2⟩
end Go.Ab
end
section
namespace Go.Ab
open Go.Proofs Go.RowKit Go.Shelf
structure GrpT (P:Program) (ti tm tp:TypeId):Prop where
 int:P.underlying ti=some (.int .i64)
 map:P.underlying tm=some (.map ti tp)
 zero:∀w,(zeroValue tp).run P w= .ok (.pointer none) w
def pbx(b:Nat):Value:= .pointer (some ⟨b,0,none⟩)
def PMap(w:World)(b:Nat)(bx:Int->Nat)(ks:List Int):Prop:=
 ∃es clock,w.heap[b]? =some (.map es clock)/\es.toList.map (fun e=>(e.key,e.val))=ks.map fun x=>(Value.int .i64 x,pbx (bx x))
theorem PMap.kept{w w' :World}{b:Nat}{bx bx' :Int->Nat}{ks:List Int}(h:PMap w b bx ks)(e:w'.heap[b]? =w.heap[b]?)(hb:∀x∈ks,bx' x=bx x):PMap w' b bx' ks:=by
 obtain⟨es,c,h1,h2⟩:=h;refine⟨es,c,e.trans h1,h2.trans (List.map_congr_left fun x hx=>by rw [hb x hx])⟩
theorem PMap.lt{w:World}{b:Nat}{bx:Int->Nat}{ks:List Int}(h:PMap w b bx ks):b<w.heap.size:=by
 obtain⟨es,c,h1,h2⟩:=h;exact(Array.getElem?_eq_some_iff.1 h1).1
theorem xN7{bx:Int->Nat}{x:Int}:∀ {es:List MapEntry} {ks:List Int} {i:Nat},es.map (fun e=>(e.key,e.val))=ks.map (fun y=>(Value.int .i64 y,pbx (bx y)))->
 ∃r,Instr.findNow (.int .i64) (.int .i64 x) es i=some r/\(x∈ks->∃j,r=some (j,pbx (bx x)))/\(x ∉ ks->r=none)
 | [],[],i,_=>⟨none,rfl,by simp,fun _=>rfl⟩
 | [],_::_,i,h=>by cases h
 |_::_,[],i,h=>by cases h
 |e::es,k::ks,i,h=>by
  simp only [List.map_cons,List.cons.injEq,Prod.mk.injEq] at h;obtain⟨⟨h1,h2⟩,h3⟩:=h;by_cases hk:x=k
  ·subst hk;exact⟨some (i,pbx (bx x)),by simp [Instr.findNow,Instr.sameNow,h1,h2],fun _=>⟨i,rfl⟩,by simp⟩
  ·obtain⟨r,r1,r2,r3⟩:=xN7 (x:=x) (i:=i+1) h3;have hb:(x==k)=false:=by simpa using hk
   refine⟨r,by simp [Instr.findNow,Instr.sameNow,h1,hb,r1],fun hx=>r2 ?_,fun hx=>r3 ?_⟩
   ·rcases List.mem_cons.1 hx with e|hx
    ·exact absurd e hk
    ·exact hx
   ·exact fun h=>hx (List.mem_cons_of_mem _ h)
section
variable {P:Program} {ti tm tp:TypeId} (T:GrpT P ti tm tp) {w:World}
include T
theorem xL2(em:Bool)(n:Nat)(k:IntKind)(x:Int):(Instr.checkKey em (n+1) ti (.int k x)).run P w= .ok () w:=by
 unfold Instr.checkKey;simp [run_underlying T.int]
theorem xN5{bx:Int->Nat}(x:Int)(es:List MapEntry)(ks:List Int)(h:es.map (fun e=>(e.key,e.val))=ks.map fun y=>(Value.int .i64 y,pbx (bx y))):
 ∃r,(Instr.findKey ti (.int .i64 x) es).run P w= .ok r w/\(x∈ks->∃j,r=some (j,pbx (bx x)))/\(x ∉ ks->r=none):=by
 obtain⟨r,h1,h2⟩:=xN7 (x:=x) (i:=0) h;exact⟨r,by simp [Instr.findKey,run_underlying T.int,h1,Result.andThen],h2⟩
theorem xCk{b:Nat}{bx:Int->Nat}{ks:List Int}(h:PMap w b bx ks)(x:Int):(Instr.lookup tm (.map (some b)) (.int .i64 x) false).run P w= .ok (if x∈ks then pbx (bx x) else .pointer none) w:=by
 obtain⟨es,c,h1,h2⟩:=h;obtain⟨r,hr,p1,p2⟩:=xN5 T (w:=w) x es.toList ks h2;unfold Instr.lookup;have hg:(getObj b).run P w= .ok (.map es c) w:=by simp [getObj,Sem.run,h1]
 have hck:(Instr.checkKey es.isEmpty 10000 ti (.int .i64 x)).run P w= .ok () w:=xL2 T es.isEmpty 9999 .i64 x;by_cases hc:x∈ks
 ·obtain⟨j,rfl⟩:=p1 hc;rw [if_pos hc];simp [run_underlying T.map,hg,hck,hr,Result.andThen]
 ·obtain rfl:=p2 hc;rw [if_neg hc];simp [run_underlying T.map,hg,hck,hr,T.zero,Result.andThen]
theorem xSk{b:Nat}{bx:Int->Nat}{ks:List Int}(h:PMap w b bx ks)(x:Int)(hc:x ∉ ks)(n:Nat):
 ∃w',(Instr.mapUpdate tm (.map (some b)) (.int .i64 x) (pbx n)).run P w= .ok () w' /\PMap w' b (fun y=>if y=x then n else bx y) (ks++ [x])/\w.grownBy w' (some b)/\w'.heap.size=w.heap.size:=by
 obtain⟨es,c,h1,h2⟩:=h;obtain⟨r,hr,p1,p2⟩:=xN5 T (w:=w) x es.toList ks h2;obtain rfl:=p2 hc;have hb:b<w.heap.size:=(Array.getElem?_eq_some_iff.1 h1).1;have hg:(getObj b).run P w= .ok (.map es c) w:=by simp [getObj,Sem.run,h1]
 have hck:(Instr.checkKey false 10000 ti (.int .i64 x)).run P w= .ok () w:=xL2 T false 9999 .i64 x;have hs:∀ob,(setObj b ob).run P w= .ok () { w with heap:=w.heap.setIfInBounds b ob }:=by
  intro ob;simp [setObj,Sem.run,h1]
 refine⟨{ w with heap:=w.heap.setIfInBounds b (.map (es.push { key:= .int .i64 x,val:=pbx n,born:=c }) (c+1)) },?_,?_,⟨rfl,rfl,rfl,by simp,fun k hk hne=> ?_⟩,by simp⟩
 ·unfold Instr.mapUpdate;simp [run_underlying T.map,hg,hck,hr,hs,Result.andThen]
 ·refine⟨_,_,by simp [hb];exact⟨rfl,rfl⟩,?_⟩;rw [Array.toList_push,List.map_append,h2,List.map_append];simp only [List.map_cons,List.map_nil,if_true]
  congr 1
  refine List.map_congr_left fun y hy=> ?_;have:y≠x:=fun e=>hc (e ▸ hy);rw [if_neg this]
 ·have:b≠k:=fun e=>hne (by rw [e]);simp [Array.getElem?_setIfInBounds,this]
end
end Go.Ab
end
section
namespace Go.Ab
section
variable {P:Program} {ops:Array Oper} {Q:Exit->Act->World->Prop} {md:Region.Mode} {T:World->Prop} {n:Nat}
def xKR(P:Program)(md:Region.Mode)(ops:Array Oper)(Q:Exit->Act->World->Prop)(T:World->Prop)(n:Nat):Nat->Array Bool->Act->World->Prop
 |0,listed,a,w=>Region.ready md ops listed=[]/\Q .normal a w
 |fuel+1,listed,a,w=>
  (Region.ready md ops listed=[]->Q .normal a w)/\
  ∀i∈Region.ready md ops listed,wpOp P ops Q i (fun a' w' =>((listed.setIfInBounds i true).getD n false=true\/T w')/\xKR P md ops Q T n fuel (listed.setIfInBounds i true) a' w') a w
theorem xPE:∀(fuel:Nat) (listed:Array Bool) (a:Act) (w:World),xKR P md ops Q T n fuel listed a w->wpAny P md ops Q fuel listed a w
 |0,_,_,_,h=>h
 |fuel+1,_,_,_,h=>⟨h.1,fun i hi=>wpOp_mono (fun a' w' h' =>xPE fuel _ a' w' h'.2) (h.2 i hi)⟩
theorem xSu{i:Nat}{oi:Oper}{v:Value}(hi:ops[i]? =some oi)(hsel:∀(j:Nat) (o:Oper) cs b,ops[j]? =some o->o.op≠ .select cs b)
 (hQ:∀c a w,Q (.panic c) (a.put oi.dst v) w->Q (.panic c) a w) (hni:i≠n) (hwait:∃on e,ops[n]? =some on/\e∈on.after/\Region.binds md e=true/\e.on=i):
 ∀(fuel:Nat) (listed:Array Bool) (a:Act) (w:World),listed.getD n false=false->
  (∀j oj,ops[j]? =some oj->j≠i->listed.getD j true=false->(∀e∈oj.after,Region.binds md e=true->e.on≠i)->oi.apart ops oj=true)->
  i∈Region.ready md ops listed->YieldsIf P ops T oi v a->T w->
  xKR P md ops Q T n fuel (listed.setIfInBounds i true) (a.put oi.dst v) w->xKR P md ops Q T n (fuel+1) listed a w:=by
 obtain⟨on,e0,hn1,hn2,hn3,hn4⟩:=hwait;intro fuel
 induction fuel with
 |zero=>
  intro listed a w _ _ hr hy hS H;refine⟨fun h=>(by rw [h] at hr;cases hr),fun j hj=> ?_⟩;by_cases hji:j=i
  ·subst hji;exact hy.wpOp hi hS ⟨.inr hS,H⟩
  ·have:=ready_mono hj hji;rw [H.1] at this;cases this
 |succ fuel ih=>
  intro listed a w hln hfree hr hy hS H;refine⟨fun h=>(by rw [h] at hr;cases hr),fun j hj=> ?_⟩;by_cases hji:j=i
  ·subst hji;exact hy.wpOp hi hS ⟨.inr hS,H⟩
  ·have h1:=H.2 j (ready_mono hj hji);obtain⟨hjun,oj,hoj,hall⟩:=mem_ready.1 hj;have hnot:∀e∈oj.after,Region.binds md e=true->e.on≠i:=fun e he hb heq=>by
    have h1:=hall e he hb;have h0:=(mem_ready.1 hr).1;rw [heq] at h1;rcases Nat.lt_or_ge i listed.size with h' |h'
    ·simp [h'] at h0 h1;rw [h0] at h1;cases h1
    ·simp [Array.getElem?_eq_none h'] at h1
   have hjn:j≠n:=fun e=>by
    subst e;rw [hoj] at hn1;cases hn1;exact hnot e0 hn2 hn3 hn4
   have h2:=wpOp_putIf hoj (hfree j oj hoj hji hjun hnot) (fun cs b=>hsel i oi cs b hi) (fun cs b=>hsel j oj cs b hoj) hQ hy h1
   have hfree' :∀k ok,ops[k]? =some ok->k≠i->(listed.setIfInBounds j true).getD k true=false->
    (∀e∈ok.after,Region.binds md e=true->e.on≠i)->oi.apart ops ok=true:=fun k ok hk hki hun hno=>by
    refine hfree k ok hk hki ?_ hno;by_cases hjk:j=k
    ·subst hjk;exact hjun
    ·rw [getD_set_ne true hjk] at hun;exact hun
   refine wpOp_mono (fun a' w' h3=> ?_) h2;have hT:T w' :=by
    refine h3.2.1.resolve_left ?_;rw [getD_set_ne false hjn,getD_set_ne false hni,hln];simp
   refine⟨.inr hT,ih (listed.setIfInBounds j true) a' w' (by rw [getD_set_ne false hjn];exact hln) hfree' (ready_mono hr (Ne.symm hji)) h3.1 hT ?_⟩;rw [Array.setIfInBounds_comm _ _ hji];exact h3.2.2
def vEO(md:Region.Mode)(ops:Array Oper)(n i:Nat):Bool:=
 match ops[n]? with
 |some on=>on.after.any fun e=>Region.binds md e&&e.on.beq i
 |none=>false
theorem xUS{md:Region.Mode}{ops:Array Oper}{n i:Nat}(h:vEO md ops n i=true):∃on e,ops[n]? =some on/\e∈on.after/\Region.binds md e=true/\e.on=i:=by
 unfold vEO at h;split at h
 ·rename_i on hon;rw [Array.any_eq_true'] at h;obtain⟨e,he,h2⟩:=h;rw [Bool.and_eq_true] at h2;exact⟨on,e,hon,he,h2.1,Nat.eq_of_beq_eq_true h2.2⟩
 ·cases h
theorem xA9(i:Nat){oi:Oper}{v:Value}{fuel:Nat}{listed:Array Bool}{a:Act}{w:World}(hi:ops[i]? =some oi)
 (hs:(Region.noSelect ops&&Region.free md ops listed i&&(Region.ready md ops listed).contains i&&vEO md ops n i&& !(listed.getD n false)&& !(i.beq n))=true)
 (hQ:∀c a w,Q (.panic c) (a.put oi.dst v) w->Q (.panic c) a w) (hg:oi.guard=none) (hT:T w) (hy:∀w,T w->(execOp a.eval oi).run P w= .ok (.value v) w)
 (h:xKR P md ops Q T n fuel (listed.setIfInBounds i true) (a.put oi.dst v) w):xKR P md ops Q T n (fuel+1) listed a w:=by
 simp only [Bool.and_eq_true,Bool.not_eq_true'] at hs;obtain⟨⟨⟨⟨⟨h1,h2⟩,h3⟩,h4⟩,h5⟩,h6⟩:=hs;exact xSu hi (Region.noSelect_spec h1) hQ (fun e=>by subst e;rw [Nat.beq_refl] at h6;cases h6) (xUS h4) fuel listed a w h5 (Region.free_spec hi h2) (by simpa using h3) (.inl ⟨by simp [Region.wanted,hg],hy⟩) hT h
theorem xGy(i:Nat){oi:Oper}{fuel:Nat}{listed:Array Bool}{a:Act}{w:World}(hi:ops[i]? =some oi)(hr:Region.ready md ops listed=[i])(hg:oi.guard=none)
 (h:∀K:Act->World->Prop,(∀a' w',((listed.setIfInBounds i true).getD n false=true\/T w')/\xKR P md ops Q T n fuel (listed.setIfInBounds i true) a' w' ->K a' w')->oi.wp P a w K Q):
 xKR P md ops Q T n (fuel+1) listed a w:=by
 refine⟨fun h0=>(by rw [hr] at h0;cases h0),fun j hj=> ?_⟩;rw [hr] at hj;obtain rfl:j=i:=by simpa using hj
 unfold wpOp;simp only [hi,Region.wanted,hg,if_true];exact .inl (h _ fun a' w' h' =>h')
theorem xMt{listed:Array Bool}{a:Act}{w:World}(hr:Region.ready md ops listed=[])(h:Q .normal a w):
 ∀fuel,xKR P md ops Q T n fuel listed a w
 |0=>⟨hr,h⟩
 |_+1=>⟨fun _=>h,by rw [hr];simp⟩
theorem xMu(T:World->Prop)(n:Nat){id:Nat}{a:Act}{w:World}(hm:P.follows .mixedOrders=true)
 (h:xKR P .any ops Q T n ops.size (Array.replicate ops.size false) a { w with drawn:=w.drawn+1 }):(Code.region id ops true).wp P Q a w:=
 wp_region_any hm (xPE _ _ _ _ h)
end
end Go.Ab
end
section
namespace Go.Ab
open Go.Proofs Go.RowKit Go.Shelf
inductive Tg where
 |map|keys
 |box (x:Int) |cel (x:Int) |frm (x:Int)
 deriving DecidableEq
def Live(ks:List Int)(nx:Option Int):Tg->Prop
 | .map=>True
 | .keys=>True
 | .box x=>x∈ks
 | .cel x=>x∈ks
 | .frm x=>x∈ks/\nx≠some x
def updT(blk:Tg->Nat)(t:Tg)(b:Nat):Tg->Nat:=fun t' =>if t' =t then b else blk t'
def updI{α:Type}(f:Int->α)(x:Int)(v:α):Int->α:=fun y=>if y=x then v else f y
def ORow(w:World)(te g cap sz n:Nat)(xs:List Value):Prop:=
 xs.length=n*sz/\∃cur,w.heap[g]? =some (.cells cur te (0,0))/\n<=cap/\cap<=maxLen/\cur.size=cap*sz/\cur.toList.take (n*sz)=xs
theorem ORow.kept{w w' :World}{te g cap sz n:Nat}{xs:List Value}(h:ORow w te g cap sz n xs)(e:w'.heap[g]? =w.heap[g]?):ORow w' te g cap sz n xs:=by
 obtain⟨h0,cur,h1,h2⟩:=h;exact⟨h0,cur,e.trans h1,h2⟩
theorem OrgRow.kept{w w' :World}{g cap:Nat}{xs:List Org}(h:OrgRow w g cap xs)(e:w'.heap[g]? =w.heap[g]?):OrgRow w' g cap xs:=by
 obtain⟨h0,cs,ty,lo,hi,h1,h2⟩:=h;exact⟨h0,cs,ty,lo,hi,e.trans h1,h2⟩
theorem OrgRow.lt{w:World}{g cap:Nat}{xs:List Org}(h:OrgRow w g cap xs):g<w.heap.size:=by
 obtain⟨h0,cs,ty,lo,hi,h1,h2⟩:=h;exact(Array.getElem?_eq_some_iff.1 h1).1
def frV(blk:Tg->Nat)(fc:Int->Nat)(fr:Int->List Org)(nx:Option Int)(x:Int):Value:=
 if nx=some x then .slice none 0 0 else .slice (some ⟨blk (.frm x),0,none⟩) (fr x).length (fc x)
structure GRel (w0 wr:World) (B tR tI:Nat) (blk:Tg->Nat) (ks kl:List Int) (sm:Int->Int) (fr:Int->List Org) (fc:Int->Nat) (nx:Option Int) (kc:Nat):Prop where
 map:PMap wr (blk .map) (fun x=>blk (.box x)) ks
 box:∀x∈ks,wr.heap[blk (.box x)]? =some (.cells #[.slice (some ⟨blk (.cel x),0,none⟩) 2 2,frV blk fc fr nx x] tR (0,0))
 cel:∀x∈ks,wr.heap[blk (.cel x)]? =some (.cells #[.int .i64 x,.int .i64 (sm x)] tI (0,0))
 frm:∀x∈ks,nx≠some x->OrgRow wr (blk (.frm x)) (fc x) (fr x)
 nil:∀x,nx=some x->fr x=[]
 keys:ORow wr tI (blk .keys) kc 1 kl.length (kl.map (Value.int .i64))
 nodup:ks.Nodup
 inj:∀t t',Live ks nx t->Live ks nx t' ->blk t=blk t' ->t=t'
 rng:∀t,Live ks nx t->B<=blk t/\blk t<wr.heap.size
 below:Below B w0 wr
structure Chg (w w' :World) (b:Nat) (o:Obj):Prop where
 os:w'.os=w.os
 tape:w'.tape=w.tape
 output:w'.output=w.output
 size:w'.heap.size=w.heap.size
 at' :w'.heap[b]? =some o
 other:∀k,k≠b->w'.heap[k]? =w.heap[k]?
theorem Chg.below{w w' :World}{b B:Nat}{o:Obj}(h:Chg w w' b o)(hb:B<=b):Below B w w' :=⟨h.os,h.tape,h.output,by rw [h.size];exact Nat.le_refl _,fun k hk=>h.other k (by omega)⟩
section
variable {w0 wr:World} {B tR tI:Nat} {blk:Tg->Nat} {ks kl:List Int} {sm:Int->Int} {fr:Int->List Org} {fc:Int->Nat} {nx:Option Int} {kc:Nat}
theorem GRel.grow(h:GRel w0 wr B tR tI blk ks kl sm fr fc nx kc){wr' :World}(hb:Below wr.heap.size wr wr'):GRel w0 wr' B tR tI blk ks kl sm fr fc nx kc:=by
 have k:∀t,Live ks nx t->wr'.heap[blk t]? =wr.heap[blk t]? :=fun t ht=>hb.block _ (h.rng t ht).2;refine⟨h.map.kept (k .map trivial) (fun _ _=>rfl),fun x hx=>(k (.box x) hx).trans (h.box x hx),fun x hx=>(k (.cel x) hx).trans (h.cel x hx),fun x hx hn=>(h.frm x hx hn).kept (k (.frm x) ⟨hx,hn⟩),h.nil,h.keys.kept (k .keys trivial),h.nodup,h.inj,fun t ht=>⟨(h.rng t ht).1,Nat.lt_of_lt_of_le (h.rng t ht).2 hb.size⟩,?_⟩;refine h.below.trans ⟨hb.os,hb.tape,hb.output,hb.size,fun b hlt=>hb.block b ?_⟩;have:=(h.rng .map trivial);omega
theorem GRel.turn(h:GRel w0 wr B tR tI blk ks kl sm fr fc nx kc){x:Int}(hx:x∈ks)(hnx:nx=none\/nx=some x){s:Int}{os:List Org}{br cap:Nat}{w2 w3 w4:World}
 (h2:Chg wr w2 (blk (.cel x)) (.cells #[.int .i64 x,.int .i64 s] tI (0,0))) (h3:Below w2.heap.size w2 w3) (hbr:w2.heap.size<=br) (hrow:OrgRow w3 br cap os)
 (h4:Chg w3 w4 (blk (.box x)) (.cells #[.slice (some ⟨blk (.cel x),0,none⟩) 2 2,.slice (some ⟨br,0,none⟩) os.length cap] tR (0,0))):
 GRel w0 w4 B tR tI (updT blk (.frm x) br) ks kl (updI sm x s) (updI fr x os) (updI fc x cap) none kc:=by
 have hcx:=h.rng (.cel x) hx;have hbx:=h.rng (.box x) hx;have z2:=h2.size;have z3:=h3.size;have z4:=h4.size;have hbl:=hrow.lt;have keep:∀b,b<wr.heap.size->b≠blk (.cel x)->b≠blk (.box x)->w4.heap[b]? =wr.heap[b]? :=fun b hb n1 n2=>(h4.other b n2).trans ((h3.block b (by omega)).trans (h2.other b n1));have ub:∀t,t≠ .frm x->updT blk (.frm x) br t=blk t:=fun t ht=>if_neg ht;have ux:updT blk (.frm x) br (.frm x)=br:=if_pos rfl;have live:∀t,Live ks none t->t≠ .frm x->Live ks nx t:=by
  intro t ht hne;cases t with
  |frm y=>
   refine⟨ht.1,fun e=> ?_⟩;rcases hnx with e2|e2
   ·rw [e2] at e;cases e
   ·rw [e2] at e;cases e;exact hne rfl
  |map=>trivial
  |keys=>trivial
  |box y=>exact ht
  |cel y=>exact ht
 have ne:∀t t',Live ks nx t->Live ks nx t' ->t≠t' ->blk t≠blk t' :=fun t t' a b n e=>n (h.inj t t' a b e);refine⟨?_,fun y hy=> ?_,fun y hy=> ?_,fun y hy _=> ?_,fun y e=>by(cases e),?_,h.nodup,fun t t' a b e=> ?_,fun t ht=> ?_,?_⟩
 ·rw [ub .map (by simp)];refine h.map.kept (keep _ (h.rng .map trivial).2 (ne .map (.cel x) trivial hx (by simp)) (ne .map (.box x) trivial hx (by simp))) fun y hy=>ub _ (by simp)
 ·rw [ub (.box y) (by simp),ub (.cel y) (by simp)];by_cases e:y=x
  ·subst e;rw [h4.at'];simp [frV,ux,updI]
  ·have:=h.box y hy;rw [keep _ (h.rng (.box y) hy).2 (ne (.box y) (.cel x) hy hx (by simp)) (ne (.box y) (.box x) hy hx (by simpa using e)),this];have hn:nx≠some y:=by
    rcases hnx with e2|e2
    ·rw [e2];simp
    ·rw [e2];simpa using Ne.symm e
   simp [frV,hn,updI,e,ub (.frm y) (by simpa using e)]
 ·rw [ub (.cel y) (by simp)];by_cases e:y=x
  ·subst e;rw [h4.other _ (ne (.cel y) (.box y) hy hy (by simp)),h3.block _ (by omega),h2.at'];simp [updI]
  ·rw [keep _ (h.rng (.cel y) hy).2 (ne (.cel y) (.cel x) hy hx (by simpa using e)) (ne (.cel y) (.box x) hy hx (by simp)),h.cel y hy];simp [updI,e]
 ·by_cases e:y=x
  ·subst e;rw [ux];simp only [updI,if_true];exact hrow.kept (h4.other _ (by omega))
  ·have hn:nx≠some y:=by
    rcases hnx with e2|e2
    ·rw [e2];simp
    ·rw [e2];simpa using Ne.symm e
   rw [ub (.frm y) (by simpa using e)];simp only [updI,if_neg e];exact(h.frm y hy hn).kept (keep _ (h.rng (.frm y) ⟨hy,hn⟩).2 (ne (.frm y) (.cel x) ⟨hy,hn⟩ hx (by simp)) (ne (.frm y) (.box x) ⟨hy,hn⟩ hx (by simp)))
 ·rw [ub .keys (by simp)];exact h.keys.kept (keep _ (h.rng .keys trivial).2 (ne .keys (.cel x) trivial hx (by simp)) (ne .keys (.box x) trivial hx (by simp)))
 ·by_cases e1:t= .frm x
  ·by_cases e2:t' = .frm x
   ·rw [e1,e2]
   ·rw [e1,ux,ub t' e2] at e;have:=(h.rng t' (live t' b e2)).2;omega
  ·by_cases e2:t' = .frm x
   ·rw [e2,ux,ub t e1] at e;have:=(h.rng t (live t a e1)).2;omega
   ·rw [ub t e1,ub t' e2] at e;exact h.inj t t' (live t a e1) (live t' b e2) e
 ·by_cases e1:t= .frm x
  ·rw [e1,ux];omega
  ·rw [ub t e1];have:=h.rng t (live t ht e1);omega
 ·refine h.below.trans ((h2.below hcx.1).trans (Below.trans ⟨h3.os,h3.tape,h3.output,h3.size,fun b hb=>h3.block b (by omega)⟩ (h4.below hbx.1)))
theorem GRel.add(h:GRel w0 wr B tR tI blk ks ks sm fr fc none kc){x:Int}(hx:x ∉ ks)(hs:sm x=0)(hf:fr x=[]){w1 w2 w3 w4:World}{cb bb kb' kc' :Nat}
 (h1:Below wr.heap.size wr w1) (hc1:wr.heap.size<=cb) (hb1:wr.heap.size<=bb) (hne:cb≠bb) (hcl:cb<w1.heap.size) (hbl:bb<w1.heap.size)
 (hc:w1.heap[cb]? =some (.cells #[.int .i64 x,.int .i64 0] tI (0,0))) (hb:w1.heap[bb]? =some (.cells #[.slice (some ⟨cb,0,none⟩) 2 2,.slice none 0 0] tR (0,0)))
 (hm:PMap w2 (blk .map) (fun y=>if y=x then bb else blk (.box y)) (ks++ [x])) (h2:w1.grownBy w2 (some (blk .map))) (z2:w2.heap.size=w1.heap.size)
 (h3:Below w2.heap.size w2 w3) (hk:ORow w4 tI kb' kc' 1 (ks++ [x]).length ((ks++ [x]).map (Value.int .i64))) (h4:w3.grownBy w4 (some (blk .keys))) (hkb:kb' =blk .keys\/kb' =w3.heap.size):
 GRel w0 w4 B tR tI (updT (updT (updT blk (.box x) bb) (.cel x) cb) .keys kb') (ks++ [x]) (ks++ [x]) sm fr fc (some x) kc' :=by
 have hM:=h.rng .map trivial;have hK:=h.rng .keys trivial;have z1:=h1.size;have z3:=h3.size;have z4:=h4.size;have hkl:kb' <w4.heap.size:=by
  obtain⟨_,cur,h,_⟩:=hk;exact(Array.getElem?_eq_some_iff.1 h).1
 have ne:∀t t',Live ks none t->Live ks none t' ->t≠t' ->blk t≠blk t' :=fun t t' a b n e=>n (h.inj t t' a b e);have hMK:=ne .map .keys trivial trivial (by simp);generalize hB:updT (updT (updT blk (.box x) bb) (.cel x) cb) .keys kb' =blk';have b1:blk' (.box x)=bb:=by rw [<-hB];simp [updT]
 have b2:blk' (.cel x)=cb:=by rw [<-hB];simp [updT]
 have b3:blk' .keys=kb' :=by rw [<-hB];simp [updT]
 have b4:∀t,t≠ .box x->t≠ .cel x->t≠ .keys->blk' t=blk t:=fun t n1 n2 n3=>by rw [<-hB];simp [updT,n1,n2,n3]
 have old:∀b,b<wr.heap.size->b≠blk .map->b≠blk .keys->w4.heap[b]? =wr.heap[b]? :=fun b hb n1 n2=>
  (h4.block b (by omega) (by simpa using n2)).trans ((h3.block b (by omega)).trans ((h2.block b (by omega) (by simpa using n1)).trans (h1.block b hb)))
 have mid:∀b,wr.heap.size<=b->b<w1.heap.size->w4.heap[b]? =w1.heap[b]? :=fun b hb hb2=>
  (h4.block b (by omega) (by simp;omega)).trans ((h3.block b (by omega)).trans (h2.block b hb2 (by simp;omega)))
 have hyx:∀y∈ks,y≠x:=fun y hy e=>hx (e ▸ hy);have live:∀t,Live (ks++ [x]) (some x) t->t≠ .box x->t≠ .cel x->Live ks none t:=by
  intro t ht n1 n2;cases t with
  |map=>trivial
  |keys=>trivial
  |box y=>
   rcases List.mem_append.1 (show y∈ks++ [x] from ht) with e|e
   ·exact e
   ·simp at e;subst e;exact absurd rfl n1
  |cel y=>
   rcases List.mem_append.1 (show y∈ks++ [x] from ht) with e|e
   ·exact e
   ·simp at e;subst e;exact absurd rfl n2
  |frm y=>
   obtain⟨e,e2⟩:=ht;rcases List.mem_append.1 e with e|e
   ·exact⟨e,by simp⟩
   ·simp at e;subst e;exact absurd rfl e2
 refine⟨?_,fun y hy=> ?_,fun y hy=> ?_,fun y hy hn=> ?_,fun y e=>by cases e;exact hf,?_,?_,fun t t' a b e=> ?_,fun t ht=> ?_,?_⟩
 ·rw [b4 .map (by simp) (by simp) (by simp)];refine hm.kept ((h4.block _ (by omega) (by simpa using hMK)).trans (h3.block _ (by omega))) fun y hy=> ?_;by_cases e:y=x
  ·subst e;simp [b1]
  ·rw [b4 (.box y) (by simpa using e) (by simp) (by simp),if_neg e]
 ·by_cases e:y=x
  ·subst e;rw [b1,b2,mid bb hb1 hbl,hb];simp [frV]
  ·have hy:y∈ks:=by
    rcases List.mem_append.1 hy with e2|e2
    ·exact e2
    ·simp at e2;exact absurd e2 e
   rw [b4 (.box y) (by simpa using e) (by simp) (by simp),b4 (.cel y) (by simp) (by simpa using e) (by simp),old _ (h.rng (.box y) hy).2 (ne _ _ hy trivial (by simp)) (ne _ _ hy trivial (by simp)),h.box y hy];have:some x≠some y:=by simpa using Ne.symm e
   simp [frV,this,b4 (.frm y) (by simp) (by simp) (by simp)]
 ·by_cases e:y=x
  ·subst e;rw [b2,mid cb hc1 hcl,hc,hs]
  ·have hy:y∈ks:=by
    rcases List.mem_append.1 hy with e2|e2
    ·exact e2
    ·simp at e2;exact absurd e2 e
   rw [b4 (.cel y) (by simp) (by simpa using e) (by simp),old _ (h.rng (.cel y) hy).2 (ne _ _ hy trivial (by simp)) (ne _ _ hy trivial (by simp)),h.cel y hy]
 ·have e:y≠x:=fun e=>hn (by rw [e]);have hy:y∈ks:=by
   rcases List.mem_append.1 hy with e2|e2
   ·exact e2
   ·simp at e2;exact absurd e2 e
  rw [b4 (.frm y) (by simp) (by simp) (by simp)];exact(h.frm y hy (by simp)).kept (old _ (h.rng (.frm y) ⟨hy,by simp⟩).2 (ne (.frm y) _ ⟨hy,by simp⟩ trivial (by simp)) (ne (.frm y) _ ⟨hy,by simp⟩ trivial (by simp)))
 ·rw [b3];exact hk
 ·rw [List.nodup_append];exact⟨h.nodup,by simp,fun a ha b hb=>by simp at hb;subst hb;exact hyx a ha⟩
 ·have cls:∀t,Live (ks++ [x]) (some x) t->t= .box x\/t= .cel x\/t= .keys\/(blk' t=blk t/\Live ks none t/\t≠ .keys):=by
   intro t ht;by_cases n1:t= .box x
   ·exact .inl n1
   ·by_cases n2:t= .cel x
    ·exact .inr (.inl n2)
    ·by_cases n3:t= .keys
     ·exact .inr (.inr (.inl n3))
     ·exact .inr (.inr (.inr ⟨b4 t n1 n2 n3,live t ht n1 n2,n3⟩))
  have kr:kb' =blk .keys\/w1.heap.size<=kb' :=hkb.imp id (by omega)
  rcases cls t a with rfl|rfl|rfl|⟨e1,l1,m1⟩ <;>rcases cls t' b with rfl|rfl|rfl|⟨e2,l2,m2⟩ <;>first
   |rfl
   |(rw [e1,e2] at e;exact h.inj _ _ l1 l2 e)
   |(have r2:=(h.rng _ l2).2;have r3:=ne _ _ l2 (show Live ks none .keys from trivial) m2;simp only [b1,b2,b3,e2] at e;omega)
   |(have r1:=(h.rng _ l1).2;have r3:=ne _ _ l1 (show Live ks none .keys from trivial) m1;simp only [b1,b2,b3,e1] at e;omega)
   |(simp only [b1,b2,b3] at e;omega)
 ·by_cases n1:t= .box x
  ·subst n1;rw [b1];omega
  ·by_cases n2:t= .cel x
   ·subst n2;rw [b2];omega
   ·by_cases n3:t= .keys
    ·subst n3;rw [b3];omega
    ·rw [b4 t n1 n2 n3];have:=h.rng t (live t ht n1 n2);omega
 ·refine h.below.trans (Below.trans ⟨h1.os,h1.tape,h1.output,h1.size,fun b hb=>h1.block b (by omega)⟩ ?_);refine Below.trans (Below.grown (Below.refl _ _) h2 (by omega) (fun k hk=>by cases hk;omega)) ?_;refine Below.trans ⟨h3.os,h3.tape,h3.output,h3.size,fun b hb=>h3.block b (by omega)⟩ ?_;exact Below.grown (Below.refl _ _) h4 (by omega) (fun k hk=>by cases hk;omega)
end
end Go.Ab
end
section
namespace Go.Ab
open Go.Proofs Go.RowKit Go.Shelf
theorem xOR{P:Program}{te ts:TypeId}(w:World){o:Oper}{a:Act}{K:Act->World->Prop}{Q:Exit->Act->World->Prop}(ht:P.underlying ts=some (.slice te))(s x:Operand)
 (hop:o.op= .call { callee:= .builtin .append,args:= #[s,x],argTypes:= #[ts,ts] }) (i:TypeInfo) (hi:P.info? te=some i) {z:Value} (hz:i.zero=some z) {sz bytes:Nat} (hsize:i.size=sz) (hby:i.bytes=bytes) (hzs:z.cells.size=sz) (hsz:0<sz) (hb:bytes<=64)
 (base:Nat) (v:Value) (n:Nat) (xs:List Value) (hs:a.eval s=v) (hown:w.ownsRow base te sz v n xs) (ad:Addr) (m c:Nat) (news:List Value) (hx:a.eval x= .slice (some ad) m c) (hl:news.length=m*sz)
 (hnews:∀j u,news[j]? =some u->w.cell? (ad.add j)=some u) (h1:∀u∈news,u.oneCell' =true) (hlen:n+m<=1000000000000) (hbase:base<=w.heap.size)
 (hK:∀v' w',w'.ownsRow base te sz v' (n+m) (xs++news)->w.grownBy w' v.ownBlock->(v' = .slice none 0 0↔v= .slice none 0 0/\m=0)->(v'.ownBlock=v.ownBlock\/v'.ownBlock=some w.heap.size)->K (a.put o.dst v') w'):
 o.wp P a w K Q:=by
 have h2:(n+m)*bytes<=1000000000000*64:=Nat.mul_le_mul hlen hb;obtain⟨v',w',hr,h2,h3,h4,h5⟩:=run_append_own_at (P:=P) w base ts o.type te i z sz bytes ht hi hz hsize hby hzs hsz v n xs hown ad m c news hl hnews h1 (by unfold maxLen;omega) (by omega) hbase;unfold Oper.wp execOp;simp only [hop,resolve,invoke,builtin,Sem.run_bind,Sem.run_pure,Result.andThen_ok,List.map_toArray,List.map_cons,List.map_nil,hs,hx,hr];exact hK v' w' h2 h3 h4 h5
theorem xOQ{P:Program}{te ts:TypeId}(w:World){ops:Array Oper}{rest:List Oper}{o:Oper}{a:Act}{Q:Exit->Act->World->Prop}(ht:P.underlying ts=some (.slice te))(hg:o.guard=none)(s x:Operand)
 (hop:o.op= .call { callee:= .builtin .append,args:= #[s,x],argTypes:= #[ts,ts] }) (i:TypeInfo) (hi:P.info? te=some i) {z:Value} (hz:i.zero=some z) {sz bytes:Nat} (hsize:i.size=sz) (hby:i.bytes=bytes) (hzs:z.cells.size=sz) (hsz:0<sz) (hb:bytes<=64)
 (base:Nat) (v:Value) (n:Nat) (xs:List Value) (hs:a.eval s=v) (hown:w.ownsRow base te sz v n xs) (ad:Addr) (m c:Nat) (news:List Value) (hx:a.eval x= .slice (some ad) m c) (hl:news.length=m*sz)
 (hnews:∀j u,news[j]? =some u->w.cell? (ad.add j)=some u) (h1:∀u∈news,u.oneCell' =true) (hlen:n+m<=1000000000000) (hbase:base<=w.heap.size)
 (hK:∀v' w',w'.ownsRow base te sz v' (n+m) (xs++news)->w.grownBy w' v.ownBlock->(v' = .slice none 0 0↔v= .slice none 0 0/\m=0)->(v'.ownBlock=v.ownBlock\/v'.ownBlock=some w.heap.size)->wpList P ops Q rest (a.put o.dst v') w'):
 wpList P ops Q (o::rest) a w:=by
 refine wpList_plain hg fun K' hK' => ?_;exact xOR w ht s x hop i hi hz hsize hby hzs hsz hb base v n xs hs hown ad m c news hx hl hnews h1 hlen hbase fun v' w' a1 a2 a3 a4=>hK' _ _ (hK v' w' a1 a2 a3 a4)
theorem ORow.owns{w:World}{te g cap sz n:Nat}{xs:List Value}(h:ORow w te g cap sz n xs):w.ownsRow 0 te sz (.slice (some ⟨g,0,none⟩) n cap) n xs:=by
 obtain⟨h0,cur,h1,h2,h3,h4,h5⟩:=h;exact⟨h0,.inr ⟨g,cap,cur,rfl,Nat.zero_le _,h1,h2,h3,h4,h5⟩⟩
theorem ORow.of_owns{w:World}{te sz n base:Nat}{xs:List Value}{v:Value}(h:w.ownsRow base te sz v n xs)(hn:n≠0):∃g cap,v= .slice (some ⟨g,0,none⟩) n cap/\base<=g/\ORow w te g cap sz n xs:=by
 obtain⟨h0,h1⟩:=h;rcases h1 with ⟨_,h2⟩|⟨g,cap,cur,rfl,h2,h3,h4,h5,h6,h7⟩
 ·exact absurd h2 hn
 ·exact⟨g,cap,rfl,h2,h0,cur,h3,h4,h5,h6,h7⟩
def Kp(l:List Nat)(a a' :Act):Prop:=a'.defers=a.defers/\a'.tmps.size=a.tmps.size/\∀t∈l,a'.tmps[t]? =a.tmps[t]?
theorem xCG{l:List Nat}{a:Act}{tm:Array Value}{d:Nat}{v:Value}(hd:l.contains d=false)(h:Kp l a { a with tmps:=tm }):Kp l a { a with tmps:=tm.setIfInBounds d v }:=by
 refine⟨rfl,by simpa using h.2.1,fun t ht=> ?_⟩;have:d≠t:=fun e=>by subst e;simp at hd;exact hd ht
 rw [<-h.2.2 t ht];simp [this]
theorem xFm{l:List Nat}{a:Act}:Kp l a { a with tmps:=a.tmps }:=⟨rfl,rfl,fun _ _=>rfl⟩
theorem Kp.trans{l l' l2:List Nat}{a b c:Act}(h:Kp l a b)(g:Kp l' b c)(s:(l2.all fun t=>l.contains t&&l'.contains t)=true):Kp l2 a c:=by
 refine⟨g.1.trans h.1,g.2.1.trans h.2.1,fun t ht=> ?_⟩;have:=List.all_eq_true.1 s t ht;simp only [Bool.and_eq_true,List.contains_iff_mem] at this;exact(g.2.2 t this.2).trans (h.2.2 t this.1)
theorem Kp.get{l:List Nat}{a b:Act}(h:Kp l a b){t:Nat}{v:Value}(hv:a.tmps[t]? =some v)(ht:l.contains t=true):b.tmps[t]? =some v:=(h.2.2 t (by simpa using ht)).trans hv
theorem xD7{a:Act}{k n:Nat}{v:Value}(h:a.tmps[k]? =some v)(hs:a.tmps.size=n)(hk:k<n):a.tmps[k]'(by omega)=v:=(Array.getElem?_eq_some_iff.1 h).2
theorem xPN{a:Act}{t:Nat}{v:Value}(h:a.tmps[t]? =some v):a.eval (.tmp t)=v:=by
 simp only [Act.eval,Array.getD_eq_getD_getElem?,h,Option.getD_some]
end Go.Ab
end
section
namespace Go.Ab
open Go.Proofs Go.RowKit Go.Shelf
theorem xM7(i:Nat)(rs:List Rowd)(r:Rowd):zJm i (rs++ [r])=if gKey i r∈zJm i rs then zJm i rs else zJm i rs++ [gKey i r]:=by
 unfold zJm;rw [List.foldl_append]
 rfl
theorem xRw(i k:Nat)(rs:List Rowd)(r:Rowd):gSum i k (rs++ [r])=updI (gSum i k rs) (gKey i r) (IntKind.i64.wrap (gSum i k rs (gKey i r)+gKey k r)):=by
 funext y
 simp only [gSum,List.foldl_append,List.foldl_cons,List.foldl_nil,updI];by_cases h:y=gKey i r
 ·subst h;simp
 ·rw [if_neg (Ne.symm h),if_neg h]
theorem xRu(i:Nat)(rs:List Rowd)(r:Rowd):gFrm i (rs++ [r])=updI (gFrm i rs) (gKey i r) (zJe (gFrm i rs (gKey i r)) r.frm):=by
 funext y
 simp only [gFrm,List.foldl_append,List.foldl_cons,List.foldl_nil,updI];by_cases h:y=gKey i r
 ·subst h;simp
 ·rw [if_neg (Ne.symm h),if_neg h]
theorem xLF{rs:List Rowd}{j:Nat}(h:j<rs.length):rs.take (j+1)=rs.take j++ [rs[j]]:=by rw [List.take_succ_eq_append_getElem h]
theorem xVa{i:Nat}{x:Int}:∀(n:Nat) (rs:List Rowd),rs.length=n->x ∉ zJm i rs->(∀k,gSum i k rs x=0)/\gFrm i rs x=[]:=by
 intro n
 induction n with
 |zero=>
  intro rs h _;have:rs=[]:=List.length_eq_zero_iff.1 h;subst this;exact⟨fun _=>rfl,rfl⟩
 |succ n ih=>
  intro rs h hx;have e:rs=rs.take n++ [rs[n]'(by omega)]:=by rw [<-xLF (by omega)];exact(List.take_of_length_le (by omega)).symm
  rw [e] at hx ⊢;rw [xM7] at hx;have hx2:x ∉ zJm i (rs.take n)/\x≠gKey i (rs[n]'(by omega)):=by
   split at hx
   ·rename_i hm;exact⟨hx,fun e=>hx (e ▸ hm)⟩
   ·rw [List.mem_append] at hx;exact⟨fun h=>hx (.inl h),fun e=>hx (.inr (by simp [e]))⟩
  obtain⟨h1,h2⟩:=ih (rs.take n) (by rw [List.length_take];omega) hx2.1;refine⟨fun k=> ?_,?_⟩
  ·rw [xRw];simp only [updI,if_neg hx2.2];exact h1 k
  ·rw [xRu];simp only [updI,if_neg hx2.2];exact h2
theorem xWx(a b:List Org):(zJe a b).length<=a.length+b.length:=by
 unfold zJe;rw [List.length_mergeSort];have:=xU5 (a++b)
 rwa [jA] at this
theorem xWQ{i L:Nat}{x:Int}:∀(rs:List Rowd),(∀r∈rs,r.frm.length<=L)->(gFrm i rs x).length<=rs.length*L:=by
 have key:∀(rs:List Rowd) (f:List Org),(∀r∈rs,r.frm.length<=L)->(rs.foldl (fun f r=>if gKey i r=x then zJe f r.frm else f) f).length<=f.length+rs.length*L:=by
  intro rs
  induction rs with
  |nil=>intro f _;simp
  |cons r rs ih=>
   intro f h;rw [List.foldl_cons];refine Nat.le_trans (ih _ fun q hq=>h q (List.mem_cons_of_mem _ hq)) ?_;have hr:=h r List.mem_cons_self;have hu:=xWx f r.frm;rw [jC,Nat.add_mul];split <;>omega
 intro rs h;have:=key rs [] h;unfold gFrm;simpa using this
theorem xRv(i:Nat):∀(rs:List Rowd),(zJm i rs).length<=rs.length:=by
 have key:∀(rs:List Rowd) (ks:List Int),(rs.foldl (fun ks r=>if gKey i r∈ks then ks else ks++ [gKey i r]) ks).length<=ks.length+rs.length:=by
  intro rs
  induction rs with
  |nil=>intro f;simp
  |cons r rs ih=>
   intro ks;rw [List.foldl_cons];refine Nat.le_trans (ih _) ?_;split <;>simp <;>omega
 intro rs;simpa [zJm] using key rs []
def vAp(w:World)(v:Value)(xs:List Int):Prop:=
 ∃p c,v= .slice p xs.length c/\(xs=[]\/∃b off,p=some ⟨b,off,none⟩/\b<w.heap.size/\∀m (hm:m<xs.length),w.cell? ⟨b,off+m,none⟩=some (.int .i64 xs[m]))
def xRg(w:World)(v:Value)(rs:List Rowd):Prop:=
 ∃p c,v= .slice p rs.length c/\(rs=[]\/∃b off,p=some ⟨b,off,none⟩/\b<w.heap.size/\∀j (hj:j<rs.length),∃cv fv,w.cell? ⟨b,off+j*2,none⟩=some cv/\w.cell? ⟨b,off+j*2+1,none⟩=some fv/\vAp w cv rs[j].cells/\RowIn w fv rs[j].frm)
theorem xJt{w w' :World}{b o:Nat}(h:w'.heap[b]? =w.heap[b]?):w'.cell? ⟨b,o,none⟩=w.cell? ⟨b,o,none⟩:=by simp only [World.cell?,h]
theorem xUO{w:World}{b o:Nat}{v:Value}(h:w.cell? ⟨b,o,none⟩=some v):b<w.heap.size:=by
 by_cases hlt:b<w.heap.size
 ·exact hlt
 ·simp [World.cell?,Array.getElem?_eq_none (Nat.le_of_not_lt hlt)] at h
section
variable [Inhabited Lb]
theorem vAh{w:World}{ok:List (Nat×Nat)->Nat->Nat->Prop}{q:List (Nat×Nat)->Value->Nat->Prop}{v:Value}{os:List Org}(h:RdP w ok q v (.sl 2 (os.map Ty.org.toD))):RowIn w v os:=by
 by_cases hx:os=[]
 ·subst hx;obtain⟨ad,cap,rfl,_⟩:=RdP.shape h;exact⟨ad,cap,rfl,.inl rfl⟩
 ·obtain⟨b,off,cap,rfl,hcap,hrl,hq,u,hcl,hk⟩:=RdP.cells h (by simpa using hx);have hpos:0<(os.map Ty.org.toD).length:=by
   cases os with
   |nil=>exact absurd rfl hx
   |cons _ _=>simp
  refine⟨some ⟨b,off,none⟩,cap,by rw [List.length_map],.inr ⟨_,rfl,xUO (hcl 0 0 hpos (by decide)).1,fun j x hj=> ?_⟩⟩;have hj2:j<(orgs os).length:=(List.getElem?_eq_some_iff.1 hj).1;rw [xMU] at hj2;have e:j=j / 2*2+j % 2:=by omega
  have hm:j / 2<os.length:=by omega
  have hk2:j % 2<2:=Nat.mod_lt _ (by decide);have h1:=xNk os (j / 2) hm (j % 2) hk2;rw [<-e,hj] at h1;cases h1;have g1:=(hcl (j / 2) (j % 2) (by simpa using hm) hk2).1;have hr:((os.map Ty.org.toD)[j / 2]'(by simpa using hm))=Ty.org.toD os[j / 2]:=by rw [List.getElem_map]
  have g2:=hk (j / 2) (j % 2) (by simpa using hm) (by rw [hr];exact hk2);have ha:(⟨b,off,none⟩:Addr).add j=⟨b,off+(j / 2)*2+j % 2,none⟩:=by
   rw [show off+j / 2*2+j % 2=off+j by omega];unfold Addr.add;split
   ·rename_i h0;rw [h0];rfl
   ·rfl
  rw [ha,g1];simp only [hr] at g2;exact congrArg some (vAI g2)
theorem xVe{w:World}{ok:List (Nat×Nat)->Nat->Nat->Prop}{q:List (Nat×Nat)->Value->Nat->Prop}{v:Value}{xs:List Int}(h:RdP w ok q v (.sl 1 (xs.map fun n=> [D.int .i64 n]))):vAp w v xs:=by
 by_cases hx:xs=[]
 ·subst hx;obtain⟨ad,cap,rfl,_⟩:=RdP.shape h;exact⟨ad,cap,rfl,.inl rfl⟩
 ·obtain⟨b,off,cap,rfl,hcap,hrl,hq,u,hcl,hk⟩:=RdP.cells h (by simpa using hx);have hpos:0<(xs.map fun n=> [D.int .i64 n]).length:=by
   cases xs with
   |nil=>exact absurd rfl hx
   |cons _ _=>simp
  refine⟨some ⟨b,off,none⟩,cap,by rw [List.length_map],.inr ⟨b,off,rfl,xUO (hcl 0 0 hpos (by decide)).1,fun m hm=> ?_⟩⟩;have g1:=(hcl m 0 (by simpa using hm) (by decide)).1;have hr:((xs.map fun n=> [D.int .i64 n])[m]'(by simpa using hm))=[D.int .i64 xs[m]]:=by rw [List.getElem_map]
  have g2:=hk m 0 (by simpa using hm) (by rw [hr];exact Nat.zero_lt_one);rw [show off+m*1+0=off+m by omega] at g1;rw [g1];generalize u m 0=y at g2;simp only [hr,List.getElem_cons_zero] at g2;cases g2
  rfl
theorem xWm{w:World}{ok:List (Nat×Nat)->Nat->Nat->Prop}{q:List (Nat×Nat)->Value->Nat->Prop}{v:Value}{rs:List Rowd}(h:RdP w ok q v (.sl 2 (rs.map Rowd.toD))):xRg w v rs:=by
 by_cases hx:rs=[]
 ·subst hx;obtain⟨ad,cap,rfl,_⟩:=RdP.shape h;exact⟨ad,cap,rfl,.inl rfl⟩
 ·obtain⟨b,off,cap,rfl,hcap,hrl,hq,u,hcl,hk⟩:=RdP.cells h (by simpa using hx);have hpos:0<(rs.map Rowd.toD).length:=by
   cases rs with
   |nil=>exact absurd rfl hx
   |cons _ _=>simp
  refine⟨some ⟨b,off,none⟩,cap,by rw [List.length_map],.inr ⟨b,off,rfl,xUO (hcl 0 0 hpos (by decide)).1,fun j hj=> ?_⟩⟩;have g0:=(hcl j 0 (by simpa using hj) (by decide)).1;have g1:=(hcl j 1 (by simpa using hj) (by decide)).1;have hr:((rs.map Rowd.toD)[j]'(by simpa using hj))=Rowd.toD rs[j]:=by rw [List.getElem_map]
  have k0:=hk j 0 (by simpa using hj) (by rw [hr];exact Nat.zero_lt_succ _);have k1:=hk j 1 (by simpa using hj) (by rw [hr];exact Nat.lt_succ_self _);simp only [hr] at k0 k1;exact⟨u j 0,u j 1,by simpa using g0,g1,xVe k0,vAh k1⟩
end
theorem xVG{w:World}{g cap:Nat}{xs:List Org}(h:OrgRow w g cap xs):RowIn w (.slice (some ⟨g,0,none⟩) xs.length cap) xs:=by
 have hl:=h.lt;obtain⟨h0,cs,ty,lo,hi,h1,h2,h3,h4⟩:=h;refine⟨_,cap,rfl,.inr ⟨_,rfl,hl,fun j u hj=> ?_⟩⟩;have hj2:j<(orgs xs).length:=(List.getElem?_eq_some_iff.1 hj).1;rw [xMU] at hj2;have e:j=j / 2*2+j % 2:=by omega
 have hm:j / 2<xs.length:=by omega
 have hk2:j % 2<2:=Nat.mod_lt _ (by decide);have q1:=xNk xs (j / 2) hm (j % 2) hk2;rw [<-e,hj] at q1;cases q1;have ha:(⟨g,0,none⟩:Addr).add j=⟨g,(j / 2)*2+j % 2,none⟩:=by
  rw [<-e];unfold Addr.add;split
  ·rename_i h0;rw [h0]
  ·simp
 rw [ha];simp only [World.cell?,h1];exact h4 _ hm _ hk2
end Go.Ab
end
section
namespace Go.Ab
open Go.Proofs Go.RowKit Go.Shelf
theorem ORow.cellI{w:World}{te g cap:Nat}{xs:List Int}(h:ORow w te g cap 1 xs.length (xs.map (Value.int .i64))){j:Nat}(hj:j<xs.length):w.cell? ⟨g,j,none⟩=some (.int .i64 xs[j]):=by
 obtain⟨_,cur,h1,h2,h3,h4,h5⟩:=h;simp only [World.cell?,h1];have e:(cur.toList.take (xs.length*1))[j]? =some (.int .i64 xs[j]):=by rw [h5,List.getElem?_map,List.getElem?_eq_getElem hj];rfl
 rw [List.getElem?_take,if_pos (by omega)] at e;simpa using e
theorem ORow.holdsI{w:World}{te g cap:Nat}{xs:List Int}(h:ORow w te g cap 1 xs.length (xs.map (Value.int .i64))):Sort.Holds (Value.int .i64) w g 0 xs.toArray:=by
 intro j hj;have hj:j<xs.length:=by simpa using hj
 rw [Nat.zero_add];refine⟨?_,?_⟩
 ·rw [h.cellI hj];simp [hj]
 ·obtain⟨_,cur,h1,_⟩:=h;simp [World.frozen?,h1]
theorem xWq{w:World}{te g cap n:Nat}{xs ys:List Int}{os:Array Obj}(h:ORow w te g cap 1 xs.length (xs.map (Value.int .i64)))(hl:ys.length=xs.length):
 ORow (Sort.grow (Sort.putRow (Value.int .i64) (Sort.ahead w n) g 0 ys.toArray) os) te g cap 1 ys.length (ys.map (Value.int .i64))/\w.heap.size<=(Sort.grow (Sort.putRow (Value.int .i64) (Sort.ahead w n) g 0 ys.toArray) os).heap.size/\
  ∀b,b<w.heap.size->b≠g->(Sort.grow (Sort.putRow (Value.int .i64) (Sort.ahead w n) g 0 ys.toArray) os).heap[b]? =w.heap[b]? :=by
 have hsz:(Sort.putRow (Value.int .i64) (Sort.ahead w n) g 0 ys.toArray).heap.size=w.heap.size:=by simp [Sort.putRow,Sort.mapBlock,Sort.ahead]
 obtain⟨_,cur,h1,h2,h3,h4,h5⟩:=h;have hg:g<w.heap.size:=(Array.getElem?_eq_some_iff.1 h1).1;refine⟨⟨by simp,Sort.putCells (Value.int .i64) 0 ys.toArray cur,?_,by omega,h3,by simp [Sort.putCells,h4],?_⟩,by rw [Sort.size_grow,hsz];omega,fun b hb hne=> ?_⟩
 ·rw [Sort.heap_grow_old _ _ (by rw [hsz];exact hg)];simp only [Sort.putRow,Sort.mapBlock,Array.getElem?_modify,if_true];show Option.map _ (w.heap[g]?)=_;rw [h1];rfl
 ·refine List.ext_getElem? fun j=> ?_;rw [List.getElem?_take];by_cases hj:j<ys.length
  ·rw [if_pos (by omega),List.getElem?_map,List.getElem?_eq_getElem hj];have hc:j<cur.size:=by omega
   simp [Sort.putCells,hc,hj]
  ·rw [if_neg (by omega),List.getElem?_map,List.getElem?_eq_none (by omega)]
   rfl
 ·rw [Sort.heap_grow_old _ _ (by rw [hsz];exact hb)];simp only [Sort.putRow,Sort.mapBlock,Array.getElem?_modify];rw [if_neg (Ne.symm hne)]
  rfl
section
variable {w0 wr:World} {B tR tI:Nat} {blk:Tg->Nat} {ks kl:List Int} {sm:Int->Int} {fr:Int->List Org} {fc:Int->Nat} {nx:Option Int} {kc:Nat}
theorem GRel.rekey(h:GRel w0 wr B tR tI blk ks kl sm fr fc nx kc){wr' :World}{kl' :List Int}(hos:wr'.os=wr.os/\wr'.tape=wr.tape/\wr'.output=wr.output)(hs:wr.heap.size<=wr'.heap.size)(ho:∀b,b<wr.heap.size->b≠blk .keys->wr'.heap[b]? =wr.heap[b]?)
 (hk:ORow wr' tI (blk .keys) kc 1 kl'.length (kl'.map (Value.int .i64))):GRel w0 wr' B tR tI blk ks kl' sm fr fc nx kc:=by
 have k:∀t,Live ks nx t->t≠ .keys->wr'.heap[blk t]? =wr.heap[blk t]? :=fun t ht hn=>ho _ (h.rng t ht).2 fun e=>hn (h.inj t .keys ht trivial e);refine⟨h.map.kept (k .map trivial (by simp)) (fun _ _=>rfl),fun x hx=>(k (.box x) hx (by simp)).trans (h.box x hx),fun x hx=>(k (.cel x) hx (by simp)).trans (h.cel x hx),fun x hx hn=>(h.frm x hx hn).kept (k (.frm x) ⟨hx,hn⟩ (by simp)),h.nil,hk,h.nodup,h.inj,fun t ht=>⟨(h.rng t ht).1,Nat.lt_of_lt_of_le (h.rng t ht).2 hs⟩,?_⟩;have rk:=h.rng .keys trivial;exact h.below.trans ⟨hos.1,hos.2.1,hos.2.2,hs,fun b hb=>ho b (by omega) (by omega)⟩
end
def rowV(blk:Tg->Nat)(fr:Int->List Org)(fc:Int->Nat)(xs:List Int):List Value:=
 xs.flatMap fun x=> [.slice (some ⟨blk (.cel x),0,none⟩) 2 2,.slice (some ⟨blk (.frm x),0,none⟩) (fr x).length (fc x)]
theorem xWl(blk:Tg->Nat)(fr:Int->List Org)(fc:Int->Nat)(xs:List Int)(x:Int):
 rowV blk fr fc (xs++ [x])=rowV blk fr fc xs++ [.slice (some ⟨blk (.cel x),0,none⟩) 2 2,.slice (some ⟨blk (.frm x),0,none⟩) (fr x).length (fc x)]:=by simp [rowV]
end Go.Ab
end
section
namespace Go.Ab
open Go.Proofs Go.RowKit Go.Shelf
section
variable [Inhabited Lb]
def Env.ended(E:Env)(w' :World)(lab:Nat->Option (Nat×List (Nat×Nat)))(hwf:Nat->Nat):Env:=
 { w:=w',hw:=fun b=>match lab b with |some _=>hwf b|none=>E.hw b,
   ow:=fun b=>match lab b with |some l=>some (.arr (.h 0) l.1 l.2) |none=>(E.ow b).bind fun l=>match l with | .arr (.h 0) _ _=>none|l=>some l,
   bx:=E.bx,hdr:=E.hdr }
theorem vFL{C:Ctx}{fn:Func}{I:Info}{σ:St}{tmps:Array Value}{a' :Act}{E:Env}(hi:Inv C σ.get tmps E)(hext:∀s b,C.ext s=some b->False)(hIe:I.ext=[])(hIl:I.lnt=[]){w' :World}{B6:Nat}(hB6:E.ow B6≠none)
 (hos:w'.os=E.w.os/\w'.tape=E.w.tape/\w'.output=E.w.output) (hsz:E.w.heap.size<=w'.heap.size) (hold:∀b,b<E.w.heap.size->b≠B6->w'.heap[b]? =E.w.heap[b]?) (hd:a'.defers=[]) (hnt:a'.tmps.size=C.nt)
 {lab:Nat->Option (Nat×List (Nat×Nat))} {hwf:Nat->Nat} (inj:∀b b' l,lab b=some l->lab b' =some l->b=b') (new:∀b l,lab b=some l->E.w.heap.size<=b/\b<w'.heap.size)
 {av:AV} {v:Value} (hnb:av.nbox=none) (hres:VR (E.ended w' lab hwf) zAI (.h 0) av v) (hrun:(results fn a'.tmps).run C.P w' = .ok v w'):zGK C fn I ⟨av,[],[]⟩ a' w' :=by
 have labn:∀b,b<E.w.heap.size->lab b=none:=fun b hb=>by
  cases h:lab b with
  |none=>rfl
  |some l=>have:=(new b l h).1;omega
 have hinv:Inv C (St.get []) a'.tmps (E.ended w' lab hwf):=by
  refine { os:=hos.1.trans hi.os,tape:=hos.2.1.trans hi.tape,output:=hos.2.2.trans hi.output,size:=Nat.le_trans hi.size hsz,hdr:=hi.hdr,old:=fun b hb h0=> ?_,new:=fun b hb=> ?_,inj:=fun b b' l h1 h2=> ?_,boxhw:=fun b s h=> ?_,nt:=hnt,tmp:=fun t=>trivial,box:=fun s cs h=>by(cases h),ext:=fun s b h=>(hext s b h).elim,base:=hi.base }
  ·obtain⟨h1,h2,h3⟩:=hi.old b hb h0;have hlt:b<E.w.heap.size:=Nat.lt_of_lt_of_le hb hi.size;refine⟨(hold b hlt fun e=>hB6 (e ▸ h3)).trans h1,?_,?_⟩
   ·simp only [Env.ended,labn b hlt];exact h2
   ·simp only [Env.ended,labn b hlt,h3,Option.bind_none]
  ·have hb:w'.heap.size<=b:=hb;have hl:lab b=none:=by
    cases h:lab b with
    |none=>rfl
    |some l=>have:=(new b l h).2;omega
   obtain⟨h1,h2⟩:=hi.new b (by omega);simp only [Env.ended,hl,h1,Option.bind_none];exact⟨trivial,h2⟩
  ·simp only [Env.ended] at h1 h2;cases g1:lab b with
   |some l1=>
    cases g2:lab b' with
    |some l2=>
     rw [g1] at h1;rw [g2] at h2;simp only at h1 h2;cases h1;have:l1=l2:=by
      cases l1;cases l2;simpa using(Option.some.inj h2).symm
     subst this;exact inj b b' l1 g1 g2
    |none=>
     rw [g1] at h1;rw [g2] at h2;simp only at h1 h2;cases h1;rw [Option.bind_eq_some_iff] at h2;obtain⟨l2,_,c2⟩:=h2;split at c2
     ·cases c2
     ·rename_i hne;cases c2;exact(hne _ _ rfl).elim
   |none=>
    cases g2:lab b' with
    |some l2=>
     rw [g1] at h1;rw [g2] at h2;simp only at h1 h2;cases h2;rw [Option.bind_eq_some_iff] at h1;obtain⟨l1,_,c1⟩:=h1;split at c1
     ·cases c1
     ·rename_i hne;cases c1;exact(hne _ _ rfl).elim
    |none=>
     rw [g1] at h1;rw [g2] at h2;simp only at h1 h2;rw [Option.bind_eq_some_iff] at h1 h2;obtain⟨l1,a1,c1⟩:=h1;obtain⟨l2,a2,c2⟩:=h2;have e1:l1=l:=by split at c1 <;>first |exact Option.some.inj c1|cases c1
     have e2:l2=l:=by split at c2 <;>first |exact Option.some.inj c2|cases c2
     subst e1 e2;exact hi.inj _ _ _ a1 a2
  ·simp only [Env.ended] at h ⊢;cases g1:lab b with
   |some l1=>rw [g1] at h;simp at h
   |none=>
    rw [g1] at h;simp only at h ⊢;rw [Option.bind_eq_some_iff] at h;obtain⟨l1,a1,c1⟩:=h;have e1:l1= .box s:=by split at c1 <;>first |exact Option.some.inj c1|cases c1
    subst e1;exact hi.boxhw b s a1
 refine⟨hd,fun tg ht _ _ m=>⟨v,E.ended w' lab hwf,E.ended w' lab hwf,rfl,⟨[],hinv⟩,hrun,{ w:=rfl,hw:=rfl,bx:=rfl,hdr:=rfl,ow:=fun b h=>h,env:=hinv.env,res:=ResAt.of hres hnb,outs:=fun n s o h1 h2=>by rw [hIe] at h1;simp at h1,outl:=by rw [hIe];rfl,lents:= ?_ }⟩⟩;rw [hIl] at ht;obtain rfl:tg=[]:=List.length_eq_zero_iff.1 ht
 trivial
theorem Reach.tail{P:Program}{fn:Func}{I:Info}{σ:St}{ro:CallO}{c1 c2:Code}
 (h:∀C:Ctx,C.P=P->C.nt=I.nt->(∀s b,C.ext s=some b->s∈I.ext)->∀a w,R C σ a w->c1.wp P (Exit.then (fun a1 w1=>c2.wp P (fun e a' w' =>e= .ret/\zGK C fn I ro a' w') a1 w1) (fun _ _ _=>False)) a w):Reach P fn I [.code c1,.code c2] σ ro:=by
 intro C hP hnt hext a w hR b cs;obtain⟨e,a1,w1,hq,harr⟩:=h C hP hnt hext a w hR b [.code c2] cs;cases e with
 |normal=>
  obtain⟨e2,a2,w2,⟨rfl,hq2⟩,todo,harr2⟩:=hq b [] cs;exact⟨a2,w2,todo,hq2,harr.trans harr2⟩
 |exit id=>exact hq.elim
 |goto l=>exact hq.elim
 |ret=>exact hq.elim
 |panic c=>exact hq.elim
 |outgrown=>exact hq.elim
theorem xVH{w:World}{ok:List (Nat×Nat)->Nat->Nat->Prop}{q:List (Nat×Nat)->Value->Nat->Prop}{g cap:Nat}{xs:List Org}(h:OrgRow w g cap xs)(hok:∀o,o<xs.length*2->ok [] g o)(hq:q [] (.slice (some ⟨g,0,none⟩) xs.length cap) 2):
 RdP w ok q (.slice (some ⟨g,0,none⟩) xs.length cap) (.sl 2 (xs.map Ty.org.toD)):=by
 obtain⟨hcap,cs,ty,lo,hi,t4,t5,t6,hc⟩:=h;refine .sl g 0 xs.length cap 2 _ (fun m k=>if h:m<xs.length/\k<2 then(zAu xs[m])[k]'h.2 else .bool false) (by simp) hcap (fun r hr=> ?_) hq (fun m k hm hk=> ?_) (fun m k hm hk=> ?_)
 ·obtain⟨y,_,rfl⟩:=List.mem_map.1 hr;exact Ty.toD_length .org y
 ·rw [dif_pos ⟨hm,hk⟩];refine⟨?_,hok _ (by omega)⟩;simp only [World.cell?,t4];rw [Nat.zero_add];exact hc m hm k hk
 ·have hm' :m<xs.length:=by simpa using hm
  have hr:(xs.map Ty.org.toD)[m]=Ty.org.toD xs[m]:=by rw [List.getElem_map]
  have hk' :k<2:=by rw [hr] at hk;exact hk
  rw [dif_pos ⟨hm',hk'⟩];simp only [hr]
  match k,hk' with
  |0,_=>exact .int .i64 _
  |1,_=>exact .int .i64 _
end
end Go.Ab
end
section
namespace Go.Ab
open Go.Proofs Go.RowKit Go.Shelf
def xH7(n:Nat):Code->Option Code
 | .region i o d=>cond (i.beq n) (some (.region i o d)) none
 | .seq x y=>(xH7 n x).orElse fun _=>xH7 n y
 | .cond _ x y=>(xH7 n x).orElse fun _=>xH7 n y
 | .block _ x=>xH7 n x
 | .loop x=>xH7 n x
 |_=>none
noncomputable def Rg (n:Nat):Code:=((Tryz.f28.body).bind (xH7 n)).getD .skip
theorem grpT:GrpT Tryz.prog 3 93 94:=⟨Tryz.underlying3,Tryz.underlying93,Tryz.zeroValue94⟩
theorem vH1:(Tryz.prog.info? 3).map (fun i=>(i.zero,i.size,i.bytes))=some (some (.int .i64 0),1,8):=by kernel_rfl
theorem vH2:(Tryz.prog.info? 45).map (fun i=>(i.zero,i.size,i.bytes))=some (some (.agg #[.slice none 0 0,.slice none 0 0]),2,48):=by kernel_rfl
theorem mixG:Tryz.prog.follows .mixedOrders=true:=by kernel_rfl
set_option maxRecDepth 100000
theorem gpr8{a:Act}{w:World}(hs:a.tmps.size=153):(Rg 8).wp Tryz.prog (fun e a' w' =>e= .normal/\w' =w.alloc (.map #[] 0)/\a'.tmps[11]? =some (.map (some w.heap.size))/\Kp [3,4,5,6,9,10] a a') a w:=by
 dsimp only [Rg,Tryz.f28,Option.bind,xH7,Option.getD,cond,Nat.beq,Option.orElse];have hmm:= @run_makeMap Tryz.prog
 go_wp2
 exact xCG rfl (xCG rfl xFm)
theorem gpr9{a:Act}{w:World}(hs:a.tmps.size=153):(Rg 9).wp Tryz.prog (fun e a' w' =>e= .normal/\w' =w.alloc (.cells #[] 3 (0,0))/\a'.tmps[12]? =some (.slice (some ⟨w.heap.size,0,none⟩) 0 0)/\Kp [3,4,5,6,9,10,11] a a') a w:=by
 dsimp only [Rg,Tryz.f28,Option.bind,xH7,Option.getD,cond,Nat.beq,Option.orElse]
 go_wp2
 exact xCG rfl (xCG rfl xFm)
theorem vHG{a:Act}{w:World}(hs:a.tmps.size=153){B5 n c:Nat}{p:Option Addr}(h5:a.tmps[5]? =some (.pointer (some ⟨B5,0,none⟩)))(hc:w.cell? ⟨B5,6,none⟩=some (.slice p n c)):(Rg 10).wp Tryz.prog (fun e a' w' =>e= .normal/\w' =w/\a'.tmps[55]? =some (.slice p n c)/\a'.tmps[56]? =some (.int .i64 n)/\a'.tmps[57]? =some (.int .i64 (0:Nat))/\Kp [3,4,5,6,9,10,11,12] a a') a w:=by
 dsimp only [Rg,Tryz.f28,Option.bind,xH7,Option.getD,cond,Nat.beq,Option.orElse];have h5:=xD7 h5 hs (by decide)
 go_wp2
 exact xCG rfl (xCG rfl (xCG rfl (xCG rfl xFm)))
theorem vHH{a:Act}{w:World}(hs:a.tmps.size=153){j n:Nat}(h56:a.tmps[56]? =some (.int .i64 n))(h57:a.tmps[57]? =some (.int .i64 j)):(Rg 11).wp Tryz.prog (fun e a' w' =>e= .normal/\w' =w/\a'.tmps[58]? =some (.bool (decide (j<n)))/\Kp [3,4,5,6,9,10,11,12,55,56,57] a a') a w:=by
 dsimp only [Rg,Tryz.f28,Option.bind,xH7,Option.getD,cond,Nat.beq,Option.orElse];have h56:=xD7 h56 hs (by decide);have h57:=xD7 h57 hs (by decide)
 go_wp2
 exact xCG rfl xFm
theorem vHI{a:Act}{w:World}(hs:a.tmps.size=153){j n b off c:Nat}(hj:j<n){p1 p2:Option Addr}{n1 c1 n2 c2:Nat}(h55:a.tmps[55]? =some (.slice (some ⟨b,off,none⟩) n c))(h57:a.tmps[57]? =some (.int .i64 j))(hc:w.cell? ⟨b,off+j*2,none⟩=some (.slice p1 n1 c1))(hf:w.cell? ⟨b,off+j*2+1,none⟩=some (.slice p2 n2 c2)):
 (Rg 12).wp Tryz.prog (fun e a' w' =>e= .normal/\w' =w.alloc (.cells #[.slice p1 n1 c1,.slice p2 n2 c2] 45 (0,0))/\a'.tmps[14]? =some (.pointer (some ⟨w.heap.size,0,none⟩))/\Kp [3,4,5,6,9,10,11,12,55,56,57] a a') a w:=by
 dsimp only [Rg,Tryz.f28,Option.bind,xH7,Option.getD,cond,Nat.beq,Option.orElse];have h55:=xD7 h55 hs (by decide);have h57:=xD7 h57 hs (by decide)
 go_wp2
 exact xCG rfl (xCG rfl (xCG rfl xFm))
theorem vHJ{a:Act}{w:World}(hs:a.tmps.size=153){rb i b off c n:Nat}(hj:i<n){x:Int}(h14:a.tmps[14]? =some (.pointer (some ⟨rb,0,none⟩)))(h9:a.tmps[9]? =some (.int .i64 i))(hc:w.cell? ⟨rb,0,none⟩=some (.slice (some ⟨b,off,none⟩) n c))(hx:w.cell? ⟨b,off+i,none⟩=some (.int .i64 x)):
 (Rg 13).wp Tryz.prog (fun e a' w' =>e= .normal/\w' =w/\a'.tmps[15]? =some (.int .i64 x)/\Kp [3,4,5,6,9,10,11,12,14,55,56,57] a a') a w:=by
 dsimp only [Rg,Tryz.f28,Option.bind,xH7,Option.getD,cond,Nat.beq,Option.orElse];have h14:=xD7 h14 hs (by decide);have h9:=xD7 h9 hs (by decide)
 go_wp2
 exact xCG rfl (xCG (v:= .int .i64 x) rfl (xCG rfl (xCG rfl (xCG rfl (xCG rfl xFm)))))
theorem vHK{a:Act}{w:World}(hs:a.tmps.size=153){M:Nat}{bx:Int->Nat}{ks:List Int}{x:Int}(hm:PMap w M bx ks)(h11:a.tmps[11]? =some (.map (some M)))(h15:a.tmps[15]? =some (.int .i64 x)):
 (Rg 14).wp Tryz.prog (fun e a' w' =>e= .normal/\w' =w/\a'.tmps[69]? =some (.bool (!decide (x∈ks)))/\Kp [3,4,5,6,9,10,11,12,14,15,55,56,57] a a') a w:=by
 dsimp only [Rg,Tryz.f28,Option.bind,xH7,Option.getD,cond,Nat.beq,Option.orElse];have h11:=xD7 h11 hs (by decide);have h15:=xD7 h15 hs (by decide);have hl:=xCk grpT hm x;by_cases hx:x∈ks
 ·rw [if_pos hx,pbx] at hl
  go_wp2
  exact xCG rfl (xCG rfl (xCG rfl (xCG rfl xFm)))
 ·rw [if_neg hx] at hl
  go_wp2
  exact xCG rfl (xCG rfl (xCG rfl (xCG rfl xFm)))
theorem vHL{a:Act}{w:World}(hs:a.tmps.size=153){M:Nat}{bx:Int->Nat}{ks:List Int}{x:Int}(hm:PMap w M bx ks)(hx:x ∉ ks)(h11:a.tmps[11]? =some (.map (some M)))(h15:a.tmps[15]? =some (.int .i64 x)):
 (Rg 15).wp Tryz.prog (fun e a' w' =>e= .normal/\PMap w' M (fun y=>if y=x then w.heap.size+1 else bx y) (ks++ [x])/\((w.alloc (.cells #[.int .i64 x,.int .i64 0] 3)).alloc (.cells #[.slice (some ⟨w.heap.size,0,none⟩) 2 2,.slice none 0 0] 45)).grownBy w' (some M)/\
   w'.heap.size=((w.alloc (.cells #[.int .i64 x,.int .i64 0] 3)).alloc (.cells #[.slice (some ⟨w.heap.size,0,none⟩) 2 2,.slice none 0 0] 45)).heap.size/\Kp [3,4,5,6,9,10,11,12,14,15,55,56,57] a a') a w:=by
 dsimp only [Rg,Tryz.f28,Option.bind,xH7,Option.getD,cond,Nat.beq,Option.orElse];have h11:=xD7 h11 hs (by decide);have h15:=xD7 h15 hs (by decide);have hlt:=hm.lt;obtain⟨w',hrun,r1,r2,r3⟩:=xSk grpT (hm.kept ((xG1 (w:=w.alloc (.cells #[.int .i64 x,.int .i64 0] 3)) (o:= .cells #[.slice (some ⟨w.heap.size,0,none⟩) 2 2,.slice none 0 0] 45) (by rw [xFz];omega)).trans (xG1 hlt)) (fun _ _=>rfl)) x hx (w.heap.size+1);rw [pbx] at hrun
 go_wp2
 exact xCG rfl (xCG rfl (xCG rfl (xCG rfl (xCG rfl (xCG rfl xFm)))))
theorem vHM{a:Act}{w:World}(hs:a.tmps.size=153){kb kc:Nat}{ks:List Int}{x:Int}(hlen:ks.length<=1000)(hk:ORow w 3 kb kc 1 ks.length (ks.map (Value.int .i64)))(h12:a.tmps[12]? =some (.slice (some ⟨kb,0,none⟩) ks.length kc))(h15:a.tmps[15]? =some (.int .i64 x)):
 (Rg 16).wp Tryz.prog (fun e a' w' =>e= .normal/\∃kb' kc',ORow w' 3 kb' kc' 1 (ks++ [x]).length ((ks++ [x]).map (Value.int .i64))/\(w.alloc (.cells #[.int .i64 x] 3)).grownBy w' (some kb)/\(kb' =kb\/kb' =(w.alloc (.cells #[.int .i64 x] 3)).heap.size)/\a'.tmps[12]? =some (.slice (some ⟨kb',0,none⟩) (ks++ [x]).length kc')/\Kp [3,4,5,6,9,10,11,14,15,55,56,57] a a') a w:=by
 dsimp only [Rg,Tryz.f28,Option.bind,xH7,Option.getD,cond,Nat.beq,Option.orElse];have h12:=xD7 h12 hs (by decide);have h15:=xD7 h15 hs (by decide);obtain⟨i0,hi,hz0,hz1,hz2⟩:=info_parts vH1;have hkl:kb<w.heap.size:=by
  obtain⟨_,cur,h,_⟩:=hk;exact(Array.getElem?_eq_some_iff.1 h).1
 have hnew:(w.alloc (.cells #[.int .i64 x] 3)).heap[w.heap.size]? =some (.cells #[.int .i64 x] 3 (0,0)):=by
  show(Array.push _ _)[_]? =_;rw [Array.getElem?_push,if_pos rfl]
 have hcell:(w.alloc (.cells #[.int .i64 x] 3)).cell? ⟨w.heap.size,0,none⟩=some (.int .i64 x):=by simp only [World.cell?,hnew];rfl
 go_wp2_with (at_builtin;go_loud (refine xOQ (sz:=1) (bytes:=8) _ Tryz.underlying42 rfl _ _ rfl i0 hi hz0 hz1 hz2 rfl (by decide) (by decide) 0 (n:=ks.length) (xs:=ks.map (Value.int .i64)) (v:= .slice (some ⟨kb,0,none⟩) ks.length kc) (by simp [Act.eval,hs]) (hk.kept (xG1 hkl)).owns ⟨w.heap.size,0,none⟩ 1 1 [.int .i64 x] (by simp [Act.eval,hs]) rfl (fun j u hj=>by(match j,hj with |0,hj=>simp at hj;subst hj;exact hcell)) (by simp [Value.oneCell']) (by omega) (Nat.zero_le _) ?_;intro v' w' o1 o2 o3 o4;obtain⟨kb',kc',rfl,_,o5⟩:=ORow.of_owns o1 (by omega)))
 refine⟨kb',kc',by simpa using o5,o2,by simpa [Value.ownBlock] using o4,⟨rfl,rfl⟩,?_⟩;exact xCG rfl (xCG rfl (xCG rfl (xCG rfl (xCG rfl xFm))))
theorem vHP{a:Act}{w:World}(hs:a.tmps.size=153){j:Nat}(hj:j<1000)(h57:a.tmps[57]? =some (.int .i64 j)):
 (Rg 19).wp Tryz.prog (fun e a' w' =>e= .normal/\w' =w/\a'.tmps[57]? =some (.int .i64 (j+1:Nat))/\Kp [3,4,5,6,9,10,11,12,55,56] a a') a w:=by
 dsimp only [Rg,Tryz.f28,Option.bind,xH7,Option.getD,cond,Nat.beq,Option.orElse];have h57:=xD7 h57 hs (by decide)
 go_wp2
 exact xCG rfl (xCG rfl xFm)
end Go.Ab
end
section
namespace Go.Ab
open Go.Proofs Go.RowKit Go.Shelf
set_option maxRecDepth 100000
theorem vHN{a:Act}{w:World}(hs:a.tmps.size=153){M rb cb k b off nn c:Nat}{bx:Int->Nat}{ks:List Int}{x s n:Int}(hm:PMap w M bx ks)(hx:x∈ks)(hk:k<nn)(h11:a.tmps[11]? =some (.map (some M)))(h15:a.tmps[15]? =some (.int .i64 x))(h10:a.tmps[10]? =some (.int .i64 k))(h14:a.tmps[14]? =some (.pointer (some ⟨rb,0,none⟩)))
 (hbox:w.cell? ⟨bx x,0,none⟩=some (.slice (some ⟨cb,0,none⟩) 2 2)) (hcel:w.cell? ⟨cb,1,none⟩=some (.int .i64 s)) (hrow:w.cell? ⟨rb,0,none⟩=some (.slice (some ⟨b,off,none⟩) nn c)) (hn:w.cell? ⟨b,off+k,none⟩=some (.int .i64 n)) (hfz:w.frozen? ⟨cb,1,none⟩=false):
 (Rg 17).wp Tryz.prog (fun e a' w' =>e= .normal/\w' =w.drew.setCell ⟨cb,1,none⟩ (.int .i64 (IntKind.i64.wrap (s+n)))/\Kp [3,4,5,6,9,10,11,12,14,15,55,56,57] a a') a w:=by
 dsimp only [Rg,Tryz.f28,Option.bind,xH7,Option.getD,cond,Nat.beq,Option.orElse];have h11:=xD7 h11 hs (by decide);have h15:=xD7 h15 hs (by decide);have h10:=xD7 h10 hs (by decide);have h14:=xD7 h14 hs (by decide);have hl:=xCk grpT (w:=w.drew) hm x;rw [if_pos hx,pbx] at hl;refine xMu (fun u=>u=w.drew) 21 mixG ?_;show xKR _ _ _ _ _ _ 22 _ _ w.drew;have hT:w.drew=w.drew:=rfl;refine xA9 (v:=(.map (some M))) 0 rfl (by kernel_rfl) (fun _ _ _ h=>nomatch h.1) rfl hT (fun w hw=> ?_) ?_
 ·obtain rfl:=hw
  any_goals go_simp
 refine xA9 (v:=(.int .i64 x)) 1 rfl (by kernel_rfl) (fun _ _ _ h=>nomatch h.1) rfl hT (fun w hw=> ?_) ?_
 ·obtain rfl:=hw
  any_goals go_simp
 refine xA9 (v:=(.pointer (some ⟨bx x,0,none⟩))) 2 rfl (by kernel_rfl) (fun _ _ _ h=>nomatch h.1) rfl hT (fun w hw=> ?_) ?_
 ·obtain rfl:=hw
  any_goals go_simp
 refine xA9 (v:=(.pointer (some ⟨bx x,0,none⟩))) 3 rfl (by kernel_rfl) (fun _ _ _ h=>nomatch h.1) rfl hT (fun w hw=> ?_) ?_
 ·obtain rfl:=hw
  any_goals go_simp
 refine xA9 (v:=(.pointer (some ⟨bx x,0,none⟩))) 4 rfl (by kernel_rfl) (fun _ _ _ h=>nomatch h.1) rfl hT (fun w hw=> ?_) ?_
 ·obtain rfl:=hw
  any_goals go_simp
 refine xA9 (v:=(.slice (some ⟨cb,0,none⟩) 2 2)) 5 rfl (by kernel_rfl) (fun _ _ _ h=>nomatch h.1) rfl hT (fun w hw=> ?_) ?_
 ·obtain rfl:=hw
  any_goals go_simp
 refine xA9 (v:=(.map (some M))) 6 rfl (by kernel_rfl) (fun _ _ _ h=>nomatch h.1) rfl hT (fun w hw=> ?_) ?_
 ·obtain rfl:=hw
  any_goals go_simp
 refine xA9 (v:=(.int .i64 x)) 7 rfl (by kernel_rfl) (fun _ _ _ h=>nomatch h.1) rfl hT (fun w hw=> ?_) ?_
 ·obtain rfl:=hw
  any_goals go_simp
 refine xA9 (v:=(.pointer (some ⟨bx x,0,none⟩))) 8 rfl (by kernel_rfl) (fun _ _ _ h=>nomatch h.1) rfl hT (fun w hw=> ?_) ?_
 ·obtain rfl:=hw
  any_goals go_simp
 refine xA9 (v:=(.pointer (some ⟨bx x,0,none⟩))) 9 rfl (by kernel_rfl) (fun _ _ _ h=>nomatch h.1) rfl hT (fun w hw=> ?_) ?_
 ·obtain rfl:=hw
  any_goals go_simp
 refine xA9 (v:=(.pointer (some ⟨bx x,0,none⟩))) 10 rfl (by kernel_rfl) (fun _ _ _ h=>nomatch h.1) rfl hT (fun w hw=> ?_) ?_
 ·obtain rfl:=hw
  any_goals go_simp
 refine xA9 (v:=(.slice (some ⟨cb,0,none⟩) 2 2)) 11 rfl (by kernel_rfl) (fun _ _ _ h=>nomatch h.1) rfl hT (fun w hw=> ?_) ?_
 ·obtain rfl:=hw
  any_goals go_simp
 refine xA9 (v:=(.pointer (some ⟨cb,1,none⟩))) 12 rfl (by kernel_rfl) (fun _ _ _ h=>nomatch h.1) rfl hT (fun w hw=> ?_) ?_
 ·obtain rfl:=hw
  any_goals go_simp
 refine xA9 (v:=(.int .i64 s)) 13 rfl (by kernel_rfl) (fun _ _ _ h=>nomatch h.1) rfl hT (fun w hw=> ?_) ?_
 ·obtain rfl:=hw
  any_goals go_simp
 refine xA9 (v:=(.pointer (some ⟨rb,0,none⟩))) 14 rfl (by kernel_rfl) (fun _ _ _ h=>nomatch h.1) rfl hT (fun w hw=> ?_) ?_
 ·obtain rfl:=hw
  any_goals go_simp
 refine xA9 (v:=(.slice (some ⟨b,off,none⟩) nn c)) 15 rfl (by kernel_rfl) (fun _ _ _ h=>nomatch h.1) rfl hT (fun w hw=> ?_) ?_
 ·obtain rfl:=hw
  any_goals go_simp
 refine xA9 (v:=(.int .i64 k)) 16 rfl (by kernel_rfl) (fun _ _ _ h=>nomatch h.1) rfl hT (fun w hw=> ?_) ?_
 ·obtain rfl:=hw
  any_goals go_simp
 refine xA9 (v:=(.pointer (some ⟨b,off+k,none⟩))) 17 rfl (by kernel_rfl) (fun _ _ _ h=>nomatch h.1) rfl hT (fun w hw=> ?_) ?_
 ·obtain rfl:=hw
  any_goals go_simp
 refine xA9 (v:=(.int .i64 n)) 18 rfl (by kernel_rfl) (fun _ _ _ h=>nomatch h.1) rfl hT (fun w hw=> ?_) ?_
 ·obtain rfl:=hw
  any_goals go_simp
 refine xA9 (v:=(.int .i64 (IntKind.i64.wrap (s+n)))) 19 rfl (by kernel_rfl) (fun _ _ _ h=>nomatch h.1) rfl hT (fun w hw=> ?_) ?_
 ·obtain rfl:=hw
  any_goals go_simp
 refine xA9 (v:=(.pointer (some ⟨cb,1,none⟩))) 20 rfl (by kernel_rfl) (fun _ _ _ h=>nomatch h.1) rfl hT (fun w hw=> ?_) ?_
 ·obtain rfl:=hw
  any_goals go_simp
 refine xGy 21 rfl (by kernel_rfl) rfl fun K hK=> ?_
 go_simp
 refine hK _ _ ⟨.inl (by kernel_rfl),xMt (by kernel_rfl) ⟨rfl,rfl,?_⟩ _⟩
 iterate 21 refine xCG rfl ?_
 exact xFm
theorem vHO{a:Act}{w:World}(hs:a.tmps.size=153){M rb fn fc rn rc:Nat}{fp rp:Option Addr}{bx:Int->Nat}{ks:List Int}{x:Int}{os:List Org}(hm:PMap w M bx ks)(hx:x∈ks)(h11:a.tmps[11]? =some (.map (some M)))(h15:a.tmps[15]? =some (.int .i64 x))(h14:a.tmps[14]? =some (.pointer (some ⟨rb,0,none⟩)))
 (hbl:bx x<w.heap.size) (hrl:rb<w.heap.size) (hbox:w.cell? ⟨bx x,1,none⟩=some (.slice fp fn fc)) (hrow:w.cell? ⟨rb,1,none⟩=some (.slice rp rn rc)) (hfz:w.frozen? ⟨bx x,1,none⟩=false)
 (hU:Calls Tryz.prog 20 #[.slice fp fn fc,.slice rp rn rc] w.drew fun e W' =>∃br cap,e= .returned (.slice (some ⟨br,0,none⟩) os.length cap)/\Below w.heap.size w.drew W' /\w.heap.size<=br/\OrgRow W' br cap os):
 (Rg 18).wp Tryz.prog (fun e a' w' =>e= .normal/\(∃br cap W',Below w.heap.size w.drew W' /\w.heap.size<=br/\OrgRow W' br cap os/\w' =W'.setCell ⟨bx x,1,none⟩ (.slice (some ⟨br,0,none⟩) os.length cap))/\Kp [3,4,5,6,9,10,11,12,14,15,55,56,57] a a') a w:=by
 dsimp only [Rg,Tryz.f28,Option.bind,xH7,Option.getD,cond,Nat.beq,Option.orElse];have h11:=xD7 h11 hs (by decide);have h15:=xD7 h15 hs (by decide);have h14:=xD7 h14 hs (by decide);refine xMu (fun u=>PMap u M bx ks/\u.cell? ⟨bx x,1,none⟩=some (.slice fp fn fc)/\u.cell? ⟨rb,1,none⟩=some (.slice rp rn rc)) 14 mixG ?_;show xKR _ _ _ _ _ _ 15 _ _ w.drew;have hT:PMap w.drew M bx ks/\w.drew.cell? ⟨bx x,1,none⟩=some (.slice fp fn fc)/\w.drew.cell? ⟨rb,1,none⟩=some (.slice rp rn rc):=⟨hm,hbox,hrow⟩;refine xA9 (v:=(.map (some M))) 0 rfl (by kernel_rfl) (fun _ _ _ h=>nomatch h.1) rfl hT (fun w hw=> ?_) ?_
 ·obtain⟨t1,t2,t3⟩:=hw;have hl:=xCk grpT t1 x;rw [if_pos hx,pbx] at hl
  any_goals go_simp
 refine xA9 (v:=(.int .i64 x)) 1 rfl (by kernel_rfl) (fun _ _ _ h=>nomatch h.1) rfl hT (fun w hw=> ?_) ?_
 ·obtain⟨t1,t2,t3⟩:=hw;have hl:=xCk grpT t1 x;rw [if_pos hx,pbx] at hl
  any_goals go_simp
 refine xA9 (v:=(.pointer (some ⟨bx x,0,none⟩))) 2 rfl (by kernel_rfl) (fun _ _ _ h=>nomatch h.1) rfl hT (fun w hw=> ?_) ?_
 ·obtain⟨t1,t2,t3⟩:=hw;have hl:=xCk grpT t1 x;rw [if_pos hx,pbx] at hl
  any_goals go_simp
 refine xA9 (v:=(.map (some M))) 3 rfl (by kernel_rfl) (fun _ _ _ h=>nomatch h.1) rfl hT (fun w hw=> ?_) ?_
 ·obtain⟨t1,t2,t3⟩:=hw;have hl:=xCk grpT t1 x;rw [if_pos hx,pbx] at hl
  any_goals go_simp
 refine xA9 (v:=(.int .i64 x)) 4 rfl (by kernel_rfl) (fun _ _ _ h=>nomatch h.1) rfl hT (fun w hw=> ?_) ?_
 ·obtain⟨t1,t2,t3⟩:=hw;have hl:=xCk grpT t1 x;rw [if_pos hx,pbx] at hl
  any_goals go_simp
 refine xA9 (v:=(.pointer (some ⟨bx x,0,none⟩))) 5 rfl (by kernel_rfl) (fun _ _ _ h=>nomatch h.1) rfl hT (fun w hw=> ?_) ?_
 ·obtain⟨t1,t2,t3⟩:=hw;have hl:=xCk grpT t1 x;rw [if_pos hx,pbx] at hl
  any_goals go_simp
 refine xA9 (v:=(.pointer (some ⟨bx x,0,none⟩))) 6 rfl (by kernel_rfl) (fun _ _ _ h=>nomatch h.1) rfl hT (fun w hw=> ?_) ?_
 ·obtain⟨t1,t2,t3⟩:=hw;have hl:=xCk grpT t1 x;rw [if_pos hx,pbx] at hl
  any_goals go_simp
 refine xA9 (v:=(.pointer (some ⟨bx x,1,none⟩))) 7 rfl (by kernel_rfl) (fun _ _ _ h=>nomatch h.1) rfl hT (fun w hw=> ?_) ?_
 ·obtain⟨t1,t2,t3⟩:=hw;have hl:=xCk grpT t1 x;rw [if_pos hx,pbx] at hl
  any_goals go_simp
 refine xA9 (v:=(.slice fp fn fc)) 8 rfl (by kernel_rfl) (fun _ _ _ h=>nomatch h.1) rfl hT (fun w hw=> ?_) ?_
 ·obtain⟨t1,t2,t3⟩:=hw;have hl:=xCk grpT t1 x;rw [if_pos hx,pbx] at hl
  any_goals go_simp
 refine xA9 (v:=(.pointer (some ⟨rb,1,none⟩))) 9 rfl (by kernel_rfl) (fun _ _ _ h=>nomatch h.1) rfl hT (fun w hw=> ?_) ?_
 ·obtain⟨t1,t2,t3⟩:=hw;have hl:=xCk grpT t1 x;rw [if_pos hx,pbx] at hl
  any_goals go_simp
 refine xA9 (v:=(.slice rp rn rc)) 10 rfl (by kernel_rfl) (fun _ _ _ h=>nomatch h.1) rfl hT (fun w hw=> ?_) ?_
 ·obtain⟨t1,t2,t3⟩:=hw;have hl:=xCk grpT t1 x;rw [if_pos hx,pbx] at hl
  any_goals go_simp
 refine xGy 11 rfl (by kernel_rfl) rfl fun K hK=> ?_
 go_simp
 go_at_call 20
 refine hU.mono ?_;rintro e W' ⟨br,cap,rfl,hb,hbr,hor⟩;have kb:∀b,b<w.heap.size->W'.heap[b]? =w.heap[b]? :=fun b hb' =>hb.block b hb';have c1:W'.cell? ⟨bx x,1,none⟩=some (.slice fp fn fc):=by rw [<-hbox];simp only [World.cell?,kb _ hbl]
 have c2:W'.cell? ⟨rb,1,none⟩=some (.slice rp rn rc):=by rw [<-hrow];simp only [World.cell?,kb _ hrl]
 have c3:W'.frozen? ⟨bx x,1,none⟩=false:=by rw [<-hfz];simp only [World.frozen?,kb _ hbl]
 have hT' :PMap W' M bx ks/\W'.cell? ⟨bx x,1,none⟩=some (.slice fp fn fc)/\W'.cell? ⟨rb,1,none⟩=some (.slice rp rn rc):=⟨hm.kept (kb _ hm.lt) (fun _ _=>rfl),c1,c2⟩;refine hK _ _ ⟨.inr hT',?_⟩;refine xGy 12 rfl (by kernel_rfl) rfl fun K hK=> ?_
 go_simp
 refine hK _ _ ⟨.inr hT',?_⟩;refine xGy 13 rfl (by kernel_rfl) rfl fun K hK=> ?_
 go_simp
 refine hK _ _ ⟨.inr hT',?_⟩;refine xGy 14 rfl (by kernel_rfl) rfl fun K hK=> ?_
 go_simp
 refine hK _ _ ⟨.inl (by kernel_rfl),xMt (by kernel_rfl) ⟨rfl,⟨br,cap,W',hb,hbr,hor,rfl⟩,?_⟩ _⟩
 iterate 14 refine xCG rfl ?_
 exact xFm
end Go.Ab
end
section
namespace Go.Ab
open Go.Proofs Go.RowKit Go.Shelf
set_option maxRecDepth 100000
theorem vAo(a b c:Int)(w:World):Calls Tryz.prog 114 #[.int .i64 a,.int .i64 b,.int .i64 c] w fun e w' =>e= .returned (.bool (decide (b<=a)&&decide (a<=c)))/\w' =w:=by
 go_enter Tryz.func114,Tryz.ntmps114
 go_wp2
 ·rename_i h
  go_ret
  rw [decide_eq_true h,Bool.true_and];exact⟨rfl,rfl⟩
 ·rename_i h
  go_ret
  rw [decide_eq_false (by omega),Bool.false_and];exact⟨rfl,rfl⟩
theorem vAR(n:Int)(w:World):Calls Tryz.prog 82 #[.int .i64 n] w fun e w' =>e= .returned (.bool (numB n))/\w' =w:=by
 have hs:∀(m:Int) (f:Ending->World->Prop),f (.returned (.bool (numB m))) w->Calls Tryz.prog 114 #[.int .i64 m,.int .i64 (-1000000000),.int .i64 1000000000] w f:=fun m f hf=>(vAo m _ _ w).mono fun e w' ⟨he,hw⟩=>by rw [he,hw];exact hf
 go_enter Tryz.func82,Tryz.ntmps82
 go_wp2_with (go_at_call 114;refine hs _ _ ?_)
 go_ret
 exact⟨rfl,rfl⟩
theorem xRa [Inhabited Lb]{fn:Func}{tmps:Array Value}{w:World}{t b:Nat}{u0 u1 u2 u3 u4 u5 u6:Value}{ty:TypeId}(hr:fn.results= #[.cell t 31])(ht:tmps.getD t undef= .pointer (some ⟨b,0,none⟩))(hb:w.heap[b]? =some (.cells #[u0,u1,u2,u3,u4,u5,u6] ty (0,0))):
 (results fn tmps).run Tryz.prog w= .ok (.agg #[u0,u1,u2,u3,u4,u5,u6]) w:=by
 refine zDF (rs:=[.cell t 31]) (vs:=[.agg #[u0,u1,u2,u3,u4,u5,u6]]) (by rw [hr]) rfl fun i x v hx hv=> ?_
 match i,hx,hv with
 |0,hx,hv=>
  cases hx;cases hv;have c0:w.cell? ⟨b,0,none⟩=some u0:=by simp only [World.cell?,hb];rfl
  have c1:w.cell? ⟨b,1,none⟩=some u1:=by simp only [World.cell?,hb];rfl
  have c2:w.cell? ⟨b,2,none⟩=some u2:=by simp only [World.cell?,hb];rfl
  have c3:w.cell? ⟨b,3,none⟩=some u3:=by simp only [World.cell?,hb];rfl
  have c4:w.cell? ⟨b,4,none⟩=some u4:=by simp only [World.cell?,hb];rfl
  have c5:w.cell? ⟨b,5,none⟩=some u5:=by simp only [World.cell?,hb];rfl
  have c6:w.cell? ⟨b,6,none⟩=some u6:=by simp only [World.cell?,hb];rfl
  unfold zF1;simp only [ht]
  go_simp
theorem vFK [Inhabited Lb](w:World):Calls Tryz.prog 46 #[.int .i64 5] w fun e w' =>e= .returned (.agg #[.int .i64 6,.int .i64 5,.int .i64 0,.string ⟨#[]⟩,.slice none 0 0,.slice none 0 0,.slice none 0 0])/\Below w.heap.size w w' :=by
 go_enter Tryz.func46,Tryz.ntmps46
 go_wp2
 refine bodyPost_ret (xRa rfl rfl (by show(Array.push _ _)[_]? =_;rw [Array.getElem?_push,if_pos rfl])) rfl ?_;exact⟨rfl,(Below.refl _ _).alloc (Nat.le_refl _) _⟩
theorem vHQ{a:Act}{w:World}(hs:a.tmps.size=153){R:World->Prop}{v:Value}(h12:a.tmps[12]? =some v)(hS:Calls Tryz.prog 81 #[v] w fun e w' =>e= .returned (.tuple #[])/\R w'):
 (Rg 20).wp Tryz.prog (fun e a' w' =>e= .normal/\R w' /\Kp [3,4,5,6,9,10,11,12] a a') a w:=by
 dsimp only [Rg,Tryz.f28,Option.bind,xH7,Option.getD,cond,Nat.beq,Option.orElse];have h12:=xD7 h12 hs (by decide)
 go_wp2_with (go_at_call 81;refine hS.mono ?_;rintro e W' ⟨rfl,hR⟩)
 exact⟨hR,xCG rfl (xCG rfl xFm)⟩
theorem vHR{a:Act}{w:World}(hs:a.tmps.size=153){B3 B4:Nat}{ta tb:ByteArray}(h3:a.tmps[3]? =some (.pointer (some ⟨B3,0,none⟩)))(h4:a.tmps[4]? =some (.pointer (some ⟨B4,0,none⟩)))(hc:w.cell? ⟨B3,3,none⟩=some (.string ta))(hd:w.cell? ⟨B4,3,none⟩=some (.string tb)):
 (Rg 21).wp Tryz.prog (fun e a' w' =>e= .normal/\w' =(w.alloc (.cells #[.string ta,.string tb] 9)).alloc (.cells #[.int .i64 5,.int .i64 0,.int .i64 0,.string ⟨#[]⟩,.slice none 0 0,.slice (some ⟨w.heap.size,0,none⟩) 2 2,.slice none 0 0] 31)/\a'.tmps[16]? =some (.pointer (some ⟨w.heap.size+1,0,none⟩))/\Kp [3,4,5,6,9,10,11,12] a a') a w:=by
 dsimp only [Rg,Tryz.f28,Option.bind,xH7,Option.getD,cond,Nat.beq,Option.orElse];have h3:=xD7 h3 hs (by decide);have h4:=xD7 h4 hs (by decide)
 go_wp2
 iterate 7 refine xCG rfl ?_
 exact xFm
theorem vHS{a:Act}{w:World}(hs:a.tmps.size=153){p:Option Addr}{n c:Nat}(h12:a.tmps[12]? =some (.slice p n c)):
 (Rg 22).wp Tryz.prog (fun e a' w' =>e= .normal/\w' =w/\a'.tmps[124]? =some (.slice p n c)/\a'.tmps[125]? =some (.int .i64 n)/\a'.tmps[126]? =some (.int .i64 (0:Nat))/\Kp [3,4,5,6,9,10,11,12,16] a a') a w:=by
 dsimp only [Rg,Tryz.f28,Option.bind,xH7,Option.getD,cond,Nat.beq,Option.orElse];have h12:=xD7 h12 hs (by decide)
 go_wp2
 exact xCG rfl (xCG rfl (xCG rfl xFm))
theorem vHT{a:Act}{w:World}(hs:a.tmps.size=153){j n:Nat}(h56:a.tmps[125]? =some (.int .i64 n))(h57:a.tmps[126]? =some (.int .i64 j)):(Rg 23).wp Tryz.prog (fun e a' w' =>e= .normal/\w' =w/\a'.tmps[127]? =some (.bool (decide (j<n)))/\Kp [3,4,5,6,9,10,11,12,16,124,125,126] a a') a w:=by
 dsimp only [Rg,Tryz.f28,Option.bind,xH7,Option.getD,cond,Nat.beq,Option.orElse];have h56:=xD7 h56 hs (by decide);have h57:=xD7 h57 hs (by decide)
 go_wp2
 exact xCG rfl xFm
theorem vHU{a:Act}{w:World}(hs:a.tmps.size=153){j n b c:Nat}(hj:j<n){x:Int}(h124:a.tmps[124]? =some (.slice (some ⟨b,0,none⟩) n c))(h126:a.tmps[126]? =some (.int .i64 j))(hc:w.cell? ⟨b,j,none⟩=some (.int .i64 x)):
 (Rg 24).wp Tryz.prog (fun e a' w' =>e= .normal/\w' =w/\a'.tmps[18]? =some (.int .i64 x)/\Kp [3,4,5,6,9,10,11,12,16,124,125,126] a a') a w:=by
 dsimp only [Rg,Tryz.f28,Option.bind,xH7,Option.getD,cond,Nat.beq,Option.orElse];have h124:=xD7 h124 hs (by decide);have h126:=xD7 h126 hs (by decide);have hc0:w.cell? ⟨b,0+j,none⟩=some (.int .i64 x):=by rw [Nat.zero_add];exact hc
 go_wp2
 exact xCG (v:= .int .i64 x) rfl (xCG rfl (xCG rfl xFm))
theorem vHV{a:Act}{w:World}(hs:a.tmps.size=153){M cb:Nat}{bx:Int->Nat}{ks:List Int}{x s:Int}(hm:PMap w M bx ks)(hx:x∈ks)(h11:a.tmps[11]? =some (.map (some M)))(h18:a.tmps[18]? =some (.int .i64 x))
 (hbox:w.cell? ⟨bx x,0,none⟩=some (.slice (some ⟨cb,0,none⟩) 2 2)) (hcel:w.cell? ⟨cb,1,none⟩=some (.int .i64 s)):
 (Rg 25).wp Tryz.prog (fun e a' w' =>e= .normal/\w' =w/\a'.tmps[139]? =some (.bool (!numB s))/\Kp [3,4,5,6,9,10,11,12,16,18,124,125,126] a a') a w:=by
 dsimp only [Rg,Tryz.f28,Option.bind,xH7,Option.getD,cond,Nat.beq,Option.orElse];have h11:=xD7 h11 hs (by decide);have h18:=xD7 h18 hs (by decide);have hl:=xCk grpT hm x;rw [if_pos hx,pbx] at hl
 go_wp2_with (go_at_call 82;refine(vAR _ _).mono ?_;rintro e W' ⟨rfl,rfl⟩)
 iterate 10 refine xCG rfl ?_
 exact xFm
theorem xG2{w:World}{b o:Nat}{cs cs' :Array Value}{ty:TypeId}{v:Value}(h:w.heap[b]? =some (.cells cs ty (0,0)))(e:cs.setIfInBounds o v=cs'):Chg w (w.setCell ⟨b,o,none⟩ v) b (.cells cs' ty (0,0)):=by
 subst e;refine⟨rfl,rfl,rfl,by simp [World.setCell],?_,fun k hk=>Below.heap_setCell w _ v k hk⟩;simp [World.setCell,Array.getElem?_modify,h]
theorem Chg.trans{w w1 w2:World}{b:Nat}{o1 o2:Obj}(h:Chg w w1 b o1)(g:Chg w1 w2 b o2):Chg w w2 b o2:=
 ⟨g.os.trans h.os,g.tape.trans h.tape,g.output.trans h.output,g.size.trans h.size,g.at',fun k hk=>(g.other k hk).trans (h.other k hk)⟩
theorem vHW [Inhabited Lb]{a:Act}{w:World}(hs:a.tmps.size=153){B6:Nat}{u0 u1 u2 u3 u4 u5 u6:Value}{ty:TypeId}(h6:a.tmps[6]? =some (.pointer (some ⟨B6,0,none⟩)))(hb:w.heap[B6]? =some (.cells #[u0,u1,u2,u3,u4,u5,u6] ty (0,0))):
 (Rg 26).wp Tryz.prog (fun e a' w' =>e= .normal/\(∃W,Below w.heap.size w W/\Chg W w' B6 (.cells #[.int .i64 6,.int .i64 5,.int .i64 0,.string ⟨#[]⟩,.slice none 0 0,.slice none 0 0,.slice none 0 0] ty (0,0)))/\Kp [3,4,5,6,9,10,11,12,16] a a') a w:=by
 dsimp only [Rg,Tryz.f28,Option.bind,xH7,Option.getD,cond,Nat.beq,Option.orElse];have h6:=xD7 h6 hs (by decide);have hbl:B6<w.heap.size:=(Array.getElem?_eq_some_iff.1 hb).1
 go_wp2_with (go_at_call 46;refine(vFK _).mono ?_;rintro e W ⟨rfl,hW⟩;have hB:W.heap[B6]? =some (.cells #[u0,u1,u2,u3,u4,u5,u6] ty (0,0)):=(hW.block _ hbl).trans hb;have f:∀o,W.frozen? ⟨B6,o,none⟩=false:=(fun o=>by simp [World.frozen?,hB]);have c0:W.cell? ⟨B6,0,none⟩=some u0:=(by simp only [World.cell?,hB];rfl);have c1:W.cell? ⟨B6,1,none⟩=some u1:=(by simp only [World.cell?,hB];rfl);have c2:W.cell? ⟨B6,2,none⟩=some u2:=(by simp only [World.cell?,hB];rfl);have c3:W.cell? ⟨B6,3,none⟩=some u3:=(by simp only [World.cell?,hB];rfl);have c4:W.cell? ⟨B6,4,none⟩=some u4:=(by simp only [World.cell?,hB];rfl);have c5:W.cell? ⟨B6,5,none⟩=some u5:=(by simp only [World.cell?,hB];rfl);have c6:W.cell? ⟨B6,6,none⟩=some u6:=(by simp only [World.cell?,hB];rfl))
 refine⟨⟨W,hW,?_⟩,xCG rfl xFm⟩;have g0:=(xG2 (o:=0) (v:= .int .i64 6) hB (by simp):Chg _ _ B6 (.cells #[.int .i64 6,u1,u2,u3,u4,u5,u6] ty (0,0)));have g1:=g0.trans (xG2 (o:=1) (v:= .int .i64 5) g0.at' (by simp):Chg _ _ B6 (.cells #[.int .i64 6,.int .i64 5,u2,u3,u4,u5,u6] ty (0,0)));have g2:=g1.trans (xG2 (o:=2) (v:= .int .i64 0) g1.at' (by simp):Chg _ _ B6 (.cells #[.int .i64 6,.int .i64 5,.int .i64 0,u3,u4,u5,u6] ty (0,0)));have g3:=g2.trans (xG2 (o:=3) (v:= .string ⟨#[]⟩) g2.at' (by simp):Chg _ _ B6 (.cells #[.int .i64 6,.int .i64 5,.int .i64 0,.string ⟨#[]⟩,u4,u5,u6] ty (0,0)));have g4:=g3.trans (xG2 (o:=4) (v:= .slice none 0 0) g3.at' (by simp):Chg _ _ B6 (.cells #[.int .i64 6,.int .i64 5,.int .i64 0,.string ⟨#[]⟩,.slice none 0 0,u5,u6] ty (0,0)));have g5:=g4.trans (xG2 (o:=5) (v:= .slice none 0 0) g4.at' (by simp):Chg _ _ B6 (.cells #[.int .i64 6,.int .i64 5,.int .i64 0,.string ⟨#[]⟩,.slice none 0 0,.slice none 0 0,u6] ty (0,0)));exact g5.trans (xG2 (o:=6) (v:= .slice none 0 0) g5.at' (by simp):Chg _ _ B6 (.cells #[.int .i64 6,.int .i64 5,.int .i64 0,.string ⟨#[]⟩,.slice none 0 0,.slice none 0 0,.slice none 0 0] ty (0,0)))
theorem vHY{a:Act}{w:World}(hs:a.tmps.size=153){j:Nat}(hj:j<1000)(h57:a.tmps[126]? =some (.int .i64 j)):
 (Rg 28).wp Tryz.prog (fun e a' w' =>e= .normal/\w' =w/\a'.tmps[126]? =some (.int .i64 (j+1:Nat))/\Kp [3,4,5,6,9,10,11,12,16,124,125] a a') a w:=by
 dsimp only [Rg,Tryz.f28,Option.bind,xH7,Option.getD,cond,Nat.beq,Option.orElse];have h57:=xD7 h57 hs (by decide)
 go_wp2
 exact xCG rfl (xCG rfl xFm)
theorem vHZ{a:Act}{w:World}(hs:a.tmps.size=153){B6 ob:Nat}{u0 u1 u2 u3 u4 u5 u6:Value}{v1 v2 v3:Int}{v4:ByteArray}{p1 p2 p3:Option Addr}{n1 n2 n3 d1 d2 d3:Nat}{ty ty' :TypeId}(h6:a.tmps[6]? =some (.pointer (some ⟨B6,0,none⟩)))(h16:a.tmps[16]? =some (.pointer (some ⟨ob,0,none⟩)))(hB:w.heap[B6]? =some (.cells #[u0,u1,u2,u3,u4,u5,u6] ty (0,0)))
 (hO:w.heap[ob]? =some (.cells #[.int .i64 v1,.int .i64 v2,.int .i64 v3,.string v4,.slice p1 n1 d1,.slice p2 n2 d2,.slice p3 n3 d3] ty' (0,0))):
 (Rg 29).wp Tryz.prog (fun e a' w' =>e= .normal/\Chg w w' B6 (.cells #[.int .i64 v1,.int .i64 v2,.int .i64 v3,.string v4,.slice p1 n1 d1,.slice p2 n2 d2,.slice p3 n3 d3] ty (0,0))/\Kp [3,4,5,6,9,10,11,12,16] a a') a w:=by
 dsimp only [Rg,Tryz.f28,Option.bind,xH7,Option.getD,cond,Nat.beq,Option.orElse];have h6:=xD7 h6 hs (by decide);have h16:=xD7 h16 hs (by decide);have f:∀o,w.frozen? ⟨B6,o,none⟩=false:=fun o=>by simp [World.frozen?,hB]
 have c0:w.cell? ⟨B6,0,none⟩=some u0:=by simp only [World.cell?,hB];rfl
 have c1:w.cell? ⟨B6,1,none⟩=some u1:=by simp only [World.cell?,hB];rfl
 have c2:w.cell? ⟨B6,2,none⟩=some u2:=by simp only [World.cell?,hB];rfl
 have c3:w.cell? ⟨B6,3,none⟩=some u3:=by simp only [World.cell?,hB];rfl
 have c4:w.cell? ⟨B6,4,none⟩=some u4:=by simp only [World.cell?,hB];rfl
 have c5:w.cell? ⟨B6,5,none⟩=some u5:=by simp only [World.cell?,hB];rfl
 have c6:w.cell? ⟨B6,6,none⟩=some u6:=by simp only [World.cell?,hB];rfl
 have e0:w.cell? ⟨ob,0,none⟩=some (.int .i64 v1):=by simp only [World.cell?,hO];rfl
 have e1:w.cell? ⟨ob,1,none⟩=some (.int .i64 v2):=by simp only [World.cell?,hO];rfl
 have e2:w.cell? ⟨ob,2,none⟩=some (.int .i64 v3):=by simp only [World.cell?,hO];rfl
 have e3:w.cell? ⟨ob,3,none⟩=some (.string v4):=by simp only [World.cell?,hO];rfl
 have e4:w.cell? ⟨ob,4,none⟩=some (.slice p1 n1 d1):=by simp only [World.cell?,hO];rfl
 have e5:w.cell? ⟨ob,5,none⟩=some (.slice p2 n2 d2):=by simp only [World.cell?,hO];rfl
 have e6:w.cell? ⟨ob,6,none⟩=some (.slice p3 n3 d3):=by simp only [World.cell?,hO];rfl
 go_wp2
 refine⟨?_,xCG rfl xFm⟩;have g0:=(xG2 (o:=0) (v:= .int .i64 v1) hB (by simp):Chg _ _ B6 (.cells #[.int .i64 v1,u1,u2,u3,u4,u5,u6] ty (0,0)));have g1:=g0.trans (xG2 (o:=1) (v:= .int .i64 v2) g0.at' (by simp):Chg _ _ B6 (.cells #[.int .i64 v1,.int .i64 v2,u2,u3,u4,u5,u6] ty (0,0)));have g2:=g1.trans (xG2 (o:=2) (v:= .int .i64 v3) g1.at' (by simp):Chg _ _ B6 (.cells #[.int .i64 v1,.int .i64 v2,.int .i64 v3,u3,u4,u5,u6] ty (0,0)));have g3:=g2.trans (xG2 (o:=3) (v:= .string v4) g2.at' (by simp):Chg _ _ B6 (.cells #[.int .i64 v1,.int .i64 v2,.int .i64 v3,.string v4,u4,u5,u6] ty (0,0)));have g4:=g3.trans (xG2 (o:=4) (v:= .slice p1 n1 d1) g3.at' (by simp):Chg _ _ B6 (.cells #[.int .i64 v1,.int .i64 v2,.int .i64 v3,.string v4,.slice p1 n1 d1,u5,u6] ty (0,0)));have g5:=g4.trans (xG2 (o:=5) (v:= .slice p2 n2 d2) g4.at' (by simp):Chg _ _ B6 (.cells #[.int .i64 v1,.int .i64 v2,.int .i64 v3,.string v4,.slice p1 n1 d1,.slice p2 n2 d2,u6] ty (0,0)));exact g5.trans (xG2 (o:=6) (v:= .slice p3 n3 d3) g5.at' (by simp):Chg _ _ B6 (.cells #[.int .i64 v1,.int .i64 v2,.int .i64 v3,.string v4,.slice p1 n1 d1,.slice p2 n2 d2,.slice p3 n3 d3] ty (0,0)))
end Go.Ab
end
section
namespace Go.Ab
open Go.Proofs Go.RowKit Go.Shelf
set_option maxRecDepth 100000
theorem vHX{a:Act}{w:World}(hs:a.tmps.size=153){M ob rn rc n1 d1 n2 d2 base:Nat}{rp p1 p2:Option Addr}{bx:Int->Nat}{ks:List Int}{x:Int}{xs:List Value}(hm:PMap w M bx ks)(hx:x∈ks)(h11:a.tmps[11]? =some (.map (some M)))(h18:a.tmps[18]? =some (.int .i64 x))(h16:a.tmps[16]? =some (.pointer (some ⟨ob,0,none⟩)))
 (hlen:rn<=1000) (hbl:bx x<base) (hol:ob<base) (hMl:M<base) (hbase:base<=w.heap.size) (hrow:w.cell? ⟨ob,6,none⟩=some (.slice rp rn rc)) (hfz:w.frozen? ⟨ob,6,none⟩=false) (hb0:w.cell? ⟨bx x,0,none⟩=some (.slice p1 n1 d1)) (hb1:w.cell? ⟨bx x,1,none⟩=some (.slice p2 n2 d2))
 (hown:w.ownsRow base 45 2 (.slice rp rn rc) rn xs):
 (Rg 27).wp Tryz.prog (fun e a' w' =>e= .normal/\(∃v' W',W'.ownsRow base 45 2 v' (rn+1) (xs++ [.slice p1 n1 d1,.slice p2 n2 d2])/\Below base w W' /\w' =W'.setCell ⟨ob,6,none⟩ v')/\Kp [3,4,5,6,9,10,11,12,16,124,125,126] a a') a w:=by
 dsimp only [Rg,Tryz.f28,Option.bind,xH7,Option.getD,cond,Nat.beq,Option.orElse];have h11:=xD7 h11 hs (by decide);have h18:=xD7 h18 hs (by decide);have h16:=xD7 h16 hs (by decide);obtain⟨i0,hi,hz0,hz1,hz2⟩:=info_parts vH2
 have keep:∀u:World,(∀b,b<base->u.heap[b]? =w.heap[b]?)->PMap u M bx ks/\u.cell? ⟨ob,6,none⟩=some (.slice rp rn rc)/\u.cell? ⟨bx x,0,none⟩=some (.slice p1 n1 d1)/\u.cell? ⟨bx x,1,none⟩=some (.slice p2 n2 d2):=fun u hu=>
  ⟨hm.kept (hu _ hMl) (fun _ _=>rfl),by rw [<-hrow];simp only [World.cell?,hu _ hol],by rw [<-hb0];simp only [World.cell?,hu _ hbl],by rw [<-hb1];simp only [World.cell?,hu _ hbl]⟩
 refine xMu (fun u=>PMap u M bx ks/\u.cell? ⟨ob,6,none⟩=some (.slice rp rn rc)/\u.cell? ⟨bx x,0,none⟩=some (.slice p1 n1 d1)/\u.cell? ⟨bx x,1,none⟩=some (.slice p2 n2 d2)) 10 mixG ?_;show xKR _ _ _ _ _ _ 11 _ _ w.drew;have hT:=keep w.drew fun _ _=>rfl;refine xA9 (v:=(.pointer (some ⟨ob,6,none⟩))) 0 rfl (by kernel_rfl) (fun _ _ _ h=>nomatch h.1) rfl hT (fun w hw=> ?_) ?_
 ·obtain⟨t1,t2,t3,t4⟩:=hw;have hl:=xCk grpT t1 x;rw [if_pos hx,pbx] at hl
  any_goals go_simp
 refine xA9 (v:=(.slice rp rn rc)) 1 rfl (by kernel_rfl) (fun _ _ _ h=>nomatch h.1) rfl hT (fun w hw=> ?_) ?_
 ·obtain⟨t1,t2,t3,t4⟩:=hw;have hl:=xCk grpT t1 x;rw [if_pos hx,pbx] at hl
  any_goals go_simp
 refine xA9 (v:=(.map (some M))) 2 rfl (by kernel_rfl) (fun _ _ _ h=>nomatch h.1) rfl hT (fun w hw=> ?_) ?_
 ·obtain⟨t1,t2,t3,t4⟩:=hw;have hl:=xCk grpT t1 x;rw [if_pos hx,pbx] at hl
  any_goals go_simp
 refine xA9 (v:=(.int .i64 x)) 3 rfl (by kernel_rfl) (fun _ _ _ h=>nomatch h.1) rfl hT (fun w hw=> ?_) ?_
 ·obtain⟨t1,t2,t3,t4⟩:=hw;have hl:=xCk grpT t1 x;rw [if_pos hx,pbx] at hl
  any_goals go_simp
 refine xA9 (v:=(.pointer (some ⟨bx x,0,none⟩))) 4 rfl (by kernel_rfl) (fun _ _ _ h=>nomatch h.1) rfl hT (fun w hw=> ?_) ?_
 ·obtain⟨t1,t2,t3,t4⟩:=hw;have hl:=xCk grpT t1 x;rw [if_pos hx,pbx] at hl
  any_goals go_simp
 refine xA9 (v:=(.pointer (some ⟨bx x,0,none⟩))) 5 rfl (by kernel_rfl) (fun _ _ _ h=>nomatch h.1) rfl hT (fun w hw=> ?_) ?_
 ·obtain⟨t1,t2,t3,t4⟩:=hw;have hl:=xCk grpT t1 x;rw [if_pos hx,pbx] at hl
  any_goals go_simp
 refine xA9 (v:=(.agg #[.slice p1 n1 d1,.slice p2 n2 d2])) 6 rfl (by kernel_rfl) (fun _ _ _ h=>nomatch h.1) rfl hT (fun w hw=> ?_) ?_
 ·obtain⟨t1,t2,t3,t4⟩:=hw;have hl:=xCk grpT t1 x;rw [if_pos hx,pbx] at hl
  any_goals go_simp
 refine xGy 7 rfl (by kernel_rfl) rfl fun K hK=> ?_
 go_simp
 have al:∀b,b<base->(w.drew.alloc (.cells #[.slice p1 n1 d1,.slice p2 n2 d2] 45)).heap[b]? =w.heap[b]? :=fun b hb=>xG1 (w:=w.drew) (by show b<w.heap.size;omega);have hnew:(w.drew.alloc (.cells #[.slice p1 n1 d1,.slice p2 n2 d2] 45)).heap[w.heap.size]? =some (.cells #[.slice p1 n1 d1,.slice p2 n2 d2] 45 (0,0)):=by
  show(Array.push _ _)[_]? =_;rw [Array.getElem?_push,if_pos (show w.heap.size=w.drew.heap.size from rfl)]
 have n0:(w.drew.alloc (.cells #[.slice p1 n1 d1,.slice p2 n2 d2] 45)).cell? ⟨w.heap.size,0,none⟩=some (.slice p1 n1 d1):=by simp only [World.cell?,hnew];rfl
 have n1' :(w.drew.alloc (.cells #[.slice p1 n1 d1,.slice p2 n2 d2] 45)).cell? ⟨w.heap.size,1,none⟩=some (.slice p2 n2 d2):=by simp only [World.cell?,hnew];rfl
 refine hK _ _ ⟨.inr (keep _ al),?_⟩;refine xGy 8 rfl (by kernel_rfl) rfl fun K hK=> ?_;refine xOR (sz:=2) (bytes:=48) _ Tryz.underlying29 _ _ rfl i0 hi hz0 hz1 hz2 rfl (by decide) (by decide) base (v:= .slice rp rn rc) (n:=rn) (xs:=xs) (by simp [Act.eval,Act.put,hs]) (hown.alloc _) ⟨w.heap.size,0,none⟩ 1 1 [.slice p1 n1 d1,.slice p2 n2 d2] (by simp [Act.eval,Act.put,hs]) rfl (fun j u hj=> ?_) (by simp [Value.oneCell']) (by omega) (by show base<=(Array.push w.heap _).size;rw [Array.size_push];omega) ?_
 ·match j,hj with
  |0,hj=>simp at hj;subst hj;exact n0
  |1,hj=>simp at hj;subst hj;exact n1'
  |j+2,hj=>simp at hj
 intro v' W' o1 o2 o3 o4;have ob1:∀g,(Value.slice rp rn rc).ownBlock=some g->base<=g:=by
  intro g hg;rcases hown.2 with ⟨e,_⟩|⟨g',cap,cur,e,h2,_⟩
  ·rw [e] at hg;cases hg
  ·rw [e] at hg;cases hg;exact h2
 have kb:∀b,b<base->W'.heap[b]? =w.heap[b]? :=fun b hb=>(o2.block b (by show b<(Array.push w.heap _).size;rw [Array.size_push];omega) (fun e=>by have:=ob1 b e.symm;omega)).trans (al b hb);have hT' :=keep W' kb;have hz:w.heap.size+1<=W'.heap.size:=by have:=o2.size;rw [show World.heap _=Array.push w.heap _ from rfl,Array.size_push] at this;exact this
 have hbw:Below base w W' :=⟨o2.os,o2.tape,o2.output,by omega,kb⟩;have cc:=hT'.2.1;have cf:W'.frozen? ⟨ob,6,none⟩=false:=by rw [<-hfz];simp only [World.frozen?,kb _ hol]
 have hv:∃q1 q2 q3,v' = .slice q1 q2 q3:=by
  obtain⟨g,cap,rfl,_⟩:=ORow.of_owns o1 (by omega);exact⟨_,_,_,rfl⟩
 obtain⟨q1,q2,q3,rfl⟩:=hv;refine hK _ _ ⟨.inr hT',?_⟩;refine xGy 9 rfl (by kernel_rfl) rfl fun K hK=> ?_
 go_simp
 refine hK _ _ ⟨.inr hT',?_⟩;refine xGy 10 rfl (by kernel_rfl) rfl fun K hK=> ?_
 go_simp
 refine hK _ _ ⟨.inl (by kernel_rfl),xMt (by kernel_rfl) ⟨rfl,⟨_,W',o1,hbw,rfl⟩,?_⟩ _⟩
 iterate 10 refine xCG rfl ?_
 exact xFm
end Go.Ab
end
section
namespace Go.Ab
open Go.Proofs Go.RowKit Go.Shelf
set_option maxRecDepth 100000
noncomputable def cH1:Code:= .seq (Rg 17) (Rg 18)
noncomputable def cB1:Code:= .seq (Rg 12) (.seq (Rg 13) (.seq (.seq (Rg 14) (.cond (.tmp 69) (.seq (Rg 15) (Rg 16)) .skip)) cH1))
noncomputable def cL1:Code:= .block 0 (.loop (.seq (Rg 11) (.seq (.cond (.tmp 58) .skip (.exit 0)) (.seq (.block 1 cB1) (Rg 19)))))
structure F1 (a:Act) (B3 B4 B6 i k M:Nat) (kv rv:Value) (n j:Nat):Prop where
 d:a.defers=[]
 s:a.tmps.size=153
 s3:a.tmps[3]? =some (.pointer (some ⟨B3,0,none⟩))
 s4:a.tmps[4]? =some (.pointer (some ⟨B4,0,none⟩))
 s6:a.tmps[6]? =some (.pointer (some ⟨B6,0,none⟩))
 s9:a.tmps[9]? =some (.int .i64 i)
 s10:a.tmps[10]? =some (.int .i64 k)
 s11:a.tmps[11]? =some (.map (some M))
 s12:a.tmps[12]? =some kv
 s55:a.tmps[55]? =some rv
 s56:a.tmps[56]? =some (.int .i64 n)
 s57:a.tmps[57]? =some (.int .i64 j)
def J1(w0:World)(rs:List Rowd)(B3 B4 B6 i k:Nat)(rv:Value)(m j:Nat)(a:Act)(w:World):Prop:=
 ∃blk fc kc,F1 a B3 B4 B6 i k (blk .map) (.slice (some ⟨blk .keys,0,none⟩) (zJm i (rs.take m)).length kc) rv rs.length j/\
  GRel w0 w w0.heap.size 45 3 blk (zJm i (rs.take m)) (zJm i (rs.take m)) (gSum i k (rs.take m)) (gFrm i (rs.take m)) fc none kc
def xRm [Inhabited Lb]:Prop:=∀(xs ys:List Org) (u v:Value) (w:World),RowIn w u xs->RowIn w v ys->xs.length+ys.length<=1000000000000->(∀x∈zH7,x.1<w.heap.size/\w.heap[x.1]? =some x.2)->
 Calls Tryz.prog 20 #[u,v] w fun e w' =>∃br cap,e= .returned (.slice (some ⟨br,0,none⟩) (zJe xs ys).length cap)/\Below w.heap.size w w' /\w.heap.size<=br/\OrgRow w' br cap (zJe xs ys)
structure RowOk (i k:Nat) (r:Rowd):Prop where
 i:i<r.cells.length
 k:k<r.cells.length
 f:r.frm.length<=100000000
theorem xU9{i:Nat}{r:Rowd}(h:i<r.cells.length):r.cells[i]=gKey i r:=by
 unfold gKey;rw [List.getD_eq_getElem?_getD,List.getElem?_eq_getElem h]
 rfl
section
variable [Inhabited Lb] {w0:World} {rs:List Rowd} {B3 B4 B6 i k:Nat} {rv:Value}
theorem xTH(hU:xRm)(hlaid:∀x∈zH7,x.1<w0.heap.size/\w0.heap[x.1]? =some x.2)(hok:∀r∈rs,RowOk i k r)(hn:rs.length<=1000){j:Nat}(hj:j<rs.length)
 {a:Act} {w:World} {blk:Tg->Nat} {fc:Int->Nat} {nx:Option Int} {kc rb:Nat} {cb coff cc fn fcap:Nat} {fp:Option Addr}
 (F:F1 a B3 B4 B6 i k (blk .map) (.slice (some ⟨blk .keys,0,none⟩) (zJm i (rs.take (j+1))).length kc) rv rs.length j)
 (h14:a.tmps[14]? =some (.pointer (some ⟨rb,0,none⟩))) (h15:a.tmps[15]? =some (.int .i64 (gKey i rs[j])))
 (hrb:w.heap[rb]? =some (.cells #[.slice (some ⟨cb,coff,none⟩) rs[j].cells.length cc,.slice fp fn fcap] 45 (0,0)))
 (hcl:cb<w0.heap.size) (hcells:∀m (hm:m<rs[j].cells.length),w0.cell? ⟨cb,coff+m,none⟩=some (.int .i64 rs[j].cells[m])) (hfr:RowIn w0 (.slice fp fn fcap) rs[j].frm)
 (hx:gKey i rs[j]∈zJm i (rs.take (j+1))) (hnx:nx=none\/nx=some (gKey i rs[j]))
 (hne:∀t,Live (zJm i (rs.take (j+1))) nx t->blk t≠rb)
 (G:GRel w0 w w0.heap.size 45 3 blk (zJm i (rs.take (j+1))) (zJm i (rs.take (j+1))) (gSum i k (rs.take j)) (gFrm i (rs.take j)) fc nx kc):
 cH1.wp Tryz.prog (fun e a' w' =>e= .normal/\J1 w0 rs B3 B4 B6 i k rv (j+1) j a' w') a w:=by
 have hr:=hok _ (List.getElem_mem hj);generalize hxk:gKey i rs[j]=x at h15 hx hnx;have bx:=G.box x hx;have cl:=G.cel x hx;have rbx:=G.rng (.box x) hx;have rcl:=G.rng (.cel x) hx;have rmp:=G.rng .map trivial;have nbc:blk (.box x)≠blk (.cel x):=fun e=>by have:=G.inj (.box x) (.cel x) hx hx e;cases this
 have nmc:blk .map≠blk (.cel x):=fun e=>by have:=G.inj .map (.cel x) trivial hx e;cases this
 have old:∀b,b<w0.heap.size->w.heap[b]? =w0.heap[b]? :=G.below.block;have hrbl:rb<w.heap.size:=(Array.getElem?_eq_some_iff.1 hrb).1;obtain⟨vp,vn,vc,hfv⟩:∃vp vn vc,frV blk fc (gFrm i (rs.take j)) nx x= .slice vp vn vc:=by
  unfold frV;split
  ·exact⟨_,_,_,rfl⟩
  ·exact⟨_,_,_,rfl⟩
 rw [hfv] at bx;refine wp_seq (wp_mono (vHN (k:=k) F.s G.map hx hr.k F.s11 h15 F.s10 h14 (by simp only [World.cell?,bx];rfl) (by simp only [World.cell?,cl];rfl) (by simp only [World.cell?,hrb];rfl) ((xJt (old _ hcl)).trans (hcells k hr.k)) (by simp [World.frozen?,cl])) ?_);rintro e a1 w1 ⟨rfl,hw1,K1⟩;rw [xU9 hr.k] at hw1;obtain⟨s',hs'⟩:∃s',IntKind.i64.wrap (gSum i k (rs.take j) x+gKey k rs[j])=s' :=⟨_,rfl⟩;rw [hs'] at hw1;have c1:Chg w w1 (blk (.cel x)) (.cells #[.int .i64 x,.int .i64 s'] 3 (0,0)):=by
  have:=xG2 (w:=w.drew) (o:=1) (v:= .int .i64 s') (cs' := #[.int .i64 x,.int .i64 s']) (b:=blk (.cel x)) cl (by simp);rw [hw1];exact⟨this.os,this.tape,this.output,this.size,this.at',this.other⟩
 clear hw1;have z1:=c1.size;have bx1:=(c1.other _ nbc).trans bx;have rb1:=(c1.other rb (fun e=>hne (.cel x) hx e.symm)).trans hrb;have hU1:Calls Tryz.prog 20 #[.slice vp vn vc,.slice fp fn fcap] w1.drew fun e W' =>∃br cap,e= .returned (.slice (some ⟨br,0,none⟩) (zJe (gFrm i (rs.take j) x) rs[j].frm).length cap)/\Below w1.heap.size w1.drew W' /\w1.heap.size<=br/\OrgRow W' br cap (zJe (gFrm i (rs.take j) x) rs[j].frm):=by
  have oldW:∀b,b<w0.heap.size->w1.heap[b]? =w0.heap[b]? :=fun b hb=>(c1.other b (by omega)).trans (old b hb);refine hU _ _ _ _ w1.drew ?_ (hfr.kept (w' :=w1.drew) (by show w0.heap.size<=w1.heap.size;omega) oldW) ?_ fun y hy=>⟨?_,(oldW _ (hlaid y hy).1).trans (hlaid y hy).2⟩
  ·by_cases hq:nx=some x
   ·rw [frV,if_pos hq] at hfv;rw [<-hfv,G.nil x hq];exact⟨none,0,rfl,.inl rfl⟩
   ·rw [frV,if_neg hq] at hfv;rw [<-hfv];refine xVG (w:=w1.drew) ((G.frm x hx hq).kept (c1.other _ fun e=> ?_));have:=G.inj (.frm x) (.cel x) ⟨hx,hq⟩ hx e;cases this
  ·have h1:=xWQ (i:=i) (L:=100000000) (x:=x) (rs.take j) fun r hr=>(hok r (List.mem_of_mem_take hr)).f;have h2:(rs.take j).length*100000000<=1000*100000000:=Nat.mul_le_mul (by rw [List.length_take];omega) (Nat.le_refl _);have:=hr.f;omega
  ·have:=(hlaid y hy).1;show y.1<w1.heap.size;omega
 have e1:a1.tmps.size=153:=K1.2.1.trans F.s;refine wp_mono (vHO e1 (G.map.kept (c1.other _ nmc) (fun _ _=>rfl)) hx (K1.get F.s11 rfl) (K1.get h15 rfl) (K1.get h14 rfl) (by omega) (by omega) (by simp only [World.cell?,bx1];rfl) (by simp only [World.cell?,rb1];rfl) (by simp [World.frozen?,bx1]) hU1) ?_;rintro e a2 w2 ⟨rfl,⟨br,cap,W',g1,g2,g3,g4⟩,K2⟩;have hbW:Below w1.heap.size w1 W' :=⟨g1.os,g1.tape,g1.output,g1.size,g1.block⟩;have c2:Chg W' w2 (blk (.box x)) (.cells #[.slice (some ⟨blk (.cel x),0,none⟩) 2 2,.slice (some ⟨br,0,none⟩) (zJe (gFrm i (rs.take j) x) rs[j].frm).length cap] 45 (0,0)):=by
  rw [g4];exact xG2 ((hbW.block _ (by omega)).trans bx1) (by simp)
 have T:=G.turn hx hnx c1 hbW g2 g3 c2;have K:=K1.trans K2 (l2:=[3,4,6,9,10,11,12,55,56,57]) rfl;refine⟨rfl,updT blk (.frm x) br,updI fc x cap,kc,?_,?_⟩
 ·have e2:updT blk (.frm x) br .map=blk .map:=if_neg (by simp);have e3:updT blk (.frm x) br .keys=blk .keys:=if_neg (by simp);rw [e2,e3];exact⟨K.1.trans F.d,K.2.1.trans F.s,K.get F.s3 rfl,K.get F.s4 rfl,K.get F.s6 rfl,K.get F.s9 rfl,K.get F.s10 rfl,K.get F.s11 rfl,K.get F.s12 rfl,K.get F.s55 rfl,K.get F.s56 rfl,K.get F.s57 rfl⟩
 ·have q1:updI (gSum i k (rs.take j)) x s' =gSum i k (rs.take (j+1)):=by rw [xLF hj,xRw,hxk,hs']
  have q2:updI (gFrm i (rs.take j)) x (zJe (gFrm i (rs.take j) x) rs[j].frm)=gFrm i (rs.take (j+1)):=by rw [xLF hj,xRu,hxk]
  rw [q1,q2] at T;exact T
theorem xVb(hU:xRm)(hlaid:∀x∈zH7,x.1<w0.heap.size/\w0.heap[x.1]? =some x.2)(hrs:xRg w0 rv rs)(hok:∀r∈rs,RowOk i k r)(hn:rs.length<=1000){j:Nat}(hj:j<rs.length){a:Act}{w:World}(hJ:J1 w0 rs B3 B4 B6 i k rv j j a w):
 cB1.wp Tryz.prog (fun e a' w' =>e= .normal/\J1 w0 rs B3 B4 B6 i k rv (j+1) j a' w') a w:=by
 obtain⟨blk,fc,kc,F,G⟩:=hJ;obtain⟨p,c,rfl,hrows⟩:=hrs;obtain⟨b,off,rfl,hbl,hcell⟩:=hrows.resolve_left (fun e=>by rw [e] at hj;simp at hj);obtain⟨cv,fv,e1,e2,hi1,hi2⟩:=hcell j hj;have hr:=hok _ (List.getElem_mem hj);obtain⟨cp,cc,rfl,hints⟩:=hi1;obtain⟨cb,coff,rfl,hcbl,hcells⟩:=hints.resolve_left (fun e=>by have:=hr.i;rw [e] at this;simp at this);obtain⟨fp,fcap,rfl,_⟩:=id hi2;have old:∀b,b<w0.heap.size->w.heap[b]? =w0.heap[b]? :=G.below.block;have z0:=G.below.size;refine wp_seq (wp_mono (vHI F.s hj F.s55 F.s57 ((xJt (old _ hbl)).trans e1) ((xJt (old _ hbl)).trans e2)) ?_);rintro e a1 w1 ⟨rfl,hw1,h14,K1⟩;have hb1:Below w.heap.size w w1:=by rw [hw1];exact(Below.refl _ _).alloc (Nat.le_refl _) _
 have z1:w1.heap.size=w.heap.size+1:=by rw [hw1,xFz]
 have hrb:w1.heap[w.heap.size]? =some (.cells #[.slice (some ⟨cb,coff,none⟩) rs[j].cells.length cc,.slice fp rs[j].frm.length fcap] 45 (0,0)):=by
  rw [hw1];show(Array.push _ _)[_]? =_;rw [Array.getElem?_push,if_pos rfl]
 clear hw1;have G1:=G.grow hb1;have old1:∀b,b<w0.heap.size->w1.heap[b]? =w0.heap[b]? :=G1.below.block;have s1:a1.tmps.size=153:=K1.2.1.trans F.s;refine wp_seq (wp_mono (vHJ s1 hr.i h14 (K1.get F.s9 rfl) (by simp only [World.cell?,hrb];rfl) ((xJt (old1 _ hcbl)).trans (hcells i hr.i))) ?_);rintro e a2 w2 ⟨rfl,rfl,h15,K2⟩;rw [xU9 hr.i] at h15;have K12:=K1.trans K2 (l2:=[3,4,6,9,10,11,12,55,56,57]) rfl;have s2:a2.tmps.size=153:=K2.2.1.trans s1;refine wp_seq (wp_seq (wp_mono (vHK s2 G1.map (K12.get F.s11 rfl) h15) ?_));rintro e a3 w3 ⟨rfl,rfl,h69,K3⟩;have K13:=K12.trans K3 (l2:=[3,4,6,9,10,11,12,55,56,57]) rfl;have h14' :=K3.get (K2.get h14 rfl) rfl;have h15' :=K3.get h15 rfl;have s3:a3.tmps.size=153:=K3.2.1.trans s2;have hc69:a3.eval (.tmp 69)= .bool (!decide (gKey i rs[j]∈zJm i (rs.take j))):=xPN h69;have rng:=G.rng;by_cases hx:gKey i rs[j]∈zJm i (rs.take j)
 ·have ek:zJm i (rs.take (j+1))=zJm i (rs.take j):=by rw [xLF hj,xM7,if_pos hx]
  rw [decide_eq_true hx] at hc69;refine wp_cond_false hc69 (wp_skip ?_);refine xTH (nx:=none) hU hlaid hok hn hj (rb:=w.heap.size) (blk:=blk) (fc:=fc) (kc:=kc) ⟨K13.1.trans F.d,s3,K13.get F.s3 rfl,K13.get F.s4 rfl,K13.get F.s6 rfl,K13.get F.s9 rfl,K13.get F.s10 rfl,K13.get F.s11 rfl,by rw [ek];exact K13.get F.s12 rfl,K13.get F.s55 rfl,K13.get F.s56 rfl,K13.get F.s57 rfl⟩ h14' h15' hrb hcbl hcells hi2 (by rw [ek];exact hx) (.inl rfl) (fun t ht=> ?_) (by rw [ek];exact G1);rw [ek] at ht;have:=(rng t ht).2;omega
 ·have ek:zJm i (rs.take (j+1))=zJm i (rs.take j)++ [gKey i rs[j]]:=by rw [xLF hj,xM7,if_neg hx]
  rw [decide_eq_false hx] at hc69;refine wp_cond_true hc69 (wp_seq (wp_mono (vHL s3 G1.map hx (K13.get F.s11 rfl) h15') ?_));rintro e a4 w4 ⟨rfl,hm4,hg4,z4,K4⟩;have K14:=K13.trans K4 (l2:=[3,4,6,9,10,11,12,55,56,57]) rfl;have s4:a4.tmps.size=153:=K4.2.1.trans s3;generalize hA:(w3.alloc (.cells #[.int .i64 (gKey i rs[j]),.int .i64 0] 3)).alloc (.cells #[.slice (some ⟨w3.heap.size,0,none⟩) 2 2,.slice none 0 0] 45)=A at hg4 z4;have zA:A.heap.size=w3.heap.size+2:=by rw [<-hA,xFz,xFz]
  have hbA:Below w3.heap.size w3 A:=by rw [<-hA];exact((Below.refl _ _).alloc (Nat.le_refl _) _).alloc (by rw [xFz];omega) _
  have hcA:A.heap[w3.heap.size]? =some (.cells #[.int .i64 (gKey i rs[j]),.int .i64 0] 3 (0,0)):=by
   rw [<-hA,xG1 (by rw [xFz];omega)];show(Array.push _ _)[_]? =_;rw [Array.getElem?_push,if_pos rfl]
  have hbA2:A.heap[w3.heap.size+1]? =some (.cells #[.slice (some ⟨w3.heap.size,0,none⟩) 2 2,.slice none 0 0] 45 (0,0)):=by
   rw [<-hA];show(Array.push _ _)[_]? =_;rw [Array.getElem?_push,if_pos (xFz _ _).symm]
  clear hA;have rmap:=G1.rng .map trivial;have rkey:=G1.rng .keys trivial;have nmk:blk .keys≠blk .map:=fun e=>by have:=G1.inj .keys .map trivial trivial e;cases this
  have hk4:ORow w4 3 (blk .keys) kc 1 (zJm i (rs.take j)).length ((zJm i (rs.take j)).map (Value.int .i64)):=G1.keys.kept ((hg4.block _ (by omega) (by simpa using nmk)).trans (hbA.block _ rkey.2));have hlen:(zJm i (rs.take j)).length<=1000:=Nat.le_trans (xRv i _) (by rw [List.length_take];omega);refine wp_mono (vHM s4 hlen hk4 (K14.get F.s12 rfl) (K4.get h15' rfl)) ?_;rintro e a5 w5 ⟨rfl,kb',kc',hk5,hg5,hkb,h12,K5⟩;have K15:=K14.trans K5 (l2:=[3,4,6,9,10,11,55,56,57]) rfl;have s5:a5.tmps.size=153:=K5.2.1.trans s4;have hn0:=xVa _ (rs.take j) rfl hx;have hb45:Below w4.heap.size w4 (w4.alloc (.cells #[.int .i64 (gKey i rs[j])] 3)):=(Below.refl _ _).alloc (Nat.le_refl _) _;have G5:=G1.add hx (hn0.1 k) hn0.2 hbA (Nat.le_refl _) (Nat.le_succ _) (by omega) (by omega) (by omega) hcA hbA2 hm4 hg4 z4 hb45 hk5 hg5 hkb;have rb5:w5.heap[w.heap.size]? =w3.heap[w.heap.size]? :=by
   have rm:=rng .map trivial;have rk:=rng .keys trivial;exact(hg5.block _ (by rw [xFz];omega) (by simp;omega)).trans ((xG1 (by omega)).trans ((hg4.block _ (by omega) (by simp;omega)).trans (hbA.block _ (by omega))))
  have bm:updT (updT (updT blk (.box (gKey i rs[j])) (w3.heap.size+1)) (.cel (gKey i rs[j])) w3.heap.size) .keys kb' .map=blk .map:=by simp [updT]
  have bk:updT (updT (updT blk (.box (gKey i rs[j])) (w3.heap.size+1)) (.cel (gKey i rs[j])) w3.heap.size) .keys kb' .keys=kb' :=by simp [updT]
  have hne:∀t,Live (zJm i (rs.take j)++ [gKey i rs[j]]) (some (gKey i rs[j])) t->updT (updT (updT blk (.box (gKey i rs[j])) (w3.heap.size+1)) (.cel (gKey i rs[j])) w3.heap.size) .keys kb' t≠w.heap.size:=by
   intro t ht;by_cases n1:t= .keys
   ·subst n1;rw [bk];have:=(rng .keys trivial).2;rcases hkb with e|e
    ·omega
    ·rw [xFz] at e;omega
   ·by_cases n2:t= .cel (gKey i rs[j])
    ·subst n2;simp [updT];omega
    ·by_cases n3:t= .box (gKey i rs[j])
     ·subst n3;simp [updT];omega
     ·have e0:updT (updT (updT blk (.box (gKey i rs[j])) (w3.heap.size+1)) (.cel (gKey i rs[j])) w3.heap.size) .keys kb' t=blk t:=by simp [updT,n1,n2,n3]
      rw [e0];have hl:Live (zJm i (rs.take j)) none t:=by
       cases t with
       |map=>trivial
       |keys=>trivial
       |box y=>
        rcases List.mem_append.1 (show y∈zJm i (rs.take j)++ [gKey i rs[j]] from ht) with e|e
        ·exact e
        ·simp at e;subst e;exact absurd rfl n3
       |cel y=>
        rcases List.mem_append.1 (show y∈zJm i (rs.take j)++ [gKey i rs[j]] from ht) with e|e
        ·exact e
        ·simp at e;subst e;exact absurd rfl n2
       |frm y=>
        obtain⟨e,e2⟩:=ht;rcases List.mem_append.1 e with e|e
        ·exact⟨e,by simp⟩
        ·simp at e;subst e;exact absurd rfl e2
      have:=(rng t hl).2;omega
  refine xTH (nx:=some (gKey i rs[j])) hU hlaid hok hn hj (rb:=w.heap.size) (blk:=updT (updT (updT blk (.box (gKey i rs[j])) (w3.heap.size+1)) (.cel (gKey i rs[j])) w3.heap.size) .keys kb') (fc:=fc) (kc:=kc') ⟨K15.1.trans F.d,s5,K15.get F.s3 rfl,K15.get F.s4 rfl,K15.get F.s6 rfl,K15.get F.s9 rfl,K15.get F.s10 rfl,by rw [bm];exact K15.get F.s11 rfl,by rw [ek,bk];exact h12,K15.get F.s55 rfl,K15.get F.s56 rfl,K15.get F.s57 rfl⟩ (K5.get (K4.get h14' rfl) rfl) (K5.get (K4.get h15' rfl) rfl) (rb5.trans hrb) hcbl hcells hi2 (by rw [ek];simp) (.inr rfl) (by rw [ek];exact hne) (by rw [ek];exact G5)
theorem xWT(hU:xRm)(hlaid:∀x∈zH7,x.1<w0.heap.size/\w0.heap[x.1]? =some x.2)(hrs:xRg w0 rv rs)(hok:∀r∈rs,RowOk i k r)(hn:rs.length<=1000){a:Act}{w:World}(hJ:J1 w0 rs B3 B4 B6 i k rv 0 0 a w):
 cL1.wp Tryz.prog (fun e a' w' =>e= .normal/\J1 w0 rs B3 B4 B6 i k rv rs.length rs.length a' w') a w:=by
 refine wp_block ?_;refine wp_loop (fun a w=>∃j,j<=rs.length/\J1 w0 rs B3 B4 B6 i k rv j j a w) (fun a _=>rs.length - (RowKit.intOf (a.tmps.getD 57 undef)).toNat) ⟨0,Nat.zero_le _,hJ⟩ ?_;rintro a w ⟨j,hj,hJ⟩;obtain⟨blk,fc,kc,F,G⟩:=id hJ;have m0:(RowKit.intOf (a.tmps.getD 57 undef)).toNat=j:=by
  rw [show a.tmps.getD 57 undef= .int .i64 j from xPN F.s57];simp [RowKit.intOf]
 refine wp_seq (wp_mono (vHH F.s F.s56 F.s57) ?_);rintro e a1 w1 ⟨rfl,rfl,h58,K1⟩;have F1' :F1 a1 B3 B4 B6 i k (blk .map) (.slice (some ⟨blk .keys,0,none⟩) (zJm i (rs.take j)).length kc) rv rs.length j:=⟨K1.1.trans F.d,K1.2.1.trans F.s,K1.get F.s3 rfl,K1.get F.s4 rfl,K1.get F.s6 rfl,K1.get F.s9 rfl,K1.get F.s10 rfl,K1.get F.s11 rfl,K1.get F.s12 rfl,K1.get F.s55 rfl,K1.get F.s56 rfl,K1.get F.s57 rfl⟩;have hc:a1.eval (.tmp 58)= .bool (decide (j<rs.length)):=xPN h58;by_cases hlt:j<rs.length
 ·rw [decide_eq_true hlt] at hc;refine wp_seq (wp_cond_true hc (wp_skip ?_));refine wp_seq (wp_block ?_);refine wp_mono (xVb hU hlaid hrs hok hn hlt ⟨blk,fc,kc,F1',G⟩) ?_;rintro e a2 w2 ⟨rfl,blk2,fc2,kc2,F2,G2⟩;refine wp_mono (vHP F2.s (by omega) F2.s57) ?_;rintro e a3 w3 ⟨rfl,rfl,h57,K3⟩;refine⟨⟨j+1,hlt,blk2,fc2,kc2,⟨K3.1.trans F2.d,K3.2.1.trans F2.s,K3.get F2.s3 rfl,K3.get F2.s4 rfl,K3.get F2.s6 rfl,K3.get F2.s9 rfl,K3.get F2.s10 rfl,K3.get F2.s11 rfl,K3.get F2.s12 rfl,K3.get F2.s55 rfl,K3.get F2.s56 rfl,h57⟩,G2⟩,?_⟩;have m1:(RowKit.intOf (a3.tmps.getD 57 undef)).toNat=j+1:=by
   rw [show a3.tmps.getD 57 undef= .int .i64 (j+1:Nat) from xPN h57];simp [RowKit.intOf] <;>omega
  rw [m0,m1];omega
 ·rw [decide_eq_false hlt] at hc;obtain rfl:j=rs.length:=by omega
  refine wp_seq (wp_cond_false hc (wp_exit ?_));simp only [Exit.then,Exit.inBlock,if_true];exact⟨trivial,blk,fc,kc,F1',G⟩
end
end Go.Ab
end
section
namespace Go.Ab
open Go.Proofs Go.RowKit Go.Shelf
set_option maxRecDepth 100000
noncomputable def cB2:Code:= .seq (Rg 24) (.seq (.seq (Rg 25) (.cond (.tmp 139) (.seq (Rg 26) .ret) .skip)) (Rg 27))
noncomputable def cL2:Code:= .block 2 (.loop (.seq (Rg 23) (.seq (.cond (.tmp 127) .skip (.exit 2)) (.seq (.block 3 cB2) (Rg 28)))))
noncomputable def cT2:Code:= .seq (Rg 29) .ret
noncomputable def cS2:Code:= .seq (.seq (Rg 22) cL2) cT2
noncomputable def cS1:Code:= .seq (Rg 20) (.seq (Rg 21) cS2)
noncomputable def cAll:Code:= .seq (Rg 9) (.seq (.seq (Rg 10) cL1) cS1)
def xTE:Array Value:= #[.int .i64 6,.int .i64 5,.int .i64 0,.string ⟨#[]⟩,.slice none 0 0,.slice none 0 0,.slice none 0 0]
def xK9(cb:Nat)(rv:Value):Array Value:= #[.int .i64 5,.int .i64 0,.int .i64 0,.string ⟨#[]⟩,.slice none 0 0,.slice (some ⟨cb,0,none⟩) 2 2,rv]
structure Tab (w0 W:World) (ks xs:List Int) (sm:Int->Int) (fr:Int->List Org) (ta tb:ByteArray) (blk:Tg->Nat) (fc:Int->Nat) (cb:Nat) (rv:Value):Prop where
 rel:∃kc,GRel w0 W w0.heap.size 45 3 blk ks xs sm fr fc none kc
 lt:∀t,Live ks none t->blk t<cb
 col:W.heap[cb]? =some (.cells #[.string ta,.string tb] 9 (0,0))
 rows:W.ownsRow (cb+2) 45 2 rv xs.length (rowV blk fr fc xs)
 size:cb+2<=W.heap.size
def GOut(w0:World)(ks xs:List Int)(sm:Int->Int)(fr:Int->List Org)(ta tb:ByteArray)(B6:Nat)(ty:TypeId)(a' :Act)(w' :World):Prop:=
 a'.defers=[]/\a'.tmps.size=153/\a'.tmps[6]? =some (.pointer (some ⟨B6,0,none⟩))/\∃W,Below w0.heap.size w0 W/\
  ((xs.all (fun x=>numB (sm x))=false/\Chg W w' B6 (.cells xTE ty (0,0)))\/
   (xs.all (fun x=>numB (sm x))=true/\∃blk fc cb rv,Chg W w' B6 (.cells (xK9 cb rv) ty (0,0))/\Tab w0 W ks xs sm fr ta tb blk fc cb rv))
structure F2 (a:Act) (B6 M ob:Nat) (kv:Value) (n m:Nat):Prop where
 d:a.defers=[]
 s:a.tmps.size=153
 s6:a.tmps[6]? =some (.pointer (some ⟨B6,0,none⟩))
 s11:a.tmps[11]? =some (.map (some M))
 s16:a.tmps[16]? =some (.pointer (some ⟨ob,0,none⟩))
 s124:a.tmps[124]? =some kv
 s125:a.tmps[125]? =some (.int .i64 n)
 s126:a.tmps[126]? =some (.int .i64 m)
structure W2 (w0 wS w:World) (ks xs:List Int) (sm:Int->Int) (fr:Int->List Org) (ta tb:ByteArray) (blk:Tg->Nat) (fc:Int->Nat) (kc S m:Nat) (rv:Value):Prop where
 rel:GRel w0 wS w0.heap.size 45 3 blk ks xs sm fr fc none kc
 hS:S=wS.heap.size
 below:Below S wS w
 size:S+2<=w.heap.size
 col:w.heap[S]? =some (.cells #[.string ta,.string tb] 9 (0,0))
 out:w.heap[S+1]? =some (.cells (xK9 S rv) 31 (0,0))
 rows:w.ownsRow (S+2) 45 2 rv m (rowV blk fr fc (xs.take m))
 nums:∀x∈xs.take m,numB (sm x)=true
section
variable [Inhabited Lb] {w0 wS:World} {ks xs:List Int} {sm:Int->Int} {fr:Int->List Org} {ta tb:ByteArray} {blk:Tg->Nat} {fc:Int->Nat} {kc S B6:Nat} {ty:TypeId} {u0 u1 u2 u3 u4 u5 u6:Value}
theorem W2.rel' {w:World}{m:Nat}{rv:Value}(h:W2 w0 wS w ks xs sm fr ta tb blk fc kc S m rv):GRel w0 w w0.heap.size 45 3 blk ks xs sm fr fc none kc:=h.rel.grow (by have:=h.below;rwa [h.hS] at this)
theorem xNl{w:World}{base te sz n:Nat}{v:Value}{xs:List Value}(h:w.ownsRow base te sz v n xs):∃p c,v= .slice p n c:=by
 rcases h.2 with ⟨rfl,rfl⟩|⟨g,cap,cur,rfl,_⟩
 ·exact⟨_,_,rfl⟩
 ·exact⟨_,_,rfl⟩
theorem xVc(hperm:∀x∈xs,x∈ks)(hn:xs.length<=1000)(h6:B6<w0.heap.size)(hB6:w0.heap[B6]? =some (.cells #[u0,u1,u2,u3,u4,u5,u6] ty (0,0))){m:Nat}(hm:m<xs.length){a:Act}{w:World}{rv:Value}
 (F:F2 a B6 (blk .map) (S+1) (.slice (some ⟨blk .keys,0,none⟩) xs.length kc) xs.length m) (H:W2 w0 wS w ks xs sm fr ta tb blk fc kc S m rv):
 cB2.wp Tryz.prog (Exit.then (fun a' w' =>F2 a' B6 (blk .map) (S+1) (.slice (some ⟨blk .keys,0,none⟩) xs.length kc) xs.length m/\∃rv',W2 w0 wS w' ks xs sm fr ta tb blk fc kc S (m+1) rv') (fun e a' w' =>e= .ret/\GOut w0 ks xs sm fr ta tb B6 ty a' w')) a w:=by
 have G:=H.rel';have hx:xs[m]∈ks:=hperm _ (List.getElem_mem hm);refine wp_seq (wp_mono (vHU F.s hm F.s124 F.s126 (G.keys.cellI hm)) ?_);rintro e a1 w1 ⟨rfl,hw,h18,K1⟩;obtain rfl:w=w1:=hw.symm;have bx:=G.box _ hx;have cl:=G.cel _ hx;have s1:a1.tmps.size=153:=K1.2.1.trans F.s;refine wp_seq (wp_seq (wp_mono (vHV s1 G.map hx (K1.get F.s11 rfl) h18 (by simp only [World.cell?,bx];rfl) (by simp only [World.cell?,cl];rfl)) ?_));rintro e a2 w2 ⟨rfl,hw,h139,K2⟩;obtain rfl:w=w2:=hw.symm;have s2:a2.tmps.size=153:=K2.2.1.trans s1;have K:=K1.trans K2 (l2:=[6,11,16,124,125,126]) rfl;have hc:a2.eval (.tmp 139)= .bool (!numB (sm xs[m])):=xPN h139;have old:∀b,b<w0.heap.size->w.heap[b]? =w0.heap[b]? :=G.below.block;have z0:=G.below.size;cases hnum:numB (sm xs[m]) with
 |false=>
  rw [hnum] at hc;refine wp_cond_true hc (wp_seq (wp_mono (vHW s2 (K.get F.s6 rfl) ((old _ h6).trans hB6)) ?_));rintro e a3 w3 ⟨rfl,⟨W,hW,hC⟩,K3⟩;refine wp_ret ⟨rfl,K3.1.trans (K.1.trans F.d),K3.2.1.trans s2,K3.get (K.get F.s6 rfl) rfl,W,G.below.trans ⟨hW.os,hW.tape,hW.output,hW.size,fun b hb=>hW.block b (by omega)⟩,.inl ⟨?_,hC⟩⟩;rw [List.all_eq_false];exact⟨xs[m],List.getElem_mem hm,by rw [hnum];simp⟩
 |true=>
  rw [hnum] at hc;refine wp_cond_false hc (wp_skip ?_);obtain⟨rp,rc,rfl⟩:=xNl H.rows;have hS:=H.hS;have rb:=H.rel.rng (.box xs[m]) hx;have rm:=H.rel.rng .map trivial;have hsz:=H.size;have fv:frV blk fc fr none xs[m]= .slice (some ⟨blk (.frm xs[m]),0,none⟩) (fr xs[m]).length (fc xs[m]):=if_neg (by simp);rw [fv] at bx;have ho:=H.out;refine wp_mono (vHX s2 (base:=S+2) G.map hx (K.get F.s11 rfl) (K2.get h18 rfl) (K.get F.s16 rfl) (by omega) (by omega) (by omega) (by omega) hsz (by simp only [World.cell?,ho];rfl) (by simp [World.frozen?,ho]) (by simp only [World.cell?,bx];rfl) (by simp only [World.cell?,bx];rfl) H.rows) ?_;rintro e a3 w3 ⟨rfl,⟨v',W',o1,o2,o3⟩,K3⟩;have KK:=K.trans K3 (l2:=[6,11,16,124,125,126]) rfl;refine⟨⟨KK.1.trans F.d,KK.2.1.trans F.s,KK.get F.s6 rfl,KK.get F.s11 rfl,KK.get F.s16 rfl,KK.get F.s124 rfl,KK.get F.s125 rfl,KK.get F.s126 rfl⟩,v',?_⟩;have hoW:W'.heap[S+1]? =some (.cells (xK9 S (.slice rp m rc)) 31 (0,0)):=(o2.block _ (by omega)).trans ho;have C:Chg W' w3 (S+1) (.cells (xK9 S v') 31 (0,0)):=by
   rw [o3];exact xG2 hoW (by simp [xK9])
  have tk:xs.take (m+1)=xs.take m++ [xs[m]]:=List.take_succ_eq_append_getElem hm;refine⟨H.rel,H.hS,?_,?_,?_,C.at',?_,?_⟩
  ·exact H.below.trans ⟨C.os.trans o2.os,C.tape.trans o2.tape,C.output.trans o2.output,by rw [C.size];exact o2.size,fun b hb=>(C.other b (by omega)).trans (o2.block b (by omega))⟩
  ·rw [C.size];have:=o2.size;omega
  ·rw [C.other _ (by omega),o2.block _ (by omega)];exact H.col
  ·rw [tk,xWl];obtain⟨q0,q1⟩:=o1;refine⟨q0,?_⟩;rcases q1 with q1|⟨g,cap,cur,rfl,q2,q3,q4⟩
   ·exact .inl q1
   ·exact .inr ⟨g,cap,cur,rfl,q2,(C.other _ (by omega)).trans q3,q4⟩
  ·intro x hx;rw [tk,List.mem_append] at hx;rcases hx with hx|hx
   ·exact H.nums x hx
   ·simp at hx;subst hx;exact hnum
theorem xWU(hperm:∀x∈xs,x∈ks)(hn:xs.length<=1000)(h6:B6<w0.heap.size)(hB6:w0.heap[B6]? =some (.cells #[u0,u1,u2,u3,u4,u5,u6] ty (0,0))){a:Act}{w:World}{rv:Value}
 (F:F2 a B6 (blk .map) (S+1) (.slice (some ⟨blk .keys,0,none⟩) xs.length kc) xs.length 0) (H:W2 w0 wS w ks xs sm fr ta tb blk fc kc S 0 rv):
 cL2.wp Tryz.prog (Exit.then (fun a' w' =>F2 a' B6 (blk .map) (S+1) (.slice (some ⟨blk .keys,0,none⟩) xs.length kc) xs.length xs.length/\∃rv',W2 w0 wS w' ks xs sm fr ta tb blk fc kc S xs.length rv') (fun e a' w' =>e= .ret/\GOut w0 ks xs sm fr ta tb B6 ty a' w')) a w:=by
 refine wp_block ?_;refine wp_loop (fun a w=>∃m rv,m<=xs.length/\F2 a B6 (blk .map) (S+1) (.slice (some ⟨blk .keys,0,none⟩) xs.length kc) xs.length m/\W2 w0 wS w ks xs sm fr ta tb blk fc kc S m rv) (fun a _=>xs.length - (RowKit.intOf (a.tmps.getD 126 undef)).toNat) ⟨0,rv,Nat.zero_le _,F,H⟩ ?_;rintro a w ⟨m,rv,hm,F,H⟩;have m0:(RowKit.intOf (a.tmps.getD 126 undef)).toNat=m:=by
  rw [show a.tmps.getD 126 undef= .int .i64 m from xPN F.s126];simp [RowKit.intOf]
 refine wp_seq (wp_mono (vHT F.s F.s125 F.s126) ?_);rintro e a1 w1 ⟨rfl,hw,h127,K1⟩;obtain rfl:w=w1:=hw.symm;have F1' :F2 a1 B6 (blk .map) (S+1) (.slice (some ⟨blk .keys,0,none⟩) xs.length kc) xs.length m:=⟨K1.1.trans F.d,K1.2.1.trans F.s,K1.get F.s6 rfl,K1.get F.s11 rfl,K1.get F.s16 rfl,K1.get F.s124 rfl,K1.get F.s125 rfl,K1.get F.s126 rfl⟩;have hc:a1.eval (.tmp 127)= .bool (decide (m<xs.length)):=xPN h127;by_cases hlt:m<xs.length
 ·rw [decide_eq_true hlt] at hc;refine wp_seq (wp_cond_true hc (wp_skip ?_));refine wp_seq (wp_block ?_);refine wp_mono (xVc hperm hn h6 hB6 hlt F1' H) ?_;intro e a2 w2 h;cases e with
  |normal=>
   obtain⟨F2',rv',H2⟩:=h;refine wp_mono (vHY F2'.s (by omega) F2'.s126) ?_;rintro e a3 w3 ⟨rfl,hw,h126,K3⟩;obtain rfl:w2=w3:=hw.symm;refine⟨⟨m+1,rv',hlt,⟨K3.1.trans F2'.d,K3.2.1.trans F2'.s,K3.get F2'.s6 rfl,K3.get F2'.s11 rfl,K3.get F2'.s16 rfl,K3.get F2'.s124 rfl,K3.get F2'.s125 rfl,h126⟩,H2⟩,?_⟩;have m1:(RowKit.intOf (a3.tmps.getD 126 undef)).toNat=m+1:=by
    rw [show a3.tmps.getD 126 undef= .int .i64 (m+1:Nat) from xPN h126];simp [RowKit.intOf] <;>omega
   rw [m0,m1];omega
  |ret=>exact h
  |exit id=>exact absurd h.1 (by simp)
  |goto l=>exact absurd h.1 (by simp)
  |panic c=>exact absurd h.1 (by simp)
  |outgrown=>exact absurd h.1 (by simp)
 ·rw [decide_eq_false hlt] at hc;obtain rfl:m=xs.length:=by omega
  refine wp_seq (wp_cond_false hc (wp_exit ?_));simp only [Exit.then,Exit.inBlock,if_true];exact⟨F1',rv,H⟩
end
end Go.Ab
end
section
namespace Go.Ab
open Go.Proofs Go.RowKit Go.Shelf
set_option maxRecDepth 100000
structure F0 (a:Act) (B3 B4 B5 B6 i k:Nat):Prop where
 d:a.defers=[]
 s:a.tmps.size=153
 s3:a.tmps[3]? =some (.pointer (some ⟨B3,0,none⟩))
 s4:a.tmps[4]? =some (.pointer (some ⟨B4,0,none⟩))
 s5:a.tmps[5]? =some (.pointer (some ⟨B5,0,none⟩))
 s6:a.tmps[6]? =some (.pointer (some ⟨B6,0,none⟩))
 s9:a.tmps[9]? =some (.int .i64 i)
 s10:a.tmps[10]? =some (.int .i64 k)
def vAD:Prop:=∀(blk cap:Nat) (zs:List Int) (w:World),Sort.Holds (Value.int .i64) w blk 0 zs.toArray->blk<w.heap.size->zs.length<4611686018427387904->
 Calls Tryz.prog 81 #[.slice (some ⟨blk,0,none⟩) zs.length cap] w fun e w' =>e= .returned (.tuple #[])/\∃n os,w' =Sort.grow (Sort.putRow (Value.int .i64) (Sort.ahead w n) blk 0 (zs.mergeSort fun x y=>decide (x<=y)).toArray) os
section
variable [Inhabited Lb] {w0:World} {rs:List Rowd} {B3 B4 B5 B6 i k:Nat} {rv:Value} {ta tb:ByteArray} {ty:TypeId} {u0 u1 u2 u3 u4 u5 u6:Value}
theorem vIa(hSo:vAD)(hlen:rs.length<=1000)(h3:w0.cell? ⟨B3,3,none⟩=some (.string ta))(h4:w0.cell? ⟨B4,3,none⟩=some (.string tb))(hB6:w0.heap[B6]? =some (.cells #[u0,u1,u2,u3,u4,u5,u6] ty (0,0))){a:Act}{w:World}(hJ:J1 w0 rs B3 B4 B6 i k rv rs.length rs.length a w):
 cS1.wp Tryz.prog (fun e a' w' =>e= .ret/\GOut w0 (zJm i rs) (zI5 i rs) (gSum i k rs) (gFrm i rs) ta tb B6 ty a' w') a w:=by
 obtain⟨blk,fc,kc,F,G⟩:=hJ;rw [List.take_length] at F G;have rk:=G.rng .keys trivial;have hkl:=xRv i rs;have h6:B6<w0.heap.size:=(Array.getElem?_eq_some_iff.1 hB6).1;obtain⟨xs,hxs⟩:∃xs,zI5 i rs=xs:=⟨_,rfl⟩;have hxl:xs.length=(zJm i rs).length:=by rw [<-hxs];exact List.length_mergeSort _
 have hperm:∀x∈xs,x∈zJm i rs:=fun x hx=>by rw [<-hxs] at hx;exact List.mem_mergeSort.1 hx
 refine wp_seq (wp_mono (vHQ F.s F.s12 (hSo (blk .keys) kc (zJm i rs) w G.keys.holdsI rk.2 (by omega))) ?_);rintro e a1 wS ⟨rfl,⟨n,os,hw⟩,K1⟩;rw [show((zJm i rs).mergeSort fun x y=>decide (x<=y))=xs from hxs] at hw;obtain⟨p1,p2,p3⟩:=xWq (n:=n) (os:=os) G.keys hxl;rw [<-hw] at p1 p2 p3;have GS:=G.rekey (wr' :=wS) (by rw [hw];exact⟨rfl,rfl,rfl⟩) p2 p3 p1;clear hw;have s1:a1.tmps.size=153:=K1.2.1.trans F.s;have b3:=xUO h3;have b4:=xUO h4;have old:∀b,b<w0.heap.size->wS.heap[b]? =w0.heap[b]? :=GS.below.block;refine wp_seq (wp_mono (vHR s1 (K1.get F.s3 rfl) (K1.get F.s4 rfl) ((xJt (old _ b3)).trans h3) ((xJt (old _ b4)).trans h4)) ?_);rintro e a2 w2 ⟨rfl,hw2,h16,K2⟩;have K12:=K1.trans K2 (l2:=[6,11,12]) rfl;have s2:a2.tmps.size=153:=K2.2.1.trans s1;refine wp_seq (wp_seq (wp_mono (vHS s2 (K12.get F.s12 rfl)) ?_));rintro e a3 w3 ⟨rfl,hw,h124,h125,h126,K3⟩;obtain rfl:w2=w3:=hw.symm;have K13:=K12.trans K3 (l2:=[6,11]) rfl;rw [<-hxl] at h124 h125;have z2:w2.heap.size=wS.heap.size+2:=by rw [hw2,xFz,xFz]
 have hcol:w2.heap[wS.heap.size]? =some (.cells #[.string ta,.string tb] 9 (0,0)):=by
  rw [hw2,xG1 (by rw [xFz];omega)];show(Array.push _ _)[_]? =_;rw [Array.getElem?_push,if_pos rfl]
 have hout:w2.heap[wS.heap.size+1]? =some (.cells (xK9 wS.heap.size (.slice none 0 0)) 31 (0,0)):=by
  rw [hw2];show(Array.push _ _)[_]? =_;rw [Array.getElem?_push,if_pos (xFz _ _).symm]
  rfl
 have hbS:Below wS.heap.size wS w2:=by rw [hw2];exact((Below.refl _ _).alloc (Nat.le_refl _) _).alloc (by rw [xFz];omega) _
 clear hw2;have H:W2 w0 wS w2 (zJm i rs) xs (gSum i k rs) (gFrm i rs) ta tb blk fc kc wS.heap.size 0 (.slice none 0 0):=⟨GS,rfl,hbS,by omega,hcol,hout,⟨rfl,.inl ⟨rfl,rfl⟩⟩,fun x hx=>by simp at hx⟩;have FF:F2 a3 B6 (blk .map) (wS.heap.size+1) (.slice (some ⟨blk .keys,0,none⟩) xs.length kc) xs.length 0:=⟨K13.1.trans F.d,K3.2.1.trans s2,K13.get F.s6 rfl,K13.get F.s11 rfl,K3.get h16 rfl,h124,h125,h126⟩;rw [hxs];refine wp_mono (xWU hperm (by omega) h6 hB6 FF H) ?_;intro e a4 w4 h;cases e with
 |normal=>
  obtain⟨F4,rv',H4⟩:=h;obtain⟨rp,rc,rfl⟩:=xNl H4.rows;have G4:=H4.rel';refine wp_seq (wp_mono (vHZ F4.s F4.s6 F4.s16 ((G4.below.block _ h6).trans hB6) H4.out) ?_);rintro e a5 w5 ⟨rfl,C,K5⟩;refine wp_ret ⟨rfl,K5.1.trans F4.d,K5.2.1.trans F4.s,K5.get F4.s6 rfl,w4,G4.below,.inr ⟨?_,blk,fc,wS.heap.size,_,C,⟨⟨kc,G4⟩,fun t ht=>(GS.rng t ht).2,H4.col,?_,H4.size⟩⟩⟩
  ·rw [List.all_eq_true];intro x hx;exact H4.nums x (by rw [List.take_length];exact hx)
  ·have:=H4.rows
   rwa [List.take_length] at this
 |ret=>exact h
 |exit id=>exact absurd h.1 (by simp)
 |goto l=>exact absurd h.1 (by simp)
 |panic c=>exact absurd h.1 (by simp)
 |outgrown=>exact absurd h.1 (by simp)
theorem vEP(hU:xRm)(hSo:vAD)(hlaid:∀x∈zH7,x.1<w0.heap.size/\w0.heap[x.1]? =some x.2)(hrs:xRg w0 rv rs)(hok:∀r∈rs,RowOk i k r)(hlen:rs.length<=1000)(h3:w0.cell? ⟨B3,3,none⟩=some (.string ta))(h4:w0.cell? ⟨B4,3,none⟩=some (.string tb))(h5:w0.cell? ⟨B5,6,none⟩=some rv)
 (hB6:w0.heap[B6]? =some (.cells #[u0,u1,u2,u3,u4,u5,u6] ty (0,0))) {a:Act} (F:F0 a B3 B4 B5 B6 i k):
 (Rg 8).wp Tryz.prog (Exit.then (fun a1 w1=>cAll.wp Tryz.prog (fun e a' w' =>e= .ret/\GOut w0 (zJm i rs) (zI5 i rs) (gSum i k rs) (gFrm i rs) ta tb B6 ty a' w') a1 w1) (fun _ _ _=>False)) a w0:=by
 refine wp_mono (gpr8 F.s) ?_;rintro e a1 w1 ⟨rfl,hw1,h11,K1⟩;have s1:a1.tmps.size=153:=K1.2.1.trans F.s;refine wp_seq (wp_mono (gpr9 s1) ?_);rintro e a2 w2 ⟨rfl,hw2,h12,K2⟩;have K12:=K1.trans K2 (l2:=[3,4,5,6,9,10]) rfl;have s2:a2.tmps.size=153:=K2.2.1.trans s1;have z1:w1.heap.size=w0.heap.size+1:=by rw [hw1,xFz]
 have z2:w2.heap.size=w0.heap.size+2:=by rw [hw2,xFz,z1]
 have hb:Below w0.heap.size w0 w2:=by rw [hw2,hw1];exact((Below.refl _ _).alloc (Nat.le_refl _) _).alloc (by rw [xFz];omega) _
 have hM:w2.heap[w0.heap.size]? =some (.map #[] 0):=by
  rw [hw2,xG1 (by omega),hw1];show(Array.push _ _)[_]? =_;rw [Array.getElem?_push,if_pos rfl]
 have hK:w2.heap[w0.heap.size+1]? =some (.cells #[] 3 (0,0)):=by
  rw [hw2];show(Array.push _ _)[_]? =_;rw [Array.getElem?_push,if_pos z1.symm]
 clear hw1 hw2;have b5:=xUO h5;obtain⟨p,c,rfl,hrows⟩:=id hrs;refine wp_seq (wp_seq (wp_mono (vHG s2 (K12.get F.s5 rfl) ((xJt (hb.block _ b5)).trans h5)) ?_));rintro e a3 w3 ⟨rfl,hw,h55,h56,h57,K3⟩;obtain rfl:w2=w3:=hw.symm;have K13:=K12.trans K3 (l2:=[3,4,6,9,10]) rfl;rw [z1] at h12
 let blk:Tg->Nat:=fun t=>match t with | .map=>w0.heap.size|_=>w0.heap.size+1
 have hJ:J1 w0 rs B3 B4 B6 i k (.slice p rs.length c) 0 0 a3 w2:=by
  refine⟨blk,fun _=>0,0,⟨K13.1.trans F.d,K3.2.1.trans s2,K13.get F.s3 rfl,K13.get F.s4 rfl,K13.get F.s6 rfl,K13.get F.s9 rfl,K13.get F.s10 rfl,K3.get (K2.get h11 rfl) rfl,K3.get h12 rfl,h55,h56,h57⟩,?_⟩;refine⟨⟨#[],0,hM,rfl⟩,fun x hx=>by(cases hx),fun x hx=>by(cases hx),fun x hx=>by(cases hx),fun x e=>by(cases e),⟨rfl, #[],hK,Nat.le_refl _,by decide,rfl,rfl⟩,List.nodup_nil,fun t t' a b e=> ?_,fun t ht=> ?_,hb⟩
  ·cases t with
   |map=>
    cases t' with
    |map=>rfl
    |keys=>exact absurd e (by show w0.heap.size≠w0.heap.size+1;omega)
    |box x=>cases b
    |cel x=>cases b
    |frm x=>cases b.1
   |keys=>
    cases t' with
    |keys=>rfl
    |map=>exact absurd e (by show w0.heap.size+1≠w0.heap.size;omega)
    |box x=>cases b
    |cel x=>cases b
    |frm x=>cases b.1
   |box x=>cases a
   |cel x=>cases a
   |frm x=>cases a.1
  ·cases t with
   |map=>show w0.heap.size<=w0.heap.size/\w0.heap.size<_;omega
   |keys=>show w0.heap.size<=w0.heap.size+1/\w0.heap.size+1<_;omega
   |box x=>cases ht
   |cel x=>cases ht
   |frm x=>cases ht.1
 refine wp_mono (xWT hU hlaid hrs hok hlen hJ) ?_;rintro e a4 w4 ⟨rfl,hJ4⟩;exact vIa hSo hlen h3 h4 hB6 hJ4
end
end Go.Ab
end
section
namespace Go.Ab
open Go.Proofs Go.RowKit Go.Shelf
set_option maxRecDepth 100000
def LabR(blk:Tg->Nat)(xs:List Int)(cb:Nat)(rv:Value)(b:Nat)(l:Nat×List (Nat×Nat)):Prop:=
 (b=cb/\l=(5,[]))\/(rv.ownBlock=some b/\l=(6,[]))\/∃(i:Nat) (x:Int),xs[i]? =some x/\((b=blk (.cel x)/\l=(6,[(i,0)]))\/(b=blk (.frm x)/\l=(6,[(i,1)])))
def labW(xs:List Int)(fr:Int->List Org):Nat×List (Nat×Nat)->Nat
 |(5,_)=>2
 |(_,[])=>xs.length*2
 |(_,[(_,0)])=>2
 |(_,[(i,_)])=>(fr (xs.getD i 0)).length*2
 |_=>0
section
variable [Inhabited Lb]
theorem vEM{w0 W w' :World}{ks xs:List Int}{sm:Int->Int}{fr:Int->List Org}{ta tb:ByteArray}{blk:Tg->Nat}{fc:Int->Nat}{cb:Nat}{rv:Value}(E:Env)(hEw:E.w=w0)(T:Tab w0 W ks xs sm fr ta tb blk fc cb rv)
 (hW:∀b,w0.heap.size<=b->w'.heap[b]? =W.heap[b]?) (hsz:w'.heap.size=W.heap.size) (hperm:∀x∈xs,x∈ks) (hnd:xs.Nodup):
 ∃lab hwf,(∀b b' l,lab b=some l->lab b' =some l->b=b')/\(∀b l,lab b=some l->E.w.heap.size<=b/\b<w'.heap.size)/\
  VR (E.ended w' lab hwf) zAI (.h 0) (.v true [.int .i64 5,.int .i64 0,.int .i64 0,.str [],.sl .own .val [],.sl .own .str [ta.data.toList,tb.data.toList],.sl .own .row (xs.map fun x=>(⟨[x,sm x],fr x⟩:Rowd))]) (.agg (xK9 cb rv)):=by
 obtain⟨kc,G⟩:=T.rel;have lt:=T.lt;have hz0:=G.below.size;have hcs:=T.size;have lvc:∀ {i:Nat} {x:Int},xs[i]? =some x->x∈ks:=fun h=>hperm _ (List.mem_of_getElem? h);have rvb:∀ {b:Nat},rv.ownBlock=some b->cb+2<=b/\b<W.heap.size:=by
  intro b hb;rcases T.rows.2 with ⟨e,_⟩|⟨g,cap,cur,e,h2,h3,_⟩
  ·rw [e] at hb;cases hb
  ·rw [e] at hb;cases hb;exact⟨h2,(Array.getElem?_eq_some_iff.1 h3).1⟩
 have nidx:∀ {i j:Nat} {x:Int},xs[i]? =some x->xs[j]? =some x->i=j:=by
  intro i j x h1 h2;obtain⟨a1,a2⟩:=List.getElem?_eq_some_iff.1 h1;obtain⟨b1,b2⟩:=List.getElem?_eq_some_iff.1 h2;have hp:=List.pairwise_iff_getElem.1 hnd;rcases Nat.lt_trichotomy i j with h|h|h
  ·exact absurd (a2.trans b2.symm) (hp i j a1 b1 h)
  ·exact h
  ·exact absurd (b2.trans a2.symm) (hp j i b1 a1 h)
 have rng:∀ {b l},LabR blk xs cb rv b l->w0.heap.size<=b/\b<W.heap.size:=by
  intro b l h;have hm:=G.rng .map trivial;have hl:=lt .map trivial;rcases h with ⟨rfl,_⟩|⟨h,_⟩|⟨i,x,hx,⟨rfl,_⟩|⟨rfl,_⟩⟩
  ·omega
  ·have:=rvb h;omega
  ·exact G.rng (.cel x) (lvc hx)
  ·exact G.rng (.frm x) ⟨lvc hx,by simp⟩
 have cls:∀ {b l},LabR blk xs cb rv b l->(b=cb/\l=(5,[]))\/((cb+2<=b/\rv.ownBlock=some b)/\l=(6,[]))\/∃(i:Nat) (x:Int) (t:Tg),xs[i]? =some x/\Live ks none t/\b=blk t/\blk t<cb/\((t= .cel x/\l=(6,[(i,0)]))\/(t= .frm x/\l=(6,[(i,1)]))):=by
  intro b l h;rcases h with h|⟨h,e⟩|⟨i,x,hx,⟨rfl,e⟩|⟨rfl,e⟩⟩
  ·exact .inl h
  ·exact .inr (.inl ⟨⟨(rvb h).1,h⟩,e⟩)
  ·exact .inr (.inr ⟨i,x,.cel x,hx,lvc hx,rfl,lt _ (lvc hx),.inl ⟨rfl,e⟩⟩)
  ·exact .inr (.inr ⟨i,x,.frm x,hx,⟨lvc hx,by simp⟩,rfl,lt (.frm x) ⟨lvc hx,by simp⟩,.inr ⟨rfl,e⟩⟩)
 obtain⟨lab,hlab⟩:=zBA (LabR blk xs cb rv) fun b l l' h1 h2=>by
  rcases cls h1 with ⟨e1,rfl⟩|⟨⟨e1,_⟩,rfl⟩|⟨i,x,t,hx,lv,rfl,lc,q⟩ <;>rcases cls h2 with ⟨e2,rfl⟩|⟨⟨e2,_⟩,rfl⟩|⟨j,y,t',hy,lv',e,lc',q'⟩ <;>first
   |rfl
   |omega
   |skip
  have ht:=G.inj t t' lv lv' e;subst ht;rcases q with ⟨rfl,rfl⟩|⟨rfl,rfl⟩ <;>rcases q' with ⟨e',rfl⟩|⟨e',rfl⟩ <;>cases e'
  ·rw [nidx hx hy]
  ·rw [nidx hx hy]
 have linj:∀b b' l,lab b=some l->lab b' =some l->b=b' :=by
  intro b b' l h1 h2
  rcases(hlab _ _).1 h1 with ⟨rfl,rfl⟩|⟨g1,rfl⟩|⟨i,x,hx,⟨rfl,rfl⟩|⟨rfl,rfl⟩⟩ <;>rcases(hlab _ _).1 h2 with ⟨rfl,e⟩|⟨g2,e⟩|⟨j,y,hy,⟨rfl,e⟩|⟨rfl,e⟩⟩ <;>first
   |rfl
   |(cases e;done)
   |skip
  ·rw [g1] at g2;exact Option.some.inj g2
  ·cases e;rw [hx] at hy;cases hy;rfl
  ·cases e;rw [hx] at hy;cases hy;rfl
 let hwf:Nat->Nat:=fun b=>match lab b with |some l=>labW xs fr l|none=>0
 have how:∀ {b l},LabR blk xs cb rv b l->(E.ended w' lab hwf).ow b=some (.arr (.h 0) l.1 l.2)/\(E.ended w' lab hwf).hw b=labW xs fr l:=by
  intro b l h;have:=(hlab _ _).2 h;simp only [Env.ended,hwf,this];exact⟨trivial,trivial⟩
 have hww:(E.ended w' lab hwf).w=w' :=rfl;refine⟨lab,hwf,linj,fun b l h=>by rw [hEw,hsz];exact rng ((hlab _ _).1 h),⟨_,rfl,rfl,rfl,rfl,⟨⟨#[]⟩,rfl,rfl⟩,.nil none 0 _ ⟨rfl,rfl⟩,?_,?_,trivial⟩⟩
 ·obtain⟨o1,o2⟩:=how (.inl ⟨rfl,rfl⟩:LabR blk xs cb rv cb (5,[]));have hc:w'.heap[cb]? =some (.cells #[.string ta,.string tb] 9 (0,0)):=(hW cb (by have:=G.rng .map trivial;have:=lt .map trivial;omega)).trans T.col;refine .sl cb 0 2 2 1 _ (fun i _=>if i=0 then .string ta else .string tb) rfl (Nat.le_refl _) (fun r hr=> ?_) ⟨o1,o2,Nat.le_refl _,_,_,0,0,hc,rfl,fun o a b=>by omega⟩ (fun i j hi hj=> ?_) (fun i j hi hj=> ?_)
  ·obtain⟨y,_,rfl⟩:=List.mem_map.1 hr
   rfl
  ·have hj:j<1:=hj;obtain rfl:j=0:=by omega
   have:i=0\/i=1:=by omega
   rcases this with rfl|rfl
   ·exact⟨by rw [hww];simp only [World.cell?,hc];rfl,by rw [o2];show _<2;omega,o1⟩
   ·exact⟨by rw [hww];simp only [World.cell?,hc];rfl,by rw [o2];show _<2;omega,o1⟩
  ·have hi2:i<2:=hi;have:i=0\/i=1:=by omega
   rcases this with rfl|rfl
   ·have hj' :j<1:=hj;obtain rfl:j=0:=by omega
    exact .str ta
   ·have hj' :j<1:=hj;obtain rfl:j=0:=by omega
    exact .str tb
 ·rcases T.rows with ⟨hl0,⟨e,hn0⟩|⟨g,cap,cur,e,h2,h3,h4,h5,h6,h7⟩⟩
  ·have:xs=[]:=List.length_eq_zero_iff.1 hn0;subst this;rw [e];exact .nil none 0 _ ⟨rfl,rfl⟩
  ·rw [e];obtain⟨o1,o2⟩:=how (.inr (.inl ⟨by rw [e];rfl,rfl⟩):LabR blk xs cb rv g (6,[]));have hg:w'.heap[g]? =some (.cells cur 45 (0,0)):=(hW g (by have:=G.rng .map trivial;have:=lt .map trivial;omega)).trans h3;have hcur:∀(i:Nat) (x:Int),xs[i]? =some x->cur[i*2]? =some (.slice (some ⟨blk (.cel x),0,none⟩) 2 2)/\cur[i*2+1]? =some (.slice (some ⟨blk (.frm x),0,none⟩) (fr x).length (fc x)):=by
    intro i x hx;obtain⟨hi,_⟩:=List.getElem?_eq_some_iff.1 hx;have key:∀(l:List Int) (i:Nat) (x:Int),l[i]? =some x->(rowV blk fr fc l)[i*2]? =some (.slice (some ⟨blk (.cel x),0,none⟩) 2 2)/\(rowV blk fr fc l)[i*2+1]? =some (.slice (some ⟨blk (.frm x),0,none⟩) (fr x).length (fc x)):=by
     intro l
     induction l with
     |nil=>intro i x h;cases h
     |cons y l ih=>
      intro i x h;cases i with
      |zero=>
       simp at h;subst h;exact⟨rfl,rfl⟩
      |succ i=>
       have:=ih i x (by simpa using h);rw [show(i+1)*2=i*2+1+1 by omega];exact this
    obtain⟨k1,k2⟩:=key xs i x hx;rw [<-h7] at k1 k2;rw [List.getElem?_take] at k1 k2;rw [if_pos (by omega)] at k1 k2;exact⟨by simpa using k1,by simpa using k2⟩
   refine .sl g 0 xs.length cap 2 _ (fun i j=>match xs[i]? with |some x=>if j=0 then .slice (some ⟨blk (.cel x),0,none⟩) 2 2 else .slice (some ⟨blk (.frm x),0,none⟩) (fr x).length (fc x) |none=>undef) (by simp) h4 (fun r hr=> ?_) ⟨o1,o2,h4,_,_,0,0,hg,h6.symm,fun o a b=>by omega⟩ (fun i j hi hj=> ?_) (fun i j hi hj=> ?_)
   ·obtain⟨y,_,rfl⟩:=List.mem_map.1 hr
    rfl
   ·have hx:xs[i]? =some xs[i]:=List.getElem?_eq_getElem hi;have hj:j<2:=hj;obtain⟨k1,k2⟩:=hcur i _ hx;simp only [hx];refine⟨?_,by rw [o2];show 0+i*2+j<xs.length*2;omega,o1⟩;rw [hww];simp only [World.cell?,hg];have:j=0\/j=1:=by omega
    rcases this with rfl|rfl
    ·rw [show 0+i*2+0=i*2 by omega];exact k1
    ·rw [show 0+i*2+1=i*2+1 by omega];exact k2
   ·have hi' :i<xs.length:=by simpa using hi
    have hx:xs[i]? =some xs[i]:=List.getElem?_eq_getElem hi';have hm:xs[i]∈ks:=hperm _ (List.getElem_mem hi');have hr:(List.map Ty.row.toD (xs.map fun x=>(⟨[x,sm x],fr x⟩:Rowd)))[i]=Rowd.toD ⟨[xs[i],sm xs[i]],fr xs[i]⟩:=by rw [List.getElem_map,List.getElem_map];rfl
    have hj2:j<2:=by rw [hr] at hj;exact hj
    simp only [hx,hr]
    match j,hj2 with
    |0,_=>
     obtain⟨p1,p2⟩:=how (.inr (.inr ⟨i,_,hx,.inl ⟨rfl,rfl⟩⟩):LabR blk xs cb rv (blk (.cel xs[i])) (6,[(i,0)]));have rc:=G.rng (.cel xs[i]) hm;have hc:w'.heap[blk (.cel xs[i])]? =some (.cells #[.int .i64 xs[i],.int .i64 (sm xs[i])] 3 (0,0)):=(hW _ rc.1).trans (G.cel _ hm);refine .sl (blk (.cel xs[i])) 0 2 2 1 [[.int .i64 xs[i]],[.int .i64 (sm xs[i])]] (fun i' _=>if i' =0 then .int .i64 xs[i] else .int .i64 (sm xs[i])) rfl (Nat.le_refl _) (fun r hr=> ?_) ⟨p1,p2,Nat.le_refl _,_,_,0,0,hc,rfl,fun o a b=>by omega⟩ (fun i' j hi hj=> ?_) (fun i' j hi hj=> ?_)
     ·simp at hr;rcases hr with rfl|rfl <;>rfl
     ·have hj:j<1:=hj;obtain rfl:j=0:=by omega
      have:i' =0\/i' =1:=by omega
      rcases this with rfl|rfl
      ·exact⟨by rw [hww];simp only [World.cell?,hc];rfl,by rw [p2];show _<2;omega,p1⟩
      ·exact⟨by rw [hww];simp only [World.cell?,hc];rfl,by rw [p2];show _<2;omega,p1⟩
     ·have hi2:i' <2:=hi;have:i' =0\/i' =1:=by omega
      rcases this with rfl|rfl
      ·have hj' :j<1:=hj;obtain rfl:j=0:=by omega
       exact .int .i64 _
      ·have hj' :j<1:=hj;obtain rfl:j=0:=by omega
       exact .int .i64 _
    |1,_=>
     obtain⟨p1,p2⟩:=how (.inr (.inr ⟨i,_,hx,.inr ⟨rfl,rfl⟩⟩):LabR blk xs cb rv (blk (.frm xs[i])) (6,[(i,1)]));have p2:(E.ended w' lab hwf).hw (blk (.frm xs[i]))=(fr xs[i]).length*2:=by
      rw [p2];show(fr (xs.getD i 0)).length*2=_;rw [List.getD_eq_getElem?_getD,hx]
      rfl
     have rc:=G.rng (.frm xs[i]) ⟨hm,by simp⟩;have ho:=(G.frm _ hm (by simp)).kept (hW _ rc.1);have ho' :=ho;obtain⟨q1,cs,ty,lo,hi',q2,q3,q4,_⟩:=ho';exact xVH (w:=(E.ended w' lab hwf).w) ho (fun o ho=>⟨by rw [p2];exact ho,p1⟩) ⟨p1,p2,q1,cs,ty,lo,hi',q2,q3,q4⟩
end
end Go.Ab
end
section
namespace Go.Ab
open Go.Proofs Go.RowKit Go.Shelf
set_option maxRecDepth 100000
theorem vGl:vAD:=fun blk cap zs w h1 h2 h3=>Any.sort_Ints Tryz.lays191 blk 0 cap zs w h1 h2 h3
section
variable [Inhabited Lb]
theorem vEN:xRm:=xTy
theorem vrs7{E:Env}{bxs:Nat->Prop}{pl:Pl}{c0 c1 c2 c3 c4 c5 c6:CV}{l:List Value}(h:VRs E bxs pl 0 [c0,c1,c2,c3,c4,c5,c6] l):
 ∃v0 v1 v2 v3 v4 v5 v6,l=[v0,v1,v2,v3,v4,v5,v6]/\VRc E bxs pl 3 c3 v3/\VRc E bxs pl 6 c6 v6:=by
 rcases l with _|⟨v0,l⟩
 ·exact h.elim
 obtain⟨_,h⟩:=h;rcases l with _|⟨v1,l⟩
 ·exact h.elim
 obtain⟨_,h⟩:=h;rcases l with _|⟨v2,l⟩
 ·exact h.elim
 obtain⟨_,h⟩:=h;rcases l with _|⟨v3,l⟩
 ·exact h.elim
 obtain⟨q3,h⟩:=h;rcases l with _|⟨v4,l⟩
 ·exact h.elim
 obtain⟨_,h⟩:=h;rcases l with _|⟨v5,l⟩
 ·exact h.elim
 obtain⟨_,h⟩:=h;rcases l with _|⟨v6,l⟩
 ·exact h.elim
 obtain⟨q6,h⟩:=h;rcases l with _|⟨v7,l⟩
 ·exact⟨v0,v1,v2,v3,v4,v5,v6,rfl,q3,q6⟩
 ·exact h.elim
theorem xM8{a:Act}{k:Nat}{v:Value}(hs:a.tmps.size=153)(hk:k<153)(h:a.tmps.getD k undef=v):a.tmps[k]? =some v:=by
 have hk:k<a.tmps.size:=by omega
 rw [Array.getD_eq_getD_getElem?,Array.getElem?_eq_getElem hk] at h;rw [Array.getElem?_eq_getElem hk];exact congrArg some h
theorem xUJ{x9 x10:Int}{b3 b4 b5:Val}{r:Val×Bool}{I:Info}{σ:St}{c0 c1 c2 c3 c4 c5 c6:CV}(hst:stkAt 8 I.body=[.code (Rg 8),.code cAll])(hx:I.ext=[])(hl:I.lnt=[])(hn:I.nt=153)
 (g6:σ.get 6= .v false [.ptr 3 0]) (g8:σ.get 8= .v false [.ptr 4 0]) (g10:σ.get 10= .v false [.ptr 5 0]) (g12:σ.get 12= .v false [.ptr 6 0]) (g18:σ.get 18= .v false [.int .i64 x9]) (g20:σ.get 20= .v false [.int .i64 x10])
 (g7:σ.get 7= .v true [.int .i64 (Val.kind b3),.int .i64 (Val.n b3),.int .i64 (Val.step b3),.str (Val.text b3),.sl .ro .val (Val.list b3),.sl .ro .str (Val.columns b3),.sl .ro .row (Val.rows b3)])
 (g9:σ.get 9= .v true [.int .i64 (Val.kind b4),.int .i64 (Val.n b4),.int .i64 (Val.step b4),.str (Val.text b4),.sl .ro .val (Val.list b4),.sl .ro .str (Val.columns b4),.sl .ro .row (Val.rows b4)])
 (g11:σ.get 11= .v true [.int .i64 (Val.kind b5),.int .i64 (Val.n b5),.int .i64 (Val.step b5),.str (Val.text b5),.sl .ro .val (Val.list b5),.sl .ro .str (Val.columns b5),.sl .ro .row (Val.rows b5)])
 (g13:σ.get 13= .v true [c0,c1,c2,c3,c4,c5,c6])
 (h:zJt x9 x10 b3 b4 b5=some r):Reach Tryz.prog Tryz.f28 I (stkAt 8 I.body) σ (xBP r):=by
 unfold zJt at h;split at h
 case isFalse=>cases h
 rename_i hc;obtain⟨hi0,hk0,hall,hlen⟩:=hc;obtain⟨i,rfl⟩:∃i:Nat,x9=i:=⟨x9.toNat,by omega⟩;obtain⟨k,rfl⟩:∃k:Nat,x10=k:=⟨x10.toNat,by omega⟩;rw [Int.toNat_natCast,Int.toNat_natCast] at h hall;have hok:∀r∈Val.rows b5,RowOk i k r:=fun r hr=>by
  have:=List.all_eq_true.1 hall r hr;simp only [zI9,Bool.and_eq_true,decide_eq_true_eq] at this;exact⟨this.1.1,this.1.2,this.2⟩
 rw [hst];refine Reach.tail fun C hP hnt hext a w hR=> ?_;obtain⟨hd,E,rfl,hi⟩:=hR;have hs:a.tmps.size=153:=hi.nt.trans (hnt.trans hn);have t3:=hi.tmp 3;rw [show 2*3=6 from rfl,g6] at t3;have t4:=hi.tmp 4;rw [show 2*4=8 from rfl,g8] at t4;have t5:=hi.tmp 5;rw [show 2*5=10 from rfl,g10] at t5;have t6:=hi.tmp 6;rw [show 2*6=12 from rfl,g12] at t6;have t9:=hi.tmp 9;rw [show 2*9=18 from rfl,g18] at t9;have t10:=hi.tmp 10;rw [show 2*10=20 from rfl,g20] at t10;obtain⟨⟨e3,_⟩,_⟩:=t3;obtain⟨⟨e4,_⟩,_⟩:=t4;obtain⟨⟨e5,_⟩,_⟩:=t5;obtain⟨⟨e6,_⟩,_⟩:=t6;obtain⟨e9,_⟩:=t9;obtain⟨e10,_⟩:=t10;obtain⟨o3,vals3,ty3,hb3,hv3⟩:=hi.box 3 _ g7;obtain⟨o4,vals4,ty4,hb4,hv4⟩:=hi.box 4 _ g9;obtain⟨o5,vals5,ty5,hb5,hv5⟩:=hi.box 5 _ g11;obtain⟨o6,vals6,ty6,hb6,hv6⟩:=hi.box 6 _ g13;obtain⟨_,_,_,v3,_,_,_,l3,⟨ta,rfl,hta⟩,_⟩:=vrs7 hv3;obtain⟨_,_,_,v4,_,_,_,l4,⟨tb,rfl,htb⟩,_⟩:=vrs7 hv4;obtain⟨_,_,_,_,_,_,v5,l5,_,hrow⟩:=vrs7 hv5;obtain⟨u0,u1,u2,u3,u4,u5,u6,l6,_,_⟩:=vrs7 hv6;have hB6:E.w.heap[E.bx 6]? =some (.cells #[u0,u1,u2,u3,u4,u5,u6] ty6 (0,0)):=by rw [hb6,show vals6= #[u0,u1,u2,u3,u4,u5,u6] from Array.ext' l6]
 have k3:E.w.cell? ⟨E.bx 3,3,none⟩=some (.string ta):=by
  have:vals3[3]? =some (.string ta):=by rw [<-Array.getElem?_toList,l3];rfl
  simp only [World.cell?,hb3];exact this
 have k4:E.w.cell? ⟨E.bx 4,3,none⟩=some (.string tb):=by
  have:vals4[3]? =some (.string tb):=by rw [<-Array.getElem?_toList,l4];rfl
  simp only [World.cell?,hb4];exact this
 have k5:E.w.cell? ⟨E.bx 5,6,none⟩=some v5:=by
  have:vals5[6]? =some v5:=by rw [<-Array.getElem?_toList,l5];rfl
  simp only [World.cell?,hb5];exact this
 have hlaid:∀x∈zH7,x.1<E.w.heap.size/\E.w.heap[x.1]? =some x.2:=fun x hx=>by
  obtain⟨b1,b2,b3,_⟩:=hi.base x hx;exact⟨Nat.lt_of_lt_of_le b1 hi.size,(hi.old x.1 b1 b2).1.trans b3⟩
 have hrs:xRg E.w v5 (Val.rows b5):=xWm hrow;have W:=vEP vEN vGl hlaid hrs hok hlen k3 k4 k5 hB6 (a:=a) ⟨hd,hs,xM8 hs (by decide) e3,xM8 hs (by decide) e4,xM8 hs (by decide) e5,xM8 hs (by decide) e6,xM8 hs (by decide) e9,xM8 hs (by decide) e10⟩;have hex:∀s b,C.ext s=some b->False:=fun s b hb=>by have:=hext s b hb;rw [hx] at this;simp at this
 have hB6l:E.bx 6<E.w.heap.size:=(Array.getElem?_eq_some_iff.1 hB6).1;refine wp_mono W ?_;intro e a1 w1 h1;cases e with
 |normal=>
  refine wp_mono h1 ?_;rintro e a' w' ⟨rfl,d1,d2,d3,Wd,hbel,hcase⟩;refine⟨rfl,?_⟩;have d3' :a'.tmps.getD 6 undef= .pointer (some ⟨E.bx 6,0,none⟩):=xPN d3;rcases hcase with ⟨hall,hC⟩|⟨hall,blk,fc,cb,rv,hC,T⟩
  ·rw [if_neg (by rw [hall];simp)] at h;cases h;have hz:=hbel.size;refine vFL (B6:=E.bx 6) (lab:=fun _=>none) (hwf:=fun _=>0) hi hex hx hl (by rw [o6];simp) ⟨hC.os.trans hbel.os,hC.tape.trans hbel.tape,hC.output.trans hbel.output⟩ (by rw [hC.size];exact hz) (fun b hb hne=>(hC.other b hne).trans (hbel.block b hb)) d1 (d2.trans (hn.symm.trans hnt.symm)) (fun b b' l h=>by cases h) (fun b l h=>by cases h) (v:= .agg xTE) rfl ?_ ?_
   ·exact⟨_,rfl,rfl,rfl,rfl,⟨⟨#[]⟩,rfl,rfl⟩,.nil none 0 _ ⟨rfl,rfl⟩,.nil none 0 _ ⟨rfl,rfl⟩,.nil none 0 _ ⟨rfl,rfl⟩,trivial⟩
   ·rw [hP];exact xRa rfl d3' hC.at'
  ·rw [if_pos hall] at h;cases h;have hz:=hbel.size;obtain⟨rp,rc,rfl⟩:=xNl T.rows;have hperm:∀x∈zI5 i (Val.rows b5),x∈zJm i (Val.rows b5):=fun x hx=>List.mem_mergeSort.1 hx;obtain⟨kc,G⟩:=T.rel;have hnd:(zI5 i (Val.rows b5)).Nodup:=(List.mergeSort_perm _ _).nodup_iff.2 G.nodup;obtain⟨lab,hwf,j1,j2,j3⟩:=vEM E rfl T (w' :=w') (fun b hb=>hC.other b (by omega)) hC.size hperm hnd;rw [hta,htb] at j3;refine vFL (B6:=E.bx 6) (lab:=lab) (hwf:=hwf) hi hex hx hl (by rw [o6];simp) ⟨hC.os.trans hbel.os,hC.tape.trans hbel.tape,hC.output.trans hbel.output⟩ (by rw [hC.size];exact hz) (fun b hb hne=>(hC.other b hne).trans (hbel.block b hb)) d1 (d2.trans (hn.symm.trans hnt.symm)) j1 j2 rfl j3 ?_;rw [hP];exact xRa rfl d3' hC.at'
 |exit id=>exact h1.elim
 |goto l=>exact h1.elim
 |ret=>exact h1.elim
 |panic c=>exact h1.elim
 |outgrown=>exact h1.elim
end
end Go.Ab
end
section
open Go.Proofs
namespace Go.Ab.T
set_option maxRecDepth 100000
variable [Inhabited Lb]
noncomputable def xLH:Info:= { body:=(Tryz.f50.body).getD .skip,nt:=63,results:=[.tmp 4],keep:=[0,2,8,10,18],live:=[(2,[0,2,10])],modes:=[] }
theorem xN8:FnOk Tryz.prog 50 Tryz.f50 xLH:=by refine⟨Tryz.func50,?_,?_,?_,?_⟩<;>kernel_rfl
def xM2(x1 x5:Int):St:=[(0,.v false [.sl .ro .val []]),(2,.v false [.int .i64 x1]),(10,.v false [.int .i64 x5])]
def xRI(x1 x5):rS 2 xLH (xM2 x1 x5) [F] []=dn (xD6 x1) [iN (dc (x5<(0:Int)))]:=by kernel_rfl
def xRJ(a0 a1):rE xLH (xF8 a0 a1) [] []=st 2 xLH (xM2 a1 0) []:=by kernel_rfl
theorem xUh{N:Nat}:∀n x1 x5 r,xHt N n x1 x5=some r->RS Tryz.f50 xLH 2 (xM2 x1 x5) (xD6 r):=by
 intro n
 induction n with
 |zero=>exact fun _ _ _ h=>nE h
 |succ n ih=>
  exact fun x1 x5 r h=>cE h (fun h0 h=>iE h fun h1 h=>nE h) fun h0 h=>dS h xN8 (xRI x1 x5) (oc h0 on)
theorem xUi{N:Nat}:∀a0 a1 r,xHg N a0 a1=some r->RE Tryz.f50 xLH (xF8 a0 a1) (xD6 r):=fun a0 a1 r h=>tE xN8 (xRJ a0 a1) on (xUh _ _ _ _ h)
theorem xLR{N:Nat}{a0:List Val}{a1:Int}{r:Int}(h:xHg N  a0 a1=some r):AbC 50 (xF8 a0 a1) (xD6 r):=
 AbsCalls.of_reach xN8 rfl rfl rfl (jL rfl) (xUi a0 a1 r h)
noncomputable def I33:Info:= { body:=(Tryz.f33.body).getD .skip,nt:=28,results:=[.tmp 4],keep:=[0,2,8,10,22,30,52],live:=[(5,[0,2,10])],modes:=[] }
theorem fk33:FnOk Tryz.prog 33 Tryz.f33 I33:=by refine⟨Tryz.func33,?_,?_,?_,?_⟩<;>kernel_rfl
def xT3(x0:List Str)(x1 x5:Int):St:=[(0,.v false [.sl .ro .str x0]),(2,.v false [.int .i64 x1]),(10,.v false [.int .i64 x5])]
abbrev xJc(v0:Int)(v1:List Str):Prop:=iY (dc (v0<(Ln v1:Int)))
abbrev xGF(v0:Int)(v1:List Str):Prop:=(0:Int)<=v0/\v0<(Ln v1)
abbrev xIj(v0:List Str)(v1:Int):=gD v0 (tN v1) Ty.str.dflt
def vBz(x0 x1 x5):rS 5 I33 (xT3 x0 x1 x5) [Y,Y] []=dn (xCB (-1)) [xJc x5 x0,xGF x5 x0,iY (dc (((W (x1 - (Ln (xIj x0 x5):Int))):Int)<0))]:=by kernel_rfl
def vBA(x0 x1 x5):rS 5 I33 (xT3 x0 x1 x5) [Y,F] []=st 5 I33 (xT3 x0 (W (x1 - (Ln (xIj x0 x5):Int))) (W (x5+1))) [xJc x5 x0,xGF x5 x0,iN (dc (((W (x1 - (Ln (xIj x0 x5):Int))):Int)<0))]:=by kernel_rfl
abbrev xL0(v0:Int)(v1:List Str):Prop:=iN (dc (v0<(Ln v1:Int)))
def vBB(x0 x1 x5):rS 5 I33 (xT3 x0 x1 x5) [F] []=dn (xCB x1) [xL0 x5 x0]:=by kernel_rfl
def vBC(a0 a1):rE I33 (xEu a0 a1) [Y] []=dn (xCB (-1)) [iY (dc (((W (a1 - (Ln a0:Int))):Int)<0))]:=by kernel_rfl
def vBD(a0 a1):rE I33 (xEu a0 a1) [F] []=st 5 I33 (xT3 a0 (W (a1 - (Ln a0:Int))) 0) [iN (dc (((W (a1 - (Ln a0:Int))):Int)<0))]:=by kernel_rfl
theorem vGw{N:Nat}:∀n x0 x1 x5 r,xHh N n x0 x1 x5=some r->RS Tryz.f33 I33 5 (xT3 x0 x1 x5) (xCB r):=by
 intro n
 induction n with
 |zero=>exact fun _ _ _ _ h=>nE h
 |succ n ih=>
  exact fun x0 x1 x5 r h=>cE h (fun h0 h=>iE h fun h1 h=>cE h (fun h2 h=>dS h fk33 (vBz x0 x1 x5) (oc3 h0 h1 h2 on)) fun h2 h=>tS fk33 (vBA x0 x1 x5) (oc3 h0 h1 h2 on) (ih _ _ _ _ h)) fun h0 h=>dS h fk33 (vBB x0 x1 x5) (oc h0 on)
theorem vGx{N:Nat}:∀a0 a1 r,xIO N a0 a1=some r->RE Tryz.f33 I33 (xEu a0 a1) (xCB r):=fun a0 a1 r h=>cE h (fun h0 h=>dE h fk33 (vBC a0 a1) (oc h0 on)) fun h0 h=>tE fk33 (vBD a0 a1) (oc h0 on) (vGw _ _ _ _ _ h)
theorem xIE{N:Nat}{a0:List Str}{a1:Int}{r:Int}(h:xIO N  a0 a1=some r):AbC 33 (xEu a0 a1) (xCB r):=
 AbsCalls.of_reach fk33 rfl rfl rfl (jL rfl) (vGx a0 a1 r h)
noncomputable def I124:Info:= { body:=(Tryz.f124.body).getD .skip,nt:=12,results:=[.tmp 4],keep:=[0,2,8,20],live:=[],modes:=[] }
theorem vAL:FnOk Tryz.prog 124 Tryz.f124 I124:=by refine⟨Tryz.func124,?_,?_,?_,?_⟩<;>kernel_rfl
def xXy(a0 a1):rE I124 (xF2 a0 a1) [Y] []=dn (xDU (-1)) [iY (dc (((W (a1 - (Ln a0:Int))):Int)<0))]:=by kernel_rfl
def xXz(a0 a1):rE I124 (xF2 a0 a1) [F] []=dn (xDU (W (a1 - (Ln a0:Int)))) [iN (dc (((W (a1 - (Ln a0:Int))):Int)<0))]:=by kernel_rfl
theorem vE7{N:Nat}:∀a0 a1 r,xK0 N a0 a1=some r->RE Tryz.f124 I124 (xF2 a0 a1) (xDU r):=fun a0 a1 r h=>cE h (fun h0 h=>dE h vAL (xXy a0 a1) (oc h0 on)) fun h0 h=>dE h vAL (xXz a0 a1) (oc h0 on)
theorem xKn{N:Nat}{a0:List Int}{a1:Int}{r:Int}(h:xK0 N  a0 a1=some r):AbC 124 (xF2 a0 a1) (xDU r):=
 AbsCalls.of_reach vAL rfl rfl rfl (jL rfl) (vE7 a0 a1 r h)
noncomputable def I125:Info:= { body:=(Tryz.f125.body).getD .skip,nt:=12,results:=[.tmp 4],keep:=[0,2,8,20],live:=[],modes:=[] }
theorem vAM:FnOk Tryz.prog 125 Tryz.f125 I125:=by refine⟨Tryz.func125,?_,?_,?_,?_⟩<;>kernel_rfl
def xXA(a0 a1):rE I125 (xFa a0 a1) [Y] []=dn (xDQ (-1)) [iY (dc (((W (a1 - (Ln a0:Int))):Int)<0))]:=by kernel_rfl
def xXB(a0 a1):rE I125 (xFa a0 a1) [F] []=dn (xDQ (W (a1 - (Ln a0:Int)))) [iN (dc (((W (a1 - (Ln a0:Int))):Int)<0))]:=by kernel_rfl
theorem vE8{N:Nat}:∀a0 a1 r,xIM N a0 a1=some r->RE Tryz.f125 I125 (xFa a0 a1) (xDQ r):=fun a0 a1 r h=>cE h (fun h0 h=>dE h vAM (xXA a0 a1) (oc h0 on)) fun h0 h=>dE h vAM (xXB a0 a1) (oc h0 on)
theorem xKH{N:Nat}{a0:List Org}{a1:Int}{r:Int}(h:xIM N  a0 a1=some r):AbC 125 (xFa a0 a1) (xDQ r):=
 AbsCalls.of_reach vAM rfl rfl rfl (jL rfl) (vE8 a0 a1 r h)
noncomputable def I84:Info:= { body:=(Tryz.f84.body).getD .skip,nt:=18,results:=[.tmp 4],keep:=[0,2,4,8,20,32,5],live:=[],modes:=[] }
theorem fk84:FnOk Tryz.prog 84 Tryz.f84 I84:=by refine⟨Tryz.func84,?_,?_,?_,?_⟩<;>kernel_rfl
abbrev xFA(v0:Int):Prop:=iY (dc (v0<0))
def vDM(a0 a1 r1):rE I84 (xGr a0 a1) [Y] [xDU r1]=dn (xEX (-1)) [AbC 124 (xF2 a0.cells a1) (xDU r1),xFA r1]:=by kernel_rfl
abbrev xAG(v0:Int):Prop:=iN (dc (v0<0))
def vDN(a0 a1 r1 r2):rE I84 (xGr a0 a1) [F,Y] [xDU r1,xDQ r2]=dn (xEX (-1)) [AbC 124 (xF2 a0.cells a1) (xDU r1),xAG r1,AbC 125 (xFa a0.frm r1) (xDQ r2),xFA r2]:=by kernel_rfl
def vDO(a0 a1 r1 r2):rE I84 (xGr a0 a1) [F,F] [xDU r1,xDQ r2]=dn (xEX r2) [AbC 124 (xF2 a0.cells a1) (xDU r1),xAG r1,AbC 125 (xFa a0.frm r1) (xDQ r2),xAG r2]:=by kernel_rfl
theorem vHh{N:Nat}:∀a0 a1 r,xKI N a0 a1=some r->RE Tryz.f84 I84 (xGr a0 a1) (xEX r):=fun a0 a1 r h=>bE h fun r1 h0 h=>cE h (fun h1 h=>dE h fk84 (vDM a0 a1 r1) (oc2 (xKn h0) h1 on)) fun h1 h=>bE h fun r2 h2 h=>cE h (fun h3 h=>dE h fk84 (vDN a0 a1 r1 r2) (oc4 (xKn h0) h1 (xKH h2) h3 on)) fun h3 h=>dE h fk84 (vDO a0 a1 r1 r2) (oc4 (xKn h0) h1 (xKH h2) h3 on)
theorem xMH{N:Nat}{a0:Rowd}{a1:Int}{r:Int}(h:xKI N  a0 a1=some r):AbC 84 (xGr a0 a1) (xEX r):=
 AbsCalls.of_reach fk84 rfl rfl rfl (jL rfl) (vHh a0 a1 r h)
noncomputable def I34:Info:= { body:=(Tryz.f34.body).getD .skip,nt:=27,results:=[.tmp 4],keep:=[0,2,8,10,22,30,50],live:=[(5,[0,2,10])],modes:=[] }
theorem fk34:FnOk Tryz.prog 34 Tryz.f34 I34:=by refine⟨Tryz.func34,?_,?_,?_,?_⟩<;>kernel_rfl
def xT4(x0:List Rowd)(x1 x5:Int):St:=[(0,.v false [.sl .ro .row x0]),(2,.v false [.int .i64 x1]),(10,.v false [.int .i64 x5])]
abbrev xJ6(v0:Int)(v1:List Rowd):Prop:=iY (dc (v0<(Ln v1:Int)))
abbrev xHJ(v0:Int)(v1:List Rowd):Prop:=(0:Int)<=v0/\v0<(Ln v1)
abbrev xIk(v0:List Rowd)(v1:Int):=gD v0 (tN v1) rd
def vBE(x0 x1 x5 r1):rS 5 I34 (xT4 x0 x1 x5) [Y,Y] [xEX r1]=dn (xDV (-1)) [xJ6 x5 x0,xHJ x5 x0,AbC 84 (xGr (xIk x0 x5) x1) (xEX r1),xFA r1]:=by kernel_rfl
def vBF(x0 x1 x5 r1):rS 5 I34 (xT4 x0 x1 x5) [Y,F] [xEX r1]=st 5 I34 (xT4 x0 r1 (W (x5+1))) [xJ6 x5 x0,xHJ x5 x0,AbC 84 (xGr (xIk x0 x5) x1) (xEX r1),xAG r1]:=by kernel_rfl
abbrev xOp(v0:Int)(v1:List Rowd):Prop:=iN (dc (v0<(Ln v1:Int)))
def vBG(x0 x1 x5):rS 5 I34 (xT4 x0 x1 x5) [F] []=dn (xDV x1) [xOp x5 x0]:=by kernel_rfl
def vBH(a0 a1):rE I34 (xGO a0 a1) [Y] []=dn (xDV (-1)) [iY (dc (((W (a1 - (Ln a0:Int))):Int)<0))]:=by kernel_rfl
def vBI(a0 a1):rE I34 (xGO a0 a1) [F] []=st 5 I34 (xT4 a0 (W (a1 - (Ln a0:Int))) 0) [iN (dc (((W (a1 - (Ln a0:Int))):Int)<0))]:=by kernel_rfl
theorem vGy{N:Nat}:∀n x0 x1 x5 r,xIN N n x0 x1 x5=some r->RS Tryz.f34 I34 5 (xT4 x0 x1 x5) (xDV r):=by
 intro n
 induction n with
 |zero=>exact fun _ _ _ _ h=>nE h
 |succ n ih=>
  exact fun x0 x1 x5 r h=>cE h (fun h0 h=>iE h fun h1 h=>bE h fun r1 h2 h=>cE h (fun h3 h=>dS h fk34 (vBE x0 x1 x5 r1) (oc4 h0 h1 (xMH h2) h3 on)) fun h3 h=>tS fk34 (vBF x0 x1 x5 r1) (oc4 h0 h1 (xMH h2) h3 on) (ih _ _ _ _ h)) fun h0 h=>dS h fk34 (vBG x0 x1 x5) (oc h0 on)
theorem vGz{N:Nat}:∀a0 a1 r,xK1 N a0 a1=some r->RE Tryz.f34 I34 (xGO a0 a1) (xDV r):=fun a0 a1 r h=>cE h (fun h0 h=>dE h fk34 (vBH a0 a1) (oc h0 on)) fun h0 h=>tE fk34 (vBI a0 a1) (oc h0 on) (vGy _ _ _ _ _ h)
theorem xLZ{N:Nat}{a0:List Rowd}{a1:Int}{r:Int}(h:xK1 N  a0 a1=some r):AbC 34 (xGO a0 a1) (xDV r):=
 AbsCalls.of_reach fk34 rfl rfl rfl (jL rfl) (vGz a0 a1 r h)
def G8(q:Val->Int->Option (Int)):Prop:=∀a0 a1 r,q a0 a1=some r->AbC 8 (xCJ a0 a1) (xAe r)
def G32(q:(List Val)->Int->Option (Int)):Prop:=∀a0 a1 r,q a0 a1=some r->AbC 32 (xFM a0 a1) (xCI r)
noncomputable def I8:Info:= { body:=(Tryz.f8.body).getD .skip,nt:=31,results:=[.tmp 4],keep:=[0,2,4,8,22,34,46,58,5],live:=[],modes:=[] }
theorem fk8:FnOk Tryz.prog 8 Tryz.f8 I8:=by refine⟨Tryz.func8,?_,?_,?_,?_⟩<;>kernel_rfl
def vF5(a0 a1):rE I8 (xCJ a0 a1) [Y] []=dn (xAe (-1)) [iY (dc (((W (a1 - (Ln a0.text:Int))):Int)<0))]:=by kernel_rfl
abbrev xTM(v0:Int)(v1:Val):Prop:=iN (dc (((W (v0 - (Ln v1.text:Int))):Int)<0))
abbrev xTN(v0:Val)(v1 v2:Int):Prop:=AbC 32 (xFM v0.list (W (v1 - (Ln v0.text:Int)))) (xCI v2)
def vF6(a0 a1 r1):rE I8 (xCJ a0 a1) [F,Y] [xCI r1]=dn (xAe (-1)) [xTM a1 a0,xTN a0 a1 r1,xFA r1]:=by kernel_rfl
def vF7(a0 a1 r1 r2):rE I8 (xCJ a0 a1) [F,F,Y] [xCI r1,xCB r2]=dn (xAe (-1)) [xTM a1 a0,xTN a0 a1 r1,xAG r1,AbC 33 (xEu a0.columns r1) (xCB r2),xFA r2]:=by kernel_rfl
def vF8(a0 a1 r1 r2 r3):rE I8 (xCJ a0 a1) [F,F,F,Y] [xCI r1,xCB r2,xDV r3]=dn (xAe (-1)) [xTM a1 a0,xTN a0 a1 r1,xAG r1,AbC 33 (xEu a0.columns r1) (xCB r2),xAG r2,AbC 34 (xGO a0.rows r2) (xDV r3),xFA r3]:=by kernel_rfl
def vF9(a0 a1 r1 r2 r3):rE I8 (xCJ a0 a1) [F,F,F,F] [xCI r1,xCB r2,xDV r3]=dn (xAe r3) [xTM a1 a0,xTN a0 a1 r1,xAG r1,AbC 33 (xEu a0.columns r1) (xCB r2),xAG r2,AbC 34 (xGO a0.rows r2) (xDV r3),xAG r3]:=by kernel_rfl
theorem c8_e{N q0 q1}(g0:G8 q0)(g1:G32 q1):∀a0 a1 r,xIF N q0 q1 a0 a1=some r->RE Tryz.f8 I8 (xCJ a0 a1) (xAe r):=fun a0 a1 r h=>cE h (fun h0 h=>dE h fk8 (vF5 a0 a1) (oc h0 on)) fun h0 h=>bE h fun r1 h1 h=>cE h (fun h2 h=>dE h fk8 (vF6 a0 a1 r1) (oc3 h0 (g1 _ _ _ h1) h2 on)) fun h2 h=>bE h fun r2 h3 h=>cE h (fun h4 h=>dE h fk8 (vF7 a0 a1 r1 r2) (oc5 h0 (g1 _ _ _ h1) h2 (xIE h3) h4 on)) fun h4 h=>bE h fun r3 h5 h=>cE h (fun h6 h=>dE h fk8 (vF8 a0 a1 r1 r2 r3) (oc7 h0 (g1 _ _ _ h1) h2 (xIE h3) h4 (xLZ h5) h6 on)) fun h6 h=>dE h fk8 (vF9 a0 a1 r1 r2 r3) (oc7 h0 (g1 _ _ _ h1) h2 (xIE h3) h4 (xLZ h5) h6 on)
theorem xLS{N q0 q1}(g0:G8 q0)(g1:G32 q1){a0}{a1}{r}(h:xIF N q0 q1 a0 a1=some r):AbC 8 (xCJ a0 a1) (xAe r):=
 AbsCalls.of_reach fk8 rfl rfl rfl (jL rfl) (c8_e g0 g1 a0 a1 r h)
noncomputable def I32:Info:= { body:=(Tryz.f32.body).getD .skip,nt:=27,results:=[.tmp 4],keep:=[0,2,8,10,22,30,50],live:=[(5,[0,2,10])],modes:=[] }
theorem fk32:FnOk Tryz.prog 32 Tryz.f32 I32:=by refine⟨Tryz.func32,?_,?_,?_,?_⟩<;>kernel_rfl
def xT2(x0:List Val)(x1 x5:Int):St:=[(0,.v false [.sl .ro .val x0]),(2,.v false [.int .i64 x1]),(10,.v false [.int .i64 x5])]
abbrev xIl(v0:Int)(v1:List Val):Prop:=iY (dc (v0<(Ln v1:Int)))
abbrev xCj(v0:Int)(v1:List Val):Prop:=(0:Int)<=v0/\v0<(Ln v1)
abbrev xIG(v0:List Val)(v1:Int):=gD v0 (tN v1) vd
def vBu(x0 x1 x5 r1):rS 5 I32 (xT2 x0 x1 x5) [Y,Y] [xAe r1]=dn (xCI (-1)) [xIl x5 x0,xCj x5 x0,AbC 8 (xCJ (xIG x0 x5) x1) (xAe r1),xFA r1]:=by kernel_rfl
def vBv(x0 x1 x5 r1):rS 5 I32 (xT2 x0 x1 x5) [Y,F] [xAe r1]=st 5 I32 (xT2 x0 r1 (W (x5+1))) [xIl x5 x0,xCj x5 x0,AbC 8 (xCJ (xIG x0 x5) x1) (xAe r1),xAG r1]:=by kernel_rfl
abbrev xOq(v0:Int)(v1:List Val):Prop:=iN (dc (v0<(Ln v1:Int)))
def vBw(x0 x1 x5):rS 5 I32 (xT2 x0 x1 x5) [F] []=dn (xCI x1) [xOq x5 x0]:=by kernel_rfl
def vBx(a0 a1):rE I32 (xFM a0 a1) [Y] []=dn (xCI (-1)) [iY (dc (((W (a1 - (Ln a0:Int))):Int)<0))]:=by kernel_rfl
def vBy(a0 a1):rE I32 (xFM a0 a1) [F] []=st 5 I32 (xT2 a0 (W (a1 - (Ln a0:Int))) 0) [iN (dc (((W (a1 - (Ln a0:Int))):Int)<0))]:=by kernel_rfl
theorem vGu{N q0 q1}(g0:G8 q0)(g1:G32 q1):∀n x0 x1 x5 r,xHS N q0 q1 n x0 x1 x5=some r->RS Tryz.f32 I32 5 (xT2 x0 x1 x5) (xCI r):=by
 intro n
 induction n with
 |zero=>exact fun _ _ _ _ h=>nE h
 |succ n ih=>
  exact fun x0 x1 x5 r h=>cE h (fun h0 h=>iE h fun h1 h=>bE h fun r1 h2 h=>cE h (fun h3 h=>dS h fk32 (vBu x0 x1 x5 r1) (oc4 h0 h1 (g0 _ _ _ h2) h3 on)) fun h3 h=>tS fk32 (vBv x0 x1 x5 r1) (oc4 h0 h1 (g0 _ _ _ h2) h3 on) (ih _ _ _ _ h)) fun h0 h=>dS h fk32 (vBw x0 x1 x5) (oc h0 on)
theorem vGv{N q0 q1}(g0:G8 q0)(g1:G32 q1):∀a0 a1 r,xIg N q0 q1 a0 a1=some r->RE Tryz.f32 I32 (xFM a0 a1) (xCI r):=fun a0 a1 r h=>cE h (fun h0 h=>dE h fk32 (vBx a0 a1) (oc h0 on)) fun h0 h=>tE fk32 (vBy a0 a1) (oc h0 on) (vGu g0 g1 _ _ _ _ _ h)
theorem xLs{N q0 q1}(g0:G8 q0)(g1:G32 q1){a0}{a1}{r}(h:xIg N q0 q1 a0 a1=some r):AbC 32 (xFM a0 a1) (xCI r):=
 AbsCalls.of_reach fk32 rfl rfl rfl (jL rfl) (vGv g0 g1 a0 a1 r h)
theorem xMd{N:Nat}:∀d,G8 (xCY N d).c_laws_szValue/\G32 (xCY N d).c_laws_szValueS:=by
 intro d
 induction d with
 |zero=>exact⟨fun _ _ _ h=>nE h,fun _ _ _ h=>nE h⟩
 |succ d ih=>
  obtain⟨ih0,ih1⟩:=ih;exact⟨fun _ _ _ h=>xLS (N:=N) ih0 ih1 h,fun _ _ _ h=>xLs (N:=N) ih0 ih1 h⟩
theorem xAi{N:Nat}{a0:Val}{a1:Int}{r:Int}(h:xI0 N a0 a1=some r):AbC 8 (xCJ a0 a1) (xAe r):=(xMd N).1 _ _ r h
noncomputable def I40:Info:= { body:=(Tryz.f40.body).getD .skip,nt:=22,results:=[.tmp 2],keep:=[0,4,6,8,22],live:=[(3,[0,6,8])],modes:=[(5,[(0,.ref,false)]),(6,[(0,.take,false)])] }
theorem fk40:FnOk Tryz.prog 40 Tryz.f40 I40:=by refine⟨Tryz.func40,?_,?_,?_,?_⟩<;>kernel_rfl
def xUU(x0 x3:List Str)(x4:Int):St:=[(0,.v false [.sl .ro .str x0]),(6,.v false [.sl .own .str x3]),(8,.v false [.int .i64 x4])]
def vBW(x0 x3 x4):rS 3 I40 (xUU x0 x3 x4) [Y] []=st 3 I40 (xUU x0 (x3.set (tN x4) (xIj x0 x4)) (W (x4+1))) [xJc x4 x0,xGF x4 x0,xGF x4 x3]:=by kernel_rfl
def vBX(x0 x3 x4):rS 3 I40 (xUU x0 x3 x4) [F] []=dn (xFc x3) [xL0 x4 x0]:=by kernel_rfl
def vBY(a0):rE I40 (xHk a0) [] []=st 3 I40 (xUU a0 (List.replicate (tN (Ln a0:Int)) Ty.str.dflt) 0) [(0:Int)<=(Ln a0:Int)/\(Ln a0:Int)=(Ln a0:Int)/\(Ln a0:Int)<=Lim]:=by kernel_rfl
theorem vGH{N:Nat}:∀n x0 x3 x4 r,xHl N n x0 x3 x4=some r->RS Tryz.f40 I40 3 (xUU x0 x3 x4) (xFc r):=by
 intro n
 induction n with
 |zero=>exact fun _ _ _ _ h=>nE h
 |succ n ih=>
  exact fun x0 x3 x4 r h=>cE h (fun h0 h=>iE h fun h1 h=>iE h fun h2 h=>tS fk40 (vBW x0 x3 x4) (oc3 h0 h1 h2 on) (ih _ _ _ _ h)) fun h0 h=>dS h fk40 (vBX x0 x3 x4) (oc h0 on)
theorem vGI{N:Nat}:∀a0 r,xHI N a0=some r->RE Tryz.f40 I40 (xHk a0) (xFc r):=fun a0 r h=>iE h fun h0 h=>tE fk40 (vBY a0) (oc h0 on) (vGH _ _ _ _ _ h)
theorem xNb{N:Nat}{a0:List Str}{r:(List Str)}(h:xHI N  a0=some r):AbC 40 (xHk a0) (xFc r):=
 AbsCalls.of_reach fk40 rfl rfl rfl (jL rfl) (vGI a0 r h)
noncomputable def I127:Info:= { body:=(Tryz.f127.body).getD .skip,nt:=22,results:=[.tmp 2],keep:=[0,4,6,8,22],live:=[(3,[0,6,8])],modes:=[(5,[(0,.ref,false)]),(6,[(0,.take,false)])] }
theorem xWI:FnOk Tryz.prog 127 Tryz.f127 I127:=by refine⟨Tryz.func127,?_,?_,?_,?_⟩<;>kernel_rfl
def xRi(x0 x3:List Int)(x4:Int):St:=[(0,.v false [.sl .ro .int x0]),(6,.v false [.sl .own .int x3]),(8,.v false [.int .i64 x4])]
abbrev xPv(v0:Int)(v1:List Int):Prop:=iY (dc (v0<(Ln v1:Int)))
abbrev xJM(v0:Int)(v1:List Int):Prop:=(0:Int)<=v0/\v0<(Ln v1)
abbrev xK5(v0:List Int)(v1:Int):=gD v0 (tN v1) Ty.int.dflt
def xXF(x0 x3 x4):rS 3 I127 (xRi x0 x3 x4) [Y] []=st 3 I127 (xRi x0 (x3.set (tN x4) (xK5 x0 x4)) (W (x4+1))) [xPv x4 x0,xJM x4 x0,xJM x4 x3]:=by kernel_rfl
def xXG(x0 x3 x4):rS 3 I127 (xRi x0 x3 x4) [F] []=dn (xGP x3) [iN (dc (x4<(Ln x0:Int)))]:=by kernel_rfl
def xXH(a0):rE I127 (xIP a0) [] []=st 3 I127 (xRi a0 (List.replicate (tN (Ln a0:Int)) Ty.int.dflt) 0) [(0:Int)<=(Ln a0:Int)/\(Ln a0:Int)=(Ln a0:Int)/\(Ln a0:Int)<=Lim]:=by kernel_rfl
theorem vFa{N:Nat}:∀n x0 x3 x4 r,xIQ N n x0 x3 x4=some r->RS Tryz.f127 I127 3 (xRi x0 x3 x4) (xGP r):=by
 intro n
 induction n with
 |zero=>exact fun _ _ _ _ h=>nE h
 |succ n ih=>
  exact fun x0 x3 x4 r h=>cE h (fun h0 h=>iE h fun h1 h=>iE h fun h2 h=>tS xWI (xXF x0 x3 x4) (oc3 h0 h1 h2 on) (ih _ _ _ _ h)) fun h0 h=>dS h xWI (xXG x0 x3 x4) (oc h0 on)
theorem vFb{N:Nat}:∀a0 r,xJG N a0=some r->RE Tryz.f127 I127 (xIP a0) (xGP r):=fun a0 r h=>iE h fun h0 h=>tE xWI (xXH a0) (oc h0 on) (vFa _ _ _ _ _ h)
theorem xOW{N:Nat}{a0:List Int}{r:(List Int)}(h:xJG N  a0=some r):AbC 127 (xIP a0) (xGP r):=
 AbsCalls.of_reach xWI rfl rfl rfl (jL rfl) (vFb a0 r h)
noncomputable def I163:Info:= { body:=(Tryz.f163.body).getD .skip,nt:=11,results:=[.cell 2 80],keep:=[0,2,4,6,3,5,7],live:=[],modes:=[] }
theorem vFM:FnOk Tryz.prog 163 Tryz.f163 I163:=by refine⟨Tryz.func163,?_,?_,?_,?_⟩<;>kernel_rfl
def xYi(a0):rE I163 (xHT a0) [] []=dn (xGD a0) []:=by kernel_rfl
theorem vFr{N:Nat}:∀a0 r,xJi N a0=some r->RE Tryz.f163 I163 (xHT a0) (xGD r):=fun a0 r h=>dE h vFM (xYi a0) on
theorem xNK{N:Nat}{a0:Org}{r:Org}(h:xJi N  a0=some r):AbC 163 (xHT a0) (xGD r):=
 AbsCalls.of_reach vFM rfl rfl rfl (jL rfl) (vFr a0 r h)
noncomputable def I128:Info:= { body:=(Tryz.f128.body).getD .skip,nt:=23,results:=[.tmp 2],keep:=[0,4,6,8,22],live:=[(3,[0,6,8])],modes:=[(5,[(0,.ref,false)]),(6,[(0,.take,false)])] }
theorem xWJ:FnOk Tryz.prog 128 Tryz.f128 I128:=by refine⟨Tryz.func128,?_,?_,?_,?_⟩<;>kernel_rfl
def xRj(x0 x3:List Org)(x4:Int):St:=[(0,.v false [.sl .ro .org x0]),(6,.v false [.sl .own .org x3]),(8,.v false [.int .i64 x4])]
abbrev xGG(v0:Int)(v1:List Org):Prop:=iY (dc (v0<(Ln v1:Int)))
def xXI(x0 x3 x4 r1):rS 3 I128 (xRj x0 x3 x4) [Y] [xGD r1]=st 3 I128 (xRj x0 (x3.set (tN x4) r1) (W (x4+1))) [xGG x4 x0,xEv x4 x0,AbC 163 (xHT (xFr x0 x4)) (xGD r1),xEv x4 x3]:=by kernel_rfl
abbrev xJ7(v0:Int)(v1:List Org):Prop:=iN (dc (v0<(Ln v1:Int)))
def xXJ(x0 x3 x4):rS 3 I128 (xRj x0 x3 x4) [F] []=dn (xFb x3) [xJ7 x4 x0]:=by kernel_rfl
def xXK(a0):rE I128 (xHi a0) [] []=st 3 I128 (xRj a0 (List.replicate (tN (Ln a0:Int)) Ty.org.dflt) 0) [(0:Int)<=(Ln a0:Int)/\(Ln a0:Int)=(Ln a0:Int)/\(Ln a0:Int)<=Lim]:=by kernel_rfl
theorem vFc{N:Nat}:∀n x0 x3 x4 r,xHj N n x0 x3 x4=some r->RS Tryz.f128 I128 3 (xRj x0 x3 x4) (xFb r):=by
 intro n
 induction n with
 |zero=>exact fun _ _ _ _ h=>nE h
 |succ n ih=>
  exact fun x0 x3 x4 r h=>cE h (fun h0 h=>iE h fun h1 h=>bE h fun r1 h2 h=>iE h fun h3 h=>tS xWJ (xXI x0 x3 x4 r1) (oc4 h0 h1 (xNK h2) h3 on) (ih _ _ _ _ h)) fun h0 h=>dS h xWJ (xXJ x0 x3 x4) (oc h0 on)
theorem vFd{N:Nat}:∀a0 r,xHH N a0=some r->RE Tryz.f128 I128 (xHi a0) (xFb r):=fun a0 r h=>iE h fun h0 h=>tE xWJ (xXK a0) (oc h0 on) (vFc _ _ _ _ _ h)
theorem xNa{N:Nat}{a0:List Org}{r:(List Org)}(h:xHH N  a0=some r):AbC 128 (xHi a0) (xFb r):=
 AbsCalls.of_reach xWJ rfl rfl rfl (jL rfl) (vFd a0 r h)
noncomputable def I88:Info:= { body:=(Tryz.f88.body).getD .skip,nt:=13,results:=[.cell 2 45],keep:=[0,2,4,6,3,5,7],live:=[],modes:=[(4,[(0,.take,false)])] }
theorem fk88:FnOk Tryz.prog 88 Tryz.f88 I88:=by refine⟨Tryz.func88,?_,?_,?_,?_⟩<;>kernel_rfl
def vD8(a0 r1 r2):rE I88 (xJj a0) [] [xGP r1,xFb r2]=dn (xIh (Rowd.mk r1 r2)) [AbC 127 (xIP a0.cells) (xGP r1),AbC 128 (xHi a0.frm) (xFb r2)]:=by kernel_rfl
theorem vHo{N:Nat}:∀a0 r,xJo N a0=some r->RE Tryz.f88 I88 (xJj a0) (xIh r):=fun a0 r h=>bE h fun r1 h0 h=>bE h fun r2 h1 h=>dE h fk88 (vD8 a0 r1 r2) (oc2 (xOW h0) (xNa h1) on)
theorem xPR{N:Nat}{a0:Rowd}{r:Rowd}(h:xJo N  a0=some r):AbC 88 (xJj a0) (xIh r):=
 AbsCalls.of_reach fk88 rfl rfl rfl (jL rfl) (vHo a0 r h)
noncomputable def I41:Info:= { body:=(Tryz.f41.body).getD .skip,nt:=23,results:=[.tmp 2],keep:=[0,4,6,8,22],live:=[(3,[0,6,8])],modes:=[(5,[(0,.ref,false)]),(6,[(0,.take,false)])] }
theorem fk41:FnOk Tryz.prog 41 Tryz.f41 I41:=by refine⟨Tryz.func41,?_,?_,?_,?_⟩<;>kernel_rfl
def xUV(x0 x3:List Rowd)(x4:Int):St:=[(0,.v false [.sl .ro .row x0]),(6,.v false [.sl .own .row x3]),(8,.v false [.int .i64 x4])]
def vBZ(x0 x3 x4 r1):rS 3 I41 (xUV x0 x3 x4) [Y] [xIh r1]=st 3 I41 (xUV x0 (x3.set (tN x4) r1) (W (x4+1))) [xJ6 x4 x0,xHJ x4 x0,AbC 88 (xJj (xIk x0 x4)) (xIh r1),xHJ x4 x3]:=by kernel_rfl
def vB0(x0 x3 x4):rS 3 I41 (xUV x0 x3 x4) [F] []=dn (xGQ x3) [xOp x4 x0]:=by kernel_rfl
def vB1(a0):rE I41 (xIR a0) [] []=st 3 I41 (xUV a0 (List.replicate (tN (Ln a0:Int)) rd) 0) [(0:Int)<=(Ln a0:Int)/\(Ln a0:Int)=(Ln a0:Int)/\(Ln a0:Int)<=Lim]:=by kernel_rfl
theorem vGJ{N:Nat}:∀n x0 x3 x4 r,xIS N n x0 x3 x4=some r->RS Tryz.f41 I41 3 (xUV x0 x3 x4) (xGQ r):=by
 intro n
 induction n with
 |zero=>exact fun _ _ _ _ h=>nE h
 |succ n ih=>
  exact fun x0 x3 x4 r h=>cE h (fun h0 h=>iE h fun h1 h=>bE h fun r1 h2 h=>iE h fun h3 h=>tS fk41 (vBZ x0 x3 x4 r1) (oc4 h0 h1 (xPR h2) h3 on) (ih _ _ _ _ h)) fun h0 h=>dS h fk41 (vB0 x0 x3 x4) (oc h0 on)
theorem vGK{N:Nat}:∀a0 r,xJH N a0=some r->RE Tryz.f41 I41 (xIR a0) (xGQ r):=fun a0 r h=>iE h fun h0 h=>tE fk41 (vB1 a0) (oc h0 on) (vGJ _ _ _ _ _ h)
theorem xOX{N:Nat}{a0:List Rowd}{r:(List Rowd)}(h:xJH N  a0=some r):AbC 41 (xIR a0) (xGQ r):=
 AbsCalls.of_reach fk41 rfl rfl rfl (jL rfl) (vGK a0 r h)
def G10(q:Val->Option (Val)):Prop:=∀a0 r,q a0=some r->AbC 10 (xFq a0) (xAa r)
def G39(q:(List Val)->Option ((List Val))):Prop:=∀a0 r,q a0=some r->AbC 39 (xGE a0) (xEQ r)
noncomputable def I10:Info:= { body:=(Tryz.f10.body).getD .skip,nt:=29,results:=[.cell 2 31],keep:=[0,2,4,6,3,5,7],live:=[],modes:=[(9,[(0,.take,false)])] }
theorem fk10:FnOk Tryz.prog 10 Tryz.f10 I10:=by refine⟨Tryz.func10,?_,?_,?_,?_⟩<;>kernel_rfl
def vA0(a0 r1 r2 r3):rE I10 (xFq a0) [] [xEQ r1,xFc r2,xGQ r3]=dn (xAa (Val.mk a0.kind a0.n a0.step a0.text r1 r2 r3)) [AbC 39 (xGE a0.list) (xEQ r1),AbC 40 (xHk a0.columns) (xFc r2),AbC 41 (xIR a0.rows) (xGQ r3)]:=by kernel_rfl
theorem vGn{N q0 q1}(g0:G10 q0)(g1:G39 q1):∀a0 r,xGc N q0 q1 a0=some r->RE Tryz.f10 I10 (xFq a0) (xAa r):=fun a0 r h=>bE h fun r1 h0 h=>bE h fun r2 h1 h=>bE h fun r3 h2 h=>dE h fk10 (vA0 a0 r1 r2 r3) (oc3 (g1 _ _ h0) (xNb h1) (xOX h2) on)
theorem xLT{N q0 q1}(g0:G10 q0)(g1:G39 q1){a0}{r}(h:xGc N q0 q1 a0=some r):AbC 10 (xFq a0) (xAa r):=
 AbsCalls.of_reach fk10 rfl rfl rfl (jL rfl) (vGn g0 g1 a0 r h)
noncomputable def I39:Info:= { body:=(Tryz.f39.body).getD .skip,nt:=23,results:=[.tmp 2],keep:=[0,4,6,8,22],live:=[(3,[0,6,8])],modes:=[(5,[(0,.ref,false)]),(6,[(0,.take,false)])] }
theorem fk39:FnOk Tryz.prog 39 Tryz.f39 I39:=by refine⟨Tryz.func39,?_,?_,?_,?_⟩<;>kernel_rfl
def xUT(x0 x3:List Val)(x4:Int):St:=[(0,.v false [.sl .ro .val x0]),(6,.v false [.sl .own .val x3]),(8,.v false [.int .i64 x4])]
def vBT(x0 x3 x4 r1):rS 3 I39 (xUT x0 x3 x4) [Y] [xAa r1]=st 3 I39 (xUT x0 (x3.set (tN x4) r1.re) (W (x4+1))) [xIl x4 x0,xCj x4 x0,AbC 10 (xFq (xIG x0 x4)) (xAa r1),xCj x4 x3]:=by kernel_rfl
def vBU(x0 x3 x4):rS 3 I39 (xUT x0 x3 x4) [F] []=dn (xEQ x3) [xOq x4 x0]:=by kernel_rfl
def vBV(a0):rE I39 (xGE a0) [] []=st 3 I39 (xUT a0 (List.replicate (tN (Ln a0:Int)) vd) 0) [(0:Int)<=(Ln a0:Int)/\(Ln a0:Int)=(Ln a0:Int)/\(Ln a0:Int)<=Lim]:=by kernel_rfl
theorem vGF{N q0 q1}(g0:G10 q0)(g1:G39 q1):∀n x0 x3 x4 r,xHU N q0 q1 n x0 x3 x4=some r->RS Tryz.f39 I39 3 (xUT x0 x3 x4) (xEQ r):=by
 intro n
 induction n with
 |zero=>exact fun _ _ _ _ h=>nE h
 |succ n ih=>
  exact fun x0 x3 x4 r h=>cE h (fun h0 h=>iE h fun h1 h=>bE h fun r1 h2 h=>iE h fun h3 h=>tS fk39 (vBT x0 x3 x4 r1) (oc4 h0 h1 (g0 _ _ h2) h3 on) (ih _ _ _ _ h)) fun h0 h=>dS h fk39 (vBU x0 x3 x4) (oc h0 on)
theorem vGG{N q0 q1}(g0:G10 q0)(g1:G39 q1):∀a0 r,xFU N q0 q1 a0=some r->RE Tryz.f39 I39 (xGE a0) (xEQ r):=fun a0 r h=>iE h fun h0 h=>tE fk39 (vBV a0) (oc h0 on) (vGF g0 g1 _ _ _ _ _ h)
theorem xLt{N q0 q1}(g0:G10 q0)(g1:G39 q1){a0}{r}(h:xFU N q0 q1 a0=some r):AbC 39 (xGE a0) (xEQ r):=
 AbsCalls.of_reach fk39 rfl rfl rfl (jL rfl) (vGG g0 g1 a0 r h)
theorem xMe{N:Nat}:∀d,G10 (xBS N d).c_laws_toValue/\G39 (xBS N d).c_laws_toValueS:=by
 intro d
 induction d with
 |zero=>exact⟨fun _ _ h=>nE h,fun _ _ h=>nE h⟩
 |succ d ih=>
  obtain⟨ih0,ih1⟩:=ih;exact⟨fun _ _ h=>xLT (N:=N) ih0 ih1 h,fun _ _ h=>xLt (N:=N) ih0 ih1 h⟩
theorem xAb{N:Nat}{a0:Val}{r:Val}(h:xCv N a0=some r):AbC 10 (xFq a0) (xAa r):=(xMe N).1 _ r h
noncomputable def I120:Info:= { body:=(Tryz.f120.body).getD .skip,nt:=15,results:=[.tmp 6],keep:=[0,2,4,12],live:=[],modes:=[(1,[(3,.take,false)])] }
theorem vAK:FnOk Tryz.prog 120 Tryz.f120 I120:=by refine⟨Tryz.func120,?_,?_,?_,?_⟩<;>kernel_rfl
def xXw(a0 a1 a2):rE I120 (xGh a0 a1 a2) [Y] []=dn (xEd (dc (a0<=a2))) [iY (dc (a0>=a1))]:=by kernel_rfl
def xXx(a0 a1 a2):rE I120 (xGh a0 a1 a2) [F] []=dn (xEd false) [iN (dc (a0>=a1))]:=by kernel_rfl
theorem vE6{N:Nat}:∀a0 a1 a2 r,xJV N a0 a1 a2=some r->RE Tryz.f120 I120 (xGh a0 a1 a2) (xEd r):=fun a0 a1 a2 r h=>cE h (fun h0 h=>dE h vAK (xXw a0 a1 a2) (oc h0 on)) fun h0 h=>dE h vAK (xXx a0 a1 a2) (oc h0 on)
theorem xKe{N:Nat}{a0:Int}{a1:Int}{a2:Int}{r:Bool}(h:xJV N  a0 a1 a2=some r):AbC 120 (xGh a0 a1 a2) (xEd r):=
 AbsCalls.of_reach vAK rfl rfl rfl (jL rfl) (vE6 a0 a1 a2 r h)
noncomputable def I80:Info:= { body:=(Tryz.f80.body).getD .skip,nt:=5,results:=[.tmp 2],keep:=[0,4],live:=[],modes:=[] }
theorem fk80:FnOk Tryz.prog 80 Tryz.f80 I80:=by refine⟨Tryz.func80,?_,?_,?_,?_⟩<;>kernel_rfl
def vDK(a0 r1):rE I80 (xCZ a0) [] [xEd r1]=dn (xBB r1) [AbC 120 (xGh a0 (-1000000000) 1000000000) (xEd r1)]:=by kernel_rfl
theorem vHf{N:Nat}:∀a0 r,xE2 N a0=some r->RE Tryz.f80 I80 (xCZ a0) (xBB r):=fun a0 r h=>bE h fun r1 h0 h=>dE h fk80 (vDK a0 r1) (oc (xKe h0) on)
theorem xEf{N:Nat}{a0:Int}{r:Bool}(h:xE2 N  a0=some r):AbC 80 (xCZ a0) (xBB r):=
 AbsCalls.of_reach fk80 rfl rfl rfl (jL rfl) (vHf a0 r h)
noncomputable def I117:Info:= { body:=(Tryz.f117.body).getD .skip,nt:=29,results:=[.tmp 2],keep:=[0,4,6,14,50],live:=[(2,[0,6])],modes:=[(4,[(4,.take,false),(10,.take,false)])] }
theorem xSU:FnOk Tryz.prog 117 Tryz.f117 I117:=by refine⟨Tryz.func117,?_,?_,?_,?_⟩<;>kernel_rfl
def xNs(x0:Str)(x3:Int):St:=[(0,.v false [.str x0]),(6,.v false [.int .i64 x3])]
abbrev xFW(v0:Int)(v1:Str):Prop:=iY (dc (v0<(Ln v1:Int)))
abbrev xBJ(v0:Int)(v1:Str):Prop:=(0:Int)<=v0/\v0<(Ln v1)
abbrev xS4(v0:Str)(v1:Int):=dc ((((gD v0 (tN v1) 0).toNat:Int):Int)<32)
def xXd(x0 x3):rS 2 I117 (xNs x0 x3) [Y,Y,Y,Y] []=dn (xCV false) [xFW x3 x0,xBJ x3 x0,iY (xS4 x0 x3),iY true,iY true]:=by kernel_rfl
abbrev xPw(v0:Str)(v1:Int):Prop:=iN (xS4 v0 v1)
abbrev xS5(v0:Str)(v1:Int):=dc ((((gD v0 (tN v1) 0).toNat:Int):Int)>126)
def xXe(x0 x3):rS 2 I117 (xNs x0 x3) [Y,F,Y,Y] []=dn (xCV false) [xFW x3 x0,xBJ x3 x0,xPw x0 x3,xBJ x3 x0,iY (xS5 x0 x3),iY true]:=by kernel_rfl
abbrev xTO(v0:Str)(v1:Int):Prop:=iN (xS5 v0 v1)
abbrev xP1(v0:Str)(v1:Int):=(((gD v0 (tN v1) 0).toNat:Int):Int)==34
def xXf(x0 x3):rS 2 I117 (xNs x0 x3) [Y,F,F,Y] []=dn (xCV false) [xFW x3 x0,xBJ x3 x0,xPw x0 x3,xBJ x3 x0,xTO x0 x3,xBJ x3 x0,iY (xP1 x0 x3)]:=by kernel_rfl
def xXg(x0 x3):rS 2 I117 (xNs x0 x3) [Y,F,F,F] []=st 2 I117 (xNs x0 (W (x3+1))) [xFW x3 x0,xBJ x3 x0,xPw x0 x3,xBJ x3 x0,xTO x0 x3,xBJ x3 x0,iN (xP1 x0 x3)]:=by kernel_rfl
def xXh(x0 x3):rS 2 I117 (xNs x0 x3) [F] []=dn (xCV (dc ((Ln x0:Int)<=20))) [iN (dc (x3<(Ln x0:Int)))]:=by kernel_rfl
def xXi(a0):rE I117 (xGv a0) [] []=st 2 I117 (xNs a0 0) []:=by kernel_rfl
theorem vE0{N:Nat}:∀n x0 x3 r,xDg N n x0 x3=some r->RS Tryz.f117 I117 2 (xNs x0 x3) (xCV r):=by
 intro n
 induction n with
 |zero=>exact fun _ _ _ h=>nE h
 |succ n ih=>
  exact fun x0 x3 r h=>cE h (fun h0 h=>iE h fun h1 h=>cE h (fun h2 h=>dS h xSU (xXd x0 x3) (oc5 h0 h1 h2 rfl rfl on)) fun h2 h=>cE h (fun h4 h=>dS h xSU (xXe x0 x3) (oc6 h0 h1 h2 h1 h4 rfl on)) fun h4 h=>cE h (fun h6 h=>dS h xSU (xXf x0 x3) (oc7 h0 h1 h2 h1 h4 h1 h6 on)) fun h6 h=>tS xSU (xXg x0 x3) (oc7 h0 h1 h2 h1 h4 h1 h6 on) (ih _ _ _ h)) fun h0 h=>dS h xSU (xXh x0 x3) (oc h0 on)
theorem vE1{N:Nat}:∀a0 r,xHW N a0=some r->RE Tryz.f117 I117 (xGv a0) (xCV r):=fun a0 r h=>tE xSU (xXi a0) on (vE0 _ _ _ _ h)
theorem xMp{N:Nat}{a0:Str}{r:Bool}(h:xHW N  a0=some r):AbC 117 (xGv a0) (xCV r):=
 AbsCalls.of_reach xSU rfl rfl rfl (jL rfl) (vE1 a0 r h)
noncomputable def I158:Info:= { body:=(Tryz.f158.body).getD .skip,nt:=16,results:=[.tmp 2],keep:=[0,2,4,3],live:=[],modes:=[(1,[(3,.take,false),(8,.take,false)])] }
theorem xWK:FnOk Tryz.prog 158 Tryz.f158 I158:=by refine⟨Tryz.func158,?_,?_,?_,?_⟩<;>kernel_rfl
abbrev xNy(v0:Val):Prop:=iY (v0.kind==1)
def xX0(a0):rE I158 (xDS a0) [Y,Y] []=dn (xCK true) [xNy a0,iY true]:=by kernel_rfl
abbrev xC6(v0:Val):Prop:=iN (v0.kind==1)
abbrev xMM(v0:Val):Prop:=iY (v0.kind==2)
def xX1(a0):rE I158 (xDS a0) [F,Y] []=dn (xCK true) [xC6 a0,xMM a0]:=by kernel_rfl
abbrev xD2(v0:Val):Prop:=iN (v0.kind==2)
def xX2(a0):rE I158 (xDS a0) [F,F] []=dn (xCK (a0.kind==3)) [xC6 a0,xD2 a0]:=by kernel_rfl
theorem vFk{N:Nat}:∀a0 r,xIV N a0=some r->RE Tryz.f158 I158 (xDS a0) (xCK r):=fun a0 r h=>cE h (fun h0 h=>dE h xWK (xX0 a0) (oc2 h0 rfl on)) fun h0 h=>cE h (fun h1 h=>dE h xWK (xX1 a0) (oc2 h0 h1 on)) fun h1 h=>dE h xWK (xX2 a0) (oc2 h0 h1 on)
theorem xIK{N:Nat}{a0:Val}{r:Bool}(h:xIV N  a0=some r):AbC 158 (xDS a0) (xCK r):=
 AbsCalls.of_reach xWK rfl rfl rfl (jL rfl) (vFk a0 r h)
noncomputable def I173:Info:= { body:=(Tryz.f173.body).getD .skip,nt:=10,results:=[.tmp 4],keep:=[0,2,8,14],live:=[],modes:=[] }
theorem vAO:FnOk Tryz.prog 173 Tryz.f173 I173:=by refine⟨Tryz.func173,?_,?_,?_,?_⟩<;>kernel_rfl
def xYq(a0 a1):rE I173 (xIo a0 a1) [Y] []=dn (xHo a0) [iY (dc (a0>a1))]:=by kernel_rfl
def xYr(a0 a1):rE I173 (xIo a0 a1) [F] []=dn (xHo a1) [iN (dc (a0>a1))]:=by kernel_rfl
theorem vFw{N:Nat}:∀a0 a1 r,xKQ N a0 a1=some r->RE Tryz.f173 I173 (xIo a0 a1) (xHo r):=fun a0 a1 r h=>cE h (fun h0 h=>dE h vAO (xYq a0 a1) (oc h0 on)) fun h0 h=>dE h vAO (xYr a0 a1) (oc h0 on)
theorem xRc{N:Nat}{a0:Int}{a1:Int}{r:Int}(h:xKQ N  a0 a1=some r):AbC 173 (xIo a0 a1) (xHo r):=
 AbsCalls.of_reach vAO rfl rfl rfl (jL rfl) (vFw a0 a1 r h)
def G159(q:Val->Option (Int)):Prop:=∀a0 r,q a0=some r->AbC 159 (xFt a0) (xDx r)
noncomputable def I159:Info:= { body:=(Tryz.f159.body).getD .skip,nt:=22,results:=[.tmp 2],keep:=[0,2,4,6,8,18,3],live:=[(3,[2,6,8,3])],modes:=[] }
theorem xWL:FnOk Tryz.prog 159 Tryz.f159 I159:=by refine⟨Tryz.func159,?_,?_,?_,?_⟩<;>kernel_rfl
def xRk(x3 x4:Int)(b1:Val):St:=[(2,.v false [.ptr 1 0]),(6,.v false [.int .i64 x3]),(8,.v false [.int .i64 x4]),(3,.v true (Va .ro b1))]
abbrev xK6(v0:Val):=(Ln v0.list:Int)
abbrev xTP(v0:Int)(v1:Val):Prop:=iY (dc (v0<(xK6 v1)))
abbrev xPx(v0:Int)(v1:Val):Prop:=(0:Int)<=v0/\v0<(Ln v1.list)
def xX3(x3 x4 b1 r1 r2):rS 3 I159 (xRk x3 x4 b1) [Y] [xDx r1,xHo r2]=st 3 I159 (xRk r2 (W (x4+1)) b1) [xTP x4 b1,xPx x4 b1,AbC 159 (xFt (gD b1.list (tN x4) vd)) (xDx r1),AbC 173 (xIo x3 r1) (xHo r2)]:=by kernel_rfl
def xX4(x3 x4 b1):rS 3 I159 (xRk x3 x4 b1) [F] []=dn (xDx (W (x3+1))) [iN (dc (x4<(xK6 b1)))]:=by kernel_rfl
def xX5(a0):rE I159 (xFt a0) [] []=st 3 I159 (xRk 0 0 a0) []:=by kernel_rfl
theorem vFl{N q0}(g0:G159 q0):∀n x3 x4 b1 r,xGd N q0 n x3 x4 b1=some r->RS Tryz.f159 I159 3 (xRk x3 x4 b1) (xDx r):=by
 intro n
 induction n with
 |zero=>exact fun _ _ _ _ h=>nE h
 |succ n ih=>
  exact fun x3 x4 b1 r h=>cE h (fun h0 h=>iE h fun h1 h=>bE h fun r1 h2 h=>bE h fun r2 h3 h=>tS xWL (xX3 x3 x4 b1 r1 r2) (oc4 h0 h1 (g0 _ _ h2) (xRc h3) on) (ih _ _ _ _ h)) fun h0 h=>dS h xWL (xX4 x3 x4 b1) (oc h0 on)
theorem vFm{N q0}(g0:G159 q0):∀a0 r,xIH N q0 a0=some r->RE Tryz.f159 I159 (xFt a0) (xDx r):=fun a0 r h=>tE xWL (xX5 a0) on (vFl g0 _ _ _ _ _ h)
theorem xLV{N q0}(g0:G159 q0){a0}{r}(h:xIH N q0 a0=some r):AbC 159 (xFt a0) (xDx r):=
 AbsCalls.of_reach xWL rfl rfl rfl (jL rfl) (vFm g0 a0 r h)
theorem xJS{N:Nat}:∀d,G159 (xES N d)
 |0=>fun _ _ h=>nE h
 |d+1=>fun _ _ h=>xLV (N:=N) (xJS d) h
theorem xOE{N:Nat}{a0:Val}{r:Int}(h:xKc N a0=some r):AbC 159 (xFt a0) (xDx r):=xJS N _ r h
noncomputable def I187:Info:= { body:=(Tryz.f187.body).getD .skip,nt:=45,results:=[.tmp 2],keep:=[0,4,6,8,10,18,82],live:=[(2,[0,6])],modes:=[(4,[(4,.take,false)]),(5,[(4,.take,false)]),(6,[(0,.take,false),(2,.take,false),(5,.take,false),(6,.take,false)])] }
theorem xL4:FnOk Tryz.prog 187 Tryz.f187 I187:=by refine⟨Tryz.func187,?_,?_,?_,?_⟩<;>kernel_rfl
def xH5(x0:Str)(x3:Int):St:=[(0,.v false [.str x0]),(6,.v false [.int .i64 x3])]
abbrev xNh(v0:Str)(v1:Int):=(((gD v0 (tN v1) 0).toNat:Int):Int)
abbrev xLg(v0:Str)(v1:Int):Prop:=iY (dc ((xNh v0 v1)>=97))
abbrev xOr(v0:Str)(v1:Int):Prop:=iY (dc ((xNh v0 v1)>=48))
abbrev xMN(v0:Str)(v1:Int):Prop:=iY (!(dc ((xNh v0 v1)<=122)))
def xYN(x0 x3):rS 2 I187 (xH5 x0 x3) [Y,Y,Y,Y,Y,Y] []=dn (xBX false) [xFW x3 x0,xBJ x3 x0,xLg x0 x3,xBJ x3 x0,xBJ x3 x0,xOr x0 x3,xBJ x3 x0,xMN x0 x3,iY (x3==0),iY true]:=by kernel_rfl
abbrev xP2(v0:Str)(v1:Int):=dc ((((gD v0 (tN v1) 0).toNat:Int):Int)<=57)
def xYO(x0 x3):rS 2 I187 (xH5 x0 x3) [Y,Y,Y,Y,F,Y] []=dn (xBX false) [xFW x3 x0,xBJ x3 x0,xLg x0 x3,xBJ x3 x0,xBJ x3 x0,xOr x0 x3,xBJ x3 x0,xMN x0 x3,xJ5 x3,iY (!(xP2 x0 x3))]:=by kernel_rfl
def xYP(x0 x3):rS 2 I187 (xH5 x0 x3) [Y,Y,Y,Y,F,F] []=st 2 I187 (xH5 x0 (W (x3+1))) [xFW x3 x0,xBJ x3 x0,xLg x0 x3,xBJ x3 x0,xBJ x3 x0,xOr x0 x3,xBJ x3 x0,xMN x0 x3,xJ5 x3,iN (!(xP2 x0 x3))]:=by kernel_rfl
abbrev xVA(v0:Str)(v1:Int):Prop:=iN (!(dc ((xNh v0 v1)<=122)))
def xYQ(x0 x3):rS 2 I187 (xH5 x0 x3) [Y,Y,Y,F,F] []=st 2 I187 (xH5 x0 (W (x3+1))) [xFW x3 x0,xBJ x3 x0,xLg x0 x3,xBJ x3 x0,xBJ x3 x0,xOr x0 x3,xBJ x3 x0,xVA x0 x3,iN false]:=by kernel_rfl
abbrev xRB(v0:Str)(v1:Int):Prop:=iN (dc ((xNh v0 v1)>=48))
def xYR(x0 x3):rS 2 I187 (xH5 x0 x3) [Y,Y,F,Y,Y,Y] []=dn (xBX false) [xFW x3 x0,xBJ x3 x0,xLg x0 x3,xBJ x3 x0,xBJ x3 x0,xRB x0 x3,xMN x0 x3,iY (x3==0),iY true]:=by kernel_rfl
def xYS(x0 x3):rS 2 I187 (xH5 x0 x3) [Y,Y,F,Y,F,Y] []=dn (xBX false) [xFW x3 x0,xBJ x3 x0,xLg x0 x3,xBJ x3 x0,xBJ x3 x0,xRB x0 x3,xMN x0 x3,xJ5 x3,iY (!false)]:=by kernel_rfl
def xYT(x0 x3):rS 2 I187 (xH5 x0 x3) [Y,Y,F,F,F] []=st 2 I187 (xH5 x0 (W (x3+1))) [xFW x3 x0,xBJ x3 x0,xLg x0 x3,xBJ x3 x0,xBJ x3 x0,xRB x0 x3,xVA x0 x3,iN false]:=by kernel_rfl
abbrev xMO(v0:Str)(v1:Int):Prop:=iN (dc ((xNh v0 v1)>=97))
def xYU(x0 x3):rS 2 I187 (xH5 x0 x3) [Y,F,Y,Y,Y,Y] []=dn (xBX false) [xFW x3 x0,xBJ x3 x0,xMO x0 x3,xBJ x3 x0,xOr x0 x3,xBJ x3 x0,iY (!false),iY (x3==0),iY true]:=by kernel_rfl
def xYV(x0 x3):rS 2 I187 (xH5 x0 x3) [Y,F,Y,Y,F,Y] []=dn (xBX false) [xFW x3 x0,xBJ x3 x0,xMO x0 x3,xBJ x3 x0,xOr x0 x3,xBJ x3 x0,iY (!false),xJ5 x3,iY (!(xP2 x0 x3))]:=by kernel_rfl
def xYW(x0 x3):rS 2 I187 (xH5 x0 x3) [Y,F,Y,Y,F,F] []=st 2 I187 (xH5 x0 (W (x3+1))) [xFW x3 x0,xBJ x3 x0,xMO x0 x3,xBJ x3 x0,xOr x0 x3,xBJ x3 x0,iY (!false),xJ5 x3,iN (!(xP2 x0 x3))]:=by kernel_rfl
def xVX(x0 x3):rS 2 I187 (xH5 x0 x3) [Y,F,F,Y,Y,Y] []=dn (xBX false) [xFW x3 x0,xBJ x3 x0,xMO x0 x3,xBJ x3 x0,xRB x0 x3,iY (!false),iY (x3==0),iY true]:=by kernel_rfl
def xVY(x0 x3):rS 2 I187 (xH5 x0 x3) [Y,F,F,Y,F,Y] []=dn (xBX false) [xFW x3 x0,xBJ x3 x0,xMO x0 x3,xBJ x3 x0,xRB x0 x3,iY (!false),xJ5 x3,iY (!false)]:=by kernel_rfl
def xVZ(x0 x3):rS 2 I187 (xH5 x0 x3) [F] []=dn (xBX (dc ((Ln x0:Int)>0))) [iN (dc (x3<(Ln x0:Int)))]:=by kernel_rfl
def xV0(a0):rE I187 (xGe a0) [] []=st 2 I187 (xH5 a0 0) []:=by kernel_rfl
theorem vFB{N:Nat}:∀n x0 x3 r,xDy N n x0 x3=some r->RS Tryz.f187 I187 2 (xH5 x0 x3) (xBX r):=by
 intro n
 induction n with
 |zero=>exact fun _ _ _ h=>nE h
 |succ n ih=>
  exact fun x0 x3 r h=>cE h (fun h0 h=>iE h fun h1 h=>cE h (fun h2 h=>cE h (fun h5 h=>cE h (fun h7 h=>cE h (fun h8 h=>dS h xL4 (xYN x0 x3) (oc10 h0 h1 h2 h1 h1 h5 h1 h7 h8 rfl on)) fun h8 h=>cE h (fun h9 h=>dS h xL4 (xYO x0 x3) (oc10 h0 h1 h2 h1 h1 h5 h1 h7 h8 h9 on)) fun h9 h=>tS xL4 (xYP x0 x3) (oc10 h0 h1 h2 h1 h1 h5 h1 h7 h8 h9 on) (ih _ _ _ h)) fun h7 h=>tS xL4 (xYQ x0 x3) (oc9 h0 h1 h2 h1 h1 h5 h1 h7 rfl on) (ih _ _ _ h)) fun h5 h=>cE h (fun h6 h=>cE h (fun h7 h=>dS h xL4 (xYR x0 x3) (oc9 h0 h1 h2 h1 h1 h5 h6 h7 rfl on)) fun h7 h=>dS h xL4 (xYS x0 x3) (oc9 h0 h1 h2 h1 h1 h5 h6 h7 rfl on)) fun h6 h=>tS xL4 (xYT x0 x3) (oc8 h0 h1 h2 h1 h1 h5 h6 rfl on) (ih _ _ _ h)) fun h2 h=>cE h (fun h4 h=>cE h (fun h7 h=>dS h xL4 (xYU x0 x3) (oc9 h0 h1 h2 h1 h4 h1 rfl h7 rfl on)) fun h7 h=>cE h (fun h8 h=>dS h xL4 (xYV x0 x3) (oc9 h0 h1 h2 h1 h4 h1 rfl h7 h8 on)) fun h8 h=>tS xL4 (xYW x0 x3) (oc9 h0 h1 h2 h1 h4 h1 rfl h7 h8 on) (ih _ _ _ h)) fun h4 h=>cE h (fun h6 h=>dS h xL4 (xVX x0 x3) (oc8 h0 h1 h2 h1 h4 rfl h6 rfl on)) fun h6 h=>dS h xL4 (xVY x0 x3) (oc8 h0 h1 h2 h1 h4 rfl h6 rfl on)) fun h0 h=>dS h xL4 (xVZ x0 x3) (oc h0 on)
theorem vFC{N:Nat}:∀a0 r,xKf N a0=some r->RE Tryz.f187 I187 (xGe a0) (xBX r):=fun a0 r h=>tE xL4 (xV0 a0) on (vFB _ _ _ _ h)
theorem xJW{N:Nat}{a0:Str}{r:Bool}(h:xKf N  a0=some r):AbC 187 (xGe a0) (xBX r):=
 AbsCalls.of_reach xL4 rfl rfl rfl (jL rfl) (vFC a0 r h)
noncomputable def I196:Info:= { body:=(Tryz.f196.body).getD .skip,nt:=2,results:=[.tmp 0],keep:=[0],live:=[],modes:=[] }
theorem vFQ:FnOk Tryz.prog 196 Tryz.f196 I196:=by refine⟨Tryz.func196,?_,?_,?_,?_⟩<;>kernel_rfl
def xY8:rE I196 (xGY ) [] []=dn (xFZ [[108,101,116],[105,110],[105,102],[116,104,101,110],[101,108,115,101],[102,111,114],[100,111],[108,101,110],[115,117,109],[116,97,107,101],[115,107,105,112],[114,97,110,103,101],[110,116,104],[119,104,101,114,101],[107,101,101,112],[97,100,100],[103,114,111,117,112],[106,111,105,110],[99,111,108,117,109,110],[114,111,119,115],[99,108,111,99,107],[99,104,97,110,99,101],[102,105,108,101],[116,97,98,108,101]]) []:=by kernel_rfl
theorem vFF{N:Nat}:∀r,xIp N=some r->RE Tryz.f196 I196 (xGY ) (xFZ r):=fun r h=>dE h vFQ (xY8) on
theorem xMZ{N:Nat}{r:(List Str)}(h:xIp N   =some r):AbC 196 (xGY ) (xFZ r):=
 AbsCalls.of_reach vFQ rfl rfl rfl (jL rfl) (vFF  r h)
noncomputable def I86:Info:= { body:=(Tryz.f86.body).getD .skip,nt:=18,results:=[.tmp 4],keep:=[0,2,8,10,18,34],live:=[(2,[0,2,10])],modes:=[] }
theorem fk86:FnOk Tryz.prog 86 Tryz.f86 I86:=by refine⟨Tryz.func86,?_,?_,?_,?_⟩<;>kernel_rfl
def xUd(x0:List Str)(x1:Str)(x5:Int):St:=[(0,.v false [.sl .ro .str x0]),(2,.v false [.str x1]),(10,.v false [.int .i64 x5])]
abbrev xLx(v0:List Str)(v1:Int)(v2:Str):=((gD v0 (tN v1) Ty.str.dflt):Str)==v2
def vDU(x0 x1 x5):rS 2 I86 (xUd x0 x1 x5) [Y,Y] []=dn (xD5 true) [xJc x5 x0,xGF x5 x0,iY (xLx x0 x5 x1)]:=by kernel_rfl
def vDV(x0 x1 x5):rS 2 I86 (xUd x0 x1 x5) [Y,F] []=st 2 I86 (xUd x0 x1 (W (x5+1))) [xJc x5 x0,xGF x5 x0,iN (xLx x0 x5 x1)]:=by kernel_rfl
def vDW(x0 x1 x5):rS 2 I86 (xUd x0 x1 x5) [F] []=dn (xD5 false) [xL0 x5 x0]:=by kernel_rfl
def vDX(a0 a1):rE I86 (xHn a0 a1) [] []=st 2 I86 (xUd a0 a1 0) []:=by kernel_rfl
theorem vHk{N:Nat}:∀n x0 x1 x5 r,xGw N n x0 x1 x5=some r->RS Tryz.f86 I86 2 (xUd x0 x1 x5) (xD5 r):=by
 intro n
 induction n with
 |zero=>exact fun _ _ _ _ h=>nE h
 |succ n ih=>
  exact fun x0 x1 x5 r h=>cE h (fun h0 h=>iE h fun h1 h=>cE h (fun h2 h=>dS h fk86 (vDU x0 x1 x5) (oc3 h0 h1 h2 on)) fun h2 h=>tS fk86 (vDV x0 x1 x5) (oc3 h0 h1 h2 on) (ih _ _ _ _ h)) fun h0 h=>dS h fk86 (vDW x0 x1 x5) (oc h0 on)
theorem vHl{N:Nat}:∀a0 a1 r,xKP N a0 a1=some r->RE Tryz.f86 I86 (xHn a0 a1) (xD5 r):=fun a0 a1 r h=>tE fk86 (vDX a0 a1) on (vHk _ _ _ _ _ h)
theorem xK8{N:Nat}{a0:List Str}{a1:Str}{r:Bool}(h:xKP N  a0 a1=some r):AbC 86 (xHn a0 a1) (xD5 r):=
 AbsCalls.of_reach fk86 rfl rfl rfl (jL rfl) (vHl a0 a1 r h)
noncomputable def I188:Info:= { body:=(Tryz.f188.body).getD .skip,nt:=6,results:=[.tmp 2],keep:=[0,4],live:=[],modes:=[] }
theorem vFP:FnOk Tryz.prog 188 Tryz.f188 I188:=by refine⟨Tryz.func188,?_,?_,?_,?_⟩<;>kernel_rfl
def xYX(a0 r1 r2):rE I188 (xGX a0) [] [xFZ r1,xD5 r2]=dn (xFY r2) [AbC 196 xGY (xFZ r1),AbC 86 (xHn r1 a0) (xD5 r2)]:=by kernel_rfl
theorem vFD{N:Nat}:∀a0 r,xG7 N a0=some r->RE Tryz.f188 I188 (xGX a0) (xFY r):=fun a0 r h=>bE h fun r1 h0 h=>bE h fun r2 h1 h=>dE h vFP (xYX a0 r1 r2) (oc2 (xMZ h0) (xK8 h1) on)
theorem xMX{N:Nat}{a0:Str}{r:Bool}(h:xG7 N  a0=some r):AbC 188 (xGX a0) (xFY r):=
 AbsCalls.of_reach vFP rfl rfl rfl (jL rfl) (vFD a0 r h)
noncomputable def I174:Info:= { body:=(Tryz.f174.body).getD .skip,nt:=15,results:=[.tmp 2],keep:=[0,4],live:=[],modes:=[(1,[(2,.take,false),(7,.take,false)])] }
theorem xWN:FnOk Tryz.prog 174 Tryz.f174 I174:=by refine⟨Tryz.func174,?_,?_,?_,?_⟩<;>kernel_rfl
def xYs(a0 r1 r2):rE I174 (xDK a0) [Y,Y] [xBX r1,xFY r2]=dn (xCU (!r2)) [AbC 187 (xGe a0) (xBX r1),iY r1,iY (dc ((Ln a0:Int)<=8)),AbC 188 (xGX a0) (xFY r2)]:=by kernel_rfl
def xYt(a0 r1):rE I174 (xDK a0) [Y,F] [xBX r1]=dn (xCU false) [AbC 187 (xGe a0) (xBX r1),iY r1,iN (dc ((Ln a0:Int)<=8))]:=by kernel_rfl
def xYu(a0 r1):rE I174 (xDK a0) [F,F] [xBX r1]=dn (xCU false) [AbC 187 (xGe a0) (xBX r1),iN r1,iN false]:=by kernel_rfl
theorem vFx{N:Nat}:∀a0 r,xGJ N a0=some r->RE Tryz.f174 I174 (xDK a0) (xCU r):=fun a0 r h=>bE h fun r1 h0 h=>cE h (fun h1 h=>cE h (fun h2 h=>bE h fun r2 h3 h=>dE h xWN (xYs a0 r1 r2) (oc4 (xJW h0) h1 h2 (xMX h3) on)) fun h2 h=>dE h xWN (xYt a0 r1) (oc3 (xJW h0) h1 h2 on)) fun h1 h=>dE h xWN (xYu a0 r1) (oc3 (xJW h0) h1 rfl on)
theorem xJT{N:Nat}{a0:Str}{r:Bool}(h:xGJ N  a0=some r):AbC 174 (xDK a0) (xCU r):=
 AbsCalls.of_reach xWN rfl rfl rfl (jL rfl) (vFx a0 r h)
noncomputable def I37:Info:= { body:=(Tryz.f37.body).getD .skip,nt:=18,results:=[.tmp 2],keep:=[0,4,6,14,34],live:=[(2,[0,6])],modes:=[] }
theorem fk37:FnOk Tryz.prog 37 Tryz.f37 I37:=by refine⟨Tryz.func37,?_,?_,?_,?_⟩<;>kernel_rfl
def xT6(x0:List Str)(x3:Int):St:=[(0,.v false [.sl .ro .str x0]),(6,.v false [.int .i64 x3])]
def vBP(x0 x3 r1):rS 2 I37 (xT6 x0 x3) [Y,Y] [xD5 r1]=dn (xDJ false) [xJc x3 x0,(0:Int)<=x3/\x3<=(Ln x0),xGF x3 x0,AbC 86 (xHn (List.take (tN x3) x0) (xIj x0 x3)) (xD5 r1),iY r1]:=by kernel_rfl
def vBQ(x0 x3 r1):rS 2 I37 (xT6 x0 x3) [Y,F] [xD5 r1]=st 2 I37 (xT6 x0 (W (x3+1))) [xJc x3 x0,(0:Int)<=x3/\x3<=(Ln x0),xGF x3 x0,AbC 86 (xHn (List.take (tN x3) x0) (xIj x0 x3)) (xD5 r1),iN r1]:=by kernel_rfl
def vBR(x0 x3):rS 2 I37 (xT6 x0 x3) [F] []=dn (xDJ true) [xL0 x3 x0]:=by kernel_rfl
def vBS(a0):rE I37 (xGt a0) [] []=st 2 I37 (xT6 a0 0) []:=by kernel_rfl
theorem vGD{N:Nat}:∀n x0 x3 r,xDI N n x0 x3=some r->RS Tryz.f37 I37 2 (xT6 x0 x3) (xDJ r):=by
 intro n
 induction n with
 |zero=>exact fun _ _ _ h=>nE h
 |succ n ih=>
  exact fun x0 x3 r h=>cE h (fun h0 h=>iE h fun h1 h=>iE h fun h2 h=>bE h fun r1 h3 h=>cE h (fun h4 h=>dS h fk37 (vBP x0 x3 r1) (oc5 h0 h1 h2 (xK8 h3) h4 on)) fun h4 h=>tS fk37 (vBQ x0 x3 r1) (oc5 h0 h1 h2 (xK8 h3) h4 on) (ih _ _ _ h)) fun h0 h=>dS h fk37 (vBR x0 x3) (oc h0 on)
theorem vGE{N:Nat}:∀a0 r,xHV N a0=some r->RE Tryz.f37 I37 (xGt a0) (xDJ r):=fun a0 r h=>tE fk37 (vBS a0) on (vGD _ _ _ _ h)
theorem xMn{N:Nat}{a0:List Str}{r:Bool}(h:xHV N  a0=some r):AbC 37 (xGt a0) (xDJ r):=
 AbsCalls.of_reach fk37 rfl rfl rfl (jL rfl) (vGE a0 r h)
noncomputable def I160:Info:= { body:=(Tryz.f160.body).getD .skip,nt:=23,results:=[.tmp 2],keep:=[0,4,6,14,30],live:=[(2,[0,6])],modes:=[(6,[(3,.take,false)])] }
theorem xUI:FnOk Tryz.prog 160 Tryz.f160 I160:=by refine⟨Tryz.func160,?_,?_,?_,?_⟩<;>kernel_rfl
def xNX(x0:List Str)(x3:Int):St:=[(0,.v false [.sl .ro .str x0]),(6,.v false [.int .i64 x3])]
def xX6(x0 x3 r1):rS 2 I160 (xNX x0 x3) [Y,Y] [xCU r1]=dn (xCC false) [xJc x3 x0,xGF x3 x0,AbC 174 (xDK (xIj x0 x3)) (xCU r1),iY (!r1)]:=by kernel_rfl
def xX7(x0 x3 r1):rS 2 I160 (xNX x0 x3) [Y,F] [xCU r1]=st 2 I160 (xNX x0 (W (x3+1))) [xJc x3 x0,xGF x3 x0,AbC 174 (xDK (xIj x0 x3)) (xCU r1),xAC r1]:=by kernel_rfl
def xX8(x0 x3 r1 r2):rS 2 I160 (xNX x0 x3) [F,Y] [xEd r1,xDJ r2]=dn (xCC r2) [xL0 x3 x0,AbC 120 (xGh (Ln x0:Int) 1 4) (xEd r1),iY r1,AbC 37 (xGt x0) (xDJ r2)]:=by kernel_rfl
def xX9(x0 x3 r1):rS 2 I160 (xNX x0 x3) [F,F] [xEd r1]=dn (xCC false) [xL0 x3 x0,AbC 120 (xGh (Ln x0:Int) 1 4) (xEd r1),iN r1]:=by kernel_rfl
def xYa(a0):rE I160 (xFd a0) [] []=st 2 I160 (xNX a0 0) []:=by kernel_rfl
theorem vFn{N:Nat}:∀n x0 x3 r,xFe N n x0 x3=some r->RS Tryz.f160 I160 2 (xNX x0 x3) (xCC r):=by
 intro n
 induction n with
 |zero=>exact fun _ _ _ h=>nE h
 |succ n ih=>
  exact fun x0 x3 r h=>cE h (fun h0 h=>iE h fun h1 h=>bE h fun r1 h2 h=>cE h (fun h3 h=>dS h xUI (xX6 x0 x3 r1) (oc4 h0 h1 (xJT h2) h3 on)) fun h3 h=>tS xUI (xX7 x0 x3 r1) (oc4 h0 h1 (xJT h2) h3 on) (ih _ _ _ h)) fun h0 h=>bE h fun r1 h1 h=>cE h (fun h2 h=>bE h fun r2 h3 h=>dS h xUI (xX8 x0 x3 r1 r2) (oc4 h0 (xKe h1) h2 (xMn h3) on)) fun h2 h=>dS h xUI (xX9 x0 x3 r1) (oc3 h0 (xKe h1) h2 on)
theorem vFo{N:Nat}:∀a0 r,xIU N a0=some r->RE Tryz.f160 I160 (xFd a0) (xCC r):=fun a0 r h=>tE xUI (xYa a0) on (vFn _ _ _ _ h)
theorem xIJ{N:Nat}{a0:List Str}{r:Bool}(h:xIU N  a0=some r):AbC 160 (xFd a0) (xCC r):=
 AbsCalls.of_reach xUI rfl rfl rfl (jL rfl) (vFo a0 r h)
noncomputable def I126:Info:= { body:=(Tryz.f126.body).getD .skip,nt:=24,results:=[.tmp 4],keep:=[0,2,4,6,8,5,7],live:=[],modes:=[(1,[(5,.take,false),(11,.take,false)])] }
theorem xWH:FnOk Tryz.prog 126 Tryz.f126 I126:=by refine⟨Tryz.func126,?_,?_,?_,?_⟩<;>kernel_rfl
def xXC(a0 a1):rE I126 (xEe a0 a1) [Y] []=dn (xBH true) [iY (dc (a0.cell<a1.cell))]:=by kernel_rfl
def xXD(a0 a1):rE I126 (xEe a0 a1) [F,Y] []=dn (xBH (dc (a0.row<a1.row))) [iN (dc (a0.cell<a1.cell)),iY (a0.cell==a1.cell)]:=by kernel_rfl
def xXE(a0 a1):rE I126 (xEe a0 a1) [F,F] []=dn (xBH false) [iN (dc (a0.cell<a1.cell)),iN (a0.cell==a1.cell)]:=by kernel_rfl
theorem vE9{N:Nat}:∀a0 a1 r,xF0 N a0 a1=some r->RE Tryz.f126 I126 (xEe a0 a1) (xBH r):=fun a0 a1 r h=>cE h (fun h0 h=>dE h xWH (xXC a0 a1) (oc h0 on)) fun h0 h=>cE h (fun h1 h=>dE h xWH (xXD a0 a1) (oc2 h0 h1 on)) fun h1 h=>dE h xWH (xXE a0 a1) (oc2 h0 h1 on)
theorem xDk{N:Nat}{a0:Org}{a1:Org}{r:Bool}(h:xF0 N  a0 a1=some r):AbC 126 (xEe a0 a1) (xBH r):=
 AbsCalls.of_reach xWH rfl rfl rfl (jL rfl) (vE9 a0 a1 r h)
noncomputable def I161:Info:= { body:=(Tryz.f161.body).getD .skip,nt:=41,results:=[.tmp 2],keep:=[0,4,6,14,80],live:=[(2,[0,6])],modes:=[(4,[(6,.take,false),(14,.take,false),(17,.take,false)])] }
theorem xRs:FnOk Tryz.prog 161 Tryz.f161 I161:=by refine⟨Tryz.func161,?_,?_,?_,?_⟩<;>kernel_rfl
def xLW(x0:List Org)(x3:Int):St:=[(0,.v false [.sl .ro .org x0]),(6,.v false [.int .i64 x3])]
abbrev xS7(v0:List Org)(v1:Int):=dc (((Org.cell (gD v0 (tN v1) Ty.org.dflt)):Int)<0)
def xYb(x0 x3):rS 2 I161 (xLW x0 x3) [Y,Y,Y,Y] []=dn (xCt false) [xGG x3 x0,xEv x3 x0,iY (xS7 x0 x3),iY true,iY true]:=by kernel_rfl
abbrev xNz(v0:List Org)(v1:Int):Prop:=iN (xS7 v0 v1)
abbrev xS8(v0:List Org)(v1:Int):=dc (((Org.row (gD v0 (tN v1) Ty.org.dflt)):Int)<0)
def xYc(x0 x3):rS 2 I161 (xLW x0 x3) [Y,F,Y,Y] []=dn (xCt false) [xGG x3 x0,xEv x3 x0,xNz x0 x3,xEv x3 x0,iY (xS8 x0 x3),iY true]:=by kernel_rfl
abbrev xPy(v0:List Org)(v1:Int):Prop:=iN (xS8 v0 v1)
def xYd(x0 x3 r1):rS 2 I161 (xLW x0 x3) [Y,F,F,Y,Y] [xBH r1]=dn (xCt false) [xGG x3 x0,xEv x3 x0,xNz x0 x3,xEv x3 x0,xPy x0 x3,xOo x3,(0:Int)<=(W (x3 - 1))/\(W (x3 - 1))<(Ln x0),xEv x3 x0,AbC 126 (xEe (gD x0 (tN (W (x3 - 1))) Ty.org.dflt) (xFr x0 x3)) (xBH r1),iY (!r1)]:=by kernel_rfl
def xYe(x0 x3 r1):rS 2 I161 (xLW x0 x3) [Y,F,F,Y,F] [xBH r1]=st 2 I161 (xLW x0 (W (x3+1))) [xGG x3 x0,xEv x3 x0,xNz x0 x3,xEv x3 x0,xPy x0 x3,xOo x3,(0:Int)<=(W (x3 - 1))/\(W (x3 - 1))<(Ln x0),xEv x3 x0,AbC 126 (xEe (gD x0 (tN (W (x3 - 1))) Ty.org.dflt) (xFr x0 x3)) (xBH r1),xAC r1]:=by kernel_rfl
def xYf(x0 x3):rS 2 I161 (xLW x0 x3) [Y,F,F,F,F] []=st 2 I161 (xLW x0 (W (x3+1))) [xGG x3 x0,xEv x3 x0,xNz x0 x3,xEv x3 x0,xPy x0 x3,iN (dc (x3>0)),iN false]:=by kernel_rfl
def xYg(x0 x3):rS 2 I161 (xLW x0 x3) [F] []=dn (xCt true) [xJ7 x3 x0]:=by kernel_rfl
def xYh(a0):rE I161 (xFw a0) [] []=st 2 I161 (xLW a0 0) []:=by kernel_rfl
theorem vFp{N:Nat}:∀n x0 x3 r,xDh N n x0 x3=some r->RS Tryz.f161 I161 2 (xLW x0 x3) (xCt r):=by
 intro n
 induction n with
 |zero=>exact fun _ _ _ h=>nE h
 |succ n ih=>
  exact fun x0 x3 r h=>cE h (fun h0 h=>iE h fun h1 h=>cE h (fun h2 h=>dS h xRs (xYb x0 x3) (oc5 h0 h1 h2 rfl rfl on)) fun h2 h=>cE h (fun h4 h=>dS h xRs (xYc x0 x3) (oc6 h0 h1 h2 h1 h4 rfl on)) fun h4 h=>cE h (fun h5 h=>iE h fun h6 h=>bE h fun r1 h8 h=>cE h (fun h9 h=>dS h xRs (xYd x0 x3 r1) (oc10 h0 h1 h2 h1 h4 h5 h6 h1 (xDk h8) h9 on)) fun h9 h=>tS xRs (xYe x0 x3 r1) (oc10 h0 h1 h2 h1 h4 h5 h6 h1 (xDk h8) h9 on) (ih _ _ _ h)) fun h5 h=>tS xRs (xYf x0 x3) (oc7 h0 h1 h2 h1 h4 h5 rfl on) (ih _ _ _ h)) fun h0 h=>dS h xRs (xYg x0 x3) (oc h0 on)
theorem vFq{N:Nat}:∀a0 r,xHX N a0=some r->RE Tryz.f161 I161 (xFw a0) (xCt r):=fun a0 r h=>tE xRs (xYh a0) on (vFp _ _ _ _ h)
theorem xJX{N:Nat}{a0:List Org}{r:Bool}(h:xHX N  a0=some r):AbC 161 (xFw a0) (xCt r):=
 AbsCalls.of_reach xRs rfl rfl rfl (jL rfl) (vFq a0 r h)
noncomputable def I119:Info:= { body:=(Tryz.f119.body).getD .skip,nt:=55,results:=[.tmp 2],keep:=[0,2,4,6,8,10,30,40,80,90,108,3,9],live:=[(4,[2,6,3]),(10,[2,6,8,10,3,9])],modes:=[(1,[(4,.take,false)]),(7,[(7,.take,false)])] }
theorem xOb:FnOk Tryz.prog 119 Tryz.f119 I119:=by refine⟨Tryz.func119,?_,?_,?_,?_⟩<;>kernel_rfl
def xNu(x3:Int)(b1:Val):St:=[(2,.v false [.ptr 1 0]),(6,.v false [.int .i64 x3]),(3,.v true (Va .ro b1))]
def xM5(x3 x5:Int)(b1:Val)(b4:Rowd):St:=[(2,.v false [.ptr 1 0]),(6,.v false [.int .i64 x3]),(8,.v false [.ptr 4 0]),(10,.v false [.int .i64 x5]),(3,.v true (Va .ro b1)),(9,.v true [.sl .ro .int b4.cells,.sl .ro .org b4.frm])]
def xVT(x3 x5 b1 b4 r1):rS 10 I119 (xM5 x3 x5 b1 b4) [Y,Y] [xBB r1]=dn (xCL false) [iY (dc (x5<(Ln b4.cells:Int))),(0:Int)<=x5/\x5<(Ln b4.cells),AbC 80 (xCZ (gD b4.cells (tN x5) Ty.int.dflt)) (xBB r1),iY (!r1)]:=by kernel_rfl
def xVU(x3 x5 b1 b4 r1):rS 10 I119 (xM5 x3 x5 b1 b4) [Y,F] [xBB r1]=st 10 I119 (xM5 x3 (W (x5+1)) b1 b4) [iY (dc (x5<(Ln b4.cells:Int))),(0:Int)<=x5/\x5<(Ln b4.cells),AbC 80 (xCZ (gD b4.cells (tN x5) Ty.int.dflt)) (xBB r1),xAC r1]:=by kernel_rfl
def xVV(x3 x5 b1 b4):rS 10 I119 (xM5 x3 x5 b1 b4) [F] []=st 4 I119 (xNu (W (x3+1)) b1) [iN (dc (x5<(Ln b4.cells:Int)))]:=by kernel_rfl
abbrev xMk(v0:Val):=(Ln v0.rows:Int)
abbrev xPz(v0:Int)(v1:Val):Prop:=iY (dc (v0<(xMk v1)))
abbrev xNA(v0:Int)(v1:Val):Prop:=(0:Int)<=v0/\v0<(Ln v1.rows)
abbrev xVq(v0:Val)(v1:Int):=((Ln (Rowd.cells (gD v0.rows (tN v1) rd)):Int):Int) != (Ln v0.columns:Int)
def xXp(x3 b1):rS 4 I119 (xNu x3 b1) [Y,Y,Y] []=dn (xCL false) [xPz x3 b1,xNA x3 b1,iY (xVq b1 x3),iY true]:=by kernel_rfl
abbrev vAq(v0:Val)(v1:Int):Prop:=iN (xVq v0 v1)
abbrev xP3(v0:Val)(v1:Int):=gD v0.rows (tN v1) rd
def xXq(x3 b1 r1):rS 4 I119 (xNu x3 b1) [Y,F,Y] [xCt r1]=dn (xCL false) [xPz x3 b1,xNA x3 b1,vAq b1 x3,AbC 161 (xFw (Rowd.frm (xP3 b1 x3))) (xCt r1),iY (!r1)]:=by kernel_rfl
def xXr(x3 b1 r1):rS 4 I119 (xNu x3 b1) [Y,F,F] [xCt r1]=st 10 I119 (xM5 x3 0 b1 (xP3 b1 x3)) [xPz x3 b1,xNA x3 b1,vAq b1 x3,AbC 161 (xFw (Rowd.frm (xP3 b1 x3))) (xCt r1),xAC r1]:=by kernel_rfl
def xXs(x3 b1):rS 4 I119 (xNu x3 b1) [F] []=dn (xCL true) [iN (dc (x3<(xMk b1)))]:=by kernel_rfl
def xXt(a0 r1):rE I119 (xGf a0) [Y,Y] [xCC r1]=dn (xCL false) [AbC 160 (xFd a0.columns) (xCC r1),iY (!r1),iY true]:=by kernel_rfl
abbrev xP6(v0:Val):=dc ((Ln v0.rows:Int)>12)
def xXu(a0 r1):rE I119 (xGf a0) [F,Y] [xCC r1]=dn (xCL false) [AbC 160 (xFd a0.columns) (xCC r1),xAC r1,iY (xP6 a0)]:=by kernel_rfl
def xXv(a0 r1):rE I119 (xGf a0) [F,F] [xCC r1]=st 4 I119 (xNu 0 a0) [AbC 160 (xFd a0.columns) (xCC r1),xAC r1,iN (xP6 a0)]:=by kernel_rfl
theorem vAG{N:Nat}{k4:Int->Val->Option (Bool)}(hk4:∀z0 z1 r,k4 z0 z1=some r->RS Tryz.f119 I119 4 (xNu z0 z1) (xCL r)):∀n x3 x5 b1 b4 r,xET N k4 n x3 x5 b1 b4=some r->RS Tryz.f119 I119 10 (xM5 x3 x5 b1 b4) (xCL r):=by
 intro n
 induction n with
 |zero=>exact fun _ _ _ _ _ h=>nE h
 |succ n ih=>
  exact fun x3 x5 b1 b4 r h=>cE h (fun h0 h=>iE h fun h1 h=>bE h fun r1 h2 h=>cE h (fun h3 h=>dS h xOb (xVT x3 x5 b1 b4 r1) (oc4 h0 h1 (xEf h2) h3 on)) fun h3 h=>tS xOb (xVU x3 x5 b1 b4 r1) (oc4 h0 h1 (xEf h2) h3 on) (ih _ _ _ _ _ h)) fun h0 h=>tS xOb (xVV x3 x5 b1 b4) (oc h0 on) (hk4 _ _ _ h)
theorem vE4{N:Nat}:∀n x3 b1 r,xFx N n x3 b1=some r->RS Tryz.f119 I119 4 (xNu x3 b1) (xCL r):=by
 intro n
 induction n with
 |zero=>exact fun _ _ _ h=>nE h
 |succ n ih=>
  exact fun x3 b1 r h=>cE h (fun h0 h=>iE h fun h1 h=>cE h (fun h2 h=>dS h xOb (xXp x3 b1) (oc4 h0 h1 h2 rfl on)) fun h2 h=>bE h fun r1 h3 h=>cE h (fun h4 h=>dS h xOb (xXq x3 b1 r1) (oc5 h0 h1 h2 (xJX h3) h4 on)) fun h4 h=>tS xOb (xXr x3 b1 r1) (oc5 h0 h1 h2 (xJX h3) h4 on) (vAG ih _ _ _ _ _ _ h)) fun h0 h=>dS h xOb (xXs x3 b1) (oc h0 on)
theorem vE5{N:Nat}:∀a0 r,xI3 N a0=some r->RE Tryz.f119 I119 (xGf a0) (xCL r):=fun a0 r h=>bE h fun r1 h0 h=>cE h (fun h1 h=>dE h xOb (xXt a0 r1) (oc3 (xIJ h0) h1 rfl on)) fun h1 h=>cE h (fun h2 h=>dE h xOb (xXu a0 r1) (oc3 (xIJ h0) h1 h2 on)) fun h2 h=>tE xOb (xXv a0 r1) (oc3 (xIJ h0) h1 h2 on) (vE4 _ _ _ _ h)
theorem xOM{N:Nat}{a0:Val}{r:Bool}(h:xI3 N  a0=some r):AbC 119 (xGf a0) (xCL r):=
 AbsCalls.of_reach xOb rfl rfl rfl (jL rfl) (vE5 a0 r h)
def G75(q:Val->Option (Bool)):Prop:=∀a0 r,q a0=some r->AbC 75 (xAD a0) (xAw r)
def G118(q:Val->Option (Bool)):Prop:=∀a0 r,q a0=some r->AbC 118 (xHK a0) (xDW r)
noncomputable def I75:Info:= { body:=(Tryz.f75.body).getD .skip,nt:=95,results:=[.tmp 2],keep:=[0,2,4,52,88,92,94,104,124,142,162,180,3],live:=[],modes:=[(1,[(3,.take,false),(9,.take,false),(13,.take,false)]),(3,[(3,.take,false),(8,.take,false),(12,.take,false)]),(9,[(3,.take,false)]),(11,[(3,.take,false)]),(13,[(3,.take,false)]),(15,[(3,.take,false)])] }
theorem fk75:FnOk Tryz.prog 75 Tryz.f75 I75:=by refine⟨Tryz.func75,?_,?_,?_,?_⟩<;>kernel_rfl
abbrev xJd(v0:Val):Prop:=iY (v0.kind != 3)
def vDs(a0):rE I75 (xAD a0) [Y,Y,Y] []=dn (xAw false) [xJd a0,iY (dc ((xK6 a0)>0)),iY true]:=by kernel_rfl
abbrev xJN(v0:Val):Prop:=iN (dc ((xK6 v0)>0))
abbrev xJe(v0:Val):Prop:=iY (v0.kind != 5)
abbrev xVr(v0:Val):=dc (((W ((Ln v0.columns:Int)+(Ln v0.rows:Int))):Int)>0)
abbrev vAr(v0:Val):Prop:=iY (xVr v0)
def vDt(a0):rE I75 (xAD a0) [Y,F,Y,Y] []=dn (xAw false) [xJd a0,xJN a0,xJe a0,vAr a0]:=by kernel_rfl
abbrev xJ8(v0:Val):Prop:=iN (xVr v0)
abbrev xJO(v0:Val):Prop:=iY (v0.kind != 2)
abbrev xNi(v0:Val):=(v0.text:Str)== []
def vDu(a0):rE I75 (xAD a0) [Y,F,Y,F,Y,Y,Y] []=dn (xAw false) [xJd a0,xJN a0,xJe a0,xJ8 a0,xJO a0,iY (!(xNi a0)),iY true]:=by kernel_rfl
abbrev xLh(v0:Val):Prop:=iN (!(xNi v0))
abbrev xKJ(v0:Val):Prop:=iY (v0.kind != 4)
def vDv(a0):rE I75 (xAD a0) [Y,F,Y,F,Y,F,Y,Y] []=dn (xAw false) [xJd a0,xJN a0,xJe a0,xJ8 a0,xJO a0,xLh a0,xKJ a0,iY (a0.step != 0)]:=by kernel_rfl
abbrev xMP(v0:Val):Prop:=iN (v0.step != 0)
def vDw(a0 r1):rE I75 (xAD a0) [Y,F,Y,F,Y,F,Y,F,Y] [xBB r1]=dn (xAw r1) [xJd a0,xJN a0,xJe a0,xJ8 a0,xJO a0,xLh a0,xKJ a0,xMP a0,xNy a0,AbC 80 (xCZ a0.n) (xBB r1)]:=by kernel_rfl
abbrev xMQ(v0:Val):Prop:=iN (v0.kind==3)
abbrev xF4(v0:Val):Prop:=iN (v0.kind==4)
abbrev xNB(v0:Val):Prop:=iN (v0.kind==5)
abbrev xOs(v0:Val):Prop:=iY (v0.kind==6)
def vDx(a0 r1):rE I75 (xAD a0) [Y,F,Y,F,Y,F,Y,F,F,F,F,F,F,Y] [xEd r1]=dn (xAw r1) [xJd a0,xJN a0,xJe a0,xJ8 a0,xJO a0,xLh a0,xKJ a0,xMP a0,xC6 a0,xD2 a0,xMQ a0,xF4 a0,xNB a0,xOs a0,AbC 120 (xGh a0.n 1 8) (xEd r1)]:=by kernel_rfl
abbrev xIm(v0:Val):Prop:=iN (v0.kind==6)
def vDy(a0):rE I75 (xAD a0) [Y,F,Y,F,Y,F,Y,F,F,F,F,F,F,F] []=dn (xAw false) [xJd a0,xJN a0,xJe a0,xJ8 a0,xJO a0,xLh a0,xKJ a0,xMP a0,xC6 a0,xD2 a0,xMQ a0,xF4 a0,xNB a0,xIm a0]:=by kernel_rfl
abbrev xNC(v0:Val):Prop:=iY (v0.kind==4)
def vDz(a0 r1 r2):rE I75 (xAD a0) [Y,F,Y,F,Y,F,F,F,F,F,F,Y,Y] [xBB r1,xBB r2]=dn (xAw r2) [xJd a0,xJN a0,xJe a0,xJ8 a0,xJO a0,xLh a0,iN (a0.kind != 4),iN false,xC6 a0,xD2 a0,xMQ a0,xNC a0,AbC 80 (xCZ a0.n) (xBB r1),iY r1,AbC 80 (xCZ a0.step) (xBB r2)]:=by kernel_rfl
def vDA(a0 r1):rE I75 (xAD a0) [Y,F,Y,F,Y,F,F,F,F,F,F,Y,F] [xBB r1]=dn (xAw false) [xJd a0,xJN a0,xJe a0,xJ8 a0,xJO a0,xLh a0,iN (a0.kind != 4),iN false,xC6 a0,xD2 a0,xMQ a0,xNC a0,AbC 80 (xCZ a0.n) (xBB r1),iN r1]:=by kernel_rfl
def vDB(a0):rE I75 (xAD a0) [Y,F,Y,F,F,F,Y,Y] []=dn (xAw false) [xJd a0,xJN a0,xJe a0,xJ8 a0,iN (a0.kind != 2),iN false,xKJ a0,iY (a0.step != 0)]:=by kernel_rfl
abbrev xH1(v0:Val):Prop:=iY (v0.n==0)
def xZ4(a0 r1):rE I75 (xAD a0) [Y,F,Y,F,F,F,Y,F,F,Y,Y] [xCV r1]=dn (xAw r1) [xJd a0,xJN a0,xJe a0,xJ8 a0,iN (a0.kind != 2),iN false,xKJ a0,xMP a0,xC6 a0,xMM a0,xH1 a0,AbC 117 (xGv a0.text) (xCV r1)]:=by kernel_rfl
abbrev xND(v0:Val):Prop:=iN (v0.n==0)
def xZ5(a0):rE I75 (xAD a0) [Y,F,Y,F,F,F,Y,F,F,Y,F] []=dn (xAw false) [xJd a0,xJN a0,xJe a0,xJ8 a0,iN (a0.kind != 2),iN false,xKJ a0,xMP a0,xC6 a0,xMM a0,xND a0]:=by kernel_rfl
def xZ6(a0):rE I75 (xAD a0) [Y,F,F,F,Y,Y,Y] []=dn (xAw false) [xJd a0,xJN a0,iN (a0.kind != 5),iN false,xJO a0,iY (!(xNi a0)),iY true]:=by kernel_rfl
def xZ7(a0):rE I75 (xAD a0) [Y,F,F,F,Y,F,Y,Y] []=dn (xAw false) [xJd a0,xJN a0,iN (a0.kind != 5),iN false,xJO a0,xLh a0,xKJ a0,iY (a0.step != 0)]:=by kernel_rfl
abbrev xJ9(v0:Val):Prop:=iY (v0.kind==5)
def xZ8(a0 r1):rE I75 (xAD a0) [Y,F,F,F,Y,F,Y,F,F,F,F,F,Y,Y] [xCL r1]=dn (xAw r1) [xJd a0,xJN a0,iN (a0.kind != 5),iN false,xJO a0,xLh a0,xKJ a0,xMP a0,xC6 a0,xD2 a0,xMQ a0,xF4 a0,xJ9 a0,xH1 a0,AbC 119 (xGf a0) (xCL r1)]:=by kernel_rfl
def xZ9(a0):rE I75 (xAD a0) [Y,F,F,F,Y,F,Y,F,F,F,F,F,Y,F] []=dn (xAw false) [xJd a0,xJN a0,iN (a0.kind != 5),iN false,xJO a0,xLh a0,xKJ a0,xMP a0,xC6 a0,xD2 a0,xMQ a0,xF4 a0,xJ9 a0,xND a0]:=by kernel_rfl
def vAa(a0):rE I75 (xAD a0) [F,F,Y,Y] []=dn (xAw false) [iN (a0.kind != 3),iN false,xJe a0,vAr a0]:=by kernel_rfl
def vAb(a0):rE I75 (xAD a0) [F,F,Y,F,Y,Y,Y] []=dn (xAw false) [iN (a0.kind != 3),iN false,xJe a0,xJ8 a0,xJO a0,iY (!(xNi a0)),iY true]:=by kernel_rfl
def vAc(a0):rE I75 (xAD a0) [F,F,Y,F,Y,F,Y,Y] []=dn (xAw false) [iN (a0.kind != 3),iN false,xJe a0,xJ8 a0,xJO a0,xLh a0,xKJ a0,iY (a0.step != 0)]:=by kernel_rfl
def vAd(a0 r1):rE I75 (xAD a0) [F,F,Y,F,Y,F,Y,F,F,F,Y,Y] [xDW r1]=dn (xAw r1) [iN (a0.kind != 3),iN false,xJe a0,xJ8 a0,xJO a0,xLh a0,xKJ a0,xMP a0,xC6 a0,xD2 a0,iY (a0.kind==3),xH1 a0,AbC 118 (xHK a0) (xDW r1)]:=by kernel_rfl
def vAe(a0):rE I75 (xAD a0) [F,F,Y,F,Y,F,Y,F,F,F,Y,F] []=dn (xAw false) [iN (a0.kind != 3),iN false,xJe a0,xJ8 a0,xJO a0,xLh a0,xKJ a0,xMP a0,xC6 a0,xD2 a0,iY (a0.kind==3),xND a0]:=by kernel_rfl
theorem vHc{N q0 q1}(g0:G75 q0)(g1:G118 q1):∀a0 r,xEj N q0 q1 a0=some r->RE Tryz.f75 I75 (xAD a0) (xAw r):=fun a0 r h=>cE h (fun h0 h=>cE h (fun h1 h=>dE h fk75 (vDs a0) (oc3 h0 h1 rfl on)) fun h1 h=>cE h (fun h2 h=>cE h (fun h3 h=>dE h fk75 (vDt a0) (oc4 h0 h1 h2 h3 on)) fun h3 h=>cE h (fun h4 h=>cE h (fun h5 h=>dE h fk75 (vDu a0) (oc7 h0 h1 h2 h3 h4 h5 rfl on)) fun h5 h=>cE h (fun h6 h=>cE h (fun h7 h=>dE h fk75 (vDv a0) (oc8 h0 h1 h2 h3 h4 h5 h6 h7 on)) fun h7 h=>cE h (fun h8 h=>bE h fun r1 h9 h=>dE h fk75 (vDw a0 r1) (oc10 h0 h1 h2 h3 h4 h5 h6 h7 h8 (xEf h9) on)) fun h8 h=>cE h (fun h13 h=>bE h fun r1 h14 h=>dE h fk75 (vDx a0 r1) (oc12 h0 h1 h2 h3 h4 h5 h6 h7 h8 (zJv h4) (zJv h0) (zJv h6) (oc3 (zJv h2) h13 (xKe h14) on))) fun h13 h=>dE h fk75 (vDy a0) (oc12 h0 h1 h2 h3 h4 h5 h6 h7 h8 (zJv h4) (zJv h0) (zJv h6) (oc2 (zJv h2) h13 on))) fun h6 h=>bE h fun r1 h12 h=>cE h (fun h13 h=>bE h fun r2 h14 h=>dE h fk75 (vDz a0 r1 r2) (oc12 h0 h1 h2 h3 h4 h5 h6 rfl (eq_ne (zJv h6) rfl) (zJv h4) (zJv h0) (zJv h6) (oc3 (xEf h12) h13 (xEf h14) on))) fun h13 h=>dE h fk75 (vDA a0 r1) (oc12 h0 h1 h2 h3 h4 h5 h6 rfl (eq_ne (zJv h6) rfl) (zJv h4) (zJv h0) (zJv h6) (oc2 (xEf h12) h13 on))) fun h4 h=>cE h (fun h7 h=>dE h fk75 (vDB a0) (oc8 h0 h1 h2 h3 h4 rfl (zJu (eq_ne (zJv h4) rfl)) h7 on)) fun h7 h=>cE h (fun h10 h=>bE h fun r1 h11 h=>dE h fk75 (xZ4 a0 r1) (oc12 h0 h1 h2 h3 h4 rfl (zJu (eq_ne (zJv h4) rfl)) h7 (eq_ne (zJv h4) rfl) (zJv h4) h10 (xMp h11) on)) fun h10 h=>dE h fk75 (xZ5 a0) (oc11 h0 h1 h2 h3 h4 rfl (zJu (eq_ne (zJv h4) rfl)) h7 (eq_ne (zJv h4) rfl) (zJv h4) h10 on)) fun h2 h=>
 cE h (fun h5 h=>dE h fk75 (xZ6 a0) (oc7 h0 h1 h2 rfl (zJu (eq_ne (zJv h2) rfl)) h5 rfl on)) fun h5 h=>cE h (fun h7 h=>dE h fk75 (xZ7 a0) (oc8 h0 h1 h2 rfl (zJu (eq_ne (zJv h2) rfl)) h5 (zJu (eq_ne (zJv h2) rfl)) h7 on)) fun h7 h=>cE h (fun h13 h=>bE h fun r1 h14 h=>dE h fk75 (xZ8 a0 r1) (oc12 h0 h1 h2 rfl (zJu (eq_ne (zJv h2) rfl)) h5 (zJu (eq_ne (zJv h2) rfl)) h7 (eq_ne (zJv h2) rfl) (eq_ne (zJv h2) rfl) (zJv h0) (eq_ne (zJv h2) rfl) (oc3 (zJv h2) h13 (xOM h14) on))) fun h13 h=>dE h fk75 (xZ9 a0) (oc12 h0 h1 h2 rfl (zJu (eq_ne (zJv h2) rfl)) h5 (zJu (eq_ne (zJv h2) rfl)) h7 (eq_ne (zJv h2) rfl) (eq_ne (zJv h2) rfl) (zJv h0) (eq_ne (zJv h2) rfl) (oc2 (zJv h2) h13 on))) fun h0 h=>cE h (fun h3 h=>dE h fk75 (vAa a0) (oc4 h0 rfl (zJu (eq_ne (zJv h0) rfl)) h3 on)) fun h3 h=>cE h (fun h5 h=>dE h fk75 (vAb a0) (oc7 h0 rfl (zJu (eq_ne (zJv h0) rfl)) h3 (zJu (eq_ne (zJv h0) rfl)) h5 rfl on)) fun h5 h=>cE h (fun h7 h=>dE h fk75 (vAc a0) (oc8 h0 rfl (zJu (eq_ne (zJv h0) rfl)) h3 (zJu (eq_ne (zJv h0) rfl)) h5 (zJu (eq_ne (zJv h0) rfl)) h7 on)) fun h7 h=>cE h (fun h11 h=>bE h fun r1 h12 h=>dE h fk75 (vAd a0 r1) (oc12 h0 rfl (zJu (eq_ne (zJv h0) rfl)) h3 (zJu (eq_ne (zJv h0) rfl)) h5 (zJu (eq_ne (zJv h0) rfl)) h7 (eq_ne (zJv h0) rfl) (eq_ne (zJv h0) rfl) (zJv h0) h11 (oc (g1 _ _ h12) on))) fun h11 h=>dE h fk75 (vAe a0) (oc12 h0 rfl (zJu (eq_ne (zJv h0) rfl)) h3 (zJu (eq_ne (zJv h0) rfl)) h5 (zJu (eq_ne (zJv h0) rfl)) h7 (eq_ne (zJv h0) rfl) (eq_ne (zJv h0) rfl) (zJv h0) h11 on)
theorem xKv{N q0 q1}(g0:G75 q0)(g1:G118 q1){a0}{r}(h:xEj N q0 q1 a0=some r):AbC 75 (xAD a0) (xAw r):=
 AbsCalls.of_reach fk75 rfl rfl rfl (jL rfl) (vHc g0 g1 a0 r h)
noncomputable def I118:Info:= { body:=(Tryz.f118.body).getD .skip,nt:=36,results:=[.tmp 2],keep:=[0,2,4,6,16,52,3],live:=[(2,[2,6,3])],modes:=[(4,[(7,.take,false)]),(6,[(4,.take,false)])] }
theorem xSV:FnOk Tryz.prog 118 Tryz.f118 I118:=by refine⟨Tryz.func118,?_,?_,?_,?_⟩<;>kernel_rfl
def xNt(x3:Int)(b1:Val):St:=[(2,.v false [.ptr 1 0]),(6,.v false [.int .i64 x3]),(3,.v true (Va .ro b1))]
def xXj(x3 b1 r1):rS 2 I118 (xNt x3 b1) [Y,Y,Y] [xCK r1]=dn (xDW false) [xTP x3 b1,xPx x3 b1,AbC 158 (xDS (gD b1.list (tN x3) vd)) (xCK r1),iY (!r1),iY true]:=by kernel_rfl
def xXk(x3 b1 r1 r2):rS 2 I118 (xNt x3 b1) [Y,F,Y] [xCK r1,xAw r2]=dn (xDW false) [xTP x3 b1,xPx x3 b1,AbC 158 (xDS (gD b1.list (tN x3) vd)) (xCK r1),xAC r1,xPx x3 b1,AbC 75 (xAD (gD b1.list (tN x3) vd)) (xAw r2),iY (!r2)]:=by kernel_rfl
def xXl(x3 b1 r1 r2):rS 2 I118 (xNt x3 b1) [Y,F,F] [xCK r1,xAw r2]=st 2 I118 (xNt (W (x3+1)) b1) [xTP x3 b1,xPx x3 b1,AbC 158 (xDS (gD b1.list (tN x3) vd)) (xCK r1),xAC r1,xPx x3 b1,AbC 75 (xAD (gD b1.list (tN x3) vd)) (xAw r2),xAC r2]:=by kernel_rfl
abbrev xP7(v0:Val):=dc ((Ln v0.list:Int)<=8)
def xXm(x3 b1 r1):rS 2 I118 (xNt x3 b1) [F,Y] [xDx r1]=dn (xDW (dc (r1<=3))) [iN (dc (x3<(xK6 b1))),iY (xP7 b1),AbC 159 (xFt b1) (xDx r1)]:=by kernel_rfl
def xXn(x3 b1):rS 2 I118 (xNt x3 b1) [F,F] []=dn (xDW false) [iN (dc (x3<(xK6 b1))),iN (xP7 b1)]:=by kernel_rfl
def xXo(a0):rE I118 (xHK a0) [] []=st 2 I118 (xNt 0 a0) []:=by kernel_rfl
theorem vE2{N q0 q1}(g0:G75 q0)(g1:G118 q1):∀n x3 b1 r,xE4 N q0 q1 n x3 b1=some r->RS Tryz.f118 I118 2 (xNt x3 b1) (xDW r):=by
 intro n
 induction n with
 |zero=>exact fun _ _ _ h=>nE h
 |succ n ih=>
  exact fun x3 b1 r h=>cE h (fun h0 h=>iE h fun h1 h=>bE h fun r1 h2 h=>cE h (fun h3 h=>dS h xSV (xXj x3 b1 r1) (oc5 h0 h1 (xIK h2) h3 rfl on)) fun h3 h=>bE h fun r2 h5 h=>cE h (fun h6 h=>dS h xSV (xXk x3 b1 r1 r2) (oc7 h0 h1 (xIK h2) h3 h1 (g0 _ _ h5) h6 on)) fun h6 h=>tS xSV (xXl x3 b1 r1 r2) (oc7 h0 h1 (xIK h2) h3 h1 (g0 _ _ h5) h6 on) (ih _ _ _ h)) fun h0 h=>cE h (fun h1 h=>bE h fun r1 h2 h=>dS h xSV (xXm x3 b1 r1) (oc3 h0 h1 (xOE h2) on)) fun h1 h=>dS h xSV (xXn x3 b1) (oc2 h0 h1 on)
theorem vE3{N q0 q1}(g0:G75 q0)(g1:G118 q1):∀a0 r,xJa N q0 q1 a0=some r->RE Tryz.f118 I118 (xHK a0) (xDW r):=fun a0 r h=>tE xSV (xXo a0) on (vE2 g0 g1 _ _ _ _ h)
theorem xMr{N q0 q1}(g0:G75 q0)(g1:G118 q1){a0}{r}(h:xJa N q0 q1 a0=some r):AbC 118 (xHK a0) (xDW r):=
 AbsCalls.of_reach xSV rfl rfl rfl (jL rfl) (vE3 g0 g1 a0 r h)
theorem xKO{N:Nat}:∀d,G75 (xAQ N d).c_spec_IsValidValue/\G118 (xAQ N d).c_spec_l3List:=by
 intro d
 induction d with
 |zero=>exact⟨fun _ _ h=>nE h,fun _ _ h=>nE h⟩
 |succ d ih=>
  obtain⟨ih0,ih1⟩:=ih;exact⟨fun _ _ h=>xKv (N:=N) ih0 ih1 h,fun _ _ h=>xMr (N:=N) ih0 ih1 h⟩
theorem xHA{N:Nat}{a0:Val}{r:Bool}(h:xII N a0=some r):AbC 75 (xAD a0) (xAw r):=(xKO N).1 _ r h
noncomputable def I36:Info:= { body:=(Tryz.f36.body).getD .skip,nt:=5,results:=[.cell 2 31],keep:=[0,4,5],live:=[],modes:=[] }
theorem fk36:FnOk Tryz.prog 36 Tryz.f36 I36:=by refine⟨Tryz.func36,?_,?_,?_,?_⟩<;>kernel_rfl
def vBO(a0):rE I36 (xCR a0) [] []=dn (xBw (Val.mk 6 a0 0 [] [] [] [])) []:=by kernel_rfl
theorem vGC{N:Nat}:∀a0 r,xCh N a0=some r->RE Tryz.f36 I36 (xCR a0) (xBw r):=fun a0 r h=>dE h fk36 (vBO a0) on
theorem xD4{N:Nat}{a0:Int}{r:Val}(h:xCh N  a0=some r):AbC 36 (xCR a0) (xBw r):=
 AbsCalls.of_reach fk36 rfl rfl rfl (jL rfl) (vGC a0 r h)
noncomputable def I85:Info:= { body:=(Tryz.f85.body).getD .skip,nt:=31,results:=[.cell 2 31,.tmp 3],keep:=[0,4,6,8,16,32,46,5],live:=[(2,[0,4,8,5])],modes:=[] }
theorem fk85:FnOk Tryz.prog 85 Tryz.f85 I85:=by refine⟨Tryz.func85,?_,?_,?_,?_⟩<;>kernel_rfl
def xSy(x0:List Val)(x4:Int)(b2:Val):St:=[(0,.v false [.sl .ro .val x0]),(4,.v false [.ptr 2 0]),(8,.v false [.int .i64 x4]),(5,.v true (Va .own b2))]
def vDP(x0 x4 b2 r1 r2):rS 2 I85 (xSy x0 x4 b2) [Y,Y] [xAw r1,xBw r2]=dn (xDz (r2,true)) [xIl x4 x0,xCj x4 x0,AbC 75 (xAD (xIG x0 x4)) (xAw r1),iY (!r1),AbC 36 (xCR 4) (xBw r2)]:=by kernel_rfl
abbrev xP8(v0:List Val)(v1:Int):=((Val.kind (gD v0 (tN v1) vd)):Int)==6
abbrev xS9(v0:List Val)(v1:Int):=Val.n (gD v0 (tN v1) vd)
def vDQ(x0 x4 b2 r1 r2):rS 2 I85 (xSy x0 x4 b2) [Y,F,Y] [xAw r1,xBw r2]=dn (xDz (r2,true)) [xIl x4 x0,xCj x4 x0,AbC 75 (xAD (xIG x0 x4)) (xAw r1),xAC r1,xCj x4 x0,iY (xP8 x0 x4),xCj x4 x0,AbC 36 (xCR (xS9 x0 x4)) (xBw r2)]:=by kernel_rfl
def vDR(x0 x4 b2 r1):rS 2 I85 (xSy x0 x4 b2) [Y,F,F] [xAw r1]=st 2 I85 (xSy x0 (W (x4+1)) b2) [xIl x4 x0,xCj x4 x0,AbC 75 (xAD (xIG x0 x4)) (xAw r1),xAC r1,xCj x4 x0,iN (xP8 x0 x4)]:=by kernel_rfl
def vDS(x0 x4 b2):rS 2 I85 (xSy x0 x4 b2) [F] []=dn (xDz ((Val.mk 0 0 0 [] [] [] []),false)) [xOq x4 x0]:=by kernel_rfl
def vDT(a0):rE I85 (xG8 a0) [] []=st 2 I85 (xSy a0 0 (Val.mk 0 0 0 [] [] [] [])) []:=by kernel_rfl
theorem vHi{N:Nat}:∀n x0 x4 b2 r,xEC N n x0 x4 b2=some r->RS Tryz.f85 I85 2 (xSy x0 x4 b2) (xDz r):=by
 intro n
 induction n with
 |zero=>exact fun _ _ _ _ h=>nE h
 |succ n ih=>
  exact fun x0 x4 b2 r h=>cE h (fun h0 h=>iE h fun h1 h=>bE h fun r1 h2 h=>cE h (fun h3 h=>bE h fun r2 h4 h=>dS h fk85 (vDP x0 x4 b2 r1 r2) (oc5 h0 h1 (xHA h2) h3 (xD4 h4) on)) fun h3 h=>cE h (fun h5 h=>bE h fun r2 h7 h=>dS h fk85 (vDQ x0 x4 b2 r1 r2) (oc8 h0 h1 (xHA h2) h3 h1 h5 h1 (xD4 h7) on)) fun h5 h=>tS fk85 (vDR x0 x4 b2 r1) (oc6 h0 h1 (xHA h2) h3 h1 h5 on) (ih _ _ _ _ h)) fun h0 h=>dS h fk85 (vDS x0 x4 b2) (oc h0 on)
theorem vHj{N:Nat}:∀a0 r,xKg N a0=some r->RE Tryz.f85 I85 (xG8 a0) (xDz r):=fun a0 r h=>tE fk85 (vDT a0) on (vHi _ _ _ _ _ h)
theorem xLD{N:Nat}{a0:List Val}{r:Val×Bool}(h:xKg N  a0=some r):AbC 85 (xG8 a0) (xDz r):=
 AbsCalls.of_reach fk85 rfl rfl rfl (jL rfl) (vHj a0 r h)
noncomputable def I35:Info:= { body:=(Tryz.f35.body).getD .skip,nt:=34,results:=[.cell 4 31,.tmp 5],keep:=[0,2,8,10,12,14,16,28,38,62,9,13],live:=[(5,[0,2,8,16,9])],modes:=[(1,[(2,.take,false)]),(2,[(0,.take,false)]),(3,[(0,.take,false)])] }
theorem fk35:FnOk Tryz.prog 35 Tryz.f35 I35:=by refine⟨Tryz.func35,?_,?_,?_,?_⟩<;>kernel_rfl
def xT5(x0:List Val)(x1:List Int)(x8:Int)(b4:Val):St:=[(0,.v false [.sl .ro .val x0]),(2,.v false [.sl .ro .int x1]),(8,.v false [.ptr 4 0]),(16,.v false [.int .i64 x8]),(9,.v true (Va .own b4))]
abbrev xP9(v0:List Val)(v1:Int)(v2:List Int):=((Val.kind (gD v0 (tN v1) vd)):Int) != (gD v2 (tN v1) Ty.int.dflt)
def vBJ(x0 x1 x8 b4 r1):rS 5 I35 (xT5 x0 x1 x8 b4) [Y,Y] [xBw r1]=dn (xC0 (r1,true)) [xIl x8 x0,xCj x8 x0,xJM x8 x1,iY (xP9 x0 x8 x1),AbC 36 (xCR 4) (xBw r1)]:=by kernel_rfl
def vBK(x0 x1 x8 b4):rS 5 I35 (xT5 x0 x1 x8 b4) [Y,F] []=st 5 I35 (xT5 x0 x1 (W (x8+1)) b4) [xIl x8 x0,xCj x8 x0,xJM x8 x1,iN (xP9 x0 x8 x1)]:=by kernel_rfl
def vBL(x0 x1 x8 b4):rS 5 I35 (xT5 x0 x1 x8 b4) [F] []=dn (xC0 ((Val.mk 0 0 0 [] [] [] []),false)) [xOq x8 x0]:=by kernel_rfl
def vBM(a0 a1 r1):rE I35 (xG9 a0 a1) [Y] [xDz r1]=dn (xC0 (r1.1,true)) [AbC 85 (xG8 a0) (xDz r1),iY r1.2]:=by kernel_rfl
def vBN(a0 a1 r1):rE I35 (xG9 a0 a1) [F] [xDz r1]=st 5 I35 (xT5 a0 a1 0 (Val.mk 0 0 0 [] [] [] [])) [AbC 85 (xG8 a0) (xDz r1),iN r1.2]:=by kernel_rfl
theorem vGA{N:Nat}:∀n x0 x1 x8 b4 r,xED N n x0 x1 x8 b4=some r->RS Tryz.f35 I35 5 (xT5 x0 x1 x8 b4) (xC0 r):=by
 intro n
 induction n with
 |zero=>exact fun _ _ _ _ _ h=>nE h
 |succ n ih=>
  exact fun x0 x1 x8 b4 r h=>cE h (fun h0 h=>iE h fun h1 h=>iE h fun h2 h=>cE h (fun h3 h=>bE h fun r1 h4 h=>dS h fk35 (vBJ x0 x1 x8 b4 r1) (oc5 h0 h1 h2 h3 (xD4 h4) on)) fun h3 h=>tS fk35 (vBK x0 x1 x8 b4) (oc4 h0 h1 h2 h3 on) (ih _ _ _ _ _ h)) fun h0 h=>dS h fk35 (vBL x0 x1 x8 b4) (oc h0 on)
theorem vGB{N:Nat}:∀a0 a1 r,xI4 N a0 a1=some r->RE Tryz.f35 I35 (xG9 a0 a1) (xC0 r):=fun a0 a1 r h=>bE h fun r1 h0 h=>cE h (fun h1 h=>dE h fk35 (vBM a0 a1 r1) (oc2 (xLD h0) h1 on)) fun h1 h=>tE fk35 (vBN a0 a1 r1) (oc2 (xLD h0) h1 on) (vGA _ _ _ _ _ _ h)
theorem xHa{N:Nat}{a0:List Val}{a1:List Int}{r:Val×Bool}(h:xI4 N  a0 a1=some r):AbC 35 (xG9 a0 a1) (xC0 r):=
 AbsCalls.of_reach fk35 rfl rfl rfl (jL rfl) (vGB a0 a1 r h)
noncomputable def I61:Info:= { body:=(Tryz.f61.body).getD .skip,nt:=19,results:=[.tmp 4],keep:=[0,2,8,10,18,34],live:=[(2,[0,2,10])],modes:=[] }
theorem fk61:FnOk Tryz.prog 61 Tryz.f61 I61:=by refine⟨Tryz.func61,?_,?_,?_,?_⟩<;>kernel_rfl
def xUc(x0:List Str)(x1:Str)(x5:Int):St:=[(0,.v false [.sl .ro .str x0]),(2,.v false [.str x1]),(10,.v false [.int .i64 x5])]
def vCW(x0 x1 x5):rS 2 I61 (xUc x0 x1 x5) [Y,Y] []=dn (xFv x5) [xJc x5 x0,xGF x5 x0,iY (xLx x0 x5 x1)]:=by kernel_rfl
def vCX(x0 x1 x5):rS 2 I61 (xUc x0 x1 x5) [Y,F] []=st 2 I61 (xUc x0 x1 (W (x5+1))) [xJc x5 x0,xGF x5 x0,iN (xLx x0 x5 x1)]:=by kernel_rfl
def vCY(x0 x1 x5):rS 2 I61 (xUc x0 x1 x5) [F] []=dn (xFv (-1)) [xL0 x5 x0]:=by kernel_rfl
def vCZ(a0 a1):rE I61 (xIn a0 a1) [] []=st 2 I61 (xUc a0 a1 0) []:=by kernel_rfl
theorem vG8{N:Nat}:∀n x0 x1 x5 r,xFu N n x0 x1 x5=some r->RS Tryz.f61 I61 2 (xUc x0 x1 x5) (xFv r):=by
 intro n
 induction n with
 |zero=>exact fun _ _ _ _ h=>nE h
 |succ n ih=>
  exact fun x0 x1 x5 r h=>cE h (fun h0 h=>iE h fun h1 h=>cE h (fun h2 h=>dS h fk61 (vCW x0 x1 x5) (oc3 h0 h1 h2 on)) fun h2 h=>tS fk61 (vCX x0 x1 x5) (oc3 h0 h1 h2 on) (ih _ _ _ _ h)) fun h0 h=>dS h fk61 (vCY x0 x1 x5) (oc h0 on)
theorem vG9{N:Nat}:∀a0 a1 r,xKd N a0 a1=some r->RE Tryz.f61 I61 (xIn a0 a1) (xFv r):=fun a0 a1 r h=>tE fk61 (vCZ a0 a1) on (vG8 _ _ _ _ _ h)
theorem xOH{N:Nat}{a0:List Str}{a1:Str}{r:Int}(h:xKd N  a0 a1=some r):AbC 61 (xIn a0 a1) (xFv r):=
 AbsCalls.of_reach fk61 rfl rfl rfl (jL rfl) (vG9 a0 a1 r h)
noncomputable def I18:Info:= { body:=(Tryz.f18.body).getD .skip,nt:=9,results:=[.tmp 4],keep:=[0,2,4,8,5],live:=[],modes:=[] }
theorem fk18:FnOk Tryz.prog 18 Tryz.f18 I18:=by refine⟨Tryz.func18,?_,?_,?_,?_⟩<;>kernel_rfl
def vBe(a0 a1 r1):rE I18 (xGu a0 a1) [] [xFv r1]=dn (xCa r1) [AbC 61 (xIn a0.columns a1) (xFv r1)]:=by kernel_rfl
theorem vGr{N:Nat}:∀a0 a1 r,xFN N a0 a1=some r->RE Tryz.f18 I18 (xGu a0 a1) (xCa r):=fun a0 a1 r h=>bE h fun r1 h0 h=>dE h fk18 (vBe a0 a1 r1) (oc (xOH h0) on)
theorem xDf{N:Nat}{a0:Val}{a1:Str}{r:Int}(h:xFN N  a0 a1=some r):AbC 18 (xGu a0 a1) (xCa r):=
 AbsCalls.of_reach fk18 rfl rfl rfl (jL rfl) (vGr a0 a1 r h)
noncomputable def I87:Info:= { body:=(Tryz.f87.body).getD .skip,nt:=87,results:=[.tmp 4],keep:=[0,2,8,10,12,14,36,60,122],live:=[(4,[0,2,10,12,14])],modes:=[(4,[(4,.take,false)]),(5,[(0,.take,false)]),(8,[(4,.take,false),(9,.take,false)]),(9,[(0,.take,false)]),(11,[(4,.take,false)]),(12,[(0,.take,false)]),(14,[(0,.take,false)])] }
theorem fk87:FnOk Tryz.prog 87 Tryz.f87 I87:=by refine⟨Tryz.func87,?_,?_,?_,?_⟩<;>kernel_rfl
def xKi(x0 x1 x5:List Org)(x6 x7:Int):St:=[(0,.v false [.sl .ro .org x0]),(2,.v false [.sl .ro .org x1]),(10,.v false [.sl .own .org x5]),(12,.v false [.int .i64 x6]),(14,.v false [.int .i64 x7])]
abbrev xMR(v0 v1:List Org)(v2:Int):Prop:=Ln v0+Ln [(xFr v1 v2)]<=Lim
def vDY(x0 x1 x5 x6 x7):rS 4 I87 (xKi x0 x1 x5 x6 x7) [Y,Y,Y,Y] []=st 4 I87 (xKi x0 x1 (x5++ [(xFr x0 x6)]) (W (x6+1)) x7) [xGG x6 x0,iY true,iY (x7==(Ln x1:Int)),iY true,xEv x6 x0,xMR x5 x0 x6]:=by kernel_rfl
abbrev xLz(v0:Int)(v1:List Org):Prop:=iN (v0==(Ln v1:Int))
abbrev xNE(v0:List Org)(v1:Int)(v2:List Org)(v3:Int)(v4:Bool):Prop:=AbC 126 (xEe (xFr v0 v1) (xFr v2 v3)) (xBH v4)
def vDZ(x0 x1 x5 x6 x7 r1):rS 4 I87 (xKi x0 x1 x5 x6 x7) [Y,Y,F,Y,Y] [xBH r1]=st 4 I87 (xKi x0 x1 (x5++ [(xFr x0 x6)]) (W (x6+1)) x7) [xGG x6 x0,iY true,xLz x7 x1,xGG x6 x0,xEv x6 x0,xEv x7 x1,xNE x0 x6 x1 x7 r1,iY r1,xEv x6 x0,xMR x5 x0 x6]:=by kernel_rfl
def vD0(x0 x1 x5 x6 x7 r1):rS 4 I87 (xKi x0 x1 x5 x6 x7) [Y,Y,F,Y,F,Y,Y] [xBH r1]=st 4 I87 (xKi x0 x1 (x5++ [(xFr x1 x7)]) x6 (W (x7+1))) [xGG x6 x0,iY true,xLz x7 x1,xGG x6 x0,xEv x6 x0,xEv x7 x1,xNE x0 x6 x1 x7 r1,iN r1,iY (x6==(Ln x0:Int)),iY true,xEv x7 x1,xMR x5 x1 x7]:=by kernel_rfl
def vD1(x0 x1 x5 x6 x7 r1 r2):rS 4 I87 (xKi x0 x1 x5 x6 x7) [Y,Y,F,Y,F,F,Y] [xBH r1,xBH r2]=st 4 I87 (xKi x0 x1 (x5++ [(xFr x1 x7)]) x6 (W (x7+1))) [xGG x6 x0,iY true,xLz x7 x1,xGG x6 x0,xEv x6 x0,xEv x7 x1,xNE x0 x6 x1 x7 r1,iN r1,xLz x6 x0,xEv x7 x1,xEv x6 x0,xNE x1 x7 x0 x6 r2,iY r2,xEv x7 x1,xMR x5 x1 x7]:=by kernel_rfl
def vD2(x0 x1 x5 x6 x7 r1 r2):rS 4 I87 (xKi x0 x1 x5 x6 x7) [Y,Y,F,Y,F,F,F] [xBH r1,xBH r2]=st 4 I87 (xKi x0 x1 (x5++ [(xFr x0 x6)]) (W (x6+1)) (W (x7+1))) [xGG x6 x0,iY true,xLz x7 x1,xGG x6 x0,xEv x6 x0,xEv x7 x1,xNE x0 x6 x1 x7 r1,iN r1,xLz x6 x0,xEv x7 x1,xEv x6 x0,xNE x1 x7 x0 x6 r2,iN r2,xEv x6 x0,xMR x5 x0 x6]:=by kernel_rfl
def vD3(x0 x1 x5 x6 x7):rS 4 I87 (xKi x0 x1 x5 x6 x7) [F,Y,Y,Y] []=st 4 I87 (xKi x0 x1 (x5++ [(xFr x0 x6)]) (W (x6+1)) x7) [xJ7 x6 x0,xGG x7 x1,iY (x7==(Ln x1:Int)),iY true,xEv x6 x0,xMR x5 x0 x6]:=by kernel_rfl
def vD4(x0 x1 x5 x6 x7):rS 4 I87 (xKi x0 x1 x5 x6 x7) [F,Y,F,F,F,Y,Y] []=st 4 I87 (xKi x0 x1 (x5++ [(xFr x1 x7)]) x6 (W (x7+1))) [xJ7 x6 x0,xGG x7 x1,xLz x7 x1,xJ7 x6 x0,iN false,iY (x6==(Ln x0:Int)),iY true,xEv x7 x1,xMR x5 x1 x7]:=by kernel_rfl
def vD5(x0 x1 x5 x6 x7 r1):rS 4 I87 (xKi x0 x1 x5 x6 x7) [F,Y,F,F,F,F,Y] [xBH r1]=st 4 I87 (xKi x0 x1 (x5++ [(xFr x1 x7)]) x6 (W (x7+1))) [xJ7 x6 x0,xGG x7 x1,xLz x7 x1,xJ7 x6 x0,iN false,xLz x6 x0,xEv x7 x1,xEv x6 x0,xNE x1 x7 x0 x6 r1,iY r1,xEv x7 x1,xMR x5 x1 x7]:=by kernel_rfl
def vD6(x0 x1 x5 x6 x7 r1):rS 4 I87 (xKi x0 x1 x5 x6 x7) [F,Y,F,F,F,F,F] [xBH r1]=st 4 I87 (xKi x0 x1 (x5++ [(xFr x0 x6)]) (W (x6+1)) (W (x7+1))) [xJ7 x6 x0,xGG x7 x1,xLz x7 x1,xJ7 x6 x0,iN false,xLz x6 x0,xEv x7 x1,xEv x6 x0,xNE x1 x7 x0 x6 r1,iN r1,xEv x6 x0,xMR x5 x0 x6]:=by kernel_rfl
def vD7(x0 x1 x5 x6 x7):rS 4 I87 (xKi x0 x1 x5 x6 x7) [F,F] []=dn (xEE x5) [xJ7 x6 x0,xJ7 x7 x1]:=by kernel_rfl
def vAf(a0 a1):rE I87 (xHb a0 a1) [] []=st 4 I87 (xKi a0 a1 [] 0 0) []:=by kernel_rfl
theorem vHm{N:Nat}:∀n x0 x1 x5 x6 x7 r,xBY N n x0 x1 x5 x6 x7=some r->RS Tryz.f87 I87 4 (xKi x0 x1 x5 x6 x7) (xEE r):=by
 intro n
 induction n with
 |zero=>exact fun _ _ _ _ _ _ h=>nE h
 |succ n ih=>
  exact fun x0 x1 x5 x6 x7 r h=>cE h (fun h0 h=>cE h (fun h2 h=>iE h fun h4 h=>iE h fun h5 h=>tS fk87 (vDY x0 x1 x5 x6 x7) (oc6 h0 rfl h2 rfl h4 h5 on) (ih _ _ _ _ _ _ h)) fun h2 h=>iE h fun h4 h=>iE h fun h5 h=>bE h fun r1 h6 h=>cE h (fun h7 h=>iE h fun h9 h=>tS fk87 (vDZ x0 x1 x5 x6 x7 r1) (oc10 h0 rfl h2 h0 h4 h5 (xDk h6) h7 h4 h9 on) (ih _ _ _ _ _ _ h)) fun h7 h=>cE h (fun h8 h=>iE h fun h11 h=>tS fk87 (vD0 x0 x1 x5 x6 x7 r1) (oc12 h0 rfl h2 h0 h4 h5 (xDk h6) h7 h8 rfl h5 h11 on) (ih _ _ _ _ _ _ h)) fun h8 h=>bE h fun r2 h11 h=>cE h (fun h12 h=>iE h fun h14 h=>tS fk87 (vD1 x0 x1 x5 x6 x7 r1 r2) (oc12 h0 rfl h2 h0 h4 h5 (xDk h6) h7 h8 h5 h4 (xDk h11) (oc3 h12 h5 h14 on)) (ih _ _ _ _ _ _ h)) fun h12 h=>iE h fun h14 h=>tS fk87 (vD2 x0 x1 x5 x6 x7 r1 r2) (oc12 h0 rfl h2 h0 h4 h5 (xDk h6) h7 h8 h5 h4 (xDk h11) (oc3 h12 h4 h14 on)) (ih _ _ _ _ _ _ h)) fun h0 h=>cE h (fun h1 h=>cE h (fun h2 h=>iE h fun h4 h=>iE h fun h5 h=>tS fk87 (vD3 x0 x1 x5 x6 x7) (oc6 h0 h1 h2 rfl h4 h5 on) (ih _ _ _ _ _ _ h)) fun h2 h=>cE h (fun h5 h=>iE h fun h7 h=>iE h fun h8 h=>tS fk87 (vD4 x0 x1 x5 x6 x7) (oc9 h0 h1 h2 h0 rfl h5 rfl h7 h8 on) (ih _ _ _ _ _ _ h)) fun h5 h=>iE h fun h6 h=>iE h fun h7 h=>bE h fun r1 h8 h=>cE h (fun h9 h=>iE h fun h11 h=>tS fk87 (vD5 x0 x1 x5 x6 x7 r1) (oc12 h0 h1 h2 h0 rfl h5 h6 h7 (xDk h8) h9 h6 h11 on) (ih _ _ _ _ _ _ h)) fun h9 h=>iE h fun h11 h=>tS fk87 (vD6 x0 x1 x5 x6 x7 r1) (oc12 h0 h1 h2 h0 rfl h5 h6 h7 (xDk h8) h9 h7 h11 on) (ih _ _ _ _ _ _ h)) fun h1 h=>dS h fk87 (vD7 x0 x1 x5 x6 x7) (oc2 h0 h1 on)
theorem vHn{N:Nat}:∀a0 a1 r,xI5 N a0 a1=some r->RE Tryz.f87 I87 (xHb a0 a1) (xEE r):=fun a0 a1 r h=>tE fk87 (vAf a0 a1) on (vHm _ _ _ _ _ _ _ h)
theorem xLE{N:Nat}{a0:List Org}{a1:List Org}{r:(List Org)}(h:xI5 N  a0 a1=some r):AbC 87 (xHb a0 a1) (xEE r):=
 AbsCalls.of_reach fk87 rfl rfl rfl (jL rfl) (vHn a0 a1 r h)
end Go.Ab.T
end
