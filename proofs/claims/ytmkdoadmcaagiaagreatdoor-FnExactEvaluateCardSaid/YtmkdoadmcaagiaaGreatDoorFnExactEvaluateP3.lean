/- The statement FnExactEvaluate holds: plain functions, certificates, laws. Conditions: none. -/
import Derived.Test.YtmkdoadmcaagiaaGreatDoorL1
import Derived.Test.YtmkdoadmcaagiaaGreatDoorFnExactEvaluateP2
set_option linter.all false
open Go.IntKind (i64)
open Go.IntKind renaming i64->V,u64->U
open Int (toNat)
open List (length)
section
namespace Go.Ab
def Bi(b:Rea):Nat:=8+((b.result.list.map Val.cnt).sum+(b.result.columns.map Aj).sum+(b.result.rows.map B2).sum)
def SJ(xs:List Rea):(xs.map Bi).sum<=8*(xs.length+(xs.map Rea.size).sum):=OX fun x _=>by
 have h1:=Val.cnt_le x.result
 grind [xC3,Bi,Rea.size]
def xKC{K:Nat}(hK:K<=137438953472){xs:List Rea}(h:LFit K (Rea.Fit K) xs):
 Big fun N=>∀k0:Int,1<=k0->k0+((xs.map Bi).sum:Nat)<=137438953472->∃ys,ys.length=xs.length/\KI N xs k0=some (k0+((xs.map Bi).sum:Nat),ys)/\Pa N ys k0=some (k0+((xs.map Bi).sum:Nat)):=by
 have hm:Big fun N=>∀x∈xs,HC N N x.result.list:=Big.list fun x hx=>(QO hK x.result (h.2 x hx).2.2.2.2).diag;refine(hm.and ((A2 274877906944).and (A2 xs.length))).imp fun N ⟨hm,hN,hn⟩ k0 hk0 hk1=> ?_;have hlen:xs.length<=K:=h.1
 exact GK (Lm:=fun n xs k i=>EC N n xs k i) (Lh:=fun n ys k i=>Hr N n ys k i) (c:=Bi) (x0:=xs) (k0:=k0) (B:=137438953472) (n:=N) (fun n xs k hl=>by simp [EC,IE,KJ,KL,KM,KN,KO,KP,KQ,KR,KS,IF,IG,IH,II,IJ,IK,Ep,Er,Es]) (fun n ys k hl=>by simp [Hr])
  (fun x hx k hk hB=>by
    have hcx:Bi x=8+((x.result.list.map Val.cnt).sum+(x.result.columns.map Aj).sum+(x.result.rows.map B2).sum):=rfl;rw [hcx] at hB ⊢;have hrows:x.result.rows.length<=K:=(Val.fit_iff.1 (h.2 x hx).2.2.2.2).2.2.2.2.2.2.1;obtain⟨t,ht⟩:=DR hN (k:=k+1+1+1) (by omega) (by omega);obtain⟨t2,ht2⟩:=DR hN (k:=k+1+1+1+1+1+1+1) (by omega) (by omega);obtain⟨ya,a1,a2,a3⟩:=hm x hx (k+1+1+1+1+1+1+1+1) (by omega) (by omega);obtain⟨yb,b1,b2,b3⟩:=K7 hN (xs:=x.result.columns) (k:=k+1+1+1+1+1+1+1+1+((x.result.list.map Val.cnt).sum:Nat)) (by omega) (by omega);obtain⟨yc,c1,c2,c3⟩:=K6 hN (xs:=x.result.rows) (k:=k+1+1+1+1+1+1+1+1+((x.result.list.map Val.cnt).sum:Nat)+((x.result.columns.map Aj).sum:Nat)) (by omega) (by omega) (by omega);have a2' :ED N x.result.list (k+1+1+1+1+1+1+1+1)=_:=a2;have a3' :KE N ya (k+1+1+1+1+1+1+1+1)=_:=a3;have w1:V.wrap (k+1)=k+1:=AU (by omega) (by omega);have w2:V.wrap (k+1+1)=k+1+1:=AU (by omega) (by omega);have w3:V.wrap (k+1+1+1)=k+1+1+1:=AU (by omega) (by omega);have w4:V.wrap (k+1+1+1+1)=k+1+1+1+1:=AU (by omega) (by omega);have w5:V.wrap (k+1+1+1+1+1)=k+1+1+1+1+1:=AU (by omega) (by omega);have w6:V.wrap (k+1+1+1+1+1+1)=k+1+1+1+1+1+1:=AU (by omega) (by omega);have w7:V.wrap (k+1+1+1+1+1+1+1)=k+1+1+1+1+1+1+1:=AU (by omega) (by omega);have w8:V.wrap (k+1+1+1+1+1+1+1+1)=k+1+1+1+1+1+1+1+1:=AU (by omega) (by omega);refine⟨⟨k,k+1,k+1+1,t,.mk (k+1+1+1+1) (k+1+1+1+1+1) (k+1+1+1+1+1+1) t2 ya yb yc⟩,fun n xs' i hl hxi=> ?_,fun n ys i hl hyi=> ?_⟩
    ·have hi:=(Zs.1 hxi).1;have hi' :(i:Int)<(xs'.length:Int):=by omega
     have hcd:(0:Int)<=(i:Int)/\(i:Int)<(xs'.length:Int):=by omega
     simp only [EC,IE,KJ,KL,KM,KN,KO,KP,KQ,KR,KS,IF,IG,IH,II,IJ,IK,Ep,Er,Es,Zz hi',jT,jI,AS hxi,List.length_set,Li hi,List.set_set,AM hi (by omega:xs'.length<=_),Zt hcd,w1,w2,w3,w4,w5,w6,w7,w8,ht,ht2,jS,Val.re_eq,vk,vn,vs,vt,vl,vc,vr,
      a2',b2,c2,Zt a1,Zt b1,Zt c1]
     grind
    ·have hi:=(Zs.1 hyi).1;have hi' :(i:Int)<(ys.length:Int):=by omega
     have hcd:(0:Int)<=(i:Int)/\(i:Int)<(ys.length:Int):=by omega
     simp only [Hr,Zz hi',jT,jI,AS hyi,AM hi (by omega:ys.length<=_),Zt hcd,w1,w2,w3,w4,w5,w6,w7,w8,ht,ht2,jS,vk,vn,vs,vt,vl,vc,vr,a3',b3,c3,Yc,Ye,jU,jF]
     grind) (by omega) hn
def GO(a b:Rea):Bool:=a.kind==b.kind&&(a.n==b.n&&(a.text==b.text&&a.time==b.time))
theorem Rea.eta(r:Rea):Rea.mk r.kind r.n r.time r.text r.result=r:=rfl
theorem xCM(N:Nat)(a b:Rea):OK N a b=some (GO a b):=by
 grind [OK,GO]
theorem xAx(N:Nat)(a b:Rea):MQ N a b=some (GO a b):=by
 grind [MQ,GO]
def BQ(b:Rea):List Rea->Val×Bool
 | []=>(Val.mk 0 0 0 [] [] [] [],false)
 |x::r=>bif GO x b then(x.result,true) else BQ b r
def xMl{N:Nat}{xs:List Rea}{b:Rea}(hc:∀x∈xs,Bg N x.result=some x.result)(hl:xs.length<=137438953472)(hn:xs.length<N):Qq N xs b=some (BQ b xs):=by
 have key:=A3 (σ:=Unit) (L:=fun n i _=>Ga N n xs i b (Val.mk 0 0 0 [] [] [] [])) xs (fun l _=>BQ b l) (fun _ _=>True) (fun n s _=>by simp [Ga,BQ])
  (fun i x l s hd hi hxi _=>by
    have hi' :(i:Int)<(xs.length:Int):=by omega
    have hcd:(0:Int)<=(i:Int)/\(i:Int)<(xs.length:Int):=by omega
    cases h:GO x b
    ·refine .inl ⟨(),trivial,by grind [BQ],fun n=> ?_⟩
     grind [Ga,xCM,AM]
    grind [Ga,xCM,BQ]) N 0 () trivial (by omega) (by omega)
 exact key
def xHo{N:Nat}{xs:List Rea}{b:Rea}(hc:∀x∈xs,Ba N x.result=some x.result)(hl:xs.length<=137438953472)(hn:xs.length<N):PH N xs b=some (BQ b xs):=by
 have key:=A3 (σ:=Unit) (L:=fun n i _=>Fh N n xs xs.length i b (Val.mk 0 0 0 [] [] [] [])) xs (fun l _=>BQ b l) (fun _ _=>True) (fun n s _=>by simp [Fh,BQ])
  (fun i x l s hd hi hxi _=>by
    have hi' :(i:Int)<(xs.length:Int):=by omega
    have hcd:(0:Int)<=(i:Int)/\(i:Int)<(xs.length:Int):=by omega
    cases h:GO x b
    ·refine .inl ⟨(),trivial,by grind [BQ],fun n=> ?_⟩
     grind [Fh,xAx,AM]
    grind [Fh,xAx,BQ]) N 0 () trivial (by omega) (by omega)
 exact key
def xMG{N:Nat}{xs:List Rea}(hc:∀x∈xs,Bg N x.result=some x.result)(hl:xs.length<=137438953472)(hn:xs.length<N):OJ N xs=some xs:=by
 have key:=A3 (L:=fun m i q=>JK N m xs q i) xs (fun l q=>q++l) (fun i q=>q.length=i) (fun m q hq=>by simp [JK])
  (fun i x l q hd hi hxi hq=>by
    have hq:q.length=i:=hq;have hi' :(i:Int)<(xs.length:Int):=by omega
    refine .inl ⟨q++ [x],by grind,by simp,fun m=> ?_⟩;simp only [JK,RG,Zz hi',jT,jI,AS hxi,hc x (Zy hxi),jS,Val.re_eq,Rea.eta,AM hi (by omega:xs.length<=_)]
    grind [Lim]) N 0 [] rfl (by omega) (by omega)
 exact key
def xLj{a0:List Rea}(f0:∀z∈ [CV.sl .ro .rea a0],DFit z.toD):LFit maxLen (Rea.Fit maxLen) a0:=(LZ (f0 _ Zp).dk).imp fun x=>xLi.1
def QN{α:Type}{Lm:Nat->List α->Int->Int->Option (Int×List α)}{c:α->Nat}{x0:List α}{k0 B:Int}{n:Nat}
 (hm:∀n xs k,xs.length=x0.length->Lm (n+1) xs k (xs.length:Nat)=some (k,xs))
 (hx:∀x∈x0,∀k,k0<=k->k+c x<=B->∃y,∀n xs (i:Nat),xs.length=x0.length->xs[i]? =some x->Lm (n+1) xs k i=Lm n (xs.set i y) (k+c x) ((i+1:Nat):Int))
 (hk:k0+(x0.map c).sum<=B) (hn:x0.length<n):∃ys,ys.length=x0.length/\Lm n x0 k0 0=some (k0+(x0.map c).sum,ys):=by
 have key:∀(l pre:List α) (k:Int) (n:Nat),pre.length+l.length=x0.length->(∀x∈l,x∈x0)->k0<=k->k+(l.map c).sum<=B->l.length<n->
  ∃ys,ys.length=l.length/\Lm n (pre++l) k (pre.length:Nat)=some (k+(l.map c).sum,pre++ys):=by
  intro l
  induction l with
  |nil=>
   intro pre k n hl hmem h0 hB hn;obtain⟨n,rfl⟩:∃m,n=m+1:=⟨n - 1,by grind⟩
   grind
  |cons x l ih=>
   intro pre k n hl hmem h0 hB hn;obtain⟨n,rfl⟩:∃m,n=m+1:=⟨n - 1,by grind⟩;simp only [ZX,List.sum_cons,jC] at hB hl hn;obtain⟨y,h1⟩:=hx x (hmem x Zp) k h0 (by omega);obtain⟨ys,g1,g2⟩:=ih (pre++ [y]) (k+c x) n (by grind) (fun z hz=>hmem z (Zr _ hz)) (by omega) (by omega) (by omega);refine⟨y::ys,by grind,?_⟩;rw [h1 n (pre++x::l) pre.length (by grind) (by simp)];rw [List.set_append,Za (by omega),Nat.sub_self,List.set_cons_zero];have e:((pre.length+1:Nat):Int)=((pre++ [y]).length:Nat):=by simp
   rw [e,show pre++y::l=(pre++ [y])++l from by simp,g2];simp only [ZX,List.sum_cons,Z5,jO,jM]
   grind
 obtain⟨ys,h1,h2⟩:=key x0 [] k0 n (by simp) (fun x h=>h) (Int.le_refl _) hk hn
 grind
def xKB{K:Nat}(hK:K<=137438953472){xs:List Rea}(h:LFit K (Rea.Fit K) xs):
 Big fun N=>∀k0:Int,1<=k0->k0+((xs.map Bi).sum:Nat)<=137438953472->∃ys,ys.length=xs.length/\KI N xs k0=some (k0+((xs.map Bi).sum:Nat),ys):=by
 have hm:=Big.list (l:=xs) fun x hx=>xBh hK (Val.fit_iff.1 (h.2 x hx).2.2.2.2).2.2.2.2.1;refine(hm.and ((A2 274877906944).and (A2 xs.length))).imp fun N ⟨hm,hN,hn⟩ k0 hk0 hk1=> ?_;have hlen:xs.length<=K:=h.1
 exact QN (Lm:=fun n xs k i=>EC N n xs k i) (c:=Bi) (x0:=xs) (k0:=k0) (B:=137438953472) (n:=N) (fun n xs k hl=>by simp [EC,IE,KJ,KL,KM,KN,KO,KP,KQ,KR,KS,IF,IG,IH,II,IJ,IK,Ep,Er,Es])
  (fun x hx k hk hB=>by
    have hcx:Bi x=8+((x.result.list.map Val.cnt).sum+(x.result.columns.map Aj).sum+(x.result.rows.map B2).sum):=rfl;rw [hcx] at hB ⊢;have hrows:x.result.rows.length<=K:=(Val.fit_iff.1 (h.2 x hx).2.2.2.2).2.2.2.2.2.2.1;obtain⟨t,ht⟩:=DR hN (k:=k+1+1+1) (by omega) (by omega);obtain⟨t2,ht2⟩:=DR hN (k:=k+1+1+1+1+1+1+1) (by omega) (by omega);obtain⟨ya,a1,a2⟩:=hm x hx (k+1+1+1+1+1+1+1+1) (by omega) (by omega);obtain⟨yb,b1,b2,b3⟩:=K7 hN (xs:=x.result.columns) (k:=k+1+1+1+1+1+1+1+1+((x.result.list.map Val.cnt).sum:Nat)) (by omega) (by omega);obtain⟨yc,c1,c2,c3⟩:=K6 hN (xs:=x.result.rows) (k:=k+1+1+1+1+1+1+1+1+((x.result.list.map Val.cnt).sum:Nat)+((x.result.columns.map Aj).sum:Nat)) (by omega) (by omega) (by omega);have a2' :ED N x.result.list (k+1+1+1+1+1+1+1+1)=_:=a2;have w1:V.wrap (k+1)=k+1:=AU (by omega) (by omega);have w2:V.wrap (k+1+1)=k+1+1:=AU (by omega) (by omega);have w3:V.wrap (k+1+1+1)=k+1+1+1:=AU (by omega) (by omega);have w4:V.wrap (k+1+1+1+1)=k+1+1+1+1:=AU (by omega) (by omega);have w5:V.wrap (k+1+1+1+1+1)=k+1+1+1+1+1:=AU (by omega) (by omega);have w6:V.wrap (k+1+1+1+1+1+1)=k+1+1+1+1+1+1:=AU (by omega) (by omega);have w7:V.wrap (k+1+1+1+1+1+1+1)=k+1+1+1+1+1+1+1:=AU (by omega) (by omega);have w8:V.wrap (k+1+1+1+1+1+1+1+1)=k+1+1+1+1+1+1+1+1:=AU (by omega) (by omega);refine⟨⟨k,k+1,k+1+1,t,.mk (k+1+1+1+1) (k+1+1+1+1+1) (k+1+1+1+1+1+1) t2 ya yb yc⟩,fun n xs' i hl hxi=> ?_⟩
    ·have hi:=(Zs.1 hxi).1;have hi' :(i:Int)<(xs'.length:Int):=by omega
     have hcd:(0:Int)<=(i:Int)/\(i:Int)<(xs'.length:Int):=by omega
     simp only [EC,IE,KJ,KL,KM,KN,KO,KP,KQ,KR,KS,IF,IG,IH,II,IJ,IK,Ep,Er,Es,Zz hi',jT,jI,AS hxi,List.length_set,Li hi,List.set_set,AM hi (by omega:xs'.length<=_),Zt hcd,w1,w2,w3,w4,w5,w6,w7,w8,ht,ht2,jS,Val.re_eq,vk,vn,vs,vt,vl,vc,vr,
      a2',b2,c2,Zt a1,Zt b1,Zt c1]
     grind) (by omega) hn
abbrev Sem:=Mch->List Bnd->Val×Mch
def zV:Val:= .mk 0 0 0 [] [] [] []
def Mch.rds(m:Mch)(l:List Rea):Mch:= .mk m.tape m.w m.cell m.version l m.steps m.over
def Al(r x:Rea):Rea:=bif x.kind==r.kind then(bif x.n==r.n then(bif x.text==r.text then .mk r.kind r.n (IntKind.i64.wrap (r.time+1)) r.text r.result else r) else r) else r
def C1(m:Mch)(r:Rea):Val:=bif(BQ r m.tape).2 then(BQ r m.tape).1 else DD m.w m.cell m.version r
def Bv(m:Mch)(r0:Rea):Val×Mch:=
 let r:=m.reads.foldl Al r0
 (C1 m r,m.rds (m.reads++ [.mk r.kind r.n r.time r.text (C1 m r)]))
def A4(g:Bool):List Sem->Mch->List Bnd->List Val×Mch
 | [],m,_=>([],m)
 |f::fs,m,sc=>bif !g&&m.over then([],m) else((f m sc).1::(A4 g fs (f m sc).2 sc).1,(A4 g fs (f m sc).2 sc).2)
def A6(t:Str)(f:Sem):List Val->Mch->List Bnd->List Val×Mch
 | [],m,_=>([],m)
 |x::xs,m,sc=>bif(f m (sc++ [⟨t,x⟩])).2.over then([],(f m (sc++ [⟨t,x⟩])).2) else((f m (sc++ [⟨t,x⟩])).1::(A6 t f xs (f m (sc++ [⟨t,x⟩])).2 sc).1,(A6 t f xs (f m (sc++ [⟨t,x⟩])).2 sc).2)
def CM(t:Str)(r:List Val×Mch):Val×Mch:=
 bif r.2.over then(zV,r.2) else bif !(DC t) then((BP t r.1).1,r.2) else
 let a:=r.1.getD 0 Dv
 bif decide ((r.1.length:Int)>0)&&a.kind==6 then(a,r.2) else
 bif t== [99,108,111,99,107] then Bv r.2 ⟨1,0,0,[],zV⟩ else
 bif t== [99,104,97,110,99,101]&&a.kind==1 then Bv r.2 ⟨2,a.n,0,[],zV⟩ else
 bif t== [102,105,108,101]&&a.kind==2 then Bv r.2 ⟨3,0,0,a.text,zV⟩ else(AO 4,r.2)
def Aa:Sem:=fun m _=>(zV,m)
def CU(r:Val×Mch)(k:Val×Mch):Val×Mch:=bif r.2.over then r else bif r.1.kind==6 then r else k
def Aq(g:Bool)(k n:Int)(t:Str)(fs:List Sem)(m:Mch)(sc:List Bnd):Val×Mch:=
 bif k==1 then(AY n,m) else bif k==2 then(.mk 2 0 0 t [] [] [],m) else bif k==3 then(DQ sc.reverse t,m) else
 bif k==4 then(bif !g&&(A4 g fs m sc).2.over then zV else BS (A4 g fs m sc).1,(A4 g fs m sc).2) else
 bif k==5 then CM t (A4 g fs m sc) else
 bif k==6 then(bif !g&&(A4 g fs m sc).2.over then zV else(Bh n ((A4 g fs m sc).1.getD 0 Dv) ((A4 g fs m sc).1.getD 1 Dv)).1,(A4 g fs m sc).2) else
 bif k==7 then(fs.getD 1 Aa) ((fs.getD 0 Aa) m sc).2 (sc++ [⟨t,((fs.getD 0 Aa) m sc).1⟩]) else
 bif k==8 then CU ((fs.getD 0 Aa) m sc) (bif((fs.getD 0 Aa) m sc).1.kind==1&&((fs.getD 0 Aa) m sc).1.n != 0 then(fs.getD 1 Aa) ((fs.getD 0 Aa) m sc).2 sc else(fs.getD 2 Aa) ((fs.getD 0 Aa) m sc).2 sc) else
 CU ((fs.getD 0 Aa) m sc) (bif((fs.getD 0 Aa) m sc).1.kind != 3 then(AO 4,((fs.getD 0 Aa) m sc).2) else
  (bif(A6 t (fs.getD 1 Aa) ((fs.getD 0 Aa) m sc).1.list ((fs.getD 0 Aa) m sc).2 sc).2.over then zV else BS (A6 t (fs.getD 1 Aa) ((fs.getD 0 Aa) m sc).1.list ((fs.getD 0 Aa) m sc).2 sc).1,
   (A6 t (fs.getD 1 Aa) ((fs.getD 0 Aa) m sc).1.list ((fs.getD 0 Aa) m sc).2 sc).2))
def Mch.halt(m:Mch):Mch:= .mk m.tape m.w m.cell m.version m.reads m.steps true
def Mch.tick(m:Mch):Mch:= .mk m.tape m.w m.cell m.version m.reads (IntKind.i64.wrap (m.steps+1)) m.over
def CB(g:Bool)(k n:Int)(t:Str)(fs:List Sem):Sem:=fun m sc=>bif m.over then(zV,m.halt) else bif m.steps==200 then(zV,m.halt) else Aq g k n t fs m.tick sc
mutual
def evG(g:Bool):Exp->Sem
 | .mk k n t a=>CB g k n t (L3 g a)
def L3(g:Bool):List Exp->List Sem
 | []=> []
 |x::l=>evG g x::L3 g l
end
def xGm(g:Bool)(l:List Exp):L3 g l=l.map (evG g):=by
 induction l with
 |nil=>rfl
 |cons x l ih=>simp [L3,ih]
def Fa(g:Bool)(k n:Int)(t:Str)(a:List Exp):evG g (.mk k n t a)=CB g k n t (a.map (evG g)):=by simp [evG,xGm]
def Mch.halt_of{m:Mch}(h:m.over=true):m.halt=m:=by cases m;cases h;rfl
structure Keep (I:Val->Prop):Prop where
 fit:∀ {v},I v->v.Fit 1048576
 zero:I zV
 num:∀ {n},I64 n->I (AY n)
 text:∀ {t:Str},t.length<=1048576->I (.mk 2 0 0 t [] [] [])
 err:∀ {c},1<=c->c<=8->I (AO c)
 call:∀ {t l},l.length<=1048576->(∀x∈l,I x)->I (BP t l).1
 build:∀ {l},l.length<=1048576->(∀x∈l,I x)->I (BS l)
 app:∀ {n a b},I a->I b->I (Bh n a b).1
 el:∀ {v x},I v->x∈v.list->I x
structure Mok (I:Val->Prop) (c:Nat) (m:Mch):Prop where
 tape:m.tape.length<=1048576
 tapeI:∀x∈m.tape,I x.result
 files:m.w.files.length<=1048576
 lo:0<=m.steps
 hi:m.steps<=200
 rd:(m.reads.length:Int)+c<=m.steps
 ov:m.over=true->m.steps=200
 rdI:∀x∈m.reads,I x.result/\x.Fit 1048576
def Sok(I:Val->Prop)(n:Nat)(sc:List Bnd):Prop:=sc.length+n<=2000000/\∀b∈sc,I b.value/\b.name.length<=1048576
end Go.Ab
end
section
namespace Go.Ab
variable {I:Val->Prop} {c:Nat}
theorem An{P:Val->Prop}{b:Bool}{x y:Val}(h1:b=true->P x)(h2:P y):P (bif b then x else y):=by grind
theorem xF1(hI:Keep I)(w:Wld)(c v:Int)(r:Rea):I (DD w c v r):=by
 have e:=fun c=>hI.err (c:=c)
 have hn:∀n,AZ n=true->I (AY n):=fun n h=>hI.num (by
  simp only [AZ,Zu,ZU] at h;exact⟨by omega,by omega⟩)
 refine An (fun _=>An (hn _) (e 4 (by omega) (by omega))) (An (fun _=>An (fun h=> ?_) (e 5 (by omega) (by omega))) (An (fun _=>An (fun _=>An (hn _) (e 4 (by omega) (by omega))) (e 1 (by omega) (by omega))) (e 4 (by omega) (by omega))));simp only [Zu,ZU] at h;have:=Int.tmod_lt_of_pos (Cp w.seed c v r.time) (by omega:0<r.n);have:=Int.lt_tmod_of_pos (Cp w.seed c v r.time) (by omega:0<r.n);exact hI.num ⟨by omega,by omega⟩
theorem SS(hI:Keep I){m:Mch}(hm:Mok I c m)(r:Rea):I (C1 m r):=by
 have:∀l:List Rea,(∀x∈l,I x.result)->(BQ r l).2=true->I (BQ r l).1:=by
  intro l
  induction l <;>grind [BQ]
 have:=this m.tape hm.tapeI
 grind [xF1,C1]
theorem ST(hI:Keep I){m:Mch}(hm:Mok I c m)(r0:Rea):Big fun N=>Cj N m r0=some (Bv m r0)/\EP N m r0=some (Bv m r0):=by
 have hv:=SS hI hm (m.reads.foldl Al r0);have hrd:m.reads.length<=200:=by have:=hm.rd;have:=hm.hi;omega
 have htl:=hm.tape;refine(((Big.list (l:=m.tape) fun x hx=>(Cv (hI.fit (hm.tapeI x hx)) (by omega)).and (Ek (hI.fit (hm.tapeI x hx)) (by omega))).and (Ek (hI.fit hv) (by omega))).and (A2 1048577)).imp fun N ⟨⟨hc,hcv⟩,hN⟩=> ?_;have f1:=fun r=>xMl (N:=N) (b:=r) (fun x hx=>(hc x hx).1) (by omega) (by omega);have f2:=fun r=>xHo (N:=N) (b:=r) (fun x hx=>(hc x hx).2) (by omega) (by omega);have fe:=fun r=>xF2 (N:=N) (w:=m.w) (c:=m.cell) (v:=m.version) (r:=r) hm.files (by have:=hm.files;omega);have hlim:m.reads.length+1<=Lim:=by grind [Lim]
 have st:∀i x l (s:Rea),m.reads.drop i=x::l->(Al s x::l).tail=l->((x::l).foldl Al s=l.foldl Al (Al s x)):=fun _ _ _ _ _ _=>rfl;refine⟨?_,?_⟩
 ·have:=A3 (L:=fun n i (s:Rea)=>Dn N n m.reads m.reads.length i m s zV) m.reads (fun _ _=>Bv m r0) (fun i s=>(m.reads.drop i).foldl Al s=m.reads.foldl Al r0)
   (fun n s hs=>by
     rw [List.drop_length] at hs;have hs:s=m.reads.foldl Al r0:=hs;subst hs;simp only [Dn,Zd,Z9,jF,f2,jS,Val.re_eq,List.length_singleton,Zt hlim,(fe _).1];cases h:(BQ (m.reads.foldl Al r0) m.tape).2
     ·have e:DD m.w m.cell m.version (m.reads.foldl Al r0)=C1 m (m.reads.foldl Al r0):=by grind [C1]
      simp only [jV,jT,e,hcv,jS];rfl
     ·have e:(BQ (m.reads.foldl Al r0) m.tape).1=C1 m (m.reads.foldl Al r0):=by grind [C1]
      simp only [jU,jF,e,hcv,jS];rfl)
   (fun i x l s hd hi hxi hs=>by
     have hi' :(i:Int)<(m.reads.length:Int):=by omega
     rw [hd] at hs;refine .inl ⟨Al s x,?_,rfl,fun n=> ?_⟩
     ·rw [<-ZC,hd];grind
     grind [Dn,jI,AM,Al]) N 0 r0 rfl (by omega) (by omega)
  exact this
 ·have:=A3 (L:=fun n i (s:Rea)=>EQ N n i m s zV) m.reads (fun _ _=>Bv m r0) (fun i s=>(m.reads.drop i).foldl Al s=m.reads.foldl Al r0)
   (fun n s hs=>by
     rw [List.drop_length] at hs;have hs:s=m.reads.foldl Al r0:=hs;subst hs;simp only [EQ,Zd,Z9,jF,f1,jS,Val.re_eq,List.length_singleton,Zt hlim,(fe _).2];cases h:(BQ (m.reads.foldl Al r0) m.tape).2
     ·have e:DD m.w m.cell m.version (m.reads.foldl Al r0)=C1 m (m.reads.foldl Al r0):=by grind [C1]
      simp only [jV,jT,e];rfl
     ·have e:(BQ (m.reads.foldl Al r0) m.tape).1=C1 m (m.reads.foldl Al r0):=by grind [C1]
      simp only [jU,jF,e];rfl)
   (fun i x l s hd hi hxi hs=>by
     have hi' :(i:Int)<(m.reads.length:Int):=by omega
     rw [hd] at hs;refine .inl ⟨Al s x,?_,rfl,fun n=> ?_⟩
     ·rw [<-ZC,hd];grind
     grind [EQ,jI,AM,Al]) N 0 r0 rfl (by omega) (by omega)
  exact this
def FZ(r:Rea):Prop:=I64 r.kind/\I64 r.n/\I64 r.time/\r.text.length<=1048576
theorem xOj{r:Rea}(h:FZ r)(x:Rea):FZ (Al r x):=by
 grind [xG6,Al,FZ]
theorem xC0:∀(l:List Rea) {r:Rea},FZ r->FZ (l.foldl Al r)
 | [],_,h=>h
 |x::l,_,h=>xC0 l (xOj h x)
theorem Ou(hI:Keep I){m:Mch}(hm:Mok I (c+1) m){r:Rea}(hr:FZ r):I (Bv m r).1/\Mok I c (Bv m r).2:=
 have h:=xC0 m.reads hr;have hv:=SS hI hm (m.reads.foldl Al r)
 ⟨hv,⟨hm.tape,hm.tapeI,hm.files,hm.lo,hm.hi,by have:=hm.rd;show((m.reads++ [_]).length:Int)+c<=m.steps;grind,hm.ov,fun x hx=>by
   have hx:x∈m.reads++ [_]:=hx;rcases Zf.1 hx with h' |h'
   ·exact hm.rdI x h'
   ·rw [Zo.1 h'];exact⟨hv,h.1,h.2.1,h.2.2.1,h.2.2.2,hI.fit hv⟩⟩⟩
theorem Mok.less{m:Mch}(hm:Mok I (c+1) m):Mok I c m:=⟨hm.tape,hm.tapeI,hm.files,hm.lo,hm.hi,by have:=hm.rd;omega,hm.ov,hm.rdI⟩
theorem Mok.tick{m:Mch}(hm:Mok I c m)(h:m.over=false)(h2:m.steps≠200):Mok I (c+1) m.tick:=by
 have h1:=hm.rd;have h3:=hm.lo;have h4:=hm.hi;have e:m.tick.steps=m.steps+1:=AU (by omega) (by omega);exact⟨hm.tape,hm.tapeI,hm.files,by omega,by omega,by show(m.reads.length:Int)+_<=_;omega,fun h5=>absurd (h.symm.trans h5) (by simp),hm.rdI⟩
theorem Mok.halt{m:Mch}(hm:Mok I c m)(h:m.over=true\/m.steps=200):Mok I c m.halt:=
 ⟨hm.tape,hm.tapeI,hm.files,hm.lo,hm.hi,hm.rd,fun _=>h.elim hm.ov id,hm.rdI⟩
def KeepS(I:Val->Prop)(n:Nat)(f:Sem):Prop:=∀c m sc,Mok I c m->Sok I n sc->I (f m sc).1/\Mok I c (f m sc).2
theorem Sok.le{n k:Nat}{sc:List Bnd}(h:Sok I n sc)(hk:k<=n):Sok I k sc:=⟨by have:=h.1;omega,h.2⟩
theorem Sok.snoc{n:Nat}{sc:List Bnd}(h:Sok I (n+1) sc){t:Str}{v:Val}(ht:t.length<=1048576)(hv:I v):Sok I n (sc++ [⟨t,v⟩]):=
 ⟨by have:=h.1;grind,fun b hb=>by
   rcases Zf.1 hb with hb|hb
   ·exact h.2 b hb
   grind⟩
theorem Ic{n:Nat}{g:Bool}{sc:List Bnd}:∀ {fs:List Sem} {m:Mch},(∀f∈fs,KeepS I n f)->Mok I c m->Sok I n sc->
 (∀v∈(A4 g fs m sc).1,I v)/\Mok I c (A4 g fs m sc).2/\(A4 g fs m sc).1.length<=fs.length/\((g=true\/(A4 g fs m sc).2.over=false)->(A4 g fs m sc).1.length=fs.length)
 | [],m,_,hm,_=>by grind [A4]
 |f::fs,m,hf,hm,hs=>by
  have h1:=hf f (by simp) c m sc hm hs;have h2:=Ic (g:=g) (fs:=fs) (fun f h=>hf f (by grind)) h1.2 hs
  grind [A4]
theorem U1{n:Nat}{t:Str}{f:Sem}{sc:List Bnd}(ht:t.length<=1048576)(hf:KeepS I n f):∀ {xs:List Val} {m:Mch},(∀x∈xs,I x)->Mok I c m->Sok I (n+1) sc->
 (∀v∈(A6 t f xs m sc).1,I v)/\Mok I c (A6 t f xs m sc).2/\(A6 t f xs m sc).1.length<=xs.length
 | [],m,_,hm,_=>by grind [A6]
 |x::xs,m,hx,hm,hs=>by
  have h1:=hf c m _ hm (hs.snoc (t:=t) ht (hx x (by simp)));have h2:=U1 ht hf (xs:=xs) (fun f h=>hx f (by grind)) h1.2 hs
  grind [A6]
theorem xFH(hI:Keep I){t:Str}{r:List Val×Mch}(h1:∀v∈r.1,I v)(h2:r.1.length<=1048576)(hm:Mok I (c+1) r.2):I (CM t r).1/\Mok I c (CM t r).2:=by
 have e1:=Ou hI hm (r:=⟨1,0,0,[],zV⟩) (by simp [FZ,I64]);have:=hm.less;have:=hI.call (t:=t) h2 h1;have:=hI.zero;have:=hI.err (c:=4) (by omega) (by omega);have ef:∀a:Val,I a->(I (Bv r.2 ⟨2,a.n,0,[],zV⟩).1/\Mok I c (Bv r.2 ⟨2,a.n,0,[],zV⟩).2)/\(I (Bv r.2 ⟨3,0,0,a.text,zV⟩).1/\Mok I c (Bv r.2 ⟨3,0,0,a.text,zV⟩).2):=fun a ha=>by
  have hf:=Val.fit_iff.1 (hI.fit ha);exact⟨Ou hI hm ⟨by simp [I64],hf.2.1,by simp [I64],by simp⟩,Ou hI hm ⟨by simp [I64],by simp [I64],by simp [I64],hf.2.2.2.1⟩⟩
 have hd:I (r.1.getD 0 Dv):=by
  rw [Z4];cases h:r.1[0]? with
  |none=>exact hI.zero
  |some x=>grind [List.mem_of_getElem?]
 have ef:=ef _ hd;simp only [CM];cases r.2.over <;>cases DC t <;>cases h0:decide ((r.1.length:Int)>0) <;>grind
end Go.Ab
end
section
namespace Go.Ab
variable {I:Val->Prop} {c:Nat}
theorem Lg{n:Nat}{fs:List Sem}(hI:Keep I)(hf:∀f∈fs,KeepS I n f)(i:Nat):KeepS I n (fs.getD i Aa):=by
 rw [Z4];cases h:fs[i]? with
 |none=>exact fun c m sc hm hs=>⟨hI.zero,hm⟩
 |some f=>grind
theorem xBc(hI:Keep I){t:Str}:∀ {l:List Bnd},(∀b∈l,I b.value)->I (DQ l t)
 | [],_=>hI.err (c:=1) (by omega) (by omega)
 |b::l,h=>by
  have:=xBc hI (t:=t) (l:=l) fun b hb=>h b (by grind)
  grind [DQ]
theorem xKM(hI:Keep I){n:Nat}{g:Bool}{k j:Int}{t:Str}{fs:List Sem}{m:Mch}{sc:List Bnd}(hj:I64 j)(ht:t.length<=1048576)(hf:∀f∈fs,KeepS I n f)(hl:fs.length<=1048576)
 (hm:Mok I (c+1) m) (hs:Sok I (n+1) sc):I (Aq g k j t fs m sc).1/\Mok I c (Aq g k j t fs m sc).2:=by
 have hs0:Sok I n sc:=hs.le (by omega);obtain⟨q1,q2,q3,_⟩:=Ic (g:=g) hf hm hs0;have q4:=xFH hI (t:=t) q1 (by omega) q2;have g0:=Lg hI hf 0 _ _ _ hm hs0;have g1:=fun m sc hm hs=>Lg hI hf 1 (c+1) m sc hm hs;have g2:=fun m sc hm hs=>Lg hI hf 2 (c+1) m sc hm hs;have gd:∀i,I ((A4 g fs m sc).1.getD i Dv):=fun i=>by
  rw [Z4];cases h:(A4 g fs m sc).1[i]? with
  |none=>exact hI.zero
  |some f=>grind
 have gb:=hI.build (l:=(A4 g fs m sc).1) (by omega) q1;have ga:=hI.app (n:=j) (gd 0) (gd 1);have gl:=xBc hI (t:=t) (l:=sc.reverse) fun b hb=>(hs.2 b (by grind)).1;have gn:=hI.num hj;have gt:=hI.text ht;have gz:=hI.zero;have ge:=hI.err (c:=4) (by omega) (by omega);obtain⟨w1,w2,w3⟩:=U1 ht (Lg hI hf 1) (xs:=((fs.getD 0 Aa) m sc).1.list) (fun x hx=>hI.el g0.1 hx) g0.2 hs;have w4:=hI.build (l:=(A6 t (fs.getD 1 Aa) ((fs.getD 0 Aa) m sc).1.list ((fs.getD 0 Aa) m sc).2 sc).1) (by have:=(Val.fit_iff.1 (hI.fit g0.1)).2.2.2.2.1.1;omega) w1;have m0:=hm.less;have m1:=g0.2.less;have m2:=q2.less;have m3:=w2.less;have h1:=g1 _ _ g0.2 hs0;have h1' :=h1.2.less;have h2:=g2 _ _ g0.2 hs0;have h2' :=h2.2.less;have h3:=g1 _ _ g0.2 (hs.snoc (t:=t) ht g0.1);have h3' :=h3.2.less;unfold Aq;cases k==1
 ·cases k==2
  ·cases k==3
   ·cases k==4
    ·cases k==5
     ·cases k==6
      ·cases k==7
       ·cases k==8
        ·simp only [jF,CU]
         grind
        ·simp only [jF,jT,CU]
         grind
       grind
      ·simp only [jF,jT]
       grind
     grind
    ·simp only [jF,jT]
     grind
   grind
  grind
 grind
theorem L4(hI:Keep I)(g:Bool):∀e:Exp,e.Fit 1048576->KeepS I (e.nest+1) (evG g e):=by
 refine Exp.ind fun k n t a ih h c m sc hm hs=> ?_;obtain⟨h1,h2,h3,h4⟩:=Exp.fit_iff.1 h;rw [Fa,CB];rw [Exp.nest_eq] at hs;have hz:=hI.zero;cases ho:m.over
 ·cases h2:m.steps==200
  ·exact xKM hI (n:=Exp.nests a+1) ‹_› h3 (fun f hf=>by
    obtain⟨x,hx,rfl⟩:=Zk.1 hf;have:=GL hx;exact fun c m sc hm hs=>ih x hx (h4.2 x hx) c m sc hm (hs.le (by omega))) (by rw [Zm];exact h4.1) (hm.tick ho (by grind)) hs
  ·exact⟨hz,hm.halt (.inr (by grind))⟩
 ·exact⟨hz,hm.halt (.inl ho)⟩
end Go.Ab
end
section
namespace Go.Ab
variable {I:Val->Prop} {c:Nat}
abbrev fI(N d:Nat):=BE N d
def E7(I:Val->Prop)(n:Nat)(x:Exp):Prop:=∀c m sc,Mok I c m->Sok I n sc->Big2 fun N d=>(fI N d).c18 m x sc=some (evG true x m sc)
theorem K0{α:Type}{l:List α}{x:α}(h:l.length<=2000000):l.length+ [x].length<=Lim:=by grind [Lim]
theorem xBT{a:List Exp}{sc:List Bnd}{n:Nat}(hs:Sok I n sc)(ha:a.length<=1048576)(hk:∀x∈a,KeepS I n (evG true x))(hx:∀x∈a,E7 I n x):
 ∀(l:List Exp) (i:Nat) (acc:List Val) (m:Mch),a.drop i=l->acc.length=i->i<=a.length->Mok I c m->Big3 fun N d n=>H7 N (fI N d).c16 (fI N d).c17 (fI N d).c18 (fI N d).c19 n sc acc a a.length i m=
  some (acc++(A4 true (l.map (evG true)) m sc).1,(A4 true (l.map (evG true)) m sc).2)
 | [],i,acc,m,hd,hi,hl,hm=>by
   grind [List.drop_eq_nil_iff,Big3.succ,Big3.of,H7,A4]
 |x::l,i,acc,m,hd,hi,hl,hm=>by
  have hxi:a[i]? =some x:=by grind [List.head?_drop]
  have hm' :=Zy hxi;have hlt:=(Zs.1 hxi).1;have hi' :(i:Int)<(a.length:Int):=by omega
  have hk:=hk x hm' c m sc hm hs;refine Big3.succ (((hx x hm' c m sc hm hs).three.and (xBT hs ha ‹_› hx l (i+1) (acc++ [(evG true x m sc).1]) _ (by rw [<-ZC,hd];rfl) (by grind) hlt hk.2)).imp fun N d n ⟨h1,h2⟩=> ?_)
  grind [H7,Val.re_eq,AM,K0,A4]
theorem xBd(hI:Keep I){sc:List Bnd}{n:Nat}{e:Exp}{y:Exp}{xs:List Val}(hs:Sok I (n+1) sc)(ht:e.text.length<=1048576)(he:e.args[1]? =some y)(ha:xs.length<=1048576)(hk:KeepS I n (evG true y))(hx:E7 I n y)(hxs:∀x∈xs,I x)(b6:Val):
 ∀(l:List Val) (i:Nat) (acc:List Val) (m:Mch),xs.drop i=l->acc.length=i->i<=xs.length->(∀v∈acc,I v)->m.over=false->Mok I c m->Big3 fun N d n=>En N (fI N d).c16 (fI N d).c17 (fI N d).c18 (fI N d).c19 n sc acc xs xs.length i m e b6=
  some (bif(A6 e.text (evG true y) l m sc).2.over then zV else BS (acc++(A6 e.text (evG true y) l m sc).1),(A6 e.text (evG true y) l m sc).2)
 | [],i,acc,m,hd,hi,hl,hv,ho,hm=>by
   have:i=xs.length:=by grind [List.drop_eq_nil_iff]
   refine Big3.succ (((LV (K:=1048576) (by omega) (l:=acc) ⟨by omega,fun v h=>hI.fit (hv v h)⟩).two.three).imp fun N d n h=> ?_)
   grind [En,A6]
 |x::l,i,acc,m,hd,hi,hl,hv,ho,hm=>by
  have hxi:xs[i]? =some x:=by grind [List.head?_drop]
  have hm' :=Zy hxi;have hlt:=(Zs.1 hxi).1;have hi' :(i:Int)<(xs.length:Int):=by omega
  have h1:=(Zs.1 he).1;have hs' :=hs.snoc (t:=e.text) ht (hxs x hm');have hk' :=hk c m _ hm hs';have hb:=LU (K:=2000000) (xs:=sc) (s:=e.text) (v:=x) ⟨by have:=hs.1;omega,fun b hb=>⟨by show b.name.length<=_;have:=(hs.2 b hb).2;omega,Val.fit_mono (by omega) (hI.fit (hs.2 b hb).1)⟩⟩ (Val.fit_mono (by omega) (hI.fit (hxs x hm'))) (by omega);cases hov:(evG true y m (sc++ [⟨e.text,x⟩])).2.over
  ·refine Big3.succ (((hb.two.and (hx c m _ hm hs')).three.and (xBd hI hs ht he ha hk hx hxs b6 l (i+1) (acc++ [(evG true y m (sc++ [⟨e.text,x⟩])).1]) _ (by rw [<-ZC,hd];rfl) (by grind) hlt (by grind) hov hk'.2)).imp fun N d n ⟨⟨h2,h3⟩,h4⟩=> ?_);simp only [En,Zz hi',jT,jI,AS hxi,h2.2,h3,show toNat 1=1 from rfl,AS he,jS,Val.re_eq,AM hlt (by omega:xs.length<=_),Zt (K0 (by omega:acc.length<=2000000)),hov,jF]
   grind [A6]
  ·refine Big3.succ ((hb.two.and (hx c m _ hm hs')).three.imp fun N d n ⟨h2,h3⟩=> ?_);simp only [En,Zz hi',jT,jI,AS hxi,h2.2,h3,show toNat 1=1 from rfl,AS he,jS,Val.re_eq,Zt (K0 (by omega:acc.length<=2000000)),hov];rw [Zt (by omega),Zt (by omega)];simp [A6,hov];rfl
theorem Ot(s:Str):DC s=(s== [99,108,111,99,107]||(s== [99,104,97,110,99,101]||s== [102,105,108,101])):=by
 grind [DC,Dh]
theorem xFZ(N:Nat)(s:Str):Dh N s=some (DC s):=by
 grind [Ot,Dh]
theorem SU{t:Str}{l:List Val}(h:DC t=true)(hl:(l.length:Int)=Ay t):(t=[99,108,111,99,107]/\l=[])\/∃x,l=[x]/\(t=[99,104,97,110,99,101]\/t=[102,105,108,101]):=by
 rw [Ot] at h;simp only [Yv,beq_iff_eq] at h;rcases h with h|h|h <;>subst h
 ·exact .inl ⟨rfl,Z3.1 (by rw [show Ay [99,108,111,99,107]=0 by kernel_rfl] at hl;omega)⟩
 ·rw [show Ay [99,104,97,110,99,101]=1 by kernel_rfl] at hl
  grind [GF]
 ·rw [show Ay [102,105,108,101]=1 by kernel_rfl] at hl
  grind [GF]
theorem xGu{N:Nat}{q0:Mch->List Exp->List Bnd->Option (List Val×Mch)}{q1 q2 q3:Mch->Exp->List Bnd->Option (Val×Mch)}{m:Mch}{e:Exp}{sc:List Bnd}{r:List Val×Mch}(h0:q0 m e.args sc=some r)
 (hl:r.2.over=false->(r.1.length:Int)=Ay e.text) (hc:DI N e.text r.1=some (BP e.text r.1)) (he:∀x∈ [Rea.mk 1 0 0 [] zV,.mk 2 (r.1.getD 0 Dv).n 0 [] zV,.mk 3 0 0 (r.1.getD 0 Dv).text zV],Cj N r.2 x=some (Bv r.2 x)):
 MN N q0 q1 q2 q3 m e sc=some (CM e.text r):=by
 simp only [Zh,Z6,or_false,forall_eq_or_imp,forall_eq] at he;obtain⟨e1,e2,e3⟩:=he;unfold MN CM;simp only [h0,jS,xFZ];cases ho:r.2.over
 ·cases hb:DC e.text
  ·grind
  ·obtain⟨l,m2⟩:=r;rcases SU hb (hl ho) with ⟨h1,h2⟩|⟨x,h2,h1⟩
   ·have h2:l=[]:=h2;subst h2;rw [h1];simp only [jF,jU];exact(Zl (fun z=>Option.bind z fun r3=>some (r3.1,r3.2)) e1)
   ·have h2:l=[x]:=h2;subst h2;have k1:∀b:Bool,(b&&x.kind==6)=(b&&x.kind==6):=fun _=>rfl;rcases h1 with h1|h1 <;>rw [h1] <;>simp only [jF,jU]
    ·cases h6:x.kind==6
     ·cases h7:x.kind==1
      ·simp [h6,h7];rfl
      ·simp [h6,h7];exact(Zl (fun z=>Option.bind z fun r3=>some (r3.1,r3.2)) e2)
     grind
    ·cases h6:x.kind==6
     ·cases h7:x.kind==2
      ·simp [h6,h7];rfl
      ·simp [h6,h7];exact(Zl (fun z=>Option.bind z fun r3=>some (r3.1,r3.2)) e3)
     grind
 ·rfl
end Go.Ab
end
section
namespace Go.Ab
variable {I:Val->Prop} {c:Nat}
theorem KeepS.le{n k:Nat}{f:Sem}(h:KeepS I n f)(hk:n<=k):KeepS I k f:=fun c m sc hm hs=>h c m sc hm (hs.le hk)
theorem xBl{k n:Int}{t:Str}{l:Nat}(h:K8 EY CY Ay k n t l=true):
 k=1\/k=2\/k=3\/k=4\/(k=5/\(l:Int)=Ay t)\/(k=6/\l=2)\/(k=7/\l=2)\/(k=8/\l=3)\/(k=9/\l=2):=by
 grind [K8]
theorem I1{α:Type}{l:List α}(h:l.length=2):∃a b,l=[a,b]:=by
 match l,h with
 | [a,b],_=>grind
theorem xBi{α:Type}{l:List α}(h:l.length=3):∃a b c,l=[a,b,c]:=by
 match l,h with
 | [a,b,c],_=>grind
theorem Kf(hI:Keep I){n:Nat}{sc:List Bnd}(hs:Sok I n sc):LFit 2000000 (Bnd.Fit 2000000) sc:=
 ⟨by have:=hs.1;omega,fun b hb=>⟨by show b.name.length<=_;have:=(hs.2 b hb).2;omega,Val.fit_mono (by omega) (hI.fit (hs.2 b hb).1)⟩⟩
theorem xBW(hI:Keep I){a:List Exp}{n:Nat}{m:Mch}{sc:List Bnd}(ha:a.length<=1048576)(hk:∀x∈a,KeepS I n (evG true x))(hx:∀x∈a,E7 I n x)(hm:Mok I c m)(hs:Sok I n sc):
 Big2 fun N d=>(fI N d).c16 m a sc=some (A4 true (a.map (evG true)) m sc):=
 Big2.succ ((xBT hs ha hk hx a 0 [] m rfl rfl (by omega) hm).inner.imp fun N d h=>h)
theorem xGw(hI:Keep I){e:Exp}{n:Nat}{m:Mch}{sc:List Bnd}(ha:e.args.length<=1048576)(hk:∀x∈e.args,KeepS I n (evG true x))(hx:∀x∈e.args,E7 I n x)(hm:Mok I c m)(hs:Sok I n sc)(hl:(e.args.length:Int)=Ay e.text):
 Big2 fun N d=>(fI N d).c17 m e sc=some (CM e.text (A4 true (e.args.map (evG true)) m sc)):=by
 obtain⟨q1,q2,q3,q4⟩:=Ic (g:=true) (fs:=e.args.map (evG true)) (fun f hf=>by grind) hm hs;rw [Zm] at q3 q4;refine Big2.succ ((((xBW hI ha hk hx hm hs).and (SK (s:=e.text) (l:=(A4 true (e.args.map (evG true)) m sc).1) ⟨by omega,fun v hv=>hI.fit (q1 v hv)⟩).two).and (Big.list (l:=[Rea.mk 1 0 0 [] zV,.mk 2 ((A4 true (e.args.map (evG true)) m sc).1.getD 0 Dv).n 0 [] zV,.mk 3 0 0 ((A4 true (e.args.map (evG true)) m sc).1.getD 0 Dv).text zV]) fun x _=>ST hI q2 x).two).imp fun N d ⟨⟨h1,h2⟩,h3⟩=> ?_);exact xGu (q1:=(fI N d).c17) (q2:=(fI N d).c18) (q3:=(fI N d).c19) h1 (fun _=>by grind) h2.1 fun x hx=>(h3 x hx).1
theorem xKs(hI:Keep I){k j:Int}{t:Str}{x y:Exp}{n:Nat}{m:Mch}{sc:List Bnd}(ht:t.length<=1048576)(hkx:KeepS I n (evG true x))(hky:KeepS I n (evG true y))(hsx:E7 I n x)(hsy:E7 I n y)(hm:Mok I c m)(hs:Sok I (n+1) sc):
 Big2 fun N d=>(fI N d).c19 m (.mk 9 j t [x,y]) sc=some (Aq true 9 j t [evG true x,evG true y] m sc):=by
 have hs0:Sok I n sc:=hs.le (by omega);have h0:=hkx c m sc hm hs0;have hv:=(Val.fit_iff.1 (hI.fit h0.1)).2.2.2.2.1.1
 have key:∀N d:Nat,(fI N d).c18 m x sc=some (evG true x m sc)->
  (∀ho:(evG true x m sc).2.over=false,En N (fI N d).c16 (fI N d).c17 (fI N d).c18 (fI N d).c19 N sc [] (evG true x m sc).1.list ((evG true x m sc).1.list.length:Nat) 0 (evG true x m sc).2 (.mk 9 j t [x,y]) zV=
    some (bif(A6 t (evG true y) (evG true x m sc).1.list (evG true x m sc).2 sc).2.over then zV else BS (A6 t (evG true y) (evG true x m sc).1.list (evG true x m sc).2 sc).1,(A6 t (evG true y) (evG true x m sc).1.list (evG true x m sc).2 sc).2))->
  MO N (fI N d).c16 (fI N d).c17 (fI N d).c18 (fI N d).c19 m (.mk 9 j t [x,y]) sc=some (Aq true 9 j t [evG true x,evG true y] m sc):=fun N d h1 h2=>by
  unfold MO;rw [Zt (by simp [ea]),show(Exp.mk 9 j t [x,y]).args.getD (toNat 0) Dx=x from rfl,h1];show _=some (CU (evG true x m sc) (bif(evG true x m sc).1.kind != 3 then(AO 4,(evG true x m sc).2) else(bif(A6 t (evG true y) (evG true x m sc).1.list (evG true x m sc).2 sc).2.over then zV else BS (A6 t (evG true y) (evG true x m sc).1.list (evG true x m sc).2 sc).1,(A6 t (evG true y) (evG true x m sc).1.list (evG true x m sc).2 sc).2)));simp only [jS,CU];cases ho:(evG true x m sc).2.over
  ·cases h6:(evG true x m sc).1.kind==6
   ·cases h3:(evG true x m sc).1.kind != 3
    ·exact h2 ho
    ·rfl
   ·rfl
  ·rfl
 cases ho:(evG true x m sc).2.over
 ·exact Big2.succ (((hsx c m sc hm hs0).and (xBd hI (e:= .mk 9 j t [x,y]) hs ht rfl hv hky hsy (fun z hz=>hI.el h0.1 hz) zV _ 0 [] _ rfl rfl (by omega) (by simp) ho h0.2).inner).imp fun N d ⟨h1,h2⟩=>key N d h1 fun _=>h2)
 ·exact Big2.succ ((hsx c m sc hm hs0).imp fun N d h1=>key N d h1 fun h=>absurd (ho.symm.trans h) (by simp))
theorem xLJ(hI:Keep I):∀e:Exp,e.Fit 1048576->okE e=true->E7 I (e.nest+1) e:=by
 refine Exp.ind fun k n t a ih h hok c m sc hm hs=> ?_;obtain⟨h1,h2,h3,h4⟩:=Exp.fit_iff.1 h;rw [QZ,Zu] at hok;rw [Exp.nest_eq] at hs;have hs:Sok I (Exp.nests a+1+1) sc:=hs;have hs0:Sok I (Exp.nests a+1) sc:=hs.le (by omega);have hk:∀x∈a,KeepS I (Exp.nests a+1) (evG true x):=fun x hx=>(L4 hI true x (h4.2 x hx)).le (by have:=GL hx;omega);have hx:∀x∈a,E7 I (Exp.nests a+1) x:=fun x hx c m sc hm hs=>ih x hx (h4.2 x hx) (Zx.1 hok.1 x hx) c m sc hm (hs.le (by have:=GL hx;omega));have ht:t.length<=1048576:=h3;rw [Fa];refine Big2.succ ?_;show Big2 fun N d=>Bm N (fI N d).c16 (fI N d).c17 (fI N d).c18 (fI N d).c19 m (.mk k n t a) sc=some (CB true k n t (a.map (evG true)) m sc);cases hov:m.over
 ·cases h200:m.steps==200
  ·have hm1:=hm.tick hov (by grind);have e1:∀N q0 q1 q2 q3,Bm N q0 q1 q2 q3 m (.mk k n t a) sc=Bm N q0 q1 q2 q3 (.mk m.tape m.w m.cell m.version m.reads m.steps false) (.mk k n t a) sc:=fun _ _ _ _ _=>by rw [<-hov]
   have e2:m.tick= .mk m.tape m.w m.cell m.version m.reads (IntKind.i64.wrap (m.steps+1)) false:=by rw [<-hov];rfl
   have e3:CB true k n t (a.map (evG true)) m sc=Aq true k n t (a.map (evG true)) m.tick sc:=by grind [CB]
   simp only [e1,e3];have hall:=xBW (a:=a) hI h4.1 hk hx hm1 hs0;obtain⟨q1,q2,q3,q4⟩:=Ic (g:=true) (fs:=a.map (evG true)) (fun f hf=>by grind) hm1 hs0;rw [Zm] at q3 q4;have hal:a.length<=1048576:=h4.1;rcases xBl hok.2 with rfl|rfl|rfl|rfl|⟨rfl,hl⟩|⟨rfl,hl⟩|⟨rfl,hl⟩|⟨rfl,hl⟩|⟨rfl,hl⟩
   ·exact Big2.of fun N d=>by simp [Bm,h200,Aq,At,e2,ek,en];rfl
   ·grind [Big2.of,Bm,Aq,Jq,ek,et]
   ·exact(xCg (s:=t) (Kf hI hs) (by omega)).two.imp fun N d h=>by grind [Bm,Aq,ek,et]
   ·rw [e2] at hall q1 q2 q3;exact(hall.and (LV (K:=1048576) (by omega) (l:=(A4 true (a.map (evG true)) _ sc).1) ⟨by omega,fun v hv=>hI.fit (q1 v hv)⟩).two).imp fun N d ⟨h1,h2⟩=>by grind [Bm,Aq,ek,ea]
   ·have:=xGw hI (e:= .mk 5 n t a) hal hk hx hm1 hs0 hl;rw [e2] at this;exact this.imp fun N d h1=>by grind [Bm,Aq,ek,ea,et]
   ·rw [e2] at hall q1 q2 q3 q4;obtain⟨x,y,e⟩:=I1 (l:=(A4 true (a.map (evG true)) (.mk m.tape m.w m.cell m.version m.reads (IntKind.i64.wrap (m.steps+1)) false) sc).1) ((q4 (.inl rfl)).trans hl);have fx:=hI.fit (q1 x (by grind));have fy:=hI.fit (q1 y (by grind));refine(hall.and (Rf (op:=n) fx fy).two).imp fun N d ⟨h1,h2⟩=> ?_;have ha2:(Bh n x y).2=true->(Bh n x y).1.list=[]/\(Bh n x y).1.columns=[]/\(Bh n x y).1.rows=[]:=fun h=>by
     grind [Eu,Bh]
    have h3:=h2.1;simp only [Bm,h200,Aq,h1,e2,ek,ea,en,jS,jF,Int.reduceBEq,jT,e,jC,jN,jU,ZY]
    grind [CD]
   ·obtain⟨x,y,rfl⟩:=I1 hl;have k0:=hk x (by simp) _ _ _ hm1 hs0;have hb:=LU (K:=2000000) (xs:=sc) (s:=t) (v:=(evG true x m.tick sc).1) (Kf hI hs) (Val.fit_mono (by omega) (hI.fit k0.1)) (by omega);have b0:=hx x (by simp) _ _ _ hm1 hs0;have b1:=hx y (by simp) _ _ _ k0.2 (hs.snoc (t:=t) ht k0.1);rw [e2] at b0 b1 hb;exact(hb.two.and (b0.and b1)).imp fun N d ⟨h1,h2,h3⟩=>by simp [Bm,h200,Aq,h1,h2,h3,e2,ek,ea,et]
   ·obtain⟨x,y,z,rfl⟩:=xBi hl;have k0:=hk x (by simp) _ _ _ hm1 hs0;have b0:=hx x (by simp) _ _ _ hm1 hs0;have b1:=hx y (by simp) _ _ _ k0.2 hs0;have b2:=hx z (by simp) _ _ _ k0.2 hs0;rw [e2] at b0 b1 b2;refine(b0.and (b1.and b2)).imp fun N d ⟨h1,h2,h3⟩=> ?_;simp [Bm,h200,Aq,h1,h2,h3,e2,ek,ea,CU,PK]
    grind
   ·obtain⟨x,y,rfl⟩:=I1 hl;have:=xKs hI (k:=9) (j:=n) ht (hk x (by simp)) (hk y (by simp)) (hx x (by simp)) (hx y (by simp)) hm1 hs;rw [e2] at this;exact this.imp fun N d h1=>by grind [Bm,ek]
  ·exact Big2.of fun N d=>by simp [Bm,CB,hov,h200];exact⟨rfl,rfl⟩
 ·exact Big2.of fun N d=>by simp [Bm,CB,hov];exact⟨rfl,rfl⟩
end Go.Ab
end
section
namespace Go.Ab
variable {I:Val->Prop} {c:Nat}
abbrev fS(N d:Nat):=BF N d
def E8(I:Val->Prop)(n:Nat)(x:Exp):Prop:=∀c m sc,Mok I c m->Sok I n sc->Big2 fun N d=>(fS N d).c12 m x sc=some (evG false x m sc)
theorem xBU{a:List Exp}{sc:List Bnd}{n:Nat}(hs:Sok I n sc)(ha:a.length<=1048576)(hk:∀x∈a,KeepS I n (evG false x))(hx:∀x∈a,E8 I n x):
 ∀(l:List Exp) (i:Nat) (acc:List Val) (m:Mch),a.drop i=l->acc.length<=i->i<=a.length->Mok I c m->Big3 fun N d n=>Gj N (fS N d).c10 (fS N d).c11 (fS N d).c12 (fS N d).c13 n a sc acc i m=
  some (acc++(A4 false (l.map (evG false)) m sc).1,(A4 false (l.map (evG false)) m sc).2)
 | [],i,acc,m,hd,hi,hl,hm=>by
   grind [List.drop_eq_nil_iff,Big3.succ,Big3.of,Gj,A4]
 |x::l,i,acc,m,hd,hi,hl,hm=>by
  have hxi:a[i]? =some x:=by grind [List.head?_drop]
  have hm' :=Zy hxi;have hlt:=(Zs.1 hxi).1;have hi' :(i:Int)<(a.length:Int):=by omega
  have hk:=hk x hm' c m sc hm hs;cases hov:m.over
  ·refine Big3.succ (((hx x hm' c m sc hm hs).three.and (xBU hs ha ‹_› hx l (i+1) (acc++ [(evG false x m sc).1]) _ (by rw [<-ZC,hd];rfl) (by grind) hlt hk.2)).imp fun N d n ⟨h1,h2⟩=> ?_)
   grind [Gj,Val.re_eq,AM,K0,A4]
  grind [Big3.succ,Big3.of,Gj,A4]
theorem xKr{N n:Nat}{q0:Mch->List Exp->List Bnd->Option (List Val×Mch)}{q1 q2 q3:Mch->Exp->List Bnd->Option (Val×Mch)}{sc:List Bnd}{acc:List Val}{i:Int}{m:Mch}{e:Exp}{v b6:Val}(h:m.over=true):
 Cw N q0 q1 q2 q3 (n+1) sc acc i m e b6 v=some (zV,m):=by
 rw [Cw,h];cases decide (i<(v.list.length:Int)) <;>rfl
theorem xBe(hI:Keep I){sc:List Bnd}{n:Nat}{e:Exp}{y:Exp}{v:Val}(hs:Sok I (n+1) sc)(ht:e.text.length<=1048576)(he:e.args[1]? =some y)(ha:v.list.length<=1048576)(hk:KeepS I n (evG false y))(hx:E8 I n y)(hxs:∀x∈v.list,I x)(b6:Val):
 ∀(l:List Val) (i:Nat) (acc:List Val) (m:Mch),v.list.drop i=l->acc.length=i->i<=v.list.length->(∀v∈acc,I v)->m.over=false->Mok I c m->Big3 fun N d n=>Cw N (fS N d).c10 (fS N d).c11 (fS N d).c12 (fS N d).c13 n sc acc i m e b6 v=
  some (bif(A6 e.text (evG false y) l m sc).2.over then zV else BS (acc++(A6 e.text (evG false y) l m sc).1),(A6 e.text (evG false y) l m sc).2)
 | [],i,acc,m,hd,hi,hl,hv,ho,hm=>by
   have:i=v.list.length:=by grind [List.drop_eq_nil_iff]
   refine Big3.succ (((LV (K:=1048576) (by omega) (l:=acc) ⟨by omega,fun v h=>hI.fit (hv v h)⟩).two.three).imp fun N d n h=> ?_)
   grind [Cw,A6]
 |x::l,i,acc,m,hd,hi,hl,hv,ho,hm=>by
  have hxi:v.list[i]? =some x:=by grind [List.head?_drop]
  have hm' :=Zy hxi;have hlt:=(Zs.1 hxi).1;have hi' :(i:Int)<(v.list.length:Int):=by omega
  have h1:=(Zs.1 he).1;have hs' :=hs.snoc (t:=e.text) ht (hxs x hm');have hk' :=hk c m _ hm hs';have hb:=LU (K:=2000000) (s:=e.text) (v:=x) (Kf hI hs) (Val.fit_mono (by omega) (hI.fit (hxs x hm'))) (by omega)
  have st:∀N d n:Nat,Kl N sc e.text x=some (sc++ [⟨e.text,x⟩])->(fS N d).c12 m y (sc++ [⟨e.text,x⟩])=some (evG false y m (sc++ [⟨e.text,x⟩]))->
   Cw N (fS N d).c10 (fS N d).c11 (fS N d).c12 (fS N d).c13 (n+1) sc acc i m e b6 v=Cw N (fS N d).c10 (fS N d).c11 (fS N d).c12 (fS N d).c13 n sc (acc++ [(evG false y m (sc++ [⟨e.text,x⟩])).1]) ((i+1:Nat):Int) (evG false y m (sc++ [⟨e.text,x⟩])).2 e b6 v:=fun N d n h2 h3=>by
   grind [Cw,toNat,Val.re_eq,AM,K0]
  cases hov:(evG false y m (sc++ [⟨e.text,x⟩])).2.over
  ·refine Big3.succ (((hb.two.and (hx c m _ hm hs')).three.and (xBe hI hs ht he ha hk hx hxs b6 l (i+1) (acc++ [(evG false y m (sc++ [⟨e.text,x⟩])).1]) _ (by rw [<-ZC,hd];rfl) (by grind) hlt (by grind) hov hk'.2)).imp fun N d n ⟨⟨h2,h3⟩,h4⟩=> ?_)
   grind [A6]
  ·refine Big3.succ (Big3.succ ((hb.two.and (hx c m _ hm hs')).three.imp fun N d n ⟨h2,h3⟩=> ?_))
   grind [xKr,A6]
theorem xF0:Big fun N=>∀s,Kq N (.mk 5 0 s [])=some (DC s):=
 ⟨2,fun N hN s=>by
   obtain⟨k,rfl⟩:∃k,N=k+1:=⟨N - 1,by omega⟩
   grind [Ot,Kq,Nu,Qr,ek,et,Kr,ea]⟩
theorem xGv{N:Nat}{q0:Mch->List Exp->List Bnd->Option (List Val×Mch)}{q1 q2 q3:Mch->Exp->List Bnd->Option (Val×Mch)}{m:Mch}{e:Exp}{sc:List Bnd}{r:List Val×Mch}(h0:q0 m e.args sc=some r)
 (hl:r.2.over=false->(r.1.length:Int)=Ay e.text) (hc:DX N e.text r.1=some (BP e.text r.1).1) (he:∀x∈ [Rea.mk 1 0 0 [] zV,.mk 2 (r.1.getD 0 Dv).n 0 [] zV,.mk 3 0 0 (r.1.getD 0 Dv).text zV],EP N r.2 x=some (Bv r.2 x)) (hb:Kq N (.mk 5 0 e.text [])=some (DC e.text)):
 OH N q0 q1 q2 q3 m e sc=some (CM e.text r):=by
 simp only [Zh,Z6,or_false,forall_eq_or_imp,forall_eq] at he;obtain⟨e1,e2,e3⟩:=he;unfold OH CM;simp only [h0,jS,hb];cases ho:r.2.over
 ·cases hb:DC e.text
  ·grind
  ·obtain⟨l,m2⟩:=r;rcases SU hb (hl ho) with ⟨h1,h2⟩|⟨x,h2,h1⟩
   ·have h2:l=[]:=h2;subst h2;rw [h1];simp only [jF,jU];exact(Zl (fun z=>Option.bind z fun r3=>some (r3.1,r3.2)) e1)
   ·have h2:l=[x]:=h2;subst h2;rcases h1 with h1|h1 <;>rw [h1] <;>simp only [jF,jU]
    ·cases h6:x.kind==6
     ·cases h7:x.kind==1
      ·simp [h6,h7];rfl
      ·simp [h6,h7];exact(Zl (fun z=>Option.bind z fun r3=>some (r3.1,r3.2)) e2)
     grind
    ·cases h6:x.kind==6
     ·cases h7:x.kind==2
      ·simp [h6,h7];rfl
      ·simp [h6,h7];exact(Zl (fun z=>Option.bind z fun r3=>some (r3.1,r3.2)) e3)
     grind
 ·rfl
theorem xBX(hI:Keep I){a:List Exp}{n:Nat}{m:Mch}{sc:List Bnd}(ha:a.length<=1048576)(hk:∀x∈a,KeepS I n (evG false x))(hx:∀x∈a,E8 I n x)(hm:Mok I c m)(hs:Sok I n sc):
 Big2 fun N d=>(fS N d).c10 m a sc=some (A4 false (a.map (evG false)) m sc):=
 Big2.succ ((xBU hs ha hk hx a 0 [] m rfl (by simp) (by omega) hm).inner.imp fun N d h=>h)
theorem xGx(hI:Keep I){e:Exp}{n:Nat}{m:Mch}{sc:List Bnd}(ha:e.args.length<=1048576)(hk:∀x∈e.args,KeepS I n (evG false x))(hx:∀x∈e.args,E8 I n x)(hm:Mok I c m)(hs:Sok I n sc)(hl:(e.args.length:Int)=Ay e.text):
 Big2 fun N d=>(fS N d).c11 m e sc=some (CM e.text (A4 false (e.args.map (evG false)) m sc)):=by
 obtain⟨q1,q2,q3,q4⟩:=Ic (g:=false) (fs:=e.args.map (evG false)) (fun f hf=>by grind) hm hs;rw [Zm] at q3 q4;refine Big2.succ (((((xBX hI ha hk hx hm hs).and (SK (s:=e.text) (l:=(A4 false (e.args.map (evG false)) m sc).1) ⟨by omega,fun v hv=>hI.fit (q1 v hv)⟩).two).and (Big.list (l:=[Rea.mk 1 0 0 [] zV,.mk 2 ((A4 false (e.args.map (evG false)) m sc).1.getD 0 Dv).n 0 [] zV,.mk 3 0 0 ((A4 false (e.args.map (evG false)) m sc).1.getD 0 Dv).text zV]) fun x _=>ST hI q2 x).two).and xF0.two).imp fun N d ⟨⟨⟨h1,h2⟩,h3⟩,h4⟩=> ?_);exact xGv (q1:=(fS N d).c11) (q2:=(fS N d).c12) (q3:=(fS N d).c13) h1 (fun ho=>by grind) h2.2 (fun x hx=>(h3 x hx).2) (h4 _)
theorem xKt(hI:Keep I){k j:Int}{t:Str}{x y:Exp}{n:Nat}{m:Mch}{sc:List Bnd}(ht:t.length<=1048576)(hkx:KeepS I n (evG false x))(hky:KeepS I n (evG false y))(hsx:E8 I n x)(hsy:E8 I n y)(hm:Mok I c m)(hs:Sok I (n+1) sc):
 Big2 fun N d=>(fS N d).c13 m (.mk 9 j t [x,y]) sc=some (Aq false 9 j t [evG false x,evG false y] m sc):=by
 have hs0:Sok I n sc:=hs.le (by omega);have h0:=hkx c m sc hm hs0;have hv:=(Val.fit_iff.1 (hI.fit h0.1)).2.2.2.2.1.1
 have key:∀N d:Nat,(fS N d).c12 m x sc=some (evG false x m sc)->
  (∀ho:(evG false x m sc).2.over=false,Cw N (fS N d).c10 (fS N d).c11 (fS N d).c12 (fS N d).c13 N sc [] 0 (evG false x m sc).2 (.mk 9 j t [x,y]) zV (evG false x m sc).1=
    some (bif(A6 t (evG false y) (evG false x m sc).1.list (evG false x m sc).2 sc).2.over then zV else BS (A6 t (evG false y) (evG false x m sc).1.list (evG false x m sc).2 sc).1,(A6 t (evG false y) (evG false x m sc).1.list (evG false x m sc).2 sc).2))->
  OI N (fS N d).c10 (fS N d).c11 (fS N d).c12 (fS N d).c13 m (.mk 9 j t [x,y]) sc=some (Aq false 9 j t [evG false x,evG false y] m sc):=fun N d h1 h2=>by
  unfold OI;rw [Zt (by simp [ea]),show(Exp.mk 9 j t [x,y]).args.getD (toNat 0) Dx=x from rfl,h1];show _=some (CU (evG false x m sc) (bif(evG false x m sc).1.kind != 3 then(AO 4,(evG false x m sc).2) else(bif(A6 t (evG false y) (evG false x m sc).1.list (evG false x m sc).2 sc).2.over then zV else BS (A6 t (evG false y) (evG false x m sc).1.list (evG false x m sc).2 sc).1,(A6 t (evG false y) (evG false x m sc).1.list (evG false x m sc).2 sc).2)));simp only [jS,CU];cases ho:(evG false x m sc).2.over
  ·cases h6:(evG false x m sc).1.kind==6
   ·cases h3:(evG false x m sc).1.kind != 3
    ·exact h2 ho
    ·rfl
   ·rfl
  ·rfl
 cases ho:(evG false x m sc).2.over
 ·exact Big2.succ (((hsx c m sc hm hs0).and (xBe hI (e:= .mk 9 j t [x,y]) hs ht rfl hv hky hsy (fun z hz=>hI.el h0.1 hz) zV _ 0 [] _ rfl rfl (by omega) (by simp) ho h0.2).inner).imp fun N d ⟨h1,h2⟩=>key N d h1 fun _=>h2)
 ·exact Big2.succ ((hsx c m sc hm hs0).imp fun N d h1=>key N d h1 fun h=>absurd (ho.symm.trans h) (by simp))
theorem xLK(hI:Keep I):∀e:Exp,e.Fit 1048576->okE e=true->E8 I (e.nest+1) e:=by
 refine Exp.ind fun k n t a ih h hok c m sc hm hs=> ?_;obtain⟨h1,h2,h3,h4⟩:=Exp.fit_iff.1 h;rw [QZ,Zu] at hok;rw [Exp.nest_eq] at hs;have hs:Sok I (Exp.nests a+1+1) sc:=hs;have hs0:Sok I (Exp.nests a+1) sc:=hs.le (by omega);have hk:∀x∈a,KeepS I (Exp.nests a+1) (evG false x):=fun x hx=>(L4 hI false x (h4.2 x hx)).le (by have:=GL hx;omega);have hx:∀x∈a,E8 I (Exp.nests a+1) x:=fun x hx c m sc hm hs=>ih x hx (h4.2 x hx) (Zx.1 hok.1 x hx) c m sc hm (hs.le (by have:=GL hx;omega));have ht:t.length<=1048576:=h3;rw [Fa];refine Big2.succ ?_;show Big2 fun N d=>Bf N (fS N d).c10 (fS N d).c11 (fS N d).c12 (fS N d).c13 m (.mk k n t a) sc=some (CB false k n t (a.map (evG false)) m sc);cases hov:m.over
 ·cases h200:m.steps==200
  ·have hm1:=hm.tick hov (by grind);have e1:∀N q0 q1 q2 q3,Bf N q0 q1 q2 q3 m (.mk k n t a) sc=Bf N q0 q1 q2 q3 (.mk m.tape m.w m.cell m.version m.reads m.steps false) (.mk k n t a) sc:=fun _ _ _ _ _=>by rw [<-hov]
   have e2:m.tick= .mk m.tape m.w m.cell m.version m.reads (IntKind.i64.wrap (m.steps+1)) false:=by rw [<-hov];rfl
   have e3:CB false k n t (a.map (evG false)) m sc=Aq false k n t (a.map (evG false)) m.tick sc:=by grind [CB]
   simp only [e1,e3];have hall:=xBX (a:=a) hI h4.1 hk hx hm1 hs0;obtain⟨q1,q2,q3,q4⟩:=Ic (g:=false) (fs:=a.map (evG false)) (fun f hf=>by grind) hm1 hs0;rw [Zm] at q3 q4;have hal:a.length<=1048576:=h4.1;rcases xBl hok.2 with rfl|rfl|rfl|rfl|⟨rfl,hl⟩|⟨rfl,hl⟩|⟨rfl,hl⟩|⟨rfl,hl⟩|⟨rfl,hl⟩
   ·exact Big2.of fun N d=>by simp [Bf,h200,Aq,As,e2,ek,en];rfl
   ·grind [Big2.of,Bf,Aq,Kz,ek,et]
   ·exact(xCg (s:=t) (Kf hI hs) (by omega)).two.imp fun N d h=>by grind [Bf,Aq,ek,et]
   ·rw [e2] at hall q1 q2 q3;exact(hall.and (LV (K:=1048576) (by omega) (l:=(A4 false (a.map (evG false)) _ sc).1) ⟨by omega,fun v hv=>hI.fit (q1 v hv)⟩).two).imp fun N d ⟨h1,h2⟩=>by
     simp [Bf,h200,Aq,h1,e2,ek,ea];cases (A4 false (a.map (evG false)) _ sc).2.over
     ·grind
     ·rfl
   ·have:=xGx hI (e:= .mk 5 n t a) hal hk hx hm1 hs0 hl;rw [e2] at this;exact this.imp fun N d h1=>by grind [Bf,Aq,ek,ea,et]
   ·rw [e2] at hall q1 q2 q3 q4;cases ho:(A4 false (a.map (evG false)) (.mk m.tape m.w m.cell m.version m.reads (IntKind.i64.wrap (m.steps+1)) false) sc).2.over
    ·obtain⟨x,y,e⟩:=I1 (l:=(A4 false (a.map (evG false)) (.mk m.tape m.w m.cell m.version m.reads (IntKind.i64.wrap (m.steps+1)) false) sc).1) ((q4 (.inr ho)).trans hl);exact(hall.and (Rf (op:=n) (hI.fit (q1 x (by grind))) (hI.fit (q1 y (by grind)))).two).imp fun N d ⟨h1,h2⟩=>by grind [Bf,Aq,ek,ea,en]
    ·exact hall.imp fun N d h1=>by simp [Bf,h200,Aq,h1,e2,ek,ea,en,ho];rfl
   ·obtain⟨x,y,rfl⟩:=I1 hl;have k0:=hk x (by simp) _ _ _ hm1 hs0;have hb:=LU (K:=2000000) (xs:=sc) (s:=t) (v:=(evG false x m.tick sc).1) (Kf hI hs) (Val.fit_mono (by omega) (hI.fit k0.1)) (by omega);have b0:=hx x (by simp) _ _ _ hm1 hs0;have b1:=hx y (by simp) _ _ _ k0.2 (hs.snoc (t:=t) ht k0.1);rw [e2] at b0 b1 hb;refine(hb.two.and (b0.and b1)).imp fun N d ⟨h1,h2,h3⟩=> ?_;simp [Bf,h200,Aq,h1,h2,h3,e2,ek,ea,et];cases ho:(evG false x _ sc).2.over
    ·rfl
    ·obtain⟨k,n',t',l⟩:=y;rw [Fa,CB,ho,jT,Mch.halt_of ho];rfl
   ·obtain⟨x,y,z,rfl⟩:=xBi hl;have k0:=hk x (by simp) _ _ _ hm1 hs0;have b0:=hx x (by simp) _ _ _ hm1 hs0;have b1:=hx y (by simp) _ _ _ k0.2 hs0;have b2:=hx z (by simp) _ _ _ k0.2 hs0;rw [e2] at b0 b1 b2;refine(b0.and (b1.and b2)).imp fun N d ⟨h1,h2,h3⟩=> ?_;simp [Bf,h200,Aq,h1,h2,h3,e2,ek,ea,CU,Qt]
    grind
   ·obtain⟨x,y,rfl⟩:=I1 hl;have:=xKt hI (k:=9) (j:=n) ht (hk x (by simp)) (hk y (by simp)) (hx x (by simp)) (hx y (by simp)) hm1 hs;rw [e2] at this;exact this.imp fun N d h1=>by grind [Bf,ek]
  ·exact Big2.of fun N d=>by simp [Bf,CB,hov,h200];exact⟨rfl,rfl⟩
 ·exact Big2.of fun N d=>by simp [Bf,CB,hov];exact⟨rfl,rfl⟩
end Go.Ab
end
section
namespace Go.Ab
variable {I:Val->Prop} {c:Nat}
theorem SZ(g:Bool){m:Mch}(h:m.over=true)(e:Exp)(sc:List Bnd):evG g e m sc=(zV,m):=by
 obtain⟨k,n,t,l⟩:=e;rw [Fa,CB,h,jT,Mch.halt_of h]
theorem Qe{m:Mch}(h:m.over=true)(g:Bool)(sc:List Bnd):∀l:List Exp,(A4 g (l.map (evG g)) m sc).2=m
 | []=>rfl
 |x::l=>by
  have:=Qe h g sc l
  grind [A4,SZ]
def Ag{α:Type}(p q:α×Mch):Prop:=p.2=q.2/\(q.2.over=false->p.1=q.1)
theorem Ag.rfl{α:Type}{p:α×Mch}:Ag p p:=⟨_root_.rfl,fun _=>_root_.rfl⟩
theorem xBV:∀ {l:List Exp} {m:Mch} {sc:List Bnd},(∀x∈l,∀m sc,Ag (evG true x m sc) (evG false x m sc))->Ag (A4 true (l.map (evG true)) m sc) (A4 false (l.map (evG false)) m sc)
 | [],m,sc,_=> .rfl
 |x::l,m,sc,h=>by
  have h1:=h x (by simp) m sc;have h2:=xBV (l:=l) (m:=(evG false x m sc).2) (sc:=sc) fun y hy=>h y (by grind);cases ho:m.over
  ·simp only [ZX,A4,ho,jU,ZY,jF,jV,ZV,h1.1];refine⟨h2.1,fun hf=> ?_⟩;cases hx:(evG false x m sc).2.over
   ·rw [h1.2 hx,h2.2 hf]
   grind [Qe]
  grind [Ag,Qe]
theorem U0{t:Str}{f f' :Sem}{sc:List Bnd}(h:∀m sc,Ag (f m sc) (f' m sc)):∀(xs:List Val) (m:Mch),A6 t f xs m sc=A6 t f' xs m sc\/((A6 t f xs m sc).2=(A6 t f' xs m sc).2/\(A6 t f' xs m sc).2.over=true)
 | [],m=> .inl _root_.rfl
 |x::xs,m=>by
  have h1:=h m (sc++ [⟨t,x⟩]);have h2:=U0 (t:=t) (sc:=sc) h xs (f' m (sc++ [⟨t,x⟩])).2;simp only [A6,h1.1];cases ho:(f' m (sc++ [⟨t,x⟩])).2.over
  ·have:=h1.2 ho
   grind
  grind
theorem xBf{p q k k' :Val×Mch}(h:Ag p q)(hk:q.2.over=false->Ag k k'):Ag (CU p k) (CU q k'):=by
 obtain⟨v,m⟩:=p;obtain⟨v',m'⟩:=q;obtain⟨h1,h2⟩:=h;simp only at h1 h2;subst h1;simp only [CU];cases ho:m.over
 ·have:=h2 ho;subst this;cases v.kind==6
  ·grind
  ·exact .rfl
 ·exact⟨_root_.rfl,fun hf=>absurd (ho.symm.trans hf) (by simp)⟩
theorem xFG{t:Str}{p q:List Val×Mch}(h:Ag p q):Ag (CM t p) (CM t q):=by
 obtain⟨v,m⟩:=p;obtain⟨v',m'⟩:=q;obtain⟨h1,h2⟩:=h;simp only at h1 h2;subst h1;cases ho:m.over
 ·have:=h2 ho;subst this;exact .rfl
 ·simp only [CM,ho];exact .rfl
theorem Cf{α:Type}{b:Bool}{p q p' q' :α×Mch}(h:Ag p q)(h' :Ag p' q'):Ag (bif b then p else p') (bif b then q else q'):=by
 grind
theorem U3{p q:List Val×Mch}{f g:List Val->Bool->Val}(h:Ag p q)(hf:∀l,f l true=g l true\/True)(h2:∀l,f l false=g l false):Ag (f p.1 p.2.over,p.2) (g q.1 q.2.over,q.2):=by
 obtain⟨h1,h3⟩:=h;refine⟨h1,fun ho=> ?_⟩
 grind
theorem xGn:∀(e:Exp) (m:Mch) (sc:List Bnd),Ag (evG true e m sc) (evG false e m sc):=by
 refine Exp.ind fun k n t a ih m sc=> ?_;rw [Fa,Fa];have hs:=xBV (sc:=sc) (m:=m.tick) ih;have hd:∀i m sc,Ag ((a.map (evG true)).getD i Aa m sc) ((a.map (evG false)).getD i Aa m sc):=fun i m sc=>by
  rw [Z4,Z4,Ze,Ze];cases h:a[i]? with
  |none=>exact .rfl
  |some x=>exact ih x (Zy h) m sc
 have ov:∀g m sc,m.over=true->(a.map (evG g)).getD 1 Aa m sc=(zV,m):=fun g m sc ho=>by
  rw [Z4,Ze];cases h:a[1]? with
  |none=>rfl
  |some x=>exact SZ g ho x sc
 have h0:=hd 0 m.tick sc;have h1:=fun m sc=>hd 1 m sc;have h2:=fun m sc=>hd 2 m sc;refine Cf .rfl (Cf .rfl ?_);generalize m.tick=m1 at*;unfold Aq;generalize A4 true (a.map (evG true)) m1 sc=p at*;generalize A4 false (a.map (evG false)) m1 sc=q at*;have o1:=ov true;have o2:=ov false;generalize (a.map (evG true)).getD 0 Aa m1 sc=p0 at*;generalize (a.map (evG false)).getD 0 Aa m1 sc=q0 at*;generalize (a.map (evG true)).getD 1 Aa=f1 at*;generalize (a.map (evG false)).getD 1 Aa=g1 at*;generalize (a.map (evG true)).getD 2 Aa=f2 at*;generalize (a.map (evG false)).getD 2 Aa=g2 at*
 refine Cf .rfl (Cf .rfl (Cf .rfl (Cf (U3 (f:=fun l o=>bif !true&&o then zV else BS l) (g:=fun l o=>bif !false&&o then zV else BS l) hs (fun _=> .inr trivial) fun _=>rfl) (Cf (xFG hs)
  (Cf (U3 (f:=fun l o=>bif !true&&o then zV else(Bh n (l.getD 0 Dv) (l.getD 1 Dv)).1) (g:=fun l o=>bif !false&&o then zV else(Bh n (l.getD 0 Dv) (l.getD 1 Dv)).1) hs (fun _=> .inr trivial) fun _=>rfl) (Cf ?_ (Cf ?_ ?_)))))))
 ·rw [h0.1];cases ho:q0.2.over
  ·rw [h0.2 ho];grind
  grind
 ·refine xBf h0 fun ho=> ?_;rw [h0.1,h0.2 ho]
  grind
 ·refine xBf h0 fun ho=> ?_;rw [h0.1,h0.2 ho];refine Cf .rfl ?_;rcases U0 (t:=t) (sc:=sc) h1 q0.1.list q0.2 with h|h
  ·rw [h];exact .rfl
  ·rw [h.1,h.2];exact .rfl
def Cq(e:Exp)(sc:List Bnd)(tape:List Rea)(w:Wld)(ce ve:Int):Outc:=
 bif HB e then
  let r:=evG false e (.mk tape w ce ve [] 0 false) sc
  .mk (bif r.2.over then AO 6 else r.1) r.2.reads r.2.steps
 else .mk (AO 4) [] 0
theorem xCO{tape:List Rea}{w:Wld}{ce ve:Int}(h1:tape.length<=1048576)(h2:∀x∈tape,I x.result)(h3:w.files.length<=1048576):Mok I 0 (.mk tape w ce ve [] 0 false):=
 ⟨h1,h2,h3,by simp,by simp,by simp,by simp,by simp⟩
theorem xBw(hI:Keep I){e:Exp}(he:e.Fit 1048576){sc:List Bnd}(hsc:Sok I (e.nest+1) sc){tape:List Rea}{w:Wld}{ce ve:Int}(h1:tape.length<=1048576)(h2:∀x∈tape,I x.result)(h3:w.files.length<=1048576):
 I (Cq e sc tape w ce ve).value/\(∀x∈(Cq e sc tape w ce ve).reads,I x.result/\x.Fit 1048576)/\(Cq e sc tape w ce ve).reads.length<=200/\I64 (Cq e sc tape w ce ve).steps:=by
 have e6:=hI.err (c:=6) (by omega) (by omega);have e4:=hI.err (c:=4) (by omega) (by omega);obtain⟨k1,k2⟩:=L4 hI false e he 0 _ sc (xCO (ce:=ce) (ve:=ve) h1 h2 h3) hsc;have:=k2.rd;have:=k2.hi;have:=k2.lo;unfold Cq;cases HB e
 ·exact⟨e4,by simp,by simp,⟨by simp,by simp⟩⟩
 ·refine⟨?_,k2.rdI,by grind,⟨by grind,by grind⟩⟩
  grind
theorem xGo(hI:Keep I){e:Exp}(he:e.Fit 1048576)(hz:e.size<=1048576){sc:List Bnd}(hsc:Sok I (e.nest+1) sc){tape:List Rea}{w:Wld}{ce ve:Int}(h1:tape.length<=1048576)(h2:∀x∈tape,I x.result)(h3:w.files.length<=1048576):
 Big fun N=>HT N e sc tape w ce ve=some (Cq e sc tape w ce ve)/\Ko N e sc tape w ce ve=some (Cq e sc tape w ce ve):=by
 have hm:=xCO (ce:=ce) (ve:=ve) h1 h2 h3;have hv:=xOF (K:=1048576) (by omega) he hz;obtain⟨o1,o2,o3,o4⟩:=xBw (ce:=ce) (ve:=ve) hI he hsc h1 h2 h3;cases hva:HB e
 ·exact hv.imp fun N ⟨h1,h2⟩=>by grind [HT,Ko,Cq,AJ,AL,AO]
 ·have hok:okE e=true:=by grind [HB]
  obtain⟨a1,a2⟩:=xGn e (.mk tape w ce ve [] 0 false) sc;have k2:=(L4 hI false e he 0 _ sc hm hsc).2;have eo:Cq e sc tape w ce ve= .mk (bif(evG false e (.mk tape w ce ve [] 0 false) sc).2.over then AO 6 else(evG false e (.mk tape w ce ve [] 0 false) sc).1) (evG false e (.mk tape w ce ve [] 0 false) sc).2.reads (evG false e (.mk tape w ce ve [] 0 false) sc).2.steps:=by grind [Cq]
  rw [eo] at o1 o2 o3 ⊢;refine(((hv.and ((xLJ hI e he hok 0 _ sc hm hsc).diag.and (xLK hI e he hok 0 _ sc hm hsc).diag)).and ((Ek (hI.fit o1) (by omega)).and (Cv (hI.fit o1) (by omega)))).and ((Big.list fun x hx=>Cv (hI.fit (o2 x hx).1) (by omega)).and (A2 300))).imp fun N ⟨⟨⟨⟨v1,v2⟩,s1,s2⟩,c1,c2⟩,c3,hN⟩=> ?_;have s1:PX N (.mk tape w ce ve [] 0 false) e sc=_:=s1;have s2:RF N (.mk tape w ce ve [] 0 false) e sc=_:=s2;have o3:(evG false e (.mk tape w ce ve [] 0 false) sc).2.reads.length<=200:=o3;have hr:=xMG (N:=N) (xs:=(evG false e (.mk tape w ce ve [] 0 false) sc).2.reads) c3 (by omega) (by omega);have hst:=k2.ov;refine⟨?_,?_⟩
  ·simp only [HT,Lq,v1,hva,jS,jU,jF,s1,a1];cases ho:(evG false e (.mk tape w ce ve [] 0 false) sc).2.over
   ·grind
   ·rw [ho] at c1;exact(Zl (fun z=>Option.bind z fun r4=>some (Outc.mk r4 _ _)) c1)
  ·simp only [Ko,Qo,v2,hva,jS,jU,jF,s2,hr];cases ho:(evG false e (.mk tape w ce ve [] 0 false) sc).2.over
   ·grind
   ·rw [hst ho];rfl
end Go.Ab
end
section
namespace Go.Ab
def On:∀(l:List Val) (m:Int),m<=Ao l m/\∀x∈l,x.dep<=Ao l m
 | [],m=>by simp [Ao]
 |x::l,m=>by
  have:=On l (if x.dep>m then x.dep else m)
  grind [Ao]
def xFV(v:Val):1<=v.dep:=by
 have:=(On v.list 0).1
 grind [DB]
def FR{α:Type}{f:α->Nat}{b:Nat}:∀ {l:List α},(∀x∈l,f x<=b)->(l.map f).sum<=l.length*b
 | [],_=>by simp
 |x::l,h=>by
  have h1:=h x (by simp);have h2:=FR (l:=l) fun y hy=>h y (by grind)
  grind [Nat.succ_mul]
theorem J0{v:Val}(h:AP v=true):I64 v.kind/\I64 v.n/\I64 v.step/\v.text.length<=20/\
 ((v.list=[]/\v.columns=[]/\v.rows=[])\/(v.kind=5/\v.list=[]/\Ar v.columns v.rows=true)\/(v.columns=[]/\v.rows=[]/\v.list.length<=8/\∀x∈v.list,BJ x=true/\AP x=true)):=by
 rw [BH] at h;by_cases h1:v.kind=1
 ·simp [h1,AZ] at h;exact⟨⟨by omega,by omega⟩,⟨by omega,by omega⟩,⟨by omega,by omega⟩,by grind,.inl ⟨BU h.1,BU h.2.1,BU h.2.2.1⟩⟩
 by_cases h2:v.kind=2
 ·simp [h2,EY] at h;exact⟨⟨by omega,by omega⟩,⟨by omega,by omega⟩,⟨by omega,by omega⟩,by omega,.inl ⟨BU h.1,BU h.2.1,BU h.2.2.1⟩⟩
 by_cases h4:v.kind=4
 ·simp [h4,AZ] at h;exact⟨⟨by omega,by omega⟩,⟨by omega,by omega⟩,⟨by omega,by omega⟩,by grind,.inl ⟨BU h.1,BU h.2.1,BU h.2.2.1⟩⟩
 by_cases h6:v.kind=6
 ·simp [h6] at h;exact⟨⟨by omega,by omega⟩,⟨by omega,by omega⟩,⟨by omega,by omega⟩,by grind,.inl ⟨BU h.1,BU h.2.1,BU h.2.2.1⟩⟩
 by_cases h5:v.kind=5
 ·simp [h5] at h;exact⟨⟨by omega,by omega⟩,⟨by omega,by omega⟩,⟨by omega,by omega⟩,by grind,.inr (.inl ⟨h5,BU h.1,h.2.2.2.2⟩)⟩
 by_cases h3:v.kind=3
 ·simp [h3,FU] at h;refine⟨⟨by omega,by omega⟩,⟨by omega,by omega⟩,⟨by omega,by omega⟩,by grind,.inr (.inr ⟨BU (by grind),BU (by grind),by grind,fun x hx=> ?_⟩)⟩
  grind
 grind
def xC5:∀v:Val,AP v=true->v.kind≠5->(v.dep<=1->v.size<=28)/\(v.dep<=2->v.size<=252)/\(v.dep<=3->v.size<=2044):=by
 refine Val.ind fun k n s t l c r ih h h5=> ?_;obtain⟨_,_,_,ht,hc⟩:=J0 h;have ht:t.length<=20:=ht;rw [Val.size_eq,DB];have hd:=(On l 0).2;rcases hc with ⟨e1,e2,e3⟩|⟨e,_⟩|⟨e1,e2,e3,e4⟩
 ·grind
 ·grind
 ·have e1:c=[]:=e1;have e2:r=[]:=e2;subst e1 e2;have e3:l.length<=8:=e3;have e4:∀x∈l,BJ x=true/\AP x=true:=e4;have hk:∀x∈l,x.kind≠5:=fun x hx h=>by grind [BJ]
  simp only [vt,vl,vc,vr,jN,ZB,List.sum_nil];refine⟨fun h=> ?_,fun h=> ?_,fun h=> ?_⟩
  ·have:(l.map Val.size).sum<=l.length*0:=FR fun x hx=>by have:=hd x hx;have:=xFV x;omega
   omega
  ·have:(l.map Val.size).sum<=l.length*28:=FR fun x hx=>(ih x hx (e4 x hx).2 (hk x hx)).1 (by grind);omega
  ·have:(l.map Val.size).sum<=l.length*252:=FR fun x hx=>(ih x hx (e4 x hx).2 (hk x hx)).2.1 (by grind);omega
def xLP{l:List Org}(h:SO l):l.Nodup:=h.imp fun hab e=>by grind [Q1]
def InW(W:List Org)(o:Org):Prop:=o∈W/\Org.Fit o
def xOI{W:List Org}(hW:W.length<=1048576):∀v:Val,AP v=true->(∀r∈v.rows,∀o∈r.frm,InW W o)->v.Fit 1048576/\OIn (InW W) v/\v.size<=16777216:=by
 refine Val.ind fun k n s t l c r ih h ho=> ?_;have ho:∀x∈r,∀o∈x.frm,InW W o:=ho;obtain⟨h1,h2,h3,h4,hc⟩:=J0 h;have h4:t.length<=20:=h4;by_cases h5:k=5
 ·subst h5;have tt:=Gz h rfl;have hl:l=[]:=by
   rcases hc with ⟨e,_⟩|⟨_,e,_⟩|⟨e1,_⟩
   ·exact e
   ·exact e
   grind [Ce]
  subst hl;have tt:Ar c r=true:=tt;obtain⟨⟨⟨c1,c2,c3⟩,c4⟩,r1,r2⟩:=Ce.1 tt;have hn:∀x∈c,x.length<=8:=fun x hx=>by
   grind [CY]
  have hr:∀x∈r,x.frm.length<=1048576/\x.cells.length<=4:=fun x hx=>⟨by
   have:=QV (xLP (Rh (r2 x hx).2.2)) fun o h=>(ho x hx o h).1;omega,by grind⟩
  refine⟨Val.fit_iff.2 ⟨h1,h2,h3,by show t.length<=_;omega,⟨by grind,by simp [vl]⟩,⟨by show c.length<=_;omega,fun x hx=>by show x.length<=_;have:=hn x hx;omega⟩,⟨by show r.length<=_;omega,fun x hx=>⟨⟨by have:=(hr x hx).2;omega,fun z hz=> ?_⟩,(hr x hx).1,fun o h=>(ho x hx o h).2⟩⟩⟩,.mk (by simp [vl]) ho,?_⟩
  ·have:=(r2 x hx).2.1 z hz;simp only [AZ,Zu,ZU] at this;exact⟨by omega,by omega⟩
  ·rw [Val.size_eq];simp only [vt,vl,vc,vr,jN,ZB,List.sum_nil];have s1:(c.map length).sum<=c.length*8:=FR hn;have s2:(r.map Rowd.size).sum<=r.length*1048580:=FR fun x hx=>by grind [Rowd.size]
   omega
 ·have hs:=xC5 _ h h5;have hd:=R0 _ h;have hs:=hs.2.2 hd;have hcr:c=[]/\r=[]/\l.length<=8/\∀x∈l,BJ x=true/\AP x=true:=by
   rcases hc with ⟨e1,e2,e3⟩|⟨e,_⟩|e
   ·have e1:l=[]:=e1;subst e1;exact⟨e2,e3,by simp,by simp⟩
   ·exact absurd e h5
   ·exact e
  obtain⟨rfl,rfl,h8,hx⟩:=hcr;have hrow:∀x∈l,x.rows=[]:=fun x hm=>by
   grind [J0,BJ]
  have hi:=fun x hm=>ih x hm (hx x hm).2 (by grind);exact⟨Val.fit_iff.2 ⟨h1,h2,h3,by show t.length<=_;omega,⟨by grind,fun x hm=>(hi x hm).1⟩,⟨by simp [vc],by simp [vc]⟩,⟨by simp [vr],by simp [vr]⟩⟩,.mk (fun x hm=>(hi x hm).2.1) ho,by omega⟩
end Go.Ab
end
section
namespace Go.Ab
variable {P:Org->Prop}
def RIn(P:Org->Prop)(v:Val):Prop:=∀r∈v.rows,∀o∈r.frm,P o
theorem Bq{v:Val}(h:v.rows=[]):RIn P v:=fun r hr=>by grind
theorem Ak{b:Bool}{x y:Val}(h1:RIn P x)(h2:RIn P y):RIn P (bif b then x else y):=by grind
theorem Af{b:Bool}{x y:Val×Bool}(h1:RIn P x.1)(h2:RIn P y.1):RIn P (bif b then x else y).1:=by grind
theorem N8(l:List Val):RIn P (opG l).1:=Bq Eu.2.2.1
theorem EA(ks:List Int)(l:List Val):RIn P (AW ks l).1:=by
 unfold AW;cases (opG l).2.1
 ·cases kb l ks <;>exact Bq rfl
 grind [N8]
theorem Qb(n v:Val):RIn P (Ai n v).1:=by
 unfold Ai;cases (opG [n,v]).2.1
 ·exact Bq rfl
 grind [N8]
theorem xFK(n:Int):RIn P (CO n):=by unfold CO;exact Ak (Bq rfl) (Bq rfl)
theorem xCR:∀(l:List Val) (n:Int),RIn P (Bs l n)
 | [],n=>Bq rfl
 |x::l,n=>by
  unfold Bs;exact Ak (Bq rfl) (Ak (Bq rfl) (xCR l _))
theorem QX{n v:Val}(h:OIn P v):RIn P (Au n v):=by
 refine Ak (Bq rfl) (Ak ?_ (xFK _));rw [Z4];cases hx:v.list[n.n.toNat]? with
 |none=>exact Bq rfl
 |some x=>exact(h.el (Zy hx)).row
theorem xCX{v:Val}(h:OIn P v):∀(m:Nat) (i:Int) (acc:List Val),RIn P (Cz v m i acc)
 |0,i,acc=>Bq rfl
 |m+1,i,acc=>Ak (QX h) (xCX h m _ _)
theorem xIS{i k:Nat}{ts:List Rowd}(h2:∀r∈ts,∀o∈r.frm,P o):∀ {rs:List Rowd},(∀r∈rs,∀o∈r.frm,P o)->∀r∈jrs i k ts rs,∀o∈r.frm,P o:=by
 have hj:∀ {r:Rowd} {l:List Rowd},(∀o∈r.frm,P o)->(∀r∈l,∀o∈r.frm,P o)->∀x∈jr i k r l,∀o∈x.frm,P o:=by
  intro r l h1 h2
  induction l with
  |nil=>simp [jr]
  |cons t l ih=>
   have:=ih fun r hr=>h2 r (by grind);have ht:=h2 t (by simp);simp only [jr];cases r.cells.getD i Di==t.cells.getD k Di
   ·grind
   ·intro x hx;rcases Zh.1 hx with rfl|hx
    ·intro o ho;rcases N6.1 ho with h|h
     all_goals grind
    grind
 intro rs h1
 induction rs with
 |nil=>simp [jrs]
 |cons r rs ih=>
  intro x hx;rcases Zf.1 hx with h|h
  all_goals grind
theorem xFE{s:Str}{l:List Val}(h:∀x∈l,OIn P x):RIn P (BP s l).1:=by
 have hg:∀i,OIn P (l.getD i Dv):=fun i=>by
  rw [Z4];cases hx:l[i]? with
  |none=>exact .mk (by intro x hx;cases hx) (by intro x hx;cases hx)
  |some x=>grind
 have e:∀c:Int,RIn P (AO c):=fun c=>Bq rfl;have m:∀ {k n s:Int} {t:Str} {q:List Val} {c:List Str},RIn P (.mk k n s t q c []):=Bq rfl;unfold BP cas;refine Af (e 4) ?_
 refine Af (Af (N8 _) (Ak (Bq rfl) (Ak (Bq rfl) (e _)))) (Af (Af (N8 _) (Af (e _) (xCR _ _))) (Af (Af (EA _ _) (Bq rfl)) (Af (Af (Qb _ _) ?_) (Af (Af (Qb _ _) ?_) (Af (Af (Qb _ _) (QX (hg _)))
  (Af (Af (EA _ _) ?_) (Af (Af (EA _ _) (Af (e _) (Af (e _) m))) (Af (Af (EA _ _) ?_) (Af (Af (EA _ _) (Af (e _) ?_)) (Af (Af (EA _ _) ?_) (Af (Af (EA _ _) ?_) (Af (Af (EA _ _) ?_) (Af (Af (EA _ _) m) (e 4))))))))))))))
 ·exact Ak (e _) (Ak m (xCX (hg 1) _ _ _))
 ·exact Ak (e _) (Ak m (Ak (QX (hg 1)) m))
 ·refine Ak ?_ (e _);intro r hr;simp only [vr] at hr;obtain⟨q,hq,rfl⟩:=Zk.1 hr;exact(hg 1).row q hq
 ·refine Ak (e _) (Ak ?_ (e _));intro r hr o ho;simp only [vr,jM] at hr;obtain⟨q,hq,rfl⟩:=Zk.1 hr;cases ho
 ·exact fun r hr=>(hg 2).row r (Ym.1 hr).1
 ·unfold Cg;refine Ak (e _) (Ak (e _) (Ak (e _) ?_));split
  ·intro r hr o ho;simp only [vr,vG] at hr;obtain⟨x,hx,rfl⟩:=Zk.1 hr;obtain⟨q,hq,_,h⟩:=xBK _ ho;exact(hg 2).row q hq o h
  grind
 ·unfold Dy Dw;exact Ak (e _) (Ak (e _) (Ak (e _) (Ak (e _) (Ak (e _) (xIS (hg 2).row (hg 1).row)))))
 ·refine Ak (e _) (Ak (e _) (Ak (e _) (Ak (e _) (Ak (e _) ?_))));unfold J7;refine Ak ?_ (e _);intro r hr;simp only [vr] at hr;obtain⟨q,hq,rfl⟩:=Zk.1 hr;exact(hg 3).row q hq
def VIn(Z:Nat)(W:List Org)(v:Val):Prop:=v.Fit 1048576/\OIn (InW W) v/\v.size<=Z
theorem Du{Z:Nat}{W:List Org}{v:Val}(h:Flat v):VIn Z W v:=by
 obtain⟨h1,h2,h3,h4,_⟩:=id h;refine⟨h.fit _,.mk (by grind) (by grind),?_⟩
 grind [Val.size_eq]
theorem xAB{Z:Nat}(hZ:16777216<=Z){W:List Org}{l:List Val}(h8:l.length<=16)(h:∀x∈l,VIn Z W x)(hv:∀x∈l,AP x=true/\x.kind≠5):VIn Z W (.mk 3 0 0 [] l [] []):=by
 refine⟨Val.fit_iff.2 ⟨⟨by simp [vk],by simp [vk]⟩,⟨by simp [vn],by simp [vn]⟩,⟨by simp [vs],by simp [vs]⟩,Zg _,⟨by show l.length<=_;omega,fun x hx=>(h x hx).1⟩,⟨by simp [vc],by simp [vc]⟩,⟨by simp [vr],by simp [vr]⟩⟩,.mk (fun x hx=>(h x hx).2.1) (by simp [vr]),?_⟩;rw [Val.size_eq];simp only [vt,vl,vc,vr,jN,ZB,List.sum_nil];have:(l.map Val.size).sum<=l.length*2044:=FR fun x hx=>(xC5 x (hv x hx).1 (hv x hx).2).2.2 (R0 x (hv x hx).1);omega
theorem SV{v:Val}(h:BJ v=true):v.kind≠5:=fun e=>by grind [BJ]
theorem xC4{v:Val}(h:AP v=true)(h5:v.kind≠5):v.list.length<=8/\∀x∈v.list,AP x=true/\x.kind≠5:=by
 grind [J0,SV]
theorem xAA{Z:Nat}{W:List Org}{v x:Val}(h:VIn Z W v)(hx:x∈v.list):VIn Z W x:=
 ⟨(Val.fit_iff.1 h.1).2.2.2.2.1.2 x hx,h.2.1.el hx,by have h3:=h.2.2;grind [Val.size_eq,Ie]⟩
theorem xAC{Z:Nat}(hZ:16777216<=Z){W:List Org}{t:Str}(h:t.length<=1048576):VIn Z W (.mk 2 0 0 t [] [] []):=
 ⟨Val.fit_iff.2 ⟨⟨by simp [vk],by simp [vk]⟩,⟨by simp [vn],by simp [vn]⟩,⟨by simp [vs],by simp [vs]⟩,h,⟨by simp [vl],by simp [vl]⟩,⟨by simp [vc],by simp [vc]⟩,⟨by simp [vr],by simp [vr]⟩⟩,.mk (by simp [vl]) (by simp [vr]),by grind [Val.size_eq,vt,vl,vc,vr]⟩
theorem xIU{Z:Nat}(hZ:16777216<=Z){W:List Org}(hW:W.length<=1048576):Keep (VIn Z W) where
 fit h:=h.1
 zero:=Du (Ld ⟨by omega,by omega⟩ ⟨by omega,by omega⟩ ⟨by omega,by omega⟩)
 num h:=Du (Lf h)
 text h:=xAC hZ h
 err h1 h2:=Du (HL ⟨by omega,by omega⟩)
 call {t l} hl h:=have f:=xOI hW _ (xFF t l) (xFE fun x hx=>(h x hx).2.1);⟨f.1,f.2.1,by omega⟩
 build {l} hl h:=by
  have hf:=Du (Z:=Z) (W:=W) (Jb (K:=1048576) fun x hx=>(h x hx).1);have e:=fun c h1 h2=>Du (Z:=Z) (W:=W) (HL (c:=c) ⟨h1,h2⟩);unfold BS;cases h0:(opG l).2.1
  ·cases h1:l.all BJ
   ·grind
   ·by_cases h2:(l.length:Int)>8
    ·grind
    ·rw [Zw h2];have:=xAB hZ (l:=l) (by omega) h fun x hx=>⟨Ev h0 x hx,SV (Zx.1 h1 x hx)⟩
     grind
  grind
 app {n a b} ha hb:=by
  have hf:=Du (Z:=Z) (W:=W) (Jb (K:=1048576) (l:=[a,b]) fun x hx=>by rcases Zh.1 hx with rfl|hx;exact ha.1;rw [Zo.1 hx];exact hb.1);have e:=fun c h1 h2=>Du (Z:=Z) (W:=W) (HL (c:=c) ⟨h1,h2⟩);have ck:=fun n=>Du (Z:=Z) (W:=W) (xGs n);have tr:∀t,VIn Z W (JY t):=fun t=>by cases t <;>exact Du (Lf ⟨by omega,by omega⟩)
  unfold Bh;cases h0:(opG [a,b]).2.1
  ·have va:=Ev h0 a (by simp);have vb:=Ev h0 b (by simp);have ta:=(J0 va).2.2.2.1;have tb:=(J0 vb).2.2.2.1;have tx:VIn Z W (.mk 2 0 0 (a.text++b.text) [] [] []):=xAC hZ (by grind);have e4:=e 4 (by omega) (by omega);have e6:=e 6 (by omega) (by omega);show VIn Z W (opV n a b);unfold opV HE KZ
   refine An (fun _=>An (fun _=>An (fun _=>ck _) e4) (An (fun _=>An (fun _=>An (fun _=>e6) tx) e4) (An (fun k3=>An (fun j3=>An (fun _=>e6) ?_) e4) e4)))
    (An (fun _=>An (fun _=>An (fun _=>tr _) e4) (An (fun _=>An (fun _=>tr _) e4) e4)) (An (fun _=>tr _) (An (fun _=>An (fun _=>An (fun _=>ck _) e4) e4) (An (fun _=>An (fun _=>An (fun _=>ck _) e4) e4) e4))))
   have fa:=xC4 va (fun h=>by grind);have fb:=xC4 vb (fun h=>by grind);have el:∀ {v x:Val},VIn Z W v->x∈v.list->VIn Z W x:=xAA;exact xAB hZ (by grind) (fun x hx=>(Zf.1 hx).elim (el ha) (el hb)) fun x hx=>(Zf.1 hx).elim (fa.2 x) (fb.2 x)
  grind
 el h hx:=xAA h hx
mutual
def Val.og:Val->List Org
 | .mk _ _ _ _ l _ r=>Val.ogs l++r.flatMap Rowd.frm
def Val.ogs:List Val->List Org
 | []=> []
 |x::l=>Val.og x++Val.ogs l
end
theorem xBp(l:List Val):Val.ogs l=l.flatMap Val.og:=by
 induction l with
 |nil=>rfl
 |cons x l ih=>grind [Val.ogs]
theorem Ja{α β:Type}{f:α->List β}{g:α->Nat}:∀ {l:List α},(∀x∈l,(f x).length<=g x)->(l.flatMap f).length<=(l.map g).sum
 | [],_=>by simp
 |x::l,h=>by
  have:=h x (by simp);have:=Ja (l:=l) fun y hy=>h y (by grind)
  grind
theorem xBo:∀v:Val,v.og.length<=v.size:=by
 refine Val.ind fun k n s t l c r ih=> ?_;have h1:=Ja (g:=Val.size) ih;have h2:=Ja (f:=Rowd.frm) (g:=Rowd.size) (l:=r) fun x _=>by grind [Rowd.size]
 grind [Val.size_eq,Val.og,xBp,vl,vr]
theorem xBn{W:List Org}:∀v:Val,v.Fit 1048576->(∀o∈v.og,o∈W)->OIn (InW W) v:=by
 refine Val.ind fun k n s t l c r ih hf h=> ?_;obtain⟨_,_,_,_,h5,_,h7⟩:=Val.fit_iff.1 hf;simp only [Val.og,xBp,Zf,ZJ] at h;exact .mk (fun x hx=>ih x hx (h5.2 x hx) fun o ho=>h o (.inl ⟨x,hx,ho⟩)) fun x hx o ho=>⟨h o (.inr ⟨x,hx,ho⟩),(h7.2 x hx).2.2 o ho⟩
end Go.Ab
end
section
namespace Go.Ab
abbrev e0:Exp:= .mk 0 0 [] []
def D3(e:Exp):Nat:=3*e.cnt
theorem Oj(e:Exp):D3 e=3+(e.args.map D3).sum:=by
 unfold D3;rw [Exp.cnt_eq];have:∀l:List Exp,(l.map fun e=>3*e.cnt).sum=3*(l.map Exp.cnt).sum:=by
  intro l
  induction l with
  |nil=>rfl
  |cons x l ih=>grind
 grind
def xFC(l:List Exp):l.length<=(l.map D3).sum:=by
 induction l with
 |nil=>simp
 |cons x l ih=>
  grind [Oj]
def O8(N d:Nat)(l:List Exp):Prop:=∀k:Int,0<=k->k+((l.map D3).sum:Nat)<=137438953472->∃ys,ys.length=l.length/\KG N d l k=some (k+((l.map D3).sum:Nat),ys)
def xKz{N d:Nat}(hN:274877906944<N){l:List Exp}(hx:∀x∈l,O8 N d x.args):O8 N (d+1) l:=by
 intro k h0 h1;have hlen:=xFC l;refine QN (Lm:=fun n xs k i=>Hz N (KG N d) n xs k i) (c:=D3) (fun n xs k hl=>by simp [Hz,Mh,Pm,Pn,Mi,IA]) (fun x hxm k hk hB=> ?_) h1 (by omega);have hc:=Oj x;rw [hc] at hB ⊢;obtain⟨t,ht⟩:=DR hN (k:=k+1+1) (by omega) (by omega);obtain⟨ya,a1,a2⟩:=hx x hxm (k+1+1+1) (by omega) (by omega);have w1:V.wrap (k+1)=k+1:=AU (by omega) (by omega);have w2:V.wrap (k+1+1)=k+1+1:=AU (by omega) (by omega);have w3:V.wrap (k+1+1+1)=k+1+1+1:=AU (by omega) (by omega);refine⟨.mk k (k+1) t ya,fun n xs' i hl hxi=> ?_⟩;have hi:=(Zs.1 hxi).1;have hi' :(i:Int)<(xs'.length:Int):=by omega
 have hcd:(0:Int)<=(i:Int)/\(i:Int)<(xs'.length:Int):=by omega
 grind [Hz,List.set_set,AM,ek,en,et,ea]
def xKy:∀v:Exp,Big2 fun N d=>O8 N d v.args:=by
 refine Exp.ind fun k n t a ih=> ?_;refine Big2.succ ?_;exact((Big2.list fun x hx=>ih x hx).and (A2 274877906944).two).imp fun N d ⟨hx,hN⟩=>xKz hN hx
def xKv(v:Exp)(hc:v.cnt<=1000000000):Big fun N=>∃k xa,1<=k/\k<=3000000001/\xa.length=v.args.length/\Mg N v 1=some (k,xa):=by
 refine(xKy v).diag.imp fun N hm=> ?_;have hc' :=Oj v;have hc2:D3 v=3*v.cnt:=rfl;obtain⟨ya,a1,a2⟩:=hm 1 (by omega) (by omega);have a2' :Pk N v.args 1=_:=a2;exact⟨1+((v.args.map D3).sum:Nat),ya,by omega,by omega,a1,by grind [Mg]⟩
def xKu{K:Nat}(hK:K<=137438953472){xs:List Bnd}(h:LFit K (Bnd.Fit K) xs):
 Big fun N=>∀k0:Int,1<=k0->k0+((xs.map Ea).sum:Nat)<=137438953472->∃ys,ys.length=xs.length/\Pd N xs k0=some (k0+((xs.map Ea).sum:Nat),ys):=by
 have hm:=Big.list (l:=xs) fun x hx=>xBh hK (Val.fit_iff.1 (h.2 x hx).2).2.2.2.2.1;refine(hm.and ((A2 274877906944).and (A2 xs.length))).imp fun N ⟨hm,hN,hn⟩ k0 hk0 hk1=> ?_;have hlen:xs.length<=K:=h.1
 exact QN (Lm:=fun n xs k i=>Hv N n xs k i) (c:=Ea) (x0:=xs) (k0:=k0) (B:=137438953472) (n:=N) (fun n xs k hl=>by simp [Hv,Ma,Pe,Pf,Pg,Ph,Pi,Pj,Mb,Me,Mf,Hw,Hx,Hy])
  (fun x hx k hk hB=>by
    have hcx:Ea x=5+((x.value.list.map Val.cnt).sum+(x.value.columns.map Aj).sum+(x.value.rows.map B2).sum):=rfl;rw [hcx] at hB ⊢;have hrows:x.value.rows.length<=K:=(Val.fit_iff.1 (h.2 x hx).2).2.2.2.2.2.2.1;obtain⟨t,ht⟩:=DR hN (k:=k) (by omega) (by omega);obtain⟨t2,ht2⟩:=DR hN (k:=k+1+1+1+1) (by omega) (by omega);obtain⟨ya,a1,a2⟩:=hm x hx (k+1+1+1+1+1) (by omega) (by omega);obtain⟨yb,b1,b2,b3⟩:=K7 hN (xs:=x.value.columns) (k:=k+1+1+1+1+1+((x.value.list.map Val.cnt).sum:Nat)) (by omega) (by omega);obtain⟨yc,c1,c2,c3⟩:=K6 hN (xs:=x.value.rows) (k:=k+1+1+1+1+1+((x.value.list.map Val.cnt).sum:Nat)+((x.value.columns.map Aj).sum:Nat)) (by omega) (by omega) (by omega);have a2' :ED N x.value.list (k+1+1+1+1+1)=_:=a2;have w1:V.wrap (k+1)=k+1:=AU (by omega) (by omega);have w2:V.wrap (k+1+1)=k+1+1:=AU (by omega) (by omega);have w3:V.wrap (k+1+1+1)=k+1+1+1:=AU (by omega) (by omega);have w4:V.wrap (k+1+1+1+1)=k+1+1+1+1:=AU (by omega) (by omega);have w5:V.wrap (k+1+1+1+1+1)=k+1+1+1+1+1:=AU (by omega) (by omega);refine⟨⟨t,.mk (k+1) (k+1+1) (k+1+1+1) t2 ya yb yc⟩,fun n xs' i hl hxi=> ?_⟩
    ·have hi:=(Zs.1 hxi).1;have hi' :(i:Int)<(xs'.length:Int):=by omega
     have hcd:(0:Int)<=(i:Int)/\(i:Int)<(xs'.length:Int):=by omega
     simp only [Hv,Ma,Pe,Pf,Pg,Ph,Pi,Pj,Mb,Me,Mf,Hw,Hx,Hy,Zz hi',jT,jI,AS hxi,List.length_set,Li hi,List.set_set,AM hi (by omega:xs'.length<=_),Zt hcd,w1,w2,w3,w4,w5,ht,ht2,jS,Val.re_eq,vk,vn,vs,vt,vl,vc,vr,
      a2',b2,c2,Zt a1,Zt b1,Zt c1]
     grind) (by omega) hn
def xKE{N:Nat}(hN:274877906944<N){w:Wld}(h1:w.files.length<=10000000){k:Int}(h0:1<=k)(hk:k<=100000000000):∃j ys,0<=j/\ys.length=w.files.length/\Mt N w k=some (j,ys):=by
 have hs:=SG w.files;have w1:V.wrap (k+1)=k+1:=AU (by omega) (by omega);have w2:V.wrap (k+1+1)=k+1+1:=AU (by omega) (by omega);obtain⟨ys,a1,a2⟩:=xKw hN (xs:=w.files) (k:=k) (by omega) (by omega)
 grind [Mt]
def xIY(a0:Exp)(a1:List Bnd)(a2:List Rea)(a3:Wld)(a4:Int)(a5:Int)(f0:∀z∈ [CV.int .i64 (Exp.kind a0),CV.int .i64 (Exp.n a0),CV.str (Exp.text a0),CV.sl .ro .exp (Exp.args a0)],DFit z.toD)(f1:∀z∈ [CV.sl .ro .bnd a1],DFit z.toD)(f2:∀z∈ [CV.sl .ro .rea a2],DFit z.toD)(f3:∀z∈ [CV.int .i64 (Wld.clock a3),CV.int .i64 (Wld.seed a3),CV.sl .ro .fil (Wld.files a3)],DFit z.toD)(f4:∀z∈ [CV.int .i64 a4],DFit z.toD)(f5:∀z∈ [CV.int .i64 a5],DFit z.toD):∃N,GA N a0 a1 a2 a3 a4 a5=some true:=by
 have h0:=xGp f0;have h1:=xDi f1;have h2:=xLj f2;have h3:=xOS f3;have z0:=xNX h0;have z1:=xNU h1;have z2:=xN3 h2;have z3:=A2 a3.files.length;by_cases g0:left a0.size 1048576<0
 ·exact(z0.imp fun N z0=>by grind [GA]).get
 have l0:=N5 g0;rw [CG l0] at g0;by_cases g1:left (a1.length+(a1.map Bnd.size).sum) (1048576 - a0.size)<0
 ·exact((z0.and z1).imp fun N ⟨z0,z1⟩=>by
   grind [CG,GA]).get
 have l1:=N5 g1;rw [CG l1] at g1;by_cases g2:left (a2.length+(a2.map Rea.size).sum) (1048576 - a0.size - ((a1.length+(a1.map Bnd.size).sum:Nat):Int))<0
 ·exact((z0.and (z1.and z2)).imp fun N ⟨z0,z1,z2⟩=>by
   have z1:=z1 _ (by omega:0<=1048576 - (a0.size:Int)) (by omega);rw [CG l0] at z0;rw [CG l1] at z1
   grind [GA]).get
 have l2:=N5 g2;rw [CG l2] at g2;by_cases g3:left a3.size (1048576 - a0.size - ((a1.length+(a1.map Bnd.size).sum:Nat):Int) - ((a2.length+(a2.map Rea.size).sum:Nat):Int))<0
 ·exact((z0.and (z1.and (z2.and z3))).imp fun N ⟨z0,z1,z2,z3⟩=>by
   have z1:=z1 _ (by omega:0<=1048576 - (a0.size:Int)) (by omega);have z2:=z2 _ (by omega:0<=1048576 - (a0.size:Int) - ((a1.length+(a1.map Bnd.size).sum:Nat):Int)) (by omega);have z3:=xCV h3 z3 (by omega:0<=1048576 - (a0.size:Int) - ((a1.length+(a1.map Bnd.size).sum:Nat):Int) - ((a2.length+(a2.map Rea.size).sum:Nat):Int)) (by omega)
   grind [CG,GA]).get
 have l3:=N5 g3;rw [CG l3] at g3;have k0:a0.Fit 1048576:=Exp.fit_size a0 h0 (by omega);have k1:LFit 1048576 (Bnd.Fit 1048576) a1:=GJ (f:=Bnd.size) h1 (by omega) fun x _=>Bnd.fit_size;have k2:LFit 1048576 (Rea.Fit 1048576) a2:=GJ (f:=Rea.size) h2 (by omega) fun x _=>Rea.fit_size;have k3:a3.Fit 1048576:=Wld.fit_size h3 (by omega);have k3l:a3.files.length<=1048576:=k3.2.2.1
 let W:=a1.flatMap (fun b=>b.value.og)++a2.flatMap fun r=>r.result.og
 have hW:W.length<=1048576:=by
  have e1:=Ja (f:=fun b:Bnd=>b.value.og) (g:=Bnd.size) (l:=a1) fun x _=>by grind [xBo,Bnd.size]
  have e2:=Ja (f:=fun b:Rea=>b.result.og) (g:=Rea.size) (l:=a2) fun x _=>by grind [xBo,Rea.size]
  grind
 have hI:=xIU (Zn _) hW;have i1:∀b∈a1,VIn 16777216 W b.value:=fun b hb=>⟨(k1.2 b hb).2,xBn _ (k1.2 b hb).2 fun o ho=>Zf.2 (.inl (ZJ.2 ⟨b,hb,ho⟩)),by grind [Ie,Bnd.size]⟩;have i2:∀b∈a2,VIn 16777216 W b.result:=fun b hb=>⟨(k2.2 b hb).2.2.2.2,xBn _ (k2.2 b hb).2.2.2.2 fun o ho=>Zf.2 (.inr (ZJ.2 ⟨b,hb,ho⟩)),by grind [Ie,Rea.size]⟩;have hn:=Exp.nest_le a0;have hc:=Exp.cnt_le a0;have hsc:Sok (VIn 16777216 W) (a0.nest+1) a1:=⟨by omega,fun b hb=>⟨i1 b hb,(k1.2 b hb).1⟩⟩;obtain⟨o1,o2,o3,o4⟩:=xBw (ce:=a4) (ve:=a5) hI k0 hsc k2.1 i2 k3l;have ev:=xGo (ce:=a4) (ve:=a5) hI k0 (by omega) hsc k2.1 i2 k3l;generalize Cq a0 a1 a2 a3 a4 a5=g at*;have q2:LFit 1048576 (Rea.Fit 1048576) g.reads:=⟨by omega,fun x hx=>(o2 x hx).2⟩;have hcv:=Val.cnt_le g.value;have hsv:=o1.2.2;have b1:=xFB a1;have b2:=SJ a2;have b3:=SJ g.reads;have b4:(g.reads.map Rea.size).sum<=g.reads.length*17825792:=FR fun x hx=>by
  have:=(o2 x hx).1.2.2;have:x.text.length<=1048576:=(o2 x hx).2.2.2.2.1
  grind [Rea.size]
 have hk:(1048576:Nat)<=137438953472:=by omega
 refine(((z0.and (z1.and (z2.and (A2 274877906944)))).and ((xOo k0).and ((xOl k1).and (xOs k2)))).and ((ev.and ((xF8 k0 (by omega)).and ((xF5 k1 (by omega)).and ((SW k2 (by omega)).and ((SW q2 (by omega)).and (Ov o1.1 (by omega))))))).and
  ((xKv a0 (by omega)).and ((xKu hk k1).and ((xKB hk k2).and ((xKC hk q2).and (xKD hk o1.1))))))).imp
  (fun N ⟨⟨⟨z0,z1,z2,hN⟩,t0,t1,t2⟩,⟨⟨v1,v2⟩,e0,e1,e2,e3,e4⟩,m0,m1,m2,m3,m4⟩=> ?_) |>.get
 have z1:=z1 _ (by omega:0<=1048576 - (a0.size:Int)) (by omega);have z2:=z2 _ (by omega:0<=1048576 - (a0.size:Int) - ((a1.length+(a1.map Bnd.size).sum:Nat):Int)) (by omega);have z3:=xCV (N:=N) h3 (by omega) (by omega:0<=1048576 - (a0.size:Int) - ((a1.length+(a1.map Bnd.size).sum:Nat):Int) - ((a2.length+(a2.map Rea.size).sum:Nat):Int)) (by omega);rw [CG l0] at z0;rw [CG l1] at z1;rw [CG l2] at z2;rw [CG l3] at z3;have t3:=xOz (N:=N) (w:=a3) k3l (by omega);have e5:=xGk (N:=N) (w:=a3) (by omega) (by omega);have eo:Hk N g g=some true:=by grind [Hk]
 obtain⟨p0,y0,c1,c2,c3,c4⟩:=m0;obtain⟨y1,c5,c6⟩:=m1 p0 c1 (by omega);obtain⟨y2,c7,c8⟩:=m2 (p0+((a1.map Ea).sum:Nat)) (by omega) (by omega);obtain⟨p3,y3,c9,c10,c11⟩:=xKE hN (w:=a3) (by omega) (k:=p0+((a1.map Ea).sum:Nat)+((a2.map Bi).sum:Nat)) (by omega) (by omega);obtain⟨p4,xa,xb,xc,d1,d2,d3,d4,d5,d6,d7⟩:=m4 1 (by omega) (by omega);obtain⟨yr,d8,d9,d10⟩:=m3 p4 (by omega) (by omega);have eM:Mk N g 1=some (p4+((g.reads.map Bi).sum:Nat),xa,xb,xc,yr):=by grind [Mk]
 have eH:KB N (.mk (.mk g.value.kind g.value.n g.value.step g.value.text xa xb xc) yr g.steps) 1=some (p4+((g.reads.map Bi).sum:Nat)):=by
  simp only [KB,d7,d10,jS,Zw (by omega:¬p4<0),jF,Zw (by omega:¬p4+((g.reads.map Bi).sum:Nat)<0)]
 unfold GA
 simp only [z0,z1,z2,z3,t0,t1,t2,t3,v1,v2,e0,e1,e2,e5,eo,c4,c6,c8,c11,eM,eH,Zt c3,Zt c5,Zt c7,Zt c10,Zt d3,Zt d4,Zt d5,Zt d8,jS,jU,jF,Zw g0,Zw g1,Zw g2,Zw g3,
  Zw (by omega:¬p3<0),Zw (by omega:¬p4+((g.reads.map Bi).sum:Nat)<0),Ye]
end Go.Ab
end
section
namespace Go.Proofs.YtmkdoadmcaagiaaGreatDoor
open Go.Ab Go.ChangeShapes Go.WideShapes Go.ChangeAt Go.RowKit
def own:ownKnob Tryz.prog.godebug=none:=by kernel_rfl
def He:laidOutB Tryz.prog=true:=by kernel_rfl
def Hd:iF Tryz.prog [(3,.int),(9,.str),(46,.exp),(97,.val),(99,.bnd),(102,.rea),(159,.fil),(203,.row),(236,.org)]=true:=by kernel_rfl
set_option maxRecDepth 100000 in
theorem fnExactEvaluate_lifted(os:Os)(started:os.Started)(H:Type)(enc:TypeId×Value->H):
 ReturnsInHanded {} Tryz.checked os 4 .any (fun w args=>(Rows.fnExactEvaluateSpec.pre enc Tryz.prog Tryz.f4 Rows.fnExactEvaluateRow.domain false w args/\laidMetH Tryz.prog Rows.fnExactEvaluateRow.laid w)/\sizedMet enc Tryz.prog Tryz.f4 (OpenSpec.ofChange Rows.fnExactEvaluateSpec) false w args)
  (Rows.fnExactEvaluateSpec.post enc Tryz.prog Tryz.f4 false true false false):=by
 refine returnsInHanded_of_change_and (C:=Tryz.checked) (X:=fun w _=>laidMetH Tryz.prog Rows.fnExactEvaluateRow.laid w) (fun _ _ _ hh h=>h.of_heap hh) own started (by kernel_rfl) Tryz.func4
  (ChangeSpec.witness_shaped (enc:=enc) (C:=Tryz.checked) (os:=os) (X:=fun w _=>laidMetH Tryz.prog Rows.fnExactEvaluateRow.laid w) false (World.laidAll Tryz.prog os Rows.fnExactEvaluateRow.laid) #[.agg #[.int .i64 0,.int .i64 0,.string ByteArray.empty,.slice none 0 0],.slice none 0 0,.slice none 0 0,.agg #[.int .i64 0,.int .i64 0,.slice none 0 0],.int .i64 0,.int .i64 0] 8 (World.laidAll_os _ _ _)
    (World.shaped_of_ZipB (by kernel_rfl) (by kernel_rfl)) (by kernel_rfl) (by kernel_rfl) (by kernel_rfl)
    (by rw [MakeChecks.laidMetH_plain _ _ _ (by kernel_rfl)];exact laidMet_laidAll _ (by kernel_rfl) (by kernel_rfl))) ?_
 intro W base args ds gs before hval0 hW hcnd _ hL _
 letI:Inhabited Lb:=⟨⟨[]⟩⟩
 have hval:∀(j:Nat) t v,Tryz.f4.params[j]? =some t->args[j]? =some v->Value.okWide Tryz.prog W .any base t v:=hval0;have hW' :=hW;obtain⟨p,q,hA0,hV,rfl,hfz,hnd⟩:=hW;have hA:DataW.TrodAll enc Tryz.prog W 0 (fun _=>true) true Tryz.f4.params.toList args.toList ds p:=hA0;rw [Tryz.params4] at hA hval;obtain⟨v0,vs0,d0,ds0,p0,q0,hargs,rfl,rfl,h0,r0⟩:=trodAll_cons hA;obtain⟨v1,vs1,d1,ds1,p1,q1,rfl,rfl,rfl,h1,r1⟩:=trodAll_cons r0;obtain⟨v2,vs2,d2,ds2,p2,q2,rfl,rfl,rfl,h2,r2⟩:=trodAll_cons r1;obtain⟨v3,vs3,d3,ds3,p3,q3,rfl,rfl,rfl,h3,r3⟩:=trodAll_cons r2;obtain⟨v4,vs4,d4,ds4,p4,q4,rfl,rfl,rfl,h4,r4⟩:=trodAll_cons r3;obtain⟨v5,vs5,d5,ds5,p5,q5,rfl,rfl,rfl,h5,r5⟩:=trodAll_cons r4;obtain⟨rfl,rfl,rfl⟩:=trodAll_nil r5;obtain rfl:args= #[v0,v1,v2,v3,v4,v5]:=by cases args;simp_all
 obtain⟨rfl,rfl⟩:=trodVars_none hV;have lt0:∀x∈p0,x.block<W.heap.size:=by obtain⟨m,hm⟩:=h0;exact DataW.trod_lt m _ _ _ hm
 have lt1:∀x∈p1,x.block<W.heap.size:=by obtain⟨m,hm⟩:=h1;exact DataW.trod_lt m _ _ _ hm
 have lt2:∀x∈p2,x.block<W.heap.size:=by obtain⟨m,hm⟩:=h2;exact DataW.trod_lt m _ _ _ hm
 have lt3:∀x∈p3,x.block<W.heap.size:=by obtain⟨m,hm⟩:=h3;exact DataW.trod_lt m _ _ _ hm
 have lt4:∀x∈p4,x.block<W.heap.size:=by obtain⟨m,hm⟩:=h4;exact DataW.trod_lt m _ _ _ hm
 have lt5:∀x∈p5,x.block<W.heap.size:=by obtain⟨m,hm⟩:=h5;exact DataW.trod_lt m _ _ _ hm
 obtain⟨z0,e0,f0,vr0⟩:=AI Hd (g:=true) (t:=46) (ns:=[.inl (.int .i64),.inl (.int .i64),.inl .str,.inr .exp]) (by kernel_rfl) (hval 0 46 v0 rfl rfl) h0;obtain⟨x0_0,_,rfl,e0_0⟩:=AreOf.int_inv e0;obtain⟨x0_1,_,rfl,e0_1⟩:=AreOf.int_inv e0_0;obtain⟨x0_2,_,rfl,e0_2⟩:=AreOf.str_inv e0_1;obtain⟨x0_3,_,rfl,e0_3⟩:=AreOf.sl_inv e0_2;obtain rfl:=e0_3.nil_inv;obtain⟨z1,e1,f1,vr1⟩:=AI Hd (g:=false) (t:=47) (ns:=[.inr .bnd]) (by kernel_rfl) (hval 1 47 v1 rfl rfl) h1;obtain⟨x1_0,_,rfl,e1_0⟩:=AreOf.sl_inv e1;obtain rfl:=e1_0.nil_inv;obtain⟨z2,e2,f2,vr2⟩:=AI Hd (g:=false) (t:=48) (ns:=[.inr .rea]) (by kernel_rfl) (hval 2 48 v2 rfl rfl) h2;obtain⟨x2_0,_,rfl,e2_0⟩:=AreOf.sl_inv e2;obtain rfl:=e2_0.nil_inv;obtain⟨z3,e3,f3,vr3⟩:=AI Hd (g:=true) (t:=51) (ns:=[.inl (.int .i64),.inl (.int .i64),.inr .fil]) (by kernel_rfl) (hval 3 51 v3 rfl rfl) h3;obtain⟨x3_0,_,rfl,e3_0⟩:=AreOf.int_inv e3;obtain⟨x3_1,_,rfl,e3_1⟩:=AreOf.int_inv e3_0;obtain⟨x3_2,_,rfl,e3_2⟩:=AreOf.sl_inv e3_1;obtain rfl:=e3_2.nil_inv;obtain⟨z4,e4,f4,vr4⟩:=AI Hd (g:=false) (t:=3) (ns:=[.inl (.int .i64)]) (by kernel_rfl) (hval 4 3 v4 rfl rfl) h4;obtain⟨x4_0,_,rfl,e4_0⟩:=AreOf.int_inv e4;obtain rfl:=e4_0.nil_inv;obtain⟨z5,e5,f5,vr5⟩:=AI Hd (g:=false) (t:=3) (ns:=[.inl (.int .i64)]) (by kernel_rfl) (hval 5 3 v5 rfl rfl) h5;obtain⟨x5_0,_,rfl,e5_0⟩:=AreOf.int_inv e5;obtain rfl:=e5_0.nil_inv;obtain⟨N,hF⟩:=xIY (Exp.mk x0_0 x0_1 x0_2 x0_3) x1_0 x2_0 (Wld.mk x3_0 x3_1 x3_2) x4_0 x5_0 f0 f1 f2 f3 f4 f5;clear hA0 hval0;refine(zT T.fk4 (T.laws_FnExactEvaluate_ok hF) (W:=W) (args:= #[v0,v1,v2,v3,v4,v5]) ⟨vr0 _,vr1 _,vr2 _,vr3 _,vr4 _,vr5 _,trivial⟩ (fun x hx=>by cases hx)).mono fun e W' ⟨he,bel⟩=> ?_;subst he;exact⟨_,rfl,_,_,_,[],_,[],hW',trodAll_mk1 (shut_bool Tryz.underlying4 _),(trodAll_cons_mk (Below.trod He (by kernel_rfl) (of_decide_eq_true (by kernel_rfl)) h0 bel lt0) (trodAll_cons_mk (Below.trod He (by kernel_rfl) (of_decide_eq_true (by kernel_rfl)) h1 bel lt1) (trodAll_cons_mk (Below.trod He (by kernel_rfl) (of_decide_eq_true (by kernel_rfl)) h2 bel lt2) (trodAll_cons_mk (Below.trod He (by kernel_rfl) (of_decide_eq_true (by kernel_rfl)) h3 bel lt3) (trodAll_cons_mk (Below.trod He (by kernel_rfl) (of_decide_eq_true (by kernel_rfl)) h4 bel lt4) (trodAll_cons_mk (Below.trod He (by kernel_rfl) (of_decide_eq_true (by kernel_rfl)) h5 bel lt5) trodAll_mk0)))))),rfl,bel.frame _,fun h=>by cases h⟩
set_option maxHeartbeats 4000000 in
theorem fnExactEvaluate_closed:joinedFacts Tryz.pinned.checked.prog 4 Tryz.f4 Rows.fnExactEvaluateSpec Rows.fnExactEvaluateRow=true:=by
 unfold joinedFacts
 repeat refine Bool.and_eq_true_iff.2 ⟨?_,by as_aux_lemma=>kernel_rfl⟩
 as_aux_lemma=>kernel_rfl
set_option maxHeartbeats 4000000 in
theorem fnExactEvaluate_proved:Rows.FnExactEvaluateSaid:=
 OpenClaim.holds_of_wide 4 Tryz.f4 rfl rfl rfl rfl rfl rfl rfl ⟨rfl,rfl,rfl,rfl,rfl⟩ rfl rfl rfl rfl rfl (by as_aux_lemma=>kernel_rfl) Tryz.func4 fnExactEvaluate_closed
  (of_decide_eq_true (by as_aux_lemma=>kernel_rfl)) (by as_aux_lemma=>unfold Func.isWrapper;first |(rw [Zt (by decide +kernel)];kernel_rfl) |(rw [Za (by decide +kernel)];exact⟨rfl,rfl⟩))
  (fun os started H enc _=>fnExactEvaluate_lifted os started H enc)
set_option maxHeartbeats 4000000 in
theorem fnExactEvaluate_card:Rows.FnExactEvaluateCardSaid:=
 Claim7.holds_tied_plain_at .later [] Rows.fnExactEvaluateCard.laidKinds true Rows.fnExactEvaluateCard.stood.harness Rows.fnExactEvaluateCard.stood.looks fnExactEvaluate_proved (fun _ h=>by cases h) (by as_aux_lemma=>kernel_rfl) (fun _ h=>by cases h) fnExactEvaluate_row_tie rfl ⟨rfl,rfl⟩ (by as_aux_lemma=>kernel_rfl) rfl
  (fun f fn hf hfn=>by
    obtain rfl:f=4:=Yb ((show Tryz.prog.funcNamed Rows.fnExactEvaluateRow.func=some 4 by kernel_rfl).symm.trans hf) |>.symm;obtain rfl:fn=Tryz.f4:=(Yb (Tryz.func4.symm.trans hfn)).symm
    exact⟨by as_aux_lemma=>kernel_rfl,fun j t ht=>by
     rw [Tryz.params4] at ht;have hm:t∈ [46,47,48,51,3,3]:=by simpa using Array.mem_of_getElem? ht
     have hall:([46,47,48,51,3,3].all fun u=> !Tryz.prog.wantsStandIn u)=true:=by as_aux_lemma=>kernel_rfl
     exact(show Tryz.prog.wantsStandIn t=false by simpa using Zx.1 hall t hm)⟩)
  (by as_aux_lemma=>kernel_rfl)
end Go.Proofs.YtmkdoadmcaagiaaGreatDoor
end
