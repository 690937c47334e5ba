/- A layer over the machine of the kit: an evaluator over plain data that is sound. Conditions: none. -/
import Derived.Test.YtmkdoadmcaagiaaGreatDoorL0
set_option linter.all false
section
namespace Go.Ab
variable [Inhabited Lb]
def rR(C:Ctx)(σ:St)(a:Act)(w:World)(o:Oper)(v:AV):Prop:=
 Good C σ a w o v\/∃w',(execOp a.eval o).run C.P w= .ok .skip w' /\Hand C σ a.tmps w' 0 v undef
theorem zR{z:List CV}:∀ {vs:List Value},bM z vs=true->∀y∈z,∀k c,¬y.speaks k c:=by
 induction z with
 |nil=>grind
 |cons x xs ih=>
  intro vs h y hy k c hs;cases vs with
  |nil=>grind [bM]
  |cons v vs=>
   simp [bM] at h;cases hy with
   |tail _ hy=>exact ih h.2 y hy k c hs
   |head=>
    have h1:=h.1;unfold gL at h1;split at h1 <;>first |exact hs|grind
theorem mG{f:CV->Option CV}:∀(p:List (Nat×Nat)) (x x' :CV),cY x p f=some x' ->∃z z',f z=some z'
 | [],x,x',h=>⟨x,x',by grind [cY]⟩
 |(i,j)::p,x,x',h=>by
  cases x with
  |sl fl T xs=>
   simp only [cY] at h;split at h
   ·split at h
    ·rename_i y' hy;exact mG p _ _ hy
    grind
   grind
  |_=>simp only [cY] at h;cases h
theorem rG{T:Ty}{i off:Nat}{vs:List CV}{z z' :CV}(h:eQ T i off vs z=some z'):off+vs.length<=T.sz:=by
 unfold eQ at h;split at h
 ·split at h
  ·rename_i hU;subst hU;split at h
   ·rename_i hset;have:=(gF hset).2
    grind [Ty.enc_length]
   grind
  grind
 grind
section
variable {C:Ctx} {σ:St} {a:Act} {E:Env} {u u' u'' :Ups} {tt:TT} {o:Oper} {md:Md} {v:AV} {ob:List Prop} {ty:TypeId}
theorem sH{w:World}(htt:aP C.P tt)(hi:Inv C (St.get (u++σ)) a.tmps E)(hw:E.w=w){t:TypeId}(ho:o.op= .alloc t){i:TI}(hti:tt.get t=some i){z:List CV}(hz:i.zero=some z){d:Nat}
 (hg:St.get (u++σ) (2*d+1)= .none):Good C (((2*d+1,.v true z)::u)++σ) a w o (.v false [.ptr d 0]):=by
 obtain⟨ti,ds,h1,h2,h3,h4,h5,h6⟩:=(htt t i hti).info;obtain⟨zv,hz1,hz2⟩:=h6 z hz;refine⟨_,_,?_,nP hi hw hg (kT _ _ _ _ hz2) (zR hz2) (t:=t)⟩;rw [uG ho];simp [Instr.alloc,zeroValue,typeInfo,h1,hz1,newVar,newRow,bJ]
theorem sZ{w:World}(hi:Inv C (St.get (u++σ)) a.tmps E)(hw:E.w=w){t:TypeId}{x:Operand}(ho:o.op= .box t x){cs:List CV}(hx:Mr (kN tt t x) σ u=some (cs,u')){d:Nat}
 (hg:St.get (u' ++σ) (2*d+1)= .none):Good C (((2*d+1,.v true cs)::u')++σ) a w o (.v false [.ptr d 0]):=by
 obtain⟨E',g,e1,e2,e3,e4,e5,e6,e7⟩:=qA hi 0 hx;refine⟨_,_,?_,nP e4 (e1.trans hw) hg (jJ e5) e7 (t:=t)⟩;rw [uH ho];simp [Instr.box,newVar,newRow,bJ]
theorem mV{P:Program}{w w' :World}{t:TypeId}{i:TI}(h:TIok P t i){ad:Addr}{val:Value}(hs:val.cells.size=i.sz)(hr:(storeCells ad val.cells.toList 0).run P w= .ok () w'):
 (Instr.storeAt t (.pointer (some ad)) val).run P w= .ok () w' :=by
 obtain⟨ti,d,h1,h2,_⟩:=h.info;have hs' :val.cells.size=ti.size:=by grind
 simp [Instr.storeAt,Instr.sureAddr,storeVar,sizeOf,typeInfo,h1,hs',hr]
theorem oE{w:World}{E1:Env}(e4:Inv C (St.get (u++σ)) a.tmps E1)(e1:E1.w=w){k c0 j off:Nat}{pth:List (Nat×Nat)}{T:Ty}{y:T.den}{vs:List CV}{gv:Bool}{val ptr:Value}
 (e5:VR1 E1 (aA (St.get (u++σ))) (.h 0) 0 gv vs val) (hp:VRc E1 (aA (St.get (u++σ))) (.h 0) 0 (.eref k c0 pth j T y off) ptr) {r:Eff} {u3:Ups}
 (h3:Mr (kG k c0 pth j T off vs) σ u=some (r,u3)):
 ∃ad w',ptr= .pointer (some ad)/\(storeCells ad val.cells.toList 0).run C.P w= .ok () w' /\val.cells.size=vs.length/\Hand C (u3++σ) a.tmps w' 0 r.1 undef/\r.2=[]:=by
 obtain⟨_,u4,k1,k2⟩:=aD h3;obtain⟨_,u5,k3,k4⟩:=aD k2;obtain rfl:=bP k3;obtain⟨q1,q2,rfl⟩:=cC (v:=r.1) (ob:=r.2) k4;unfold nB at k1;obtain⟨av,u6,m1,m2⟩:=aD k1;obtain⟨rfl,rfl⟩:=bT m1;split at m2
 ·rename_i gg cs hg;obtain⟨xc,u7,m3,m4⟩:=aD m2;obtain⟨hxc,rfl⟩:=cZ m3;obtain⟨hmx,m5⟩:=aU m4;obtain⟨xc',u8,m6,m7⟩:=aD m5;obtain⟨hnav,rfl⟩:=cZ m6;obtain rfl:=bP m7;obtain⟨b,hpv,hob,⟨hhi,hfz⟩,uu,huu⟩:=hp;have hle:off+vs.length<=T.sz:=by
   obtain⟨z,z',hz⟩:=mG pth xc xc' hnav;exact rG hz
  obtain⟨w',hrun,hsz,hand⟩:=xA e4 e1 hg hxc hmx hnav e5 hob hhi hfz (fun j' hj' =>by
   grind [Ty.toD_length]) hle
  grind
 grind [aE]
theorem uB{w:World}{E1:Env}(e4:Inv C (St.get (u++σ)) a.tmps E1)(e1:E1.w=w){k c0 j off b' cap:Nat}{pth:List (Nat×Nat)}{T U:Ty}{y:T.den}{xs:List U.den}{val ptr:Value}(hfl:U.flat=true)
 (hval:val.cells.toList=[.slice (some ⟨b',0,none⟩) xs.length cap]) (hat:kU E1 (.arr (.k k) c0 (pth++ [(j,off)])) b' U xs cap)
 (hp:VRc E1 (aA (St.get (u++σ))) (.h 0) 0 (.eref k c0 pth j T y off) ptr) {r:Eff} {u3:Ups}
 (h3:Mr (kG k c0 pth j T off [.sl .own U xs]) σ u=some (r,u3)):
 ∃ad w',ptr= .pointer (some ad)/\(storeCells ad val.cells.toList 0).run C.P w= .ok () w' /\val.cells.size=1/\Hand C (u3++σ) a.tmps w' 0 r.1 undef/\r.2=[]:=by
 obtain⟨_,u4,k1,k2⟩:=aD h3;obtain⟨_,u5,k3,k4⟩:=aD k2;obtain rfl:=bP k3;obtain⟨q1,q2,rfl⟩:=cC (v:=r.1) (ob:=r.2) k4;unfold nB at k1;obtain⟨av,u6,m1,m2⟩:=aD k1;obtain⟨rfl,rfl⟩:=bT m1;split at m2
 ·rename_i gg cs hg;obtain⟨xc,u7,m3,m4⟩:=aD m2;obtain⟨hxc,rfl⟩:=cZ m3;obtain⟨hmx,m5⟩:=aU m4;obtain⟨xc',u8,m6,m7⟩:=aD m5;obtain⟨hnav,rfl⟩:=cZ m6;obtain rfl:=bP m7;obtain⟨b,hpv,hob,⟨hhi,hfz⟩,uu,huu⟩:=hp;have hle:off+1<=T.sz:=by
   obtain⟨z,z',hz⟩:=mG pth xc xc' hnav;exact rG hz
  obtain⟨w',hrun,hsz,hand⟩:=wZ e4 e1 hg hxc hmx hnav hfl hval hat hob hhi hfz (fun j' hj' =>by
   grind [Ty.toD_length]) hle
  grind
 grind [aE]
theorem zB{w:World}(htt:aP C.P tt)(hi:Inv C (St.get (u++σ)) a.tmps E)(hw:E.w=w){t:TypeId}{p x:Operand}(ho:o.op= .store t p x){i:TI}(hti:tt.get t=some i){vs:List CV}
 (h1:Mr (mO tt t x) σ u=some (vs,u')) {c:CV} (h2:Mr (opc tt 0 p) σ u' =some (c,u'')) (hlen:vs.length=i.sz)
 {r:Eff} {u3:Ups} (h3:Mr (match c with | .ptr s off=>rD s off (vs.map CV.noAl) | .eref k c p j T _ off=>lO k c p j T off vs|_=>bad) σ u'' =some (r,u3)) (hob:∀q∈r.2,q):
 ∃w',(execOp a.eval o).run C.P w= .ok .skip w' /\Hand C (u3++σ) a.tmps w' 0 r.1 undef:=by
 obtain⟨E1,g,e1,e2,e4,e5,e6⟩:=xR hi 0 h1;obtain⟨rfl,hp⟩:=bO e4 h2;have hk:=htt t i hti;split at h3
 ·rename_i s off;obtain⟨cs,u4,k1,k2⟩:=aD h3;obtain⟨hg,rfl⟩:=fN k1;obtain⟨cs',u5,k3,k4⟩:=aD k2;obtain⟨hset,rfl⟩:=cZ k3;obtain⟨_,u6,k5,k6⟩:=aD k4;obtain rfl:=bP k5;obtain⟨q1,q2,rfl⟩:=cC (v:=r.1) (ob:=r.2) k6;obtain⟨w',hrun,hsz,hand⟩:=y9 e4 (e1.trans hw) hg (p7 e5) (fun y hy k c=>xL hy k c) hset;refine⟨w',?_,by grind⟩;have hpp:=(hp (.h 0) 0).1;rw [Zm] at hsz;rw [lT ho,hpp,mV hk (by grind) hrun]
  rfl
 ·rename_i k c0 pth j T y off;unfold lO at h3;split at h3
  ·rename_i k' c' p' U xs;obtain⟨r0,u4,k1,k2⟩:=aD h3;obtain⟨e,rfl⟩:=aF k2;subst e;obtain⟨rfl,rfl,rfl⟩:=hob _ (Zo.2 rfl);have hcell:∃v0,(a.eval x).cells.toList=[v0]/\VRc E1 (aA (St.get (u'' ++σ))) (.h 0) 0 (.apd k' c' (pth++ [(j,off)]) U xs) v0:=by
    have:=jJ e5;cases hl:(a.eval x).cells.toList with
    |nil=>rw [hl] at this;exact this.elim
    |cons v0 rest=>
     rw [hl] at this;cases rest with
     |nil=>exact⟨v0,rfl,this.1⟩
     |cons _ _=>exact this.2.elim
   obtain⟨v0,hv0,hfl,hap⟩:=hcell
   have fin:∀ {n:Nat},(∃ad w',a.eval p= .pointer (some ad)/\(storeCells ad (a.eval x).cells.toList 0).run C.P w= .ok () w' /\(a.eval x).cells.size=n/\Hand C (u3++σ) a.tmps w' 0 r0.1 undef/\r0.2=[])->n=i.sz->
    ∃w',(execOp a.eval o).run C.P w= .ok .skip w' /\Hand C (u3++σ) a.tmps w' 0 r0.1 undef:=by
    rintro n ⟨ad,w',f1,f2,f3,f4,_⟩ hn;refine⟨w',?_,f4⟩;rw [lT ho,f1,mV hk (by grind) f2]
    rfl
   have h1sz:(1:Nat)=i.sz:=hlen;rcases hap with ⟨b',cap,rfl,hat⟩|hown
   ·exact fin (uB e4 (e1.trans hw) hfl hv0 hat (hp (.h 0) 0) k1) h1sz
   ·have e5' :VR1 E1 (aA (St.get (u'' ++σ))) (.h 0) 0 true [.sl .own U xs] (.agg (a.eval x).cells):=⟨_,rfl,by rw [hv0];exact⟨hown,trivial⟩⟩;have:=oE e4 (e1.trans hw) e5' (hp (.h 0) 0) k1;exact fin this h1sz
  ·have:=oE e4 (e1.trans hw) (p7 e5) (hp (.h 0) 0) h3;obtain⟨ad,w',f1,f2,f3,f4,_⟩:=this;refine⟨w',?_,f4⟩;rw [Zm] at f3;rw [lT ho,f1,mV hk (by grind) f2]
   rfl
 grind [aE]
end
section
variable {C:Ctx} {σ:St} {a:Act} {E:Env} {u u' :Ups} {tt:TT} {o:Oper} {md:Md} {v:AV} {ob:List Prop} {ty:TypeId}
def Env.less(E:Env)(hw' :Nat->Nat):Env:= { E with hw:=hw' }
theorem pN{hw' :Nat->Nat}(hi:Inv C (St.get (u++σ)) a.tmps E)(h:∀b,E.ow b≠some (.arr (.h 0) 0 [])->hw' b=E.hw b):
 Inv C (St.get (((aC,.none)::u)++σ)) a.tmps (E.less hw')/\(∀s,aA (St.get (u++σ)) s->aA (St.get (((aC,.none)::u)++σ)) s):=by
 have hb:∀s,aA (St.get (u++σ)) s->aA (St.get (((aC,.none)::u)++σ)) s:=fun s=>dX (by grind [aC])
 have st:Step E (E.less hw') (fun pl c=>pl= .h 0/\c=0) (fun _=>False) True:=
  ⟨fun b hb=>⟨fun _=>hb,fun o ho=>⟨rfl,by show o<hw' b;grind⟩⟩,
    fun b k c p hb hd=>⟨hb,h b (by grind),rfl⟩,
    fun hn=>absurd trivial hn,fun s hs _=>⟨rfl,hs,rfl⟩,rfl⟩
 have hG:∀q,aC≠q->St.get (((aC,.none)::u)++σ) q=(St.get (u++σ) q).mapC (CV.stale [aC] true):=by
  intro q hq;show St.get ((aC,_)::(u++σ)) q=_;rw [St.get_cons,Za hq];rfl
 refine⟨hi.step st rfl rfl rfl (Zn _) (fun b hlt h0=> ?_) (fun b hlt=> ?_) hi.inj (fun b s hs=> ?_) rfl (fun s hs=>⟨hb s hs,rfl⟩) (fun t=> .inr ⟨?_,rfl⟩) (fun s cs' hs=> .inr ⟨id,?_⟩),hb⟩
 ·have:=(hi.old b hlt h0).2.2;exact⟨rfl,h b (by grind),this⟩
 ·have:=hi.new b hlt;exact⟨this.1,by show hw' b=0;grind⟩
 ·have:=hi.boxhw b s hs;show hw' b=0;have hs:E.ow b=some (.box s):=hs
  grind
 ·by_cases e:aC=2*t
  ·have:St.get (((aC,.none)::u)++σ) (2*t)= .none:=by
    grind [St.get_cons]
   rw [this];trivial
  grind [AWk.map,CW.stale]
 ·have e:aC≠2*s+1:=by grind [aC]
  rw [hG _ e] at hs;cases hq:St.get (u++σ) (2*s+1) with
  |v g' cs0=>
   rw [hq] at hs;injection hs with hs1 hs2
   grind [CWs.map,CW.stale]
  |tup xs=>rw [hq] at hs;cases hs
  |none=>rw [hq] at hs;cases hs
theorem zK(hi:Inv C (St.get (u++σ)) a.tmps E){T:Ty}(hflat:T.flat=true){xs:List T.den}{n:Nat}(hn:n<=xs.length){v0:Value}(hv0:VRc E (aA (St.get (u++σ))) (.h 0) 0 (.sl .own T xs) v0):
 ∃ad cap,v0= .slice ad xs.length cap/\xs.length<=cap/\(if cap=0 then ad else ad.map (·.add (0*T.sz)))=ad/\Hand C (((aC,.none)::u)++σ) a.tmps E.w 0 (.v false [.sl .own T (xs.take n)]) (.slice ad n cap):=by
 have hv0:RdP E.w (okF E (.h 0) 0 .own) (qF E (.h 0) 0 .own) v0 (.sl T.sz (xs.map T.toD)):=hv0;obtain⟨news,s1,s2,s3⟩:=iQ (P:=C.P) hv0 (Ty.sz_pos T);obtain⟨ad,cap,rfl,hcap⟩:=hv0.shape;have hq:Tip E (.arr (.h 0) 0 []) (.slice ad (xs.map T.toD).length cap) T.sz:=hv0.top;rw [Zm] at hcap hq s2 ⊢
 match ad,hq with
 |none,hq=>
  obtain⟨h0,rfl⟩:xs.length=0/\cap=0:=hq;have hx:xs=[]:=Z3.1 h0;subst hx;have hn0:n=0:=by grind
  subst hn0;obtain⟨hi2,_⟩:=pN (hw' :=E.hw) hi (fun b _=>rfl);exact⟨none,0,rfl,hcap,by simp,E.less E.hw,rfl,hi2,RdP.nil none 0 T.sz ⟨rfl,rfl⟩,trivial⟩
 |some ⟨b,off,sp⟩,hq=>
  match off,sp,hq with
  |_+1,_,hq=>exact hq.elim
  |0,some _,hq=>exact hq.elim
  |0,none,hq=>
   obtain⟨q1,q2,q3,cs,cty,lo,hi',q4,q5,q6⟩:=hq
   obtain⟨hi2,_⟩:=pN (hw' :=fun b' =>if b' =b then n*T.sz else E.hw b') hi (fun b' hb' =>by
    grind)
   refine⟨_,cap,rfl,hcap,by simp [dU],E.less (fun b' =>if b' =b then n*T.sz else E.hw b'),rfl,hi2,?_,trivial⟩
   have hTip:Tip (E.less fun b' =>if b' =b then n*T.sz else E.hw b') (.arr (.h 0) 0 []) (.slice (some ⟨b,0,none⟩) n cap) T.sz:=
    ⟨q1,by simp [Env.less],by omega,cs,cty,lo,hi',q4,q5,q6⟩
   refine eP (cs:=cs) (ty:=cty) (fr:=(lo,hi')) q4 (by grind) (by omega) (fun r hr=> ?_) hTip (fun o ho=>⟨by show o<(if b=b then n*T.sz else E.hw b);grind,q1⟩) (fun i j hi hj=> ?_)
   ·grind [Ty.toD_length]
   ·have hlt:i<xs.length:=by grind
    have e:((xs.take n).map T.toD)[i]=(xs.map T.toD)[i]'(by grind):=by simp
    have hj' :j<((xs.map T.toD)[i]'(by grind)).length:=by grind
    obtain⟨u1,g1,g2⟩:=s3 i j (by grind) hj';refine⟨u1,?_,?_⟩
    ·grind [World.cell?]
    ·have e2:(((xs.take n).map T.toD)[i])[j]=((xs.map T.toD)[i]'(by grind))[j]:=by grind
     rw [e2];refine g2.flat ?_
     grind [Ty.flat_toD]
theorem y4{w:World}(htt:aP C.P tt)(hi:Inv C (St.get (u++σ)) a.tmps E)(hw:E.w=w){t:TypeId}{x y:Operand}(ho:o.op= .slice t x none (some y) none)
 {i:TI} (hti:tt.get t=some i) {T:Ty} {xs:List T.den} {k:IntKind} {n:Int} {u1 u2:Ups} {p:AV} (h1:Mr (opd tt .take t x) σ u=some (p,u1)) (hp:p= .v false [.sl .own T xs])
 (h2:Mr (opc tt 0 y) σ u1=some (.int k n,u2)) (hfit:gG i (.sl .own T xs)=true) (hflat:T.flat=true) (hob:0<=n/\n<=xs.length):
 Good C (((aC,.none)::u2)++σ) a w o (.v false [.sl .own T (xs.take n.toNat)]):=by
 subst hp;obtain⟨E1,e1,e2,e3,e4,e5,e6⟩:=eI hi 0 h1;obtain⟨rfl,hy⟩:=bO e4 h2;have hy0:a.eval y= .int k n:=hy (.h 0) 0;obtain⟨ad,cap,hv,hcap,had,hand⟩:=zK (a:=a) e4 hflat (n:=n.toNat) (by omega) e5.1;obtain⟨e,hel⟩:=iC hfit;obtain⟨g1,te,vz,g2,g3,_⟩:=(htt t i hti).elem e T hel;refine⟨_,E1.w,?_,hand⟩;rw [lS ho,hv,<-hw,<-e1];have hb:(Instr.sliceBounds true xs.length cap none (some (.int k n)) none).run C.P E1.w= .ok (0,n.toNat,cap) E1.w:=by
  have:=d7 (P:=C.P) (w:=E1.w) (k:=k) (i:=(n.toNat:Int)) (y:=cap) (code:= .sliceAcap) ⟨by omega,by omega⟩;rw [ZQ hob.1] at this;simp [Instr.sliceBounds,this]
 have hrw:(Option.map a.eval (some y))=some (.int k n):=by grind
 rw [hrw];simp [Instr.sliceAt,run_underlying g1,Instr.slice,hb,sizeOf,typeInfo,g2,g3,dT]
 grind
end
def Dec(σ:St)(dc:List (Nat×Bool)):Prop:=∀t lit b,fP dc t=some lit->σ.get (2*t)= .v false [.bool b]->b=lit
section
variable {C:Ctx} {σ:St} {a:Act} {E:Env} {tt:TT} {con:FuncId->List Arg->CallO->Prop} {o:Oper} {md:Md} {dc:List (Nat×Bool)} {orc:Option CallO} {v:AV} {ob:List Prop} {u:Ups}
theorem xS{w:World}(htt:aP C.P tt)(hi:Inv C (St.get ([]++σ)) a.tmps E)(hw:E.w=w)(hdec:Dec σ dc)(hnc:dF o=false)(h:Mr (f7 tt con md o dc orc) σ []=some ((v,ob),u))(hob:∀p∈ob,p):
 rR C (u++σ) a w o v:=by
 unfold f7 at h;split at h
 ·rename_i x ho;obtain⟨r,u1,h1,h2⟩:=aD h;obtain⟨rfl,rfl,rfl⟩:=cC h2;exact .inl (pP hi hw (.inl ho) h1)
 ·rename_i x ho;obtain⟨r,u1,h1,h2⟩:=aD h;obtain⟨rfl,rfl,rfl⟩:=cC h2;exact .inl (pP hi hw (.inr ho) h1)
 ·rename_i c x y ho;split at h
  ·rename_i t;obtain⟨r,u1,h1,h2⟩:=aD h;obtain⟨rfl,rfl⟩:=bT h1;split at h2
   ·rename_i b hb;have hv:=hi.tmp t;rw [hb] at hv;have he:a.eval (.tmp t)= .bool b:=hv.1;split at h2
    ·rename_i hd;obtain⟨r,u2,h3,h4⟩:=aD h2;obtain⟨rfl,rfl,rfl⟩:=cC h4;have:=hdec _ _ _ hd hb;subst this;exact .inl (qJ hi hw he ho h3)
    ·rename_i hd;obtain⟨r,u2,h3,h4⟩:=aD h2;obtain⟨rfl,rfl,rfl⟩:=cC h4;have:=hdec _ _ _ hd hb;subst this;exact .inl (qJ hi hw he ho h3)
    grind [aE]
   grind [aE]
  grind [aE]
 ·rename_i t ho;split at h
  ·rename_i i d hti hdst;split at h
   ·rename_i z hz;obtain⟨r,u1,h1,h2⟩:=aD h;obtain⟨rfl,rfl⟩:=bT h1;split at h2
    ·rename_i hg;obtain⟨_,u2,h3,h4⟩:=aD h2;obtain rfl:=bP h3;obtain⟨rfl,rfl,rfl⟩:=aQ h4;exact .inl (sH htt hi hw ho hti hz hg)
    grind [aE]
   grind [aE]
  grind [aE]
 ·rename_i t x ho;split at h
  ·rename_i i d hti hdst;obtain⟨cs,u1,h1,h2⟩:=aD h;obtain⟨r,u2,h3,h4⟩:=aD h2;obtain⟨rfl,rfl⟩:=bT h3;split at h4
   ·rename_i hg;obtain⟨_,u3,h5,h6⟩:=aD h4;obtain rfl:=bP h5;obtain⟨rfl,rfl,rfl⟩:=aQ h6;exact .inl (sZ hi hw ho h1 hg)
   grind [aE]
  grind [aE]
 ·rename_i t ps ho;split at h
  ·rename_i i hti;split at h
   ·rename_i z hz;obtain⟨hagg,h⟩:=aU h;obtain⟨cs,u1,h1,h2⟩:=aD h;obtain⟨rfl,rfl,rfl⟩:=cC h2;exact .inl (s8 htt hi hw ho hti hz hagg h1)
   grind [aE]
  grind [aE]
 ·rename_i t n ps ho;split at h
  ·rename_i i hti;split at h
   ·rename_i e T he;split at h
    ·obtain⟨hn,h⟩:=aU h;obtain⟨cs,u1,h1,h2⟩:=aD h;obtain⟨r,u2,h3,h4⟩:=aD h2;obtain⟨hr,rfl⟩:=cZ h3;obtain⟨rfl,rfl,rfl⟩:=aQ h4;exact .inl (s7 htt hi hw ho hti he (jL hn) h1 hr)
    grind [aE]
   grind [aE]
  grind [aE]
 ·rename_i t x ho;split at h
  ·rename_i i hti;obtain⟨c,u1,h1,h2⟩:=aD h;obtain⟨rfl,hv⟩:=bO hi h1;split at h2
   ·exact .inl (wN htt hi hw ho hti hv h2)
   ·obtain⟨hl,h2⟩:=aU h2;obtain⟨rfl,rfl,rfl⟩:=cC h2;exact .inl (wO htt hi hw ho hti (hv _ _) (jL hl))
   ·obtain⟨hl,h2⟩:=aU h2;have:=wP htt hi hw ho hti (hv _ _) (jL hl);split at h2
    ·obtain⟨rfl,rfl,rfl⟩:=cC h2;exact .inl this.1
    ·obtain⟨rfl,rfl,rfl⟩:=cC h2;exact .inl this.2
    grind [aE]
   grind [aE]
  grind [aE]
 ·rename_i t p x ho;split at h
  ·rename_i i hti;obtain⟨vs,u1,h1,h2⟩:=aD h;obtain⟨c,u2,h3,h4⟩:=aD h2;obtain⟨hl,h4⟩:=aU h4;obtain⟨w',r1,r2⟩:=zB htt hi hw ho hti h1 h3 (Zj hl) (r:=(v,ob)) h4 hob;exact .inr ⟨w',r1,r2⟩
  grind [aE]
 ·rename_i x ho;obtain⟨c,u1,h1,h2⟩:=aD h;split at h2
  ·obtain⟨rfl,rfl,rfl⟩:=aQ h2;exact .inl (xJ hi hw ho h1)
  grind [aE]
 ·rename_i fn first caps ho
  split at h
  ·obtain⟨hf,h⟩:=aU h;obtain⟨ss,u1,h1,h2⟩:=aD h;obtain⟨rfl,rfl,rfl⟩:=aQ h2;exact .inl (wR hi hw ho hf h1)
  grind [aE]
 ·rename_i op t x y s ho;obtain⟨p,u1,h1,h2⟩:=aD h;obtain⟨rfl,hp⟩:=eH hi h1;obtain⟨q,u2,h3,h4⟩:=aD h2;obtain⟨rfl,hq⟩:=eH hi h3;exact .inl (sU htt hi hw ho hp hq h4 hob)
 ·rename_i op t x ho;obtain⟨c,u1,h1,h2⟩:=aD h;exact .inl (zN hi hw ho h1 h2)
 ·rename_i s d x ho;split at h
  ·rename_i i j hti htj;obtain⟨c,u1,h1,h2⟩:=aD h;obtain⟨rfl,hv⟩:=bO hi h1;unfold oD at h2;split at h2
   ·rename_i k n;split at h2
    ·rename_i k' hk';obtain⟨rfl,rfl,rfl⟩:=aQ h2;exact .inl (tV htt hi hw ho hti htj hk' (hv (.h 0) 0))
    grind [aE]
   ·rename_i f xs;split at h2
    ·rename_i e he;obtain⟨hj,h2⟩:=aU h2;obtain⟨rfl,rfl,rfl⟩:=aQ h2;exact .inl (tU htt hi hw ho hti htj he ((htt s i hti).u8 e he) hj (hv (.h 0) 0))
    grind [aE]
   ·rename_i st;split at h2
    ·rename_i e he;obtain⟨hs,h2⟩:=aU h2;obtain⟨rfl,rfl,rfl⟩:=aQ h2;obtain⟨t,ht,rfl⟩:=hv (.h 0) 0;exact .inl (tW htt hi hw ho hti htj he ((htt d j htj).u8 e he) hs ht)
    grind [aE]
   grind [aE]
  grind [aE]
 ·rename_i t l c ho;split at h
  ·rename_i i hti;split at h
   ·rename_i e T he;obtain⟨p,u1,h1,h2⟩:=aD h;obtain⟨rfl,hp⟩:=bO hi h1;obtain⟨q,u2,h3,h4⟩:=aD h2;obtain⟨rfl,hq⟩:=bO hi h3;split at h4
    ·obtain⟨rfl,rfl,rfl⟩:=aQ h4;exact .inl (wT htt hi hw ho hti he (hp (.h 0) 0) (hq (.h 0) 0) (hob _ (Zo.2 rfl)))
    grind [aE]
   grind [aE]
  grind [aE]
 ·rename_i t x lo hi' mx ho;split at h
  ·rename_i i hti;split at h
   ·split at h
    ·rename_i y;obtain⟨p,u1,h1,h2⟩:=aD h;obtain⟨c,u2,h3,h4⟩:=aD h2;obtain⟨hp,rfl⟩:=iU h3;obtain⟨m,u3,h5,h6⟩:=aD h4;obtain⟨hfit,h6⟩:=aU h6;split at h6
     ·obtain⟨hflat,h6⟩:=aU h6;obtain⟨_,u4,h7,h8⟩:=aD h6;obtain rfl:=bP h7;obtain⟨rfl,rfl,rfl⟩:=aQ h8;exact .inl (y4 htt hi hw ho hti h1 hp h5 hfit hflat (hob _ (Zo.2 rfl)))
     grind [aE]
    grind [aE]
   ·obtain⟨c,u1,h1,h2⟩:=aD h;obtain⟨rfl,hv⟩:=bO hi h1;obtain⟨l,u2,h3,h4⟩:=aD h2;obtain⟨rfl,hl⟩:=qE hi h3;obtain⟨m,u3,h5,h6⟩:=aD h4;obtain⟨rfl,hm⟩:=qE hi h5;obtain⟨hfit,h6⟩:=aU h6;obtain⟨r,u4,h7,h8⟩:=aD h6;obtain⟨hr,rfl⟩:=cZ h7;obtain⟨rfl,rfl,rfl⟩:=aQ h8;exact .inl (y5 htt hi hw ho hti hv hfit (l:=l) (h:=m) (by grind) (by grind) hr hob)
  grind [aE]
 ·rename_i t x f ho;split at h
  ·rename_i i hti;split at h
   ·rename_i p hp;obtain⟨c,u1,h1,h2⟩:=aD h;exact .inl (uU htt hi hw ho hti hp h1 h2)
   grind [aE]
  grind [aE]
 ·rename_i t x ix ho;split at h
  ·rename_i i hti;obtain⟨c,u1,h1,h2⟩:=aD h;obtain⟨rfl,hc⟩:=bO hi h1;obtain⟨d,u2,h3,h4⟩:=aD h2;obtain⟨rfl,hd⟩:=bO hi h3;obtain⟨hs,h4⟩:=aU h4;exact .inl (v8 htt hi hw ho hti hc hd hs h4 hob)
  grind [aE]
 ·rename_i t x ix ho;split at h
  ·rename_i j hj;obtain⟨hs,h⟩:=aU h;obtain⟨c,u1,h1,h2⟩:=aD h;obtain⟨rfl,hc⟩:=bO hi h1;obtain⟨d,u2,h3,h4⟩:=aD h2;obtain⟨rfl,hd⟩:=bO hi h3;split at h4
   ·obtain⟨rfl,rfl,rfl⟩:=aQ h4;exact .inl (wA htt hi hw ho hj hs hc hd (hob _ (Zo.2 rfl)))
   grind [aE]
  grind [aE]
 ·rename_i t x f ho;split at h
  ·rename_i k;obtain⟨r,u1,h1,h2⟩:=aD h;obtain⟨rfl,rfl⟩:=bT h1;split at h2
   ·rename_i cs i hg hti;split at h2
    ·rename_i p n hp hn;obtain⟨hl,h3⟩:=aU h2;obtain⟨rfl,rfl,rfl⟩:=cC h3;exact .inl (uV htt hi hw ho hti hp hn hg (jL hl))
    grind [aE]
   grind [aE]
  grind [aE]
 ·rename_i x i ho;split at h
  ·rename_i t;obtain⟨r,u1,h1,h2⟩:=aD h;obtain⟨rfl,rfl⟩:=bT h1;split at h2
   ·rename_i ys hg;split at h2
    ·split at h2
     ·rename_i y hy;obtain⟨rfl,rfl,rfl⟩:=cC h2;exact .inl (uR hi hw ho hg hy)
     grind [aE]
    ·dsimp only at h2;split at h2
     ·rename_i y hy;obtain⟨_,u2,h3,h4⟩:=aD h2;obtain rfl:=bP h3;obtain⟨rfl,rfl,rfl⟩:=cC h4;exact .inl (uT hi hw ho hg hy)
     grind [aE]
   grind [aE]
  grind [aE]
 ·rename_i c ho;split at h
  ·rename_i hc;split at h
   ·rename_i x t hx ht;have hs:c.argTypes.size=1:=by grind [Array.length_toList]
    have hd:c.argTypes.getD 0 0=t:=by
     rw [show c.argTypes= #[t] from Yg ht];rfl
    exact .inl (wE htt hi hw ho hc hx hd hs h)
   grind [aE]
  ·rename_i hc;split at h
   ·rename_i x y t0 t1 hx ht;split at h
    ·rename_i i j hti htj;obtain⟨p,u1,h1,h2⟩:=aD h;obtain⟨ca,u2,h3,h4⟩:=aD h2;obtain⟨hp,rfl⟩:=iU h3;obtain⟨q,u3,h5,h6⟩:=aD h4;obtain⟨cb,u4,h7,h8⟩:=aD h6;obtain⟨hq,rfl⟩:=iU h7;obtain⟨hfit,h8⟩:=aU h8;split at h8
     ·rename_i r hr;have key:∀ {u5:Ups},Mr (opd tt .cp t1 y) σ u2=some (q,u4)->Mr ((bQ aC .none).bind fun _=>aH r.1 r.2) σ u4=some ((v,ob),u5)->Good C (u5++σ) a w o v:=by
       intro u5 h5 h8;obtain⟨_,u6,h9,h10⟩:=aD h8;obtain rfl:=bP h9;obtain⟨rfl,rfl,rfl⟩:=aQ h10;exact sN htt hi hw ho hc hx ht hti htj h1 hp h5 hq hfit hr hob
      cases md with
      |take=>grind [aE]
      |cp=>exact .inl (key h5 h8)
      |ref=>exact .inl (key h5 h8)
     obtain⟨r,u5,h9,h10⟩:=aD h8;obtain⟨hr,rfl⟩:=cZ h9;obtain⟨rfl,rfl,rfl⟩:=aQ h10;exact .inl (sP htt hi hw ho hc hx ht hti htj (by grind) h1 hp h5 hq hfit hr hob)
    grind [aE]
   grind [aE]
  ·rename_i hc;split at h
   ·rename_i x y hx;obtain⟨p,u1,h1,h2⟩:=aD h;obtain⟨rfl,hp⟩:=bO hi h1;obtain⟨q,u2,h3,h4⟩:=aD h2;obtain⟨rfl,hq⟩:=bO hi h3;split at h4
    ·obtain⟨rfl,rfl,rfl⟩:=aQ h4;exact .inl ((pO hi hw ho hx hp hq).1 hc)
    grind [aE]
   grind [aE]
  ·rename_i hc;split at h
   ·rename_i x y hx;obtain⟨p,u1,h1,h2⟩:=aD h;obtain⟨rfl,hp⟩:=bO hi h1;obtain⟨q,u2,h3,h4⟩:=aD h2;obtain⟨rfl,hq⟩:=bO hi h3;split at h4
    ·obtain⟨rfl,rfl,rfl⟩:=aQ h4;exact .inl ((pO hi hw ho hx hp hq).2 hc)
    grind [aE]
   grind [aE]
  all_goals grind [dF,aE]
 grind [aE]
end
def aL:Nat->Prop:=fun _=>True
structure EnvOk (E:Env):Prop where
 new:∀b,E.w.heap.size<=b->E.ow b=none/\E.hw b=0
 inj:∀b b' l,E.ow b=some l->E.ow b' =some l->b=b'
 boxhw:∀b s,E.ow b=some (.box s)->E.hw b=0
theorem Inv.env{C:Ctx}{G:Nat->AV}{tmps:Array Value}{E:Env}(h:Inv C G tmps E):EnvOk E:=⟨h.new,h.inj,h.boxhw⟩
theorem Inv.bas{C:Ctx}{G:Nat->AV}{tmps:Array Value}{E:Env}(h:Inv C G tmps E):fH E:=fun x hx=>by
 obtain⟨h1,h2,h3,h4⟩:=h.base x hx;obtain⟨a1,a2,a3⟩:=h.old x.1 h1 h2
 grind
def bS(E:Env)(i:Nat)(b:Nat)(cs:List CV):Prop:=
 E.ow b=some (.box i)/\∃vals ty,E.w.heap[b]? =some (.cells vals ty (0,0))/\VRs E aL (.k (2*i+1)) 0 cs vals.toList
def iR(E:Env)(i:Nat):Arg->Value->Prop
 | .val a,v=>VR E aL (.k (2*i)) a v
 | .box cs,v=>v= .pointer (some ⟨E.bx i,0,none⟩)/\bS E i (E.bx i) cs
 | .gbox _,_=>False
def ArgsAt(E:Env):Nat->List Arg->List Value->Prop
 |_,[],[]=>True
 |i,.gbox cs::as,[]=>bS E (gi i) (E.bx (gi i)) cs/\ArgsAt E (i+1) as []
 |i,a::as,v::vs=>iR E i a v/\ArgsAt E (i+1) as vs
 |_,_,_=>False
def aK:Nat->List Arg->List Nat
 |_,[]=> []
 |i,.val _::as=>aK (i+1) as
 |i,.box _::as=>i::aK (i+1) as
 |i,.gbox _::as=>gi i::aK (i+1) as
def cU(E E' :Env):Nat->List Arg->List (List CV)->Prop
 |_,[],[]=>True
 |i,.val _::as,o=>cU E E' (i+1) as o
 |i,.box _::as,o::os=>bS E' i (E.bx i) o/\cU E E' (i+1) as os
 |i,.gbox _::as,o::os=>bS E' (gi i) (E.bx (gi i)) o/\cU E E' (i+1) as os
 |_,_,_=>False
def bG(k:Nat):Nat->List CV->List (Nat×Nat)
 |_,[]=> []
 |c,.sl (.lnt _) _ _::r=>(k,c)::bG k (c+1) r
 |c,_::r=>bG k (c+1) r
def bI:Nat->List Arg->List (Nat×Nat)
 |_,[]=> []
 |i,.val (.v _ cs)::r=>bG (2*i) 0 cs++bI (i+1) r
 |i,_::r=>bI (i+1) r
def fJ(E' :Env):Nat->List (Nat×Nat)->List CV->Prop
 |_,[],[]=>True
 |n,p::ps,y::ys=>(∃T xs,y= .sl (.lnt n) T xs)/\VRc E' aL (.k p.1) p.2 y (E'.hdr n)/\fJ E' (n+1) ps ys
 |_,_,_=>False
def ResAt(E:Env)(m:Nat)(a:AV)(v:Value):Prop:=
 match a.nbox with
 |some cs=>∃b,v= .pointer (some ⟨b,0,none⟩)/\bS E m b cs
 |none=>VR E aL (.h 0) a v
theorem fX{a:AV}(h:a.plain=true):a.nbox=none:=by
 unfold AV.nbox
 grind [AV.plain,CV.plain]
theorem ResAt.vr{E:Env}{m:Nat}{a:AV}{v:Value}(h:ResAt E m a v)(hn:a.nbox=none):VR E aL (.h 0) a v:=by
 grind [ResAt]
theorem ResAt.of{E:Env}{m:Nat}{a:AV}{v:Value}(h:VR E aL (.h 0) a v)(hn:a.nbox=none):ResAt E m a v:=by
 grind [ResAt]
structure ExitR (E E' :Env) (as:List Arg) (r:CallO) (v:Value):Prop where
 os:E'.w.os=E.w.os
 tape:E'.w.tape=E.w.tape
 output:E'.w.output=E.w.output
 size:E.w.heap.size<=E'.w.heap.size
 hdr:E'.hdr=E.hdr
 old:∀b,b<E.w.heap.size->E.ow b=none->E'.w.heap[b]? =E.w.heap[b]? /\E'.hw b=E.hw b/\E'.ow b=none
 env:EnvOk E'
 res:ResAt E' as.length r.res v
 outs:cU E E' 0 as r.outs
 lents:fJ E' 0 (bI 0 as) r.lents
 bx:∀s,s∈aK 0 as->E'.bx s=E.bx s
def Does(P:Program)(f:FuncId)(args:Array Value)(w:World)(R:Value->World->Prop):Prop:=
 (∃v w',(callFunc f args).run P w= .ok (.value v) w' /\R v w')\/
   ((callFunc f args).run P w= .ok (.enter f args) w/\Calls P f args w fun e w' =>match e with | .returned v=>R v w' |_=>False)
theorem Does.mono{P:Program}{f:FuncId}{args:Array Value}{w:World}{R R' :Value->World->Prop}(h:Does P f args w R)(hr:∀v w',R v w' ->R' v w'):Does P f args w R' :=by
 rcases h with ⟨v,w',h1,h2⟩|⟨h1,h2⟩
 ·exact .inl ⟨v,w',h1,hr _ _ h2⟩
 ·exact .inr ⟨h1,Calls.mono h2 fun e w' he=>by grind⟩
def AbsCalls(P:Program)(f:FuncId)(as:List Arg)(r:CallO):Prop:=
 ∀(E:Env) (args:Array Value),EnvOk E->fH E->ArgsAt E 0 as args.toList->Does P f args E.w fun v w' =>∃E',E'.w=w' /\ExitR E E' as r v
structure Pass (π ρ d:Own->Option Own):Prop where
 pinj:∀l1 l2 l,π l1=some l->π l2=some l->l1=l2
 rinj:∀l1 l2 l,ρ l1=some l->ρ l2=some l->l1=l2
 back:∀l l',π l=some l' ->ρ l' =some l
 drop:∀l,((∃l',ρ l' =some l)/\d l=none)\/((∀l',ρ l' ≠some l)/\d l=some l)
 boxp:∀l i,π l=some (.box i)->∃s,l= .box s
 boxr:∀l s,ρ l=some (.box s)->∃i,l= .box i
theorem iL{α β:Type}(S:α->β->Prop)(h:∀a b b',S a b->S a b' ->b=b'):∃f:α->Option β,∀a b,f a=some b↔S a b:=by
 refine⟨fun a=>Classical.choose (p:=fun o:Option β=>∀b,o=some b↔S a b) ?_,fun a=>Yq (p:=fun o:Option β=>∀b,o=some b↔S a b) _⟩;by_cases he:∃b,S a b
 ·obtain⟨b,hb⟩:=he;exact⟨some b,fun b' =>⟨fun e=>by grind,fun hb' =>by grind⟩⟩
 ·exact⟨none,fun b=>⟨fun e=>(by cases e),fun hb=>absurd ⟨b,hb⟩ he⟩⟩
theorem Pass.of_rel(S S2:Own->Own->Prop)(f1:∀l a b,S l a->S l b->a=b)(f2:∀a b l,S a l->S b l->a=b)
 (g1:∀l a b,S2 l a->S2 l b->a=b) (g2:∀a b l,S2 a l->S2 b l->a=b) (sub:∀a b,S a b->S2 a b)
 (bx:∀l i,S2 l (.box i)->∃s,l= .box s) (br:∀s l,S2 (.box s) l->∃i,l= .box i):
 ∃π ρ d,Pass π ρ d/\(∀l l',π l=some l' ↔S l l')/\(∀l' l,ρ l' =some l↔S2 l l'):=by
 obtain⟨π,hπ⟩:=iL S f1;obtain⟨ρ,hρ⟩:=iL (fun a b=>S2 b a) (fun a b b' h1 h2=>g2 _ _ _ h1 h2);obtain⟨d,hd⟩:=iL (fun a b:Own=>a=b/\∀l',ρ l' ≠some a) (fun a b b' h1 h2=>h1.1.symm.trans h2.1)
 refine⟨π,ρ,d,⟨fun l1 l2 l h1 h2=>f2 _ _ _ ((hπ _ _).1 h1) ((hπ _ _).1 h2),fun l1 l2 l h1 h2=>g1 _ _ _ ((hρ _ _).1 h1) ((hρ _ _).1 h2),
  fun l l' h=>(hρ _ _).2 (sub _ _ ((hπ _ _).1 h)),fun l=> ?_,fun l i h=>bx _ _ (sub _ _ ((hπ _ _).1 h)),fun l s h=>br _ _ ((hρ _ _).1 h)⟩,hπ,hρ⟩
 by_cases he:∃l',ρ l' =some l
 ·refine .inl ⟨he,?_⟩;cases hdl:d l with
  |none=>rfl
  |some x=>
   grind
 grind
def Env.into(E:Env)(π:Own->Option Own)(hide:Bool)(bx:Nat->Nat)(hdr:Nat->Value):Env:=
 { w:=E.w,ow:=fun b=>(E.ow b).bind π,hw:=fun b=>if hide=true/\(E.ow b).isSome=true/\(E.ow b).bind π=none then 0 else E.hw b,bx:=bx,hdr:=hdr }
def Env.frame(E:Env)(π:Own->Option Own)(b:Nat):Prop:=b<E.w.heap.size/\(E.ow b).bind π=none
instance (E:Env) (π:Own->Option Own) (b:Nat):Decidable (E.frame π b):=by unfold Env.frame;exact inferInstance
def Env.back(E E' :Env)(π ρ d:Own->Option Own):Env:=
 { w:=E'.w,ow:=fun b=>if E.frame π b then(E.ow b).bind d else(E'.ow b).bind ρ,hw:=fun b=>if E.frame π b then E.hw b else E'.hw b,bx:=E.bx,hdr:=E.hdr }
def dkC(ρ:Own->Option Own):Pl->Nat->Prop:=fun pl c=>∃p l',ρ l' =some (.arr pl c p)
def dbC(ρ:Own->Option Own):Nat->Prop:=fun s=>∃l',ρ l' =some (.box s)
section
variable {E E' :Env} {π ρ d:Own->Option Own} {hide:Bool} {bx:Nat->Nat} {hdr:Nat->Value}
theorem eZ(hp:Pass π ρ d)(h:EnvOk E):EnvOk (E.into π hide bx hdr) where
 new:=fun b hb=>by
  have:=h.new b hb
  grind [Env.into]
 inj:=fun b b' l h1 h2=>by
  simp only [Env.into,Zq] at h1 h2;obtain⟨l1,a1,c1⟩:=h1;obtain⟨l2,a2,c2⟩:=h2;have:=hp.pinj _ _ _ c1 c2;subst this;exact h.inj _ _ _ a1 a2
 boxhw:=fun b s hb=>by
  simp only [Env.into] at hb ⊢;have:E.hw b=0:=by
   rw [Zq] at hb;obtain⟨l,a1,c1⟩:=hb;obtain⟨s',rfl⟩:=hp.boxp _ _ c1;exact h.boxhw b s' a1
  grind
theorem eY(h:fH E):fH (E.into π hide bx hdr):=fun x hx=>by
 obtain⟨h1,h2,h3,h4⟩:=h x hx
 grind [Env.into]
theorem jW(hp:Pass π ρ d){l1 l:Own}(h:d l1=some l):l=l1/\∀l',ρ l' ≠some l:=by
 rcases hp.drop l1 with ⟨_,h1⟩|⟨h1,h2⟩
 all_goals grind
theorem fL(hp:Pass π ρ d)(h:EnvOk E)(h' :EnvOk E')(hs:E.w.heap.size<=E'.w.heap.size):EnvOk (E.back E' π ρ d) where
 new:=fun b hb=>by
  have hb' :E'.w.heap.size<=b:=hb;have hf:¬E.frame π b:=fun hf=>by have:=hf.1;omega
  have:=h'.new b hb'
  grind [Env.back]
 inj:=fun b b' l h1 h2=>by
  simp only [Env.back] at h1 h2;have mixed:∀ {b b' :Nat},(E.ow b).bind d=some l->(E'.ow b').bind ρ=some l->False:=by
   intro b b' g1 g2;simp only [Zq] at g1 g2;obtain⟨l1,a1,c1⟩:=g1;obtain⟨l2,a2,c2⟩:=g2;exact(jW hp c1).2 _ c2
  split at h1 <;>split at h2
  ·simp only [Zq] at h1 h2;obtain⟨l1,a1,c1⟩:=h1;obtain⟨l2,a2,c2⟩:=h2;have e1:=(jW hp c1).1;have e2:=(jW hp c2).1;exact h.inj _ _ _ a1 (by grind)
  ·grind
  ·grind
  ·simp only [Zq] at h1 h2;obtain⟨l1,a1,c1⟩:=h1;obtain⟨l2,a2,c2⟩:=h2;have:=hp.rinj _ _ _ c1 c2;subst this;exact h'.inj _ _ _ a1 a2
 boxhw:=fun b s hb=>by
  simp only [Env.back] at hb ⊢;split at hb
  ·rename_i hf;rw [Zt hf];rw [Zq] at hb;obtain⟨l,a1,c1⟩:=hb;obtain⟨rfl,_⟩:=jW hp c1;exact h.boxhw b s a1
  ·rename_i hf;rw [Za hf];rw [Zq] at hb;obtain⟨l,a1,c1⟩:=hb;obtain⟨i,rfl⟩:=hp.boxr _ _ c1;exact h'.boxhw b i a1
theorem fM(hp:Pass π ρ d)(h:EnvOk E)
 (hold:∀b,b<E.w.heap.size->(E.into π hide bx hdr).ow b=none->E'.w.heap[b]? =E.w.heap[b]? /\E'.hw b=(E.into π hide bx hdr).hw b/\E'.ow b=none)
 {mu:Prop} (hmu:¬mu->∀b l l',E.ow b=some l->π l=some l' ->E.hw b=0):Step E (E.back E' π ρ d) (dkC ρ) (dbC ρ) mu where
 ro:=fun b hb=>by
  by_cases hlt:b<E.w.heap.size
  ·have hf:E.frame π b:=⟨hlt,by grind⟩;obtain⟨a1,a2,a3⟩:=hold b hlt (by grind [Env.into]);exact⟨fun _=>by grind [Env.back],fun o ho=>⟨bD a1 o,by grind [Env.back]⟩⟩
  ·have:=h.new b (by omega)
   grind
 own:=fun b k c p hb hd=>by
  have hlt:b<E.w.heap.size:=by
   rcases Yj b E.w.heap.size with h1|h1
   ·grind
   ·rw [(h.new b h1).1] at hb;grind
  have hpi:π (.arr k c p)=none:=by
   cases hq:π (.arr k c p) with
   |none=>rfl
   |some l=>exact absurd ⟨p,l,hp.back _ _ hq⟩ hd
  have hf:E.frame π b:=⟨hlt,by grind⟩;obtain⟨a1,a2,a3⟩:=hold b hlt (by grind [Env.into]);refine⟨?_,by grind [Env.back],a1⟩;simp only [Env.back,Zt hf,hb,jS];rcases hp.drop (.arr k c p) with ⟨⟨l',hl'⟩,_⟩|⟨_,h2⟩
  ·exact absurd ⟨p,l',hl'⟩ hd
  grind
 bor:=fun hm b o ho=>by
  have hlt:b<E.w.heap.size:=by
   rcases Yj b E.w.heap.size with h1|h1
   ·grind
   ·rw [(h.new b h1).2] at ho;omega
  have hpi:(E.ow b).bind π=none:=by
   cases hq:E.ow b with
   |none=>rfl
   |some l=>
    cases hr:π l with
    |none=>grind
    |some l' =>grind
  have hf:E.frame π b:=⟨hlt,hpi⟩;obtain⟨a1,a2,a3⟩:=hold b hlt hpi
  grind [bD,Env.back]
 box:=fun s hs hd=>by
  have hlt:E.bx s<E.w.heap.size:=by
   rcases Yj (E.bx s) E.w.heap.size with h1|h1
   ·grind
   ·rw [(h.new _ h1).1] at hs;grind
  have hpi:π (.box s)=none:=by
   cases hq:π (.box s) with
   |none=>rfl
   |some l=>exact absurd ⟨l,hp.back _ _ hq⟩ hd
  have hf:E.frame π (E.bx s):=⟨hlt,by grind⟩;obtain⟨a1,a2,a3⟩:=hold _ hlt (by grind [Env.into]);refine⟨rfl,?_,a1⟩;simp only [Env.back,Zt hf,hs,jS];rcases hp.drop (.box s) with ⟨⟨l',hl'⟩,_⟩|⟨_,h2⟩
  ·exact absurd ⟨l',hl'⟩ hd
  grind
 hdr:=rfl
inductive Goes (E:Env) (π:Own->Option Own) (hide:Bool) (hdr:Nat->Value) (pl pl' :Pl) (c c' :Nat) (v:Value):CV->CV->Prop where
 |same (x:CV) (h:match x with | .int _ _=>True| .bool _=>True| .str _=>True| .val _=>True| .undef=>True|_=>False):Goes E π hide hdr pl pl' c c' v x x
 |undef (x:CV):Goes E π hide hdr pl pl' c c' v x .undef
 |ro (T:Ty) (xs:List T.den):Goes E π hide hdr pl pl' c c' v (.sl .ro T xs) (.sl .ro T xs)
 |own (T:Ty) (xs:List T.den) (h:∀p,π (.arr pl c p)=some (.arr pl' c' p)):Goes E π hide hdr pl pl' c c' v (.sl .own T xs) (.sl .own T xs)
 |tip (T:Ty) (xs:List T.den) (h:∀p,π (.arr pl c p)=some (.arr pl' c' p)):Goes E π hide hdr pl pl' c c' v (.sl .tip T xs) (.sl .tip T xs)
 |bor (T:Ty) (xs:List T.den) (h:hide=false/\∀k c p,π (.arr k c p)=none):Goes E π hide hdr pl pl' c c' v (.sl .bor T xs) (.sl .ro T xs)
 |al (k1 c1:Nat) (p1:List (Nat×Nat)) (T:Ty) (xs:List T.den) (h:hide=false/\∀k c p,π (.arr k c p)=none):Goes E π hide hdr pl pl' c c' v (.sl (.al k1 c1 p1) T xs) (.sl .ro T xs)
 |lnt (k1 c1 n:Nat) (p1:List (Nat×Nat)) (T:Ty) (xs:List T.den) (h:(∀n c,v≠ .slice none n c)->∀q,π (.arr (.k k1) c1 (p1++q))=some (.arr pl' c' q)) (hv:v=hdr n):
   Goes E π hide hdr pl pl' c c' v (.sl (.al k1 c1 p1) T xs) (.sl (.lnt n) T xs)
theorem Tip.into{l l' :Own}(hm:π l=some l'){v:Value}{sz:Nat}(h:Tip E l v sz):Tip (E.into π hide bx hdr) l' v sz:=by
 unfold Tip at h ⊢
 grind [Env.into]
theorem bC(he:EnvOk E){bxs:Nat->Prop}{pl pl' :Pl}{c c' :Nat}{v:Value}{x x' :CV}(hg:Goes E π hide hdr pl pl' c c' v x x')(hv:VRc E bxs pl c x v):
 VRc (E.into π hide bx hdr) aL pl' c' x' v:=by
 have hown:∀b l l',E.ow b=some l->π l=some l' ->(E.into π hide bx hdr).ow b=some l' /\(E.into π hide bx hdr).hw b=E.hw b:=by
  grind [Env.into]
 have hro:∀b,E.ow b=none->(E.into π hide bx hdr).ow b=none/\(E.into π hide bx hdr).hw b=E.hw b:=by
  grind [Env.into]
 have hbor:(hide=false/\∀k c p,π (.arr k c p)=none)->∀b o,o<E.hw b->(E.into π hide bx hdr).ow b=none/\o<(E.into π hide bx hdr).hw b:=by
  intro h b o ho;have h1:(E.into π hide bx hdr).hw b=E.hw b:=by grind [Env.into]
  refine⟨?_,by grind⟩;show(E.ow b).bind π=none;cases hl:E.ow b with
  |none=>rfl
  |some l=>
   cases l with
   |box s=>have:=he.boxhw b s hl;omega
   |arr k c p=>grind
 cases hg with
 |same _ hx=>cases x <;>first |exact hv|grind
 |undef=>exact hv.one
 |ro T xs=>
  exact RdP.mono hv (fun p b o ho=>⟨rfl,by rw [(hro b ho.2).2];exact ho.1,(hro b ho.2).1⟩) (fun _ _ _ _=>trivial)
 |own T xs h=>
  exact RdP.mono hv (fun p b o ho=>⟨rfl,by rw [(hown b _ _ ho.2 (h p)).2];exact ho.1,(hown b _ _ ho.2 (h p)).1⟩) (fun p v sz ht=>Tip.into (h p) ht)
 |tip T xs h=>
  refine RdP.mono hv (fun p b o ho=>⟨rfl,?_⟩) (fun p v sz ht hp=>Tip.into (h p) (ht hp));by_cases hp:p=[]
  ·have:=hown b _ _ (ho.2.1 hp) (h p);exact⟨by rw [this.2];exact ho.1,fun _=>this.1,fun hn=>absurd hp hn⟩
  ·have:=hro b (ho.2.2 hp);exact⟨by rw [this.2];exact ho.1,fun hn=>absurd hn hp,fun _=>this.1⟩
 |bor T xs h=>
  exact RdP.mono hv (fun p b o ho=>⟨rfl,(hbor h b o ho).2,(hbor h b o ho).1⟩) (fun _ _ _ _=>trivial)
 |al k1 c1 p1 T xs h=>
  exact RdP.mono hv (fun p b o ho=>⟨rfl,(hbor h b o ho.1).2,(hbor h b o ho.1).1⟩) (fun _ _ _ _=>trivial)
 |lnt k1 c1 n p1 T xs h hh=>
  by_cases hn:∀n c,v≠ .slice none n c
  case neg=>
   have hn' :∃n c,v= .slice none n c:=by
    grind
   obtain⟨n',c2,rfl⟩:=hn';have hq:Tip E (.arr (.k k1) c1 (p1++ [])) (.slice none n' c2) T.sz:=by
    have hv:RdP E.w _ _ _ _:=hv;exact hv.top
   obtain⟨rfl,rfl⟩:=hq;have hxs:xs=[]:=by
    obtain⟨ad,cap,e,_⟩:=RdP.shape hv
    grind
   subst hxs;exact RdP.nil none 0 T.sz ⟨⟨rfl,rfl⟩,fun _=>hh⟩
  have h:=h hn;refine RdP.mono (RdP.topq hv) (fun p b o ho=>⟨rfl,by rw [(hown b _ _ ho.2 (h p)).2];exact ho.1,(hown b _ _ ho.2 (h p)).1⟩) (fun p v' sz ht=>⟨Tip.into (h p) ht.1,fun hp=> ?_⟩);exact(ht.2 hp).trans hh
inductive Comes' (ρ:Own->Option Own) (hide:Bool) (pl' pl:Pl) (c' c:Nat):CV->CV->Prop where
 |same (x:CV) (h:match x with | .int _ _=>True| .bool _=>True| .str _=>True| .val _=>True| .undef=>True|_=>False):Comes' ρ hide pl' pl c' c x x
 |undef (x:CV):Comes' ρ hide pl' pl c' c x .undef
 |ro (T:Ty) (xs:List T.den) (h:hide=true):Comes' ρ hide pl' pl c' c (.sl .ro T xs) (.sl .ro T xs)
 |bor (T:Ty) (xs:List T.den):Comes' ρ hide pl' pl c' c (.sl .ro T xs) (.sl .bor T xs)
 |tipbor (T:Ty) (xs:List T.den):Comes' ρ hide pl' pl c' c (.sl .tip T xs) (.sl .bor T xs)
 |own (T:Ty) (xs:List T.den) (h:∀p,ρ (.arr pl' c' p)=some (.arr pl c p)):Comes' ρ hide pl' pl c' c (.sl .own T xs) (.sl .own T xs)
 |tip (T:Ty) (xs:List T.den) (h:∀p,ρ (.arr pl' c' p)=some (.arr pl c p)) (hh:hide=true):Comes' ρ hide pl' pl c' c (.sl .tip T xs) (.sl .tip T xs)
section
variable (hold:∀b,b<E.w.heap.size->(E.into π hide bx hdr).ow b=none->E'.w.heap[b]? =E.w.heap[b]? /\E'.hw b=(E.into π hide bx hdr).hw b/\E'.ow b=none)
include hold
theorem dB{b:Nat}{l' l:Own}(h1:E'.ow b=some l')(h2:ρ l' =some l):(E.back E' π ρ d).ow b=some l/\(E.back E' π ρ d).hw b=E'.hw b:=by
 have hf:¬E.frame π b:=fun hf=>by
  have:=(hold b hf.1 hf.2).2.2
  grind
 grind [Env.back]
theorem i7{b o:Nat}(h:o<E'.hw b):o<(E.back E' π ρ d).hw b:=by
 by_cases hf:E.frame π b
 ·have:=(hold b hf.1 hf.2).2.1
  grind [Env.back,Env.into]
 grind [Env.back]
theorem nT{b o:Nat}(hh:hide=true)(h1:E'.ow b=none)(h:o<E'.hw b):(E.back E' π ρ d).ow b=none:=by
 by_cases hf:E.frame π b
 ·have:=(hold b hf.1 hf.2).2.1;rw [this] at h;simp only [Env.back,Zt hf];cases hl:E.ow b with
  |none=>rfl
  |some l=>
   have h2:=hf.2
   grind [Env.into]
 grind [Env.back]
theorem Tip.back{l' l:Own}(hm:ρ l' =some l){v:Value}{sz:Nat}(h:Tip E' l' v sz):Tip (E.back E' π ρ d) l v sz:=by
 unfold Tip at h ⊢;split at h
 ·obtain⟨h1,h2,h3⟩:=h;have:=dB (d:=d) hold h1 hm;exact⟨this.1,this.2.trans h2,h3⟩
 all_goals grind
theorem cK{bxs:Nat->Prop}{pl pl' :Pl}{c c' :Nat}{v:Value}{x x' :CV}(hg:Comes' ρ hide pl' pl c' c x x')(hv:VRc E' aL pl' c' x v):
 VRc (E.back E' π ρ d) bxs pl c x' v:=by
 cases hg with
 |same _ hx=>cases x <;>first |exact hv|grind
 |undef=>exact hv.one
 |ro T xs h=>
  exact RdP.mono hv (fun p b o ho=>⟨rfl,i7 hold ho.1,nT hold h ho.2 ho.1⟩) (fun _ _ _ _=>trivial)
 |bor T xs=>exact RdP.mono hv (fun p b o ho=>⟨rfl,i7 hold ho.1⟩) (fun _ _ _ _=>trivial)
 |tipbor T xs=>exact RdP.mono hv (fun p b o ho=>⟨rfl,i7 hold ho.1⟩) (fun _ _ _ _=>trivial)
 |own T xs h=>
  exact RdP.mono hv (fun p b o ho=>⟨rfl,by rw [(dB (d:=d) hold ho.2 (h p)).2];exact ho.1,(dB hold ho.2 (h p)).1⟩) (fun p v sz ht=>Tip.back hold (h p) ht)
 |tip T xs h hh=>
  refine RdP.mono hv (fun p b o ho=>⟨rfl,i7 hold ho.1,fun hp=> ?_,fun hp=> ?_⟩) (fun p v sz ht hp=>Tip.back hold (h p) (ht hp))
  ·exact(dB hold (ho.2.1 hp) (h p)).1
  ·exact nT hold hh (ho.2.2 hp) ho.1
end
end
theorem RdP.nilRo{w:World}{ok:List (Nat×Nat)->Nat->Nat->Prop}{q:List (Nat×Nat)->Value->Nat->Prop}{v:Value}{sz:Nat}(h:RdP w ok q v (.sl sz []))
 {w' :World} {ok' :List (Nat×Nat)->Nat->Nat->Prop}:RdP w' ok' (fun _ _ _=>True) v (.sl sz []):=by
 grind [RdP.shape,nil]
structure ArgsOk (E:Env) (G:Nat->AV) (as:List Arg) (ks:List Nat) (vs:List Value):Prop where
 len:as.length=vs.length
 val:∀(j:Nat) (x:AV) (v:Value),as[j]? =some (.val x)->vs[j]? =some v->(∃g cs,x= .v g cs)/\∀pl,VR E (aA G) pl x v
 box:∀(j:Nat) (cs:List CV) (v:Value),as[j]? =some (.box cs)->vs[j]? =some v->∃s,ks=[s]/\v= .pointer (some ⟨E.bx s,0,none⟩)/\G (2*s+1)= .v true cs
 one:∀(j j' :Nat) (cs cs' :List CV),as[j]? =some (.box cs)->as[j']? =some (.box cs')->j=j'
 has:∀s,s∈ks->ks=[s]/\∃(j:Nat) (cs:List CV),as[j]? =some (.box cs)
 ng:∀(j:Nat) (cs:List CV),as[j]? ≠some (.gbox cs)
section
variable {C:Ctx} {σ:St} {a:Act} {E:Env} {u u' :Ups} {tt:TT}
theorem i8(hi:Inv C (St.get (u++σ)) a.tmps E):∀(xs:List Operand) (tys:List TypeId) (r:List Arg×List Nat) (u' :Ups),
 Mr (gS tt xs tys) σ u=some (r,u')->u' =u/\ArgsOk E (St.get (u++σ)) r.1 r.2 (xs.map a.eval):=by
 intro xs
 induction xs with
 |nil=>
  intro tys r u' h;obtain⟨rfl,rfl⟩:=aF h;exact⟨rfl,⟨rfl,by simp,by simp,by simp,by simp,by simp⟩⟩
 |cons x xs ih=>
  intro tys r u' h;obtain⟨p,u1,h1,h2⟩:=aD h;obtain⟨rfl,hp⟩:=ih _ _ _ h1;obtain⟨b,u2,h3,h4⟩:=aD h2;obtain⟨rfl,hb⟩:=eH hi h3;have vals:∀(g:Bool) (cs:List CV),b= .v g cs->r=(.val (.v g cs)::p.1,p.2)->ArgsOk E (St.get (u2++σ)) r.1 r.2 ((x::xs).map a.eval):=by
   intro g cs e1 e2;subst e1 e2;refine⟨by simp [hp.len],fun j y v hj hv=> ?_,fun j y v hj hv=> ?_,fun j j' y y' hj hj' => ?_,fun s hs=> ?_,fun j y hj=> ?_⟩
   ·cases j with
    |zero=>grind
    |succ j=>exact hp.val j y v (by grind) (by grind)
   ·cases j with
    |zero=>grind
    |succ j=>exact hp.box j y v (by grind) (by grind)
   ·cases j with
    |zero=>grind
    |succ j=>cases j' with
     |zero=>grind
     |succ j' =>rw [hp.one j j' y y' (by grind) (by grind)]
   ·obtain⟨e,j,y,hj⟩:=hp.has s hs;exact⟨e,j+1,y,by grind⟩
   ·cases j with
    |zero=>grind
    |succ j=>exact hp.ng j y (by grind)
  split at h4
  ·rename_i s;obtain⟨cs,u3,h5,h6⟩:=aD h4;unfold dC at h5;obtain⟨b2,u4,h7,h8⟩:=aD h5;obtain⟨rfl,rfl⟩:=bT h7;have h8' :St.get (u4++σ) (2*s+1)= .v true cs/\u3=u4:=by
    grind [aF,aE]
   obtain⟨hg,rfl⟩:=h8';split at h6
   ·rename_i hks;obtain⟨rfl,rfl⟩:=aF h6;have nob:∀(j:Nat) (y:List CV),p.1[j]? ≠some (.box y):=by
     intro j y hj;have hl:j<(xs.map a.eval).length:=by rw [<-hp.len];grind
     obtain⟨s,e,_⟩:=hp.box j y _ hj (Zv hl)
     grind
    refine⟨rfl,⟨by simp [hp.len],fun j y v hj hv=> ?_,fun j y v hj hv=> ?_,fun j j' y y' hj hj' => ?_,fun s' hs=> ?_,fun j y hj=> ?_⟩⟩
    ·cases j with
     |zero=>grind
     |succ j=>exact hp.val j y v (by grind) (by grind)
    ·cases j with
     |zero=>
      simp at hj hv;subst hj hv;exact⟨s,rfl,(hb (.h 0)).1.1,hg⟩
     |succ j=>grind
    ·grind
    ·simp at hs;subst hs;exact⟨rfl,0,cs,rfl⟩
    ·cases j with
     |zero=>grind
     |succ j=>exact hp.ng j y (by grind)
   grind [aE]
  all_goals grind [aF,aE]
theorem nC{E:Env}:∀ {as:List Arg} {vs:List Value} {i:Nat},as.length=vs.length->(∀(j:Nat) (x:Arg) (v:Value),as[j]? =some x->vs[j]? =some v->iR E (i+j) x v)->ArgsAt E i as vs:=by
 intro as
 induction as with
 |nil=>grind [ArgsAt]
 |cons x as ih=>
  intro vs i hl h;cases vs with
  |nil=>grind
  |cons v vs=>
   have h0:=h 0 x v rfl rfl;have ht:ArgsAt E (i+1) as vs:=ih (by grind) fun j y w h1 h2=>by rw [show i+1+j=i+(j+1) from by omega];simp_all
   cases x with
   |val a=>exact⟨h0,ht⟩
   |box cs=>exact⟨h0,ht⟩
   |gbox cs=>exact h0.elim
theorem sC{E E' :Env}:∀ {as:List Arg} {k:Nat} {outs:List (List CV)},cU E E' k as outs->(∀(j:Nat) (cs:List CV),as[j]? ≠some (.box cs)/\as[j]? ≠some (.gbox cs))->outs=[]:=by
 intro as
 induction as with
 |nil=>grind [cU]
 |cons x as ih=>
  intro k outs h hn;cases x with
  |box cs=>exact absurd rfl (hn 0 cs).1
  |gbox cs=>exact absurd rfl (hn 0 cs).2
  |val y=>exact ih (k:=k+1) h fun j cs=>by simpa using hn (j+1) cs
theorem nF{E E' :Env}:∀ {as:List Arg} {k j:Nat} {cs:List CV} {outs:List (List CV)},cU E E' k as outs->as[j]? =some (.box cs)->(∀(j' :Nat) (cs' :List CV),(as[j']? =some (.box cs')->j' =j)/\as[j']? ≠some (.gbox cs'))->
 ∃o,outs=[o]/\bS E' (k+j) (E.bx (k+j)) o:=by
 intro as
 induction as with
 |nil=>grind
 |cons x as ih=>
  intro k j cs outs h hj hn;cases x with
  |box cs0=>
   obtain rfl:=(hn 0 cs0).1 rfl;cases outs with
   |nil=>exact h.elim
   |cons o os=>
    have:=sC h.2 fun j' cs' =>⟨fun he=>by have:=(hn (j' +1) cs').1 (by grind);omega,fun he=>(hn (j' +1) cs').2 (by grind)⟩;subst this;exact⟨o,rfl,h.1⟩
  |gbox cs0=>exact absurd rfl (hn 0 cs0).2
  |val y=>
   cases j with
   |zero=>grind
   |succ j=>
    have:=ih (k:=k+1) (j:=j) h (by simpa using hj) fun j' cs' =>⟨fun he=>by have:=(hn (j' +1) cs').1 (by grind);omega,fun he=>(hn (j' +1) cs').2 (by grind)⟩
    grind
theorem xV(s i:Nat)(own:Bool):∃π ρ d,Pass π ρ d/\
 (∀l l',π l=some l' ↔(l= .box s/\l' = .box i)\/(own=true/\∃c p,l= .arr (.k (2*s+1)) c p/\l' = .arr (.k (2*i+1)) c p))/\
 (∀l' l,ρ l' =some l↔(l= .box s/\l' = .box i)\/(∃c p,l= .arr (.k (2*s+1)) c p/\l' = .arr (.k (2*i+1)) c p)\/(∃c p,l= .arr (.h 0) c p/\l' = .arr (.h 0) c p)):=by
 refine Pass.of_rel _ _ ?_ ?_ ?_ ?_ ?_ ?_ ?_
 all_goals grind
theorem xZ:∃π ρ d,Pass π ρ d/\(∀l,π l=none)/\(∀l' l,ρ l' =some l↔(∃c p,l= .arr (.h 0) c p/\l' = .arr (.h 0) c p)):=by
 obtain⟨π,ρ,d,h1,h2,h3⟩:=Pass.of_rel (fun _ _=>False) (fun l l' =>∃c p,l= .arr (.h 0) c p/\l' = .arr (.h 0) c p) (by simp) (by simp)
  (by grind) (by grind) (by simp)
  (by grind) (by grind)
 exact⟨π,ρ,d,h1,fun l=>by cases h:π l with |none=>rfl|some x=>grind,h3⟩
theorem rK{π:Own->Option Own}{hide:Bool}{bx:Nat->Nat}{hdr:Nat->Value}(he:EnvOk E){bxs:Nat->Prop}{pl:Pl}{g:Bool}{cs:List CV}{v:Value}
 (hb:cs.any CV.isBorAl=true->hide=false/\∀k c p,π (.arr k c p)=none) (hv:∀pl,VR E bxs pl (.v g cs) v):
 VR (E.into π hide bx hdr) aL pl ((AV.v g cs).mapC CV.toRo) v:=by
 refine VR.imp (fun j x v hx hv=> ?_) (hv pl);have hx:x∈cs:=hx;have hb' :x.isBorAl=true->hide=false/\∀k c p,π (.arr k c p)=none:=fun h=>hb (Yo.2 ⟨x,hx,h⟩);cases x with
 |sl f T xs=>
  cases f with
  |ro=>exact bC he (.ro T xs) hv
  |bor=>exact bC he (.bor T xs (hb' rfl)) hv
  |own=>
   cases xs with
   |nil=>exact RdP.nilRo hv
   |cons y ys=>exact hv.one
  |tip=>exact hv.one
  |lnt n=>exact hv.one
  |al k c p=>exact bC he (.al k c p T xs (hb' rfl)) hv
 |ptr s off=>exact hv.one
 |clo k ss=>exact hv.one
 |swp sf n h0 s=>exact hv.one
 |eptr f T x off=>exact hv.one
 |eref k c p i T x off=>exact hv.one
 |apd k c p T xs=>exact hv.one
 |_=>exact bC he (.same _ trivial) hv
theorem rJ{π:Own->Option Own}{hide:Bool}{bx:Nat->Nat}{hdr:Nat->Value}(he:EnvOk E){bxs:Nat->Prop}{pl pl' :Pl}{cs:List CV}{vs:List Value}
 (hb:cs.any CV.isBorAl=true->hide=false/\∀k c p,π (.arr k c p)=none) (ho:cs.any CV.isOwn=true->∀c p,π (.arr pl c p)=some (.arr pl' c p)) (hv:VRs E bxs pl 0 cs vs):
 VRs (E.into π hide bx hdr) aL pl' 0 (cs.map CV.toBx) vs:=by
 refine VRs.imp (fun j x v hx hv=> ?_) hv;have hb' :x.isBorAl=true->hide=false/\∀k c p,π (.arr k c p)=none:=fun h=>hb (Yo.2 ⟨x,hx,h⟩);have ho' :x.isOwn=true->∀c p,π (.arr pl c p)=some (.arr pl' c p):=fun h=>ho (Yo.2 ⟨x,hx,h⟩);cases x with
 |sl f T xs=>
  cases f with
  |ro=>exact bC he (.ro T xs) hv
  |bor=>exact bC he (.bor T xs (hb' rfl)) hv
  |own=>exact bC he (.own T xs (ho' rfl _)) hv
  |tip=>exact bC he (.tip T xs (ho' rfl _)) hv
  |lnt n=>exact hv.one
  |al k c p=>exact hv.one
 |ptr s off=>exact hv.one
 |clo k ss=>exact hv.one
 |swp sf n h0 s=>exact hv.one
 |eptr f T x off=>exact hv.one
 |eref k c p i T x off=>exact hv.one
 |apd k c p T xs=>exact hv.one
 |_=>exact bC he (.same _ trivial) hv
theorem iW:∀ {as:List Arg} {j:Nat} {g:Bool} {cs:List CV},as[j]? =some (.val (.v g cs))\/as[j]? =some (.box cs)->cs.any CV.isBorAl=true->aR as=true:=by
 intro as
 induction as with
 |nil=>grind
 |cons x as ih=>
  intro j g cs h hc;cases j with
  |zero=>
   grind [aR]
  |succ j=>
   have:=ih (j:=j) (g:=g) (by grind) hc;cases x with
   |box _=>grind [aR]
   |gbox _=>grind [aR]
   |val y=>cases y <;>simp [aR,this]
theorem sK:∀ {as:List Arg} {j:Nat} {cs:List CV},as[j]? =some (.box cs)->cs.any CV.isOwn=true->cI as=true:=by
 intro as
 induction as with
 |nil=>grind
 |cons x as ih=>
  intro j cs h hc;cases j with
  |zero=>grind [cI]
  |succ j=>
   have:=ih (j:=j) (by grind) hc;cases x <;>simp [cI,this]
theorem lC{π:Own->Option Own}{hide:Bool}{hdr:Nat->Value}(hi:Inv C (St.get (u++σ)) a.tmps E){as:List Arg}{ks:List Nat}{vs:List Value}(h:ArgsOk E (St.get (u++σ)) as ks vs)
 (hb:aR as=true->hide=false/\∀k c p,π (.arr k c p)=none)
 (hbox:∀s,ks=[s]->∀(i:Nat) (cs:List CV),as[i]? =some (.box cs)->π (.box s)=some (.box i)/\(cI as=true->∀c p,π (.arr (.k (2*s+1)) c p)=some (.arr (.k (2*i+1)) c p))) {bx:Nat->Nat} (hbx:∀s,ks=[s]->∀i,bx i=E.bx s):
 ArgsAt (E.into π hide bx hdr) 0 (as.map Arg.toRo) vs:=by
 refine nC (by simp [h.len]) fun j x v hj hv=> ?_;rw [Ze,Zi] at hj;obtain⟨y,hy,rfl⟩:=hj;rw [Zc];cases y with
 |val x=>
  obtain⟨⟨g,cs,rfl⟩,hvr⟩:=h.val j x v hy hv;exact rK hi.env (fun hc=>hb (iW (.inl hy) hc)) hvr
 |box cs=>
  obtain⟨s,hks,rfl,hg⟩:=h.box j cs v hy hv;obtain⟨h1,vals,ty,h2,h3⟩:=hi.box s cs hg;obtain⟨p1,p2⟩:=hbox s hks j cs hy;have hbb:=hbx s hks j;show _/\bS _ _ _ _;refine⟨by rw [show(E.into π hide bx hdr).bx j=E.bx s from hbb],by grind [Env.into],vals,ty,by rw [show(E.into π hide bx hdr).bx j=E.bx s from hbb];exact h2,?_⟩;exact rJ hi.env (fun hc=>hb (iW (g:=true) (.inr hy) hc)) (fun hc=>p2 (sK hy hc)) h3
 |gbox cs=>exact(h.ng j cs hy).elim
end
section
variable {C:Ctx} {σ:St} {a:Act} {E E' :Env} {u u' :Ups} {tt:TT} {π ρ d:Own->Option Own} {hide:Bool} {bx:Nat->Nat} {hdr:Nat->Value}
theorem gQ(hold:∀b,b<E.w.heap.size->(E.into π hide bx hdr).ow b=none->E'.w.heap[b]? =E.w.heap[b]? /\E'.hw b=(E.into π hide bx hdr).hw b/\E'.ow b=none)
 {bxs:Nat->Prop} {pl pl' :Pl} {c c' :Nat} {v:Value} {x:CV} (hx:x.plain=true) (hr:∀p,ρ (.arr pl' c' p)=some (.arr pl c p)) (hv:VRc E' aL pl' c' x v):
 VRc (E.back E' π ρ d) bxs pl c (cond hide x x.rob) v:=by
 cases hide with
 |true=>
  simp only [jT];cases x with
  |sl f T xs=>
   cases f with
   |ro=>exact cK hold (.ro T xs rfl) hv
   |own=>exact cK hold (.own T xs hr) hv
   |tip=>exact cK hold (.tip T xs hr rfl) hv
   |_=>cases hx
  |int k n=>exact cK hold (.same _ trivial) hv
  |bool b=>exact cK hold (.same _ trivial) hv
  |str s=>exact cK hold (.same _ trivial) hv
  |val s=>exact cK hold (.same _ trivial) hv
  |_=>cases hx
 |false=>
  simp only [jF];cases x with
  |sl f T xs=>
   cases f with
   |ro=>exact cK hold (.bor T xs) hv
   |own=>exact cK hold (.own T xs hr) hv
   |tip=>exact cK hold (.tipbor T xs) hv
   |_=>cases hx
  |int k n=>exact cK hold (.same _ trivial) hv
  |bool b=>exact cK hold (.same _ trivial) hv
  |str s=>exact cK hold (.same _ trivial) hv
  |val s=>exact cK hold (.same _ trivial) hv
  |_=>cases hx
theorem AV.plain_mem{a:AV}{x:CV}(h:a.plain=true)(hx:a.mem x):x.plain=true:=by
 cases a with
 |none=>exact hx.elim
 |v g cs=>exact Zx.1 h x hx
 |tup xs=>obtain⟨y,hy,hx⟩:=hx;exact Zx.1 (Zx.1 h y hy) x hx
theorem tT(b:Bool)(f:CV->CV)(a:AV):(a.mapC fun x=>cond b x (f x))=cond b a (a.mapC f):=by
 cases b
 all_goals grind [AV.mapC_id]
theorem iP(hold:∀b,b<E.w.heap.size->(E.into π hide bx hdr).ow b=none->E'.w.heap[b]? =E.w.heap[b]? /\E'.hw b=(E.into π hide bx hdr).hw b/\E'.ow b=none)
 {bxs:Nat->Prop} {r:AV} {v:Value} (hx:r.plain=true) (hr:∀c p,ρ (.arr (.h 0) c p)=some (.arr (.h 0) c p)) (hv:VR E' aL (.h 0) r v):
 VR (E.back E' π ρ d) bxs (.h 0) (cond hide r (r.mapC CV.rob)) v:=by
 rw [<-tT];exact VR.imp (fun j x v hm hv=>gQ hold (AV.plain_mem hx hm) (fun p=>hr j p) hv) hv
theorem tC(hi:Inv C (St.get (u++σ)) a.tmps E)(hp:Pass π ρ d)(hπ:∀l,π l=none)(hρ:∀l' l,ρ l' =some l↔(∃c p,l= .arr (.h 0) c p/\l' = .arr (.h 0) c p))
 {as:List Arg} {r:CallO} {v:Value} (hx:ExitR (E.into π hide bx hdr) E' as r v) (hpl:r.res.plain=true):
 Hand C (u++σ) a.tmps E'.w 0 (cond hide r.res (r.res.mapC CV.rob)) v:=by
 have hold:=hx.old;have hst:=fM (mu:=False) hp hi.env hold (fun _ b l l' _ h2=>by grind);have hbk:=fL hp hi.env hx.env hx.size;have hdk:∀pl c,dkC ρ pl c->pl= .h 0:=by
  rintro pl c ⟨p,l',h⟩
  grind
 have hdb:∀s,¬dbC ρ s:=by
  rintro s ⟨l',h⟩
  grind
 have cw:∀(pl:Pl) (j:Nat) (z:CV),pl≠ .h 0->CW (dkC ρ) False pl j z z:=by
  intro pl j z h1;exact .inr ⟨rfl,fun _ hd=>h1 (hdk _ _ hd),fun k' c' _ hd=>(by grind),fun _ h=>h⟩
 have aw:∀(pl:Pl) (x:AV),pl≠ .h 0->AWk (dkC ρ) False pl x x:=by
  intro pl x h;have:=AWk.map (dk:=dkC ρ) (mu:=False) (pl:=pl) (f:=id) (fun c z=>cw pl c z h) x
  grind [AV.mapC_id]
 refine⟨E.back E' π ρ d,rfl,hi.step hst hx.os hx.tape hx.output hx.size (fun b hlt h0=> ?_) hbk.new hbk.inj hbk.boxhw rfl (fun s hs=>⟨hs,rfl⟩)
  (fun t=> .inr ⟨aw _ _ (by simp),rfl⟩) (fun s cs' hs=> .inr ⟨hdb s,cs',hs,?_⟩),iP hold hpl (fun c p=>(hρ _ _).2 ⟨c,p,rfl,rfl⟩) (hx.res.vr (fX hpl))⟩
 ·have h2:=(hi.old b hlt h0).2.2;have hlt2:b<E.w.heap.size:=ZZ hlt hi.size;obtain⟨a1,a2,a3⟩:=hold b hlt2 (by grind [Env.into]);have hf:E.frame π b:=⟨hlt2,by grind⟩;exact⟨a1,by grind [Env.back],by grind [Env.back]⟩
 ·have:=CWs.map (dk:=dkC ρ) (mu:=False) (pl:= .k (2*s+1)) (f:=id) (fun c z=>cw _ c z (by simp)) cs' 0
  simp_all
theorem tD(hi:Inv C (St.get (u++σ)) a.tmps E){s i:Nat}{own:Bool}(hp:Pass π ρ d)
 (hπ:∀l l',π l=some l' ↔(l= .box s/\l' = .box i)\/(own=true/\∃c p,l= .arr (.k (2*s+1)) c p/\l' = .arr (.k (2*i+1)) c p))
 (hρ:∀l' l,ρ l' =some l↔(l= .box s/\l' = .box i)\/(∃c p,l= .arr (.k (2*s+1)) c p/\l' = .arr (.k (2*i+1)) c p)\/(∃c p,l= .arr (.h 0) c p/\l' = .arr (.h 0) c p))
 {as:List Arg} {r:CallO} {v:Value} {cs out:List CV} (hbx:bx i=E.bx s) (hg:St.get (u++σ) (2*s+1)= .v true cs)
 (hx:ExitR (E.into π hide bx hdr) E' as r v) (hpl:r.res.plain=true) (hout:out.all CV.plain=true) (hat:bS E' i (E.bx s) out) (hho:own=true->hide=true):
 Hand C ((cond own [(aC,.none)] []++(2*s+1,.v true (cond hide out (out.map CV.rob)))::u)++σ) a.tmps E'.w 0 (cond hide r.res (r.res.mapC CV.rob)) v:=by
 have hold:=hx.old
 have hst:=fM (mu:=own=true) hp hi.env hold (fun hm b l l' h1 h2=>by
  rcases(hπ _ _).1 h2 with ⟨rfl,_⟩|⟨h,_⟩
  ·exact hi.boxhw b s h1
  grind)
 have hbk:=fL hp hi.env hx.env hx.size;have hdk:∀pl c,dkC ρ pl c->pl= .h 0\/pl= .k (2*s+1):=by
  rintro pl c ⟨p,l',h⟩
  grind
 have hdb:∀s',dbC ρ s' ->s' =s:=by
  rintro s' ⟨l',h⟩
  grind
 generalize hUdef:(cond own [(aC,AV.none)] []++(2*s+1,AV.v true (cond hide out (out.map CV.rob)))::u)=U;have hplo:∀z∈(cond hide out (out.map CV.rob)),z.stale [aC] own=z:=by
  intro z hz;cases own with
  |true=>
   rw [hho rfl] at hz;have:=Zx.1 hout z hz;cases z with
   |sl f T xs=>cases f <;>first |rfl|cases this
   |_=>first |rfl|cases this
  |false=>
   have hz2:z.onKey [aC]=false:=by
    have key:∀y:CV,y.plain=true->y.onKey [aC]=false/\y.rob.onKey [aC]=false:=by
     intro y hy;cases y with
     |sl f T xs=>cases f <;>first |exact⟨rfl,rfl⟩|cases hy
     |_=>first |exact⟨rfl,rfl⟩|cases hy
    grind
   grind [CV.stale]
 have hG:∀q,St.get (U++σ) q=if own=true/\aC=q then .none else if 2*s+1=q then .v true (cond hide out (out.map CV.rob)) else
  (St.get (u++σ) q).mapC (CV.stale (cond own [aC,2*s+1] [2*s+1]) own):=by
  intro q;have ne:(2*s+1).beq aC=false:=by
   grind [aC,Nat.eq_of_beq_eq_true]
  subst hUdef;cases own with
  |false=>
   grind [St.get_cons]
  |true=>
   show St.get ((aC,_)::(2*s+1,_)::(u++σ)) q=_;rw [St.get_cons];by_cases h1:aC=q
   ·grind
   ·simp only [h1,if_false,and_false];rw [St.get_cons];by_cases h2:2*s+1=q
    ·simp only [h2,Ys];show AV.v true _=_
     congr 1
     have:∀l:List CV,(∀z∈l,z.stale [aC] true=z)->l.map (CV.stale [aC] true)=l:=fun l hl=>by
      conv=>rhs;rw [<-List.map_id l]
      grind [List.map_congr_left]
     simp_all
    ·simp only [h2,if_false,ne];rw [AV.mapC_comp]
     congr 1
     funext z
     exact CV.stale_stale z (fun q=>by grind) rfl
 have hbxs:∀s',aA (St.get (u++σ)) s' ->aA (St.get (U++σ)) s' /\(E.back E' π ρ d).bx s' =E.bx s' :=by
  intro s' hs;refine⟨?_,rfl⟩;obtain⟨ys,hys⟩:=hs;unfold aA;rw [hG,Za (by grind [aC])];split
  ·grind
  ·rw [hys];exact⟨_,rfl⟩
 have cw:∀(pl:Pl) (j:Nat) (z:CV),pl≠ .h 0->pl≠ .k (2*s+1)->CW (dkC ρ) (own=true) pl j (z.stale (cond own [aC,2*s+1] [2*s+1]) own) z:=by
  grind [CW.stale]
 refine⟨E.back E' π ρ d,rfl,hi.step hst hx.os hx.tape hx.output hx.size (fun b hlt h0=> ?_) hbk.new hbk.inj hbk.boxhw rfl hbxs
  (fun t=> .inr ⟨?_,rfl⟩) (fun s' cs' hs=> ?_),iP hold hpl (fun c p=>(hρ _ _).2 (.inr (.inr ⟨c,p,rfl,rfl⟩))) (hx.res.vr (fX hpl))⟩
 ·have h2:=(hi.old b hlt h0).2.2;have hlt2:b<E.w.heap.size:=ZZ hlt hi.size;obtain⟨a1,a2,a3⟩:=hold b hlt2 (by grind [Env.into]);have hf:E.frame π b:=⟨hlt2,by grind⟩;exact⟨a1,by grind [Env.back],by grind [Env.back]⟩
 ·rw [hG];split
  ·trivial
  grind [AWk.map]
 ·rw [hG,Za (by grind)] at hs;by_cases hss:s' =s
  ·subst hss;rw [Zt rfl] at hs;injection hs with _ hs;subst hs;obtain⟨h1,vals,ty,h2,h3⟩:=hat;refine .inl ⟨(dB hold h1 ((hρ _ _).2 (.inl ⟨rfl,rfl⟩))).1,vals,ty,h2,?_⟩
   have key:VRs (E.back E' π ρ d) (aA (St.get (U++σ))) (.k (2*s' +1)) 0 (out.map fun x=>cond hide x x.rob) vals.toList:=
    VRs.imp (fun j x v hx hv=>gQ hold (Zx.1 hout x hx) (fun p=>(hρ _ _).2 (.inr (.inl ⟨_,p,rfl,rfl⟩))) hv) h3
   have e:(out.map fun x=>cond hide x x.rob)=cond hide out (out.map CV.rob):=by cases hide <;>simp
   grind
  ·rw [Za (by omega)] at hs;cases hq:St.get (u++σ) (2*s' +1) with
   |v g' cs0=>
    rw [hq] at hs;injection hs with hs1 hs2
    grind [CWs.map]
   |tup xs=>rw [hq] at hs;cases hs
   |none=>rw [hq] at hs;cases hs
end
theorem oL{P:Program}{ρ:Operand->Value}{o:Oper}{w:World}{c:Call}{f:FuncId}(h:o.op= .call c)(hc:c.callee= .value (.func f))(hρ:ρ (.func f)= .func (.func f) #[] #[]):
 (execOp ρ o).run P w=(callFunc f (c.args.map ρ)).run P w:=by
 grind [execOp,resolve,invoke,Deferred.ofValue]
section
variable {C:Ctx} {σ:St} {a:Act} {E E' :Env} {u u' :Ups} {tt:TT} {o:Oper} {md:Md} {v:AV} {ob:List Prop}
def gM(C:Ctx)(σ:St)(a:Act)(w:World)(c:Call)(f:FuncId)(v:AV):Prop:=
 Does C.P f (c.args.map a.eval) w fun val w' =>Hand C σ a.tmps w' 0 v val
theorem dY(a:Act)(c:Call):(c.args.map a.eval).toList=c.args.toList.map a.eval:=by simp
theorem lG{w:World}(hi:Inv C (St.get (u++σ)) a.tmps E)(hw:E.w=w){c:Call}{f:FuncId}{r:CallO}(hpl:r.plain=true)
 {p:List Arg×List Nat} (hA:ArgsOk E (St.get (u++σ)) p.1 p.2 (c.args.toList.map a.eval)) (h:Mr (match r.lents with
   | []=>cond (aR p.1)
     (cond (cI p.1) bad ((eJ false p.2 (r.outs.map (·.map CV.rob))).bind fun _=>M.pure (r.res.mapC CV.rob,[AbsCalls C.P f (p.1.map Arg.toRo) r])))
     ((eJ (cI p.1) p.2 r.outs).bind fun _=>M.pure (r.res,[AbsCalls C.P f (p.1.map Arg.toRo) r]))
   |_=>bad) σ u=some ((v,ob),u')) (hob:∀q∈ob,q):gM C (u' ++σ) a w c f v:=by
 subst hw;obtain⟨hpr,hpo⟩:r.res.plain=true/\r.outs.all (·.all CV.plain)=true:=by grind [CallO.plain]
 obtain⟨as,ks⟩:=p;dsimp only at hA h;split at h
 case h_2=>grind [aE]
 obtain⟨hide,own,outs',hform,hcon,hho,hbo,hown⟩:∃(hide own:Bool) (outs' :List (List CV)),Mr (eJ own ks outs') σ u=some ((),u')/\(AbsCalls C.P f (as.map Arg.toRo) r/\v=cond hide r.res (r.res.mapC CV.rob)/\
  outs' =r.outs.map fun x=>cond hide x (x.map CV.rob))/\(own=true->hide=true)/\(aR as=true->hide=false/\own=false)/\(cI as=true->own=true):=by
  cases hb:aR as with
  |true=>
   rw [hb] at h;simp only [jT] at h;cases hO:cI as with
   |true=>grind [aE]
   |false=>
    rw [hO] at h;simp only [jF] at h;obtain⟨_,u1,h1,h2⟩:=aD h;obtain⟨e,rfl⟩:=aF h2;cases e;exact⟨false,false,_,h1,⟨hob _ (Zo.2 rfl),rfl,by simp⟩,by simp,by simp,by simp⟩
  |false=>
   rw [hb] at h;simp only [jF] at h;obtain⟨_,u1,h1,h2⟩:=aD h;obtain⟨e,rfl⟩:=aF h2;cases e;exact⟨true,cI as,_,h1,⟨hob _ (Zo.2 rfl),rfl,by simp⟩,by simp,by simp,by simp⟩
 obtain⟨hcon,rfl,rfl⟩:=hcon;unfold eJ at hform;split at hform
 ·
  rename_i houts;obtain⟨_,rfl⟩:=aF hform;obtain⟨π,ρ,d,hp,hπ,hρ⟩:=xZ;have hargs:ArgsAt (E.into π hide E.bx E.hdr) 0 (as.map Arg.toRo) (c.args.map a.eval).toList:=by
   rw [dY];exact lC hi hA (fun hb=>⟨(hbo hb).1,fun k c p=>hπ _⟩) (fun s hs i cs hg=>by grind) (fun s hs=>by grind)
  refine(hcon (E.into π hide E.bx E.hdr) _ (eZ hp hi.env) (eY hi.bas) hargs).mono fun val w' hr=> ?_
  grind [tC]
 ·
  rename_i s out houts;obtain⟨old,u1,h1,h2⟩:=aD hform;unfold dC at h1;obtain⟨b2,u4,h7,h8⟩:=aD h1;obtain⟨rfl,rfl⟩:=bT h7;have h8' :St.get (u4++σ) (2*s+1)= .v true old/\u1=u4:=by
   grind [aF,aE]
  obtain⟨hg,rfl⟩:=h8';obtain⟨hlen,h2⟩:=aU h2;obtain⟨_,u5,h9,h10⟩:=aD h2;obtain rfl:=bP h9;have hu:u' =cond own [(aC,AV.none)] []++(2*s+1,.v true out)::u1:=by
   grind [bP,aF]
  obtain⟨_,i,cs,hasi⟩:=hA.has s (Zo.2 rfl);obtain⟨π,ρ,d,hp,hπ,hρ⟩:=xV s i own;have hpos:∀(i' :Nat) (cs' :List CV),as[i']? =some (.box cs')->i' =i:=fun i' cs' h=>hA.one i' i cs' cs h hasi;have hargs:ArgsAt (E.into π hide (fun _=>E.bx s) E.hdr) 0 (as.map Arg.toRo) (c.args.map a.eval).toList:=by
   rw [dY];refine lC hi hA (fun hb=>⟨(hbo hb).1,fun k c p=> ?_⟩) (fun s' hs i' cs' hg' => ?_) (fun s' hs i' => ?_)
   ·cases hq:π (.arr k c p) with
    |none=>rfl
    |some l=>
     grind
   all_goals grind
  refine(hcon (E.into π hide (fun _=>E.bx s) E.hdr) _ (eZ hp hi.env) (eY hi.bas) hargs).mono fun val w' hr=> ?_;obtain⟨E',rfl,hx⟩:=hr
  obtain⟨o,ho1,ho2⟩:=nF (cs:=cs.map CV.toBx) hx.outs (j:=i) (by rw [Ze,hasi];rfl) (fun i' cs' =>⟨fun h=>by
   rw [Ze,Zi] at h;obtain⟨y,hy,e⟩:=h;cases y with
   |val x=>cases e
   |gbox x=>cases e
   |box y=>grind,fun h=>by
   rw [Ze,Zi] at h;obtain⟨y,hy,e⟩:=h;cases y with
   |val x=>cases e
   |box x=>cases e
   |gbox x=>exact hA.ng i' x hy⟩)
  rw [ho1] at houts hpo;simp only [ZX,ZB,Y9,and_true] at houts;rw [hu,<-houts];rw [Zc] at ho2;exact tD hi (own:=own) hp hπ hρ rfl hg hx hpr (by grind) ho2 hho
 grind [aE]
end
theorem xY(s i:Nat):∃π ρ d,Pass π ρ d/\(∀l,π l=none)/\
 (∀l' l,ρ l' =some l↔(l= .box s/\l' = .box i)\/∃c p,l= .arr (.k (2*s+1)) c p/\l' = .arr (.k (2*i+1)) c p):=by
 obtain⟨π,ρ,d,h1,h2,h3⟩:=Pass.of_rel (fun _ _=>False) (fun l l' =>(l= .box s/\l' = .box i)\/∃c p,l= .arr (.k (2*s+1)) c p/\l' = .arr (.k (2*i+1)) c p) (by simp) (by simp)
  (by grind)
  (by grind) (by simp)
  (by grind) (by grind)
 exact⟨π,ρ,d,h1,fun l=>by cases h:π l with |none=>rfl|some x=>grind,h3⟩
section
variable {C:Ctx} {σ:St} {a:Act} {E E' :Env} {u u' :Ups} {tt:TT} {π ρ d:Own->Option Own} {hide:Bool} {bx:Nat->Nat} {hdr:Nat->Value}
def Env.rebx(E:Env)(s b:Nat):Env:= { E with bx:=fun s' =>if s' =s then b else E.bx s' }
theorem yG(E:Env)(s b:Nat):Step E (E.rebx s b) (fun _ _=>False) (fun s' =>s' =s) False where
 ro:=fun b hb=>⟨fun _=>hb,fun o ho=>⟨rfl,ho⟩⟩
 own:=fun b k c p hb _=>⟨hb,rfl,rfl⟩
 bor:=fun _ b o ho=>⟨rfl,ho⟩
 box:=fun s' hs hd=>⟨by grind [Env.rebx],hs,rfl⟩
 hdr:=rfl
theorem tB(hi:Inv C (St.get (u++σ)) a.tmps E){s m:Nat}(hp:Pass π ρ d)(hπ:∀l,π l=none)
 (hρ:∀l' l,ρ l' =some l↔(l= .box s/\l' = .box m)\/∃c p,l= .arr (.k (2*s+1)) c p/\l' = .arr (.k (2*m+1)) c p)
 {as:List Arg} {r:CallO} {v:Value} {cs:List CV} (hg:St.get (u++σ) (2*s+1)= .none) (hx:ExitR (E.into π hide bx hdr) E' as r v) (hpl:cs.all CV.plain=true)
 {b:Nat} (hat:bS E' m b cs):
 Hand C (((2*s+1,.v true (cond hide cs (cs.map CV.rob)))::u)++σ) a.tmps E'.w 0 (.v false [.ptr s 0]) (.pointer (some ⟨b,0,none⟩)):=by
 have hold:=hx.old;have hst:=fM (mu:=False) hp hi.env hold (fun _ b l l' _ h2=>by grind);have hbk:=fL hp hi.env hx.env hx.size;have hdk:∀pl c,dkC ρ pl c->pl= .k (2*s+1):=by
  rintro pl c ⟨p,l',h⟩
  grind
 have hdb:∀s',dbC ρ s' ->s' =s:=by
  rintro s' ⟨l',h⟩
  grind
 have st2:=yG (E.back E' π ρ d) s b;have st:=(hst.trans st2).imp (dk' :=fun pl _=>pl= .k (2*s+1)) (db' :=fun s' =>s' =s) (mu' :=False) (fun k c h=>h.elim (hdk _ _) fun h=>h.elim) (fun s' h=>h.elim (hdb _) id) (fun h=>h.elim id id);have hnb:¬aA (St.get (u++σ)) s:=by rintro ⟨cs,h⟩;grind
 have hd:aA (St.get (((2*s+1,.v true (cond hide cs (cs.map CV.rob)))::u)++σ)) s:=⟨_,by show St.get ((2*s+1,_)::(u++σ)) _=_;rw [St.get_cons,Zt rfl]⟩;have hbx:∀s',aA (St.get (u++σ)) s' ->aA (St.get (((2*s+1,.v true (cond hide cs (cs.map CV.rob)))::u)++σ)) s' /\((E.back E' π ρ d).rebx s b).bx s' =E.bx s' :=by
  intro s' hs';have:s' ≠s:=by grind
  exact⟨dX (by grind) hs',by simp [Env.rebx,this,Env.back]⟩
 refine⟨(E.back E' π ρ d).rebx s b,rfl,hi.step st hx.os hx.tape hx.output hx.size (fun b' hlt h0=> ?_) hbk.new hbk.inj hbk.boxhw rfl hbx
  (fun t=> .inr ⟨?_,rfl⟩) (fun s' cs2 hs=> ?_),⟨by simp [Env.rebx],hd⟩,trivial⟩
 ·have h2:=(hi.old b' hlt h0).2.2;have hlt2:b' <E.w.heap.size:=ZZ hlt hi.size;obtain⟨a1,a2,a3⟩:=hold b' hlt2 (by grind [Env.into]);have hf:E.frame π b' :=⟨hlt2,by grind⟩;exact⟨a1,by grind [Env.rebx,Env.back],by grind [Env.rebx,Env.back]⟩
 ·show AWk _ _ _ (St.get ((2*s+1,_)::(u++σ)) _) _;rw [St.get_cons,Za (by omega)];refine AWk.map (fun c x=>CW.stale (fun _ hd=> ?_) (fun k c hd=> ?_) (fun h=>h.elim)) _
  all_goals grind
 ·by_cases e:s' =s
  ·subst e;have e1:St.get ((2*s' +1,.v true (cond hide cs (cs.map CV.rob)))::(u++σ)) (2*s' +1)= .v true cs2:=hs;rw [St.get_cons,Zt rfl] at e1;injection e1 with _ e1;subst e1;obtain⟨h1,vals,ty,h2,h3⟩:=hat;refine .inl ⟨?_,vals,ty,?_,?_⟩
   ·have:=(dB (E:=E) (π:=π) (hide:=hide) (bx:=bx) (hdr:=hdr) (d:=d) hold h1 ((hρ _ _).2 (.inl ⟨rfl,rfl⟩))).1
    grind [Env.rebx]
   ·have e:((E.back E' π ρ d).rebx s' b).bx s' =b:=by simp [Env.rebx]
    rw [e];exact h2
   ·have key:VRs ((E.back E' π ρ d).rebx s' b) (aA (St.get (((2*s' +1,.v true (cond hide cs (cs.map CV.rob)))::u)++σ))) (.k (2*s' +1)) 0 (cs.map fun x=>cond hide x x.rob) vals.toList:=
     VRs.imp (fun j x v hx hv=>VRc.step st2 (fun s hs=>hs.elim) (by simp) (by simp) (by simp) (gQ (bxs:=fun _=>False) hold (Zx.1 hpl x hx) (fun p=>(hρ _ _).2 (.inr ⟨_,p,rfl,rfl⟩)) hv)) h3
    have e:(cs.map fun x=>cond hide x x.rob)=cond hide cs (cs.map CV.rob):=by cases hide <;>simp
    grind
  ·obtain⟨cs0,hc,rfl⟩:=eU (by omega) hs;refine .inr ⟨e,cs0,hc,CWs.map (fun c x=>CW.stale (fun _ hd=> ?_) (fun k c hd=> ?_) (fun h=>h.elim)) _ _⟩
   all_goals grind
theorem xI{w:World}{o:Oper}{v:AV}{ob:List Prop}(hi:Inv C (St.get ([]++σ)) a.tmps E)(hw:E.w=w){c:Call}{f:FuncId}{r:CallO}{cs:List CV}(hn:r.res.nbox=some cs)
 (h:Mr (mJ tt (AbsCalls C.P) o.dst c f r cs) σ []=some ((v,ob),u)) (hob:∀q∈ob,q):gM C (u++σ) a w c f v:=by
 subst hw;unfold mJ at h;split at h
 case h_2=>grind [aE]
 rename_i dd hdst houts hlents;obtain⟨hpl,h⟩:=aU h;obtain⟨p,u1,h1,h2⟩:=aD h;obtain⟨rfl,hA⟩:=i8 hi _ _ _ _ h1;split at h2
 case h_2=>grind [aE]
 rename_i hks;obtain⟨y,u2,h3,h4⟩:=aD h2;obtain⟨rfl,rfl⟩:=bT h3;split at h4
 case h_2=>grind [aE]
 rename_i hg;obtain⟨_,u3,h5,h6⟩:=aD h4;obtain rfl:=bP h5;obtain⟨e,rfl⟩:=aF h6;cases e;have hcon:AbsCalls C.P f (p.1.map Arg.toRo) r:=hob _ (Zo.2 rfl);obtain⟨π,ρ,d,hp,hπ,hρ⟩:=xY dd (p.1.map Arg.toRo).length;have hargs:ArgsAt (E.into π (!aR p.1) E.bx E.hdr) 0 (p.1.map Arg.toRo) (c.args.map a.eval).toList:=by
  rw [dY];exact lC hi hA (fun hb=>⟨by grind,fun k c p=>hπ _⟩) (fun s hs i cs hg=>by grind) (fun s hs=>by grind)
 refine(hcon (E.into π (!aR p.1) E.bx E.hdr) _ (eZ hp hi.env) (eY hi.bas) hargs).mono fun val w' hr=> ?_;obtain⟨E',rfl,hx⟩:=hr;have hres:=hx.res
 grind [ResAt,tB]
end
theorem pV{E E' :Env}{bxs bxs' :Nat->Prop}{dk:Pl->Nat->Prop}{db:Nat->Prop}{pl:Pl}{b:AV}{v:Value}(h:Step E E' dk db False)(hbx:∀s,bxs s->bxs' s/\E'.bx s=E.bx s)(hb:b.mvOk=true)
 (hd:∀c,¬dk pl c) (hv:VR E bxs pl b v):VR E' bxs' pl b v:=by
 refine AWk.vr h hbx ?_ hv
 have cw:∀(c:Nat) (x:CV),x.mvOk=true->CW dk False pl c x x:=fun c x hx=> .inr ⟨rfl,fun _=>hd c,fun k' c' hs=>by
  cases x with
  |sl f T xs=>cases f <;>first |exact hs.elim|cases hx
  |eref k c p i T y off=>cases hx
  |apd k c p T y=>cases hx
  |_=>exact hs.elim,fun _ h=>h⟩
 cases b with
 |v g cs=>
  refine⟨cs,rfl,?_⟩;have hall:∀x∈cs,x.mvOk=true:=Zx.1 hb;generalize 0=c;clear hv hb
  induction cs generalizing c with
  |nil=>exact .nil
  |cons x cs ih=>exact .cons (cw c x (hall x Zp)) (ih (fun y hy=>hall y (Zr _ hy)) _)
 |tup xs=>cases hb
 |none=>cases hb
section
variable {C:Ctx} {σ:St} {a:Act} {E:Env} {u u' :Ups} {tt:TT}
def dP(n:Nat):Own->Option Own
 | .arr (.h j) c (x::p)=>if j=n then none else some (.arr (.h j) c (x::p))
 |l=>some l
theorem xE(n:Nat):RhoOk (dP n) (fun pl _=>pl= .h n) where
 box:=fun _=>rfl
 id:=fun k c p h=>by
  unfold dP
  grind
 inj:=fun l1 l2 l h1 h2=>by
  unfold dP at h1 h2
  grind
 arr:=fun k c p s=>by
  unfold dP
  grind
theorem zM{G:Nat->AV}{tmps:Array Value}{n:Nat}{b:AV}{v:Value}(hi:Inv C G tmps E)(hok:b.mvOk=true)(hv:VR E (aA G) (.h n) b v):
 ∃E',E'.w=E.w/\E'.bx=E.bx/\Step E E' (fun pl _=>pl= .h n) (fun _=>False) False/\Inv C G tmps E' /\VR E' (aA G) (.h n) (b.mapC CV.toTip) v:=by
 have hr:=xE n;have hst:=f9 (E:=E) hr;have cw:∀(q c:Nat) (x:CV),CW (fun pl _=>pl= .h n) False (.k q) c x x:=fun q c x=> .inr ⟨rfl,fun _ (h:Pl.k q= .h n)=>(by cases h),fun k' c' _ (h:Pl.k k' = .h n)=>(by cases h),fun _ h=>h⟩;refine⟨E.rel (dP n),rfl,rfl,hst,hi.rel hr rfl (fun s hs=>hs) (fun t=> .inr ⟨?_,rfl⟩) (fun s cs' hs=> .inr ⟨cs',hs,?_⟩),?_⟩
 ·have:=AWk.map (dk:=fun pl _=>pl= .h n) (mu:=False) (pl:= .k (2*t)) (f:=id) (fun c x=>cw _ c x) (G (2*t))
  grind [AV.mapC_id]
 ·have:=CWs.map (dk:=fun pl _=>pl= .h n) (mu:=False) (pl:= .k (2*s+1)) (f:=id) (fun c x=>cw _ c x) cs' 0
  simp_all
 ·refine VR.imp (fun j x v hx hv=> ?_) hv;have hxo:x.mvOk=true:=by
   cases b with
   |v g cs=>exact Zx.1 hok x hx
   |tup xs=>cases hok
   |none=>cases hok
  have tip:∀ {v:Value} {sz:Nat},Tip E (.arr (.h n) j []) v sz->Tip (E.rel (dP n)) (.arr (.h n) j []) v sz:=fun h=>h.rel (f:=dP n) rfl;have top:∀ {b:Nat},E.ow b=some (.arr (.h n) j [])->(E.rel (dP n)).ow b=some (.arr (.h n) j []):=fun {b} h=>by grind [Env.rel,dP]
  cases x with
  |sl f T xs=>
   cases f with
   |ro=>exact RdP.mono hv (fun p b o ho=>⟨rfl,ho.1,by simp [Env.rel,ho.2]⟩) (fun _ _ _ _=>trivial)
   |own=>
    refine RdP.mono hv (fun p b o ho=>⟨rfl,ho.1,fun hp=> ?_,fun hp=> ?_⟩) (fun p v sz ht hp=> ?_)
    ·subst hp;exact top ho.2
    ·cases p with
     |nil=>grind
     |cons y p=>simp [Env.rel,ho.2,dP]
    ·subst hp;exact tip ht
   |tip=>
    refine RdP.mono hv (fun p b o ho=>⟨rfl,ho.1,fun hp=>by subst hp;exact top (ho.2.1 rfl),fun hp=>by simp [Env.rel,ho.2.2 hp]⟩) (fun p v sz ht hp=> ?_);have:=ht hp
    grind
   |_=>cases hxo
  |ptr s off=>cases hxo
  |clo k ss=>cases hxo
  |swp sf n h0 s=>cases hxo
  |eptr f T x off=>cases hxo
  |eref k c p i T x off=>cases hxo
  |apd k c p T xs=>cases hxo
  |int k m=>exact hv
  |bool b=>exact hv
  |str s=>exact hv
  |val s=>exact hv
  |undef=>exact hv
theorem zI{b:AV}(h:b.mvOk=true):(b.mapC CV.toTip).mvOk=true:=by
 cases b with
 |v g cs=>
  refine Zx.2 fun x hx=> ?_;obtain⟨y,hy,rfl⟩:=Zk.1 hx;have:=Zx.1 h y hy;cases y with
  |sl f T xs=>cases f <;>first |rfl|exact this
  |_=>exact this
 |tup xs=>cases h
 |none=>cases h
theorem wW(hi:Inv C (St.get (u++σ)) a.tmps E):∀(xs:List Operand) (tys:List TypeId) (i:Nat) (ms:List (Option AV)) (u' :Ups),Mr (mD tt xs tys) σ u=some (ms,u')->
 ms.length=xs.length/\(ms.all Option.isNone=true->u' =u)/\∃E1,E1.w=E.w/\E1.bx=E.bx/\Inv C (St.get (u' ++σ)) a.tmps E1/\
  ∀j b,ms[j]? =some (some b)->b.mvOk=true/\∃x,xs[j]? =some x/\VR E1 (aA (St.get (u' ++σ))) (.h (i+j+1)) b (a.eval x):=by
 intro xs
 induction xs with
 |nil=>
  intro tys i ms u' h;obtain⟨rfl,rfl⟩:=aF h
  grind
 |cons x xs ih=>
  intro tys i ms u' h;obtain⟨r,u1,h1,h2⟩:=aD h;obtain⟨g1,g2,E1,g3,g4,g5,g6⟩:=ih _ (i+1) r u1 h1;obtain⟨q,u2,h3,h4⟩:=aD h2;have hu:u2=u1:=by
   unfold pQ at h3;split at h3
   ·obtain⟨_,u3,h5,h6⟩:=aD h3;obtain⟨_,rfl⟩:=bT h5
    grind [aF]
   all_goals grind [aF]
  subst hu;cases q with
  |false=>
   grind [aF]
  |true=>
   rw [jT] at h4;obtain⟨b,u3,h5,h6⟩:=aD h4;obtain⟨hok,h6⟩:=aU h6;obtain⟨e,rfl⟩:=aF h6;subst e;obtain⟨E2,e1,e2,e3,e4,e5,e6⟩:=eI g5 (i+1) h5;obtain⟨E3,f1,f2,f3,f4,f5⟩:=zM e4 hok e5;refine⟨by grind,fun hn=>by grind,E3,f1.trans (e1.trans g3),f2.trans (e2.trans g4),f4,fun j b' hj=> ?_⟩;cases j with
   |zero=>
    grind [zI]
   |succ j=>
    obtain⟨p1,y,p2,p3⟩:=g6 j b' (by grind);refine⟨p1,y,by grind,?_⟩;rw [show i+(j+1)+1=i+1+j+1 from by omega];refine pV f3 (fun s hs=>⟨hs,by rw [f2]⟩) p1 (fun c hd=> ?_) (pV e3 (fun s hs=>⟨e6 s hs,by rw [e2]⟩) p1 (fun c hd=> ?_) p3)
    all_goals grind
theorem kH:∀ {as:List Arg} {ms:List (Option AV)} {j:Nat} {x:Arg} {m:Option AV},as[j]? =some x->ms[j]? =some m->(dG as ms)[j]? =some (match m with |some b=> .val b|none=>x.toRo):=by
 intro as
 induction as with
 |nil=>grind
 |cons y as ih=>
  intro ms j x m h1 h2;cases ms with
  |nil=>grind
  |cons n ms=>
   cases j with
   |zero=>
    simp at h1 h2;subst h1 h2;cases n <;>rfl
   |succ j=>
    have:=ih (by simpa using h1) (by simpa using h2);cases n <;>simpa [dG] using this
theorem kI:∀ {as:List Arg} {ms:List (Option AV)},as.length=ms.length->(dG as ms).length=as.length:=by
 intro as
 induction as with
 |nil=>grind [dG]
 |cons y as ih=>
  intro ms h;cases ms with
  |nil=>grind
  |cons n ms=>
   have:=ih (ms:=ms) (by grind);cases n <;>simp [dG,this]
theorem qI(b:Bool)(s i:Nat):∃π ρ d,Pass π ρ d/\
 (∀l l',π l=some l' ↔(b=true/\l= .box s/\l' = .box i)\/(b=true/\∃c p,l= .arr (.k (2*s+1)) c p/\l' = .arr (.k (2*i+1)) c p)\/(∃j c p,l= .arr (.h (j+1)) c p/\l' = .arr (.k (2*j)) c p))/\
 (∀l' l,ρ l' =some l↔(b=true/\l= .box s/\l' = .box i)\/(b=true/\∃c p,l= .arr (.k (2*s+1)) c p/\l' = .arr (.k (2*i+1)) c p)\/(∃j c p,l= .arr (.h (j+1)) c p/\l' = .arr (.k (2*j)) c p)\/(∃c p,l= .arr (.h 0) c p/\l' = .arr (.h 0) c p)):=by
 refine Pass.of_rel _ _ ?_ ?_ ?_ ?_ ?_ ?_ ?_
 all_goals grind
theorem xD:∀ {as:List Arg} {ms:List (Option AV)} {j:Nat} {cs:List CV} {m:Option AV},iI as ms=true->as[j]? =some (.box cs)->ms[j]? =some m->m=none:=by
 intro as
 induction as with
 |nil=>grind
 |cons y as ih=>
  intro ms j cs m hb h1 h2;cases ms with
  |nil=>grind
  |cons n ms=>
   cases j with
   |zero=>
    simp at h1 h2;subst h1 h2;cases n with
    |none=>rfl
    |some b=>cases hb
   |succ j=>
    refine ih (ms:=ms) ?_ (by simpa using h1) (by grind);cases y <;>cases n <;>first |exact hb|cases hb
theorem pW{π:Own->Option Own}{hdr:Nat->Value}(hi:Inv C (St.get (u++σ)) a.tmps E){as:List Arg}{ks:List Nat}{vs:List Value}(h:ArgsOk E (St.get (u++σ)) as ks vs){ms:List (Option AV)}(hl:as.length=ms.length)
 (hnb:aR as=false) (hmv:∀j b v,ms[j]? =some (some b)->vs[j]? =some v->b.mvOk=true/\VR E (aA (St.get (u++σ))) (.h (j+1)) b v)
 (hπ:∀j c p,π (.arr (.h (j+1)) c p)=some (.arr (.k (2*j)) c p))
 (hbox:∀s,ks=[s]->∀(i:Nat) (cs:List CV),as[i]? =some (.box cs)->π (.box s)=some (.box i)/\∀c p,π (.arr (.k (2*s+1)) c p)=some (.arr (.k (2*i+1)) c p)) {bx:Nat->Nat} (hbx:∀s,ks=[s]->∀i,bx i=E.bx s):
 ArgsAt (E.into π true bx hdr) 0 (dG as ms) vs:=by
 refine nC (by rw [kI hl,h.len]) fun j x v hj hv=> ?_;have hjl:j<as.length:=by grind [kI]
 have hy:as[j]? =some as[j]:=Zv hjl;have hm:ms[j]? =some (ms[j]'(by omega)):=Zv (by omega);generalize as[j]=y at hy;generalize (ms[j]'(by omega))=m at hm;rw [kH hy hm] at hj;rw [Zc];cases m with
 |some b=>
  cases hj;obtain⟨hok,hvr⟩:=hmv j b v hm hv;show VR _ aL (.k (2*j)) b v;refine VR.imp0 (fun i x v hx hv=> ?_) hvr;have hxo:x.mvOk=true:=by
   cases b with
   |v g cs=>exact Zx.1 hok x hx
   |tup xs=>cases hok
   |none=>cases hok
  cases x with
  |sl f T xs=>
   cases f with
   |ro=>exact bC hi.env (.ro T xs) hv
   |own=>exact bC hi.env (.own T xs (fun p=>hπ j i p)) hv
   |tip=>exact bC hi.env (.tip T xs (fun p=>hπ j i p)) hv
   |_=>cases hxo
  |ptr s off=>cases hxo
  |clo k ss=>cases hxo
  |swp sf n h0 s=>cases hxo
  |eptr f T x off=>cases hxo
  |eref k c p i T x off=>cases hxo
  |apd k c p T xs=>cases hxo
  |_=>exact bC hi.env (.same _ trivial) hv
 |none=>
  cases hj;cases y with
  |val x=>
   obtain⟨⟨g,cs,rfl⟩,hvr⟩:=h.val j x v hy hv;exact rK hi.env (fun hc=>by grind [iW]) hvr
  |box cs=>
   obtain⟨s,hks,rfl,hg⟩:=h.box j cs v hy hv;obtain⟨h1,vals,ty,h2,h3⟩:=hi.box s cs hg;obtain⟨p1,p2⟩:=hbox s hks j cs hy;have hbb:=hbx s hks j;show _/\bS _ _ _ _;refine⟨by rw [show(E.into π true bx hdr).bx j=E.bx s from hbb],by grind [Env.into],vals,ty,by rw [show(E.into π true bx hdr).bx j=E.bx s from hbb];exact h2,?_⟩;exact rJ hi.env (fun hc=>by grind [iW]) (fun _=>p2) h3
  |gbox cs=>exact(h.ng j cs hy).elim
variable {E' :Env} {π ρ d:Own->Option Own} {bx:Nat->Nat} {hdr:Nat->Value}
theorem n4(hi:Inv C (St.get (u++σ)) a.tmps E){b:Bool}{s i:Nat}(hp:Pass π ρ d)
 (hρ:∀l' l,ρ l' =some l↔(b=true/\l= .box s/\l' = .box i)\/(b=true/\∃c p,l= .arr (.k (2*s+1)) c p/\l' = .arr (.k (2*i+1)) c p)\/(∃j c p,l= .arr (.h (j+1)) c p/\l' = .arr (.k (2*j)) c p)\/(∃c p,l= .arr (.h 0) c p/\l' = .arr (.h 0) c p))
 {as:List Arg} {r:CallO} {v:Value} {cs out:List CV} (hg:b=true->St.get (u++σ) (2*s+1)= .v true cs)
 (hx:ExitR (E.into π true bx hdr) E' as r v) (hpl:r.res.plain=true) (hout:out.all CV.plain=true) (hat:b=true->bS E' i (E.bx s) out):
 Hand C (((aC,.none)::(cond b [(2*s+1,.v true out)] []++u))++σ) a.tmps E'.w 0 r.res v:=by
 have hold:=hx.old;have hst:=fM (mu:=True) hp hi.env hold (fun hm=>absurd trivial hm);have hbk:=fL hp hi.env hx.env hx.size;have hdk:∀pl c,dkC ρ pl c->(∃n,pl= .h n)\/(b=true/\pl= .k (2*s+1)):=by
  rintro pl c ⟨p,l',h⟩
  grind
 have hdb:∀s',dbC ρ s' ->b=true/\s' =s:=by
  rintro s' ⟨l',h⟩
  grind
 generalize hUdef:((aC,AV.none)::(cond b [(2*s+1,AV.v true out)] []++u))=U;have hplo:∀z∈out,z.stale [aC] true=z:=by
  intro z hz;have:=Zx.1 hout z hz;cases z with
  |sl f T xs=>cases f <;>first |rfl|cases this
  |_=>first |rfl|cases this
 have hG:∀q,St.get (U++σ) q=if aC=q then .none else if b=true/\2*s+1=q then .v true out else
  (St.get (u++σ) q).mapC (CV.stale (cond b [aC,2*s+1] [aC]) true):=by
  intro q;have ne:(2*s+1).beq aC=false:=by
   grind [aC,Nat.eq_of_beq_eq_true]
  subst hUdef;show St.get ((aC,_)::((cond b [(2*s+1,AV.v true out)] []++u)++σ)) q=_;rw [St.get_cons];by_cases h1:aC=q
  ·grind
  ·simp only [h1,if_false];have hbeq:aC.beq aC=true:=by simp_all
   rw [hbeq];cases b with
   |false=>
    grind
   |true=>
    simp only [jT,jO,jM,true_and];rw [St.get_cons];by_cases h2:2*s+1=q
    ·simp only [h2,Ys];have:∀l:List CV,(∀z∈l,z.stale [aC] true=z)->l.map (CV.stale [aC] true)=l:=fun l hl=>by
      conv=>rhs;rw [<-List.map_id l]
      grind [List.map_congr_left]
     exact Zl (AV.v true) (this _ hplo)
    ·simp only [h2,if_false,ne];rw [AV.mapC_comp];exact Zl (fun f=>(St.get (u++σ) q).mapC f) (funext fun z=>CV.stale_stale z (fun q=>by grind) rfl)
 have hbxs:∀s',aA (St.get (u++σ)) s' ->aA (St.get (U++σ)) s' /\(E.back E' π ρ d).bx s' =E.bx s' :=by
  intro s' hs;refine⟨?_,rfl⟩;obtain⟨ys,hys⟩:=hs;unfold aA;rw [hG,Za (by grind [aC])];split
  ·grind
  ·rw [hys];exact⟨_,rfl⟩
 have cw:∀(q j:Nat) (z:CV),(b=true->q≠2*s+1)->CW (dkC ρ) True (.k q) j (z.stale (cond b [aC,2*s+1] [aC]) true) z:=by
  intro q j z h2;refine CW.stale (fun _ hd=> ?_) (fun k' c' hd=> ?_) (fun _=>rfl)
  all_goals grind
 have hres:VR (E.back E' π ρ d) (aA (St.get (U++σ))) (.h 0) r.res v:=by
  have:=iP (E:=E) (π:=π) (hide:=true) (bx:=bx) (hdr:=hdr) (d:=d) (bxs:=aA (St.get (U++σ))) hold hpl (fun c p=>(hρ _ _).2 (.inr (.inr (.inr ⟨c,p,rfl,rfl⟩)))) (hx.res.vr (fX hpl))
  grind
 refine⟨E.back E' π ρ d,rfl,hi.step hst hx.os hx.tape hx.output hx.size (fun b hlt h0=> ?_) hbk.new hbk.inj hbk.boxhw rfl hbxs
  (fun t=> .inr ⟨?_,rfl⟩) (fun s' cs' hs=> ?_),hres⟩
 ·have h2:=(hi.old b hlt h0).2.2;have hlt2:b<E.w.heap.size:=ZZ hlt hi.size;obtain⟨a1,a2,a3⟩:=hold b hlt2 (by grind [Env.into]);have hf:E.frame π b:=⟨hlt2,by grind⟩;exact⟨a1,by grind [Env.back],by grind [Env.back]⟩
 ·rw [hG];split
  ·trivial
  grind [AWk.map]
 ·rw [hG,Za (by grind)] at hs;by_cases hss:b=true/\s' =s
  ·obtain⟨hb,hss⟩:=hss;subst hss;rw [Zt ⟨hb,rfl⟩] at hs;injection hs with _ hs;subst hs;obtain⟨h1,vals,ty,h2,h3⟩:=hat hb;refine .inl ⟨(dB hold h1 ((hρ _ _).2 (.inl ⟨hb,rfl,rfl⟩))).1,vals,ty,h2,?_⟩
   have key:VRs (E.back E' π ρ d) (aA (St.get (U++σ))) (.k (2*s' +1)) 0 (out.map fun x=>cond true x x.rob) vals.toList:=
    VRs.imp (fun j x v hx hv=>gQ hold (Zx.1 hout x hx) (fun p=>(hρ _ _).2 (.inr (.inl ⟨hb,_,p,rfl,rfl⟩))) hv) h3
   simp_all
  ·rw [Za (fun h=>hss ⟨h.1,by grind⟩)] at hs;cases hq:St.get (u++σ) (2*s' +1) with
   |v g' cs0=>
    rw [hq] at hs;injection hs with hs1 hs2
    grind [CWs.map]
   |tup xs=>rw [hq] at hs;cases hs
   |none=>rw [hq] at hs;cases hs
theorem wX{w:World}{v:AV}{ob:List Prop}(hi:Inv C (St.get ([]++σ)) a.tmps E)(hw:E.w=w){c:Call}{f:FuncId}{r:CallO}
 (h:Mr (cond r.plain (mE tt (AbsCalls C.P) c f r) bad) σ []=some ((v,ob),u)) (hob:∀q∈ob,q):gM C (u++σ) a w c f v:=by
 obtain⟨hpl,h⟩:=aU h;unfold mE at h;obtain⟨ms,u1,h1,h2⟩:=aD h;obtain⟨hml,hmn,E1,e1,e2,hi1,hmv⟩:=wW hi _ _ 0 _ _ h1;obtain⟨p,u2,h3,h4⟩:=aD h2;cases hn:ms.all Option.isNone with
 |true=>
  rw [hn,jT] at h4;obtain rfl:=hmn hn;obtain⟨rfl,hA⟩:=i8 hi _ _ _ _ h3;exact lG hi hw hpl hA h4 hob
 |false=>
  rw [hn,jF] at h4;obtain⟨rfl,hA⟩:=i8 hi1 _ _ _ _ h3;cases hnb:aR p.1|| !iI p.1 ms with
  |true=>grind [aE]
  |false=>
  rw [hnb,jF] at h4;obtain⟨hb1,hb2⟩:=ZL.1 hnb;have hb2:iI p.1 ms=true:=by grind
  obtain⟨hpr,hpo⟩:r.res.plain=true/\r.outs.all (·.all CV.plain)=true:=by grind [CallO.plain]
  split at h4
  case h_2=>grind [aE]
  obtain⟨_,u3,h5,h6⟩:=aD h4;obtain⟨_,u4,h7,h8⟩:=aD h6;obtain rfl:=bP h7;obtain⟨e8,rfl⟩:=aF h8;cases e8;have hcon:AbsCalls C.P f (dG p.1 ms) r:=hob _ (Zo.2 rfl);have hlen:p.1.length=ms.length:=by rw [hA.len,hml];simp
  have hmv' :∀j b v,ms[j]? =some (some b)->(c.args.toList.map a.eval)[j]? =some v->b.mvOk=true/\VR E1 (aA (St.get (u2++σ))) (.h (j+1)) b v:=by
   grind
  subst hw;rw [<-e1];obtain⟨as,ks⟩:=p;dsimp only at*;unfold eJ at h5;split at h5
  ·
   rename_i houts;obtain⟨_,rfl⟩:=aF h5;obtain⟨π,ρ,d,hp,hπ,hρ⟩:=qI false 0 0;have hargs:ArgsAt (E1.into π true E1.bx E1.hdr) 0 (dG as ms) (c.args.map a.eval).toList:=by
    rw [dY];exact pW hi1 hA hlen hb1 hmv' (fun j c p=>(hπ _ _).2 (.inr (.inr ⟨j,c,p,rfl,rfl⟩))) (fun s hs=>by grind) (fun s hs=>by grind)
   refine(hcon (E1.into π true E1.bx E1.hdr) _ (eZ hp hi1.env) (eY hi1.bas) hargs).mono fun val w' hr=> ?_;obtain⟨E',rfl,hx⟩:=hr;exact n4 (b:=false) (s:=0) (i:=0) (cs:=[]) (out:=[]) hi1 hp hρ (fun h=>by cases h) hx hpr rfl (fun h=>by cases h)
  ·
   rename_i s out houts;obtain⟨old,u5,h9,h10⟩:=aD h5;unfold dC at h9;obtain⟨b2,u6,h11,h12⟩:=aD h9;obtain⟨rfl,rfl⟩:=bT h11;have h12' :St.get (u6++σ) (2*s+1)= .v true old/\u5=u6:=by
    grind [aF,aE]
   obtain⟨hg,rfl⟩:=h12';obtain⟨hlen2,h10⟩:=aU h10;obtain⟨_,u7,h13,h14⟩:=aD h10;obtain rfl:=bP h13;obtain⟨_,rfl⟩:=aF h14;obtain⟨_,i,cs,hasi⟩:=hA.has s (Zo.2 rfl);obtain⟨π,ρ,d,hp,hπ,hρ⟩:=qI true s i;have hpos:∀(i' :Nat) (cs' :List CV),as[i']? =some (.box cs')->i' =i:=fun i' cs' h=>hA.one i' i cs' cs h hasi;have hil:i<as.length:=(Zs.1 hasi).1;have hmi:ms[i]? =some none:=by
    grind [xD]
   have hargs:ArgsAt (E1.into π true (fun _=>E1.bx s) E1.hdr) 0 (dG as ms) (c.args.map a.eval).toList:=by
    rw [dY];refine pW hi1 hA hlen hb1 hmv' (fun j c p=>(hπ _ _).2 (.inr (.inr ⟨j,c,p,rfl,rfl⟩))) (fun s' hs i' cs' hg' => ?_) (fun s' hs i' => ?_)
    all_goals grind
   refine(hcon (E1.into π true (fun _=>E1.bx s) E1.hdr) _ (eZ hp hi1.env) (eY hi1.bas) hargs).mono fun val w' hr=> ?_;obtain⟨E',rfl,hx⟩:=hr
   obtain⟨o,ho1,ho2⟩:=nF (cs:=cs.map CV.toBx) hx.outs (j:=i) (kH hasi hmi) (fun i' cs' =>⟨fun h=>by
    have hl' :i' <as.length:=by grind [kI]
    have hy:as[i']? =some as[i']:=Zv hl';have hm:ms[i']? =some (ms[i']'(by omega)):=Zv (by omega);generalize as[i']=y at hy;generalize (ms[i']'(by omega))=m at hm;rw [kH hy hm] at h;cases m with
    |some b=>cases h
    |none=>
     cases y with
     |val x=>cases h
     |gbox y=>exact(hA.ng i' y hy).elim
     |box y=>grind,fun h=>by
    have hl' :i' <as.length:=by grind [kI]
    have hy:as[i']? =some as[i']:=Zv hl';have hm:ms[i']? =some (ms[i']'(by omega)):=Zv (by omega);generalize as[i']=y at hy;generalize (ms[i']'(by omega))=m at hm;rw [kH hy hm] at h;cases m with
    |some b=>cases h
    |none=>
     cases y with
     |val x=>cases h
     |box y=>cases h
     |gbox y=>exact hA.ng i' y hy⟩)
   rw [ho1] at houts hpo;cases houts;rw [Zc] at ho2;exact n4 (b:=true) (cs:=old) hi1 hp hρ (fun _=>hg) hx hpr (by grind) (fun _=>ho2)
  grind [aE]
end
def cG:List CV->List Value->List Value
 | .sl (.al _ _ _) _ _::r,v::vs=>v::cG r vs
 |_::r,_::vs=>cG r vs
 |_,_=> []
def cellsOf(g:Bool)(v:Value):List Value:=
 match g with
 |true=>match v with | .agg a=>a.toList|_=> []
 |false=> [v]
def eF:List Arg->List Value->List Value
 | .val (.v g cs)::r,v::vs=>cG cs (cellsOf g v)++eF r vs
 |_::r,_::vs=>eF r vs
 |_,_=> []
theorem eA{E:Env}{bxs:Nat->Prop}{pl:Pl}{c:Nat}{g:Bool}{cs:List CV}{v:Value}:VR1 E bxs pl c g cs v↔VRs E bxs pl c cs (cellsOf g v)/\(g=true->∃a,v= .agg a):=by
 cases g with
 |true=>
  constructor
  ·rintro ⟨vs,rfl,h⟩;exact⟨h,fun _=>⟨vs,rfl⟩⟩
  ·rintro ⟨h,h2⟩;obtain⟨a,rfl⟩:=h2 rfl;exact⟨a,rfl,h⟩
 |false=>exact⟨fun h=>⟨h,fun h=>by cases h⟩,fun h=>h.1⟩
def LentPass(π:Own->Option Own)(hdr:Nat->Value)(off:Nat)(L:List aJ)(Tg:List (Nat×Nat)):Prop:=
 ∀(n:Nat) (z:aJ) (t:Nat×Nat),L[n]? =some z->Tg[n]? =some t->(∀m c,hdr (off+n)≠ .slice none m c)->∀q,π (.arr (.k z.1) z.2.1 (z.2.2.1++q))=some (.arr (.k t.1) t.2 q)
def HdrOk(hdr:Nat->Value)(off:Nat)(H:List Value):Prop:=∀(n:Nat) (v:Value),H[n]? =some v->hdr (off+n)=v
theorem LentPass.tail{π:Own->Option Own}{hdr:Nat->Value}{off:Nat}{z:aJ}{t:Nat×Nat}{L:List aJ}{Tg:List (Nat×Nat)}(h:LentPass π hdr off (z::L) (t::Tg)):LentPass π hdr (off+1) L Tg:=
 fun n z t h1 h2 h3 q=>h (n+1) z t (by grind) (by grind) (by grind) q
theorem HdrOk.tail{hdr:Nat->Value}{off:Nat}{v:Value}{H:List Value}(h:HdrOk hdr off (v::H)):HdrOk hdr (off+1) H:=
 fun n v h1=>by rw [show off+1+n=off+(n+1) from by omega];exact h (n+1) v (by grind)
theorem pI:∀ {cs:List CV} {m k c:Nat},(bG k c (aO m cs).1).length=(aO m cs).2.length:=by
 intro cs
 induction cs with
 |nil=>intros;rfl
 |cons x cs ih=>
  intro m k c;cases x with
  |sl f T xs=>
   cases f with
   |al k1 c1 p1=>grind [aO,bG]
   |own=>cases xs <;>simp [aO,bG,CV.toRo,ih]
   |_=>grind [aO,bG,CV.toRo]
  |_=>simp [aO,bG,CV.toRo,ih]
theorem pH:∀ {cs:List CV} {m:Nat} {vs:List Value},cs.length=vs.length->(cG cs vs).length=(aO m cs).2.length:=by
 intro cs
 induction cs with
 |nil=>grind [cG,aO]
 |cons x cs ih=>
  intro m vs h;cases vs with
  |nil=>grind
  |cons v vs=>
   have h' :cs.length=vs.length:=by grind
   cases x with
   |sl f T xs=>cases f <;>simp [aO,cG,ih h'] <;>exact ih h'
   |_=>simp [aO,cG] ;exact ih h'
section
variable {E:Env} {π:Own->Option Own} {hide:Bool} {bx:Nat->Nat} {hdr:Nat->Value} {bxs:Nat->Prop}
theorem wH(he:EnvOk E){pl:Pl}{k:Nat}:∀ {cs:List CV} {vals:List Value} {m c0:Nat},VRs E bxs pl c0 cs vals->(∀x∈cs,x.isBor=false)->
 LentPass π hdr m (aO m cs).2 (bG k c0 (aO m cs).1)->HdrOk hdr m (cG cs vals)->VRs (E.into π hide bx hdr) aL (.k k) c0 (aO m cs).1 vals:=by
 intro cs
 induction cs with
 |nil=>grind [VRs,aO]
 |cons x cs ih=>
  intro vals m c0 h hb hp hh;cases vals with
  |nil=>exact h.elim
  |cons v vals=>
   have hb' :∀x∈cs,x.isBor=false:=fun y hy=>hb y (Zr _ hy);have hx:=hb x Zp;obtain⟨h1,h2⟩:=h;cases x with
   |sl f T xs=>
    cases f with
    |al k1 c1 p1=>
     have e:=hh 0 v rfl;rw [Nat.add_zero] at e;refine⟨bC he (.lnt k1 c1 m p1 T xs (fun hn q=>hp 0 (k1,c1,p1,T) (k,c0) rfl rfl (by grind) q) e.symm) h1,ih h2 hb' hp.tail hh.tail⟩
    |ro=>exact⟨bC he (.ro T xs) h1,ih h2 hb' hp hh⟩
    |bor=>cases hx
    |own=>
     cases xs with
     |nil=>exact⟨RdP.nilRo h1,ih h2 hb' hp hh⟩
     |cons y ys=>exact⟨h1.one,ih h2 hb' hp hh⟩
    |tip=>exact⟨h1.one,ih h2 hb' hp hh⟩
    |lnt n=>exact⟨h1.one,ih h2 hb' hp hh⟩
   |ptr s off=>exact⟨h1.one,ih h2 hb' hp hh⟩
   |clo k ss=>exact⟨h1.one,ih h2 hb' hp hh⟩
   |swp sf n h0 s=>exact⟨h1.one,ih h2 hb' hp hh⟩
   |eptr f T x off=>exact⟨h1.one,ih h2 hb' hp hh⟩
   |eref k c p i T x off=>exact⟨h1.one,ih h2 hb' hp hh⟩
   |apd k c p T xs=>exact⟨h1.one,ih h2 hb' hp hh⟩
   |int k n=>exact⟨bC he (.same _ trivial) h1,ih h2 hb' hp hh⟩
   |bool b=>exact⟨bC he (.same _ trivial) h1,ih h2 hb' hp hh⟩
   |str s=>exact⟨bC he (.same _ trivial) h1,ih h2 hb' hp hh⟩
   |val v=>exact⟨bC he (.same _ trivial) h1,ih h2 hb' hp hh⟩
   |undef=>exact⟨bC he (.same _ trivial) h1,ih h2 hb' hp hh⟩
theorem LentPass.left{off:Nat}{L L' :List aJ}{Tg Tg' :List (Nat×Nat)}(h:LentPass π hdr off (L++L') (Tg++Tg')):LentPass π hdr off L Tg:=
 fun n z t h1 h2 h3 q=>h n z t (by grind) (by grind) h3 q
theorem LentPass.right{off:Nat}{L L' :List aJ}{Tg Tg' :List (Nat×Nat)}(hl:L.length=Tg.length)(h:LentPass π hdr off (L++L') (Tg++Tg')):LentPass π hdr (off+L.length) L' Tg' :=
 fun n z t h1 h2 h3 q=>h (L.length+n) z t (by grind)
  (by grind) (by grind) q
theorem HdrOk.left{off:Nat}{H H' :List Value}(h:HdrOk hdr off (H++H')):HdrOk hdr off H:=
 fun n v h1=>h n v (by grind)
theorem HdrOk.right{off:Nat}{H H' :List Value}(h:HdrOk hdr off (H++H')):HdrOk hdr (off+H.length) H' :=
 fun n v h1=>by rw [ZA];exact h _ v (by grind)
theorem wF(he:EnvOk E):∀ {as:List Arg} {vs:List Value} {m i:Nat},as.length=vs.length->
 (∀(j:Nat) (x:Arg) (v:Value),as[j]? =some x->vs[j]? =some v->∃g cs,x= .val (.v g cs)/\VR1 E bxs (.h 1) 0 g cs v/\∀x∈cs,x.isBor=false)->
 LentPass π hdr m (aW m as).2 (bI i (aW m as).1)->HdrOk hdr m (eF as vs)->ArgsAt (E.into π hide bx hdr) i (aW m as).1 vs:=by
 intro as
 induction as with
 |nil=>grind [ArgsAt,aW]
 |cons x as ih=>
  intro vs m i hl h hp hh;cases vs with
  |nil=>grind
  |cons v vs=>
   obtain⟨g,cs,rfl,h1,h2⟩:=h 0 x v rfl rfl;obtain⟨h1,h3⟩:=eA.1 h1;have hll:(aO m cs).2.length=(bG (2*i) 0 (aO m cs).1).length:=pI.symm;have hvl:(cG cs (cellsOf g v)).length=(aO m cs).2.length:=pH (bB h1);refine⟨eA.2 ⟨wH he h1 h2 (LentPass.left (L:=(aO m cs).2) hp) (HdrOk.left hh),h3⟩,?_⟩;refine ih (by grind) (fun j y w hy hw=>h (j+1) y w (by grind) (by grind)) (LentPass.right (L:=(aO m cs).2) hll hp) ?_;have:=HdrOk.right hh
   grind
end
theorem fW{k:Nat}:∀ {cs:List CV} {c:Nat} {n:Nat} {t:Nat×Nat},(bG k c cs)[n]? =some t->t.1=k/\c<=t.2:=by
 intro cs
 induction cs with
 |nil=>grind [bG]
 |cons x cs ih=>
  intro c n t h;have other:(bG k (c+1) cs)[n]? =some t->t.1=k/\c<=t.2:=fun h=>by grind
  cases x with
  |sl f T xs=>
   cases f with
   |lnt m=>
    grind [bG]
   |_=>exact other h
  |_=>exact other h
theorem wJ{k:Nat}:∀ {cs:List CV} {c:Nat} {n n' :Nat} {t:Nat×Nat},(bG k c cs)[n]? =some t->(bG k c cs)[n']? =some t->n=n' :=by
 intro cs
 induction cs with
 |nil=>grind [bG]
 |cons x cs ih=>
  intro c n n' t h h';cases x with
  |sl f T xs=>
   cases f with
   |lnt m=>
    cases n with
    |zero=>
     cases n' with
     |zero=>rfl
     |succ n' =>
      simp [bG] at h h';subst h;have:=(fW h').2;omega
    |succ n=>
     cases n' with
     |zero=>
      simp [bG] at h h';subst h';have:=(fW h).2;omega
     |succ n' =>grind [bG]
   |_=>exact ih (c:=c+1) h h'
  |_=>exact ih (c:=c+1) h h'
theorem pL:∀ {as:List Arg} {i n:Nat} {t:Nat×Nat},(bI i as)[n]? =some t->2*i<=t.1:=by
 intro as
 induction as with
 |nil=>grind [bI]
 |cons x as ih=>
  intro i n t h;have other:(bI (i+1) as)[n]? =some t->2*i<=t.1:=fun h=>by grind
  cases x with
  |val y=>
   cases y with
   |v g cs=>
    simp only [bI] at h;by_cases hn:n<(bG (2*i) 0 cs).length
    ·rw [Z0 hn] at h;have:=(fW h).1;omega
    grind
   |_=>exact other h
  |box cs=>exact other h
  |gbox cs=>exact other h
theorem pM:∀ {as:List Arg} {i n n' :Nat} {t:Nat×Nat},(bI i as)[n]? =some t->(bI i as)[n']? =some t->n=n' :=by
 intro as
 induction as with
 |nil=>grind [bI]
 |cons x as ih=>
  intro i n n' t h h';cases x with
  |val y=>
   cases y with
   |v g cs=>
    simp only [bI] at h h';by_cases hn:n<(bG (2*i) 0 cs).length <;>by_cases hn' :n' <(bG (2*i) 0 cs).length
    ·grind [wJ]
    ·rw [Z0 hn] at h;rw [ZS (by omega)] at h';have:=(fW h).1;have:=pL h';omega
    ·rw [ZS (by omega)] at h;rw [Z0 hn'] at h';have:=(fW h').1;have:=pL h;omega
    grind
   |_=>exact ih (i:=i+1) h h'
  |box cs=>exact ih (i:=i+1) h h'
  |gbox cs=>exact ih (i:=i+1) h h'
def cS(L:List aJ)(Tg:List (Nat×Nat))(H:List Value)(l l' :Own):Prop:=
 ∃(n:Nat) (z:aJ) (t:Nat×Nat) (v:Value),L[n]? =some z/\Tg[n]? =some t/\H[n]? =some v/\(∀m c,v≠ .slice none m c)/\∃q,l= .arr (.k z.1) z.2.1 (z.2.2.1++q)/\l' = .arr (.k t.1) t.2 q
def LentApart(L:List aJ):Prop:=
 ∀(n n' :Nat) (z z' :aJ) (q q' :List (Nat×Nat)),L[n]? =some z->L[n']? =some z' ->z.1=z'.1->z.2.1=z'.2.1->z.2.2.1++q=z'.2.2.1++q' ->n=n'
theorem xX{L:List aJ}{Tg:List (Nat×Nat)}{H:List Value}(hL:LentApart L)(hT:∀(n n' :Nat) (t:Nat×Nat),Tg[n]? =some t->Tg[n']? =some t->n=n'):∃π ρ d,Pass π ρ d/\
 (∀l l',π l=some l' ↔cS L Tg H l l')/\(∀l' l,ρ l' =some l↔cS L Tg H l l' \/(∃c p,l= .arr (.h 0) c p/\l' = .arr (.h 0) c p)):=by
 have f1:∀l a b,cS L Tg H l a->cS L Tg H l b->a=b:=by
  rintro l a b ⟨n,z,t,v,h1,h2,h3,h4,q,rfl,rfl⟩ ⟨n',z',t',v',h1',h2',h3',h4',q',e,rfl⟩;injection e with e1 e2 e3;injection e1 with e1;obtain rfl:=hL n n' z z' q q' h1 h1' e1 e2 e3
  simp_all
 have f2:∀a b l,cS L Tg H a l->cS L Tg H b l->a=b:=by
  rintro a b l ⟨n,z,t,v,h1,h2,h3,h4,q,rfl,rfl⟩ ⟨n',z',t',v',h1',h2',h3',h4',q',rfl,e⟩
  grind
 refine Pass.of_rel _ _ f1 f2 ?_ ?_ (fun _ _ h=> .inl h) ?_ ?_
 ·rintro l a b (h|⟨c,p,rfl,rfl⟩) (h' |⟨c',p',e,rfl⟩)
  ·grind
  ·subst e;obtain⟨n,z,t,v,h1,h2,h3,h4,q,e,_⟩:=h;cases e
  ·obtain⟨n,z,t,v,h1,h2,h3,h4,q,e,_⟩:=h';cases e
  grind
 ·rintro a b l (h|⟨c,p,rfl,rfl⟩) (h' |⟨c',p',rfl,e⟩)
  ·grind
  ·subst e;obtain⟨n,z,t,v,h1,h2,h3,h4,q,_,e⟩:=h;cases e
  ·obtain⟨n,z,t,v,h1,h2,h3,h4,q,_,e⟩:=h';cases e
  grind
 ·rintro l i (h|⟨c,p,rfl,e⟩)
  ·obtain⟨n,z,t,v,h1,h2,h3,h4,q,_,e⟩:=h;cases e
  grind
 ·rintro s l (h|⟨c,p,e,rfl⟩)
  ·obtain⟨n,z,t,v,h1,h2,h3,h4,q,e,_⟩:=h;cases e
  grind
theorem rT{E' :Env}:∀ {ps:List (Nat×Nat)} {m n:Nat} {ys:List CV} {t:Nat×Nat} {y:CV},fJ E' m ps ys->ps[n]? =some t->ys[n]? =some y->
 ∃T zs,y= .sl (.lnt (m+n)) T zs/\VRc E' aL (.k t.1) t.2 y (E'.hdr (m+n)):=by
 intro ps
 induction ps with
 |nil=>grind
 |cons p ps ih=>
  intro m n ys t y h h1 h2;cases ys with
  |nil=>grind
  |cons y0 ys=>
   obtain⟨⟨T,zs,e⟩,g2,g3⟩:=h
   grind
theorem qK{U:Ty}{y x x' :CV}{p:Prop}(h:kP U y x=some (x',p))(hp:p):∃f g xs zs,x= .sl f U xs/\y= .sl g U zs/\zs.length=xs.length/\x' = .sl f U zs:=by
 unfold kP at h;split at h
 all_goals grind
theorem iJ{x:Nat}{r:List Nat}(h:bA (x::r)=true):(∀y∈r,y≠x)/\bA r=true:=by
 grind [bA]
theorem kL:∀ {l:List Nat} {n n' x:Nat},bA l=true->l[n]? =some x->l[n']? =some x->n=n' :=by
 intro l
 induction l with
 |nil=>grind
 |cons y l ih=>
  intro n n' x h h1 h2;obtain⟨h3,h4⟩:=iJ h
  grind
theorem zJ{k:Nat}:∀ {L:List aJ} {ys cs cs' :List CV} {ps:List Prop},fG k L ys cs=some (cs',ps)->(∀p∈ps,p)->bA (L.map fun z=>z.2.1)=true->
 cs'.length=cs.length/\(∀(n:Nat) (z:aJ),L[n]? =some z->z.1=k/\z.2.2.1=[])/\∀j:Nat,
  (∃(n:Nat) (T:Ty) (y:CV) (f g:Fl) (xs zs:List T.den),L[n]? =some (k,j,[],T)/\ys[n]? =some y/\y= .sl g T zs/\zs.length=xs.length/\cs[j]? =some (.sl f T xs)/\
    CV.mutable (.sl f T xs)=true/\cs'[j]? =some (.sl f T zs))\/(cs'[j]? =cs[j]? /\∀(n:Nat) (z:aJ),L[n]? =some z->z.2.1≠j):=by
 intro L
 induction L with
 |nil=>
  grind [fG]
 |cons z L ih=>
  intro ys cs cs' ps h hps hd;obtain⟨k',c,p,U⟩:=z;cases p with
  |cons q p=>grind [fG]
  |nil=>
   cases ys with
   |nil=>grind [fG]
   |cons y ys=>
    simp only [fG] at h;cases hk:k'.beq k with
    |false=>grind
    |true=>
     rw [hk] at h;obtain rfl:=Zj hk;simp only [jT] at h;split at h
     ·rename_i x hx;cases hm:x.mutable with
      |false=>grind
      |true=>
       rw [hm] at h;simp only [jT] at h;split at h
       ·rename_i x' p hx';split at h
        ·rename_i cs1 ps1 hrest;cases h;obtain⟨f,g,xs,zs,rfl,rfl,hl,rfl⟩:=qK hx' (hps p Zp);obtain⟨d1,d2⟩:=iJ hd;obtain⟨e1,e2,e3⟩:=ih hrest (fun q hq=>hps q (Zr _ hq)) d2;have hc:c<cs.length:=(Zs.1 hx).1;refine⟨by grind,fun n z hz=> ?_,fun j=> ?_⟩
         ·grind
         ·by_cases hj:j=c
          ·subst hj;rcases e3 j with ⟨n,T,y,f',g',xs',zs',a1,_⟩|⟨a1,a2⟩
           ·grind
           ·refine .inl ⟨0,U,_,f,g,xs,zs,rfl,rfl,rfl,hl,hx,hm,?_⟩
            grind
          ·rcases e3 j with ⟨n,T,y,f',g',xs',zs',a1,a2,a3,a4,a5,a6⟩|⟨a1,a2⟩
           ·rw [Y5 (Yn hj)] at a5;exact .inl ⟨n+1,T,y,f',g',xs',zs',by grind,by grind,a3,a4,a5,a6⟩
           ·refine .inr ⟨by grind,fun n z hz=> ?_⟩
            grind
        grind
       grind
     grind
theorem qT{k c i:Nat}:∀ {L:List aJ} {ys cs cs' :List CV} {ps:List Prop},d6 k c i L ys cs=some (cs',ps)->(∀p∈ps,p)->bA (L.map fun z=>(z.2.2.1.headD (0,0)).2)=true->
 cs'.length=cs.length/\(∀(n:Nat) (z:aJ),L[n]? =some z->z.1=k/\z.2.1=c/\∃j,z.2.2.1=[(i,j)])/\∀j:Nat,
  (∃(n:Nat) (T:Ty) (y:CV) (f g:Fl) (xs zs:List T.den),L[n]? =some (k,c,[(i,j)],T)/\ys[n]? =some y/\y= .sl g T zs/\zs.length=xs.length/\cs[j]? =some (.sl f T xs)/\
    cs'[j]? =some (.sl f T zs))\/(cs'[j]? =cs[j]? /\∀(n:Nat) (z:aJ),L[n]? =some z->z.2.2.1≠ [(i,j)]):=by
 intro L
 induction L with
 |nil=>
  grind [d6]
 |cons z L ih=>
  intro ys cs cs' ps h hps hd;obtain⟨k',c',p,U⟩:=z
  match p,h,hd with
  | [],h,_=>grind [d6]
  |_::_::_,h,_=>grind [d6]
  | [(i',j0)],h,hd=>
    cases ys with
    |nil=>grind [d6]
    |cons y ys=>
     simp only [d6] at h;cases hk:(k'.beq k&&c'.beq c) with
     |false=>grind
     |true=>
      rw [hk] at h;simp only [Zu] at hk;obtain rfl:=Zj hk.1;obtain rfl:=Zj hk.2;simp only [jT] at h;split at h
      ·rename_i x hx;split at h
       ·rename_i x' p hx';split at h
        ·rename_i cs1 ps1 hrest;cases h;have hii:i' =i:=hps _ Zp;subst hii;obtain⟨f,g,xs,zs,rfl,rfl,hl,rfl⟩:=qK hx' (hps p (Zr _ Zp));obtain⟨d1,d2⟩:=iJ hd;obtain⟨e1,e2,e3⟩:=ih hrest (fun q hq=>hps q (Zr _ (Zr _ hq))) d2;have hc:j0<cs.length:=(Zs.1 hx).1;refine⟨by grind,fun n z hz=> ?_,fun j=> ?_⟩
         ·cases n with
          |zero=>grind
          |succ n=>grind
         ·by_cases hj:j=j0
          ·subst hj;rcases e3 j with ⟨n,T,y,f',g',xs',zs',a1,_⟩|⟨a1,a2⟩
           ·grind
           ·refine .inl ⟨0,U,_,f,g,xs,zs,rfl,rfl,rfl,hl,hx,?_⟩
            grind
          ·rcases e3 j with ⟨n,T,y,f',g',xs',zs',a1,a2,a3,a4,a5,a6⟩|⟨a1,a2⟩
           ·rw [Y5 (Yn hj)] at a5;exact .inl ⟨n+1,T,y,f',g',xs',zs',by grind,by grind,a3,a4,a5,a6⟩
           ·refine .inr ⟨by grind,fun n z hz=> ?_⟩
            grind
        grind
       grind
      grind
section
variable {E E' :Env} {π ρ d:Own->Option Own} {bx:Nat->Nat} {hdr:Nat->Value} {L:List aJ} {Tg:List (Nat×Nat)} {H:List Value}
 (hp:Pass π ρ d) (hπ:∀l l',π l=some l' ↔cS L Tg H l l') (hρ:∀l' l,ρ l' =some l↔cS L Tg H l l' \/(∃c p,l= .arr (.h 0) c p/\l' = .arr (.h 0) c p))
 (hold:∀b,b<E.w.heap.size->(E.into π true bx hdr).ow b=none->E'.w.heap[b]? =E.w.heap[b]? /\E'.hw b=(E.into π true bx hdr).hw b/\E'.ow b=none) (he:EnvOk E)
include hp hπ hρ hold he
theorem l8{k c:Nat}{p:List (Nat×Nat)}(hn:∀l',¬cS L Tg H (.arr (.k k) c p) l'):fK E (E.back E' π ρ d) (.arr (.k k) c p) (.arr (.k k) c p):=by
 intro b hb;have hlt:b<E.w.heap.size:=by
  rcases Yj b E.w.heap.size with h1|h1
  ·grind
  ·rw [(he.new _ h1).1] at hb;grind
 have hpi:π (.arr (.k k) c p)=none:=by
  cases hq:π (.arr (.k k) c p) with
  |none=>rfl
  |some l=>grind
 have hf:E.frame π b:=⟨hlt,by grind⟩;obtain⟨a1,a2,a3⟩:=hold _ hlt (by grind [Env.into]);refine⟨?_,by grind [Env.back],a1⟩;simp only [Env.back,Zt hf,hb,jS];rcases hp.drop (.arr (.k k) c p) with ⟨⟨l',hl'⟩,_⟩|⟨_,h2⟩
 all_goals grind
theorem wK(hL:LentApart L){n m:Nat}{z:aJ}{t:Nat×Nat}{v vk:Value}{T:Ty}{xs ys:List T.den}(h1:L[n]? =some z)(h2:Tg[n]? =some t)(h3:H[n]? =some v)
 (hk:RdP E.w (fun q=>okF E (.k z.1) z.2.1 .own (z.2.2.1++q)) (fun q=>qF E (.k z.1) z.2.1 .own (z.2.2.1++q)) vk (.sl T.sz (xs.map T.toD)))
 (ha:Tip E (.arr (.k z.1) z.2.1 z.2.2.1) v T.sz) (hy:VRc E' aL (.k t.1) t.2 (.sl (.lnt m) T ys) v) (hlen:ys.length=xs.length):
 RdP (E.back E' π ρ d).w (fun q=>okF (E.back E' π ρ d) (.k z.1) z.2.1 .own (z.2.2.1++q)) (fun q=>qF (E.back E' π ρ d) (.k z.1) z.2.1 .own (z.2.2.1++q)) vk (.sl T.sz (ys.map T.toD)):=by
 have hqk:Tip E (.arr (.k z.1) z.2.1 z.2.2.1) vk T.sz:=by have:=hk.top;rwa [Z8] at this
 obtain⟨adk,capk,ek,hck⟩:=RdP.shape hk;obtain⟨ada,capa,ea,hca⟩:=RdP.shape hy;rw [Zm] at ek ea hck hca;cases adk with
 |none=>
  subst ek;obtain⟨h0,hcap⟩:=hqk;have:ys=[]:=YT (by omega);subst this;rw [h0,hcap];exact RdP.nil none 0 T.sz ⟨rfl,rfl⟩
 |some adk=>
  cases ada with
  |none=>
   subst ea;obtain⟨h0,_⟩:=ha;have:ys=[]:=YT h0;subst this;have hxs:xs.length=0:=by grind
   subst ek
   have hm:=l8 hp hπ hρ hold he (k:=z.1) (c:=z.2.1) (p:=z.2.2.1) (fun l' hl' =>by
    obtain⟨n',z',t',v',g1,g2,g3,g4,q,e,_⟩:=hl';injection e with e1 e2 e3;injection e1 with e1;obtain rfl:=hL n n' z z' [] q h1 g1 e1 e2 (by grind)
    grind)
   have ht:=Tip.moves hm hqk;rw [hxs] at ht ⊢;exact RdP.nil (some adk) capk T.sz (by show Tip _ _ _ _;grind)
  |some ada=>
   have hv:vk=v:=by
    subst ek ea;obtain⟨bk,ok,fk⟩:=adk;obtain⟨ba,oa,fa⟩:=ada;have hsz:=Ty.sz_pos T;unfold Tip at hqk ha;split at hqk
    ·rename_i b1 n1 c1 e1;split at ha
     ·rename_i b2 n2 c2 e2;obtain⟨p1,p2,p3,cs1,ty1,lo1,hi1,p4,p5,p6⟩:=hqk;obtain⟨q1,q2,q3,cs2,ty2,lo2,hi2,q4,q5,q6⟩:=ha;have hb:=he.inj _ _ _ p1 q1
      grind [Nat.eq_of_mul_eq_mul_right]
     all_goals grind
    all_goals grind
   rw [hv]
   have hpass:∀q,ρ (.arr (.k t.1) t.2 q)=some (.arr (.k z.1) z.2.1 (z.2.2.1++q)):=fun q=>
    (hρ _ _).2 (.inl ⟨n,z,t,v,h1,h2,h3,(by grind),q,rfl,rfl⟩)
   exact RdP.mono hy (fun q b o ho=>⟨rfl,by rw [(dB (d:=d) hold ho.2 (hpass q)).2];exact ho.1,(dB hold ho.2 (hpass q)).1⟩) (fun q v sz ht=>Tip.back hold (hpass q) ht.1)
end
theorem LentApart.top{L:List aJ}(h2:bA (L.map fun z=>z.2.1)=true):LentApart L:=by
 intro n n' z z' q q' hz hz' _ e _;exact kL h2 (x:=z.2.1) (by grind) (by grind)
theorem LentApart.row{k c i:Nat}{L:List aJ}(h1:∀(n:Nat) (z:aJ),L[n]? =some z->z.1=k/\z.2.1=c/\∃j,z.2.2.1=[(i,j)])
 (h2:bA (L.map fun z=>(z.2.2.1.headD (0,0)).2)=true):LentApart L:=by
 intro n n' z z' q q' hz hz' _ _ e;obtain⟨_,_,j,hj⟩:=h1 n z hz;obtain⟨_,_,j',hj'⟩:=h1 n' z' hz';rw [hj,hj'] at e;simp at e;refine kL h2 (x:=j) (by grind) (by grind)
theorem wI{E:Env}{bxs:Nat->Prop}{pl:Pl}:∀ {cs:List CV} {vals:List Value} {m c0:Nat},VRs E bxs pl c0 cs vals->
 ∀(n:Nat) (z:aJ) (v:Value),(aO m cs).2[n]? =some z->(cG cs vals)[n]? =some v->Tip E (.arr (.k z.1) z.2.1 z.2.2.1) v z.2.2.2.sz:=by
 intro cs
 induction cs with
 |nil=>grind [aO]
 |cons x cs ih=>
  intro vals m c0 h n z v h1 h2;cases vals with
  |nil=>exact h.elim
  |cons w vals=>
   cases x with
   |sl f T xs=>
    cases f with
    |al k1 c1 p1=>
     cases n with
     |zero=>
      simp [aO,cG] at h1 h2;subst h1 h2;have hv:RdP E.w _ _ _ _:=h.1;have:=hv.top
      grind [qF]
     |succ n=>exact ih h.2 n z v (by simpa [aO] using h1) (by grind [cG])
    |_=>exact ih h.2 n z v (by simpa [aO] using h1) (by grind [cG])
   |_=>exact ih h.2 n z v (by simpa [aO] using h1) (by simpa [cG] using h2)
theorem wG{E:Env}{bxs:Nat->Prop}:∀ {as:List Arg} {vs:List Value} {m i:Nat},as.length=vs.length->
 (∀(j:Nat) (x:Arg) (v:Value),as[j]? =some x->vs[j]? =some v->∃g cs,x= .val (.v g cs)/\VR1 E bxs (.h 1) 0 g cs v/\∀x∈cs,x.isBor=false)->
 (eF as vs).length=(aW m as).2.length/\(bI i (aW m as).1).length=(aW m as).2.length/\
 ∀(n:Nat) (z:aJ) (v:Value),(aW m as).2[n]? =some z->(eF as vs)[n]? =some v->Tip E (.arr (.k z.1) z.2.1 z.2.2.1) v z.2.2.2.sz:=by
 intro as
 induction as with
 |nil=>grind [eF,aW,bI]
 |cons x as ih=>
  intro vs m i hl h;cases vs with
  |nil=>grind
  |cons v vs=>
   obtain⟨g,cs,rfl,h1,h2⟩:=h 0 x v rfl rfl;obtain⟨h1,h3⟩:=eA.1 h1;have hvl:(cG cs (cellsOf g v)).length=(aO m cs).2.length:=pH (bB h1);obtain⟨i1,i2,i3⟩:=ih (vs:=vs) (m:=m+(aO m cs).2.length) (i:=i+1) (by grind) (fun j y w hy hw=>h (j+1) y w (by grind) (by grind))
   grind [eF,aW,bI,pI,wI,List.getElem?_append_right]
theorem kZ:∀ {as:List Arg},cA as=false->∀(j:Nat) (x:Arg),as[j]? =some x->∃g cs,x= .val (.v g cs)/\∀y∈cs,y.isBor=false:=by
 intro as
 induction as with
 |nil=>grind
 |cons x as ih=>
  intro h j y hy;cases x with
  |box cs=>grind [cA]
  |gbox cs=>grind [cA]
  |val a=>
   cases a with
   |v g cs=>
    grind [cA]
   |_=>grind [cA]
section
variable {E E' :Env} {π ρ d:Own->Option Own} {bx:Nat->Nat} {hdr:Nat->Value} {L:List aJ} {Tg:List (Nat×Nat)} {H:List Value}
 (hp:Pass π ρ d) (hπ:∀l l',π l=some l' ↔cS L Tg H l l') (hρ:∀l' l,ρ l' =some l↔cS L Tg H l l' \/(∃c p,l= .arr (.h 0) c p/\l' = .arr (.h 0) c p))
 (hold:∀b,b<E.w.heap.size->(E.into π true bx hdr).ow b=none->E'.w.heap[b]? =E.w.heap[b]? /\E'.hw b=(E.into π true bx hdr).hw b/\E'.ow b=none) (he:EnvOk E)
 (htips:∀(n:Nat) (z:aJ) (v:Value),L[n]? =some z->H[n]? =some v->Tip E (.arr (.k z.1) z.2.1 z.2.2.1) v z.2.2.2.sz)
 (hHL:H.length=L.length) (hTL:Tg.length=L.length) {lents:List CV}
 (hlents:∀(n:Nat) (t:Nat×Nat) (y:CV) (v:Value),Tg[n]? =some t->lents[n]? =some y->H[n]? =some v->∃T zs,y= .sl (.lnt n) T zs/\VRc E' aL (.k t.1) t.2 y v)
include hp hπ hρ hold he htips hHL hTL hlents
theorem pK(hL:LentApart L){n:Nat}{z:aJ}{y:CV}{g:Fl}{vk:Value}{xs zs:List z.2.2.2.den}(h1:L[n]? =some z)(h2:lents[n]? =some y)(h3:y= .sl g z.2.2.2 zs)(h4:zs.length=xs.length)
 (hk:RdP E.w (fun q=>okF E (.k z.1) z.2.1 .own (z.2.2.1++q)) (fun q=>qF E (.k z.1) z.2.1 .own (z.2.2.1++q)) vk (.sl z.2.2.2.sz (xs.map z.2.2.2.toD))):
 RdP (E.back E' π ρ d).w (fun q=>okF (E.back E' π ρ d) (.k z.1) z.2.1 .own (z.2.2.1++q)) (fun q=>qF (E.back E' π ρ d) (.k z.1) z.2.1 .own (z.2.2.1++q)) vk (.sl z.2.2.2.sz (zs.map z.2.2.2.toD)):=by
 have hn:n<L.length:=(Zs.1 h1).1;have ht:=Zv (l:=Tg) (by omega:n<Tg.length);have hv:=Zv (l:=H) (by omega:n<H.length);obtain⟨T,zs',e,hy⟩:=hlents n _ y _ ht h2 hv;subst h3;cases e;exact wK hp hπ hρ hold he hL h1 ht hv hk (htips n z _ h1 hv) hy h4
theorem yM{k c i:Nat}(hrow:∀(n:Nat) (z:aJ),L[n]? =some z->z.1=k/\z.2.1=c/\∃j,z.2.2.1=[(i,j)])(hL:LentApart L)(hnd:bA (L.map fun z=>(z.2.2.1.headD (0,0)).2)=true)
 {T:Ty} {xs:List T.den} {x' :T.den} {row:List CV} {vk:Value} {ps:List Prop} (hr:d6 k c i L lents (T.enc .own (xs.getD i T.dflt))=some (row,ps)) (hps:∀p∈ps,p) (hdec:T.dec row=some x')
 (hk:RdP E.w (fun q=>okF E (.k k) c .own ([]++q)) (fun q=>qF E (.k k) c .own ([]++q)) vk (.sl T.sz (xs.map T.toD))):
 RdP (E.back E' π ρ d).w (fun q=>okF (E.back E' π ρ d) (.k k) c .own ([]++q)) (fun q=>qF (E.back E' π ρ d) (.k k) c .own ([]++q)) vk (.sl T.sz ((xs.set i x').map T.toD)):=by
 have hm0:=l8 hp hπ hρ hold he (k:=k) (c:=c) (p:=[]) (fun l' hl' =>by
  obtain⟨n',z',t',v',g1,g2,g3,g4,q,e,_⟩:=hl'
  grind)
 have hmv:∀(x:Nat×Nat) (q:List (Nat×Nat)),(∀(n:Nat) (z:aJ),L[n]? =some z->z.2.2.1≠ [x])->fK E (E.back E' π ρ d) (.arr (.k k) c (x::q)) (.arr (.k k) c (x::q)):=by
  intro x q hx;refine l8 hp hπ hρ hold he (fun l' hl' => ?_);obtain⟨n',z',t',v',g1,g2,g3,g4,q',e,_⟩:=hl'
  grind
 have hsz:=Ty.sz_pos T;obtain⟨hlr,_,hget⟩:=qT hr hps hnd;rw [Ty.enc_length] at hlr;by_cases hxs:xs=[]
 ·subst hxs;have hq:=hk.top;simp only [Z8] at hq;obtain⟨ad,cap,rfl,hcap⟩:=RdP.shape hk;have ht:=Tip.moves hm0 hq;exact RdP.nil ad cap T.sz (by simp only [Z8];exact ht)
 have hne:xs.map T.toD≠ []:=by simpa using hxs
 obtain⟨b',o',cap,rfl,hcap,hlen,hq,u,hc,hkk⟩:=RdP.cells hk hne;simp only [Z8] at hq hc;have hq:Tip E (.arr (.k k) c []) (.slice (some ⟨b',o',none⟩) (xs.map T.toD).length cap) T.sz:=hq;have ho' :o' =0:=by
  match o',hq with
  |0,_=>rfl
  |_+1,hq=>exact hq.elim
 subst ho';have hqt:=Tip.moves hm0 hq;obtain⟨q1,q2,q3,cs,cty,lo,hi,q4,q5,q6⟩:=hq;obtain⟨m1,m2,m3⟩:=hm0 b' q1;have htd:=Ty.dec_toD T _ x' hdec;have hxa:∀(ha:i<xs.length),xs.getD i T.dflt=xs[i]:=fun ha=>by grind
 have hlen' :∀z∈(xs.set i x').map T.toD,z.length=T.sz:=by
  intro z hz;obtain⟨y,_,rfl⟩:=Zk.1 hz
  grind
 rw [Zm] at hqt hcap;rw [Zm];refine eP (m3.trans q4) (by simp) hcap hlen' (by simp only [Z8];exact hqt) (fun o ho=> ?_) (fun i' j hi' hj=> ?_)
 ·simp only [Z8];refine⟨?_,hqt.1⟩
  grind
 ·have hi2:i' <xs.length:=by grind
  have hi3:i' <(xs.map T.toD).length:=by grind
  have e1:((xs.set i x').map T.toD)[i']=T.toD ((xs.set i x')[i']'(by grind)):=by grind
  have hjs:j<T.sz:=by grind
  obtain⟨hcell,_⟩:=hc i' j hi3 hjs;rw [Zc] at hcell;have hcs:cs[i' *T.sz+j]? =some (u i' j):=by grind [World.cell?]
  refine⟨u i' j,hcs,?_⟩;have hj2:j<((xs.map T.toD)[i']'hi3).length:=by grind
  have hchild:=hkk i' j hi3 hj2
  have same:(∀(n:Nat) (z:aJ),L[n]? =some z->z.2.2.1≠ [(i',j)])->((xs.set i x').map T.toD)[i'][j]? =((xs.map T.toD)[i']'hi3)[j]? ->
   RdP (E.back E' π ρ d).w (fun p=>okF (E.back E' π ρ d) (.k k) c .own ([]++(i',j)::p)) (fun p=>qF (E.back E' π ρ d) (.k k) c .own ([]++(i',j)::p)) (u i' j) (((xs.set i x').map T.toD)[i'][j]):=by
   intro h1 h2;have ed2:((xs.set i x').map T.toD)[i'][j]=((xs.map T.toD)[i']'hi3)[j]:=by
    grind
   rw [ed2];exact fE (E:=E) (k:= .k k) (k' := .k k) (c:=c) (c' :=c) (p0:=[(i',j)]) (g:=fun q=>(i',j)::q) (fun q=>hmv _ _ h1) hchild
  by_cases hii:i' =i
  ·subst hii;have hrowD:((xs.set i' x').map T.toD)[i']=row.map CV.toD:=by grind
   have hold0:((xs.map T.toD)[i']'hi3)=(T.enc .own (xs.getD i' T.dflt)).map CV.toD:=by grind [Ty.enc_toD]
   rcases hget j with ⟨n,U,y,f,g,ys1,zs,a1,a2,a3,a4,a5,a6⟩|⟨a1,a2⟩
   ·have d1:((xs.map T.toD)[i']'hi3)[j]=(CV.sl f U ys1).toD:=by
     grind
    have d2:((xs.set i' x').map T.toD)[i'][j]=(CV.sl f U zs).toD:=by
     grind
    rw [d2];rw [d1] at hchild;exact pK hp hπ hρ hold he htips hHL hTL hlents hL (z:=(k,c,[(i',j)],U)) (xs:=ys1) a1 a2 a3 a4 hchild
   grind
  ·refine same (fun n z hz e=> ?_) (by grind);obtain⟨_,_,j',hj'⟩:=hrow n z hz
   grind
end
section
variable {C:Ctx} {σ:St} {a:Act} {E E' :Env} {u u' :Ups} {tt:TT} {o:Oper} {md:Md} {v:AV} {ob:List Prop}
theorem rB{f:Fl}{T:Ty}{xs:List T.den}{x:CV}{s:List Nat}{m:Bool}(h:x.stale s m= .sl f T xs):x= .sl f T xs:=by
 grind [CV.stale_eq]
theorem pT{E:Env}{bxs:Nat->Prop}{k c:Nat}{f:Fl}{T:Ty}{xs:List T.den}{v:Value}(hm:CV.mutable (.sl f T xs)=true)(hv:VRc E bxs (.k k) c (.sl f T xs) v):
 RdP E.w (fun q=>okF E (.k k) c .own ([]++q)) (fun q=>qF E (.k k) c .own ([]++q)) v (.sl T.sz (xs.map T.toD))/\∀(E2:Env) (bxs2:Nat->Prop) (zs:List T.den),E2.hdr=E.hdr->
  RdP E2.w (fun q=>okF E2 (.k k) c .own ([]++q)) (fun q=>qF E2 (.k k) c .own ([]++q)) v (.sl T.sz (zs.map T.toD))->VRc E2 bxs2 (.k k) c ((CV.sl f T zs).stale [aC] true) v:=by
 have hfl:f= .own\/∃n,f= .lnt n:=by cases f <;>simp [CV.mutable] at hm ⊢
 rcases hfl with rfl|⟨n,rfl⟩
 ·exact⟨hv,fun E2 bxs2 zs _ h=>h⟩
 ·refine⟨RdP.mono hv (fun q b o ho=>⟨rfl,ho⟩) (fun q v sz ht=>ht.1),fun E2 bxs2 zs hh h=> ?_⟩;have hq:v=E.hdr n:=(RdP.top hv).2 rfl;exact RdP.mono h.topq (fun q b o ho=>⟨rfl,ho⟩) (fun q v' sz ht=>⟨ht.1,fun hq0=>by grind⟩)
theorem nZ{w:World}(hi:Inv C (St.get (u++σ)) a.tmps E)(hw:E.w=w){vals:Array Value}{f:FuncId}{r:CallO}(hpl:r.plain=true)
 {as:List Arg} (hA:ArgsOk E (St.get (u++σ)) as [] vals.toList) (hrd:cA as=false)
 (h:Mr ((iG (aW 0 as).2 r.lents).bind fun ps=>M.pure (r.res,AbsCalls C.P f (aW 0 as).1 r::ps)) σ u=some ((v,ob),u')) (hob:∀q∈ob,q):Does C.P f vals w fun val w' =>Hand C (u' ++σ) a.tmps w' 0 v val:=by
 subst hw;obtain⟨hpr,hpo⟩:r.res.plain=true/\r.outs.all (·.all CV.plain)=true:=by grind [CallO.plain]
 obtain⟨ps,u1,h1,h2⟩:=aD h;obtain⟨e,rfl⟩:=aF h2;cases e;have hcon:AbsCalls C.P f (aW 0 as).1 r:=hob _ Zp;have hps:∀p∈ps,p:=fun p hp=>hob p (Zr _ hp);generalize hLdef:(aW 0 as).2=L at h1;unfold iG at h1;split at h1
 case h_2=>grind [aE]
 rename_i z0 L';obtain⟨b,u2,h3,h4⟩:=aD h1;obtain⟨rfl,rfl⟩:=bT h3;split at h4
 case h_2=>grind [aE]
 rename_i g cs hg;obtain⟨⟨cs',ps'⟩,u3,h5,h6⟩:=aD h4;obtain⟨hnew,rfl⟩:=cZ h5;obtain⟨_,u4,h7,h8⟩:=aD h6;obtain rfl:=bP h7;obtain⟨_,u5,h9,h10⟩:=aD h8;obtain rfl:=bP h9;obtain⟨e10,rfl⟩:=aF h10;subst e10;have hz0:(z0::L')[0]? =some z0:=rfl;generalize z0::L' =L at*;generalize hkk:z0.1=k at*;have hall:∀(j:Nat) (x:Arg) (v:Value),as[j]? =some x->(vals.toList)[j]? =some v->∃g cs,x= .val (.v g cs)/\VR1 E (aA (St.get (u3++σ))) (.h 1) 0 g cs v/\∀x∈cs,x.isBor=false:=by
  intro j x v hx hv;obtain⟨g,cs,rfl,hb⟩:=kZ hrd j x hx;obtain⟨_,hvr⟩:=hA.val j _ v hx hv;exact⟨g,cs,rfl,hvr (.h 1),hb⟩
 obtain⟨hHL,hTL,htips⟩:=wG (m:=0) (i:=0) hA.len hall;generalize hH:eF as (vals.toList)=H at*;generalize hT:bI 0 (aW 0 as).1=Tg at*;rw [hLdef] at hHL hTL htips;have hTinj:∀(n n' :Nat) (t:Nat×Nat),Tg[n]? =some t->Tg[n']? =some t->n=n' :=by grind [pM]
 have hshape:LentApart L/\(∀(n:Nat) (z:aJ),L[n]? =some z->z.1=k)/\cs'.length=cs.length/\∀(E2:Env) (π ρ d:Own->Option Own) (hdr:Nat->Value) (hp:Pass π ρ d) (hπ:∀l l',π l=some l' ↔cS L Tg H l l')
  (hρ:∀l' l,ρ l' =some l↔cS L Tg H l l' \/(∃c p,l= .arr (.h 0) c p/\l' = .arr (.h 0) c p))
  (hold:∀b,b<E.w.heap.size->(E.into π true E.bx hdr).ow b=none->E2.w.heap[b]? =E.w.heap[b]? /\E2.hw b=(E.into π true E.bx hdr).hw b/\E2.ow b=none)
  (hlents:∀(n:Nat) (t:Nat×Nat) (y:CV) (v:Value),Tg[n]? =some t->r.lents[n]? =some y->H[n]? =some v->∃T zs,y= .sl (.lnt n) T zs/\VRc E2 aL (.k t.1) t.2 y v)
  (bxs' :Nat->Prop) (j:Nat) (x' :CV) (v:Value),cs'[j]? =some x' ->(∃x,cs[j]? =some x/\VRc E (aA (St.get (u3++σ))) (.k k) j x v)->
  VRc (E.back E2 π ρ d) bxs' (.k k) j (x'.stale [aC] true) v\/((∀(n:Nat) (z:aJ),L[n]? =some z->z.2.1≠j)/\∃x,cs[j]? =some x/\x' =x.stale [k] false):=by
  unfold pJ at hnew;split at hnew
  ·rename_i k0 c0 U L0;cases hnd:bA (((k0,c0,([]:List (Nat×Nat)),U)::L0).map fun z=>z.2.1) with
   |false=>grind
   |true=>
    rw [hnd] at hnew;simp only [jT] at hnew;generalize hL0:(k0,c0,([]:List (Nat×Nat)),U)::L0=L at*;have hk0:k0=k:=by grind
    subst hk0;obtain⟨t1,t2,t3⟩:=zJ hnew hps hnd;have hap:=LentApart.top hnd;refine⟨hap,fun n z hz=>(t2 n z hz).1,by grind,?_⟩;intro E2 π ρ d hdr hp hπ hρ hold hlents bxs' j x' v hx' hx;obtain⟨x,hx1,hx2⟩:=hx;rcases t3 j with ⟨n,T,y,f0,g0,xs,zs,a1,a2,a3,a4,a5,a6,a7⟩|⟨a1,a2⟩
    ·rw [a7] at hx';cases hx';rw [Ze,hx1] at a5;have a5:=rB (Yb a5);subst a5;obtain⟨m1,m2⟩:=pT a6 hx2;exact .inl (m2 _ bxs' zs rfl (pK hp hπ hρ hold hi.env htips hHL hTL hlents hap (z:=(k0,j,[],T)) a1 a2 a3 a4 m1))
    grind
  ·rename_i k0 c0 i0 j0 U L0;cases hnd:bA (((k0,c0,[(i0,j0)],U)::L0).map fun z=>(z.2.2.1.headD (0,0)).2) with
   |false=>grind
   |true=>
    rw [hnd] at hnew;simp only [jT] at hnew;generalize hL0:(k0,c0,[(i0,j0)],U)::L0=L at*;have hk0:k0=k:=by grind
    subst hk0;split at hnew
    ·rename_i f0 T xs hcell;cases hm:CV.mutable (.sl f0 T xs) with
     |false=>grind
     |true=>
      rw [hm] at hnew;simp only [jT] at hnew;split at hnew
      ·rename_i row ps2 hrow;split at hnew
       ·rename_i x1 hdec;cases hnew;obtain⟨t1,t2,t3⟩:=qT hrow hps hnd;have hap:=LentApart.row t2 hnd;refine⟨hap,fun n z hz=>(t2 n z hz).1,by simp,?_⟩;intro E2 π ρ d hdr hp hπ hρ hold hlents bxs' j x' v hx' hx;obtain⟨x,hx1,hx2⟩:=hx;by_cases hj:j=c0
        ·subst hj;rw [Ze,hx1] at hcell;have hcell:=rB (Yb hcell);subst hcell;rw [YK (by grind)] at hx';cases hx';obtain⟨m1,m2⟩:=pT hm hx2;exact .inl (m2 _ bxs' _ rfl (yM hp hπ hρ hold hi.env htips hHL hTL hlents t2 hap hnd hrow hps hdec m1))
        grind
       grind
      grind
    grind
  grind
 obtain⟨hap,hLk,hlen',hcells⟩:=hshape;obtain⟨π,ρ,d,hp,hπ,hρ⟩:=xX (H:=H) hap hTinj;have hargs:ArgsAt (E.into π true E.bx (fun n=>H.getD n undef)) 0 (aW 0 as).1 vals.toList:=by
  refine wF hi.env hA.len hall (fun n z t h1 h2 h3 q=> ?_) (fun n v hv=> ?_)
  ·rw [hLdef] at h1;rw [hT] at h2;have hn:n<H.length:=by grind
   refine(hπ _ _).2 ⟨n,z,t,H[n],h1,h2,Zv hn,fun m c' e=> ?_,q,rfl,rfl⟩
   grind
  grind
 refine(hcon (E.into π true E.bx (fun n=>H.getD n undef)) _ (eZ hp hi.env) (eY hi.bas) hargs).mono fun val w' hr=> ?_;obtain⟨E',rfl,hx⟩:=hr;have hold:=hx.old;have hlents:∀(n:Nat) (t:Nat×Nat) (y:CV) (v:Value),Tg[n]? =some t->r.lents[n]? =some y->H[n]? =some v->∃T zs,y= .sl (.lnt n) T zs/\VRc E' aL (.k t.1) t.2 y v:=by
  intro n t y v h1 h2 h3;rw [<-hT] at h1;obtain⟨T,zs,e,hy⟩:=rT hx.lents h1 h2;rw [Zc] at e hy;have:E'.hdr n=v:=by
   rw [hx.hdr];show H.getD n undef=v
   grind
  grind
 have hst:=fM (mu:=True) hp hi.env hold (fun hm=>absurd trivial hm);have hbk:=fL hp hi.env hx.env hx.size;have hdk:∀pl c,dkC ρ pl c->pl= .h 0\/(pl= .k k/\∃(n:Nat) (z:aJ),L[n]? =some z/\z.2.1=c):=by
  rintro pl c ⟨p,l',h⟩;rcases(hρ _ _).1 h with ⟨n,z,t,v,h1,h2,h3,h4,q,e,_⟩|⟨c',p',h,_⟩
  all_goals grind
 have hdb:∀s',¬dbC ρ s' :=by
  rintro s' ⟨l',h⟩;rcases(hρ _ _).1 h with ⟨n,z,t,v,h1,h2,h3,h4,q,e,_⟩|⟨c',p',h,_⟩
  all_goals grind
 have key:∀(bxs' :Nat->Prop) (vals:List Value),(∀s,aA (St.get (u3++σ)) s->bxs' s/\(E.back E' π ρ d).bx s=E.bx s)->VRs E (aA (St.get (u3++σ))) (.k k) 0 cs vals->
  VRs (E.back E' π ρ d) bxs' (.k k) 0 (cs'.map (CV.stale [aC] true)) vals:=by
  intro bxs' vals hbx hv;have hvl:=bB hv;refine cH (by grind) fun j z y hz hy=> ?_;rw [Ze,Zi] at hz;obtain⟨x',hx',rfl⟩:=hz;have hjl:j<cs.length:=by grind
  have hvj:=bH hv (Zv hjl) hy;rw [Zc] at hvj ⊢;rcases hcells E' π ρ d _ hp hπ hρ hold hlents bxs' j x' y hx' ⟨_,Zv hjl,hvj⟩ with h|⟨h1,x,hx1,rfl⟩
  ·exact h
  ·rw [Zv hjl] at hx1;cases hx1;rw [CV.stale_stale (s:=[aC,k]) (m:=true) _ (fun q=>by grind) rfl];refine CW.vr hst hbx (CW.stale (fun _ hd=> ?_) (fun k' c' hd=> ?_) (fun _=>rfl)) hvj
   all_goals grind
 have hG:∀q,St.get (((aC,.none)::(k,.v g cs')::u3)++σ) q=
  if aC=q then .none else if k=q then .v g (cs'.map (CV.stale [aC] true)) else((St.get (u3++σ) q).mapC (CV.stale [aC,k] true)):=by
  intro q;show St.get ((aC,_)::((k,_)::(u3++σ))) q=_;rw [St.get_cons];split
  ·rfl
  ·rw [St.get_cons];split
   ·rfl
   ·rw [AV.mapC_comp]
    congr 1
    funext z
    exact CV.stale_stale z (fun q=>by grind) (by simp)
 have hbx:∀s,aA (St.get (u3++σ)) s->aA (St.get (((aC,.none)::(k,.v g cs')::u3)++σ)) s/\(E.back E' π ρ d).bx s=E.bx s:=by
  intro s hs;refine⟨?_,rfl⟩;obtain⟨ys,hys⟩:=hs;unfold aA;rw [hG,Za (by grind [aC])];split
  ·grind
  ·rw [hys];exact⟨_,rfl⟩
 have cw:∀(pl:Pl) (j:Nat) (z:CV),pl≠ .h 0->pl≠ .k k->CW (dkC ρ) True pl j (z.stale [aC,k] true) z:=by
  grind [CW.stale]
 have hres:=iP (E:=E) (π:=π) (hide:=true) (bx:=E.bx) (hdr:=fun n=>H.getD n undef) (d:=d) (bxs:=aA (St.get (((aC,.none)::(k,.v g cs')::u3)++σ))) hold hpr (fun c p=>(hρ _ _).2 (.inr ⟨c,p,rfl,rfl⟩)) (hx.res.vr (fX hpr));simp only [jT] at hres;refine⟨E.back E' π ρ d,rfl,hi.step hst hx.os hx.tape hx.output hx.size (fun b hlt h0=> ?_) hbk.new hbk.inj hbk.boxhw rfl hbx (fun t=> ?_) (fun s cs2 hs=> ?_),hres⟩
 ·have h2:=(hi.old b hlt h0).2.2;have hlt2:b<E.w.heap.size:=ZZ hlt hi.size;obtain⟨a1,a2,a3⟩:=hold b hlt2 (by grind [Env.into]);have hf:E.frame π b:=⟨hlt2,by grind⟩;exact⟨a1,by grind [Env.back],by grind [Env.back]⟩
 ·rw [hG];by_cases hm:aC=2*t
  ·rw [Zt hm];exact .inl trivial
  ·rw [Za hm];by_cases hk:k=2*t
   ·rw [Zt hk];refine .inl ?_;have ht:=hi.tmp t;rw [<-hk,hg] at ht;rw [<-hk];cases g with
    |true=>
     obtain⟨vv,e,hvv⟩:=ht;exact⟨vv,e,key _ _ hbx hvv⟩
    |false=>exact key _ _ hbx ht
   grind [AWk.map]
 ·rw [hG,Za (by grind)] at hs;by_cases hk:k=2*s+1
  ·rw [Zt hk] at hs;injection hs with hs1 hs2;subst hs1;have hbr:=hi.box s cs (by grind);obtain⟨r1,vals,ety,r2,r3⟩:=hbr;obtain⟨b1,b2,b3⟩:=hst.box s r1 (hdb s);refine .inl ⟨by grind,vals,ety,by grind,?_⟩
   grind
  ·rw [Za hk] at hs;cases hq:St.get (u3++σ) (2*s+1) with
   |v g' cs0=>
    rw [hq] at hs;injection hs with hs1 hs2
    grind [CWs.map]
   |tup xs=>rw [hq] at hs;cases hs
   |none=>rw [hq] at hs;cases hs
end
section
variable {C:Ctx} {σ:St} {a:Act} {E E' :Env} {u u' :Ups} {tt:TT}
def CArgs(E:Env)(G:Nat->AV):List Arg->List (Option Nat)->List Value->Prop
 | [],[],[]=>True
 | .val x::as,none::ks,v::vs=>((∃g cs,x= .v g cs)/\∀pl,VR E (aA G) pl x v)/\CArgs E G as ks vs
 | .box cs::as,some s::ks,v::vs=>(v= .pointer (some ⟨E.bx s,0,none⟩)/\G (2*s+1)= .v true cs)/\CArgs E G as ks vs
 |_,_,_=>False
theorem CArgs.app{G:Nat->AV}{as2:List Arg}{ks2:List (Option Nat)}{vs2:List Value}(h2:CArgs E G as2 ks2 vs2):∀ {as:List Arg} {ks:List (Option Nat)} {vs:List Value},CArgs E G as ks vs->
 CArgs E G (as++as2) (ks++ks2) (vs++vs2):=by
 intro as
 induction as with
 |nil=>intro ks vs h;cases ks <;>cases vs <;>first |exact h2|exact h.elim
 |cons x as ih=>
  intro ks vs h;cases ks with
  |nil=>cases x <;>exact h.elim
  |cons k ks=>
   cases vs with
   |nil=>cases x <;>cases k <;>exact h.elim
   |cons v vs=>cases x <;>cases k <;>first |exact⟨h.1,ih h.2⟩|exact h.elim
theorem CArgs.len{G:Nat->AV}:∀ {as:List Arg} {ks:List (Option Nat)} {vs:List Value},CArgs E G as ks vs->as.length=vs.length:=by
 intro as
 induction as with
 |nil=>intro ks vs h;cases ks <;>cases vs <;>first |rfl|exact h.elim
 |cons x as ih=>
  intro ks vs h;cases ks with
  |nil=>cases x <;>exact h.elim
  |cons k ks=>
   cases vs with
   |nil=>cases x <;>cases k <;>exact h.elim
   |cons v vs=>cases x <;>cases k <;>first |exact Zl (· +1) (ih h.2) |exact h.elim
theorem lL(hi:Inv C (St.get (u++σ)) a.tmps E):∀(xs:List Operand) (tys:List TypeId) (r:List Arg×List (Option Nat)) (u' :Ups),
 Mr (gU tt xs tys) σ u=some (r,u')->u' =u/\CArgs E (St.get (u++σ)) r.1 r.2 (xs.map a.eval):=by
 intro xs
 induction xs with
 |nil=>
  intro tys r u' h;obtain⟨rfl,rfl⟩:=aF h;exact⟨rfl,trivial⟩
 |cons x xs ih=>
  intro tys r u' h;obtain⟨p,u1,h1,h2⟩:=aD h;obtain⟨rfl,hp⟩:=ih _ _ _ h1;obtain⟨b,u2,h3,h4⟩:=aD h2;obtain⟨rfl,hb⟩:=eH hi h3;split at h4
  ·rename_i s;obtain⟨cs,u3,h5,h6⟩:=aD h4;obtain⟨hg,rfl⟩:=fN h5;obtain⟨rfl,rfl⟩:=aF h6;exact⟨rfl,⟨(hb (.h 0)).1.1,hg⟩,hp⟩
  ·obtain⟨rfl,rfl⟩:=aF h4;exact⟨rfl,⟨⟨_,_,rfl⟩,hb⟩,hp⟩
  grind [aE]
theorem tF:∀(ss:List Nat) (r:List Arg×List (Option Nat)) (u' :Ups),
 Mr (lH ss) σ u=some (r,u')->u' =u/\CArgs E (St.get (u++σ)) r.1 r.2 (ss.map fun s=>Value.pointer (some ⟨E.bx s,0,none⟩)):=by
 intro ss
 induction ss with
 |nil=>
  intro r u' h;obtain⟨rfl,rfl⟩:=aF h;exact⟨rfl,trivial⟩
 |cons s ss ih=>
  intro r u' h;obtain⟨p,u1,h1,h2⟩:=aD h;obtain⟨rfl,hp⟩:=ih _ _ h1;obtain⟨cs,u3,h5,h6⟩:=aD h2;obtain⟨hg,rfl⟩:=fN h5;obtain⟨rfl,rfl⟩:=aF h6;exact⟨rfl,⟨rfl,hg⟩,hp⟩
def iS(G:Nat->AV):List Nat->List Arg->Prop
 | [],[]=>True
 |s::ss,.gbox cs::as=>G (2*s+1)= .v true cs/\iS G ss as
 |_,_=>False
theorem vU:∀(ss:List Nat) (r:List Arg) (u' :Ups),Mr (lW ss) σ u=some (r,u')->u' =u/\iS (St.get (u++σ)) ss r:=by
 intro ss
 induction ss with
 |nil=>
  intro r u' h;obtain⟨rfl,rfl⟩:=aF h;exact⟨rfl,trivial⟩
 |cons s ss ih=>
  intro r u' h;obtain⟨p,u1,h1,h2⟩:=aD h;obtain⟨rfl,hp⟩:=ih _ _ h1;obtain⟨cs,u3,h5,h6⟩:=aD h2;obtain⟨hg,rfl⟩:=fN h5;obtain⟨rfl,rfl⟩:=aF h6;exact⟨rfl,hg,hp⟩
theorem eG{α:Type}:∀ {L:List (Nat×α)} {q:Nat} {v:α},aN L q=some v->(q,v)∈L:=by
 intro L
 induction L with
 |nil=>intro q v h;cases h
 |cons x L ih=>
  grind [aN,Nat.eq_of_beq_eq_true]
theorem mC{α:Type}:∀ {L:List (Nat×α)} {q:Nat},aN L q=none->∀v,(q,v) ∉ L:=by
 intro L
 induction L with
 |nil=>grind
 |cons x L ih=>
  intro q h v hm;obtain⟨k,y⟩:=x;simp only [aN] at h;cases hk:k.beq q with
  |true=>grind
  |false=>
   simp_all
theorem yH{L:List (Nat×Nat)}{f g:Nat->Value}(hL:∀s i,aN L s=some i->f s=g i):∀ {ss is:List Nat},eL L ss=some is->ss.map f=is.map g:=by
 intro ss
 induction ss with
 |nil=>intro is h;cases h;rfl
 |cons s ss ih=>
  grind [eL]
theorem yI{L:List (Nat×Nat)}:∀ {ss is:List Nat},eL L ss=some is->∀i∈is,∃s,aN L s=some i:=by
 intro ss
 induction ss with
 |nil=>intro is h;cases h;simp
 |cons s ss ih=>
  grind [eL]
theorem kQ{L:List (Nat×Nat)}{bxs bxs' :Nat->Prop}{pl pl' :Pl}{c c' :Nat}{x:CV}{v:Value}(hL:∀s i,aN L s=some i->E'.bx i=E.bx s/\bxs' i)(hh:E'.hdr=E.hdr)(hx:x.isClo=true)(hv:VRc E bxs pl c x v):
 VRc E' bxs' pl' c' (x.ren L) v:=by
 cases x with
 |clo k ss=>
  cases hr:eL L ss with
  |none=>
   have e:(CV.clo k ss).ren L= .undef:=by grind [CV.ren]
   rw [e];exact hv.one
  |some is=>
   have e:(CV.clo k ss).ren L= .clo k is:=by grind [CV.ren]
   rw [e];refine⟨?_,fun i hi=> ?_⟩
   ·rw [hv.1,yH (f:=fun s=>Value.pointer (some ⟨E.bx s,0,none⟩)) (g:=fun s=>Value.pointer (some ⟨E'.bx s,0,none⟩)) (fun s i h=>by grind) hr]
   grind [yI]
 |swp sf n h s=>
  cases hr:aN L s with
  |none=>
   have e:(CV.swp sf n h s).ren L= .undef:=by grind [CV.ren]
   rw [e];exact hv.one
  |some i=>
   have e:(CV.swp sf n h s).ren L= .swp sf n h i:=by grind [CV.ren]
   rw [e];exact⟨hv.1,fun ad l cap he=>by rw [hh] at he ⊢;exact hv.2 ad l cap he⟩
 |_=>cases hx
theorem zG{π:Own->Option Own}{bx:Nat->Nat}{hdr:Nat->Value}(he:EnvOk E){bxs:Nat->Prop}{pl pl' :Pl}{c c' :Nat}{x:CV}{v:Value}(hb:x.isBorAl=false)(hv:VRc E bxs pl c x v):
 VRc (E.into π true bx hdr) aL pl' c' x.toRo v:=by
 cases x with
 |sl f T xs=>
  cases f with
  |ro=>exact bC he (.ro T xs) hv
  |own=>
   cases xs with
   |nil=>exact RdP.nilRo hv
   |cons y ys=>exact hv.one
  |tip=>exact hv.one
  |lnt n=>exact hv.one
  |bor=>cases hb
  |al k c p=>cases hb
 |ptr s off=>exact hv.one
 |clo k ss=>exact hv.one
 |swp sf n h0 s=>exact hv.one
 |eptr f T x off=>exact hv.one
 |eref k c p i T x off=>exact hv.one
 |apd k c p T xs=>exact hv.one
 |_=>exact bC he (.same _ trivial) hv
theorem zF{π:Own->Option Own}{bx:Nat->Nat}(he:EnvOk E){bxs:Nat->Prop}{pl pl' :Pl}{c:Nat}{x:CV}{v:Value}{L:List (Nat×Nat)}(hL:∀s i,aN L s=some i->bx i=E.bx s)
 (hb:x.isBorAl=false) (ho:∀p,π (.arr pl c p)=some (.arr pl' c p)) (hv:VRc E bxs pl c x v):VRc (E.into π true bx E.hdr) aL pl' c (x.toBxC L) v:=by
 unfold CV.toBxC;cases hc:x.isClo with
 |true=>exact kQ (fun s i h=>⟨hL s i h,trivial⟩) rfl hc hv
 |false=>
  cases x with
  |sl f T xs=>
   cases f with
   |ro=>exact bC he (.ro T xs) hv
   |own=>exact bC he (.own T xs ho) hv
   |tip=>exact bC he (.tip T xs ho) hv
   |lnt n=>
    refine RdP.mono hv (fun p b o hk=>⟨rfl,?_⟩) (fun p v sz ht=>⟨Tip.into (ho p) ht.1,ht.2⟩);exact⟨by simp [Env.into,hk.2,ho p,hk.1],by simp [Env.into,hk.2,ho p]⟩
   |bor=>cases hb
   |al k c p=>cases hb
  |ptr s off=>exact hv.one
  |clo k ss=>cases hc
  |swp sf n h0 s=>cases hc
  |eptr f T x off=>exact hv.one
  |eref k c p i T x off=>exact hv.one
  |apd k c p T xs=>exact hv.one
  |_=>exact bC he (.same _ trivial) hv
theorem nR{cs:List CV}(h:cs.any CV.isBorAl=false){x:CV}(hx:x∈cs):x.isBorAl=false:=by
 grind
def iT(E:Env)(π:Own->Option Own)(bx:Nat->Nat)(s i:Nat):Prop:=
 bx i=E.bx s/\π (.box s)=some (.box i)/\∀c p,π (.arr (.k (2*s+1)) c p)=some (.arr (.k (2*i+1)) c p)
theorem nV(hi:Inv C (St.get (u++σ)) a.tmps E){π:Own->Option Own}{bx:Nat->Nat}{L:List (Nat×Nat)}(hL:∀s i,aN L s=some i->bx i=E.bx s){s i:Nat}{cs:List CV}(h:iT E π bx s i)
 (hg:St.get (u++σ) (2*s+1)= .v true cs) (hb:cs.any CV.isBorAl=false):bS (E.into π true bx E.hdr) i ((E.into π true bx E.hdr).bx i) (cs.map (CV.toBxC L)):=by
 obtain⟨h1,vals,ty,h2,h3⟩:=hi.box s cs hg;obtain⟨p0,p1,p2⟩:=h;have hbb:(E.into π true bx E.hdr).bx i=E.bx s:=p0;refine⟨by grind [Env.into],vals,ty,by rw [hbb];exact h2,?_⟩;refine cH (by grind [bB]) fun j x v hx hv=> ?_;rw [Ze,Zi] at hx;obtain⟨y,hy,rfl⟩:=hx;exact zF hi.env hL (nR hb (Zy hy)) (fun p=>p2 _ p) (bH h3 hy hv)
theorem tH(hi:Inv C (St.get (u++σ)) a.tmps E){π:Own->Option Own}{bx:Nat->Nat}{L:List (Nat×Nat)}(hL:∀s i,aN L s=some i->bx i=E.bx s):
 ∀ {as:List Arg} {ks:List (Option Nat)} {vs:List Value} {i:Nat},CArgs E (St.get (u++σ)) as ks vs->aR as=false->(∀s j,(s,j)∈dV i ks->iT E π bx s j)->
 ArgsAt (E.into π true bx E.hdr) i (as.map (Arg.toC L)) vs:=by
 intro as
 induction as with
 |nil=>intro ks vs i h _ _;cases ks <;>cases vs <;>first |trivial|exact h.elim
 |cons x as ih=>
  intro ks vs i h hb hh;cases ks with
  |nil=>cases x <;>exact h.elim
  |cons k ks=>
   cases vs with
   |nil=>cases x <;>cases k <;>exact h.elim
   |cons v vs=>
    cases x with
    |val y=>
     cases k with
     |some s=>exact h.elim
     |none=>
      obtain⟨⟨⟨g,cs,rfl⟩,hv⟩,ht⟩:=h;simp only [aR,ZL] at hb;refine⟨?_,ih ht hb.2 hh⟩;show VR _ aL (.k (2*i)) ((AV.v g cs).mapC (CV.toRoC L)) v;refine VR.imp (fun j x v hx hv=> ?_) (hv (.k (2*i)));have hx:x∈cs:=hx;unfold CV.toRoC;cases hc:x.isClo with
      |true=>exact kQ (fun s i h=>⟨hL s i h,trivial⟩) rfl hc hv
      |false=>exact zG hi.env (nR hb.1 hx) hv
    |box cs=>
     cases k with
     |none=>exact h.elim
     |some s=>
      obtain⟨⟨rfl,hg⟩,ht⟩:=h;simp only [aR,ZL] at hb;have hs:=hh s i Zp;exact⟨⟨by rw [show(E.into π true bx E.hdr).bx i=E.bx s from hs.1],nV hi hL hs hg hb.1⟩,ih ht hb.2 fun s j hm=>hh s j (Zr _ hm)⟩
    |gbox cs=>cases k <;>exact h.elim
theorem vH(hi:Inv C (St.get (u++σ)) a.tmps E){π:Own->Option Own}{bx:Nat->Nat}{L:List (Nat×Nat)}(hL:∀s i,aN L s=some i->bx i=E.bx s):
 ∀ {as:List Arg} {ss:List Nat} {i:Nat},iS (St.get (u++σ)) ss as->aR as=false->(∀s j,(s,j)∈fU i ss->iT E π bx s j)->
 ArgsAt (E.into π true bx E.hdr) i (as.map (Arg.toC L)) []:=by
 intro as
 induction as with
 |nil=>intro ss i h _ _;trivial
 |cons x as ih=>
  intro ss i h hb hh;cases ss with
  |nil=>exact h.elim
  |cons s ss=>
   cases x with
   |val y=>exact h.elim
   |box y=>exact h.elim
   |gbox cs=>
    obtain⟨hg,ht⟩:=h;simp only [aR,ZL] at hb;exact⟨nV hi hL (hh s _ Zp) hg hb.1,ih ht hb.2 fun s j hm=>hh s j (Zr _ hm)⟩
theorem ArgsAt.app{E:Env}{gs:List Arg}:∀ {as:List Arg} {vs:List Value} {i:Nat},ArgsAt E i as vs->as.length=vs.length->ArgsAt E (i+as.length) gs []->ArgsAt E i (as++gs) vs:=by
 intro as
 induction as with
 |nil=>grind
 |cons x as ih=>
  intro vs i h hl hg;cases vs with
  |nil=>grind
  |cons v vs=>
   grind [ArgsAt]
theorem sJ{bs:List Arg}:∀ {as:List Arg},aR (as++bs)=false->aR as=false/\aR bs=false:=by
 intro as
 induction as with
 |nil=>intro h;exact⟨rfl,h⟩
 |cons x as ih=>
  intro h;cases x with
  |val y=>
   cases y with
   |v g cs=>
    grind [aR]
   |_=>cases h
  |box cs=>
   grind [aR]
  |gbox cs=>
   grind [aR]
theorem sV{bs:List Arg}:∀ {as:List Arg} {i:Nat},aK i (as++bs)=aK i as++aK (i+as.length) bs:=by
 intro as
 induction as with
 |nil=>intro i;rfl
 |cons x as ih=>
  intro i;have e:i+1+as.length=i+(x::as).length:=by grind
  cases x <;>simp only [jO,aK] <;>rw [ih,e] <;>rfl
theorem sW{G:Nat->AV}{L:List (Nat×Nat)}:∀ {as:List Arg} {ks:List (Option Nat)} {vs:List Value} {i:Nat},CArgs E G as ks vs->aK i (as.map (Arg.toC L))=(dV i ks).map (·.2):=by
 intro as
 induction as with
 |nil=>intro ks vs i h;cases ks <;>cases vs <;>first |rfl|exact h.elim
 |cons x as ih=>
  intro ks vs i h;cases ks with
  |nil=>cases x <;>exact h.elim
  |cons k ks=>
   cases vs with
   |nil=>cases x <;>cases k <;>exact h.elim
   |cons v vs=>
    cases x <;>cases k <;>first |exact h.elim|exact ih h.2|(simp only [ZX,Arg.toC,aK,dV];rw [ih h.2])
theorem sX{G:Nat->AV}{L:List (Nat×Nat)}:∀ {as:List Arg} {ss:List Nat} {i:Nat},iS G ss as->aK i (as.map (Arg.toC L))=(fU i ss).map (·.2):=by
 intro as
 induction as with
 |nil=>intro ss i h;cases ss with
  |nil=>rfl
  |cons=>exact h.elim
 |cons x as ih=>
  intro ss i h;cases ss with
  |nil=>exact h.elim
  |cons s ss=>
   cases x with
   |val y=>exact h.elim
   |box y=>exact h.elim
   |gbox cs=>simp only [ZX,Arg.toC,aK,fU];rw [ih h.2]
theorem sA{E E' :Env}:∀ {as:List Arg} {k:Nat} {outs:List (List CV)},cU E E' k as outs->outs.length=(aK k as).length/\
 ∀(n s:Nat) (o:List CV),(aK k as)[n]? =some s->outs[n]? =some o->bS E' s (E.bx s) o:=by
 intro as
 induction as with
 |nil=>intro k outs h;cases outs with
  |nil=>grind [aK]
  |cons=>exact h.elim
 |cons x as ih=>
  intro k outs h
  have cons:∀ {s:Nat} {o:List CV} {os:List (List CV)},bS E' s (E.bx s) o->cU E E' (k+1) as os->(o::os).length=(s::aK (k+1) as).length/\
   ∀(n s' :Nat) (o' :List CV),(s::aK (k+1) as)[n]? =some s' ->(o::os)[n]? =some o' ->bS E' s' (E.bx s') o' :=by
   grind
  cases x with
  |val y=>exact ih (k:=k+1) h
  |box cs=>
   cases outs with
   |nil=>exact h.elim
   |cons o os=>exact cons h.1 h.2
  |gbox cs=>
   cases outs with
   |nil=>exact h.elim
   |cons o os=>exact cons h.1 h.2
def eR(L:List (Nat×Nat))(l l' :Own):Prop:=
 ∃s i,(s,i)∈L/\((l= .box s/\l' = .box i)\/∃c p,l= .arr (.k (2*s+1)) c p/\l' = .arr (.k (2*i+1)) c p)
theorem xW{L:List (Nat×Nat)}(h1:∀s i i',(s,i)∈L->(s,i')∈L->i=i')(h2:∀s s' i,(s,i)∈L->(s',i)∈L->s=s'):∃π ρ d,Pass π ρ d/\
 (∀l l',π l=some l' ↔eR L l l')/\(∀l' l,ρ l' =some l↔eR L l l' \/(∃c p,l= .arr (.h 0) c p/\l' = .arr (.h 0) c p)):=by
 have f1:∀l a b,eR L l a->eR L l b->a=b:=by
  rintro l a b ⟨s,i,hm,⟨rfl,rfl⟩|⟨c,p,rfl,rfl⟩⟩ ⟨s',i',hm',⟨e,rfl⟩|⟨c',p',e,rfl⟩⟩
  all_goals grind
 have f2:∀a b l,eR L a l->eR L b l->a=b:=by
  rintro a b l ⟨s,i,hm,⟨rfl,rfl⟩|⟨c,p,rfl,rfl⟩⟩ ⟨s',i',hm',⟨rfl,e⟩|⟨c',p',rfl,e⟩⟩
  all_goals grind
 refine Pass.of_rel _ _ f1 f2 ?_ ?_ (fun _ _ h=> .inl h) ?_ ?_
 ·rintro l a b (h|⟨c,p,rfl,rfl⟩) (h' |⟨c',p',e,rfl⟩)
  ·grind
  ·subst e;obtain⟨s,i,_,⟨e,_⟩|⟨c,p,e,_⟩⟩:=h <;>cases e
  ·obtain⟨s,i,_,⟨e,_⟩|⟨c,p,e,_⟩⟩:=h' <;>cases e
  grind
 ·rintro a b l (h|⟨c,p,rfl,rfl⟩) (h' |⟨c',p',rfl,e⟩)
  ·grind
  ·subst e;obtain⟨s,i,_,⟨_,e⟩|⟨c,p,_,e⟩⟩:=h <;>cases e
  ·obtain⟨s,i,_,⟨_,e⟩|⟨c,p,_,e⟩⟩:=h' <;>cases e
  grind
 ·rintro l i (⟨s,i',_,⟨rfl,_⟩|⟨c,p,rfl,e⟩⟩|⟨c,p,rfl,e⟩)
  all_goals grind
 ·rintro s l (⟨s',i,_,⟨_,rfl⟩|⟨c,p,e,rfl⟩⟩|⟨c,p,e,rfl⟩)
  all_goals grind
def Imm(v:AV):Prop:=∀s m,v.mapC (CV.stale s m)=v
theorem Imm.of{cs:List CV}(h:∀x∈cs,x= .undef\/x.plainC=true):Imm (.v true cs):=by
 intro s m;show AV.v true _=_
 congr 1
 conv=>rhs;rw [<-List.map_id cs]
 refine ZE fun x hx=> ?_;rcases h x hx with rfl|h
 ·grind [CV.stale]
 ·cases x with
  |sl f T xs=>cases f <;>first |(cases h;done) |grind [CV.stale,CV.onKey,CV.isBor]
  |eptr f T x off=>cases h
  |eref=>cases h
  |apd=>cases h
  |_=>grind [CV.stale,CV.onKey,CV.isBor]
theorem yB{S:St}:∀ {Z:List (Nat×AV)},(∀z∈Z,Imm z.2/\z.1≠aC)->∀q,St.get (Z++S) q=match aN Z q with
 |some v=>v
 |none=>(St.get S q).mapC (CV.stale (Z.map (·.1)) false):=by
 intro Z
 induction Z with
 |nil=>intro _ q;exact(AV.mapC_id CV.stale_nil _).symm
 |cons z Z ih=>
  intro hz q;obtain⟨k,v⟩:=z;have hk:=(hz _ Zp).2;have hkb:k.beq aC=false:=by
   grind [Nat.eq_of_beq_eq_true]
  show St.get ((k,v)::(Z++S)) q=_;rw [St.get_cons,ih (fun z h=>hz z (Zr _ h))];simp only [aN];by_cases hq:k=q
  ·subst hq;simp
  ·have hqb:k.beq q=false:=by
    grind [Nat.eq_of_beq_eq_true]
   rw [Za hq,hqb,jF,hkb];cases hl:aN Z q with
   |some w=>exact(hz _ (Zr _ (eG hl))).1 _ _
   |none=>
    dsimp only;rw [AV.mapC_comp];exact Zl (fun f=>(St.get S q).mapC f) (funext fun z=>CV.stale_stale z (fun q=>by grind) rfl)
variable {π ρ d:Own->Option Own} {bx:Nat->Nat}
theorem sR{L' :List (Nat×Nat)}{bxs:Nat->Prop}{s i j:Nat}{x:CV}{v:Value}(hold:∀b,b<E.w.heap.size->(E.into π true bx E.hdr).ow b=none->E'.w.heap[b]? =E.w.heap[b]? /\E'.hw b=(E.into π true bx E.hdr).hw b/\E'.ow b=none)
 (hh:E'.hdr=E.hdr) (hL' :∀i s,aN L' i=some s->E.bx s=E'.bx i/\bxs s) (hx:x.plainC=true) (hr:∀p,ρ (.arr (.k (2*i+1)) j p)=some (.arr (.k (2*s+1)) j p)) (hv:VRc E' aL (.k (2*i+1)) j x v):
 VRc (E.back E' π ρ d) bxs (.k (2*s+1)) j (x.ren L') v:=by
 have pl:x.plain=true->x.isClo=false->VRc (E.back E' π ρ d) bxs (.k (2*s+1)) j (x.ren L') v:=by
  intro hp hc;have:=gQ (E:=E) (E' :=E') (π:=π) (ρ:=ρ) (d:=d) (hide:=true) (bx:=bx) (hdr:=E.hdr) (bxs:=bxs) hold hp hr hv;have e:x.ren L' =x:=by cases x <;>first |rfl|cases hc
  grind
 cases x with
 |sl f T xs=>
  cases f with
  |lnt n=>
   refine RdP.mono hv (fun p b o ho=>⟨rfl,by rw [(dB (d:=d) hold ho.2 (hr p)).2];exact ho.1,(dB hold ho.2 (hr p)).1⟩) (fun p v sz ht=>⟨Tip.back hold (hr p) ht.1,fun hp=> ?_⟩);rw [ht.2 hp,hh];rfl
  |ro=>exact pl rfl rfl
  |own=>exact pl rfl rfl
  |tip=>exact pl rfl rfl
  |_=>cases hx
 |clo k ss=>exact kQ (x:= .clo k ss) (E:=E') (E' :=E.back E' π ρ d) (bxs:=aL) (pl:= .k (2*i+1)) (c:=j) (fun i s h=>hL' i s h) (hh.symm) rfl hv
 |swp sf n h s=>exact kQ (x:= .swp sf n h s) (E:=E') (E' :=E.back E' π ρ d) (bxs:=aL) (pl:= .k (2*i+1)) (c:=j) (fun i s h=>hL' i s h) (hh.symm) rfl hv
 |int k n=>exact pl rfl rfl
 |bool b=>exact pl rfl rfl
 |str s=>exact pl rfl rfl
 |val s=>exact pl rfl rfl
 |_=>cases hx
theorem tA(hi:Inv C (St.get (u++σ)) a.tmps E){L L' :List (Nat×Nat)}(hp:Pass π ρ d)
 (hρ:∀l' l,ρ l' =some l↔eR L l l' \/(∃c p,l= .arr (.h 0) c p/\l' = .arr (.h 0) c p)) {as:List Arg} {r:CallO} {v:Value} {Z:List (Nat×AV)}
 (hx:ExitR (E.into π true bx E.hdr) E' as r v) (hpl:r.res.plain=true) (hZi:∀z∈Z,Imm z.2/\z.1≠aC) (hZk:∀k,k∈Z.map (·.1)↔∃s i,(s,i)∈L/\k=2*s+1)
 (hZ:∀q av,(q,av)∈Z->∃s i o,(s,i)∈L/\q=2*s+1/\av= .v true (o.map (CV.ren L'))/\bS E' i (E.bx s) o/\o.all CV.plainC=true)
 (hL' :∀i s,aN L' i=some s->(s,i)∈L) (hbi:∀s i,(s,i)∈L->E'.bx i=E.bx s):
 Hand C (((aC,.none)::(Z++u))++σ) a.tmps E'.w 0 r.res v:=by
 have hold:=hx.old;have hst:=fM (mu:=True) hp hi.env hold (fun hm=>absurd trivial hm);have hbk:=fL hp hi.env hx.env hx.size;have hdk:∀pl c,dkC ρ pl c->pl= .h 0\/∃s i,(s,i)∈L/\pl= .k (2*s+1):=by
  rintro pl c ⟨p,l',h⟩;rcases(hρ _ _).1 h with ⟨s,i,hm,⟨e,_⟩|⟨c',p',e,_⟩⟩|⟨c',p',h,_⟩
  all_goals grind
 have hdb:∀s',dbC ρ s' ->∃i,(s',i)∈L:=by
  rintro s' ⟨l',h⟩;rcases(hρ _ _).1 h with ⟨s,i,hm,⟨e,_⟩|⟨c',p',e,_⟩⟩|⟨c',p',h,_⟩
  all_goals grind
 have hG:∀q,St.get (((aC,.none)::(Z++u))++σ) q=if aC=q then .none else match aN Z q with
  |some v=>v
  |none=>(St.get (u++σ) q).mapC (CV.stale (aC::Z.map (·.1)) true):=by
  intro q;show St.get ((aC,_)::((Z++u)++σ)) q=_;rw [St.get_cons,Z5,yB hZi];split
  ·rfl
  ·have hbeq:aC.beq aC=true:=by simp_all
   rw [hbeq];cases hl:aN Z q with
   |some w=>exact(hZi _ (eG hl)).1 _ _
   |none=>
    dsimp only;rw [AV.mapC_comp];exact Zl (fun f=>(St.get (u++σ) q).mapC f) (funext fun z=>CV.stale_stale z (fun q=>by grind) rfl)
 have hbxs:∀s',aA (St.get (u++σ)) s' ->aA (St.get (((aC,.none)::(Z++u))++σ)) s' /\(E.back E' π ρ d).bx s' =E.bx s' :=by
  intro s' hs;refine⟨?_,rfl⟩;obtain⟨ys,hys⟩:=hs;unfold aA;rw [hG,Za (by grind [aC])];cases hl:aN Z (2*s' +1) with
  |some w=>
   obtain⟨s,i,o,_,_,rfl,_⟩:=hZ _ _ (eG hl)
   grind
  |none=>dsimp only;rw [hys];exact⟨_,rfl⟩
 have hboxL:∀s i,(s,i)∈L->aA (St.get (((aC,.none)::(Z++u))++σ)) s:=by
  intro s i hm;unfold aA;rw [hG,Za (by grind [aC])];cases hl:aN Z (2*s+1) with
  |some w=>
   obtain⟨s,i,o,_,_,rfl,_⟩:=hZ _ _ (eG hl)
   grind
  |none=>
   have:2*s+1∈Z.map (·.1):=(hZk _).2 ⟨s,i,hm,rfl⟩
   grind [mC]
 have cw:∀(q j:Nat) (z:CV),(∀s i,(s,i)∈L->q≠2*s+1)->CW (dkC ρ) True (.k q) j (z.stale (aC::Z.map (·.1)) true) z:=by
  intro q j z h2;refine CW.stale (fun _ hd=> ?_) (fun k' c' hd=> ?_) (fun _=>rfl)
  all_goals grind
 have hres:VR (E.back E' π ρ d) (aA (St.get (((aC,.none)::(Z++u))++σ))) (.h 0) r.res v:=
  iP (E:=E) (π:=π) (hide:=true) (bx:=bx) (hdr:=E.hdr) (d:=d) hold hpl (fun c p=>(hρ _ _).2 (.inr ⟨c,p,rfl,rfl⟩)) (hx.res.vr (fX hpl))
 have hzn:∀q,(∀s i,(s,i)∈L->q≠2*s+1)->aN Z q=none:=by
  intro q hq;cases hl:aN Z q with
  |none=>rfl
  |some w=>
   obtain⟨s,i,o,hm,e,_⟩:=hZ _ _ (eG hl)
   grind
 refine⟨E.back E' π ρ d,rfl,hi.step hst hx.os hx.tape hx.output hx.size (fun b hlt h0=> ?_) hbk.new hbk.inj hbk.boxhw rfl hbxs
  (fun t=> .inr ⟨?_,rfl⟩) (fun s' cs' hs=> ?_),hres⟩
 ·have h2:=(hi.old b hlt h0).2.2;have hlt2:b<E.w.heap.size:=ZZ hlt hi.size;obtain⟨a1,a2,a3⟩:=hold b hlt2 (by grind [Env.into]);have hf:E.frame π b:=⟨hlt2,by grind⟩;exact⟨a1,by grind [Env.back],by grind [Env.back]⟩
 ·rw [hG];split
  ·trivial
  grind [AWk.map]
 ·rw [hG,Za (by grind)] at hs;cases hl:aN Z (2*s' +1) with
  |some w=>
   rw [hl] at hs;obtain⟨s,i,o,hm,e,rfl,⟨h1,vals,ty,h2,h3⟩,ho⟩:=hZ _ _ (eG hl);obtain rfl:s' =s:=by omega
   injection hs with _ hs;subst hs;refine .inl ⟨(dB hold h1 ((hρ _ _).2 (.inl ⟨s',i,hm,.inl ⟨rfl,rfl⟩⟩))).1,vals,ty,h2,?_⟩;refine cH (by grind [bB]) fun j x y hx' hy=> ?_;rw [Ze,Zi] at hx';obtain⟨x0,hx0,rfl⟩:=hx';have hvj:=bH h3 hx0 hy;rw [Zc] at hvj ⊢;exact sR hold hx.hdr (fun i s h=>⟨(hbi s i (hL' i s h)).symm,hboxL s i (hL' i s h)⟩) (Zx.1 ho x0 (Zy hx0)) (fun p=>(hρ _ _).2 (.inl ⟨s',i,hm,.inr ⟨_,p,rfl,rfl⟩⟩)) hvj
  |none=>
   rw [hl] at hs;dsimp only at hs;have hne:∀s i,(s,i)∈L->2*s' +1≠2*s+1:=by
    intro s i hm e;have:2*s+1∈Z.map (·.1):=(hZk _).2 ⟨s,i,hm,rfl⟩
    grind [mC]
   cases hq:St.get (u++σ) (2*s' +1) with
   |v g' cs0=>
    rw [hq] at hs;injection hs with hs1 hs2
    grind [CWs.map]
   |tup xs=>rw [hq] at hs;cases hs
   |none=>rw [hq] at hs;cases hs
theorem yD{L:List (Nat×Nat)}:∀ {ss:List Nat} {os:List (List CV)} {u u' :Ups},Mr (mQ L ss os) σ u=some ((),u')->ss.length=os.length/\u' =(ss.zip os).map (fun x=>(2*x.1+1,AV.v true (x.2.map (CV.ren L))))++u:=by
 intro ss
 induction ss with
 |nil=>
  intro os u u' h;cases os with
  |nil=>obtain⟨_,rfl⟩:=aF h;simp_all
  |cons o os=>exact(aE h).elim
 |cons s ss ih=>
  intro os u u' h;cases os with
  |nil=>exact(aE h).elim
  |cons o os=>
   obtain⟨_,u1,h1,h2⟩:=aD h;obtain⟨i1,rfl⟩:=ih h1;obtain rfl:=bP h2
   simp_all
theorem yJ{L:List (Nat×Nat)}{x:CV}(h:x.plainC=true):x.ren L= .undef\/(x.ren L).plainC=true:=by
 cases x with
 |clo k ss=>
  cases hr:eL L ss with
  |none=>grind [CV.ren]
  |some is=>exact .inr (by simp only [CV.ren,hr];rfl)
 |swp sf n h s=>
  cases hr:aN L s with
  |none=>grind [CV.ren]
  |some i=>exact .inr (by simp only [CV.ren,hr];rfl)
 |_=>exact .inr h
theorem xM{L:List (Nat×Nat)}(h:bA (L.map (·.1))=true){s i i' :Nat}(h1:(s,i)∈L)(h2:(s,i')∈L):i=i' :=by
 obtain⟨n,hn⟩:=ZP.1 h1;obtain⟨m,hm⟩:=ZP.1 h2;have:=kL h (n:=n) (n' :=m) (x:=s) (by grind) (by grind)
 grind
theorem p9{L:List (Nat×Nat)}(h:bA (L.map (·.2))=true){s s' i:Nat}(h1:(s,i)∈L)(h2:(s',i)∈L):s=s' :=by
 obtain⟨n,hn⟩:=ZP.1 h1;obtain⟨m,hm⟩:=ZP.1 h2;have:=kL h (n:=n) (n' :=m) (x:=i) (by grind) (by grind)
 grind
theorem oC{w:World}{v:AV}{ob:List Prop}(hi:Inv C (St.get (u++σ)) a.tmps E)(hw:E.w=w){f:FuncId}{r:CallO}{as:List Arg}{ks:List (Option Nat)}{vals:Array Value}
 (hA:CArgs E (St.get (u++σ)) as ks vals.toList) (h:Mr (jK (AbsCalls C.P) f r as ks) σ u=some ((v,ob),u')) (hob:∀q∈ob,q):
 Does C.P f vals w fun val w' =>Hand C (u' ++σ) a.tmps w' 0 v val:=by
 subst hw;unfold jK at h;have hLd:dV 0 ks++fU as.length (kD as ks)=lOf as ks:=rfl;generalize lOf as ks=L at h hLd;generalize kD as ks=gs at h hLd;obtain⟨ga,u1,h1,h2⟩:=aD h;obtain⟨rfl,hga⟩:=vU _ _ _ h1;cases hc:(aR (as++ga)|| !(r.res.plain&&r.outs.all (·.all CV.plainC)&&bA L.unzip.1&&bA L.unzip.2)) with
 |true=>grind [aE]
 |false=>
 rw [hc,jF] at h2;rw [ZL] at hc;obtain⟨hb,hc⟩:=hc;have hc:(r.res.plain&&r.outs.all (·.all CV.plainC)&&bA L.unzip.1&&bA L.unzip.2)=true:=by grind
 simp only [Zu] at hc;obtain⟨⟨⟨hpl,hpo⟩,hd1⟩,hd2⟩:=hc;have u1:L.unzip.1=L.map (·.1):=by simp
 have u2:L.unzip.2=L.map (·.2):=by simp
 rw [u1] at hd1 h2;rw [u2] at hd2;obtain⟨hb1,hb2⟩:=sJ hb;obtain⟨_,u3,h3,h4⟩:=aD h2;obtain⟨hlen,rfl⟩:=yD h3;obtain⟨_,u4,h5,h6⟩:=aD h4;obtain rfl:=bP h5;obtain⟨e,rfl⟩:=aF h6;cases e;have hcon:AbsCalls C.P f ((as++ga).map (Arg.toC L)) ⟨r.res,r.outs,[]⟩:=hob _ (Zo.2 rfl);obtain⟨π,ρ,d,hp,hπ,hρ⟩:=xW (L:=L) (fun s i i' =>xM hd1) (fun s s' i=>p9 hd2)
 let bx:Nat->Nat:=fun i=>match aN (eX L) i with
  |some s=>E.bx s
  |none=>0
 have hflip:∀i s,aN (eX L) i=some s->(s,i)∈L:=by
  intro i s h;have:=eG h;unfold eX at this;obtain⟨z,hz,e⟩:=Zk.1 this
  grind
 have hbx:∀s i,(s,i)∈L->bx i=E.bx s:=by
  intro s i hm;show(match aN (eX L) i with |some s=>E.bx s|none=>0)=_;cases hl:aN (eX L) i with
  |none=>
   refine absurd ?_ (mC hl s);exact Zk.2 ⟨(s,i),hm,rfl⟩
  |some s' =>
   grind [p9]
 have hLb:∀s i,aN L s=some i->bx i=E.bx s:=fun s i h=>hbx s i (eG h);have hands:∀s i,(s,i)∈L->iT E π bx s i:=fun s i hm=>⟨hbx s i hm,(hπ _ _).2 ⟨s,i,hm,.inl ⟨rfl,rfl⟩⟩,fun c p=>(hπ _ _).2 ⟨s,i,hm,.inr ⟨c,p,rfl,rfl⟩⟩⟩;have hargs:ArgsAt (E.into π true bx E.hdr) 0 ((as++ga).map (Arg.toC L)) vals.toList:=by
  rw [List.map_append];refine ArgsAt.app (tH hi hLb hA hb1 fun s j hm=>hands s j (by grind)) (by rw [List.length_map];exact hA.len) ?_;rw [Zm,Zc];exact vH hi hLb hga hb2 fun s j hm=>hands s j (by grind)
 have hidx:aK 0 ((as++ga).map (Arg.toC L))=L.map (·.2):=by
  grind [sV,sW,sX]
 refine(hcon (E.into π true bx E.hdr) _ (eZ hp hi.env) (eY hi.bas) hargs).mono fun val w' hr=> ?_;obtain⟨E',rfl,hx⟩:=hr;obtain⟨o1,o2⟩:=sA hx.outs;have hbi:∀s i,(s,i)∈L->E'.bx i=E.bx s:=by
  intro s i hm;rw [hx.bx i (by grind)];exact hbx s i hm
 have hol:r.outs.length=L.length:=by
  grind
 have hzip:∀s o,(s,o)∈(L.map (·.1)).zip r.outs->∃i,(s,i)∈L/\bS E' i (E.bx s) o/\o.all CV.plainC=true:=by
  intro s o hm;obtain⟨n,hn⟩:=ZP.1 hm;rw [List.getElem?_zip_eq_some] at hn;obtain⟨n1,n2⟩:=hn;rw [Ze,Zi] at n1;obtain⟨⟨s',i⟩,n1,rfl⟩:=n1;have:=o2 n i o (by grind) n2;have hm' :=Zy n1;have e:(E.into π true bx E.hdr).bx i=E.bx s' :=hbx s' i hm'
  grind
 refine tA (L:=L) (L' :=eX L) (r:=⟨r.res,r.outs,[]⟩) hi hp hρ hx hpl (fun z hz=> ?_) (fun k=> ?_) (fun q av hm=> ?_) hflip hbi
 ·obtain⟨⟨s,o⟩,hm,rfl⟩:=Zk.1 hz;obtain⟨i,_,_,ho⟩:=hzip s o hm;refine⟨Imm.of fun x hx=> ?_,by grind [aC]⟩;obtain⟨y,hy,rfl⟩:=Zk.1 hx
  grind [yJ]
 ·rw [Yi];constructor
  ·intro h;obtain⟨⟨s,o⟩,hm,rfl⟩:=Zk.1 h;obtain⟨i,hi',_⟩:=hzip s o hm
   grind
  ·rintro ⟨s,i,hm,rfl⟩;obtain⟨n,hn⟩:=ZP.1 hm;have hnl:n<r.outs.length:=by grind
   refine Zk.2 ⟨(s,r.outs[n]),ZP.2 ⟨n,?_⟩,rfl⟩
   grind
 ·obtain⟨⟨s,o⟩,hm',e⟩:=Zk.1 hm;cases e;obtain⟨i,h1,h2,h3⟩:=hzip s o hm'
  grind
theorem oP{P:Program}{ρ:Operand->Value}{o:Oper}{w:World}{c:Call}{t:Nat}{k:FuncId}{caps:Array Value}(h:o.op= .call c)(hc:c.callee= .value (.tmp t))(hv:ρ (.tmp t)= .func (.func k) #[] caps):
 (execOp ρ o).run P w=(callFunc k (c.args.map ρ++caps)).run P w:=by
 grind [execOp,resolve,invoke,Deferred.ofValue]
theorem CArgs.get{G:Nat->AV}:∀ {as:List Arg} {ks:List (Option Nat)} {vs:List Value},CArgs E G as ks vs->∀(j:Nat) (x:AV) (v:Value),as[j]? =some (.val x)->vs[j]? =some v->(∃g cs,x= .v g cs)/\∀pl,VR E (aA G) pl x v:=by
 intro as
 induction as with
 |nil=>grind
 |cons y as ih=>
  intro ks vs h j x v hj hv;cases ks with
  |nil=>cases y <;>exact h.elim
  |cons k ks=>
   cases vs with
   |nil=>grind
   |cons v0 vs=>
    cases j with
    |zero=>
     simp at hj hv;subst hj hv;cases k with
     |none=>exact h.1
     |some s=>exact h.elim
    |succ j=>cases y <;>cases k <;>first |exact ih h.2 j x v (by grind) (by grind) |exact h.elim
theorem sL{bs:List Arg}(hb:cA bs=false):∀ {as:List Arg},cA as=false->cA (as++bs)=false:=by
 intro as
 induction as with
 |nil=>grind
 |cons x as ih=>
  intro h;cases x with
  |val y=>
   cases y with
   |v g cs=>
    grind [cA]
   |_=>cases h
  |box cs=>cases h
  |gbox cs=>cases h
variable {o:Oper}
theorem y7{w:World}{v:AV}{ob:List Prop}(hi:Inv C (St.get ([]++σ)) a.tmps E)(hw:E.w=w){c:Call}{t:Nat}{r:CallO}(ho:o.op= .call c)(hc:c.callee= .value (.tmp t))
 (h:Mr (m8 tt (AbsCalls C.P) c t r) σ []=some ((v,ob),u)) (hob:∀q∈ob,q):
 ∃f vals,(∀w,(execOp a.eval o).run C.P w=(callFunc f vals).run C.P w)/\Does C.P f vals w fun val w' =>Hand C (u++σ) a.tmps w' 0 v val:=by
 subst hw;unfold m8 at h;obtain⟨b,u1,h1,h2⟩:=aD h;obtain⟨rfl,rfl⟩:=bT h1;have ht:=hi.tmp t;split at h2
 ·rename_i k ss hg;rw [hg] at ht;have htv:a.tmps.getD t undef= .func (.func k) #[] (ss.map fun s=>Value.pointer (some ⟨E.bx s,0,none⟩)).toArray:=ht.1.1;obtain⟨p,u2,h3,h4⟩:=aD h2;obtain⟨rfl,hA⟩:=lL hi _ _ _ _ h3;obtain⟨q,u3,h5,h6⟩:=aD h4;obtain⟨rfl,hB⟩:=tF (E:=E) _ _ _ h5;refine⟨k,c.args.map a.eval++(ss.map fun s=>Value.pointer (some ⟨E.bx s,0,none⟩)).toArray,fun w=>oP ho hc htv,?_⟩;refine oC hi rfl ?_ h6 hob
  grind [dY,CArgs.app]
 ·rename_i sf n h0 s hg;rw [hg] at ht;obtain⟨⟨htone,h0one⟩,htv⟩:=ht.1;obtain⟨hpl,h2⟩:=aU h2;obtain⟨p,u2,h3,h4⟩:=aD h2;obtain⟨rfl,hA⟩:=lL hi _ _ _ _ h3;obtain⟨cs,u3,h5,h6⟩:=aD h4;obtain⟨hgb,rfl⟩:=fN h5;split at h6
  case h_2=>grind [aE]
  rename_i m T xs rest;obtain⟨hcd,h6'⟩:=aU h6;clear h6;rw [Zu] at hcd;obtain⟨hmn,hrd⟩:=hcd;obtain rfl:=Zj hmn;have hrd:cA p.1=false:=by grind
  unfold rI at h6';obtain⟨ps,u4,h7,h8⟩:=aD h6';obtain⟨e,rfl⟩:=aF h8;cases e;have h2x:2<=xs.length:=hob _ (Zr _ Zp);obtain⟨b1,vals,ty,b2,b3⟩:=hi.box s _ hgb;cases hvl:vals.toList with
  |nil=>rw [hvl] at b3;exact b3.elim
  |cons v0 vr=>
   rw [hvl] at b3;have hv0:VRc E (aA (St.get ([]++σ))) (.k (2*s+1)) 0 (.sl (.lnt m) T xs) v0:=b3.1;have hq:v0=E.hdr m:=(RdP.top hv0).2 rfl;obtain⟨ad,cap,hsh,_⟩:=RdP.shape hv0;rw [Zm] at hsh;have htv:=htv ad xs.length cap (by grind) h2x;refine⟨sf,c.args.map a.eval++ #[E.hdr m,h0],fun w=>oP ho hc htv,?_⟩;have hrd2:cA (p.1++ [.val (.v false [.sl (.al (2*s+1) 0 []) T xs]),.val (.v false [.val h0])])=false:=sL rfl hrd;have hlen:p.1.length=(c.args.map a.eval).toList.length:=by rw [dY];exact hA.len
   have hAl:VRc E (aA (St.get ([]++σ))) (.h 0) 0 (.sl (.al (2*s+1) 0 []) T xs) (E.hdr m):=by
    rw [<-hq];exact RdP.mono hv0 (fun p b o ho=>⟨rfl,ho⟩) (fun p v sz ht=>ht.1)
   have hok:ArgsOk E (St.get ([]++σ)) (p.1++ [.val (.v false [.sl (.al (2*s+1) 0 []) T xs]),.val (.v false [.val h0])]) [] (c.args.map a.eval++ #[E.hdr m,h0]).toList:=by
    have nobox:∀(j:Nat) (cs:List CV),(p.1++ [.val (.v false [.sl (.al (2*s+1) 0 []) T xs]),.val (.v false [.val h0])])[j]? ≠some (.box cs):=by
     grind [kZ]
    refine⟨by grind,fun j x v hj hv=> ?_,fun j cs v hj _=>absurd hj (nobox j cs),fun j j' cs cs' hj _=>absurd hj (nobox j cs),fun s hs=>(by grind),fun j cs hj=> ?_⟩
    ·rw [Array.toList_append] at hv;by_cases hjl:j<p.1.length
     ·rw [Z0 hjl] at hj;rw [Z0 (by grind)] at hv;rw [dY] at hv;exact hA.get j x v hj hv
     ·rw [ZS (by omega)] at hj hv;rw [<-hlen] at hv;generalize j - p.1.length=n at hj hv
      match n,hj,hv with
      |0,hj,hv=>
       cases hj;cases hv;exact⟨⟨_,_,rfl⟩,fun pl=>⟨hAl,trivial⟩⟩
      |1,hj,hv=>
       cases hj;cases hv;exact⟨⟨_,_,rfl⟩,fun pl=>⟨⟨rfl,h0one⟩,trivial⟩⟩
      |n+2,hj,hv=>grind
    grind [kZ]
   have hpl' :(⟨r.res,[],r.lents⟩:CallO).plain=true:=by
    grind [CallO.plain]
   have hfin:Mr ((iG (aW 0 (p.1++ [.val (.v false [.sl (.al (2*s+1) 0 []) T xs]),.val (.v false [.val h0])])).2 r.lents).bind fun ps=>M.pure (r.res,AbsCalls C.P sf (aW 0 (p.1++ [.val (.v false [.sl (.al (2*s+1) 0 []) T xs]),.val (.v false [.val h0])])).1 ⟨r.res,[],r.lents⟩::ps)) σ []=
    some ((r.res,AbsCalls C.P sf (aW 0 (p.1++ [.val (.v false [.sl (.al (2*s+1) 0 []) T xs]),.val (.v false [.val h0])])).1 ⟨r.res,[],r.lents⟩::ps),u):=by
    rw [nD,h7];rfl
   exact nZ (r:=⟨r.res,[],r.lents⟩) hi rfl hpl' hok hrd2 hfin (fun q hq=>by
    grind)
 grind [aE]
end
def eC:Own->Option Own
 | .arr (.h 0) _ _=>none
 |l=>some l
theorem gZ:RhoOk eC (fun pl _=>pl= .h 0) where
 box:=fun _=>rfl
 id:=fun pl c p h=>by
  unfold eC
  grind
 inj:=fun l1 l2 l h1 h2=>by
  have:∀l1,eC l1=some l->l1=l:=by
   intro l1 h;unfold eC at h
   grind
  grind
 arr:=fun k c p s h=>by
  unfold eC at h
  grind
section
variable {C:Ctx} {σ:St} {a:Act} {E:Env} {u u' :Ups} {tt:TT} {o:Oper} {md:Md×Bool} {v:AV} {ob:List Prop}
theorem Hand.frz{tmps:Array Value}{w:World}{v:AV}{val:Value}(h:Hand C σ tmps w 0 v val):Hand C σ tmps w 0 (v.mapC CV.fz) val:=by
 obtain⟨E,rfl,hi,hv⟩:=h
 have cw:∀(pl:Pl) (c:Nat) (x:CV),pl≠ .h 0->CW (fun pl _=>pl= .h 0) False pl c x x:=fun pl c x hp=>
  .inr ⟨rfl,fun _ hd=>hp hd,fun k' c' _ hd=>(by grind),fun _ h=>h⟩
 have aw:∀(pl:Pl) (x:AV),pl≠ .h 0->AWk (fun pl _=>pl= .h 0) False pl x x:=by
  intro pl x h;have:=AWk.map (dk:=fun pl _=>pl= .h 0) (mu:=False) (pl:=pl) (f:=id) (fun c z=>cw pl c z h) x
  grind [AV.mapC_id]
 refine⟨E.rel eC,rfl,hi.rel gZ rfl (fun s h=>h) (fun t=> .inr ⟨aw _ _ (by simp),rfl⟩) (fun s cs' hs=> .inr ⟨cs',hs,?_⟩),?_⟩
 ·have:=CWs.map (dk:=fun pl _=>pl= .h 0) (mu:=False) (pl:= .k (2*s+1)) (f:=id) (fun c z=>cw _ c z (by simp)) cs' 0
  simp_all
 ·refine VR.imp (fun j x v _ hv=> ?_) hv;cases x with
  |sl f T xs=>
   cases f with
   |own=>exact RdP.mono hv (fun p b o ho=>⟨rfl,ho.1,by simp [Env.rel,ho.2,eC]⟩) (fun _ _ _ _=>trivial)
   |tip=>
    refine RdP.mono hv (fun p b o ho=>⟨rfl,ho.1,?_⟩) (fun _ _ _ _=>trivial);by_cases hp:p=[]
    ·simp [Env.rel,ho.2.1 hp,eC]
    ·simp [Env.rel,ho.2.2 hp]
   |al k1 c1 p1=>exact hv.rel (k' := .h 0) (c' :=j) gZ (fun h=>by cases h) (fun k c h e=>by cases e)
   |ro=>exact hv.rel (k' := .h 0) (c' :=j) gZ (fun h=>by cases h) (fun k c h e=>by cases e)
   |bor=>exact hv.rel (k' := .h 0) (c' :=j) gZ (fun h=>by cases h) (fun k c h e=>by cases e)
   |lnt n=>exact hv.one
  |apd k1 c1 p1 T xs=>exact hv.one
  |_=>exact hv.rel (k' := .h 0) (c' :=j) gZ (fun h=>by cases h) (fun k c h e=>by cases e)
theorem Hand.em{tmps:Array Value}{w:World}{v:AV}{val:Value}(h:Hand C σ tmps w 0 v val):Hand C σ tmps w 0 (v.mapC CV.em) val:=by
 obtain⟨E,rfl,hi,hv⟩:=h;refine⟨E,rfl,hi,VR.imp (fun j x v _ hv=> ?_) hv⟩;unfold CV.em;split
 ·rename_i T;obtain⟨ad,cap,rfl,_⟩:=RdP.shape hv;exact RdP.nil ad cap _ trivial
 grind
theorem Hand.sel{tmps:Array Value}{w:World}{v:AV}{val:Value}(o:Oper)(md:Md)(h:Hand C σ tmps w 0 v val):Hand C σ tmps w 0 (v.mapC (jZ o md)) val:=by
 cases md with
 |take=>
  unfold jZ;cases dF o
  ·exact h.frz
  ·exact h.em
 |_=>exact h.frz
end
structure DecOk (σ:St) (dc:List (Nat×Bool)):Prop where
 dec:∀y∈dc,∀b,σ.get (2*y.1)= .v false [.bool b]->b=y.2
section
variable {C:Ctx} {σ:St} {a:Act} {E:Env} {u u' :Ups} {tt:TT} {o:Oper} {md:Md×Bool} {v:AV} {ob:List Prop}
theorem DecOk.toDec{dc:List (Nat×Bool)}(h:DecOk σ dc):Dec σ dc:=by
 intro t lit b hd hg;have:∀l:List (Nat×Bool),fP l t=some lit->(t,lit)∈l:=by
  intro l
  induction l with
  |nil=>intro h;cases h
  |cons y l ih=>
   grind [fP,Nat.eq_of_beq_eq_true]
 exact h.dec _ (this _ hd) b hg
theorem vL(σ:St)(q:Nat):∀(u:Ups) (s:List Nat) (m:Bool),(∀x∈u,x.1≠q)->∃s' m',St.getS (u++σ) q s m=St.getS σ q s' m' :=by
 intro u
 induction u with
 |nil=>intro s m _;exact⟨s,m,rfl⟩
 |cons x u ih=>
  intro s m h;obtain⟨k,v⟩:=x;have hk:k.beq q=false:=by
   grind [Nat.eq_of_beq_eq_true,List.mem_cons_self]
  simp only [jO,St.getS,hk,jF];exact ih _ _ fun y hy=>h y (Zr _ hy)
theorem kB{b:Bool}{q:Nat}{u:Ups}(h:∀x∈u,x.1≠q)(hg:St.get (u++σ) q= .v false [.bool b]):σ.get q= .v false [.bool b]:=by
 obtain⟨s',m',e⟩:=vL σ q u [] false h;rw [St.get,e,St.getS_get] at hg;cases ha:σ.get q with
 |v g cs=>
  rw [ha] at hg;injection hg with h1 h2;subst h1;cases cs with
  |nil=>grind
  |cons c cs=>
   cases cs with
   |cons _ _=>grind
   |nil=>
    grind [CV.stale_eq]
 |tup xs=>rw [ha] at hg;cases hg
 |none=>rw [ha] at hg;cases hg
theorem DecOk.app{dc:List (Nat×Bool)}(h:DecOk σ dc)(hu:u.all (fun x=>dc.all fun y=> !(x.1.beq (2*y.1)))=true):DecOk (u++σ) dc:=by
 refine⟨fun y hy b hg=>h.dec y hy b (kB (fun x hx e=> ?_) hg)⟩;have h1:=Zx.1 (Zx.1 hu x hx) y hy
 simp_all
def Out(C:Ctx)(σ:St)(dc:List (Nat×Bool))(a:Act)(w:World):Prop:=R C σ a w/\DecOk σ dc
theorem mR{d:Nat}{w:World}{v:AV}{val:Value}(hd0:a.defers=[])(h:Hand C (u++σ) a.tmps w 0 v val)(hd:d<C.nt):
 R C (((2*d,v.mapC (CV.stale [2*d] false))::u)++σ) (a.put (some d) val) w:=by
 obtain⟨E,rfl,hi,hv⟩:=h;obtain⟨E',e1,_,_,e4⟩:=hi.put hv (d:=d) (by rw [hi.nt];grind);exact⟨hd0,E',e1,e4⟩
theorem xN{w:World}{v:AV}{val:Value}(hd0:a.defers=[])(h:Hand C (u++σ) a.tmps w 0 v val):R C (u++σ) (a.put none val) w:=by
 obtain⟨E,rfl,hi,_⟩:=h;exact⟨hd0,E,rfl,hi⟩
theorem xQ{nt:Nat}{gs:List Nat}{dc dc' :List (Nat×Bool)}{r r' :RS}{owed:List Prop}{blk:Ups}(hnt:C.nt=nt)
 (h:dL nt gs o dc r (some (v,owed),u)=some (dc',r',blk)) (hd0:a.defers=[]) (hdec:DecOk r.σ dc) (hob:∀p∈r'.ob,p):
 (∀p∈owed,p)/\∀val w,Hand C (u++r.σ) a.tmps w 0 v val->Out C r'.σ dc' (a.put o.dst val) w:=by
 simp only [dL] at h;cases hu:(u.all fun x=>dc.all fun y=> !(x.1.beq (2*y.1))) with
 |false=>grind
 |true=>
  rw [hu] at h;simp only [jT] at h;split at h
  ·rename_i d hdst;cases hc:(d.blt nt&&dc.all fun y=> !(d.beq y.1)) with
   |false=>grind
   |true=>
    rw [hc] at h;simp only [jT] at h;rw [Zu] at hc;have hdn:d<C.nt:=by grind [Nat.blt_eq]
    have hne:∀y∈dc,d≠y.1:=fun y hy e=>by
     have:=Zx.1 hc.2 y hy;rw [e] at this;simp at this
    have hdec' :∀x,DecOk (((2*d,x)::u)++r.σ) dc:=fun x=>by
     have h1:=hdec.app hu;refine⟨fun y hy b hg=>h1.dec y hy b (kB (u:=[(2*d,x)]) (fun z hz e=> ?_) hg)⟩
     grind
    cases hgs:gs.contains d with
    |false=>
     rw [hgs] at h;cases h;refine⟨fun p hp=>hob p (by grind),fun val w hv=>⟨?_,hdec' _⟩⟩
     grind [mR]
    |true=>
     rw [hgs] at h;simp only [jT] at h;split at h
     ·rename_i b lit bs hbs;cases h;refine⟨fun p hp=>hob p (by grind),fun val w hv=>⟨?_,?_⟩⟩
      ·grind [mR]
      ·have hlit:b=lit:=hob _ Zp;refine⟨fun y hy b' hg=> ?_⟩;rcases Zh.1 hy with e|hy
       ·subst e;have:St.get (((2*d,(AV.v false [CV.bool b]).mapC (CV.stale [2*d] false))::u)++r.σ) (2*d)= .v false [.bool b]:=by
         show St.get ((2*d,_)::(u++r.σ)) (2*d)=_;rw [St.get_cons,Zt rfl];rfl
        grind
       ·exact(hdec' _).dec y hy b' hg
     grind
  ·rename_i hdst;cases h;refine⟨fun p hp=>hob p (by grind),fun val w hv=>⟨?_,hdec.app hu⟩⟩
   grind [xN]
end
section
variable {C:Ctx} {σ:St} {a:Act} {u u' :Ups} {tt:TT} {o:Oper} {md:Md×Bool} {v:AV} {ob:List Prop} {dc dc' :List (Nat×Bool)} {orc:Option CallO} {Q:Exit->Act->World->Prop}
theorem tE{w:World}{E:Env}{m:Md}(hi:Inv C (St.get ([]++σ)) a.tmps E)(hw:E.w=w)(hc:dF o=true)(h:Mr (f7 tt (AbsCalls C.P) m o dc orc) σ []=some ((v,ob),u))(hob:∀p∈ob,p):
 ∃f vals,(∀w,(execOp a.eval o).run C.P w=(callFunc f vals).run C.P w)/\Does C.P f vals w fun val w' =>Hand C (u++σ) a.tmps w' 0 v val:=by
 unfold dF at hc;split at hc
 ·rename_i c ho;split at hc
  ·rename_i x hcal;unfold f7 at h;rw [ho] at h;simp only at h;split at h <;>rename_i hcf
   ·grind
   ·grind
   ·grind
   ·grind
   case h_7=>grind [aE]
   case h_6=>
    rename_i t;split at h
    case h_2=>grind [aE]
    rename_i r;exact y7 hi hw ho hcf h hob
   rename_i f;split at h
   case h_2=>grind [aE]
   rename_i r
   have ex:∀ {v' :AV} {u' :Ups},gM C (u' ++σ) a w c f v' ->∃f vals,(∀w,(execOp a.eval o).run C.P w=(callFunc f vals).run C.P w)/\Does C.P f vals w fun val w' =>Hand C (u' ++σ) a.tmps w' 0 v' val:=
    fun h=>⟨f,c.args.map a.eval,fun w=>oL ho hcf rfl,h⟩
   split at h
   ·unfold oB at h;obtain⟨p,u2,h3,h4⟩:=aD h;obtain⟨rfl,hA⟩:=lL hi _ _ _ _ h3;refine⟨f,c.args.map a.eval,fun w=>oL ho hcf rfl,oC hi hw ?_ h4 hob⟩
    simp_all
   split at h
   ·rename_i cs hn;obtain⟨hcall⟩:Nonempty (gM C (u++σ) a w c f v):=⟨xI hi hw hn h hob⟩
    grind
   unfold nW at h;by_cases hmt:m= .take
   ·subst hmt;exact ex (wX hi hw h hob)
   replace h:Mr (lF tt (AbsCalls C.P) m c f r) σ []=some ((v,ob),u):=by
    grind
   unfold lF at h;cases hpl:r.plain with
   |false=>grind [aE]
   |true=>
    rw [hpl] at h;simp only [jT] at h;obtain⟨p,u1,h1,h2⟩:=aD h;obtain⟨rfl,hA⟩:=i8 hi _ _ _ _ h1;refine ex ?_;cases m with
    |ref=>
     simp only at h2;cases hE:(aW 0 p.1).2.isEmpty with
     |true=>
      rw [hE] at h2;exact lG hi hw hpl hA h2 hob
     |false=>
     rw [hE] at h2;simp only [jF] at h2;split at h2
     ·rename_i hks houts;obtain⟨hr1,h3⟩:cA p.1=false/\_:=by
       cases hr:cA p.1 with
       |true=>rw [hr] at h2;exact(aE h2).elim
       |false=>rw [hr] at h2;exact⟨rfl,h2⟩
      rw [hks,<-dY] at hA;exact nZ hi hw hpl hA hr1 h3 hob
     grind [aE]
    |cp=>exact lG hi hw hpl hA h2 hob
    |take=>grind
  grind
 grind
theorem rN{P:Program}{ops:Array Oper}{i:Nat}{K:Act->World->Prop}{w:World}(hi:ops[i]? =some o)(hw:Region.wanted o (yielded ops a.tmps)=true)(h:o.wp P a w K Q):wpOp P ops Q i K a w:=by
 grind [wpOp]
theorem rC{ops:Array Oper}{nt:Nat}{ms:List (Nat×Md×Bool)}{gs:List Nat}{i:Nat}{g:Option (Nat×Bool)}{r r' :RS}{e:Option Eff×Ups}{blk:Ups}{w:World}{K:Act->World->Prop}{k:Nat}
 (htt:aP C.P tt) (hi:ops[i]? =some o) (hg:dW ops o=some (g.map fun x=>(x.1,x.2))) (hm:(opM tt (AbsCalls C.P) (bU ms k) o g dc (cQ o r) []).run r.σ.get=some e)
 (hput:dL nt gs o dc r e=some (dc',r',blk)) (hR:R C r.σ a w) (hnt:C.nt=nt) (hdec:DecOk r.σ dc) (hob:∀p∈r'.ob,p) (hK:∀a' w',Out C r'.σ dc' a' w' ->K a' w'):wpOp C.P ops Q i K a w:=by
 have hg:dW ops o=some g:=by
  simp_all
 obtain⟨hd0,E,rfl,hinv⟩:=hR;have hrun:Mr (opM tt (AbsCalls C.P) (bU ms k) o g dc (cQ o r)) r.σ []=some e:=hm;have wanted:∀(eff:Eff) (u:Ups),Mr (kM tt (AbsCalls C.P) (bU ms k) o dc (cQ o r)) r.σ []=some (eff,u)->e=(some eff,u)->o.wp C.P a E.w K Q:=by
  intro eff u h1 he;subst he;obtain⟨v,owed⟩:=eff;obtain⟨⟨v0,ob0⟩,u1,h2,h3⟩:=aD h1;obtain⟨e3,rfl⟩:=aF h3;cases e3;obtain⟨how,hout⟩:=xQ (a:=a) hnt hput hd0 hdec hob;have hfz:∀val w,Hand C (u++r.σ) a.tmps w 0 v0 val->Hand C (u++r.σ) a.tmps w 0 (cond (bU ms k).2 (v0.mapC (jZ o (bU ms k).1)) v0) val:=by
   intro val w h;cases (bU ms k).2 with
   |true=>exact h.sel o _
   |false=>exact h
  cases hc:dF o with
  |false=>
   rcases xS htt hinv rfl hdec.toDec hc h2 how with ⟨val,w',h4,h5⟩|⟨w',h4,h5⟩
   ·unfold Oper.wp;rw [h4];exact hK _ _ (hout _ _ (hfz _ _ h5))
   ·unfold Oper.wp;rw [h4];exact hK _ _ (hout _ _ (hfz _ _ h5))
  |true=>
   obtain⟨f,vals,hex,hcd⟩:=tE hinv rfl hc h2 how;unfold Oper.wp;rw [hex];rcases hcd with ⟨val,w',h4,h5⟩|⟨h4,h5⟩
   ·rw [h4];exact hK _ _ (hout _ _ (hfz _ _ h5))
   ·rw [h4];refine Calls.mono h5 fun e w'' he=> ?_
    grind
 unfold opM at hrun;cases hgd:o.guard with
 |none=>
  have:g=none:=by grind [dW]
  subst this;obtain⟨eff,u,h1,h2⟩:=aD hrun
  grind [aF,rN,Region.wanted]
 |some jw=>
  obtain⟨j,want⟩:=jw;have:∃t,(ops[j]?).bind (·.dst)=some t/\g=some (t,want):=by
   grind [dW]
  obtain⟨t,ht,rfl⟩:=this;simp only at hrun;obtain⟨x,u1,h1,h2⟩:=aD hrun;obtain⟨rfl,rfl⟩:=bT h1;have hvt:=hinv.tmp t;have notw:Region.wanted o (yielded ops a.tmps)=false->e=(none,[])->wpOp C.P ops Q i K a E.w:=by
   intro hw he;subst he;unfold wpOp;rw [hi];simp only [hw];refine hK _ _ ?_;simp only [dL] at hput;split at hput
   ·rename_i d hdst;cases hc:(d.blt nt&&dc.all fun y=> !(d.beq y.1)) with
    |false=>grind
    |true=>
     rw [hc] at hput;cases hput;rw [Zu] at hc;have hdn:d<C.nt:=by simp_all
     rw [hdst];refine⟨?_,⟨fun y hy b hgb=>hdec.dec y hy b (kB (u:=[(2*d,.tup [])]) (fun z hz e=> ?_) hgb)⟩⟩
     ·exact mR (u:=[]) (v:= .tup []) hd0 ⟨E,rfl,hinv, #[],rfl,trivial⟩ hdn
     ·simp at hz;subst hz;have:=Zx.1 hc.2 y hy;rw [show d=y.1 from Nat.eq_of_mul_eq_mul_left (by decide:0<2) e] at this;simp at this
   ·rename_i hdst;cases hput;rw [hdst];exact⟨⟨hd0,E,rfl,hinv⟩,hdec⟩
  split at h2
  ·rename_i b hb;have hb:r.σ.get (2*t)= .v false [.bool b]:=hb;rw [hb] at hvt;have hvt:a.tmps.getD t undef= .bool b:=hvt.1;have hy:yielded ops a.tmps j=some b:=by
    unfold yielded;rw [ht];simp only [jS];have:a.tmps[t]? =some (.bool b):=by
     rw [Yy] at hvt;cases hq:a.tmps[t]? with
     |none=>rw [hq] at hvt;cases hvt
     |some x=>grind
    grind
   split at h2
   ·rename_i b' hdb;have hbb:b=b' :=hdec.toDec _ _ _ hdb hb;subst hbb;cases hw:(b==want) with
    |true=>
     rw [hw] at h2;simp only [jT] at h2;obtain⟨eff,u,h3,h4⟩:=aD h2
     grind [aF,rN,Region.wanted]
    |false=>
     grind [aF,Region.wanted]
   grind [aE]
  ·rename_i hb;have hb:r.σ.get (2*t)= .tup []:=hb;rw [hb] at hvt;obtain⟨vs,hvs,hvl⟩:=hvt;obtain⟨e1,e2⟩:=aF h2;refine notw ?_ (by grind);have hy:yielded ops a.tmps j=none:=by
    unfold yielded;rw [ht];simp only [jS];rw [Yy] at hvs
    grind
   grind [Region.wanted]
  grind [aE]
end
def aG(b:Ups):List Nat:=b.map (·.1)
def cT(ks:List Nat)(S:St):Prop:=∀x∈S,x.2.mute ks=true
theorem pU{ks:List Nat}{c:CV}{s:List Nat}{m m' :Bool}(h:(!(c.onKey ks||(ks.contains aC&&c.isBor)))=true){k' :List Nat}(hk:∀k∈k',k∈ks)(hm:m' =true->m=true\/aC∈ks):
 c.stale (s++k') (m||m')=c.stale s m:=by
 have h1:c.onKey ks=false:=by grind
 have h2:aC∈ks->c.isBor=false:=by
  grind
 have h3:c.onKey (s++k')=c.onKey s:=by
  have key:∀k,c.onKey ks=false->(ks.contains k=false\/∀s,c.onKey s=s.contains k->True):=fun _ _=> .inr fun _ _=>trivial;cases c with
  |sl f T xs=>
   cases f with
   |al k c p=>
    simp only [CV.onKey] at h1 ⊢;have hn:k ∉ k' :=fun hk' =>by
     grind
    simp_all
   |_=>rfl
  |eref k c p i T x off=>
   simp only [CV.onKey] at h1 ⊢;have hn:k ∉ k' :=fun hk' =>by
    grind
   simp_all
  |apd k c p T xs=>
   simp only [CV.onKey] at h1 ⊢;have hn:k ∉ k' :=fun hk' =>by
    grind
   simp_all
  |_=>rfl
 unfold CV.stale
 grind
theorem xC{ks:List Nat}{a:AV}{s k' :List Nat}{m m' :Bool}(h:a.mute ks=true)(hk:∀k∈k',k∈ks)(hm:m' =true->m=true\/aC∈ks):
 a.mapC (CV.stale (s++k') (m||m'))=a.mapC (CV.stale s m):=by
 cases a with
 |none=>rfl
 |v g cs=>
  simp only [AV.mapC,AV.v.injEq,true_and];exact ZE fun c hc=>pU (Zx.1 h c hc) hk hm
 |tup xs=>
  simp only [AV.mapC,AV.tup.injEq];refine ZE fun x hx=> ?_;simp only [Yd,true_and];exact ZE fun c hc=>pU (Zx.1 (Zx.1 h x hx) c hc) hk hm
theorem j9(S:St)(q:Nat):∀(b:Ups) (s:List Nat) (m:Bool),
 (q∈aG b->∀S',St.getS (b++S) q s m=St.getS (b++S') q s m)/\
 (q ∉ aG b->∃s' m',(∀k,k∈s' ↔k∈aG b\/k∈s)/\(m' =true↔aC∈aG b\/m=true)/\St.getS (b++S) q s m=St.getS S q s' m'):=by
 intro b
 induction b with
 |nil=>intro s m;exact⟨fun h=>absurd h (by simp [aG]),fun _=>⟨s,m,by simp [aG],by simp [aG],rfl⟩⟩
 |cons x b ih=>
  intro s m;obtain⟨k,v⟩:=x;cases hk:k.beq q with
  |true=>
   grind [Nat.eq_of_beq_eq_true,St.getS,aG]
  |false=>
   have hne:q≠k:=fun e=>by simp_all
   obtain⟨i1,i2⟩:=ih (k::s) (m||k.beq aC)
   grind [St.getS,aG,Nat.eq_of_beq_eq_true,Nat.beq_refl]
theorem kC{b:Ups}{S S' :St}{q:Nat}(h:q∈aG b):St.get (b++S) q=St.get (b++S') q:=(j9 S q b [] false).1 h S'
theorem rA{s s' :List Nat}{m:Bool}(h:∀k,k∈s↔k∈s')(c:CV):c.stale s m=c.stale s' m:=by
 have:c.onKey s=c.onKey s' :=by
  have hk:∀k,s.contains k=s'.contains k:=fun k=>by grind
  cases c with
  |sl f T xs=>cases f <;>first |rfl|exact hk _
  |eref k c p i T x off=>exact hk _
  |apd k c p T xs=>exact hk _
  |_=>rfl
 grind [CV.stale]
theorem vQ{ks:List Nat}{S:St}(h:cT ks S)(q:Nat):(S.get q).mute ks=true:=by
 have key:∀(S:St) (s:List Nat) (m:Bool),cT ks S->(St.getS S q s m).mute ks=true:=by
  intro S
  induction S with
  |nil=>intros;rfl
  |cons x S ih=>
   intro s m h;obtain⟨k,v⟩:=x;simp only [St.getS];cases k.beq q with
   |false=>exact ih _ _ fun y hy=>h y (Zr _ hy)
   |true=>
    have hv:=h _ Zp;have cell:∀c:CV,(!(c.onKey ks||(ks.contains aC&&c.isBor)))=true->(!((c.stale s m).onKey ks||(ks.contains aC&&(c.stale s m).isBor)))=true:=by
     intro c hc
     grind [CV.stale_eq,CV.onKey,CV.isBor]
    simp only [jT];cases v with
    |none=>rfl
    |v g cs=>
     refine Zx.2 fun c hc=> ?_;obtain⟨c0,h0,rfl⟩:=Zk.1 hc;exact cell _ (Zx.1 hv c0 h0)
    |tup xs=>
     refine Zx.2 fun x hx=>Zx.2 fun c hc=> ?_;obtain⟨x0,hx0,rfl⟩:=Zk.1 hx;obtain⟨c0,h0,rfl⟩:=Zk.1 hc;exact cell _ (Zx.1 (Zx.1 hv x0 hx0) c0 h0)
 exact key S [] false h
theorem pC{b:Ups}{S:St}{q:Nat}{ks:List Nat}(h:q ∉ aG b)(hm:(S.get q).mute ks=true)(hk:∀k∈aG b,k∈ks):St.get (b++S) q=S.get q:=by
 obtain⟨s',m',h1,h2,h3⟩:=(j9 S q b [] false).2 h;rw [St.get,h3,St.getS_get];have h4:(S.get q).mapC (CV.stale s' m')=(S.get q).mapC (CV.stale ([]++aG b) (false||m')):=by
  congr 1
  grind [rA]
 rw [h4,xC hm hk (fun hm' =>by
  grind)]
 exact AV.mapC_id CV.stale_nil _
theorem fT{b:Ups}{S:St}{q:Nat}{ks:List Nat}(h:q ∉ aG b)(hm:cT ks S)(hk:∀k∈aG b,k∈ks):St.get (b++S) q=S.get q:=pC h (vQ hm q) hk
theorem lV{A:Ups}{S S' :St}{q:Nat}(h:S.get q=S'.get q):St.get (A++S) q=St.get (A++S') q:=by
 by_cases hq:q∈aG A
 ·grind [kC]
 ·obtain⟨s',m',h1,h2,h3⟩:=(j9 S q A [] false).2 hq;obtain⟨s2,m2,g1,g2,g3⟩:=(j9 S' q A [] false).2 hq;rw [St.get,St.get,h3,g3,St.getS_get,St.getS_get,h];have hm:m' =m2:=by grind
  subst hm
  congr 1
  grind [rA]
theorem vR{x y:Ups}{S:St}(hd:∀k∈aG x,k ∉ aG y)(hx:cT (aG y) x)(hy:cT (aG x) y)(hSx:cT (aG x) S)(hSy:cT (aG y) S)(q:Nat):
 St.get (x++(y++S)) q=St.get (y++(x++S)) q:=by
 have app:∀ {ks:List Nat} {a b:St},cT ks a->cT ks b->cT ks (a++b):=fun ha hb z hz=>by
  rcases Zf.1 hz with h|h
  ·exact ha z h
  ·exact hb z h
 by_cases h1:q∈aG x
 ·grind [kC,fT]
 ·rw [fT h1 (app hy hSx) (fun _ h=>h)];by_cases h2:q∈aG y
  ·grind [kC]
  ·rw [fT h2 hSy (fun _ h=>h),fT h2 (app hx hSy) (fun _ h=>h),fT h1 hSx (fun _ h=>h)]
theorem dO(blk:Nat->Ups)(i:Nat)(ord:List Nat):flat blk (i::ord)=blk i++flat blk ord:=by simp [flat]
theorem vA(blk:Nat->Ups)(x y:List Nat):flat blk (x++y)=flat blk x++flat blk y:=by simp [flat]
def Closed(ah:Nat->List Nat):List Nat->Prop
 | []=>True
 |i::rest=>(∀j∈ah i,j∈rest)/\i ∉ rest/\Closed ah rest
def Opn(n:Nat)(ah:Nat->List Nat)(j:Nat):Prop:=∃i,i<n/\i≠j/\i ∉ ah j/\j ∉ ah i
structure Commutes (n:Nat) (ah:Nat->List Nat) (blk:Nat->Ups) (rd:Nat->List Nat) (S:St):Prop where
 lt:∀i j,j∈ah i->j<i
 keys:∀i j,i<n->j<n->i≠j->i ∉ ah j->j ∉ ah i->∀k∈aG (blk i),k ∉ aG (blk j)
 reads:∀i j,i<n->j<n->i≠j->i ∉ ah j->j ∉ ah i->∀k∈rd i,k ∉ aG (blk j)
 mute:∀i j,i<n->j<n->i≠j->Opn n ah j->cT (aG (blk j)) (blk i)
 base:∀j,j<n->Opn n ah j->cT (aG (blk j)) S
section
variable {n:Nat} {ah:Nat->List Nat} {blk:Nat->Ups} {rd:Nat->List Nat} {S:St} (hc:Commutes n ah blk rd S)
include hc
theorem Commutes.mute_flat{j:Nat}(hj:j<n)(ho:Opn n ah j){ord:List Nat}(h:∀i∈ord,i<n/\i≠j):cT (aG (blk j)) (flat blk ord++S):=by
 induction ord with
 |nil=>simpa [flat] using hc.base j hj ho
 |cons i ord ih=>
  rw [dO,Z5];intro z hz;rcases Zf.1 hz with h1|h1
  ·exact hc.mute i j (h i Zp).1 hj (h i Zp).2 ho z h1
  ·exact ih (fun j hj=>h j (Zr _ hj)) z h1
omit hc in
theorem Closed.pair{ord:List Nat}(h:Closed ah ord):ord.Pairwise (fun x y=>x ∉ ah y)/\ord.Nodup/\∀i∈ord,∀j∈ah i,j∈ord:=by
 induction ord with
 |nil=>simp
 |cons i ord ih=>
  obtain⟨h1,h2,h3⟩:=h
  grind [List.pairwise_cons]
theorem Commutes.filter{i k:Nat}(hi:i<n)(hk:k∈rd i):∀ {ord:List Nat},ord.Nodup->(∀j∈ord,j<n/\j≠i/\i ∉ ah j)->
 St.get (flat blk ord++S) k=St.get (flat blk (ord.filter fun j=>(ah i).contains j)++S) k:=by
 intro ord
 induction ord with
 |nil=>grind
 |cons j ord ih=>
  intro hnd h;obtain⟨nd1,nd2⟩:=ZG.1 hnd;have h' :=fun j hj=>h j (Zr _ hj);obtain⟨h1,h2,h3⟩:=h j Zp;rw [dO,Z5];cases hj:(ah i).contains j with
  |true=>
   grind [dO,lV]
  |false=>
   rw [List.filter_cons_of_neg (by grind)];have hn:j ∉ ah i:=fun hm=>by grind
   rw [fT (ks:=aG (blk j)) (hc.reads i j hi h1 (Yn h2) h3 hn k hk) (hc.mute_flat h1 ⟨i,hi,Yn h2,h3,hn⟩ fun x hx=>⟨(h' x hx).1,fun e=>nd1 (e ▸ hx)⟩) (fun _ h=>h)]
   grind
theorem Commutes.front{x:Nat}(hx:x<n):∀ {Y1 Y2:List Nat},(Y1++x::Y2).Nodup->(∀y∈Y1,y<n/\y≠x/\y ∉ ah x/\x ∉ ah y)->(∀y∈Y2,y<n)->∀q,
 St.get (flat blk (Y1++x::Y2)++S) q=St.get (flat blk (x::(Y1++Y2))++S) q:=by
 intro Y1
 induction Y1 with
 |nil=>grind
 |cons y Y1 ih=>
  intro Y2 hnd h h2 q;obtain⟨nd1,nd2⟩:=ZG.1 hnd;obtain⟨_,nd3,nd4⟩:=Yz.1 nd2;have nd5:=(ZG.1 nd3).1;obtain⟨a1,a2,a3,a4⟩:=h y Zp;have h' :=fun z hz=>h z (Zr _ hz);have e1:St.get (flat blk (y::Y1++x::Y2)++S) q=St.get (blk y++(flat blk (x::(Y1++Y2))++S)) q:=by
   grind [dO,lV]
  have hin:∀z∈Y1++Y2,z<n/\z≠y/\z≠x:=fun z hz=>by
   grind
  have oy:Opn n ah y:=⟨x,hx,Yn a2,a4,a3⟩;have ox:Opn n ah x:=⟨y,a1,a2,a3,a4⟩
  rw [e1,dO,Z5,vR (hc.keys y x a1 hx a2 a3 a4) (hc.mute y x a1 hx a2 ox) (hc.mute x y hx a1 (Yn a2) oy)
   (hc.mute_flat a1 oy fun z hz=>⟨(hin z hz).1,(hin z hz).2.1⟩) (hc.mute_flat hx ox fun z hz=>⟨(hin z hz).1,(hin z hz).2.2⟩)]
  grind [dO]
theorem Commutes.perm:∀ {X Y:List Nat},X.Pairwise (fun x y=>x ∉ ah y)->Y.Pairwise (fun x y=>x ∉ ah y)->X.Nodup->Y.Nodup->(∀j,j∈X↔j∈Y)->(∀j∈X,j<n)->∀q,
 St.get (flat blk X++S) q=St.get (flat blk Y++S) q:=by
 intro X
 induction X with
 |nil=>
  intro Y _ _ _ _ h _ q;have:Y=[]:=Yp.2 fun j hj=>by grind
  grind
 |cons x X ih=>
  intro Y hX hY nX nY h hn q;obtain⟨Y1,Y2,rfl⟩:=List.append_of_mem ((h x).1 Zp);obtain⟨p1,p2⟩:=Z7.1 hX;obtain⟨n1,n2⟩:=ZG.1 nX;obtain⟨q1,q2,q3⟩:=List.pairwise_append.1 hY;obtain⟨q4,q5⟩:=Z7.1 q2;obtain⟨m1,m2,m3⟩:=Yz.1 nY;obtain⟨m4,m5⟩:=ZG.1 m2;have hmem:∀j,j∈X↔j∈Y1++Y2:=by
   grind
  have hY1:∀y∈Y1,y<n/\y≠x/\y ∉ ah x/\x ∉ ah y:=by
   grind
  have hY2:∀y∈Y2,y<n:=fun y hy=>hn y (Zr _ ((hmem y).2 (Y8 _ hy)));rw [hc.front (hn x Zp) nY hY1 hY2 q,dO,dO,Z5,Z5];refine lV (ih p2 ?_ n2 ?_ hmem (fun j hj=>hn j (Zr _ hj)) q)
  all_goals grind
theorem Commutes.read{i k:Nat}(hi:i<n)(hk:k∈rd i){X Y:List Nat}(hX:Closed ah X)(hY:Closed ah Y)(bX:∀j∈X,j<n)(bY:∀j∈Y,j<n)(iX:i ∉ X)(iY:i ∉ Y)
 (aX:∀j∈ah i,j∈X) (aY:∀j∈ah i,j∈Y):St.get (flat blk X++S) k=St.get (flat blk Y++S) k:=by
 have f:∀ {X:List Nat},Closed ah X->(∀j∈X,j<n)->i ∉ X->∀j∈X,j<n/\j≠i/\i ∉ ah j:=by
  intro X hX bX iX j hj;exact⟨bX j hj,fun e=>iX (e ▸ hj),fun h=>iX (hX.pair.2.2 j hj i h)⟩
 rw [hc.filter hi hk hX.pair.2.1 (f hX bX iX),hc.filter hi hk hY.pair.2.1 (f hY bY iY)];refine hc.perm (hX.pair.1.sublist Yk) (hY.pair.1.sublist Yk) (hX.pair.2.1.sublist Yk) (hY.pair.2.1.sublist Yk) (fun j=> ?_) (fun j hj=>bX j (Ym.1 hj).1) k
 grind
theorem Commutes.std(m:Nat):Closed ah (List.range m).reverse:=by
 induction m with
 |zero=>trivial
 |succ m ih=>
  rw [List.range_succ,List.reverse_append];refine⟨fun j hj=> ?_,?_,ih⟩
  ·have:=hc.lt m j hj
   simp_all
  ·simp
end
theorem RT.run_congr{α:Type}{g g' :Nat->AV}:∀t:RT α,(∀k∈t.log g,g' k=g k)->t.run g' =t.run g
 | .ret _,_=>rfl
 | .fail,_=>rfl
 | .rd k f,h=>by
   have h1:=h k Zp;simp only [RT.run,h1];exact RT.run_congr (f (g k)) fun k' hk=>h k' (Zr _ hk)
theorem nO:∀(ops:List Oper) (ps:List (List Nat)),∃s,dA ops ps=ps++s
 | [],ps=>⟨[],by simp [dA]⟩
 |o::r,ps=>by
  obtain⟨s,h⟩:=nO r (ps++ [(List.range ps.length).filter fun j=>o.after.toList.any fun e=>Region.binds .any e&&(e.on.beq j||((ps[e.on]?).getD []).contains j)])
  grind [dA]
theorem nN:∀(ops:List Oper) (ps:List (List Nat)),(dA ops ps).length=ps.length+ops.length
 | [],ps=>by simp [dA]
 |o::r,ps=>by rw [dA,nN];grind
theorem nM:∀(ops:List Oper) (ps:List (List Nat)) (m:Nat) (o:Oper),ops[m]? =some o->∃ps' s,dA ops ps=ps' ++s/\ps'.length=ps.length+m/\
 (dA ops ps)[ps.length+m]? =some ((List.range ps'.length).filter fun j=>o.after.toList.any fun e=>Region.binds .any e&&(e.on.beq j||((ps'[e.on]?).getD []).contains j))
 | [],ps,m,o,h=>by grind
 |o' ::r,ps,0,o,h=>by
  simp at h;subst h;obtain⟨s,hs⟩:=nO r (ps++ [(List.range ps.length).filter fun j=>o'.after.toList.any fun e=>Region.binds .any e&&(e.on.beq j||((ps[e.on]?).getD []).contains j)])
  grind [dA]
 |o' ::r,ps,m+1,o,h=>by
  obtain⟨ps',s,h1,h2,h3⟩:=nM r (ps++ [(List.range ps.length).filter fun j=>o'.after.toList.any fun e=>Region.binds .any e&&(e.on.beq j||((ps[e.on]?).getD []).contains j)]) m o (by grind)
  grind [dA]
def ahd(ops:Array Oper)(i:Nat):List Nat:=((b9 ops.toList)[i]?).getD []
theorem nL{ops:Array Oper}{i j:Nat}(h:j∈ahd ops i):j<i/\∃o,ops[i]? =some o/\∃e∈o.after.toList,Region.binds .any e=true/\(e.on=j\/j∈ahd ops e.on):=by
 unfold ahd at h;cases hi:ops.toList[i]? with
 |none=>
  grind [b9,nN]
 |some o=>
  obtain⟨ps',s,h1,h2,h3⟩:=nM ops.toList [] i o hi;simp only [jN,Zc] at h2 h3
  grind [b9,Nat.eq_of_beq_eq_true,ahd]
theorem iK{nt:Nat}{gs:List Nat}{o:Oper}{dc dc' :List (Nat×Bool)}{r r' :RS}{e:Option Eff×Ups}{blk:Ups}(h:dL nt gs o dc r e=some (dc',r',blk)):
 r'.σ=blk++r.σ/\(∀σ2,dL nt gs o dc ⟨σ2,r.bs,r.cs,r.ob⟩ e=some (dc',⟨blk++σ2,r'.bs,r'.cs,r'.ob⟩,blk))/\(∀p∈r.ob,p∈r'.ob)/\
 (∀y∈dc'.take (dc'.length - dc.length),o.dst=some y.1/\gs.contains y.1=true)/\(∀d,o.dst=some d->2*d∈aG blk):=by
 obtain⟨eff,ups⟩:=e;cases eff with
 |none=>
  simp only [dL] at h ⊢;split at h
  ·rename_i d hd;cases hc:(d.blt nt&&dc.all fun y=> !(d.beq y.1)) with
   |false=>grind
   |true=>
    rw [hc] at h;simp only [jT] at h;cases h
    grind [aG]
  simp_all
 |some eff=>
  obtain⟨v,owed⟩:=eff;simp only [dL] at h ⊢;cases hu:(ups.all fun x=>dc.all fun y=> !(x.1.beq (2*y.1))) with
  |false=>grind
  |true=>
   rw [hu] at h;simp only [jT] at h ⊢;split at h
   ·rename_i d hd;cases hc:(d.blt nt&&dc.all fun y=> !(d.beq y.1)) with
    |false=>grind
    |true=>
     rw [hc] at h;simp only [jT] at h;cases hg:gs.contains d with
     |false=>
      rw [hg] at h;cases h
      grind [aG]
     |true=>
      grind [aG,Nat.add_sub_cancel_left]
   ·rename_i hd;cases h
    grind
section
variable {C:Ctx} {a:Act} {tt:TT} {Q:Exit->Act->World->Prop} {nt:Nat} {ms:List (Nat×Md×Bool)} {ops:Array Oper} {gs:List Nat}
theorem qO:∀ {l:List Oper} {i:Nat} {dc:List (Nat×Bool)} {r r' :RS} {con:FuncId->List Arg->CallO->Prop},eK tt con nt ms ops gs l i dc r=some r' ->∀p∈r.ob,p∈r'.ob:=by
 intro l
 induction l with
 |nil=>grind [eK]
 |cons o l ih=>
  intro i dc r r' con h;simp only [eK] at h;split at h
  ·split at h
   ·split at h
    ·rename_i q hq;obtain⟨dc',r1,blk⟩:=q;exact fun p hp=>ih h p ((iK hq).2.2.1 p hp)
    grind
   grind
  grind
theorem yA(htt:aP C.P tt)(hnt:C.nt=nt):∀ {l:List Oper} {i:Nat} {dc:List (Nat×Bool)} {r r' :RS} {a:Act} {w:World},eK tt (AbsCalls C.P) nt ms ops gs l i dc r=some r' ->l=ops.toList.drop i->
 R C r.σ a w->DecOk r.σ dc->(∀p∈r'.ob,p)->(∀a' w',R C r'.σ a' w' ->Q .normal a' w')->wpOps C.P ops Q (List.range' i l.length) a w:=by
 intro l
 induction l with
 |nil=>
  intro i dc r r' a w h _ hR _ _ hQ;simp [eK] at h;subst h;exact hQ _ _ hR
 |cons o l ih=>
  intro i dc r r' a w h hl hR hdec hob hQ;simp only [eK] at h;split at h
  ·rename_i g hg;split at h
   ·rename_i e he;split at h
    ·rename_i q hq;obtain⟨dc',r1,blk⟩:=q;have hio:ops[i]? =some o:=by
      have:(ops.toList.drop i)[0]? =some o:=by grind
      grind
     have hl' :l=ops.toList.drop (i+1):=by
      rw [<-ZC,<-hl];rfl
     rw [jC,List.range'_succ,wpOps_cons];refine rC (r:=r) (r' :=r1) htt hio (g:=g) (by rw [hg];cases g <;>rfl) he hq hR hnt hdec (fun p hp=>hob p (qO h p hp)) fun a' w' hout=> ?_;exact ih h hl' hout.1 hout.2 hob hQ
    grind
   grind
  grind
end
theorem oZ(f:Nat->Ups)(m:Nat):flat f (List.range (m+1)).reverse=flat (fun j=>f (j+1)) (List.range m).reverse++f 0:=by
 rw [List.range_succ_eq_map,List.reverse_cons,vA]
 congr 1
 ·unfold flat;rw [<-List.map_reverse,Yi]
  rfl
 grind [flat]
section
variable {tt:TT} {nt:Nat} {ms:List (Nat×Md×Bool)} {ops:Array Oper} {gs:List Nat} {ah:List (List Nat)} {con:FuncId->List Arg->CallO->Prop}
theorem qN:∀ {l:List Oper} {i:Nat} {dc:List (Nat×Bool)} {r r' :RS} {lg:List Log},f8 tt con nt ms ops gs ah l i dc r=some (r',lg)->
 lg.length=l.length/\(∀p∈r.ob,p∈r'.ob)/\r'.σ=flat (aM lg) (List.range l.length).reverse++r.σ/\
 ∀m,m<l.length->∃(o:Oper) (g:Option (Nat×Bool)) (dcm:List (Nat×Bool)) (rm:RS) (e:Option Eff×Ups) (q:List (Nat×Bool)×RS×Ups),l[m]? =some o/\dW ops o=some g/\
  (opM tt con (bU ms (i+m)) o g (cW ops ((ah[i+m]?).getD []) dcm) (cQ o rm) []).run rm.σ.get=some e/\dL nt gs o (cW ops ((ah[i+m]?).getD []) dcm) rm e=some q/\
  rm.σ=flat (aM lg) (List.range m).reverse++r.σ/\
  aZ lg m=((opM tt con (bU ms (i+m)) o g (cW ops ((ah[i+m]?).getD []) dcm) (cQ o rm) []).log rm.σ.get,q.2.2,q.1.take (q.1.length - (cW ops ((ah[i+m]?).getD []) dcm).length))/\
  (∀p∈q.2.1.ob,p∈r'.ob)/\(∀y∈dcm,y∈dc\/∃m',m' <m/\y∈(aZ lg m').2.2):=by
 intro l
 induction l with
 |nil=>
  grind [f8,flat]
 |cons o l ih=>
  intro i dc r r' lg h;simp only [f8] at h;split at h
  ·rename_i g hg;split at h
   ·rename_i e he;split at h
    ·rename_i q hq;split at h
     ·rename_i r1 lg1 hrest;cases h;obtain⟨i1,i2,i3,i4⟩:=ih hrest;obtain⟨dc',r2,blk⟩:=q;have hs:=iK hq;refine⟨by grind,fun p hp=>i2 p (hs.2.2.1 p hp),?_,fun m hm=> ?_⟩
      ·rw [jC,oZ,i3];show flat (aM lg1) _++r2.σ=_;rw [hs.1,Z5]
       rfl
      ·cases m with
       |zero=>exact⟨o,g,dc,r,e,(dc',r2,blk),rfl,hg,he,hq,by simp [flat],rfl,i2,fun y hy=> .inl hy⟩
       |succ m=>
        obtain⟨o1,g1,dcm,rm,e1,q1,j1,j2,j3,j4,j5,j6,j7,j8⟩:=i4 m (by grind);have hi:i+1+m=i+(m+1):=by omega
        rw [hi] at j3 j4 j6;refine⟨o1,g1,dcm,rm,e1,q1,by simpa using j1,j2,j3,j4,?_,j6,j7,fun y hy=> ?_⟩
        ·rw [oZ,j5];show flat (aM lg1) _++r2.σ=_;rw [hs.1,Z5]
         rfl
        ·rcases j8 y hy with h|⟨m',h1,h2⟩
         ·rcases Zf.1 h with h|h
          ·exact .inr ⟨0,Nat.succ_pos m,h⟩
          ·exact .inl h
         ·exact .inr ⟨m' +1,by omega,h2⟩
     grind
    grind
   grind
  grind
end
theorem R.drew{C:Ctx}{σ:St}{a:Act}{w w' :World}(h:R C σ a w)(h1:w'.heap=w.heap)(h2:w'.os=w.os)(h3:w'.tape=w.tape)(h4:w'.output=w.output):R C σ a w' :=by
 obtain⟨hd,E,rfl,hi⟩:=h
 have hst:Step E { E with w:=w' } (fun _ _=>False) (fun _=>False) False:= {
  ro:=fun b hb=>⟨fun _=>hb,fun o ho=>⟨bD (by rw [h1]) o,ho⟩⟩
  own:=fun b k c p hb _=>⟨hb,rfl,by grind⟩
  bor:=fun _ b o ho=>⟨bD (by rw [h1]) o,ho⟩
  box:=fun s hs _=>⟨rfl,hs,by grind⟩
  hdr:=rfl }
 have cw:∀(pl:Pl) (c:Nat) (x:CV),CW (fun _ _=>False) False pl c x x:=fun pl c x=> .inr ⟨rfl,fun _ h=>h,fun _ _ _ h=>h,fun _ h=>h⟩
 refine⟨hd,{ E with w:=w' },rfl,hi.step hst h2 h3 h4 (by grind) (fun b hlt h0=>⟨by grind,rfl,(hi.old b hlt h0).2.2⟩)
  (fun b hb=>hi.new b (by grind)) hi.inj hi.boxhw rfl (fun s hs=>⟨hs,rfl⟩) (fun t=> .inr ⟨?_,rfl⟩) (fun s cs' hs=> .inr ⟨fun h=>h,cs',hs,?_⟩)⟩
 ·have:=AWk.map (dk:=fun _ _=>False) (mu:=False) (pl:= .k (2*t)) (f:=id) (fun c z=>cw _ c z) (σ.get (2*t))
  grind [AV.mapC_id]
 ·have:=CWs.map (dk:=fun _ _=>False) (mu:=False) (pl:= .k (2*s+1)) (f:=id) (fun c z=>cw _ c z) cs' 0
  simp_all
theorem R.congr{C:Ctx}{σ σ' :St}{a:Act}{w:World}(h:∀q,σ.get q=σ'.get q)(hR:R C σ a w):R C σ' a w:=by
 have:σ.get=σ'.get:=funext h
 grind [R]
theorem jP{x y:List Nat}(h:gW x y=true):∀k∈x,k ∉ y:=by
 grind [gW]
theorem mM:∀(n:Nat) (l:List Nat),l.Nodup->(∀x∈l,x<n)->l.length<=n
 |0,l,_,h=>by
  cases l with
  |nil=>simp
  |cons x l=>grind [List.mem_cons_self]
 |n+1,l,hn,h=>by
  by_cases hm:n∈l
  ·obtain⟨a,b,rfl⟩:=List.append_of_mem hm;obtain⟨m1,m2,m3⟩:=Yz.1 hn;obtain⟨m4,m5⟩:=ZG.1 m2;have:=mM n (a++b) (Yz.2 ⟨m1,m5,fun x hx y hy=>m3 x hx y (Zr _ hy)⟩) fun x hx=>by
    have h1:x<n+1:=h x (by
     grind)
    grind
   grind
  ·have:=mM n l hn fun x hx=>by
    grind
   omega
theorem vK{listed:Array Bool}{i:Nat}{d:Bool}(h:i<listed.size):(listed.setIfInBounds i true).getD i d=true:=by
 simp_all
section
variable {C:Ctx} {tt:TT} {Q:Exit->Act->World->Prop} {nt:Nat} {ms:List (Nat×Md×Bool)} {ops:Array Oper} {gs:List Nat}
omit [Inhabited Lb] in
theorem xB{ks ks' :List Nat}(hk:∀k∈ks',k∈ks){a:AV}(h:a.mute ks=true):a.mute ks' =true:=by
 have cell:∀c:CV,(!(c.onKey ks||(ks.contains aC&&c.isBor)))=true->(!(c.onKey ks' ||(ks'.contains aC&&c.isBor)))=true:=by
  intro c hc;have con:∀k,ks'.contains k=true->ks.contains k=true:=fun k h=>Z2.2 (hk k (Z2.1 h));simp only [ZF,ZL] at hc ⊢;refine⟨?_,?_⟩
  ·cases h2:c.onKey ks' with
   |false=>rfl
   |true=>
    exfalso;have:c.onKey ks=true:=by
     cases c with
     |sl f T xs=>cases f <;>first |exact con _ h2|cases h2
     |eref k c p i T x off=>exact con _ h2
     |apd k c p T xs=>exact con _ h2
     |_=>cases h2
    grind
  grind
 cases a with
 |none=>rfl
 |v g cs=>exact Zx.2 fun c hc=>cell c (Zx.1 h c hc)
 |tup xs=>exact Zx.2 fun x hx=>Zx.2 fun c hc=>cell c (Zx.1 (Zx.1 h x hx) c hc)
theorem lN{rd:Nat->List Nat}{lg:List Log}{σ:St}(h:dJ ops gs rd lg σ=true):Commutes ops.size (ahd ops) (aM lg) rd σ:=by
 simp only [dJ,Zu] at h;obtain⟨⟨⟨⟨h1,h2⟩,h3⟩,h4⟩,h5⟩:=h;have hp:∀i j,i<j->j<ops.size->i ∉ ahd ops j->(i,j)∈fC (b9 ops.toList) ops.size:=by
  intro i j hij hj hn;refine ZJ.2 ⟨j,ZI.2 hj,Zk.2 ⟨i,Ym.2 ⟨ZI.2 hij,?_⟩,rfl⟩⟩;cases hc:(((b9 ops.toList)[j]?).getD []).contains i with
  |false=>rfl
  |true=>exact absurd (Z2.1 hc) hn
 have hpair:∀i j,i<ops.size->j<ops.size->i≠j->i ∉ ahd ops j->j ∉ ahd ops i->((i,j)∈fC (b9 ops.toList) ops.size\/(j,i)∈fC (b9 ops.toList) ops.size):=by
  grind
 have hopn:∀j,j<ops.size->Opn ops.size (ahd ops) j->j∈qC (fC (b9 ops.toList) ops.size):=by
  rintro j hj ⟨i,hi,hne,a1,a2⟩;rcases hpair i j hi hj hne a1 a2 with hm|hm
  ·exact ZJ.2 ⟨_,hm,by simp⟩
  ·exact ZJ.2 ⟨_,hm,by simp⟩
 have hkeys:∀j,j<ops.size->Opn ops.size (ahd ops) j->∀k∈aG (aM lg j),k∈qD lg (fC (b9 ops.toList) ops.size):=by
  rintro j hj ⟨i,hi,hne,a1,a2⟩ k hk;rcases hpair i j hi hj hne a1 a2 with hm|hm
  ·exact ZJ.2 ⟨_,hm,Y8 _ hk⟩
  ·exact ZJ.2 ⟨_,hm,List.mem_append_left _ hk⟩
 refine⟨fun i j h=>(nL h).1,fun i j hi hj hne a1 a2 k hk=> ?_,fun i j hi hj hne a1 a2 k hk=> ?_,fun i j hi hj hne ho x hx=> ?_,fun j hj ho x hx=>xB (hkeys j hj ho) (Zx.1 h2 x hx)⟩
 ·have h0:=hpair i j hi hj hne a1 a2;have h9:=fun p hm=>Zx.1 h1 p hm;simp only [Zu] at h9;rcases h0 with hm|hm
  ·exact jP (h9 _ hm).1.1 k hk
  ·exact fun hk' =>jP (h9 _ hm).1.1 k hk' hk
 ·have h0:=hpair i j hi hj hne a1 a2;have h9:=fun p hm=>Zx.1 h1 p hm;simp only [Zu] at h9;rcases h0 with hm|hm
  ·exact jP (h9 _ hm).1.2 k hk
  ·exact jP (h9 _ hm).2 k hk
 ·have g1:=Zx.1 h3 i (ZI.2 hi);have g2:=Zx.1 g1 j (hopn j hj ho);rw [Yv] at g2;rcases g2 with g2|g2
  ·simp_all
  ·exact Zx.1 g2 x hx
def iV(C:Ctx)(tt:TT)(ms:List (Nat×Md×Bool))(ops:Array Oper)(lg:List Log)(σ:St):Prop:=
 ∀ {i:Nat} {o:Oper} {g:Option (Nat×Bool)} {dcm:List (Nat×Bool)} {rm:RS} {e:Option Eff×Ups} {ord:List Nat},i<ops.size->ops[i]? =some o->dW ops o=some g->
   (opM tt (AbsCalls C.P) (bU ms i) o g dcm (cQ o rm) []).run rm.σ.get=some e->rm.σ=flat (aM lg) (List.range i).reverse++σ->
   rdL lg i=(opM tt (AbsCalls C.P) (bU ms i) o g dcm (cQ o rm) []).log rm.σ.get->
   Closed (ahd ops) ord->(∀j∈ord,j<ops.size)->i ∉ ord->(∀j∈ahd ops i,j∈ord)->
   (opM tt (AbsCalls C.P) (bU ms i) o g dcm (cQ o rm) []).run (St.get (flat (aM lg) ord++σ))=some e
theorem yV{lg:List Log}{σ:St}(hok:dJ ops gs (rdL lg) lg σ=true):iV C tt ms ops lg σ:=by
 have hc:=lN hok;intro i o g dcm rm e ord hin ho hg h1 h2 h3 hcl hord hni hah;rw [<-h1];refine RT.run_congr _ fun k hk=> ?_;rw [h2];refine hc.read hin (by rw [h3];exact hk) hcl (hc.std i) hord (fun j hj=> ?_) hni (by simp) hah (fun j hj=> ?_)
 ·grind
 ·simp;exact hc.lt i j hj
theorem oI{blk:Nat->Ups}{S:St}{j k n:Nat}(hj:k∈aG (blk j))(h:∀x,x<n->x≠j->k ∉ aG (blk x)/\(S.get k).mute (aG (blk x))=true/\(St.get (blk j++S) k).mute (aG (blk x))=true):
 ∀ {ord:List Nat},(∀x∈ord,x<n)->St.get (flat blk ord++S) k=S.get k\/St.get (flat blk ord++S) k=St.get (blk j++S) k:=by
 intro ord
 induction ord with
 |nil=>exact fun _=> .inl rfl
 |cons x ord ih=>
  intro hb;rw [dO,Z5];by_cases hx:x=j
  ·subst hx;exact .inr (kC hj)
  ·obtain⟨h1,h2,h3⟩:=h x (hb x Zp) hx;have i1:=ih fun y hy=>hb y (Zr _ hy);have hm:(St.get (flat blk ord++S) k).mute (aG (blk x))=true:=by
    rcases i1 with e|e <;>rw [e] <;>assumption
   rw [pC h1 hm fun _ h=>h];exact i1
theorem wQ{con:FuncId->List Arg->CallO->Prop}{md:Md×Bool}{o:Oper}(h:iB o.op=true)(dc:List (Nat×Bool))(r:RS):opM tt con md o none dc (cQ o r) []=opM tt con md o none [] none []:=by
 unfold iB at h;split at h
 ·rename_i a b he;simp only [opM,kM,f7,he]
 ·cases h
theorem yT{x y:Option (Option Eff×Ups)}{p:Prop}(h:mX x y=some p)(hp:p):x=y:=by
 unfold mX at h;split at h
 ·split at h
  ·rename_i hk;cases h;rw [hk,hp]
  ·cases h
 ·cases h
theorem yU{lg:List Log}{σ:St}{i0 j0 k0:Nat}{o0:Oper}{ps:List Prop}(ho0:ops[i0]? =some o0)(hl:iB o0.op=true)(hgd:o0.guard.isNone=true)
 (h:lQ ops gs lg σ i0 j0 k0 (opM tt (AbsCalls C.P) (bU ms i0) o0 none [] none [])=some ps) (hps:∀p∈ps,p):∃rd,dJ ops gs rd lg σ=true/\iV C tt ms ops lg σ:=by
 unfold lQ at h;generalize ht:opM tt (AbsCalls C.P) (bU ms i0) o0 none [] none []=t at h;generalize hg0:St.get (flat (aM lg) (List.range i0).reverse++σ)=g0 at h;generalize hL:jX (t.log (exV k0 g0 (σ.get k0))++t.log (exV k0 g0 (St.get (aM lg j0++σ) k0))) lg i0 k0=rd at h;cases hb:(dJ ops gs rd lg σ&&(List.range ops.size).all (fun x=>x.beq j0||(!(aZ lg x).keys.contains k0&&(σ.get k0).mute (aZ lg x).keys&&(St.get (aM lg j0++σ) k0).mute (aZ lg x).keys))&&(aZ lg j0).keys.contains k0) with
 |false=>rw [hb] at h;cases h
 |true=>
  rw [hb] at h;simp only [jT,Zi] at h;obtain⟨p,hs,rfl⟩:=h;have heq:=yT hs (hps p Zp);simp only [Zu] at hb;obtain⟨⟨hok,hall⟩,hjk⟩:=hb;have hc:=lN hok;have hk:k0∈aG (aM lg j0):=Z2.1 hjk;have hx:∀x,x<ops.size->x≠j0->k0 ∉ aG (aM lg x)/\(σ.get k0).mute (aG (aM lg x))=true/\(St.get (aM lg j0++σ) k0).mute (aG (aM lg x))=true:=by
   intro x hx hne;have h1:=Zx.1 hall x (ZI.2 hx);simp only [Yv,Zu,ZF] at h1;rcases h1 with h1|h1
   ·exact absurd (Zj h1) hne
   ·refine⟨fun hm=> ?_,h1.1.2,h1.2⟩;have h2:(aZ lg x).keys.contains k0=true:=Z2.2 hm;rw [h2] at h1;cases h1.1.1
  refine⟨rd,hok,?_⟩;intro i o g dcm rm e ord hin ho hg h1 h2 h3 hcl hord hni hah;by_cases hi:i=i0
  ·subst hi;rw [ho0] at ho;cases ho;have hg' :g=none:=by
    unfold dW at hg;cases hgg:o0.guard with
    |none=>rw [hgg] at hg;cases hg;rfl
    |some _=>rw [hgg] at hgd;cases hgd
   subst hg';rw [wQ hl,ht] at h1 ⊢;rw [h2,hg0] at h1;have hstd:=oI hk hx (ord:=(List.range i).reverse) (by simp;omega);have hord' :=oI hk hx hord;rw [hg0] at hstd;have hst:∀v,(v=σ.get k0\/v=St.get (aM lg j0++σ) k0)->t.run (exV k0 g0 v)=some e:=by
    have e1:exV k0 g0 (g0 k0)=g0:=funext fun q=>by
     unfold exV;cases hq:q.beq k0 with
     |true=>rw [Zj hq];rfl
     |false=>rfl
    have e2:t.run (exV k0 g0 (g0 k0))=some e:=by rw [e1];exact h1
    intro v hv;rcases hstd with e3|e3 <;>rcases hv with rfl|rfl <;>rw [e3] at e2
    ·exact e2
    ·rw [<-heq];exact e2
    ·rw [heq];exact e2
    ·exact e2
   rw [<-hst _ hord'];refine RT.run_congr _ fun q hq=> ?_;unfold exV;cases hqk:q.beq k0 with
   |true=>rw [Zj hqk];rfl
   |false=>
    show St.get (flat (aM lg) ord++σ) q=g0 q;rw [<-hg0];refine hc.read hin ?_ hcl (hc.std i) hord (fun j hj=> ?_) hni (by simp) hah (fun j hj=> ?_)
    ·rw [<-hL];unfold jX;rw [Nat.beq_refl];refine Ym.2 ⟨Zf.2 ?_,by rw [hqk];rfl⟩;rcases hord' with e4|e4 <;>rw [e4] at hq
     ·exact .inl hq
     ·exact .inr hq
    ·grind
    ·simp;exact hc.lt i j hj
  ·rw [<-h1];refine RT.run_congr _ fun k hk=> ?_;rw [h2];refine hc.read hin ?_ hcl (hc.std i) hord (fun j hj=> ?_) hni (by simp) hah (fun j hj=> ?_)
   ·rw [<-hL];unfold jX;cases hb:i.beq i0 with
    |true=>exact absurd (Zj hb) hi
    |false=>rw [jF,h3];exact hk
   ·grind
   ·simp;exact hc.lt i j hj
theorem t8{lg:List Log}{σ:St}{ps:List Prop}(h:jR tt (AbsCalls C.P) ms ops gs lg σ=some ps)(hps:∀p∈ps,p):∃rd,dJ ops gs rd lg σ=true/\iV C tt ms ops lg σ:=by
 unfold jR at h;cases hb:dJ ops gs (rdL lg) lg σ with
 |true=>exact⟨_,hb,yV hb⟩
 |false=>
  rw [hb] at h;simp only [jF] at h;split at h
  ·split at h
   ·rename_i o ho;cases hq:(iB o.op&&o.guard.isNone) with
    |true=>
     rw [hq] at h;simp only [Zu] at hq;exact yU ho hq.1 hq.2 h hps
    |false=>rw [hq] at h;cases h
   ·cases h
  ·cases h
theorem tZ(htt:aP C.P tt)(hnt:C.nt=nt){r r' :RS}{lg:List Log}{a:Act}{w:World}{ps:List Prop}(h:f8 tt (AbsCalls C.P) nt ms ops gs (b9 ops.toList) ops.toList 0 [] r=some (r',lg))
 (hok:jR tt (AbsCalls C.P) ms ops gs lg r.σ=some ps) (hps:∀p∈ps,p) (hR:R C r.σ a w) (hob:∀p∈r'.ob,p) (hQ:∀a' w',R C r'.σ a' w' ->Q .normal a' w'):
 wpAny C.P .any ops Q ops.size (Array.replicate ops.size false) a w:=by
 obtain⟨rd,hok,hsame⟩:∃rd,dJ ops gs rd lg r.σ=true/\iV C tt ms ops lg r.σ:=t8 hok hps;have hc:=lN hok;obtain⟨s1,s2,s3,s4⟩:=qN h;simp only [Array.length_toList,Zc] at s1 s3 s4;simp only [dJ,Zu] at hok;obtain⟨⟨_,hedge⟩,huniq⟩:=hok;have hedge:∀(i:Nat) (o:Oper),ops[i]? =some o->∀e∈o.after.toList,Region.binds .any e=true->e.on<i:=by
  intro i o hi e he hb;have hm:(o,i)∈ops.toList.zipIdx:=by
   grind
  have h1:=Zx.1 hedge (o,i) hm;rw [Array.all_eq_true_iff_forall_mem] at h1;have h2:=h1 e (by grind);simp only [hb,jU,Bool.false_or] at h2;exact Nat.blt_eq.mp h2
 have huniq:∀(i j d:Nat) (o:Oper),ops[i]? =some o->o.dst=some d->gs.contains d=true->j<ops.size->i≠j->2*d ∉ aG (aM lg j):=by
  intro i j d o hi hd hg hj hne hm;have hin:i<ops.size:=(Zb.1 hi).1;have h1:=Zx.1 huniq i (ZI.2 hin);simp only [hi,jS,hd,hg,jT] at h1;have h2:=Zx.1 h1 j (ZI.2 hj);rw [Yv] at h2;rcases h2 with h2|h2
  ·grind [Nat.eq_of_beq_eq_true]
  ·have:(aZ lg j).keys.contains (2*d)=true:=Z2.2 hm
   grind
 have main:∀(fuel:Nat) (listed:Array Bool) (ord:List Nat) (a:Act) (w:World),listed.size=ops.size->Closed (ahd ops) ord->(∀i,i∈ord↔i<ops.size/\listed.getD i true=true)->ord.length+fuel=ops.size->
  R C (flat (aM lg) ord++r.σ) a w->(∀j∈ord,∀y∈(aZ lg j).2.2,∀b,St.get (flat (aM lg) ord++r.σ) (2*y.1)= .v false [.bool b]->b=y.2)->wpAny C.P .any ops Q fuel listed a w:=by
  have done:∀(listed:Array Bool) (ord:List Nat) (a:Act) (w:World),listed.size=ops.size->Closed (ahd ops) ord->(∀i,i∈ord↔i<ops.size/\listed.getD i true=true)->R C (flat (aM lg) ord++r.σ) a w->
   (∀i,i<ops.size->i∈ord)->Q .normal a w:=by
   intro listed ord a w hsz hcl hm hR hall;refine hQ a w (R.congr (fun q=> ?_) hR);rw [s3];refine hc.perm hcl.pair.1 (hc.std ops.size).pair.1 hcl.pair.2.1 (hc.std ops.size).pair.2.1 (fun j=> ?_) (fun j hj=>((hm j).1 hj).1) q
   grind
  have rdy:∀(listed:Array Bool) (ord:List Nat),listed.size=ops.size->Closed (ahd ops) ord->(∀i,i∈ord↔i<ops.size/\listed.getD i true=true)->Region.ready .any ops listed=[]->∀i,i<ops.size->i∈ord:=by
   intro listed ord hsz hcl hm hr i
   induction i using Nat.strongRecOn with
   |_ i ih=>
    intro hi;refine YQ fun hn=> ?_;have hio:=YP hi;have:i∈Region.ready .any ops listed:=by
     grind [mem_ready]
    grind
  intro fuel
  induction fuel with
  |zero=>
   intro listed ord a w hsz hcl hm hlen hR hdec;have hall:∀i,i<ops.size->i∈ord:=by
    intro i hi;refine YQ fun hn=> ?_;have hnd:(i::ord).Nodup:=ZG.2 ⟨hn,hcl.pair.2.1⟩;have:=mM ops.size (i::ord) hnd fun j hj=>by
     grind
    grind
   refine⟨?_,done listed ord a w hsz hcl hm hR hall⟩;rw [Yp]
   grind [mem_ready]
  |succ fuel ih=>
   intro listed ord a w hsz hcl hm hlen hR hdec;refine⟨fun hr=>done listed ord a w hsz hcl hm hR (rdy listed ord hsz hcl hm hr),fun i hi=> ?_⟩;obtain⟨h0,o',ho',hedges⟩:=mem_ready.1 hi;have hin:i<ops.size:=(Zb.1 ho').1;have hni:i ∉ ord:=fun h=>by grind
   have hord:∀j∈ord,j<ops.size:=fun j hj=>((hm j).1 hj).1;have hah:∀j∈ahd ops i,j∈ord:=by
    intro j hj;obtain⟨_,o2,ho2,e,he,hb,hd⟩:=nL hj;rw [ho'] at ho2;cases ho2;have hlt:=hedge i _ ho' e he hb;have hl:=hedges e (by grind) hb;have hs:e.on<listed.size:=by omega
    have he2:e.on∈ord:=(hm e.on).2 ⟨by omega,by grind⟩;rcases hd with rfl|hd
    ·grind
    ·exact hcl.pair.2.2 _ he2 _ hd
   obtain⟨o,g,dcm,rm,e,q,j1,j2,j3,j4,j5,j6,j7,j8⟩:=s4 i hin
   have hoo:ops[i]? =some o:=by grind
   obtain⟨dc',r2,blk⟩:=q;obtain⟨p1,p2,p3,p4,p5⟩:=iK j4;have hblk:aM lg i=blk:=by grind [aM]
   have hown:(aZ lg i).2.2=dc'.take (dc'.length - (cW ops (((b9 ops.toList)[i]?).getD []) dcm).length):=by rw [j6]
   have hrd:(aZ lg i).1=(opM tt (AbsCalls C.P) (bU ms i) o g (cW ops (((b9 ops.toList)[i]?).getD []) dcm) (cQ o rm) []).log rm.σ.get:=by rw [j6]
   have who:∀j,j<ops.size->∀y∈(aZ lg j).2.2,∃oj,ops[j]? =some oj/\oj.dst=some y.1/\gs.contains y.1=true:=by
    intro j hj y hy;obtain⟨oj,gj,dcj,rj,ej,qj,k1,k2,k3,k4,k5,k6,k7,k8⟩:=s4 j hj;obtain⟨dcj',rj2,blkj⟩:=qj;rw [k6] at hy;obtain⟨h1,h2⟩:=(iK k4).2.2.2.1 y hy
    grind
   have hwrites:∀j oj d,ops[j]? =some oj->oj.dst=some d->2*d∈aG (aM lg j):=by
    intro j oj d hj hd;obtain⟨oj',gj,dcj,rj,ej,qj,k1,k2,k3,k4,k5,k6,k7,k8⟩:=s4 j (Zb.1 hj).1;obtain⟨dcj',rj2,blkj⟩:=qj;have:oj' =oj:=by
     grind
    subst this;have:=(iK k4).2.2.2.2 d hd
    grind [aM]
   have hdecF:DecOk (flat (aM lg) ord++r.σ) (cW ops (((b9 ops.toList)[i]?).getD []) dcm):=by
    refine⟨fun y hy b hb=> ?_⟩;obtain⟨hy1,hy2⟩:=Ym.1 hy;obtain⟨j,hj,hjd⟩:=Yo.1 hy2;have hjo:=hah j hj;cases hoj:ops[j]? with
    |none=>grind
    |some oj=>
     rw [hoj] at hjd;simp only [jS] at hjd;cases hd:oj.dst with
     |none=>grind
     |some dd=>
      rw [hd] at hjd;simp only at hjd;have hjd:=Zj hjd;subst hjd;rcases j8 y hy1 with h|⟨m',hm',hym⟩
      ·cases h
      ·obtain⟨om,hom,homd,hgm⟩:=who m' (by omega) y hym
       grind
   have hrun:(opM tt (AbsCalls C.P) (bU ms i) o g (cW ops (((b9 ops.toList)[i]?).getD []) dcm) (cQ o rm) []).run (St.get (flat (aM lg) ord++r.σ))=some e:=by
    refine hsame hin hoo j2 j3 j5 (by grind [rdL]) hcl hord hni hah
   refine rC (r:=⟨flat (aM lg) ord++r.σ,rm.bs,rm.cs,rm.ob⟩) htt hoo (g:=g) (by rw [j2];cases g <;>rfl) hrun (p2 _) hR hnt hdecF (fun p hp=>hob p (j7 p hp)) fun a' w' hout=> ?_;have hsz2:(listed.setIfInBounds i true).size=ops.size:=by grind
   have hil:i<listed.size:=by omega
   have hfl:flat (aM lg) (i::ord)++r.σ=blk++(flat (aM lg) ord++r.σ):=by grind [dO]
   refine ih _ (i::ord) a' w' hsz2 ⟨hah,hni,hcl⟩ (fun j=> ?_) (by grind) (by rw [hfl];exact hout.1) (fun j hj y hy b hb=> ?_)
   ·by_cases hji:j=i
    ·subst hji;simp [hin,vK hil]
    ·rw [getD_set_ne _ (Yn hji),<-hm j]
     grind
   ·rw [hfl] at hb;rcases Zh.1 hj with rfl|hj
    ·exact hout.2.dec y (ZM (by rw [<-hown];grind)) b hb
    ·obtain⟨oj,hoj,hdj,hgj⟩:=who j (hord j hj) y hy;have hne:j≠i:=fun e=>hni (e ▸ hj);refine hdec j hj y hy b (kB (u:=blk) (fun x hx e=> ?_) hb);refine huniq j i y.1 oj hoj hdj hgj hin hne ?_;rw [hblk];exact Zk.2 ⟨x,hx,e⟩
 refine main ops.size _ [] a w (by simp) trivial (fun i=> ?_) (by simp) (by grind [flat]) (by simp);constructor
 ·grind
 ·rintro ⟨h1,h2⟩;simp [Array.getD,h1] at h2
end
def kR(tmps:Array Value):ResultVar->Sem Value
 | .tmp t=>pure (tmps.getD t undef)
 | .cell a t=>do loadVar t (<-asAddr (tmps.getD a undef))
theorem wU{P:Program}{w:World}{α β:Type}{f:α->Sem β}:∀ {l:List α} {vs:List β},l.length=vs.length->(∀(i:Nat) (x:α) (v:β),l[i]? =some x->vs[i]? =some v->(f x).run P w= .ok v w)->(l.mapM f).run P w= .ok vs w:=by
 intro l
 induction l with
 |nil=>
  intro vs h _;cases vs with
  |nil=>rfl
  |cons v vs=>grind
 |cons x l ih=>
  intro vs h hv;cases vs with
  |nil=>grind
  |cons v vs=>
   have h1:=hv 0 x v rfl rfl;have h2:=ih (vs:=vs) (by grind) fun i y u hy hu=>hv (i+1) y u (by grind) (by grind)
   simp_all
def nA:List Value->Value
 | [v]=>v
 |vs=> .tuple vs.toArray
theorem qS{P:Program}{w:World}{fn:Func}{rs:List ResultVar}{tmps:Array Value}{vs:List Value}(h:fn.results.toList=rs)(hl:rs.length=vs.length)
 (hv:∀(i:Nat) (x:ResultVar) (v:Value),rs[i]? =some x->vs[i]? =some v->(kR tmps x).run P w= .ok v w):
 (results fn tmps).run P w= .ok (nA vs) w:=by
 have e:fn.results=rs.toArray:=by grind
 have:(results fn tmps)=(do
  let vs <-fn.results.mapM (kR tmps)
  pure (if h:vs.size=1 then vs[0] else .tuple vs)):=by
  unfold results
  congr 1
 rw [this,Sem.run_bind,e,Array.mapM_eq_mapM_toList,map_eq_pure_bind,Sem.run_bind,wU hl hv];simp only [Result.andThen_ok,Sem.run_pure]
 match vs with
 | []=>rfl
 | [v]=>rfl
 |a::b::c=>rfl
def eM:Nat->List (Nat×Bool×List CV)->Own->Own->Prop
 |_,[],_,_=>False
 |off,x::xs,l,l' =>(∃c p,c<x.2.2.length/\l= .arr (.k x.1) c p/\l' = .arr (.h 0) (off+c) p)\/eM (off+x.2.2.length) xs l l'
theorem eN:∀ {xs:List (Nat×Bool×List CV)} {off:Nat} {l l' :Own},eM off xs l l' ->∃q c p c',q∈xs.map (fun x=>x.1)/\l= .arr (.k q) c p/\l' = .arr (.h 0) c' p/\off<=c'
 | [],_,_,_,h=>h.elim
 |x::xs,off,l,l',h=>by
  rcases h with ⟨c,p,h1,rfl,rfl⟩|h
  ·grind
  ·obtain⟨q,c,p,c',h1,h2,h3,h4⟩:=eN h
   grind
theorem qP:∀ {xs:List (Nat×Bool×List CV)} {off:Nat} {l a b:Own},bA (xs.map fun x=>x.1)=true->eM off xs l a->eM off xs l b->a=b
 | [],_,_,_,_,_,h,_=>h.elim
 |x::xs,off,l,a,b,hn,ha,hb=>by
  obtain⟨n1,n2⟩:=iJ hn;rcases ha with ⟨c,p,h1,rfl,rfl⟩|ha <;>rcases hb with ⟨c',p',h1',e,rfl⟩|hb
  ·grind
  ·grind [eN]
  ·grind [eN]
  ·exact qP n2 ha hb
theorem qQ:∀ {xs:List (Nat×Bool×List CV)} {off:Nat} {l a b:Own},eM off xs a l->eM off xs b l->a=b
 | [],_,_,_,_,h,_=>h.elim
 |x::xs,off,l,a,b,ha,hb=>by
  rcases ha with ⟨c,p,h1,rfl,rfl⟩|ha <;>rcases hb with ⟨c',p',h1',rfl,e⟩|hb
  ·grind
  ·grind [eN]
  ·grind [eN]
  ·exact qQ ha hb
theorem p8:∀ {x y:List Nat},bA (x++y)=true->bA x=true/\bA y=true/\∀a∈x,a ∉ y
 | [],y,h=>⟨rfl,h,by simp⟩
 |a::x,y,h=>by
  obtain⟨h1,h2⟩:=iJ (x:=a) (r:=x++y) h;obtain⟨i1,i2,i3⟩:=p8 h2
  grind [bA]
section
variable {C:Ctx} {σ:St} {tmps:Array Value} {E:Env} {tt:TT}
theorem gY{E' :Env}{φ:Own->Option Own}(hw:E'.w=E.w)(hhw:E'.hw=E.hw)(how:∀b,E'.ow b=(E.ow b).bind φ){bxs:Nat->Prop}{pl pl' :Pl}{c c' :Nat}{x:CV}{v:Value}(hx:x.plain=true)
 (hm:∀p,φ (.arr pl c p)=some (.arr pl' c' p)) (hv:VRc E bxs pl c x v):VRc E' aL pl' c' x v:=by
 have tip:∀ {p:List (Nat×Nat)} {v:Value} {sz:Nat},Tip E (.arr pl c p) v sz->Tip E' (.arr pl' c' p) v sz:=by
  intro p v sz ht;unfold Tip at ht ⊢
  grind
 cases x with
 |sl f T xs=>
  cases f with
  |ro=>
   exact RdP.mono (w' :=E'.w) hv (fun p b o ho=>⟨by rw [hw],by rw [hhw];exact ho.1,by rw [how,ho.2];rfl⟩) (fun _ _ _ _=>trivial)
  |own=>exact RdP.mono (w' :=E'.w) hv (fun p b o ho=>⟨by rw [hw],by rw [hhw];exact ho.1,by rw [how,ho.2];grind⟩) (fun p v sz ht=>tip ht)
  |tip=>
   refine RdP.mono (w' :=E'.w) hv (fun p b o ho=>⟨by rw [hw],by rw [hhw];exact ho.1,fun hp=> ?_,fun hp=> ?_⟩) (fun p v sz ht hp=>tip (ht hp))
   ·rw [how,ho.2.1 hp];grind
   ·rw [how,ho.2.2 hp];rfl
  |_=>cases hx
 |int k n=>exact hv
 |bool b=>exact hv
 |str s=>exact hv
 |val s=>exact hv
 |_=>cases hx
theorem oU{E' :Env}{φ:Own->Option Own}(hw:E'.w=E.w)(hhw:E'.hw=E.hw)(hh:E'.hdr=E.hdr)(how:∀b,E'.ow b=(E.ow b).bind φ){bxs:Nat->Prop}{pl pl' :Pl}{c c' n:Nat}{T:Ty}{xs:List T.den}{v:Value}
 (hm:∀p,φ (.arr pl c p)=some (.arr pl' c' p)) (hv:VRc E bxs pl c (.sl (.lnt n) T xs) v):VRc E' aL pl' c' (.sl (.lnt n) T xs) (E'.hdr n):=by
 have hq:v=E.hdr n:=(RdP.top hv).2 rfl;rw [hh,<-hq];refine RdP.mono (w' :=E'.w) hv (fun p b o ho=>⟨by rw [hw],by rw [hhw];exact ho.1,by rw [how,ho.2];grind⟩) (fun p v sz ht=>⟨?_,fun hp=>by rw [hh];exact ht.2 hp⟩);have ht:=ht.1;unfold Tip at ht ⊢
 grind
theorem uZ{E' :Env}{φ:Own->Option Own}(hw:E'.w=E.w)(hhw:E'.hw=E.hw)(hbx:E'.bx=E.bx)(hh:E'.hdr=E.hdr)(how:∀b,E'.ow b=(E.ow b).bind φ){bxs:Nat->Prop}{pl pl' :Pl}{c c' :Nat}{x:CV}{v:Value}(hx:x.plainC=true)
 (hm:∀p,φ (.arr pl c p)=some (.arr pl' c' p)) (hv:VRc E bxs pl c x v):VRc E' aL pl' c' x v:=by
 cases x with
 |sl f T xs=>
  cases f with
  |lnt n=>
   have hq:v=E.hdr n:=(RdP.top hv).2 rfl;have:=oU hw hhw hh how (c' :=c') hm hv
   grind
  |ro=>exact gY hw hhw how (x:= .sl .ro T xs) rfl hm hv
  |own=>exact gY hw hhw how (x:= .sl .own T xs) rfl hm hv
  |tip=>exact gY hw hhw how (x:= .sl .tip T xs) rfl hm hv
  |_=>cases hx
 |clo k ss=>exact⟨by rw [hbx];exact hv.1,fun _ _=>trivial⟩
 |swp sf n h s=>exact⟨hv.1,fun ad l cap he=>by rw [hh] at he ⊢;exact hv.2 ad l cap he⟩
 |int k n=>exact hv
 |bool b=>exact hv
 |str s=>exact hv
 |val s=>exact hv
 |_=>cases hx
theorem sE{bxs:Nat->Prop}{pl:Pl}{c:Nat}{g:Bool}{cs:List CV}{vs:List Value}(h:VRs E bxs pl c cs vs)(hg:g=false->cs.length=1):VR1 E bxs pl c g cs (fB g vs):=by
 cases g with
 |true=>exact⟨vs.toArray,rfl,by grind⟩
 |false=>
  have hl:=bB h;have:=hg rfl
  match cs,vs,h,hl with
  | [x],[v],h,_=>exact h
  | [],_,_,_=>grind
  |_::_::_,_,_,_=>grind
  | [x],[],_,hl=>grind
  | [x],_::_::_,_,hl=>grind
theorem yK(htt:aP C.P tt)(hi:Inv C σ.get tmps E):∀ {rs:List ResultVar} {xs:List (Nat×Bool×List CV)},fF tt σ rs=some xs->
 ∃vs:List Value,rs.length=vs.length/\xs.length=vs.length/\(∀(i:Nat) (x:ResultVar) (v:Value),rs[i]? =some x->vs[i]? =some v->(kR tmps x).run C.P E.w= .ok v E.w)/\
  (∀(i:Nat) (x:Nat×Bool×List CV) (v:Value),xs[i]? =some x->vs[i]? =some v->VR1 E (aA σ.get) (.k x.1) 0 x.2.1 x.2.2 v):=by
 intro rs
 induction rs with
 |nil=>intro xs h;simp [fF] at h;subst h;exact⟨[],rfl,rfl,by simp,by simp⟩
 |cons r rs ih=>
  intro xs h;cases r with
  |tmp t=>
   simp only [fF] at h;split at h
   ·rename_i g cs ys hg hys;cases h;obtain⟨vs,i1,i2,i3,i4⟩:=ih hys;have ht:=hi.tmp t;rw [hg] at ht;refine⟨tmps.getD t undef::vs,by grind,by grind,fun i x v hx hv=> ?_,fun i x v hx hv=> ?_⟩
    ·cases i with
     |zero=>simp only [List.getElem?_cons_zero,ZK] at hx hv;subst hx hv;rfl
     |succ i=>grind
    ·cases i with
     |zero=>simp only [List.getElem?_cons_zero,ZK] at hx hv;subst hx hv;exact ht
     |succ i=>grind
   grind
  |cell a t=>
   simp only [fF] at h;split at h
   ·rename_i s i ys hg hti hys;split at h
    ·rename_i cs hcs;cases hl:cs.length.beq i.sz with
     |false=>grind
     |true=>
      rw [hl] at h;cases h;obtain⟨vs,i1,i2,i3,i4⟩:=ih hys;have ht:=hi.tmp a;rw [hg] at ht;obtain⟨ht,_⟩:=ht.1;obtain⟨b1,vals,ty,b2,b3⟩:=hi.box s cs hcs;have hlen:=bB b3;have hl:=Zj hl
      have hrun:=mU (P:=C.P) (w:=E.w) (htt t i hti) (b:=E.bx s) (off:=0) (vs:=vals.toList) (by grind) (fun j v hv=>by
       grind [World.cell?])
      have hg1:i.agg=false->cs.length=1:=by
       intro hag;obtain⟨ti,d,h1,h2,h3,h4,h5,_⟩:=(htt t i hti).info
       grind
      refine⟨fB i.agg vals.toList::vs,by grind,by grind,fun j x v hx hv=> ?_,fun j x v hx hv=> ?_⟩
      all_goals grind [kR,asAddr,Instr.loadAt,Instr.sureAddr,sE]
    grind
   grind
end
theorem rU{E' :Env}:∀ {ps:List (Nat×Nat)} {m:Nat} {ys:List CV},ps.length=ys.length->(∀(n:Nat) (t:Nat×Nat) (y:CV),ps[n]? =some t->ys[n]? =some y->
 (∃T xs,y= .sl (.lnt (m+n)) T xs)/\VRc E' aL (.k t.1) t.2 y (E'.hdr (m+n)))->fJ E' m ps ys:=by
 intro ps
 induction ps with
 |nil=>grind [fJ]
 |cons p ps ih=>
  intro m ys h hh;cases ys with
  |nil=>grind
  |cons y ys=>
   obtain⟨h1,h2⟩:=hh 0 p y rfl rfl;exact⟨h1,h2,ih (by grind) fun n t z hz hy=>by rw [show m+1+n=m+(n+1) from by omega];exact hh (n+1) t z (by grind) (by grind)⟩
theorem xT{σ:St}:∀ {ss:List Nat} {outs:List (List CV)},iM σ ss=some outs->outs.length=ss.length/\∀(n s:Nat) (o:List CV),ss[n]? =some s->outs[n]? =some o->σ.get (2*s+1)= .v true o:=by
 intro ss
 induction ss with
 |nil=>grind [iM]
 |cons s ss ih=>
  grind [iM]
theorem wM{σ:St}:∀ {ps:List (Nat×Nat)} {m:Nat} {ls:List CV},iH σ m ps=some ls->ls.length=ps.length/\∀(n:Nat) (p:Nat×Nat) (y:CV),ps[n]? =some p->ls[n]? =some y->
 ∃g cs T xs,σ.get p.1= .v g cs/\cs[p.2]? =some y/\y= .sl (.lnt (m+n)) T xs/\(g=true\/p.1 % 2=0):=by
 intro ps
 induction ps with
 |nil=>grind [iH]
 |cons p ps ih=>
  intro m ls h;obtain⟨k,c⟩:=p;simp only [iH] at h;split at h
  ·rename_i g cs o hg ho;split at h
   ·rename_i m' T xs hc;cases hb:(m'.beq m&&(g||(k % 2).beq 0)) with
    |false=>grind
    |true=>
     rw [hb] at h;cases h;rw [Zu,Yv] at hb;obtain rfl:=Zj hb.1;obtain⟨i1,i2⟩:=ih ho;refine⟨by grind,fun n p y hp hy=> ?_⟩;cases n with
     |zero=>grind [Nat.eq_of_beq_eq_true]
     |succ n=>grind
   grind
  grind
structure Final (C:Ctx) (E E' :Env) (ext:List Nat) (tg:List (Nat×Nat)) (m:Nat) (ro:CallO) (v:Value):Prop where
 w:E'.w=E.w
 hw:E'.hw=E.hw
 bx:E'.bx=E.bx
 hdr:E'.hdr=E.hdr
 ow:∀b,E.ow b=none->E'.ow b=none
 env:EnvOk E'
 res:ResAt E' m ro.res v
 outs:∀(n s:Nat) (o:List CV),ext[n]? =some s->ro.outs[n]? =some o->bS E' s (E.bx s) o
 outl:ro.outs.length=ext.length
 lents:fJ E' 0 tg ro.lents
section
variable {C:Ctx} {σ:St} {tmps:Array Value} {E:Env} {tt:TT}
theorem u9{E' :Env}{φ:Own->Option Own}(hw:E'.w=E.w)(hhw:E'.hw=E.hw)(how:∀b,E'.ow b=(E.ow b).bind φ){bxs:Nat->Prop}:
 ∀ {xs:List (Nat×Bool×List CV)} {vs:List Value} {off:Nat},xs.length=vs.length->(∀(i:Nat) (x:Nat×Bool×List CV) (v:Value),xs[i]? =some x->vs[i]? =some v->VR1 E bxs (.k x.1) 0 x.2.1 x.2.2 v)->
   (∀l l',eM off xs l l' ->φ l=some l')->(xs.all fun x=>x.2.2.all CV.plain)=true->VRt E' aL (.h 0) off (xs.map fun x=>x.2) vs:=by
 intro xs
 induction xs with
 |nil=>grind [VRt]
 |cons x xs ih=>
  intro vs off hl hv hφ hp;cases vs with
  |nil=>grind
  |cons v vs=>
   rw [List.all_cons,Zu] at hp;refine⟨?_,ih (by grind) (fun i y w hy hw=>hv (i+1) y w (by grind) (by grind)) (fun l l' h=>hφ l l' (.inr h)) hp.2⟩;obtain⟨h1,h2⟩:=eA.1 (hv 0 x v rfl rfl);refine eA.2 ⟨cH (bB h1) fun j y w hy hw2=> ?_,h2⟩;have:=bH h1 hy hw2;rw [Zc] at this;exact gY hw hhw how (Zx.1 hp.1 y (Zy hy)) (fun p=>hφ _ _ (.inl ⟨j,p,(Zs.1 hy).1,rfl,rfl⟩)) this
theorem uX(htt:aP C.P tt)(hi:Inv C σ.get tmps E){I:Info}{bs:List Bool}{cs:List CallO}{ob:List Prop}{res:Res}(h:fR tt I ⟨σ,bs,cs,ob⟩=some res){fn:Func}(hfn:fn.results.toList=I.results)
 {tg:List (Nat×Nat)} (htl:tg.length=I.lnt.length) (hti:∀(n n' :Nat) (t:Nat×Nat),tg[n]? =some t->tg[n']? =some t->n=n') (hte:∀(n:Nat) (t:Nat×Nat),tg[n]? =some t->∃i,t.1=2*i) (m:Nat):
 ∃ro v E',res= .done ro ob.reverse/\(results fn tmps).run C.P E.w= .ok v E.w/\Final C E E' I.ext tg m ro v:=by
 unfold fR at h;split at h
 case h_2=>cases h
 rename_i xs outs ls hbs hcs hres houts hls;cases hc:(bA (gX xs I.ext)&&I.lnt.all (fun p=> !(gX xs I.ext).contains p.1)&&xs.all (fun x=>x.2.2.all CV.plain)&&outs.all (fun o=>o.all CV.plainC)) with
 |false=>grind
 |true=>
  dsimp only at h;rw [hc] at h;cases h;simp only [Zu] at hc;obtain⟨⟨⟨c1,c2⟩,c3⟩,c4⟩:=hc;dsimp only at hres houts hls;obtain⟨d1,d2,d3⟩:=p8 (x:=xs.map fun x=>x.1) (y:=I.ext.map fun s=>2*s+1) c1;have c2:∀p∈I.lnt,p.1 ∉ xs.map (fun x=>x.1)/\p.1 ∉ I.ext.map (fun s=>2*s+1):=by
   grind [gX]
  obtain⟨vs,i1,i2,i3,i4⟩:=yK htt hi hres;obtain⟨o1,o2⟩:=xT houts;obtain⟨l1,l2⟩:=wM hls
  let S:Own->Own->Prop:=fun l l' =>eM 0 xs l l' \/(∃s∈I.ext,(l= .box s/\l' = .box s)\/∃c p,l= .arr (.k (2*s+1)) c p/\l' = .arr (.k (2*s+1)) c p)\/
   (∃(n:Nat) (q t:Nat×Nat) (p:List (Nat×Nat)),I.lnt[n]? =some q/\tg[n]? =some t/\l= .arr (.k q.1) q.2 p/\l' = .arr (.k t.1) t.2 p)
  have hlsrc:∀(n n' :Nat) (q:Nat×Nat),I.lnt[n]? =some q->I.lnt[n']? =some q->n=n' :=by
   intro n n' q hn hn';have b1:n<ls.length:=by grind
   have b2:n' <ls.length:=by grind
   obtain⟨g,cs,T,ys,e1,e2,e3,_⟩:=l2 n q _ hn (Zv b1)
   grind
  have f1:∀l a b,S l a->S l b->a=b:=by
   grind [qP,eN]
  have f2:∀a b l,S a l->S b l->a=b:=by
   grind [qQ,eN]
  obtain⟨φ,hφ⟩:=iL S f1;generalize hE:({ E with ow:=fun b=>(E.ow b).bind φ }:Env)=E';have e1:E'.w=E.w:=by grind
  have e2:E'.hw=E.hw:=by grind
  have e3:E'.bx=E.bx:=by grind
  have e4:E'.hdr=E.hdr:=by grind
  have e5:∀b,E'.ow b=(E.ow b).bind φ:=by rw [<-hE];grind
  refine⟨⟨iO xs,outs,ls⟩,nA vs,E',rfl,qS hfn i1 i3,⟨e1,e2,e3,e4,fun b hb=>by grind,?_,?_,fun n s o hs ho=> ?_,o1,?_⟩⟩
  ·refine⟨fun b hb=> ?_,fun b b' l h1 h2=> ?_,fun b s hb=> ?_⟩
   ·rw [e1] at hb;have:=hi.new b hb
    grind
   ·rw [e5,Zq] at h1 h2;obtain⟨m1,a1,b1⟩:=h1;obtain⟨m2,a2,b2⟩:=h2;have:=f2 _ _ _ ((hφ _ _).1 b1) ((hφ _ _).1 b2);subst this;exact hi.inj _ _ _ a1 a2
   ·rw [e5,Zq] at hb;obtain⟨m1,a1,b1⟩:=hb;rw [e2];rcases(hφ _ _).1 b1 with h|⟨s',hs',⟨rfl,_⟩|⟨c,p,_,e⟩⟩|⟨n,q,t,p,_,_,_,e⟩
    ·grind [eN]
    ·exact hi.boxhw b _ a1
    all_goals grind
  ·have hpl:(iO xs).plain=true:=by
    match xs,c3 with
    | [],_=>rfl
    | [x],c3=>grind [iO,AV.plain]
    |x::y::xs,c3=>grind [iO,AV.plain]
   refine .of ?_ (fX hpl);have key:=u9 e1 e2 e5 (xs:=xs) (vs:=vs) (off:=0) i2 i4 (fun l l' h=>(hφ _ _).2 (.inl h)) c3
   match xs,vs,i2,key with
   | [],[],_,_=>exact⟨_,rfl,trivial⟩
   | [x],[v],_,key=>exact key.1
   |x::y::xs,v::w::vs,_,key=>exact⟨_,rfl,key⟩
  ·have hg:=o2 n s o hs ho;obtain⟨b1,vals,ty,b2,b3⟩:=hi.box s o hg;have hsm:s∈I.ext:=Zy hs;refine⟨by grind,vals,ty,by grind,?_⟩;refine cH (bB b3) fun j x v hx hv=> ?_;exact uZ e1 e2 e3 e4 e5 (Zx.1 (Zx.1 c4 o (Zy ho)) x (Zy hx)) (fun p=>(hφ _ _).2 (.inr (.inl ⟨s,hsm,.inr ⟨_,p,rfl,rfl⟩⟩))) (bH b3 hx hv)
  ·refine rU (by grind) fun n t y ht hy=> ?_;have hn:n<I.lnt.length:=by grind
   obtain⟨g,cs,T,ys,g1,g2,g3,g4⟩:=l2 n _ y (Zv hn) hy;subst g3;refine⟨⟨T,ys,rfl⟩,?_⟩;have hpass:∀p,φ (.arr (.k I.lnt[n].1) I.lnt[n].2 p)=some (.arr (.k t.1) t.2 p):=fun p=>(hφ _ _).2 (.inr (.inr ⟨n,_,t,p,Zv hn,ht,rfl,rfl⟩));have hcell:∃v,VRc E (aA σ.get) (.k I.lnt[n].1) I.lnt[n].2 (.sl (.lnt (0+n)) T ys) v:=by
    rcases Nat.mod_two_eq_zero_or_one I.lnt[n].1 with hq|hq
    ·obtain⟨q,hq⟩:∃q,I.lnt[n].1=2*q:=⟨I.lnt[n].1 / 2,by omega⟩;have ht:=hi.tmp q;rw [<-hq,g1] at ht;obtain⟨h1,_⟩:=eA.1 ht;have hl:=bB h1;have hlt:I.lnt[n].2<(cellsOf g (tmps.getD q undef)).length:=by grind
     have:=bH h1 g2 (Zv hlt)
     grind
    ·obtain⟨q,hq⟩:∃q,I.lnt[n].1=2*q+1:=⟨I.lnt[n].1 / 2,by omega⟩;have hgt:g=true:=g4.resolve_right (by omega);subst hgt;obtain⟨b1,vals,ty,b2,b3⟩:=hi.box q cs (by grind);have hl:=bB b3;have hlt:I.lnt[n].2<vals.toList.length:=by grind
     have:=bH b3 g2 (Zv hlt)
     grind
   obtain⟨v,hv⟩:=hcell;exact oU e1 e2 e4 e5 hpass hv
theorem uY(hi:Inv C σ.get tmps E){I:Info}{cs:List CV}(h:jY I σ=some cs){fn:Func}(hfn:fn.results.toList=I.results){tg:List (Nat×Nat)}(htl:tg.length=I.lnt.length)(m:Nat):
 ∃v E',(results fn tmps).run C.P E.w= .ok v E.w/\Final C E E' I.ext tg m ⟨.tup [(false,[.ptr 0 0]),(true,cs)],[],[]⟩ v:=by
 unfold jY at h;split at h
 case h_2=>cases h
 rename_i t hr he hl;split at h
 case h_2=>cases h
 rename_i s hg;split at h
 case h_2=>cases h
 rename_i cs0 hb;cases hpl:cs0.all CV.plain with
 |false=>grind
 |true=>
  rw [hpl] at h;cases h;have ht:=hi.tmp t;rw [hg] at ht;obtain⟨ht,_⟩:=ht.1;obtain⟨b1,vals,ty,b2,b3⟩:=hi.box s cs hb
  let S:Own->Own->Prop:=fun l l' =>(l= .box s/\l' = .box m)\/∃c p,l= .arr (.k (2*s+1)) c p/\l' = .arr (.k (2*m+1)) c p
  obtain⟨φ,hφ⟩:=iL S (by
   grind)
  have f2:∀a b l,S a l->S b l->a=b:=by
   grind
  generalize hE:({ E with ow:=fun b=>(E.ow b).bind φ }:Env)=E';have e1:E'.w=E.w:=by grind
  have e2:E'.hw=E.hw:=by grind
  have e3:E'.bx=E.bx:=by grind
  have e4:E'.hdr=E.hdr:=by grind
  have e5:∀b,E'.ow b=(E.ow b).bind φ:=by rw [<-hE];grind
  refine⟨nA [tmps.getD t undef],E',qS (rs:=[.tmp t]) (hfn.trans hr) rfl (fun i x v hx hv=> ?_),⟨e1,e2,e3,e4,fun b hb=>by grind,?_,?_,fun n s o hs ho=> ?_,by grind,?_⟩⟩
  ·cases i with
   |zero=>simp only [List.getElem?_cons_zero,ZK] at hx hv;subst hx hv;rfl
   |succ i=>grind
  ·refine⟨fun b hb=> ?_,fun b b' l h1 h2=> ?_,fun b s hb=> ?_⟩
   ·rw [e1] at hb;have:=hi.new b hb
    grind
   ·rw [e5,Zq] at h1 h2;obtain⟨m1,a1,b1⟩:=h1;obtain⟨m2,a2,b2⟩:=h2;have:=f2 _ _ _ ((hφ _ _).1 b1) ((hφ _ _).1 b2);subst this;exact hi.inj _ _ _ a1 a2
   ·rw [e5,Zq] at hb;obtain⟨m1,a1,b1⟩:=hb;rw [e2];rcases(hφ _ _).1 b1 with ⟨rfl,_⟩|⟨c,p,_,e⟩
    ·exact hi.boxhw b _ a1
    grind
  ·refine⟨E.bx s,ht,by grind,vals,ty,by grind,cH (bB b3) fun j x v hx hv=> ?_⟩;exact gY e1 e2 e5 (Zx.1 hpl x (Zy hx)) (fun p=>(hφ _ _).2 (.inr ⟨_,p,rfl,rfl⟩)) (bH b3 hx hv)
  ·grind
  ·rw [hl] at htl;cases tg with
   |nil=>trivial
   |cons t ts=>grind
end
theorem qR(σ:St):∀(ks:List Nat) (q:Nat),St.get (σ.restrict ks) q= .none\/∃s m,St.get (σ.restrict ks) q=(σ.get q).mapC (CV.stale s m):=by
 intro ks
 induction ks with
 |nil=>intro q;exact .inl rfl
 |cons k r ih=>
  intro q;have step:∀v,v=σ.get k->St.get ((k,v)::σ.restrict r) q= .none\/∃s m,St.get ((k,v)::σ.restrict r) q=(σ.get q).mapC (CV.stale s m):=by
   intro v hv;rw [St.get_cons];by_cases h:k=q
   ·subst h;rw [Zt rfl,hv];exact .inr ⟨[],false,(AV.mapC_id CV.stale_nil _).symm⟩
   ·rw [Za h];rcases ih q with h1|⟨s,m,h1⟩
    ·exact .inl (by rw [h1];rfl)
    ·refine .inr ⟨s++ [k],m||k.beq aC,?_⟩;rw [h1,AV.mapC_comp]
     congr 1
     grind [CV.stale_stale]
  grind [St.restrict]
theorem yC{σ:St}{c:CV}{s:List Nat}{m:Bool}(h:c.ptrOk σ=true):(c.stale s m).ptrOk σ=true:=by
 rcases CV.stale_eq (s:=s) (m:=m) c with e|⟨e,_⟩
 ·rw [e];rfl
 grind
theorem zO{σ:St}:∀ {S:St},St.wf σ S=true->∀q,∀x,(St.get S q).mem x->x.ptrOk σ=true:=by
 have key:∀ {S:St},St.wf σ S=true->∀(q:Nat) (s:List Nat) (m:Bool) (x:CV),(St.getS S q s m).mem x->x.ptrOk σ=true:=by
  intro S
  induction S with
  |nil=>intro _ q s m x h;exact h.elim
  |cons z S ih=>
   intro h q s m x hx;obtain⟨k,v⟩:=z;have hS:St.wf σ S=true:=by
    cases v <;>simp only [St.wf,Zu] at h
    all_goals grind
   simp only [St.getS] at hx;cases hk:k.beq q with
   |false=>grind
   |true=>
    rw [hk] at hx;obtain⟨y,hy,rfl⟩:=AV.mem_mapC hx;refine yC ?_;cases v with
    |none=>exact hy.elim
    |v g cs=>simp only [St.wf,Zu] at h;exact Zx.1 h.1 y hy
    |tup xs=>
     simp only [St.wf,Zu] at h;obtain⟨z,hz,hy⟩:=hy
     grind
 exact fun {S} h q x hx=>key (S:=S) h q [] false x hx
theorem lZ{σ:St}{s:Nat}(h:fV σ s=true):aA σ.get s:=by
 unfold fV at h;split at h
 ·rename_i cs hg;exact⟨cs,hg⟩
 grind
theorem AV.mem_map{f:CV->CV}{a:AV}{x:CV}(h:a.mem x):(a.mapC f).mem (f x):=by
 cases a with
 |none=>exact h.elim
 |v g cs=>exact Zk.2 ⟨x,h,rfl⟩
 |tup xs=>obtain⟨y,hy,hx⟩:=h;exact⟨(y.1,y.2.map f),Zk.2 ⟨y,hy,rfl⟩,Zk.2 ⟨x,hx,rfl⟩⟩
theorem VRc.rebox{E:Env}{bxs bxs' :Nat->Prop}{pl:Pl}{c:Nat}{x:CV}{v:Value}(h:∀s off,x= .ptr s off->bxs' s)(h' :∀k ss,x= .clo k ss->∀s∈ss,bxs' s)(hv:VRc E bxs pl c x v):VRc E bxs' pl c x v:=by
 cases x with
 |ptr s off=>exact⟨hv.1,h s off rfl⟩
 |clo k ss=>exact⟨hv.1,h' k ss rfl⟩
 |_=>exact hv
theorem l0{C:Ctx}{σ σ' :St}{a:Act}{w:World}{ext ks:List Nat}(h:iD ext σ ks=some σ')(he:∀s b,C.ext s=some b->s∈ext)(hR:R C σ a w):R C σ' a w:=by
 unfold iD at h;cases hc:(St.wf (σ.restrict ks) (σ.restrict ks)&&ext.all (fV (σ.restrict ks))) with
 |false=>grind
 |true=>
  rw [hc] at h;cases h;rw [Zu] at hc;obtain⟨h1,h2⟩:=hc;obtain⟨hd,E,rfl,hi⟩:=hR;have hp:=zO h1;have one:∀ {pl:Pl} {j:Nat} {x:CV} {s:List Nat} {m:Bool} {v:Value},(x.stale s m).ptrOk (σ.restrict ks)=true->VRc E (aA σ.get) pl j x v->VRc E (aA (St.get (σ.restrict ks))) pl j (x.stale s m) v:=by
   intro pl j x s m v hx hv;rcases CV.stale_eq (s:=s) (m:=m) x with e|⟨e,_⟩
   ·rw [e];exact hv.one
   ·rw [e] at hx ⊢;exact hv.rebox (fun s off hs=>by subst hs;exact lZ hx) fun k ss hs s hm=>by subst hs;exact lZ (Zx.1 hx s hm)
  refine⟨hd,E,rfl,⟨hi.os,hi.tape,hi.output,hi.size,hi.hdr,hi.old,hi.new,hi.inj,hi.boxhw,hi.nt,fun t=> ?_,fun s cs hg=> ?_,fun s b hs=> ?_,hi.base⟩⟩
  ·have ht:=hi.tmp t;have hq:=hp (2*t);rcases qR σ ks (2*t) with h0|⟨s,m,h0⟩
   ·rw [h0];trivial
   grind [VR.imp,AV.mem_map]
  ·have hq:=hp (2*s+1);rcases qR σ ks (2*s+1) with h0|⟨s1,m,h0⟩
   ·grind
   ·rw [h0] at hg hq;cases hg0:σ.get (2*s+1) with
    |none=>rw [hg0] at hg;cases hg
    |tup xs=>rw [hg0] at hg;cases hg
    |v g cs0=>
     rw [hg0] at hg hq;injection hg with e1 e2;subst e1 e2;obtain⟨b1,vals,ty,b2,b3⟩:=hi.box s cs0 hg0;exact⟨b1,vals,ty,b2,VRs.imp (fun j x v hx hv=>one (hq _ (Zk.2 ⟨x,hx,rfl⟩)) hv) b3⟩
  ·exact⟨lZ (Zx.1 h2 s (he s b hs)),(hi.ext s b hs).2⟩
theorem tJ(b:Bool)(c:CV)(s:List Nat)(m:Bool):(c.stale s m).cast b=(c.cast b).stale s m:=by
 have key:∀c:CV,c.onKey s=(c.cast b).onKey s/\c.isBor=(c.cast b).isBor\/c.cast b= .undef:=by
  intro c;cases c with
  |sl f T xs=>cases f <;>cases b <;>first |exact .inl ⟨rfl,rfl⟩|exact .inr rfl
  |_=>exact .inl ⟨rfl,rfl⟩
 grind [CV.stale,CV.cast]
theorem xK(c:CV)(s:List Nat)(m:Bool):(c.stale s m).noAl=c.noAl.stale s m:=by
 have key:∀c:CV,c.noAl=c\/c.noAl= .undef:=by
  intro c;cases c with
  |sl f T xs=>cases f <;>first |exact .inl rfl|exact .inr rfl
  |eref k c p i T x off=>exact .inr rfl
  |apd k c p T xs=>exact .inr rfl
  |_=>exact .inl rfl
 grind [CV.stale]
theorem castAt_map{f:CV->CV}{b:Bool}(hf:∀c,(f c).cast b=f (c.cast b)):∀(c:Nat) (cs:List CV),castAt b c (cs.map f)=(castAt b c cs).map f
 |0,[]=>rfl
 |_+1,[]=>rfl
 |0,x::r=>by grind [castAt]
 |c+1,x::r=>by simp [castAt,castAt_map hf c r]
theorem AV.castAt_map{f:CV->CV}{b:Bool}(hf:∀c,(f c).cast b=f (c.cast b))(c:Nat)(a:AV):(a.mapC f).castAt c b=(a.castAt c b).mapC f:=by
 cases a with
 |v g cs=>grind [AV.castAt,AV.mapC,Ab.castAt_map]
 |_=>rfl
theorem vM{k c:Nat}{b:Bool}:∀(σ:St) (q:Nat) (s:List Nat) (m:Bool),St.getS (σ.map fun x=>(x.1,(cond (x.1.beq k) (x.2.castAt c b) x.2).mapC CV.noAl)) q s m=
 (if k=q then(St.getS σ q s m).castAt c b else St.getS σ q s m).mapC CV.noAl:=by
 intro σ
 induction σ with
 |nil=>intro q s m;simp only [ZB,St.getS];split <;>rfl
 |cons x σ ih=>
  grind [St.getS,Nat.eq_of_beq_eq_true,AV.castAt_map,tJ,AV.mapC_comp,xK]
def bN(k c:Nat)(b:Bool):Own->Option Own
 | .arr (.k k') c' p=>if k' =k/\c' =c/\(b=true\/p≠ []) then none else some (.arr (.k k') c' p)
 |l=>some l
theorem jD(k c:Nat)(b:Bool):RhoOk (bN k c b) (fun pl c' =>pl= .k k/\c' =c) where
 box:=fun _=>rfl
 id:=fun pl c' p h=>by
  cases pl with
  |k n=>
   grind [bN]
  |h n=>rfl
 inj:=fun l1 l2 l h1 h2=>by
  have:∀l1,bN k c b l1=some l->l1=l:=by
   intro l1 h;unfold bN at h
   grind
  grind
 arr:=fun k' c' p s h=>by
  unfold bN at h
  grind
theorem n5{b:Bool}:∀ {c:Nat} {cs:List CV} {j:Nat} {x:CV},(castAt b c cs)[j]? =some x->∃y,cs[j]? =some y/\x=if j=c then y.cast b else y
 |0,[],j,x,h=>by grind [castAt]
 |_+1,[],j,x,h=>by grind [castAt]
 |0,y::r,j,x,h=>by
  grind [castAt]
 |c+1,y::r,j,x,h=>by
  cases j with
  |zero=>grind [castAt]
  |succ j=>
   simp only [castAt,List.getElem?_cons_succ] at h;obtain⟨z,h1,h2⟩:=n5 h
   grind
theorem n7{b:Bool}:∀ {c:Nat} {cs:List CV},(castAt b c cs).length=cs.length
 |0,[]=>rfl
 |_+1,[]=>rfl
 |0,y::r=>rfl
 |c+1,y::r=>by simp [castAt,n7]
theorem lI{E:Env}{bxs:Nat->Prop}{k c j:Nat}{b:Bool}{pl:Pl}{x:CV}{v:Value}(hp:¬(pl= .k k/\j=c))(hv:VRc E bxs pl j x v):VRc (E.rel (bN k c b)) bxs pl j x.noAl v:=by
 have hv:VRc E bxs pl j x.noAl v:=by
  cases x with
  |sl f T xs=>cases f <;>first |exact hv|exact hv.one
  |eref k1 c1 p1 i T y off=>exact hv.one
  |apd k1 c1 p1 T y=>exact hv.one
  |_=>exact hv
 exact hv.rel (jD k c b) (fun _ p=>(jD k c b).id _ _ p hp) (fun k1 c1 hs=>absurd hs (kK x k1 c1))
theorem tK{E:Env}{bxs:Nat->Prop}{k c:Nat}{b:Bool}{x:CV}{v:Value}(hv:VRc E bxs (.k k) c x v):VRc (E.rel (bN k c b)) bxs (.k k) c (x.cast b).noAl v:=by
 cases x with
 |sl f T xs=>
  cases f with
  |own=>
   cases b with
   |true=>exact RdP.mono hv (fun p b o ho=>⟨rfl,ho.1,by simp [Env.rel,ho.2,bN]⟩) (fun _ _ _ _=>trivial)
   |false=>
    refine RdP.mono hv (fun p b o ho=>⟨rfl,ho.1,fun hp=> ?_,fun hp=> ?_⟩) (fun p v sz ht hp=> ?_)
    ·subst hp;simp [Env.rel,ho.2,bN]
    ·simp [Env.rel,ho.2,bN,hp]
    ·subst hp;exact Tip.rel (by simp [bN]) ht
  |tip=>
   cases b with
   |true=>
    refine RdP.mono hv (fun p b o ho=>⟨rfl,ho.1,?_⟩) (fun _ _ _ _=>trivial);by_cases hp:p=[]
    ·simp [Env.rel,ho.2.1 hp,bN]
    ·simp [Env.rel,ho.2.2 hp]
   |false=>
    refine RdP.mono hv (fun p b o ho=>⟨rfl,ho.1,fun hp=> ?_,fun hp=> ?_⟩) (fun p v sz ht hp=> ?_)
    ·subst hp;simp [Env.rel,ho.2.1 rfl,bN]
    ·simp [Env.rel,ho.2.2 hp]
    ·subst hp;exact Tip.rel (by simp [bN]) (ht rfl)
  |ro=>exact RdP.mono hv (fun p b o ho=>⟨rfl,ho.1,by simp [Env.rel,ho.2]⟩) (fun _ _ _ _=>trivial)
  |bor=>exact hv
  |lnt n=>exact hv.one
  |al k1 c1 p1=>exact hv.one
 |eptr f T x off=>
  exact VRc.rel (x:= .eptr f T x off) (jD k c b) (fun h=>by cases h) (fun k1 c1 hs=>hs.elim) hv
 |eref k1 c1 p1 i T x off=>exact hv.one
 |apd k1 c1 p1 T y=>exact hv.one
 |_=>exact hv
theorem n9{E:Env}{bxs:Nat->Prop}{k c:Nat}{b:Bool}{cs:List CV}{vs:List Value}(hv:VRs E bxs (.k k) 0 cs vs):VRs (E.rel (bN k c b)) bxs (.k k) 0 ((castAt b c cs).map CV.noAl) vs:=by
 refine cH (by grind [n7,bB]) fun j x v hx hvj=> ?_;rw [Ze,Zi] at hx;obtain⟨x,hx,rfl⟩:=hx;obtain⟨y,hy,rfl⟩:=n5 hx;have h1:=bH hv hy hvj
 grind [tK,lI]
theorem n8{C:Ctx}{a:Act}{w:World}:∀ {zs:List (Nat×Nat×Bool)} {σ:St},R C σ a w->R C (jH zs σ) a w:=by
 intro zs
 induction zs with
 |nil=>intro σ h;exact h
 |cons z zs ih=>
  intro σ h;obtain⟨k,c,b⟩:=z;refine ih ?_;obtain⟨hd,E,rfl,hi⟩:=h;have hG:∀q,St.get (σ.map fun x=>(x.1,(cond (x.1.beq k) (x.2.castAt c b) x.2).mapC CV.noAl)) q=(if k=q then(σ.get q).castAt c b else σ.get q).mapC CV.noAl:=fun q=>vM σ q [] false;obtain⟨σ',hσ⟩:∃σ' :St,σ' =σ.map fun x=>(x.1,(cond (x.1.beq k) (x.2.castAt c b) x.2).mapC CV.noAl):=⟨_,rfl⟩;rw [<-hσ] at hG;have hbx:∀s,aA σ.get s->aA σ'.get s:=by
   rintro s ⟨cs,hs⟩;unfold aA;rw [hG,hs];split
   ·exact⟨_,rfl⟩
   ·exact⟨_,rfl⟩
  have re:∀ {pl:Pl} {j:Nat} {x:CV} {v:Value},VRc (E.rel (bN k c b)) (aA σ.get) pl j x v->VRc (E.rel (bN k c b)) (aA σ'.get) pl j x v:=fun h=>h.rebox (fun s off e=>by subst e;exact hbx s h.2) fun k ss e s hm=>by subst e;exact hbx s (h.2 s hm)
  have res:∀ {pl:Pl} {j:Nat} {xs:List CV} {vs:List Value},VRs (E.rel (bN k c b)) (aA σ.get) pl j xs vs->VRs (E.rel (bN k c b)) (aA σ'.get) pl j xs vs:=fun h=>by
   have:=VRs.imp (f:=id) (fun j x v _ hv=>re hv) h
   simp_all
  show R C (σ.map fun x=>(x.1,(cond (x.1.beq k) (x.2.castAt c b) x.2).mapC CV.noAl)) a E.w;rw [<-hσ];refine⟨hd,E.rel (bN k c b),rfl,hi.rel (jD k c b) rfl hbx (fun t=> .inl ?_) (fun s cs' hs=> .inl ?_)⟩
  ·have ht:=hi.tmp t;rw [hG];by_cases hk:k=2*t
   ·rw [Zt hk];cases hg:σ.get (2*t) with
    |none=>trivial
    |v g cs=>
     rw [hg,<-hk] at ht;obtain⟨h1,h2⟩:=eA.1 ht;rw [<-hk];exact eA.2 ⟨res (n9 h1),h2⟩
    |tup xs=>trivial
   grind [VR.imp,lI]
  ·rw [hG] at hs;cases hg:σ.get (2*s+1) with
   |none=>rw [hg] at hs;split at hs <;>cases hs
   |tup xs=>rw [hg] at hs;split at hs <;>cases hs
   |v g cs=>
    rw [hg] at hs;by_cases hk:k=2*s+1
    ·rw [Zt hk] at hs;cases hs;obtain⟨b1,vals,ty,b2,b3⟩:=hi.box s cs hg;rw [<-hk] at b3;exact⟨by grind [Env.rel,bN],vals,ty,b2,by grind [n9]⟩
    ·rw [Za hk] at hs;cases hs;obtain⟨b1,vals,ty,b2,b3⟩:=hi.box s cs hg;exact⟨by grind [Env.rel,bN],vals,ty,b2,VRs.imp (fun j x v _ hv=>re (lI (fun h=>hk (by grind)) hv)) b3⟩
def kW(C:Ctx)(fn:Func)(I:Info)(ro:CallO)(a:Act)(w:World):Prop:=
 a.defers=[]/\∀tg:List (Nat×Nat),tg.length=I.lnt.length->(∀(n n' :Nat) (t:Nat×Nat),tg[n]? =some t->tg[n']? =some t->n=n')->(∀(n:Nat) (t:Nat×Nat),tg[n]? =some t->∃i,t.1=2*i)->∀m:Nat,
  ∃v E E',E.w=w/\(∃σ:St,Inv C σ.get a.tmps E)/\(results fn a.tmps).run C.P w= .ok v w/\Final C E E' I.ext tg m ro v
def fY:Res->List Prop
 | .stop _ _ ob=>ob
 | .done _ ob=>ob
def Says(C:Ctx)(fn:Func)(I:Info)(b:Frame)(cs:List Frame)(m:Machine):Res->Prop
 | .stop stk σ _=>∃a w,R C σ a w/\Steps C.P m (lone (b.at a stk) cs w)
 | .done ro _=>∃a w todo,kW C fn I ro a w/\Steps C.P m (lone { b.at a todo with mode:= .returning } cs w)
theorem Says.of_steps{C:Ctx}{fn:Func}{I:Info}{b:Frame}{cs:List Frame}{m m' :Machine}{res:Res}(h:Steps C.P m m')(hs:Says C fn I b cs m' res):Says C fn I b cs m res:=by
 cases res with
 |stop stk σ ob=>obtain⟨a,w,h1,h2⟩:=hs;exact⟨a,w,h1,h.trans h2⟩
 |done ro ob=>obtain⟨a,w,todo,h1,h2⟩:=hs;exact⟨a,w,todo,h1,h.trans h2⟩
section
variable {C:Ctx} {tt:TT} {I:Info} {fn:Func}
theorem uW{r:RS}{res:Res}(h:fR tt I r=some res):∃ro,res= .done ro r.ob.reverse:=by
 grind [fR]
theorem oT{r:RS}{res:Res}(h:lU tt I r=some res):(∃ro,res= .done ro r.ob.reverse)/\((∃cs,jY I r.σ=some cs/\res= .done ⟨.tup [(false,[.ptr 0 0]),(true,cs)],[],[]⟩ r.ob.reverse)\/fR tt I r=some res):=by
 grind [lU,uW]
theorem oV{r:RS}{res:Res}(h:fin tt I r=some res):∀p∈r.ob,p∈fY res:=by
 obtain⟨ro,rfl⟩:=(oT h).1;exact fun p hp=>YU.2 hp
theorem oW(htt:aP C.P tt)(hfn:fn.results.toList=I.results){r:RS}{res:Res}(h:fin tt I r=some res){a:Act}{w:World}(hR:R C r.σ a w):∃ro ob,res= .done ro ob/\kW C fn I ro a w:=by
 obtain⟨σ,bs,cs,ob⟩:=r;obtain⟨⟨ro,e0⟩,hh⟩:=oT h;refine⟨ro,_,e0,hR.1,fun tg h1 h2 h3 m=> ?_⟩;obtain⟨hd,E,rfl,hi⟩:=n8 (zs:=I.fcast) hR;rcases hh with ⟨cs',hc,e⟩|hh
 ·obtain⟨v,E',h4,h5⟩:=uY hi hc hfn h1 m
  grind
 ·obtain⟨ro',v,E',e,h4,h5⟩:=uX htt hi hh hfn h1 h2 h3 m
  grind
theorem qZ(htt:aP C.P tt)(hfn:fn.results.toList=I.results)(hnt:C.nt=I.nt)(hext:∀s b,C.ext s=some b->s∈I.ext)(hmix:C.P.follows .mixedOrders=true):∀(n:Nat) (first:Bool) (stk:List Item) (r:RS) (res:Res),
 run tt (AbsCalls C.P) I n first stk r=some res->(∀p∈r.ob,p∈fY res)/\((∀p∈fY res,p)->∀a w,R C r.σ a w->∀(b:Frame) (cs:List Frame),Says C fn I b cs (lone (b.at a stk) cs w) res):=by
 intro n
 induction n with
 |zero=>intro first stk r res h;cases h
 |succ n ih=>
  intro first stk r res h
  cases stk with
  |nil=>
   refine⟨oV h,fun hob a w hR b cs=> ?_⟩;obtain⟨ro,ob,rfl,hd⟩:=oW htt hfn h hR;exact⟨a,w,[],hd,.one step_end⟩
  |cons it k=>
   cases it with
   |code c=>
    cases c with
    |skip=>
     obtain⟨h1,h2⟩:=ih _ _ _ _ h;exact⟨h1,fun hob a w hR b cs=>(h2 hob a w hR b cs).of_steps (.one step_skip)⟩
    |seq x y=>
     obtain⟨h1,h2⟩:=ih _ _ _ _ h;exact⟨h1,fun hob a w hR b cs=>(h2 hob a w hR b cs).of_steps (.one step_seq)⟩
    |block id x=>
     obtain⟨h1,h2⟩:=ih _ _ _ _ h;exact⟨h1,fun hob a w hR b cs=>(h2 hob a w hR b cs).of_steps (.one step_block)⟩
    |loop x=>
     obtain⟨h1,h2⟩:=ih _ _ _ _ h;exact⟨h1,fun hob a w hR b cs=>(h2 hob a w hR b cs).of_steps (.one step_loop)⟩
    |exit id=>
     simp only [run] at h;split at h
     ·rename_i k' hk;obtain⟨h1,h2⟩:=ih _ _ _ _ h;exact⟨h1,fun hob a w hR b cs=>(h2 hob a w hR b cs).of_steps (.one (step_exit hk))⟩
     grind
    |ret=>
     refine⟨oV h,fun hob a w hR b cs=> ?_⟩;obtain⟨ro,ob,rfl,hd⟩:=oW htt hfn h hR;exact⟨a,w,_,hd,.one step_ret⟩
    |cond x c1 c2=>
     simp only [run] at h;split at h
     ·rename_i v u lit bs hv hbs;obtain⟨h1,h2⟩:=ih _ _ _ _ h;refine⟨fun p hp=>h1 p (Zr _ hp),fun hob a w hR b cs=> ?_⟩;have hlit:v=lit:=hob _ (h1 _ Zp);obtain⟨hd,E,rfl,hi⟩:=hR;obtain⟨_,hx⟩:=bO (σ:=r.σ) (u:=[]) (a:=a) hi (show Mr (opc tt 0 x) r.σ []=_ from hv);have hev:a.eval x= .bool v:=hx (.h 0) 0;have hcode:(if v=true then c1 else c2)=cond lit c1 c2:=by grind
      refine(h2 hob a E.w ⟨hd,E,rfl,hi⟩ b cs).of_steps ?_;rw [<-hcode];exact .one (step_cond hev)
     grind
    |region id ops draw=>
     simp only [run] at h;split at h
     ·rename_i ks hks;split at h
      ·split at h
       ·rename_i σ' hσ;cases h;exact⟨fun p hp=>YU.2 hp,fun hob a w hR b cs=>⟨a,w,n8 (l0 hσ hext hR),.refl _ _⟩⟩
       grind
      grind
     ·cases draw with
      |false=>
       simp only [jF] at h;split at h
       ·rename_i r1 hr;split at h
        ·rename_i σ' hσ;obtain⟨h1,h2⟩:=ih _ _ _ _ h;have hob1:∀p∈r1.ob,p∈fY res:=h1;refine⟨fun p hp=>hob1 p (qO hr p hp),fun hob a w hR b cs=> ?_⟩;have hwp:(Code.region id ops false).wp C.P (fun e a' w' =>e= .normal/\R C r1.σ a' w') a w:=by
          refine wp_region ?_;rw [List.range_eq_range'];have:=yA (Q:=fun e a' w' =>e= .normal/\R C r1.σ a' w') htt hnt hr (by simp) hR ⟨by simp⟩ (fun p hp=>hob p (hob1 p hp)) (fun a' w' h=>⟨rfl,h⟩)
          grind
         obtain⟨e,a',w',⟨rfl,hR'⟩,harr⟩:=hwp b k cs;exact(h2 hob a' w' (l0 hσ hext hR') b cs).of_steps harr
        grind
       grind
      |true=>
       simp only [jT] at h;split at h
       ·rename_i r1 lg hr;split at h
        ·rename_i ps hok;split at h
         ·rename_i σ' hσ;obtain⟨h1,h2⟩:=ih _ _ _ _ h;have hob1:∀p∈ps++r1.ob,p∈fY res:=h1;have hob2:∀p∈r1.ob,p∈fY res:=fun p hp=>hob1 p (Y8 _ hp);refine⟨fun p hp=>hob2 p ((qN hr).2.1 p hp),fun hob a w hR b cs=> ?_⟩;have hwp:(Code.region id ops true).wp C.P (fun e a' w' =>e= .normal/\R C r1.σ a' w') a w:=by
           refine wp_region_any hmix ?_;exact tZ (Q:=fun e a' w' =>e= .normal/\R C r1.σ a' w') htt hnt hr hok (fun p hp=>hob p (hob1 p (List.mem_append_left _ hp))) (R.drew hR rfl rfl rfl rfl) (fun p hp=>hob p (hob2 p hp)) (fun a' w' h=>⟨rfl,h⟩)
          obtain⟨e,a',w',⟨rfl,hR'⟩,harr⟩:=hwp b k cs;exact(h2 hob a' w' (l0 hσ hext hR') b cs).of_steps harr
         grind
        grind
       grind
    |_=>grind [run]
   |inBlock id=>
    obtain⟨h1,h2⟩:=ih _ _ _ _ h;exact⟨h1,fun hob a w hR b cs=>(h2 hob a w hR b cs).of_steps (.one step_inBlock)⟩
   |inLoop x=>
    obtain⟨h1,h2⟩:=ih _ _ _ _ h;exact⟨h1,fun hob a w hR b cs=>(h2 hob a w hR b cs).of_steps (.one step_inLoop)⟩
   |_=>grind [run]
end
structure FnOk (P:Program) (f:FuncId) (fn:Func) (I:Info):Prop where
 get:P.funcs[f]? =some fn
 body:fn.body=some I.body
 nt:fn.ntmps=I.nt
 res:fn.results.toList=I.results
 name:(fn.name== "runtime.NumGoroutine")=false
def Reach(P:Program)(fn:Func)(I:Info)(stk:List Item)(σ:St)(ro:CallO):Prop:=
 ∀C:Ctx,C.P=P->C.nt=I.nt->(∀s b,C.ext s=some b->s∈I.ext)->∀a w,R C σ a w->∀(b:Frame) (cs:List Frame),
  ∃a' w' todo,kW C fn I ro a' w' /\Steps P (lone (b.at a stk) cs w) (lone { b.at a' todo with mode:= .returning } cs w')
section
variable {P:Program} {tt:TT} {f:FuncId} {fn:Func} {I:Info}
theorem Reach.done(htt:aP P tt)(hmix:P.follows .mixedOrders=true)(hf:FnOk P f fn I){n:Nat}{first:Bool}{stk:List Item}{σ:St}{bs:List Bool}{cs:List CallO}{ro:CallO}{ob:List Prop}
 (h:run tt (AbsCalls P) I n first stk ⟨σ,bs,cs,[]⟩=some (.done ro ob)) (hob:∀p∈ob,p):Reach P fn I stk σ ro:=by
 intro C hP hnt hext a w hR b cs;subst hP;exact(qZ htt hf.res hnt hext hmix n first stk _ _ h).2 hob a w hR b cs
theorem Reach.stop(htt:aP P tt)(hmix:P.follows .mixedOrders=true)(hf:FnOk P f fn I){n:Nat}{first:Bool}{stk stk' :List Item}{σ σ' :St}{bs:List Bool}{cs:List CallO}{ro:CallO}{ob:List Prop}
 (h:run tt (AbsCalls P) I n first stk ⟨σ,bs,cs,[]⟩=some (.stop stk' σ' ob)) (hob:∀p∈ob,p) (hr:Reach P fn I stk' σ' ro):Reach P fn I stk σ ro:=by
 intro C hP hnt hext a w hR b cs;have hr:=hr C hP hnt hext;subst hP;obtain⟨a1,w1,h1,h2⟩:=(qZ htt hf.res hnt hext hmix n first stk _ _ h).2 hob a w hR b cs;obtain⟨a',w',todo,h3,h4⟩:=hr a1 w1 h1 b cs;exact⟨a',w',todo,h3,h2.trans h4⟩
def bF:Nat->List Arg->St
 |_,[]=> []
 |i,.val a::as=>(2*i,a)::bF (i+1) as
 |i,.box cs::as=>(2*i,.v false [.ptr i 0])::(2*i+1,.v true cs)::bF (i+1) as
 |i,.gbox cs::as=>(2*gi i+1,.v true cs)::bF (i+1) as
theorem sY:∀ {as:List Arg} {i s:Nat},s∈aK i as↔∃(j:Nat) (cs:List CV),(s=i+j/\as[j]? =some (.box cs))\/(s=gi (i+j)/\as[j]? =some (.gbox cs)):=by
 intro as
 induction as with
 |nil=>grind [aK]
 |cons x as ih=>
  intro i s
  have up:(∃(j:Nat) (cs:List CV),(s=i+1+j/\as[j]? =some (.box cs))\/(s=gi (i+1+j)/\as[j]? =some (.gbox cs)))->
   ∃(j:Nat) (cs:List CV),(s=i+j/\(x::as)[j]? =some (.box cs))\/(s=gi (i+j)/\(x::as)[j]? =some (.gbox cs)):=by
   rintro ⟨j,cs,⟨rfl,h⟩|⟨rfl,h⟩⟩
   ·grind
   ·exact⟨j+1,cs,.inr ⟨by grind,by grind⟩⟩
  have down:∀ {j:Nat} {cs:List CV},(s=i+(j+1)/\(x::as)[j+1]? =some (.box cs))\/(s=gi (i+(j+1))/\(x::as)[j+1]? =some (.gbox cs))->
   ∃(j:Nat) (cs:List CV),(s=i+1+j/\as[j]? =some (.box cs))\/(s=gi (i+1+j)/\as[j]? =some (.gbox cs)):=by
   grind
  cases x with
  |val a=>
   grind [aK]
  |box cs0=>
   rw [aK,Zh,ih];constructor
   ·rintro (rfl|h)
    all_goals grind
   grind
  |gbox cs0=>
   rw [aK,Zh,ih];constructor
   ·rintro (rfl|h)
    ·exact⟨0,cs0,.inr ⟨rfl,rfl⟩⟩
    grind
   grind
theorem sB{E E' :Env}:∀ {as:List Arg} {k:Nat} {outs:List (List CV)},outs.length=(aK k as).length->
 (∀(n s:Nat) (o:List CV),(aK k as)[n]? =some s->outs[n]? =some o->bS E' s (E.bx s) o)->cU E E' k as outs:=by
 intro as
 induction as with
 |nil=>grind [cU,aK]
 |cons x as ih=>
  intro k outs h hh;cases x with
  |val a=>exact ih (k:=k+1) h hh
  |box cs=>
   cases outs with
   |nil=>grind [aK]
   |cons o os=>exact⟨hh 0 k o rfl rfl,ih (k:=k+1) (by grind [aK]) fun n s o' h1 h2=>hh (n+1) s o' (by grind [aK]) (by grind)⟩
  |gbox cs=>
   cases outs with
   |nil=>grind [aK]
   |cons o os=>exact⟨hh 0 _ o rfl rfl,ih (k:=k+1) (by grind [aK]) fun n s o' h1 h2=>hh (n+1) s o' (by grind [aK]) (by grind)⟩
theorem wL:∀ {as:List Arg} {i n:Nat} {t:Nat×Nat},(bI i as)[n]? =some t->∃q,t.1=2*q:=by
 intro as
 induction as with
 |nil=>grind [bI]
 |cons x as ih=>
  intro i n t h;cases x with
  |val y=>
   cases y with
   |v g cs=>
    simp only [bI] at h;by_cases hn:n<(bG (2*i) 0 cs).length
    ·rw [Z0 hn] at h;exact⟨i,(fW h).1⟩
    grind
   |_=>exact ih (i:=i+1) h
  |box cs=>exact ih (i:=i+1) h
  |gbox cs=>exact ih (i:=i+1) h
theorem oG:∀ {as:List Arg} {i:Nat} (q:Nat),St.get (bF i as) q= .none\/∃(j:Nat) (s:List Nat) (m:Bool),
 (∃a,as[j]? =some (.val a)/\q=2*(i+j)/\St.get (bF i as) q=a.mapC (CV.stale s m))\/
 (∃cs,as[j]? =some (.box cs)/\q=2*(i+j)/\St.get (bF i as) q= .v false [.ptr (i+j) 0])\/
 (∃cs,as[j]? =some (.box cs)/\q=2*(i+j)+1/\St.get (bF i as) q= .v true (cs.map (CV.stale s m)))\/
 (∃cs,as[j]? =some (.gbox cs)/\q=2*gi (i+j)+1/\St.get (bF i as) q= .v true (cs.map (CV.stale s m))):=by
 intro as
 induction as with
 |nil=>intro i q;exact .inl rfl
 |cons x as ih=>
  intro i q
  have tail:∀(k:Nat) (v:AV) (S:St),(St.get S q= .none\/∃(j:Nat) (s:List Nat) (m:Bool),
   (∃a,(x::as)[j]? =some (.val a)/\q=2*(i+j)/\St.get S q=a.mapC (CV.stale s m))\/
   (∃cs,(x::as)[j]? =some (.box cs)/\q=2*(i+j)/\St.get S q= .v false [.ptr (i+j) 0])\/
   (∃cs,(x::as)[j]? =some (.box cs)/\q=2*(i+j)+1/\St.get S q= .v true (cs.map (CV.stale s m)))\/
   (∃cs,(x::as)[j]? =some (.gbox cs)/\q=2*gi (i+j)+1/\St.get S q= .v true (cs.map (CV.stale s m))))->k≠q->
   (St.get ((k,v)::S) q= .none\/∃(j:Nat) (s:List Nat) (m:Bool),
   (∃a,(x::as)[j]? =some (.val a)/\q=2*(i+j)/\St.get ((k,v)::S) q=a.mapC (CV.stale s m))\/
   (∃cs,(x::as)[j]? =some (.box cs)/\q=2*(i+j)/\St.get ((k,v)::S) q= .v false [.ptr (i+j) 0])\/
   (∃cs,(x::as)[j]? =some (.box cs)/\q=2*(i+j)+1/\St.get ((k,v)::S) q= .v true (cs.map (CV.stale s m)))\/
   (∃cs,(x::as)[j]? =some (.gbox cs)/\q=2*gi (i+j)+1/\St.get ((k,v)::S) q= .v true (cs.map (CV.stale s m)))):=by
   intro k v S h hk;rw [St.get_cons,Za hk];have comp:∀(s:List Nat) (m:Bool) (c:CV),(c.stale s m).stale [k] (k.beq aC)=c.stale (s++ [k]) (m||k.beq aC):=fun s m c=>CV.stale_stale c (fun q=>by simp) rfl;rcases h with h|⟨j,s,m,⟨a,h1,h2,h3⟩|⟨cs,h1,h2,h3⟩|⟨cs,h1,h2,h3⟩|⟨cs,h1,h2,h3⟩⟩
   ·exact .inl (by rw [h];rfl)
   ·refine .inr ⟨j,s++ [k],m||k.beq aC,.inl ⟨a,h1,h2,?_⟩⟩;rw [h3,AV.mapC_comp];congr 1;grind
   ·grind [AV.mapC,CV.stale,CV.onKey,CV.isBor]
   ·refine .inr ⟨j,s++ [k],m||k.beq aC,.inr (.inr (.inl ⟨cs,h1,h2,?_⟩))⟩;rw [h3];simp only [AV.mapC,Yi];grind [List.map_congr_left]
   ·refine .inr ⟨j,s++ [k],m||k.beq aC,.inr (.inr (.inr ⟨cs,h1,h2,?_⟩))⟩;rw [h3];simp only [AV.mapC,Yi];grind [List.map_congr_left]
  have sub:St.get (bF (i+1) as) q= .none\/∃(j:Nat) (s:List Nat) (m:Bool),
   (∃a,(x::as)[j]? =some (.val a)/\q=2*(i+j)/\St.get (bF (i+1) as) q=a.mapC (CV.stale s m))\/
   (∃cs,(x::as)[j]? =some (.box cs)/\q=2*(i+j)/\St.get (bF (i+1) as) q= .v false [.ptr (i+j) 0])\/
   (∃cs,(x::as)[j]? =some (.box cs)/\q=2*(i+j)+1/\St.get (bF (i+1) as) q= .v true (cs.map (CV.stale s m)))\/
   (∃cs,(x::as)[j]? =some (.gbox cs)/\q=2*gi (i+j)+1/\St.get (bF (i+1) as) q= .v true (cs.map (CV.stale s m))):=by
   rcases ih (i:=i+1) q with h|⟨j,s,m,h⟩
   ·grind
   ·refine .inr ⟨j+1,s,m,?_⟩
    grind
  cases x with
  |val a=>
   rw [bF];by_cases hk:2*i=q
   ·refine .inr ⟨0,[],false,.inl ⟨a,rfl,hk.symm,?_⟩⟩
    grind [St.get_cons,AV.mapC_id,CV.stale_nil]
   grind
  |box cs=>
   rw [bF];by_cases hk:2*i=q
   ·refine .inr ⟨0,[],false,.inr (.inl ⟨cs,rfl,hk.symm,?_⟩)⟩
    grind [St.get_cons]
   ·by_cases hk2:2*i+1=q
    ·refine .inr ⟨0,[2*i],(2*i).beq aC,.inr (.inr (.inl ⟨cs,rfl,hk2.symm,?_⟩))⟩;rw [St.get_cons,Za hk,St.get_cons,Zt hk2];rfl
    ·exact tail _ _ _ (tail _ _ _ sub hk2) hk
  |gbox cs=>
   rw [bF];by_cases hk2:2*gi i+1=q
   ·refine .inr ⟨0,[],false,.inr (.inr (.inr ⟨cs,rfl,hk2.symm,?_⟩))⟩;rw [St.get_cons,Zt hk2];exact(AV.mapC_id CV.stale_nil (.v true cs)).symm
   grind
theorem rP{E:Env}:∀ {as:List Arg} {vs:List Value} {i:Nat},ArgsAt E i as vs->vs.length<=as.length/\∀(j:Nat) (x:Arg),as[j]? =some x->
 (∃cs,x= .gbox cs/\vs.length<=j/\bS E (gi (i+j)) (E.bx (gi (i+j))) cs)\/∃v,vs[j]? =some v/\iR E (i+j) x v:=by
 intro as
 induction as with
 |nil=>grind [ArgsAt]
 |cons x as ih=>
  intro vs i h;cases vs with
  |nil=>
   cases x with
   |val a=>exact h.elim
   |box cs=>exact h.elim
   |gbox cs=>
    obtain⟨h0,h1⟩:=h
    grind
  |cons v vs=>
   have h:iR E i x v/\ArgsAt E (i+1) as vs:=by cases x <;>exact h
   obtain⟨i1,i2⟩:=ih h.2;refine⟨by grind,fun j y hy=> ?_⟩;cases j with
   |zero=>grind
   |succ j=>
    grind
def CV.refOk(bs:List Nat):CV->Bool
 | .ptr _ _=>false
 | .clo _ ss=>ss.all fun s=>bs.contains s
 |_=>true
def Arg.refOk(bs:List Nat):Arg->Bool
 | .val (.v _ cs)=>cs.all (CV.refOk bs)
 | .val .none=>true
 | .val (.tup _)=>false
 | .box cs=>cs.all (CV.refOk bs)
 | .gbox cs=>cs.all (CV.refOk bs)
def sQ(as:List Arg):Bool:=as.all (Arg.refOk (aK 0 as))
theorem AbsCalls.of_reach(hf:FnOk P f fn I){as:List Arg}{ro:CallO}(hwf:sQ as=true)(hext:I.ext=aK 0 as)(hlen:(bI 0 as).length=I.lnt.length)(hn:as.length<=I.nt)(h:Reach P fn I [.code I.body] (bF 0 as) ro):
 AbsCalls P f as ro:=by
 intro E args hE hB hA;obtain⟨g1,g2⟩:=rP hA;have hbody:fn.body.isNone=false:=by rw [hf.body];rfl
 refine .inr ⟨?_,?_⟩
 ·unfold callFunc;simp only [Sem.run_bind,run_program,Result.andThen_ok,hf.get,hf.name,hbody]
  rfl
 ·intro cs
  let b:Frame:= { (default:Frame) with fn:=f,kind:= .normal }
  have henter:Frame.enter P f args .normal=b.at { tmps:=args++Array.replicate (fn.ntmps - args.size) undef,defers:=[] } [.code I.body]:=by
   simp [Frame.enter,Frame.at,hf.get,hf.body,b]
  let C:Ctx:=⟨P,E.w.heap.size,E.w,E.hw,E.ow,E.hdr,I.nt,fun s=>if s∈aK 0 as then some (E.bx s) else none⟩
  have hsz:args.size<=as.length:=by grind
  have htm:∀j,(args++Array.replicate (fn.ntmps - args.size) undef).getD j undef=args.getD j undef:=by
   intro j;simp only [Yy]
   grind
  have hbx:∀s,s∈aK 0 as->aA (St.get (bF 0 as)) s:=by
   have push:∀(k:Nat) (v:AV) (S:St) (q:Nat),k≠q->(∃cs',St.get S q= .v true cs')->∃cs',St.get ((k,v)::S) q= .v true cs' :=by
    rintro k v S q hk ⟨cs',h⟩;rw [St.get_cons,Za hk,h];exact⟨_,rfl⟩
   have key:∀ {as:List Arg} {i s:Nat},s∈aK i as->∃cs',St.get (bF i as) (2*s+1)= .v true cs' :=by
    intro as
    induction as with
    |nil=>intro i s h;cases h
    |cons x as ih=>
     intro i s h;cases x with
     |val a=>rw [bF];exact push _ _ _ _ (by omega) (ih h)
     |box cs=>
      rw [bF];refine push _ _ _ _ (by omega) ?_;by_cases e:2*i+1=2*s+1
      ·rw [St.get_cons,Zt e];grind
      ·rcases Zh.1 h with rfl|h
       ·grind
       ·exact push _ _ _ _ e (ih h)
     |gbox cs=>
      rw [bF];by_cases e:2*gi i+1=2*s+1
      ·rw [St.get_cons,Zt e];grind
      ·rcases Zh.1 h with rfl|h
       ·grind
       ·exact push _ _ _ _ e (ih h)
   exact fun s hs=>key hs
  have hcell:∀ {pl:Pl} {j:Nat} {x:CV} {v:Value},x.refOk (aK 0 as)=true->VRc E aL pl j x v->VRc E (aA (St.get (bF 0 as))) pl j x v:=fun {pl j x v} hx hv=>
   hv.rebox (fun s off e=>by subst e;cases hx) fun k ss e s hm=>by subst e;exact hbx s (Z2.1 (Zx.1 hx s hm))
  have hR:R C (bF 0 as) { tmps:=args++Array.replicate (fn.ntmps - args.size) undef,defers:=[] } E.w:=by
   refine⟨rfl,E,rfl,⟨rfl,rfl,rfl,Zn _,rfl,fun b hb h0=>⟨rfl,rfl,h0⟩,hE.new,hE.inj,hE.boxhw,?_,fun t=> ?_,fun s cs' hg=> ?_,fun s b hs=> ?_,hB⟩⟩
   ·show(args++Array.replicate (fn.ntmps - args.size) undef).size=I.nt;rw [Array.size_append,Array.size_replicate,hf.nt];omega
   ·have h0:=htm t;show VR E _ _ _ ((args++Array.replicate (fn.ntmps - args.size) undef).getD t undef);rw [h0];rcases oG (as:=as) (i:=0) (2*t) with hg|⟨j,s,m,⟨a,h1,h2,h3⟩|⟨cs,h1,h2,h3⟩|⟨cs,h1,h2,h3⟩|⟨cs,h1,h2,h3⟩⟩
    ·rw [hg];trivial
    ·have hjt:t=j:=by omega
     subst hjt;rw [h3];obtain⟨cs',e,_⟩|⟨v,hv,hav⟩:=g2 t _ h1
     ·cases e
     have:args.getD t undef=v:=by
      simp_all
     rw [this];rw [Zc] at hav;have hwa:=Zx.1 hwf _ (Zy h1);refine VR.imp (fun j x v hm hv=> ?_) hav;rcases CV.stale_eq (s:=s) (m:=m) x with e|⟨e,_⟩
     ·rw [e];exact hv.one
     ·rw [e];refine hcell ?_ hv;cases a with
      |v g cs=>exact Zx.1 hwa x hm
      |tup xs=>cases hwa
      |none=>exact hm.elim
    ·have hjt:t=j:=by omega
     subst hjt;rw [h3];obtain⟨cs',e,_⟩|⟨v,hv,hav⟩:=g2 t _ h1
     ·cases e
     have:args.getD t undef=v:=by
      simp_all
     rw [this];rw [Zc] at hav ⊢;exact⟨⟨hav.1,hbx t (sY.2 ⟨t,cs,.inl ⟨by omega,h1⟩⟩)⟩,trivial⟩
    all_goals grind
   ·rcases oG (as:=as) (i:=0) (2*s+1) with hg0|⟨j,s1,m,⟨a,h1,h2,h3⟩|⟨cs,h1,h2,h3⟩|⟨cs,h1,h2,h3⟩|⟨cs,h1,h2,h3⟩⟩
    ·grind
    ·omega
    ·omega
    ·have hjt:s=j:=by omega
     subst hjt;rw [h3] at hg;cases hg;obtain⟨cs',e,_⟩|⟨v,hv,hav⟩:=g2 s _ h1
     ·cases e
     rw [Zc] at hav;obtain⟨_,b1,vals,ty,b2,b3⟩:=hav;have hwa:=Zx.1 hwf _ (Zy h1);refine⟨b1,vals,ty,b2,VRs.imp (fun j x v hm hv=> ?_) b3⟩;rcases CV.stale_eq (s:=s1) (m:=m) x with e|⟨e,_⟩
     ·rw [e];exact hv.one
     ·rw [e];exact hcell (Zx.1 hwa x hm) hv
    ·have hjt:s=gi (0+j):=by omega
     rw [h3] at hg;cases hg;obtain⟨cs',e,_,hb⟩|⟨v,hv,hav⟩:=g2 j _ h1
     ·cases e;rw [<-hjt] at hb;obtain⟨b1,vals,ty,b2,b3⟩:=hb;have hwa:=Zx.1 hwf _ (Zy h1);refine⟨b1,vals,ty,b2,VRs.imp (fun j x v hm hv=> ?_) b3⟩;rcases CV.stale_eq (s:=s1) (m:=m) x with e|⟨e,_⟩
      ·rw [e];exact hv.one
      ·rw [e];exact hcell (Zx.1 hwa x hm) hv
     ·exact hav.elim
   grind
  obtain⟨a',w',todo,⟨hd,hdone⟩,hsteps⟩:=h C rfl rfl (fun s b hs=>by
   grind) _ _ hR b cs
  obtain⟨v,Ef,E',rfl,⟨σf,hif⟩,hres,hfin⟩:=hdone (bI 0 as) hlen (fun n n' t=>pM) (fun n t=>wL) as.length;refine⟨.returned v,Ef.w,{ b.at a' todo with mode:= .returning },⟨E',hfin.w,?_⟩,?_,rfl,⟨rfl,hd,rfl,fn,hf.get,hres⟩⟩
  ·refine⟨by rw [hfin.w];exact hif.os,by rw [hfin.w];exact hif.tape,by rw [hfin.w];exact hif.output,by rw [hfin.w];exact hif.size,by rw [hfin.hdr];exact hif.hdr,fun b hb h0=> ?_,hfin.env,hfin.res,?_,hfin.lents,fun s hs=>by
    have he:C.ext s=some (E.bx s):=by grind
    rw [hfin.bx];exact(hif.ext s _ he).2⟩
   ·obtain⟨a1,a2,a3⟩:=hif.old b hb h0;exact⟨by rw [hfin.w];grind,by rw [hfin.hw];grind,hfin.ow b a3⟩
   ·have hl:=hfin.outl;have ho:=hfin.outs;rw [hext] at hl ho;refine sB hl fun n s o h1 h2=> ?_;have hm:s∈aK 0 as:=Zy h1;have he:C.ext s=some (E.bx s):=by grind
    rw [<-(hif.ext s _ he).2]
    grind
  ·rw [henter];exact hsteps
end
theorem zY{α:Type}{p:Prop} [Decidable p]{x:Option α}{r:α}(h:(if p then x else none)=some r):p/\x=some r:=by
 grind
theorem zS{α β:Type}{o:Option α}{f:α->Option β}{r:β}(h:Option.bind o f=some r):∃a,o=some a/\f a=some r:=Zq.1 h
theorem zU{α:Type}{b:Bool}{x y:Option α}{r:α}(h:cond b x y=some r):(b=true/\x=some r)\/(b=false/\y=some r):=by
 grind
theorem AC{x b:Bool}(h:x=b):(!x)= !b:=by rw [h]
theorem AE{x b:Bool}(h:(!x)=b):x= !b:=by simp_all
theorem zW{x c d:Int}(h:(x==c)=true)(hcd:(c==d)=false):(x==d)=false:=by grind
theorem AD{p:Prop}{l:List Prop}(h:p)(t:∀q∈l,q):∀q∈p::l,q:=by
 grind
end Go.Ab
end
section
namespace Go.Ab
variable [Inhabited Lb]
open Go.ChangeShapes Go.WideShapes Go.ChangeAt Go.RowKit
inductive CK where
 |int (k:IntKind) |bool|str|sl (e:TypeId)
def cX(P:Program):Nat->TypeId->Option (List CK)
 |0,_=>none
 |d+1,t=>match P.underlying t with
  |some (.int k)=>some [.int k]
  |some .bool=>some [.bool]
  |some .string=>some [.str]
  |some (.slice e)=>some [.sl e]
  |some (.struct fs)=>kindsFs (fun t=>cX P d t) fs.toList
  |_=>none
where kindsFs (f:TypeId->Option (List CK)):List Field->Option (List CK)
 | []=>some []
 |fl::fs=>match f fl.type,kindsFs f fs with
  |some a,some b=>some (a++b)
  |_,_=>none
def kF(P:Program)(f:TypeId->Option (List CK)):Nat->List Field->Bool
 |_,[]=>true
 |o,fl::fs=>match f fl.type with
  |some a=>fl.offset.beq o&&(P.cellsOf fl.type).beq a.length&&kF P f (o+a.length) fs
  |none=>false
def fA(P:Program):Nat->TypeId->Bool
 |0,_=>false
 |d+1,t=>match P.underlying t with
  |some (.struct fs)=>kF P (fun t=>cX P d t) 0 fs.toList&&fs.toList.all (fun fl=>fA P d fl.type)&&match cX.kindsFs (fun t=>cX P d t) fs.toList with
    |some ks=>(P.cellsOf t).beq ks.length
    |none=>false
  |some _=>(P.cellsOf t).beq 1
  |none=>false
def Ty.kinds:Ty->List (CK ⊕ Ty)
 | .int=> [.inl (.int .i64)]
 | .byte=> [.inl (.int .u8)]
 | .str=> [.inl .str]
 | .org=> [.inl (.int .i64),.inl (.int .i64)]
 | .row=> [.inr .int,.inr .org]
 | .val=> [.inl (.int .i64),.inl (.int .i64),.inl (.int .i64),.inl .str,.inr .val,.inr .str,.inr .row]
 | .exp=> [.inl (.int .i64),.inl (.int .i64),.inl .str,.inr .exp]
 | .fil=> [.inl .str,.inl (.int .i64)]
 | .tok=> [.inl (.int .i64),.inl (.int .i64),.inl (.int .i64),.inl .str]
 | .rea=> [.inl (.int .i64),.inl (.int .i64),.inl (.int .i64),.inl .str,.inl (.int .i64),.inl (.int .i64),.inl (.int .i64),.inl .str,.inr .val,.inr .str,.inr .row]
 | .bnd=> [.inl .str,.inl (.int .i64),.inl (.int .i64),.inl (.int .i64),.inl .str,.inr .val,.inr .str,.inr .row]
 | .cel=> [.inl (.int .i64),.inl (.int .i64),.inl (.int .i64),.inl .str,.inl .str,.inl (.int .i64)]
abbrev KT:=List (TypeId×Ty)
def KT.get:KT->TypeId->Option Ty
 | [],_=>none
 |(k,v)::r,q=>cond (k.beq q) (some v) (KT.get r q)
def CK.name(K:KT):CK->Option (CK ⊕ Ty)
 | .sl e=>(K.get e).map .inr
 |k=>some (.inl k)
def cP(K:KT):List CK->Option (List (CK ⊕ Ty))
 | []=>some []
 |k::ks=>match k.name K,cP K ks with
  |some a,some b=>some (a::b)
  |_,_=>none
def lJ:CK ⊕ Ty->CK ⊕ Ty->Bool
 | .inl (.int k),.inl (.int k')=>decide (k=k')
 | .inl .bool,.inl .bool=>true
 | .inl .str,.inl .str=>true
 | .inr T,.inr U=>decide (T=U)
 |_,_=>false
def gT:List (CK ⊕ Ty)->List (CK ⊕ Ty)->Bool
 | [],[]=>true
 |a::as,b::bs=>lJ a b&&gT as bs
 |_,_=>false
def iF(P:Program)(K:KT):Bool:=K.all fun x=>fA P 8 x.1&&(P.cellsOf x.1).beq x.2.sz&&match cX P 8 x.1 with
 |some ks=>match cP K ks with
  |some ns=>gT ns x.2.kinds
  |none=>false
 |none=>false
theorem tS{a b:CK ⊕ Ty}(h:lJ a b=true):a=b:=by
 unfold lJ at h
 grind
theorem lK:∀ {a b:List (CK ⊕ Ty)},gT a b=true->a=b
 | [],[],_=>rfl
 |a::as,b::bs,h=>by
  simp only [gT,Zu] at h;rw [tS h.1,lK h.2]
theorem KT.mem{K:KT}{e:TypeId}{T:Ty}(h:K.get e=some T):(e,T)∈K:=by
 induction K with
 |nil=>cases h
 |cons x r ih=>
  grind [KT.get,Nat.eq_of_beq_eq_true]
def CV.isOf:CV->CK ⊕ Ty->Prop
 | .int k _,.inl (.int k')=>k=k'
 | .bool _,.inl .bool=>True
 | .str _,.inl .str=>True
 | .sl .ro T _,.inr U=>T=U
 |_,_=>False
inductive AreOf:List CV->List (CK ⊕ Ty)->Prop where
 |nil:AreOf [] []
 |cons {c k cs ks} (h:CV.isOf c k) (t:AreOf cs ks):AreOf (c::cs) (k::ks)
theorem AreOf.app{a b:List CV}{x y:List (CK ⊕ Ty)}(h:AreOf a x)(h' :AreOf b y):AreOf (a++b) (x++y):=by
 induction h with
 |nil=>grind
 |cons h _ ih=>exact .cons h ih
theorem wB{c:CV}{k:IntKind}(h:c.isOf (.inl (.int k))):∃n,c= .int k n:=by
 cases c with
 |int k' n=>obtain rfl:k' =k:=h;grind
 |sl f T xs=>cases f <;>exact h.elim
 |_=>exact h.elim
theorem wD{c:CV}(h:c.isOf (.inl .str)):∃s,c= .str s:=by
 cases c with
 |str b=>grind
 |sl f T xs=>cases f <;>exact h.elim
 |_=>exact h.elim
theorem wC{c:CV}{T:Ty}(h:c.isOf (.inr T)):∃xs,c= .sl .ro T xs:=by
 cases c with
 |sl f U xs=>
  cases f with
  |ro=>obtain rfl:U=T:=h;grind
  |_=>exact h.elim
 |_=>exact h.elim
theorem AreOf.int_inv{cs:List CV}{k:IntKind}{ks:List (CK ⊕ Ty)}(h:AreOf cs (.inl (.int k)::ks)):∃n r,cs= .int k n::r/\AreOf r ks:=by
 cases h with |cons h t=>grind [wB]
theorem AreOf.str_inv{cs:List CV}{ks:List (CK ⊕ Ty)}(h:AreOf cs (.inl .str::ks)):∃s r,cs= .str s::r/\AreOf r ks:=by
 cases h with |cons h t=>grind [wD]
theorem AreOf.sl_inv{cs:List CV}{T:Ty}{ks:List (CK ⊕ Ty)}(h:AreOf cs (.inr T::ks)):∃xs r,cs= .sl .ro T xs::r/\AreOf r ks:=by
 cases h with |cons h t=>grind [wC]
theorem AreOf.nil_inv{cs:List CV}(h:AreOf cs []):cs=[]:=by cases h;rfl
theorem AreOf.elem{T:Ty}{cs:List CV}(h:AreOf cs T.kinds):∃y:T.den,cs=T.enc .ro y:=by
 cases T with
 |int=>obtain⟨n,_,rfl,h1⟩:=AreOf.int_inv h;obtain rfl:=h1.nil_inv;exact⟨n,rfl⟩
 |byte=>obtain⟨n,_,rfl,h1⟩:=AreOf.int_inv h;obtain rfl:=h1.nil_inv;exact⟨n,rfl⟩
 |str=>obtain⟨n,_,rfl,h1⟩:=AreOf.str_inv h;obtain rfl:=h1.nil_inv;exact⟨n,rfl⟩
 |org=>obtain⟨a,_,rfl,h1⟩:=AreOf.int_inv h;obtain⟨b,_,rfl,h2⟩:=AreOf.int_inv h1;obtain rfl:=h2.nil_inv;exact⟨(⟨a,b⟩:Org),rfl⟩
 |row=>obtain⟨a,_,rfl,h1⟩:=AreOf.sl_inv h;obtain⟨b,_,rfl,h2⟩:=AreOf.sl_inv h1;obtain rfl:=h2.nil_inv;exact⟨(⟨a,b⟩:Rowd),rfl⟩
 |val=>
  obtain⟨a,_,rfl,h1⟩:=AreOf.int_inv h;obtain⟨b,_,rfl,h2⟩:=AreOf.int_inv h1;obtain⟨c,_,rfl,h3⟩:=AreOf.int_inv h2;obtain⟨d,_,rfl,h4⟩:=AreOf.str_inv h3;obtain⟨e,_,rfl,h5⟩:=AreOf.sl_inv h4;obtain⟨f,_,rfl,h6⟩:=AreOf.sl_inv h5;obtain⟨g,_,rfl,h7⟩:=AreOf.sl_inv h6;obtain rfl:=h7.nil_inv;exact⟨Val.mk a b c d e f g,rfl⟩
 |exp=>
  obtain⟨a,_,rfl,h1⟩:=AreOf.int_inv h;obtain⟨b,_,rfl,h2⟩:=AreOf.int_inv h1;obtain⟨d,_,rfl,h3⟩:=AreOf.str_inv h2;obtain⟨e,_,rfl,h4⟩:=AreOf.sl_inv h3;obtain rfl:=h4.nil_inv;exact⟨Exp.mk a b d e,rfl⟩
 |fil=>obtain⟨a,_,rfl,h1⟩:=AreOf.str_inv h;obtain⟨b,_,rfl,h2⟩:=AreOf.int_inv h1;obtain rfl:=h2.nil_inv;exact⟨(⟨a,b⟩:Fil),rfl⟩
 |tok=>
  obtain⟨a,_,rfl,h1⟩:=AreOf.int_inv h;obtain⟨b,_,rfl,h2⟩:=AreOf.int_inv h1;obtain⟨c,_,rfl,h3⟩:=AreOf.int_inv h2;obtain⟨d,_,rfl,h4⟩:=AreOf.str_inv h3;obtain rfl:=h4.nil_inv;exact⟨(⟨a,b,c,d⟩:Tok),rfl⟩
 |rea=>
  obtain⟨k,_,rfl,h1⟩:=AreOf.int_inv h;obtain⟨n,_,rfl,h2⟩:=AreOf.int_inv h1;obtain⟨m,_,rfl,h3⟩:=AreOf.int_inv h2;obtain⟨s,_,rfl,h4⟩:=AreOf.str_inv h3;obtain⟨a,_,rfl,h5⟩:=AreOf.int_inv h4;obtain⟨b,_,rfl,h6⟩:=AreOf.int_inv h5;obtain⟨c,_,rfl,h7⟩:=AreOf.int_inv h6;obtain⟨d,_,rfl,h8⟩:=AreOf.str_inv h7;obtain⟨e,_,rfl,h9⟩:=AreOf.sl_inv h8;obtain⟨f,_,rfl,h10⟩:=AreOf.sl_inv h9;obtain⟨g,_,rfl,h11⟩:=AreOf.sl_inv h10;obtain rfl:=h11.nil_inv;exact⟨(⟨k,n,m,s,Val.mk a b c d e f g⟩:Rea),rfl⟩
 |bnd=>
  obtain⟨s,_,rfl,h1⟩:=AreOf.str_inv h;obtain⟨a,_,rfl,h2⟩:=AreOf.int_inv h1;obtain⟨b,_,rfl,h3⟩:=AreOf.int_inv h2;obtain⟨c,_,rfl,h4⟩:=AreOf.int_inv h3;obtain⟨d,_,rfl,h5⟩:=AreOf.str_inv h4;obtain⟨e,_,rfl,h6⟩:=AreOf.sl_inv h5;obtain⟨f,_,rfl,h7⟩:=AreOf.sl_inv h6;obtain⟨g,_,rfl,h8⟩:=AreOf.sl_inv h7;obtain rfl:=h8.nil_inv;exact⟨(⟨s,Val.mk a b c d e f g⟩:Bnd),rfl⟩
 |cel=>
  obtain⟨a,_,rfl,h1⟩:=AreOf.int_inv h;obtain⟨b,_,rfl,h2⟩:=AreOf.int_inv h1;obtain⟨c,_,rfl,h3⟩:=AreOf.int_inv h2;obtain⟨d,_,rfl,h4⟩:=AreOf.str_inv h3;obtain⟨e,_,rfl,h5⟩:=AreOf.str_inv h4;obtain⟨f,_,rfl,h6⟩:=AreOf.int_inv h5;obtain rfl:=h6.nil_inv;exact⟨(⟨a,b,c,d,e,f⟩:Cel),rfl⟩
def eT(W:World)(b:Nat):Nat:=match W.heap[b]? with |some (.cells cs _ _)=>cs.size|_=>0
def dD(W:World):Env:= { w:=W,hw:=eT W,ow:=fun _=>none,bx:=fun _=>0,hdr:=fun _=>undef }
theorem uD(W:World):EnvOk (dD W):=by
 refine⟨fun b hb=>⟨rfl,?_⟩,(by intro b b' l h;cases h),(by intro b s h;cases h)⟩;show eT W b=0;unfold eT;have:W.heap[b]? =none:=Array.getElem?_eq_none hb
 grind
theorem tM{W:World}{b o:Nat}{v:Value}(h:W.cell? ⟨b,o,none⟩=some v):o<eT W b:=by
 grind [World.cell?,eT]
inductive DFit:D->Prop where
 |int {k n} (h:(Lit.int k n).wf=true):DFit (.int k n)
 |bool (b):DFit (.bool b)
 |str {s:Str} (h:s.length<=maxLen):DFit (.str s)
 |sl {sz rows} (h:rows.length<=maxLen) (hr:∀r∈rows,∀x∈r,DFit x):DFit (.sl sz rows)
section
variable {H:Type} {enc:TypeId×Value->H} {P:Program} {W:World} {base:Nat} {spare:Nat->Bool} {held:Bool} {K:KT}
def kX(enc:TypeId×Value->H)(P:Program)(W:World)(base:Nat)(spare:Nat->Bool)(held:Bool)(K:KT)(n:Nat):Prop:=
 ∀(e:TypeId) (T:Ty),K.get e=some T->∀(m:Nat) (cs:List Value) (x:DataW H×List MemPlace),m<n->DataW.trod enc P W base spare held m e cs=some x->
  ∃y:T.den,(∀d∈T.toD y,DFit d)/\∀pl c,VRs (dD W) aL pl c (T.enc .ro y) cs
theorem y6(hK:iF P K=true){n:Nat}(ih:kX enc P W base spare held K n){t e:TypeId}{T:Ty}(ht:P.underlying t=some (.slice e))(hT:K.get e=some T){cs:List Value}{x:DataW H×List MemPlace}{m:Nat}(hm:m<=n)
 (h:DataW.trod enc P W base spare held m t cs=some x):∃v xs,cs=[v]/\DFit (.sl T.sz (xs.map T.toD))/\∀pl c,VRc (dD W) aL pl c (.sl .ro T xs) v:=by
 have hsz:P.cellsOf e=T.sz:=by
  have:=Zx.1 hK _ (KT.mem hT)
  simp_all
 rcases DataW.trod_slice ht h with ⟨rfl,_⟩|⟨a,len,cap,elems,rest,m',rfl,rfl,_,hb,hl,hcap,hel,hat,_⟩
 ·exact⟨_,[],rfl,.sl (Zg _) (by simp),fun pl c=>RdP.nil none 0 T.sz trivial⟩
 ·
  have hex:∀i,i<len->∃(cs:List Value) (y:T.den),W.cells? base (a.add (i*T.sz)) T.sz=some cs/\(∀d∈T.toD y,DFit d)/\∀pl c,VRs (dD W) aL pl c (T.enc .ro y) cs:=by
   intro i hi;have h1:=hat i hi;rw [Zv (by omega),Zq] at h1;obtain⟨cs,h2,h3⟩:=h1;obtain⟨y,hy⟩:=ih e T hT m' cs _ (by omega) h3;rw [hsz] at h2;exact⟨cs,y,h2,hy⟩
  by_cases h0:len=0
  ·subst h0;exact⟨_,[],rfl,.sl (Zg _) (by simp),fun pl c=>RdP.nil (some a) cap T.sz trivial⟩
  ·have hpos:=Ty.sz_pos T;have hspot:a.spot=none:=by
    obtain⟨cs,y,h2,_⟩:=hex 0 (by omega);rw [Nat.zero_mul] at h2;unfold World.cells? at h2;split at h2
    ·have h3:=mapM_some_get h2 0 0 (by grind);have:(a.add 0).add 0=a:=by simp [Addr.add]
     rw [this] at h3;have h4:∃v,W.cell? a=some v:=by
      grind [mapM_some_length,List.length_range]
     obtain⟨v,hv⟩:=h4;unfold World.cell? at hv;split at hv
     all_goals simp_all
    grind
   obtain⟨ab,ao,asp⟩:=a;dsimp only at hspot;subst hspot
   let ys:List T.den:=(List.range len).map fun i=>if hi:i<len then(Classical.choose (Yq (hex i hi))) else T.dflt
   have hysl:ys.length=len:=by grind
   have hys:∀i (hi:i<len),∃cs:List Value,W.cells? base ((⟨ab,ao,none⟩:Addr).add (i*T.sz)) T.sz=some cs/\(∀d∈T.toD (ys[i]'(by omega)),DFit d)/\∀pl c,VRs (dD W) aL pl c (T.enc .ro (ys[i]'(by omega))) cs:=by
    intro i hi;have hsp:=Yq (Yq (hex i hi));refine⟨Classical.choose (hex i hi),hsp.1,?_⟩
    grind
   refine⟨_,ys,rfl,.sl (by grind) (fun r hr x hx=> ?_),fun pl c=> ?_⟩
   ·obtain⟨y,hy,rfl⟩:=Zk.1 hr;obtain⟨i,hi,rfl⟩:=List.getElem_of_mem hy
    grind
   have hcell:∀i j,i<len->j<T.sz->∃v,W.cell? ⟨ab,ao+i*T.sz+j,none⟩=some v/\∀(hi:i<len),∃x:CV,(T.enc .ro (ys[i]'(by omega)))[j]? =some x/\VRc (dD W) aL pl c x v:=by
    intro i j hi hj;obtain⟨cs,h1,_,h2⟩:=hys i hi;unfold World.cells? at h1;split at h1
    ·have h3:=mapM_some_get h1 j j (by grind);have hlen:=mapM_some_length h1;rw [List.length_range] at hlen;have ha:((⟨ab,ao,none⟩:Addr).add (i*T.sz)).add j=⟨ab,ao+i*T.sz+j,none⟩:=by grind [dU]
     rw [ha,Zv (by omega)] at h3;refine⟨_,h3,fun _=> ?_⟩;have hl2:j<(T.enc .ro (ys[i]'(by omega))).length:=by grind [Ty.enc_length]
     refine⟨_,Zv hl2,?_⟩;have hv:=bH (h2 pl 0) (Zv hl2) (Zv (by omega:j<cs.length));have hown:((T.enc .ro (ys[i]'(by omega)))[j]).owning=false:=by
      rcases fQ .ro T _ _ (ZN hl2) with ⟨k,n,e⟩|⟨s,e⟩|⟨U,zs,e⟩ <;>rw [e] <;>try rfl
     grind [VRc.any]
    grind
   show RdP W _ _ _ (.sl T.sz (ys.map T.toD));refine RdP.sl ab ao len cap T.sz (ys.map T.toD) (fun i j=>(W.cell? ⟨ab,ao+i*T.sz+j,none⟩).getD undef) (by grind) hl (fun r hr=> ?_) trivial (fun i j hi hj=> ?_) (fun i j hi hj=> ?_)
   ·grind [Ty.toD_length]
   ·obtain⟨v,hv,_⟩:=hcell i j hi hj;rw [hv];exact⟨rfl,tM hv,rfl⟩
   ·have hi2:i<len:=by grind
    have hj2:j<T.sz:=by grind [Ty.toD_length]
    obtain⟨v,hv,hx⟩:=hcell i j hi2 hj2;obtain⟨x,hx1,hx2⟩:=hx hi2;rw [hv];have e:((ys.map T.toD)[i]'hi)[j]=x.toD:=by
     grind [Ty.enc_toD]
    rw [e];rcases fQ .ro T _ _ (Zy hx1) with ⟨k,n,rfl⟩|⟨s,rfl⟩|⟨U,zs,rfl⟩
    ·obtain rfl:v=_:=hx2;exact .int k n
    ·obtain⟨t,rfl,rfl⟩:=hx2;exact .str t
    ·have hro:∃g,CV.sl g U zs= .sl .ro U zs/\True:=⟨.ro,rfl,trivial⟩;exact RdP.mono hx2 (fun p b o ho=>⟨rfl,ho⟩) (fun _ _ _ _=>trivial)
theorem pX:∀ {a b:List CK} {ns:List (CK ⊕ Ty)},cP K (a++b)=some ns->∃na nb,ns=na++nb/\cP K a=some na/\cP K b=some nb
 | [],b,ns,h=>⟨[],ns,rfl,rfl,h⟩
 |k::a,b,ns,h=>by
  simp only [jO,cP] at h;split at h
  ·rename_i x r hx hr;obtain⟨na,nb,rfl,h1,h2⟩:=pX hr
   grind [cP]
  grind
theorem kJ{k:CK}{ns:List (CK ⊕ Ty)}(h:cP K [k]=some ns):∃n,k.name K=some n/\ns=[n]:=by
 grind [cP]
def Rds(W:World)(ns:List (CK ⊕ Ty))(cs:List Value):Prop:=
 ∃zs:List CV,AreOf zs ns/\(∀z∈zs,DFit z.toD)/\∀pl c,VRs (dD W) aL pl c zs cs
theorem Rds.one{n:CK ⊕ Ty}{z:CV}{v:Value}(h:z.isOf n)(hf:DFit z.toD)(hv:∀pl c,VRc (dD W) aL pl c z v):Rds W [n] [v]:=
 ⟨[z],.cons h .nil,by grind,fun pl c=>⟨hv pl c,trivial⟩⟩
theorem Rds.app{a b:List (CK ⊕ Ty)}{cs ds:List Value}(h:Rds W a cs)(h' :Rds W b ds):Rds W (a++b) (cs++ds):=by
 obtain⟨x,h1,h2,h3⟩:=h;obtain⟨y,g1,g2,g3⟩:=h';exact⟨x++y,h1.app g1,fun z hz=>(Zf.1 hz).elim (h2 z) (g2 z),fun pl c=>sD (h3 pl c) (g3 pl _)⟩
theorem o8{f:TypeId->Option (List CK)}{ok:TypeId->List Value->Prop}{cs:List Value}(hok:∀t ks ns ds,f t=some ks->cP K ks=some ns->ok t ds->Rds W ns ds):
 ∀(fl:List Field) (o:Nat) (ks:List CK) (ns:List (CK ⊕ Ty)),kF P f o fl=true->cX.kindsFs f fl=some ks->cP K ks=some ns->(∀fd∈fl,ok fd.type ((cs.drop fd.offset).take (P.cellsOf fd.type)))->o+ks.length=cs.length->Rds W ns (cs.drop o)
 | [],o,ks,ns,_,hk,hn,_,hl=>by
   cases hk;cases hn;rw [List.drop_of_length_le (by grind)];exact⟨[],.nil,by simp,fun _ _=>trivial⟩
 |fd::fl,o,ks,ns,hlaid,hk,hn,hall,hl=>by
  simp only [cX.kindsFs] at hk;simp only [kF] at hlaid;split at hk
  ·rename_i a b ha hb;cases hk;rw [ha] at hlaid;simp only [Zu] at hlaid;obtain⟨⟨h1,h2⟩,h3⟩:=hlaid;have h1:=Zj h1;have h2:=Zj h2;obtain⟨na,nb,rfl,hna,hnb⟩:=pX hn;have hhd:=hok _ _ _ _ ha hna (hall fd Zp);have htl:=o8 hok fl (o+a.length) b nb h3 hb hnb (fun x hx=>hall x (Zr _ hx)) (by grind);rw [h1,h2] at hhd;have:=hhd.app htl
   grind [List.drop_drop,List.take_append_drop]
  grind
theorem pF(hK:iF P K=true){n:Nat}(ih:kX enc P W base spare held K n):∀(d:Nat) (t:TypeId) (ks:List CK) (ns:List (CK ⊕ Ty)) (cs:List Value) (x:DataW H×List MemPlace) (m:Nat),m<=n->
 cX P d t=some ks->fA P d t=true->cP K ks=some ns->DataW.trod enc P W base spare held m t cs=some x->Rds W ns cs:=by
 intro d
 induction d with
 |zero=>intro t ks ns cs x m _ h;cases h
 |succ d ihd=>
  intro t ks ns cs x m hm hk hlaid hn h;simp only [cX] at hk;split at hk
  ·rename_i k hu;cases hk;obtain⟨_,hnm,rfl⟩:=kJ hn;cases hnm;obtain⟨v,rfl,_,hwf⟩:=DataW.trod_int hu h;exact Rds.one (z:= .int k v) rfl (.int hwf) (fun _ _=>rfl)
  ·rename_i hu;cases hk;obtain⟨_,hnm,rfl⟩:=kJ hn;cases hnm;obtain⟨v,rfl,_⟩:=DataW.trod_bool hu h;exact Rds.one (z:= .bool v) trivial (.bool v) (fun _ _=>rfl)
  ·rename_i hu;cases hk;obtain⟨_,hnm,rfl⟩:=kJ hn;cases hnm;obtain⟨v,rfl,_,hl⟩:=DataW.trod_string hu h;exact Rds.one (z:= .str v.data.toList) trivial (.str (by simpa using hl)) (fun _ _=>⟨v,rfl,rfl⟩)
  ·rename_i e hu;cases hk;obtain⟨q,hnm,rfl⟩:=kJ hn;simp only [CK.name,Zi] at hnm;obtain⟨T,hT,rfl⟩:=hnm;obtain⟨v,xs,rfl,hf,hv⟩:=y6 hK ih hu hT hm h;exact Rds.one (z:= .sl .ro T xs) rfl hf hv
  ·rename_i fs hu;simp only [fA,hu,Zu,Zx] at hlaid;obtain⟨⟨hl1,hl2⟩,hl3⟩:=hlaid;rw [hk] at hl3;have hl3:=Zj hl3;obtain⟨xs,m',rfl,_,hlen,hxl,hf⟩:=DataW.trod_struct hu h
   have:=o8 (P:=P) (W:=W) (K:=K) (f:=fun t=>cX P d t) (cs:=cs)
    (ok:=fun t ds=>fA P d t=true/\∃y,DataW.trod enc P W base spare held m' t ds=some y)
    (fun t ks ns ds h1 h2 ⟨h3,y,h4⟩=>ihd t ks ns ds y m' (by omega) h1 h3 h2 h4) fs.toList 0 ks ns hl1 hk hn
    (fun fd hfd=>by
      refine⟨hl2 fd hfd,?_⟩;obtain⟨i,hi,rfl⟩:=List.getElem_of_mem hfd;have hi' :i<fs.size:=by grind
      have:=hf i (fs.toList[i]) (by grind)
      grind) (by omega)
   grind
  grind
theorem oF(hK:iF P K=true):∀n,kX enc P W base spare held K n
 |0=>fun e T hT m cs x hm=>absurd hm (by omega)
 |n+1=>fun e T hT m cs x hm h=>by
  have h1:=Zx.1 hK _ (KT.mem hT);simp only [Zu] at h1;obtain⟨⟨hlaid,_⟩,h1⟩:=h1;split at h1
  ·rename_i ks hks;split at h1
   ·rename_i ns hns;have:=lK h1;subst this;obtain⟨zs,h2,h3,h4⟩:=pF hK (oF hK n) 8 e ks _ cs x m (by omega) hks hlaid hns h;obtain⟨y,rfl⟩:=h2.elem;refine⟨y,fun d hd=> ?_,h4⟩
    grind [Ty.enc_toD]
   grind
  grind
theorem reads(hK:iF P K=true){t:TypeId}{ks:List CK}{ns:List (CK ⊕ Ty)}{v:Value}{d:DataW H}{ps:List MemPlace}(hk:cX P 8 t=some ks)(hl:fA P 8 t=true)(hn:cP K ks=some ns)
 (h:DataW.Trod enc P W base spare held t v d ps):Rds W ns v.cells.toList:=by
 obtain⟨m,h⟩:=h;exact pF hK (oF hK m) 8 t ks ns _ _ m (Zn _) hk hl hn h
end
def gK(P:Program)(t:TypeId):Bool:=match P.underlying t with |some (.struct _)=>true|_=>false
def rL(P:Program)(K:KT)(g:Bool)(t:TypeId)(ns:List (CK ⊕ Ty)):Bool:=
 fA P 8 t&&(gK P t==g)&&match cX P 8 t with
  |some ks=>match cP K ks with
   |some ms=>gT ms ns
   |none=>false
  |none=>false
section
variable {H:Type} {enc:TypeId×Value->H} {P:Program} {W:World} {base b0:Nat} {spare:Nat->Bool} {held:Bool} {K:KT} {r:Go.Reach}
theorem AI(hK:iF P K=true){g:Bool}{t:TypeId}{ns:List (CK ⊕ Ty)}(hT:rL P K g t ns=true){v:Value}{d:DataW H}{ps:List MemPlace}
 (hw:Value.okWide P W r b0 t v) (h:DataW.Trod enc P W base spare held t v d ps):
 ∃zs:List CV,AreOf zs ns/\(∀z∈zs,DFit z.toD)/\∀pl,VR (dD W) aL pl (.v g zs) v:=by
 unfold rL at hT;simp only [Zu,beq_iff_eq] at hT;obtain⟨⟨hl,hg⟩,hT⟩:=hT;split at hT
 ·rename_i ks hks;split at hT
  ·rename_i ms hms;obtain rfl:=lK hT;obtain⟨zs,h1,h2,h3⟩:=reads hK hks hl hms h;refine⟨zs,h1,h2,fun pl=> ?_⟩;simp only [cX] at hks;split at hks
   ·rename_i k hu;obtain⟨n,rfl⟩:=okWide_int hu hw;obtain rfl:false=g:=by grind [gK]
    exact h3 pl 0
   ·rename_i hu;obtain⟨n,rfl⟩:=okWide_bool hu hw;obtain rfl:false=g:=by grind [gK]
    exact h3 pl 0
   ·rename_i hu;obtain⟨n,rfl⟩:=okWide_string hu hw;obtain rfl:false=g:=by grind [gK]
    exact h3 pl 0
   ·rename_i e hu;obtain⟨a,l,c,rfl⟩:=okWide_slice hu hw;obtain rfl:false=g:=by grind [gK]
    exact h3 pl 0
   ·rename_i fs hu;obtain⟨cs,rfl,_⟩:=okWide_struct hu hw;obtain rfl:true=g:=by grind [gK]
    exact⟨cs,rfl,h3 pl 0⟩
   grind
  grind
 grind
theorem sS(h:∀x∈kE,W.heap[x.1]? =some x.2):fH (dD W):=fun x hx=>by
 have h:=h x hx;refine⟨?_,rfl,h,?_⟩
 ·exact(Zb.1 h).1
 ·show eT W x.1=_;unfold eT mN
  grind
theorem zT{f:FuncId}{fn:Func}{I:Info}(hf:FnOk P f fn I){as:List Arg}{o:List (List CV)}{l:List CV}(h:AbsCalls P f as ⟨.v false [.bool true],o,l⟩){args:Array Value}(ha:ArgsAt (dD W) 0 as args.toList)(hL:∀x∈kE,W.heap[x.1]? =some x.2):
 Calls P f args W fun e w' =>e= .returned (.bool true)/\Below W.heap.size W w' :=by
 rcases h (dD W) args (uD W) (sS hL) ha with ⟨v,w',h1,_⟩|⟨_,h2⟩
 ·exfalso;have hbody:fn.body.isNone=false:=by rw [hf.body];rfl
  unfold callFunc at h1;simp only [Sem.run_bind,run_program,Result.andThen_ok,hf.get,hf.name,hbody] at h1;cases h1
 ·refine h2.mono fun e w' he=> ?_;cases e with
  |returned v=>
   obtain⟨E',rfl,hx⟩:=he;have hv:v= .bool true:=(hx.res.vr rfl).1;exact⟨by rw [hv],⟨hx.os,hx.tape,hx.output,hx.size,fun k hk=>(hx.old k hk rfl).1⟩⟩
  |_=>grind
end
end Go.Ab
end
section
namespace Go.Ab
def Val.re(v:Val):Val:= .mk v.kind v.n v.step v.text v.list v.columns v.rows
def Exp.re(e:Exp):Exp:= .mk e.kind e.n e.text e.args
theorem Val.re_eq(v:Val):v.re=v:=v.eta
theorem Exp.re_eq(e:Exp):e.re=e:=e.eta
structure Wld where
 clock:Int
 seed:Int
 files:List Fil
structure Cur where
 b:List Int
 i:Int
 h:Int
def q9(s sep:Str):Option (List Str):=if sep.length=1 then if s.length<4294967281 then some (Lib.split s sep) else none else none
def nU(n:Int):Option Int:=if 0<=n/\n<=18446744073709551615 then some (Lib.bitLen n.toNat:Int) else none
def rH(i j:Int)(xs:List Org):Option (List Org):=if 0<=i/\i<xs.length/\0<=j/\j<xs.length then some (Sort.swp xs.toArray i.toNat j.toNat).toList else none
def olt(a b:Org):Bool:=bif decide (a.cell<b.cell) then true else bif(a.cell==b.cell) then decide (a.row<b.row) else false
def tY(acc:List Org)(o:Org):List Org:=if acc.contains o then acc else acc++ [o]
def ded(os:List Org):List Org:=os.foldl tY []
def rM(a b:List Org):List Org:=(ded (a++b)).mergeSort fun x y=> !olt y x
def AH(a b:List Org):Option (List Org):=if a.length+b.length<=1000000000000 then some (rM a b) else none
def hD(i:Nat)(r:Rowd):Int:=r.cells.getD i 0
def vF(i:Nat)(rs:List Rowd):List Int:=rs.foldl (fun ks r=>if hD i r∈ks then ks else ks++ [hD i r]) []
def pA(i k:Nat)(rs:List Rowd)(x:Int):Int:=rs.foldl (fun s r=>if hD i r=x then IntKind.i64.wrap (s+hD k r) else s) 0
def vE(i:Nat)(rs:List Rowd)(x:Int):List Org:=rs.foldl (fun f r=>if hD i r=x then rM f r.frm else f) []
def o9(i:Nat)(rs:List Rowd):List Int:=(vF i rs).mergeSort fun x y=>decide (x<=y)
def xO(n:Int):Bool:=decide (-1000000000<=n)&&decide (n<=1000000000)
def vG(i k:Nat)(rs:List Rowd):List Rowd:=(o9 i rs).map fun x=>⟨[x,pA i k rs x],vE i rs x⟩
def yL(i k:Nat)(r:Rowd):Bool:=decide (i<r.cells.length)&&decide (k<r.cells.length)&&decide (r.frm.length<=100000000)
def zX(i k:Int)(a b t:Val):Option (Val×Bool):=
 if 0<=i/\0<=k/\t.rows.all (yL i.toNat k.toNat)=true/\t.rows.length<=1000 then
  some (if(o9 i.toNat t.rows).all (fun x=>xO (pA i.toNat k.toNat t.rows x))=true then Val.mk 5 0 0 [] [] [a.text,b.text] (vG i.toNat k.toNat t.rows) else Val.mk 6 5 0 [] [] [] [],false)
 else none
end Go.Ab
end
section
namespace Go.Ab
variable [Inhabited Lb]
theorem AbsCalls.of_enter{P:Program}{f:FuncId}{as:List Arg}{r:CallO}(hf:∀args w,(callFunc f args).run P w= .ok (.enter f args) w)
 (h:∀(E:Env) (args:Array Value),EnvOk E->fH E->ArgsAt E 0 as args.toList->Calls P f args E.w fun e w' =>∃v E',e= .returned v/\E'.w=w' /\ExitR E E' as r v):AbsCalls P f as r:=
 fun E args hE hB hA=> .inr ⟨hf args E.w,(h E args hE hB hA).mono (by grind)⟩
theorem ExitR.below{E:Env}(hE:EnvOk E){w' :World}(hb:Go.RowKit.Below E.w.heap.size E.w w'){as:List Arg}{a:AV}{v:Value}(ho:cU E { E with w:=w' } 0 as [])(hl:bI 0 as=[])
 (hr:ResAt { E with w:=w' } as.length a v):ExitR E { E with w:=w' } as ⟨a,[],[]⟩ v where
 os:=hb.os
 tape:=hb.tape
 output:=hb.output
 size:=hb.size
 hdr:=rfl
 old:=fun b hlt h0=>⟨hb.block b hlt,rfl,h0⟩
 env:=⟨fun b h=>hE.new b (ZT hb.size h),hE.inj,hE.boxhw⟩
 res:=hr
 outs:=ho
 lents:=by rw [hl];trivial
 bx:=fun _ _=>rfl
theorem ExitR.newRow{E:Env}(hE:EnvOk E){w' :World}{cells:Array Value}{ty:TypeId}(hg:Grown E.w w' cells ty (0,0)){as:List Arg}{T:Ty}{xs:List T.den}{n:Nat}
 (ho:∀E',cU E E' 0 as []) (hl:bI 0 as=[]) (hn:xs.length=n) (hsz:cells.size=n*T.sz)
 (hk:∀i j (hi:i<(xs.map T.toD).length) (hj:j<(xs.map T.toD)[i].length),∃u,cells[i*T.sz+j]? =some u/\∀w ok q,RdP w ok q u ((xs.map T.toD)[i][j])):
 ∃E',E'.w=w' /\ExitR E E' as ⟨.v false [.sl .own T xs],[],[]⟩ (.slice (some ⟨E.w.heap.size,0,none⟩) n n):=by
 have h0:=hE.new E.w.heap.size (Zn _);refine⟨{ w:=w',hw:=fun b=>if b=E.w.heap.size then n*T.sz else E.hw b,ow:=fun b=>if b=E.w.heap.size then some (.arr (.h 0) 0 []) else(E.ow b).bind (fun l=>if l= .arr (.h 0) 0 [] then none else some l),bx:=E.bx,hdr:=E.hdr },rfl,?_⟩;refine { os:=hg.os,tape:=hg.tape,output:=hg.output,size:=by show _<=w'.heap.size;rw [hg.size];omega,hdr:=rfl,old:=fun b hlt h1=> ?_,env:=⟨fun b hb=> ?_,fun b b' l g1 g2=> ?_,fun b s h=> ?_⟩,res:= ?_,outs:=ho _,lents:=by rw [hl];trivial,bx:=fun _ _=>rfl }
 ·have e:b≠E.w.heap.size:=by omega
  exact⟨hg.old b e,by grind,by grind⟩
 ·have hb:w'.heap.size<=b:=hb;rw [hg.size] at hb;have e:b≠E.w.heap.size:=by omega
  have:=hE.new b (by omega)
  grind
 ·simp only at g1 g2;split at g1 <;>split at g2
  ·grind
  ·grind [Option.bind_eq_some_iff]
  ·grind [Option.bind_eq_some_iff]
  ·simp only [Zq] at g1 g2;obtain⟨l1,a1,c1⟩:=g1;obtain⟨l2,a2,c2⟩:=g2;split at c1
   ·grind
   split at c2
   ·grind
   cases c1;cases c2;exact hE.inj _ _ _ a1 a2
 ·simp only at h ⊢;split at h
  ·cases h
  ·rename_i e;rw [Za e];simp only [Zq] at h;obtain⟨l,a1,c1⟩:=h;split at c1
   ·grind
   ·cases c1;exact hE.boxhw b s a1
 ·refine⟨?_,trivial⟩;refine eP (cs:=cells) (ty:=ty) (fr:=(0,0)) hg.new (by grind) (Zn _) (by intro r hr;obtain⟨x,_,rfl⟩:=Zk.1 hr;exact T.toD_length x) ?_ (fun o hlt=> ?_) (fun i j hi hj=> ?_)
  ·refine⟨by simp,by simp,Zn _,cells,ty,0,0,hg.new,hsz.symm,fun o h1 h2=>by omega⟩
  ·exact⟨by grind,by simp⟩
  grind
theorem AA{P:Program}{f:FuncId}{ty:TypeId}(hf:∀args w,(callFunc f args).run P w= .ok (.enter f args) w)
 (hc:∀(s:ByteArray) (c:UInt8) (w:World),s.size<4294967281->Calls P f #[.string s,.string ⟨#[c]⟩] w fun e w' =>
   e= .returned (.slice (some ⟨w.heap.size,0,none⟩) (Lib.countB s ⟨#[c]⟩+1) (Lib.countB s ⟨#[c]⟩+1))/\w' =w.alloc (.cells ((Lib.splitB ⟨#[c]⟩ 0 (Lib.countB s ⟨#[c]⟩) s).map Value.string).toArray ty))
 {s sep:Str} {r:List Str} (h:q9 s sep=some r):AbsCalls P f [.val (.v false [.str s]),.val (.v false [.str sep])] ⟨.v false [.sl .own .str r],[],[]⟩:=by
 unfold q9 at h;split at h
 case isFalse=>cases h
 rename_i h1;split at h
 case isFalse=>cases h
 rename_i h2;cases h;refine AbsCalls.of_enter hf fun E args hE _ hA=> ?_;obtain⟨c,rfl⟩:∃c,sep=[c]:=List.length_eq_one_iff.1 h1
 match args,hA with
 |⟨[v1,v2]⟩,hA=>
  obtain⟨⟨⟨t,rfl,rfl⟩,_⟩,⟨⟨t2,rfl,ht2⟩,_⟩,_⟩:=hA;obtain rfl:t2=⟨#[c]⟩:=by
   cases t2 with
   |mk d=>cases d with
    |mk l=>grind
  have hsz:t.size<4294967281:=h2;refine(hc t c E.w hsz).mono ?_;rintro e w' ⟨rfl,rfl⟩;have hlen:=Lib.splitB_all ⟨#[c]⟩ (Zn 1) 0 _ t rfl;have hd:=Lib.splitB_data ⟨#[c]⟩ 0 (Lib.countB t ⟨#[c]⟩) t;generalize hL:Lib.splitB ⟨#[c]⟩ 0 (Lib.countB t ⟨#[c]⟩) t=L at hlen hd;have hd' :Lib.split t.data.toList [c]=L.map (·.data.toList):=hd.symm
  obtain⟨E',hw,hx⟩:=ExitR.newRow (T:= .str) (xs:=L.map (·.data.toList)) (n:=Lib.countB t ⟨#[c]⟩+1) hE (Grown.alloc E.w (L.map Value.string).toArray ty) (as:=[.val (.v false [.str t.data.toList]),.val (.v false [.str [c]])]) (fun _=>trivial) rfl
   (by grind) (by grind [Ty.sz]) (fun i j hi hj=>by
     simp only [Yx,Ty.toD,List.length_singleton] at hj ⊢;obtain rfl:j=0:=by omega
     simp only [Zm] at hi;refine⟨.string L[i],by grind [Ty.sz],fun w ok q=> .str _⟩)
  grind
 |⟨[]⟩,hA=>exact hA.elim
 |⟨[_]⟩,hA=>exact hA.2.elim
 |⟨_::_::_::_⟩,hA=>exact hA.2.2.elim
end Go.Ab
end
section
namespace Go.Ab
open Go.Lib Go.Extern
variable [Inhabited Lb]
theorem zZ{P:Program}{f:FuncId}(hf:∀args w,(callFunc f args).run P w= .ok (.enter f args) w)
 (hc:∀(x:Int) (w:World),0<=x->x<=18446744073709551615->Calls P f #[.int .u64 x] w fun e w' =>e= .returned (.int .i64 (Lib.bitLen x.toNat))/\w' =w)
 {x r:Int} (h:nU x=some r):AbsCalls P f [.val (.v false [.int .u64 x])] ⟨.v false [.int .i64 r],[],[]⟩:=by
 unfold nU at h;split at h
 case isFalse=>cases h
 rename_i hx;cases h;refine AbsCalls.of_enter hf fun E args hE hB hA=> ?_
 match args,hA with
 |⟨[v1]⟩,hA=>
  obtain⟨⟨hv1,_⟩,_⟩:=hA;obtain rfl:v1= .int .u64 x:=hv1;refine(hc x E.w hx.1 hx.2).mono ?_;rintro e w' ⟨rfl,rfl⟩;exact⟨_,_,rfl,rfl,ExitR.below hE (Go.RowKit.Below.refl _ _) trivial rfl ⟨rfl,trivial⟩⟩
 |⟨[]⟩,hA=>exact hA.elim
 |⟨_::_::_⟩,hA=>exact hA.2.elim
def bV(o:Org):List Value:=[.int .i64 o.cell,.int .i64 o.row]
theorem zC{xs:List Org}{i j:Nat}(hi:i<xs.length)(hj:j<xs.length){m:Nat}(hm:m<(Sort.swp xs.toArray i j).toList.length):
 (Sort.swp xs.toArray i j).toList[m]=if m=j then xs[i] else if m=i then xs[j] else xs[m]'(by grind [Sort.swp]):=by
 grind [Sort.swp]
theorem AB{P:Program}{f:FuncId}(hc:∀args w,(callFunc f args).run P w=((ReflectliteSwapper.swap false args).run P w).andThen fun v w' => .ok (.value v) w')
 (e:TypeId) (ie:TypeInfo) (hie:P.info? e=some ie) (hsz:ie.size=2) (hagg:∀w,(isAgg e).run P w= .ok true w) {i j:Int} {xs ys:List Org} (h:rH i j xs=some ys):
 AbsCalls P f [.val (.v false [.int .i64 i]),.val (.v false [.int .i64 j]),.val (.v false [.sl (.lnt 0) .org xs]),.val (.v false [.val (typeHandle P e)])] ⟨.tup [],[],[.sl (.lnt 0) .org ys]⟩:=by
 unfold rH at h;split at h
 case isFalse=>cases h
 rename_i hij;cases h;obtain⟨hi0,hi1,hj0,hj1⟩:=hij;obtain⟨i,rfl⟩:=YM hi0;obtain⟨j,rfl⟩:=YM hj0;have hi:i<xs.length:=by omega
 have hj:j<xs.length:=by omega
 simp only [jI];intro E args hE hB hA
 match args,hA with
 |⟨[v1,v2,v3,v4]⟩,hA=>
  obtain⟨⟨hv1,_⟩,⟨hv2,_⟩,⟨hv3,_⟩,⟨hv4,_⟩,_⟩:=hA;obtain rfl:v1= .int .i64 i:=hv1;obtain rfl:v2= .int .i64 j:=hv2;obtain rfl:v4=typeHandle P e:=hv4.1;have hv:RdP E.w (okF E (.k 4) 0 (.lnt 0)) (qF E (.k 4) 0 (.lnt 0)) v3 (.sl 2 (xs.map Ty.org.toD)):=hv3;have hh:v3=E.hdr 0:=(RdP.top hv).2 rfl;have hx:xs≠ []:=by grind
  obtain⟨b,off,cap,rfl,hcap,hrl,hq,u,hcl,hk⟩:=RdP.cells hv (by simpa using hx);have htip:=hq.1
  match off,htip with
  |off+1,htip=>exact htip.elim
  |0,htip=>
  obtain⟨t1,t2,t3,cs,ty,lo,hi',t4,t5,t6⟩:=htip;rw [Zm] at t2 t3 hcap;have hcell:∀m (hm:m<xs.length) k (hk2:k<2),E.w.cell? ⟨b,m*2+k,none⟩=some ((bV xs[m])[k]'hk2):=by
   intro m hm k hk2;have g1:=(hcl m k (by grind) hk2).1;have hr:((xs.map Ty.org.toD)[m]'(by grind))=Ty.org.toD xs[m]:=by grind
   have g2:=hk m k (by grind) (by grind);rw [Zc] at g1;rw [g1];simp only [hr] at g2
   match k,hk2,g2 with
   |0,_,g2=>generalize u m 0=x at g2;simp only [Ty.toD,List.getElem_cons_zero] at g2;cases g2;rfl
   |1,_,g2=>generalize u m 1=x at g2;simp only [Ty.toD,List.getElem_cons_succ,List.getElem_cons_zero] at g2;cases g2;rfl
  have hfz:∀o,o<xs.length*2->E.w.frozen? ⟨b,o,none⟩=false:=by
   grind [World.frozen?]
  have ho:∀x:Org,∀v∈bV x,v.oneCell' =true:=by
   intro x v hv;simp only [bV,Zh,Z6,or_false] at hv;rcases hv with rfl|rfl <;>rfl
  have hl2:∀x:Org,(bV x).length=2:=fun _=>rfl;have hget:∀(m:Nat) (hm:m<xs.length) (k:Nat) (v:Value),(bV xs[m])[k]? =some v->E.w.cell? ⟨b,0+m*ie.size+k,none⟩=some v:=by
   intro m hm k v hv;obtain⟨hk2,rfl⟩:=Zs.1 hv;rw [hsz,Zc];grind
  have hrun:=run_swap_cells (P:=P) false e ie hie hagg b 0 xs.length cap i j hi hj (bV xs[i]) (bV xs[j]) (by grind) (by grind) (ho _) (ho _) E.w
   (hget i hi) (hget j hj) (fun k hk=>hfz _ (by grind)) (fun k hk=>hfz _ (by grind))
  rw [hsz] at hrun;have hv0:Value.slice (some ⟨b,0,none⟩) (xs.map Ty.org.toD).length cap= .slice (some ⟨b,0,none⟩) xs.length cap:=by grind
  rw [hv0] at hh;refine .inl ⟨.tuple #[],(E.w.setCells b (0+i*2) (bV xs[j])).setCells b (0+j*2) (bV xs[i]),?_,?_⟩
  ·simp_all
  obtain⟨cs1,a1,a2,a3⟩:=dQ b (bV xs[j]) (0+i*2) E.w t4;obtain⟨cs2,b1,b2,b3⟩:=dQ b (bV xs[i]) (0+j*2) (E.w.setCells b (0+i*2) (bV xs[j])) a1;generalize hW:(E.w.setCells b (0+i*2) (bV xs[j])).setCells b (0+j*2) (bV xs[i])=W at b1;have hsize:W.heap.size=E.w.heap.size:=by grind [dM]
  obtain⟨o1,o2,o3⟩:=dR b (bV xs[i]) (0+j*2) (E.w.setCells b (0+i*2) (bV xs[j]));obtain⟨p1,p2,p3⟩:=dR b (bV xs[j]) (0+i*2) E.w;have hold:∀b',b' ≠b->W.heap[b']? =E.w.heap[b']? :=fun b' hne=>by grind [d8]
  refine⟨{ E with w:=W },rfl,?_⟩;have hyl:(Sort.swp xs.toArray i j).toList.length=xs.length:=by simp [Sort.swp]
  refine { os:=by grind,tape:=by grind,output:=by grind,size:=by grind,hdr:=rfl,
           old:=fun b' hb' h=>⟨hold b' (fun e=>by grind),rfl,h⟩,env:=⟨fun b' h=>hE.new b' (by grind),hE.inj,hE.boxhw⟩,res:=⟨#[],rfl,trivial⟩,outs:=trivial,lents:=⟨⟨.org,_,rfl⟩,?_,trivial⟩,bx:=fun _ _=>rfl }
  show RdP W _ _ (E.hdr 0) (.sl 2 ((Sort.swp xs.toArray i j).toList.map Ty.org.toD));rw [<-hh];have hfin:∀m (hm:m<xs.length) k (hk2:k<2),W.cell? ⟨b,0+m*2+k,none⟩=some ((bV ((Sort.swp xs.toArray i j).toList[m]'(by grind)))[k]'hk2):=by
   intro m hm k hk2;have hsome:∀(q:Nat) (hq:q<xs.length) (k:Nat),k<2->(E.w.cell? ⟨b,0+q*2+k,none⟩).isSome=true:=fun q hq k hk=>by
    grind
   rw [zC hi hj,<-hW];by_cases h1:m=j
   ·grind [World.cell?_setCells_in,isSome_setCells]
   ·rw [World.cell?_setCells_out b _ _ _ _ (fun _ _=>by grind)];simp only [h1,if_false];by_cases h2:m=i
    all_goals grind [World.cell?_setCells_in,World.cell?_setCells_out]
  refine .sl b 0 xs.length cap 2 _ (fun m k=>if h:m<xs.length/\k<2 then(bV ((Sort.swp xs.toArray i j).toList[m]'(by grind)))[k]'h.2 else .bool false) (by grind) hcap (fun r hr=> ?_) ⟨?_,fun _=>hh⟩ (fun m k hm hk2=> ?_) (fun m k hm hk2=> ?_)
  ·obtain⟨y,_,rfl⟩:=Zk.1 hr;exact Ty.toD_length .org y
  ·refine⟨t1,t2,t3,cs2,ty,lo,hi',b1,?_,t6⟩
   grind
  ·refine⟨?_,?_⟩
   ·grind
   ·refine⟨?_,t1⟩
    grind
  ·have hm' :m<xs.length:=by grind
   have hr:((Sort.swp xs.toArray i j).toList.map Ty.org.toD)[m]=Ty.org.toD ((Sort.swp xs.toArray i j).toList[m]'(by grind)):=by grind
   have hk2' :k<2:=by rw [hr] at hk2;exact hk2
   rw [dif_pos ⟨hm',hk2'⟩];simp only [hr]
   match k,hk2' with
   |0,_=>exact .int .i64 _
   |1,_=>exact .int .i64 _
 |⟨[]⟩,hA=>exact hA.elim
 |⟨[_]⟩,hA=>exact hA.2.elim
 |⟨[_,_]⟩,hA=>exact hA.2.2.elim
 |⟨[_,_,_]⟩,hA=>exact hA.2.2.2.elim
 |⟨_::_::_::_::_::_⟩,hA=>exact hA.2.2.2.2.elim
end Go.Ab
end
