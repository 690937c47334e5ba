/- The statement FnExactGroupSum holds: plain functions, certificates, laws. Conditions: none. -/
import Derived.Test.YtchkdijelkdpaaaGreatL2
import Derived.Test.YtchkdijelkdpaaaGreatFnExactGroupSumP2
set_option linter.all false
section
namespace Go.Ab
def SI(l:List Int):Prop:=l.Pairwise fun x y=>x<y
def insK(x:Int):List Int->List Int
 | []=> [x]
 |y::l=>if y=x then y::l else if x<y then x::y::l else y::insK x l
theorem xPT{x z:Int}:∀ {l:List Int},z∈insK x l↔z=x\/z∈l
 | []=>by simp [insK]
 |y::l=>by
  unfold insK;split
  ·rename_i h;subst h;simp
  ·split
   ·simp
   ·rw [List.mem_cons,xPT,List.mem_cons];constructor
    ·rintro (h|h|h)
     ·exact .inr (.inl h)
     ·exact .inl h
     ·exact .inr (.inr h)
    ·rintro (h|h|h)
     ·exact .inr (.inl h)
     ·exact .inl h
     ·exact .inr (.inr h)
theorem xWn{x:Int}:∀ {l:List Int},SI l->SI (insK x l)
 | [],_=>by simp [insK,SI]
 |y::l,h=>by
  have h' :=List.pairwise_cons.1 h;unfold insK;split
  ·exact h
  ·rename_i hne;split
   ·rename_i hlt;refine List.pairwise_cons.2 ⟨fun z hz=> ?_,h⟩;rcases List.mem_cons.1 hz with rfl|hz
    ·exact hlt
    ·exact Int.lt_trans hlt (h'.1 z hz)
   ·rename_i hge;refine List.pairwise_cons.2 ⟨fun z hz=> ?_,xWn h'.2⟩;rcases xPT.1 hz with rfl|hz
    ·omega
    ·exact h'.1 z hz
theorem xWo:∀ {l m:List Int},SI l->SI m->(∀x,x∈l↔x∈m)->l=m
 | [],[],_,_,_=>rfl
 | [],y::m,_,_,h=>absurd ((h y).2 List.mem_cons_self) (by simp)
 |x::l,[],_,_,h=>absurd ((h x).1 List.mem_cons_self) (by simp)
 |x::l,y::m,hl,hm,h=>by
  have hl' :=List.pairwise_cons.1 hl;have hm' :=List.pairwise_cons.1 hm;have e:x=y:=by
   rcases List.mem_cons.1 ((h x).1 List.mem_cons_self) with e|h1
   ·exact e
   ·rcases List.mem_cons.1 ((h y).2 List.mem_cons_self) with e|h2
    ·exact e.symm
    ·have:=hl'.1 y h2;have:=hm'.1 x h1;omega
  subst e;refine congrArg (x:: ·) (xWo hl'.2 hm'.2 fun z=>⟨fun hz=> ?_,fun hz=> ?_⟩)
  ·rcases List.mem_cons.1 ((h z).1 (List.mem_cons_of_mem _ hz)) with e|h1
   ·have:=hl'.1 z hz;omega
   ·exact h1
  ·rcases List.mem_cons.1 ((h z).2 (List.mem_cons_of_mem _ hz)) with e|h1
   ·have:=hm'.1 z hz;omega
   ·exact h1
theorem xKM(i:Nat)(rs:List Rowd)(r:Rowd):zJm i (rs++ [r])=if gKey i r∈zJm i rs then zJm i rs else zJm i rs++ [gKey i r]:=by
 unfold zJm;rw [List.foldl_append]
 rfl
theorem xOA(i k:Nat)(rs:List Rowd)(r:Rowd)(y:Int):gSum i k (rs++ [r]) y=if gKey i r=y then IntKind.i64.wrap (gSum i k rs y+gKey k r) else gSum i k rs y:=by
 simp only [gSum,List.foldl_append,List.foldl_cons,List.foldl_nil]
theorem xKL(i:Nat)(rs:List Rowd)(r:Rowd)(y:Int):gFrm i (rs++ [r]) y=if gKey i r=y then zJe (gFrm i rs y) r.frm else gFrm i rs y:=by
 simp only [gFrm,List.foldl_append,List.foldl_cons,List.foldl_nil]
theorem xK7{α:Type}{p:List α->Prop}(h0:p [])(h1:∀l a,p l->p (l++ [a])):∀(n:Nat) (l:List α),l.length=n->p l:=by
 intro n
 induction n with
 |zero=>intro l h;rw [List.length_eq_zero_iff.1 h];exact h0
 |succ n ih=>
  intro l h;have e:l=l.take n++ [l[n]'(by omega)]:=by rw [<-List.take_succ_eq_append_getElem (by omega)];exact(List.take_of_length_le (by omega)).symm
  rw [e];exact h1 _ _ (ih _ (by rw [List.length_take];omega))
theorem xTt(i:Nat)(rs:List Rowd):(zJm i rs).Nodup:=by
 refine xK7 (p:=fun rs=>(zJm i rs).Nodup) List.nodup_nil (fun l r h=> ?_) _ rs rfl;rw [xKM];split
 ·exact h
 ·rename_i hn;rw [List.nodup_append];exact⟨h,by simp,fun a ha b hb=>by simp at hb;subst hb;rintro rfl;exact hn ha⟩
theorem xWi{i:Nat}{x:Int}(k:Nat)(rs:List Rowd):x ∉ zJm i rs->gSum i k rs x=0/\gFrm i rs x=[]:=by
 refine xK7 (p:=fun rs=>x ∉ zJm i rs->gSum i k rs x=0/\gFrm i rs x=[]) (fun _=>⟨rfl,rfl⟩) (fun l r h hx=> ?_) _ rs rfl;rw [xKM] at hx;have hx2:x ∉ zJm i l/\gKey i r≠x:=by
  split at hx
  ·rename_i hm;exact⟨hx,fun e=>hx (e ▸ hm)⟩
  ·rw [List.mem_append] at hx;exact⟨fun h=>hx (.inl h),fun e=>hx (.inr (by simp [e]))⟩
 rw [xOA,xKL,if_neg hx2.2,if_neg hx2.2];exact h hx2.1
theorem xNT(i:Nat)(rs:List Rowd):SI (zI5 i rs):=by
 have h1:(zI5 i rs).Pairwise fun x y=>decide (x<=y)=true:=List.pairwise_mergeSort (fun x y z h1 h2=>by simp at h1 h2 ⊢;omega) (fun x y=>by simp;omega) _;have h2:(zI5 i rs).Nodup:=(List.mergeSort_perm _ _).nodup_iff.2 (xTt i rs);refine(h1.and h2).imp fun {x y} h=> ?_;have:=h.1;have:=h.2;simp at*;omega
theorem xML{i:Nat}{rs:List Rowd}{x:Int}:x∈zI5 i rs↔x∈zJm i rs:=List.mem_mergeSort
theorem xUN(i:Nat)(rs:List Rowd)(r:Rowd):zI5 i (rs++ [r])=insK (gKey i r) (zI5 i rs):=by
 refine xWo (xNT _ _) (xWn (xNT _ _)) fun x=> ?_;rw [xML,xKM,xPT,xML];split
 ·rename_i hm;exact⟨.inr,fun h=>h.elim (fun e=>e ▸ hm) id⟩
 ·rw [List.mem_append];simp [or_comm]
theorem xOz(i:Nat)(rs:List Rowd):(zI5 i rs).length<=rs.length:=by
 have h0:(zI5 i rs).length=(zJm i rs).length:=List.length_mergeSort _;rw [h0];refine xK7 (p:=fun rs=>(zJm i rs).length<=rs.length) (Nat.le_refl _) (fun l r h=> ?_) _ rs rfl;rw [xKM];split <;>simp <;>omega
theorem xTW{i L:Nat}{x:Int}(rs:List Rowd)(h:∀r∈rs,r.frm.length<=L):(gFrm i rs x).length<=rs.length*L:=by
 refine xK7 (p:=fun rs=>(∀r∈rs,r.frm.length<=L)->(gFrm i rs x).length<=rs.length*L) (fun _=>by simp [gFrm]) (fun l r ih h=> ?_) _ rs rfl h;have h1:=ih fun q hq=>h q (List.mem_append_left _ hq);have h2:=h r (by simp);have h3:=xUP (gFrm i l x) r.frm;rw [xKL,List.length_append,List.length_cons,List.length_nil,Nat.add_mul];split <;>omega
theorem vEH{i:Nat}{x:Int}(rs:List Rowd):SO (gFrm i rs x):=by
 refine xK7 (p:=fun rs=>SO (gFrm i rs x)) List.Pairwise.nil (fun l r ih=> ?_) _ rs rfl;rw [xKL];split
 ·exact xSt _ _
 ·exact ih
def rowK(s:Int->Int)(g:Int->List Org)(y:Int):Rowd:=⟨[y,s y],g y⟩
def putM(s:Int->Int)(g:Int->List Org)(x v:Int)(f:List Org):List Int->List Rowd
 | []=> [⟨[x,v],f⟩]
 |y::l=>if y=x then⟨[x,IntKind.i64.wrap (s x+v)],zJe (g x) f⟩::l.map (rowK s g) else if x<y then⟨[x,v],f⟩::rowK s g y::l.map (rowK s g) else rowK s g y::putM s g x v f l
theorem xTV{s s' :Int->Int}{g g' :Int->List Org}{x v:Int}{f:List Org}(hs:∀y,s' y=if x=y then IntKind.i64.wrap (s y+v) else s y)(hg:∀y,g' y=if x=y then zJe (g y) f else g y):
 ∀ {l:List Int},SI l->(x ∉ l->s' x=v/\g' x=f)->putM s g x v f l=(insK x l).map (rowK s' g')
 | [],_,h=>by
   obtain⟨h1,h2⟩:=h (by simp);simp [putM,insK,rowK,h1,h2]
 |y::l,hl,h=>by
  have hl' :=List.pairwise_cons.1 hl;have same:∀z,z≠x->rowK s' g' z=rowK s g z:=fun z hz=>by simp [rowK,hs,hg,Ne.symm hz]
  unfold putM insK;by_cases e:y=x
  ·subst e;rw [if_pos rfl,if_pos rfl,List.map_cons]
   congr 1
   ·simp [rowK,hs,hg]
   ·exact(List.map_congr_left fun z hz=>same z (by have:=hl'.1 z hz;omega)).symm
  ·rw [if_neg e,if_neg e];by_cases hlt:x<y
   ·rw [if_pos hlt,if_pos hlt,List.map_cons,List.map_cons]
    obtain⟨h1,h2⟩:=h (by
     rw [List.mem_cons];rintro (e2|e2)
     ·exact e e2.symm
     ·have:=hl'.1 x e2;omega)
    congr 1
    ·simp [rowK,h1,h2]
    ·congr 1
     ·exact(same y e).symm
     ·exact(List.map_congr_left fun z hz=>same z (by have:=hl'.1 z hz;omega)).symm
   ·rw [if_neg hlt,if_neg hlt,List.map_cons,same y e]
    congr 1
    exact xTV hs hg hl'.2 fun hx=>h fun hm=>(List.mem_cons.1 hm).elim (fun e2=>e e2.symm) hx
theorem xWj{i k:Nat}{rs:List Rowd}{r:Rowd}(h1: -1000000000<=gKey k r/\gKey k r<=1000000000)(h2:SO r.frm):
 putM (gSum i k rs) (gFrm i rs) (gKey i r) (gKey k r) r.frm (zI5 i rs)=zJn i k (rs++ [r]):=by
 unfold zJn;rw [xUN];refine xTV (fun y=>xOA i k rs r y) (fun y=>xKL i rs r y) (xNT i rs) fun hx=> ?_;obtain⟨a,b⟩:=xWi k rs (fun h=>hx (xML.2 h));rw [xOA,xKL,if_pos rfl,if_pos rfl,a,b];refine⟨?_,?_⟩
 ·rw [Int.zero_add];exact xC7 (by omega) (by omega)
 ·rw [<-xRz List.Pairwise.nil h2,mrg]
end Go.Ab
end
section
namespace Go.Ab
theorem xSj{N K:Nat}{s:Int->Int}{g:Int->List Org}{x v:Int}{f:List Org}{xs:List Int}(hl:xs.length<=1000):∀(n j:Nat) (acc:List Rowd),j<=xs.length->xs.length<n+j->acc.length<=20000+j->(∀y∈xs.drop j,x<y)->
 xCW N n (xs.map (rowK s g)) x v f acc true (j:Int)=some (acc++(xs.drop j).map (rowK s g)):=by
 intro n
 induction n with
 |zero=>intro j acc h1 h2;omega
 |succ n ih=>
  intro j acc hj hn hacc hgt;have hml:(xs.map (rowK s g)).length=xs.length:=List.length_map _;cases hd:xs.drop j with
  |nil=>
   have hj2:j=xs.length:=by have:=xNQ hd;omega
   subst hj2;simp only [xCW,hml,Int.lt_irrefl,decide_false,cond_false,Bool.not_true,List.map_nil,List.append_nil]
  |cons y l=>
   obtain⟨h1,h2,h3⟩:=xKC hd;have hj' :(j:Int)<(xs.length:Int):=by omega
   have hy:x<y:=hgt y (by rw [hd];exact List.mem_cons_self);have hg:(xs.map (rowK s g))[j]? =some (rowK s g y):=by rw [List.getElem?_map,h2];rfl
   have e1:(y==x)=false:=beq_eq_false_iff_ne.2 (by omega);have e2:decide (y>x)=true:=decide_eq_true (by omega);have:=ih (j+1) (acc++ [rowK s g y]) (by omega) (by omega) (by simp;omega) (fun z hz=>hgt z (by rw [hd];rw [h3] at hz;exact List.mem_cons_of_mem _ hz));rw [h3] at this;simp only [xCW,hml,decide_eq_true hj',cond_true,Int.toNat_natCast,xBq hg,rowK,List.length_cons,List.length_nil,Int.toNat_zero,List.getD_cons_zero,e1,cond_false,e2,Bool.not_true,xBe h1 (by omega:xs.length<=_)];rw [if_pos (by omega),if_pos (by omega),if_pos (by unfold Lim;omega)];simp only [rowK] at this;rw [this];simp [rowK]
theorem xWg{N K:Nat}{s:Int->Int}{g:Int->List Org}{x v:Int}{f:List Org}{xs:List Int}(hl:xs.length<=1000)(hsi:SI xs)(hf:SO f)(hg:SO (g x))(hfl:f.length<=10000000000)(hgl:(g x).length<=10000000000)(hN:(g x).length+f.length<N):∀(n j:Nat) (acc:List Rowd),j<=xs.length->xs.length<n+j->acc.length<=10000+j->
 xCW N n (xs.map (rowK s g)) x v f acc false (j:Int)=some (acc++putM s g x v f (xs.drop j)):=by
 intro n
 induction n with
 |zero=>intro j acc h1 h2;omega
 |succ n ih=>
  intro j acc hj hn hacc;have hml:(xs.map (rowK s g)).length=xs.length:=List.length_map _;cases hd:xs.drop j with
  |nil=>
   have hj2:j=xs.length:=by have:=xNQ hd;omega
   subst hj2;simp only [xCW,hml,Int.lt_irrefl,decide_false,cond_false,Bool.not_false,cond_true,putM,List.nil_append,List.length_cons,List.length_nil];rw [if_pos (by unfold Lim;omega),if_pos (by unfold Lim;omega)]
  |cons y l=>
   obtain⟨h1,h2,h3⟩:=xKC hd;have hj' :(j:Int)<(xs.length:Int):=by omega
   have hg' :(xs.map (rowK s g))[j]? =some (rowK s g y):=by rw [List.getElem?_map,h2];rfl
   have hsd:SI (y::l):=by rw [<-hd];exact List.Pairwise.sublist (List.drop_sublist _ _) hsi
   have hyl:=(List.pairwise_cons.1 hsd).1;by_cases e:y=x
   ·subst e;have:=xSj (N:=N) (K:=K) (s:=s) (g:=g) (x:=y) (v:=v) (f:=f) hl n (j+1) (acc++ [⟨[y,IntKind.i64.wrap (s y+v)],zJe (g y) f⟩]) (by omega) (by omega) (by simp;omega) (fun z hz=>by rw [h3] at hz;exact hyl z hz);rw [h3] at this;have e2:decide (y>y)=false:=decide_eq_false (by omega);simp only [xCW,hml,decide_eq_true hj',cond_true,Int.toNat_natCast,xBq hg',rowK,List.length_cons,List.length_nil,Int.toNat_zero,List.getD_cons_zero,beq_self_eq_true,show Int.toNat 1=1 from rfl,List.getD_cons_succ,xON (N:=N) hg hf (by omega) (by omega),Option.bind_some,e2,cond_false,xBe h1 (by omega:xs.length<=_)];rw [if_pos (by omega),if_pos (by omega),if_pos (by omega),if_pos (by omega),if_pos (by unfold Lim;omega)];rw [this];simp [putM,rowK]
   ·have e1:(y==x)=false:=beq_eq_false_iff_ne.2 e;by_cases hlt:x<y
    ·have:=xSj (N:=N) (K:=K) (s:=s) (g:=g) (x:=x) (v:=v) (f:=f) hl n (j+1) ((acc++ [⟨[x,v],f⟩])++ [rowK s g y]) (by omega) (by omega) (by simp;omega) (fun z hz=>by rw [h3] at hz;have:y<z:=hyl z hz;omega);rw [h3] at this;have e2:decide (y>x)=true:=decide_eq_true (by omega);simp only [xCW,hml,decide_eq_true hj',cond_true,Int.toNat_natCast,xBq hg',rowK,List.length_cons,List.length_nil,Int.toNat_zero,List.getD_cons_zero,e1,cond_false,e2,Bool.not_false,List.nil_append,List.length_append,xBe h1 (by omega:xs.length<=_)];rw [if_pos (by omega),if_pos (by omega),if_pos (by unfold Lim;omega),if_pos (by unfold Lim;omega),if_pos (by unfold Lim;omega)];simp only [rowK] at this;rw [this];simp [putM,rowK,e,hlt]
    ·have:=ih (j+1) (acc++ [rowK s g y]) (by omega) (by omega) (by simp;omega);rw [h3] at this;have e2:decide (y>x)=false:=decide_eq_false (by omega);simp only [xCW,hml,decide_eq_true hj',cond_true,Int.toNat_natCast,xBq hg',rowK,List.length_cons,List.length_nil,Int.toNat_zero,List.getD_cons_zero,e1,cond_false,e2,xBe h1 (by omega:xs.length<=_)];rw [if_pos (by omega),if_pos (by omega),if_pos (by unfold Lim;omega)];simp only [rowK] at this;rw [this];simp [putM,rowK,e,hlt]
structure GRowOk (K i k:Nat) (t:Rowd):Prop where
 hi:i<t.cells.length
 hk:k<t.cells.length
 f:t.frm.length<=K
 so:SO t.frm
 num: -1000000000<=gKey k t/\gKey k t<=1000000000
theorem xRd{N K i k:Nat}{rs:List Rowd}{r:Rowd}(hK:K<=100000000)(hN:20*K<N)(hK2:1000<=K)(hl:rs.length<=12)(h:∀t∈rs,GRowOk K i k t)(hr:GRowOk K i k r):
 xLM N (zJn i k rs) (gKey i r) (gKey k r) r.frm=some (zJn i k (rs++ [r])):=by
 have h1:=xOz i rs;have h2:=xTW (i:=i) (x:=gKey i r) (L:=K) rs fun t ht=>(h t ht).f;have h3:rs.length*K<=12*K:=Nat.mul_le_mul hl (Nat.le_refl _);have h4:=hr.f;have:=xWg (N:=N) (K:=K) (s:=gSum i k rs) (g:=gFrm i rs) (x:=gKey i r) (v:=gKey k r) (f:=r.frm) (xs:=zI5 i rs) (by omega) (xNT i rs) hr.so (vEH rs) (by omega) (by omega) (by omega) N 0 [] (Nat.zero_le _) (by omega) (by simp);rw [List.drop_zero,List.nil_append,xWj hr.num hr.so] at this;exact this
theorem xWR{i:Nat}{t:Rowd}:List.getD t.cells i Ty.int.dflt=gKey i t:=rfl
theorem xPj{N:Nat}{a b:Str}{z:Val}{xs:List Int}{s:Int->Int}{g:Int->List Org}(hl:xs.length<=1000)(hN:1000<N):
 xDR N N 0 z (.mk 5 0 0 [] [] [a,b] (xs.map (rowK s g)))=some (if xs.all (fun x=>numB (s x))=true then .mk 5 0 0 [] [] [a,b] (xs.map (rowK s g)) else errV 5):=by
 have:=xG3 (L:=fun m j (_:Unit)=>xDR N m j z (.mk 5 0 0 [] [] [a,b] (xs.map (rowK s g)))) xs (fun l _=>if l.all (fun x=>numB (s x))=true then .mk 5 0 0 [] [] [a,b] (xs.map (rowK s g)) else errV 5) (fun _ _=>True)
  (fun n q _=>by
    simp only [xDR,vr,List.length_map,Int.lt_irrefl,decide_false,cond_false,List.all_nil,if_true])
  (fun j x l q hd hj hx _=>by
    have hj' :(j:Int)<(xs.length:Int):=by omega
    have hg:(xs.map (rowK s g))[j]? =some (rowK s g x):=by rw [List.getElem?_map,hx];rfl
    cases hnum:numB (s x) with
    |true=>
     refine .inl ⟨(),trivial,by simp [hnum],fun n=> ?_⟩;simp only [xDR,vr,List.length_map,decide_eq_true hj',cond_true,Int.toNat_natCast,xBq hg,rowK,List.length_cons,List.length_nil,show Int.toNat 1=1 from rfl,List.getD_cons_succ,List.getD_cons_zero,xHY,Option.bind_some,show xJ0 (s x)=true from hnum,Bool.not_true,cond_false,xBe hj (by omega:xs.length<=_)];rw [if_pos (by omega),if_pos (by omega)]
    |false=>
     refine .inr fun n=> ?_;simp only [xDR,vr,List.length_map,decide_eq_true hj',cond_true,Int.toNat_natCast,xBq hg,rowK,List.length_cons,List.length_nil,show Int.toNat 1=1 from rfl,List.getD_cons_succ,List.getD_cons_zero,xHY,Option.bind_some,show xJ0 (s x)=false from hnum,Bool.not_false,xCh];rw [if_pos (by omega),if_pos (by omega)];simp [hnum,errV]) N 0 () trivial (Nat.zero_le _) (by omega)
 simpa using this
theorem xOJ{N K i k:Nat}{t z:Val}{a b:Str}(hK:K<=100000000)(hN:20*K<N)(hK2:1000<=K)(hl:t.rows.length<=12)(h:∀r∈t.rows,GRowOk K i k r):
 xEw N N (i:Int) (k:Int) 0 t z (.mk 5 0 0 [] [] [a,b] [])=some (if(zI5 i t.rows).all (fun x=>numB (gSum i k t.rows x))=true then .mk 5 0 0 [] [] [a,b] (zJn i k t.rows) else errV 5):=by
 have hlk:=xOz i t.rows
 exact xG3 (L:=fun m j q=>xEw N m (i:Int) (k:Int) j t z (.mk 5 0 0 [] [] [a,b] q)) t.rows (fun _ _=>if(zI5 i t.rows).all (fun x=>numB (gSum i k t.rows x))=true then Val.mk 5 0 0 [] [] [a,b] (zJn i k t.rows) else errV 5) (fun j q=>q=zJn i k (t.rows.take j))
  (fun n q hq=>by
    have hq:q=zJn i k (t.rows.take t.rows.length):=hq;rw [List.take_length] at hq;subst hq;simp only [xEw,Int.lt_irrefl,decide_false,cond_false];exact xPj (by omega) (by omega))
  (fun j x l q hd hj hx hq=>by
    have hj' :(j:Int)<(t.rows.length:Int):=by omega
    have hm:=h x (List.mem_of_getElem? hx);have hti:t.rows.take (j+1)=t.rows.take j++ [x]:=by
     rw [List.take_succ_eq_append_getElem hj];rw [List.getElem?_eq_getElem hj] at hx;cases hx
     rfl
    refine .inl ⟨zJn i k (t.rows.take (j+1)),rfl,rfl,fun n=> ?_⟩;have hp:=xRd (N:=N) (K:=K) (i:=i) (k:=k) (rs:=t.rows.take j) (r:=x) hK hN hK2 (by rw [List.length_take];omega) (fun r hr=>h r (List.mem_of_mem_take hr)) hm;have hq:q=zJn i k (t.rows.take j):=hq;rw [<-hq,<-hti] at hp;have hi:=hm.hi;have hk:=hm.hk;simp only [xEw,decide_eq_true hj',cond_true,Int.toNat_natCast,xBq hx,xWR,vk,vn,vs,vt,vl,vc,vr,hp,Option.bind_some,xBe hj (by omega:t.rows.length<=_)];rw [if_pos (by omega),if_pos (by omega),if_pos (by omega)]) N 0 [] (by simp [zJn,zI5,zJm]) (Nat.zero_le _) (by omega)
def xLm(i k:Int)(a b t:Val):Val:=bif decide (i<0) then errV 7 else bif decide (k<0) then errV 7 else bif i==k then errV 7 else
 if(zI5 i.toNat t.rows).all (fun x=>numB (gSum i.toNat k.toNat t.rows x))=true then .mk 5 0 0 [] [] [a.text,b.text] (zJn i.toNat k.toNat t.rows) else errV 5
def xJv(a b t:Val):Val×Bool:=bif(xKX [2,2,5] [a,b,t]).2.1 then((xKX [2,2,5] [a,b,t]).1,(xKX [2,2,5] [a,b,t]).2.2) else(xLm (idxS t.columns a.text 0) (idxS t.columns b.text 0) a b t,false)
theorem xPC{v:Val}(hv:xF3 v=true)(hk:v.kind=5):∀r∈v.rows,∀k,k<r.cells.length-> -1000000000<=gKey k r/\gKey k r<=1000000000:=by
 rw [xLa,hk] at hv;simp only [show((5:Int)==1)=false from rfl,show((5:Int)==2)=false from rfl,show((5:Int)==4)=false from rfl,show((5:Int)==6)=false from rfl,show((5:Int)==5)=true from rfl,cond_true,cond_false,Bool.and_eq_true,xKw] at hv;obtain⟨_,_,_,_,_,_,h⟩:=hv;intro r hr k hlt;obtain⟨i,hi⟩:=List.getElem?_of_mem hr;have:=xJs h i r hi;simp only [rowP,Bool.and_eq_true,beq_iff_eq] at this;have h2:=xJs this.2.1 k r.cells[k] (List.getElem?_eq_getElem hlt);simp only [xJ0,Bool.and_eq_true,decide_eq_true_eq] at h2;unfold gKey;rw [List.getD_eq_getElem?_getD,List.getElem?_eq_getElem hlt];exact h2
theorem xWS{K:Nat}(hK:1000<=K/\K<=100000000){a b t:Val}(ha:a.Fit K)(hb:b.Fit K)(ht:t.Fit K):Big fun N=>xDY N a b t=some (xJv a b t)/\xE1 N a b t=some (xJv a b t).1:=by
 obtain⟨_,_,_,_,_,t6,t7⟩:=Val.fit_iff.1 ht;have htc:t.columns.length<=K:=t6.1;refine((xRx (by omega) (vs:=[a,b,t]) (ks:=[2,2,5]) (xOO ha hb ht) (by simp;omega) rfl).and (xKA (20*K))).imp fun N ⟨⟨h1,h2⟩,hN⟩=> ?_;obtain⟨e1,e2,e3,_⟩:=xPr (ks:=[2,2,5]) (xOO ha hb ht);have i1:=xJx (N:=N) (v:=t) (s:=a.text) (by omega) (by omega);have i2:=xJx (N:=N) (v:=t) (s:=b.text) (by omega) (by omega);have j1:=xJR (N:=N) (v:=t) (s:=a.text) (by omega) (by omega);have j2:=xJR (N:=N) (v:=t) (s:=b.text) (by omega) (by omega);cases g1:(xKX [2,2,5] [a,b,t]).2.1
 ·obtain⟨g2,g3⟩:=xTI g1;obtain⟨_,_,hk2⟩:=kb3 g3;have htag:=xVf g1;have ot:=xT1 (g2 t (by simp)) hk2;have rt:=xPD (g2 t (by simp)) hk2;have st:=xWu (g2 t (by simp)) hk2;have nt:=xPC (g2 t (by simp)) hk2;rcases xMy (s:=a.text) (xs:=t.columns) (j:=0) with ⟨hi,_⟩|⟨i,hi1,hi,hia,_⟩
  ·have hneg:idxS t.columns a.text 0<0:=by omega
   refine⟨?_,?_⟩
   ·simp only [xDY,Val.re_eq,h1,Option.bind_some,g1,htag,cond_false,i1,i2,decide_eq_true hneg,cond_true,xCr,xJv,xLm];rfl
   ·simp only [xE1,Val.re_eq,h2,Option.bind_some,g1,cond_false,j1,j2,decide_eq_true hneg,cond_true,xCh,xJv,xLm];rfl
  ·rw [Nat.zero_add] at hi;have hni:¬(i:Int)<0:=by omega
   rcases xMy (s:=b.text) (xs:=t.columns) (j:=0) with ⟨hk,_⟩|⟨k,hk1',hk,hks,_⟩
   ·have hneg:idxS t.columns b.text 0<0:=by omega
    refine⟨?_,?_⟩
    ·simp only [xDY,Val.re_eq,h1,Option.bind_some,g1,htag,cond_false,i1,i2,hi,decide_eq_false hni,decide_eq_true hneg,cond_true,xCr,xJv,xLm];rfl
    ·simp only [xE1,Val.re_eq,h2,Option.bind_some,g1,cond_false,j1,j2,hi,decide_eq_false hni,decide_eq_true hneg,cond_true,xCh,xJv,xLm];rfl
   ·rw [Nat.zero_add] at hk;have hnk:¬(k:Int)<0:=by omega
    have heq:(a.text==b.text)=((i:Int)==(k:Int)):=by
     rw [Bool.eq_iff_iff,beq_iff_eq,beq_iff_eq];constructor
     ·intro e;rw [e,hk] at hi;exact hi.symm
     ·intro e;have e:i=k:=by omega
      subst e;rw [hia] at hks;exact Option.some.inj hks
    by_cases hik:(i:Int)=(k:Int)
    ·have b1:((i:Int)==(k:Int))=true:=beq_iff_eq.2 hik;refine⟨?_,?_⟩
     ·simp only [xDY,Val.re_eq,h1,Option.bind_some,g1,htag,cond_false,i1,i2,hi,hk,decide_eq_false hni,decide_eq_false hnk,heq,b1,cond_true,xCr,xJv,xLm];rfl
     ·simp only [xE1,Val.re_eq,h2,Option.bind_some,g1,cond_false,j1,j2,hi,hk,decide_eq_false hni,decide_eq_false hnk,b1,cond_true,xCh,xJv,xLm];rfl
    ·have b1:((i:Int)==(k:Int))=false:=beq_eq_false_iff_ne.2 hik;have hR:∀r∈t.rows,GRowOk K i k r:=fun r hr=>by
      have e:=rt r hr;exact⟨by omega,by omega,(t7.2 r hr).2.1,st r hr,nt r hr k (by omega)⟩
     have l2:=xOJ (N:=N) (K:=K) (i:=i) (k:=k) (t:=t) (z:=Val.mk 0 0 0 [] [] [] []) (a:=a.text) (b:=b.text) hK.2 hN hK.1 ot.2 hR;have l1:zJt (i:Int) (k:Int) a b t=some (if(zI5 i t.rows).all (fun x=>numB (gSum i k t.rows x))=true then Val.mk 5 0 0 [] [] [a.text,b.text] (zJn i k t.rows) else Val.mk 6 5 0 [] [] [] [],false):=by
      have hall:t.rows.all (zI9 (i:Int).toNat (k:Int).toNat)=true:=by
       rw [List.all_eq_true];intro r hr;have:=hR r hr;have h1:=this.hi;have h2:=this.hk;have h3:=this.f;simp only [zI9,Int.toNat_natCast,Bool.and_eq_true,decide_eq_true_eq];omega
      unfold zJt;refine(if_pos ⟨by omega,by omega,hall,by have:=ot.2;omega⟩).trans ?_;simp only [Int.toNat_natCast]
     refine⟨?_,?_⟩
     ·simp only [xDY,xHM,Val.re_eq,h1,Option.bind_some,g1,htag,cond_false,i1,i2,hi,hk,decide_eq_false hni,decide_eq_false hnk,heq,b1,l1,xJv,xLm,Int.toNat_natCast];rfl
     ·simp only [xE1,Val.re_eq,h2,Option.bind_some,g1,cond_false,j1,j2,hi,hk,decide_eq_false hni,decide_eq_false hnk,b1,l2,xJv,xLm,Int.toNat_natCast]
 ·refine⟨?_,?_⟩
  ·simp only [xDY,Val.re_eq,h1,Option.bind_some,e1,e2,e3,List.isEmpty_nil,if_true,xPP e1 e2 e3,g1,cond_true,xJv];cases (xKX [2,2,5] [a,b,t]).2.2 <;>rfl
  ·simp only [xE1,Val.re_eq,h2,Option.bind_some,g1,cond_true,xJv]
end Go.Ab
end
section
namespace Go.Ab
theorem xWh{i:Nat}{x:Int}(rs:List Rowd):x∈zJm i rs->∃r∈rs,gKey i r=x:=by
 refine xK7 (p:=fun rs=>x∈zJm i rs->∃r∈rs,gKey i r=x) (fun h=>by cases h) (fun l r ih h=> ?_) _ rs rfl;rw [xKM] at h;split at h
 ·obtain⟨q,hq,e⟩:=ih h;exact⟨q,List.mem_append_left _ hq,e⟩
 ·rcases List.mem_append.1 h with h|h
  ·obtain⟨q,hq,e⟩:=ih h;exact⟨q,List.mem_append_left _ hq,e⟩
  ·simp at h;exact⟨r,by simp,h.symm⟩
theorem vAg{i:Nat}{x:Int}{o:Org}(rs:List Rowd):o∈gFrm i rs x->∃r∈rs,gKey i r=x/\o∈r.frm:=by
 refine xK7 (p:=fun rs=>o∈gFrm i rs x->∃r∈rs,gKey i r=x/\o∈r.frm) (fun h=>by cases h) (fun l r ih h=> ?_) _ rs rfl;rw [xKL] at h;split at h
 ·rename_i hk;rcases xPt.1 h with h|h
  ·obtain⟨q,hq,e⟩:=ih h;exact⟨q,List.mem_append_left _ hq,e⟩
  ·exact⟨r,by simp,hk,h⟩
 ·obtain⟨q,hq,e⟩:=ih h;exact⟨q,List.mem_append_left _ hq,e⟩
theorem xSW{a b t:Val}(ha:a.Fit 1048576)(hb:b.Fit 1048576)(ht:t.Fit 1048576):vAA 16777216 (xJv a b t):=by
 obtain⟨_,_,_,a4,_,_,_⟩:=Val.fit_iff.1 ha;obtain⟨_,_,_,b4,_,_,_⟩:=Val.fit_iff.1 hb;obtain⟨_,_,_,_,_,t6,t7⟩:=Val.fit_iff.1 ht;have htc:t.columns.length<=1048576:=t6.1;have fl:∀ {r:Val×Bool},Flat r.1->vAA 16777216 r:=fun {r} h=>⟨h.fit _,by rw [h.cnt];omega,fun _=>h⟩;have er:∀n:Int, -1000000<=n->n<=1000000->vAA 16777216 (errV n,false):=fun n h1 h2=>fl (xTF (xJw h1 h2));unfold xJv;cases g1:(xKX [2,2,5] [a,b,t]).2.1
 ·rw [jF];obtain⟨g2,g3⟩:=xTI g1;obtain⟨_,_,hk2⟩:=kb3 g3;have ot:=xT1 (g2 t (by simp)) hk2;have rt:=xPD (g2 t (by simp)) hk2;have nt:=xPC (g2 t (by simp)) hk2;rcases xMy (s:=a.text) (xs:=t.columns) (j:=0) with ⟨hi,_⟩|⟨i,hi1,hi,_,_⟩
  ·unfold xLm;rw [decide_eq_true (by omega:idxS t.columns a.text 0<0)];exact er 7 (by omega) (by omega)
  ·rw [Nat.zero_add] at hi;rw [hi];generalize idxS t.columns b.text 0=k;unfold xLm;rw [decide_eq_false (by omega:¬(i:Int)<0),cond_false,Int.toNat_natCast];cases decide (k<0)
   ·rw [jF];cases ((i:Int)==k)
    ·rw [jF];split
     ·rename_i hall;have hl:=xOz i t.rows;have hfit:∀x∈zJn i k.toNat t.rows,x.Fit 16777216:=fun x hx=>by
       obtain⟨y,hy,rfl⟩:=List.mem_map.1 hx;obtain⟨r,hr,e⟩:=xWh t.rows (xML.1 hy);have h1:=nt r hr i (by have:=rt r hr;omega);have h2:=List.all_eq_true.1 hall y hy;simp only [numB,Bool.and_eq_true,decide_eq_true_eq] at h2;have h3:=xTW (i:=i) (x:=y) (L:=1048576) t.rows fun q hq=>(t7.2 q hq).2.1;have h4:t.rows.length*1048576<=12*1048576:=Nat.mul_le_mul ot.2 (Nat.le_refl _);refine⟨⟨by show 2<=_;omega,fun n hn=> ?_⟩,by show(gFrm i t.rows y).length<=_;omega,fun o ho=> ?_⟩
       ·simp only [List.mem_cons,List.not_mem_nil,or_false] at hn;unfold I64;rcases hn with rfl|rfl <;>omega
       ·obtain⟨q,hq,_,hm⟩:=vAg t.rows ho;exact(t7.2 q hq).2.2 o hm
      have hgl:(zJn i k.toNat t.rows).length<=12:=by
       rw [zJn,List.length_map];have:=ot.2;omega
      refine⟨vAl ⟨by show 2<=_;omega,fun s hs=> ?_⟩ ⟨by omega,hfit⟩,?_,fun h=>by cases h⟩
      ·simp only [List.mem_cons,List.not_mem_nil,or_false] at hs;show s.length<=_;rcases hs with rfl|rfl
       ·have:a.text.length<=1048576:=a4;omega
       ·have:b.text.length<=1048576:=b4;omega
      ·show(Val.mk 5 0 0 [] [] _ _).cnt<=_;rw [vAk]
       have:=xNG (f:=cRow) (l:=zJn i k.toNat t.rows) (a:=100000000) (fun x hx=>by
        have f:=hfit x hx;have e1:x.frm.length<=16777216:=f.2.1;have e0:x.cells.length<=16777216:=f.1.1;have e2:=xNG (f:=cOrg) (l:=x.frm) (a:=2) (fun _ _=>Nat.le_refl _);simp only [cRow,xLK];omega)
       simp only [jC,List.length_nil];omega
     ·exact er 5 (by omega) (by omega)
    ·exact er 7 (by omega) (by omega)
   ·exact er 7 (by omega) (by omega)
 ·exact fl (xUK (xOO ha hb ht))
theorem xKl(a0 a1 a2:Val)(f0:∀z∈ [CV.int .i64 (Val.kind a0),.int .i64 (Val.n a0),.int .i64 (Val.step a0),.str (Val.text a0),.sl .ro .val (Val.list a0),.sl .ro .str (Val.columns a0),.sl .ro .row (Val.rows a0)],DFit z.toD)
 (f1:∀z∈ [CV.int .i64 (Val.kind a1),.int .i64 (Val.n a1),.int .i64 (Val.step a1),.str (Val.text a1),.sl .ro .val (Val.list a1),.sl .ro .str (Val.columns a1),.sl .ro .row (Val.rows a1)],DFit z.toD)
 (f2:∀z∈ [CV.int .i64 (Val.kind a2),.int .i64 (Val.n a2),.int .i64 (Val.step a2),.str (Val.text a2),.sl .ro .val (Val.list a2),.sl .ro .str (Val.columns a2),.sl .ro .row (Val.rows a2)],DFit z.toD):∃N,xDq N a0 a1 a2=some true:=by
 have hF:=xLG f0;have hG:=xLG f1;have hH:=xLG f2;by_cases h:left a0.size 1048576<0
 ·exact((xHp hF).imp fun N hs=>by simp [xDq,hs 1048576 (by omega) (by omega),h]).get
 ·have g0:=xSZ h;rw [xK2 g0] at h;by_cases h' :left a1.size (1048576 - (a0.size:Int))<0
  ·refine(((xHp hF).and (xHp hG)).imp fun N ⟨hs,ht⟩=> ?_).get;have e1:=hs 1048576 (by omega) (by omega);rw [xK2 g0] at e1;simp only [xDq,e1,Option.bind_some,decide_eq_false h,cond_false,ht _ (by omega:0<=1048576 - (a0.size:Int)) (by omega),decide_eq_true h',cond_true]
  ·have g1:=xSZ h';rw [xK2 g1] at h';by_cases h'' :left a2.size (1048576 - (a0.size:Int) - (a1.size:Int))<0
   ·refine(((xHp hF).and ((xHp hG).and (xHp hH))).imp fun N ⟨hs,ht,hu⟩=> ?_).get;have e1:=hs 1048576 (by omega) (by omega);rw [xK2 g0] at e1;have e2:=ht _ (by omega:0<=1048576 - (a0.size:Int)) (by omega);rw [xK2 g1] at e2;simp only [xDq,e1,e2,Option.bind_some,decide_eq_false h,decide_eq_false h',cond_false,hu _ (by omega:0<=1048576 - (a0.size:Int) - (a1.size:Int)) (by omega),decide_eq_true h'',cond_true]
   ·have g2:=xSZ h'';have s0:=Val.fit_size (K:=1048576) a0 hF (by omega);have s1:=Val.fit_size (K:=1048576) a1 hG (by omega);have s2:=Val.fit_size (K:=1048576) a2 hH (by omega);have c0:=Val.cnt_le a0;have c1:=Val.cnt_le a1;have c2:=Val.cnt_le a2;obtain⟨hff,hfc,hfl⟩:=xSW s0 s1 s2
    refine((((xHp hF).and ((xHp hG).and (xHp hH))).and (((xNo s0).and ((xNo s1).and (xNo s2))).and ((xJ3 s0 (by omega)).and ((xJ3 s1 (by omega)).and (xJ3 s2 (by omega)))))).and
     (((xWS (by omega) s0 s1 s2).and (xJ3 hff (by omega))).and (((xJ4 (by omega) s0).and ((xJ4 (by omega) s1).and (xJ4 (by omega) s2))).and ((xOY (by omega) hff (by omega)).and (xKA 274877906944)))))
     |>.imp (fun N ⟨⟨⟨z0,z1,z2⟩,⟨t0,t1,t2⟩,q0,q1,q2⟩,⟨⟨k4,k5⟩,k6⟩,⟨m0,m1,m2⟩,m3,hN⟩=> ?_) |>.get
    obtain⟨k0,xa0,xb0,xc0,u0,u1,p01,p02,p03,p04,_⟩:=m0 1 (by omega) (by omega);obtain⟨k1,xa1,xb1,xc1,v0,v1,p11,p12,p13,p14,_⟩:=m1 k0 (by omega) (by omega);obtain⟨k2,xa2,xb2,xc2,w0,w1,p21,p22,p23,p24,_⟩:=m2 k1 (by omega) (by omega);obtain⟨k',ya,yb,yc,r0,r1,r2,r3,r4,r5⟩:=m3;have e1:=z0 1048576 (by omega) (by omega);rw [xK2 g0] at e1;have e2:=z1 _ (by omega:0<=1048576 - (a0.size:Int)) (by omega);rw [xK2 g1] at e2;have e3:=z2 _ (by omega:0<=1048576 - (a0.size:Int) - (a1.size:Int)) (by omega);generalize xJv a0 a1 a2=r at*;simp only [xDq,e1,e2,e3,t0,t1,t2,q0,q1,q2,k4,k5,k6,Option.bind_some,decide_eq_false h,decide_eq_false h',decide_eq_false h'',cond_false];cases hr2:r.2
    ·simp only [jF,k6,Bool.not_true,p04,p14,p24,Option.bind_some,if_pos p01,if_pos p02,if_pos p03,if_pos p11,if_pos p12,if_pos p13,if_pos p21,if_pos p22,if_pos p23,decide_eq_false (by omega:¬k2<0),r4,if_pos r1,if_pos r2,if_pos r3,r5,decide_eq_false (by omega:¬k' <0),bne_self_eq_false]
    ·have hflat:=hfl hr2;obtain⟨f1,f2,f3,_⟩:=hflat;have hh:xCO N r.1 1=some 1:=by rw [<-xPP f1 f2 f3];exact xSX hN (by omega)
     simp only [jT,f1,f2,f3,List.isEmpty_nil,if_true,xPP f1 f2 f3,k6,Option.bind_some,Bool.not_true,cond_false,p04,p14,p24,if_pos p01,if_pos p02,if_pos p03,if_pos p11,if_pos p12,if_pos p13,if_pos p21,if_pos p22,if_pos p23,decide_eq_false (by omega:¬k2<0),xWV hN,hh,decide_eq_false (by omega:¬(1:Int)<0),bne_self_eq_false]
end Go.Ab
end
section
namespace Go.Proofs.YtchkdijelkdpaaaGreat
open Go.Ab Go.ChangeShapes Go.WideShapes Go.ChangeAt Go.RowKit
theorem own:ownKnob Tryz.prog.godebug=none:=by kernel_rfl
theorem xSY:laidOutB Tryz.prog=true:=by kernel_rfl
theorem xHs:zG8 Tryz.prog [(3,.int),(9,.str),(26,.val),(99,.row),(155,.org)]=true:=by kernel_rfl
set_option maxRecDepth 100000 in
theorem fnExactGroupSum_lifted(os:Os)(started:os.Started)(H:Type)(enc:TypeId×Value->H):
 ReturnsInHanded {} Tryz.checked os 6 .any (Rows.fnExactGroupSumSpec.pre6 enc Tryz.prog Tryz.f6 Rows.fnExactGroupSumRow.domain false) (Rows.fnExactGroupSumSpec.post enc Tryz.prog Tryz.f6 false true false false):=by
 refine returnsInHanded_of_change (C:=Tryz.checked) own started (by kernel_rfl) Tryz.func6
  (ChangeSpec.witness6 (enc:=enc) (C:=Tryz.checked) false ⟨#[], #[.agg #[.int .i64 0,.int .i64 0,.int .i64 0,.string ByteArray.empty,.slice none 0 0,.slice none 0 0,.slice none 0 0],.agg #[.int .i64 0,.int .i64 0,.int .i64 0,.string ByteArray.empty,.slice none 0 0,.slice none 0 0,.slice none 0 0],.agg #[.int .i64 0,.int .i64 0,.int .i64 0,.string ByteArray.empty,.slice none 0 0,.slice none 0 0,.slice none 0 0]],[]⟩ 8 (by kernel_rfl) (by kernel_rfl) (by kernel_rfl) (by kernel_rfl)) ?_
 intro W base args ds gs before hval0 hW hcnd _
 letI:Inhabited Lb:=⟨⟨[]⟩⟩
 have hval:∀(j:Nat) t v,Tryz.f6.params[j]? =some t->args[j]? =some v->Value.okWide Tryz.prog W .any base t v:=hval0;have hW' :=hW;obtain⟨p,q,hA0,hV,rfl,hfz,hnd⟩:=hW;have hA:DataW.TrodAll enc Tryz.prog W 0 (fun _=>true) true Tryz.f6.params.toList args.toList ds p:=hA0;rw [Tryz.params6] at hA hval;obtain⟨v0,vs0,d0,ds0,p0,q0,hargs,rfl,rfl,h0,r0⟩:=trodAll_cons hA;obtain⟨v1,vs1,d1,ds1,p1,q1,rfl,rfl,rfl,h1,r1⟩:=trodAll_cons r0;obtain⟨v2,vs2,d2,ds2,p2,q2,rfl,rfl,rfl,h2,r2⟩:=trodAll_cons r1;obtain⟨rfl,rfl,rfl⟩:=trodAll_nil r2;obtain rfl:args= #[v0,v1,v2]:=by cases args;simp_all
 obtain⟨rfl,rfl⟩:=trodVars_none hV;have lt0:∀x∈p0,x.block<W.heap.size:=by obtain⟨m,hm⟩:=h0;exact DataW.trod_lt m _ _ _ hm
 have lt1:∀x∈p1,x.block<W.heap.size:=by obtain⟨m,hm⟩:=h1;exact DataW.trod_lt m _ _ _ hm
 have lt2:∀x∈p2,x.block<W.heap.size:=by obtain⟨m,hm⟩:=h2;exact DataW.trod_lt m _ _ _ hm
 obtain⟨z0,e0,f0,vr0⟩:=vr_of xHs (g:=true) (t:=26) (ns:=[.inl (.int .i64),.inl (.int .i64),.inl (.int .i64),.inl .str,.inr .val,.inr .str,.inr .row]) (by kernel_rfl) (hval 0 26 v0 rfl rfl) h0;obtain⟨x0_0,_,rfl,e0_0⟩:=AreOf.int_inv e0;obtain⟨x0_1,_,rfl,e0_1⟩:=AreOf.int_inv e0_0;obtain⟨x0_2,_,rfl,e0_2⟩:=AreOf.int_inv e0_1;obtain⟨x0_3,_,rfl,e0_3⟩:=AreOf.str_inv e0_2;obtain⟨x0_4,_,rfl,e0_4⟩:=AreOf.sl_inv e0_3;obtain⟨x0_5,_,rfl,e0_5⟩:=AreOf.sl_inv e0_4;obtain⟨x0_6,_,rfl,e0_6⟩:=AreOf.sl_inv e0_5;obtain rfl:=e0_6.nil_inv;obtain⟨z1,e1,f1,vr1⟩:=vr_of xHs (g:=true) (t:=26) (ns:=[.inl (.int .i64),.inl (.int .i64),.inl (.int .i64),.inl .str,.inr .val,.inr .str,.inr .row]) (by kernel_rfl) (hval 1 26 v1 rfl rfl) h1;obtain⟨x1_0,_,rfl,e1_0⟩:=AreOf.int_inv e1;obtain⟨x1_1,_,rfl,e1_1⟩:=AreOf.int_inv e1_0;obtain⟨x1_2,_,rfl,e1_2⟩:=AreOf.int_inv e1_1;obtain⟨x1_3,_,rfl,e1_3⟩:=AreOf.str_inv e1_2;obtain⟨x1_4,_,rfl,e1_4⟩:=AreOf.sl_inv e1_3;obtain⟨x1_5,_,rfl,e1_5⟩:=AreOf.sl_inv e1_4;obtain⟨x1_6,_,rfl,e1_6⟩:=AreOf.sl_inv e1_5;obtain rfl:=e1_6.nil_inv;obtain⟨z2,e2,f2,vr2⟩:=vr_of xHs (g:=true) (t:=26) (ns:=[.inl (.int .i64),.inl (.int .i64),.inl (.int .i64),.inl .str,.inr .val,.inr .str,.inr .row]) (by kernel_rfl) (hval 2 26 v2 rfl rfl) h2;obtain⟨x2_0,_,rfl,e2_0⟩:=AreOf.int_inv e2;obtain⟨x2_1,_,rfl,e2_1⟩:=AreOf.int_inv e2_0;obtain⟨x2_2,_,rfl,e2_2⟩:=AreOf.int_inv e2_1;obtain⟨x2_3,_,rfl,e2_3⟩:=AreOf.str_inv e2_2;obtain⟨x2_4,_,rfl,e2_4⟩:=AreOf.sl_inv e2_3;obtain⟨x2_5,_,rfl,e2_5⟩:=AreOf.sl_inv e2_4;obtain⟨x2_6,_,rfl,e2_6⟩:=AreOf.sl_inv e2_5;obtain rfl:=e2_6.nil_inv;obtain⟨N,hF⟩:=xKl (Val.mk x0_0 x0_1 x0_2 x0_3 x0_4 x0_5 x0_6) (Val.mk x1_0 x1_1 x1_2 x1_3 x1_4 x1_5 x1_6) (Val.mk x2_0 x2_1 x2_2 x2_3 x2_4 x2_5 x2_6) f0 f1 f2;clear hA0 hval0;refine(zJh T.fk6 (T.laws_FnExactGroupSum_ok hF) (W:=W) (args:= #[v0,v1,v2]) ⟨vr0 _,vr1 _,vr2 _,trivial⟩ (fun x hx=>nomatch hx)).mono fun e W' ⟨he,bel⟩=> ?_;subst he;exact⟨_,rfl,_,_,_,[],_,[],hW',trodAll_mk1 (shut_bool Tryz.underlying4 _),(trodAll_cons_mk (Below.trod xSY (by kernel_rfl) (of_decide_eq_true (by kernel_rfl)) h0 bel lt0) (trodAll_cons_mk (Below.trod xSY (by kernel_rfl) (of_decide_eq_true (by kernel_rfl)) h1 bel lt1) (trodAll_cons_mk (Below.trod xSY (by kernel_rfl) (of_decide_eq_true (by kernel_rfl)) h2 bel lt2) trodAll_mk0))),rfl,bel.frame _,fun h=>by cases h⟩
theorem fnExactGroupSum_proved:Rows.FnExactGroupSumSaid:=
 OpenClaim.holds_of_wide 6 Tryz.f6 rfl rfl rfl rfl rfl rfl rfl ⟨rfl,rfl,rfl,rfl,rfl⟩ rfl rfl rfl rfl rfl (by kernel_rfl) Tryz.func6 (by kernel_rfl)
  (of_decide_eq_true (by kernel_rfl)) (by unfold Func.isWrapper;first |(rw [if_pos (by decide +kernel)];kernel_rfl) |(rw [if_neg (by decide +kernel)];exact⟨rfl,rfl⟩))
  (fun os started H enc _=>fnExactGroupSum_lifted os started H enc)
end Go.Proofs.YtchkdijelkdpaaaGreat
end
