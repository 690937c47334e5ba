/- The statement FnNoEffects holds: plain functions, certificates, laws. Conditions: none. -/
import Derived.Test.YtmkdoadmcaagiaaGreatDoorL1
import Derived.Test.YtmkdoadmcaagiaaGreatDoorFnNoEffectsP1
set_option linter.all false
open Go.IntKind (i64)
section
open Go.Proofs
namespace Go.Ab.T
set_option maxRecDepth 100000
variable [Inhabited Lb]
theorem xFW{P:Program}{f:FuncId}{ags:List Arg}{r:Val×Bool×Bool}(h:AbsCalls P f ags (KC r))(ht:r.2.2=true):AbsCalls P f ags (GY r):=by
 unfold KC at h;rw [ht] at h;exact h
theorem MH{P:Program}{f:FuncId}{ags:List Arg}{r:Val×Bool×Bool}(h:AbsCalls P f ags (KC r))(ht:r.2.2=true)(e0:List.isEmpty (Val.list r.1)=true)(e1:List.isEmpty (Val.columns r.1)=true)(e2:List.isEmpty (Val.rows r.1)=true):AbsCalls P f ags (TY r):=by
 have h:=xFW h ht;unfold GY at h;rw [ZW.1 e0,ZW.1 e1,ZW.1 e2] at h;exact h
def RW:=fO Tryz.func141 [0,4,6,10,12,14,16,18,28,36,5,11] [(2,[4,12,14,16,5])] [(8,[(1,.take,false)])]
theorem xBX{N}:∀n {x6 x7 x8 b2 r},FK N n x6 x7 x8 b2=some r->RS RW 2 [(4,vP 2),(12,vS .ro .val x6),(14,vI x7),(16,vI x8),(5,vV .own b2)] (KC r):=
 nI nE fun n ih=>fun h=>cE (oA h) (fun h=>bE (iE h) xE3 fun r1 h=>cE h (fun h=>bE h AQ fun r2 h=>dS h) fun h=>cE h (fun h=>dS h) fun h=>uS h ih) fun h=>dS h
theorem IE{N a0 r}(h:EG N a0=some r):AbC 141 (Ee a0) (KC r):=
 oK RW <| uE (oA h) (xBX _)
theorem Jr{N a0 r}(h:DY N a0=some r):AbC 142 (Ee a0) (AW r):=
 oK (fO Tryz.func142 [0,4,5]) <| bE (oA h) OP fun r1 h=>dE h
def S1:=fO Tryz.func93 [0,4,6,8,12,14,26,32,34,36,38,68,92,5,7,13,15] [(5,[0,4,32,34,36,5])] [(1,[(2,.take,false)]),(2,[(0,.take,false)]),(7,[(3,.take,false),(8,.take,false)]),(9,[(1,.take,false)]),(11,[(3,.take,false)]),(13,[(0,.take,false)])]
theorem Qa{N}:∀n {x0 x16 x17 x18 b2 r},DW N n x0 x16 x17 x18 b2=some r->RS S1 5 [(0,vS .ro .val x0),(4,vP 2),(32,vS .ro .val x16),(34,vI x17),(36,vI x18),(5,vV .own b2)] (AW r):=
 nI nE fun n ih=>fun h=>cE (oA h) (fun h=>cE (iE h) (fun h=>cE h (fun h=>cE h (fun h=>bE h AQ fun r1 h=>dS h) fun h=>uS h ih) fun h=>uS (cb F h) ih) fun h=>uS (cb F (cb F h)) ih) fun h=>bE h Jr fun r1 h=>cE h (fun h=>bE (cb Y h) AQ fun r2 h=>dS h) fun h=>bE h Su fun r2 h=>cE h (fun h=>bE h AQ fun r3 h=>dS h) fun h=>dS h
theorem Sp{N a0 r}(h:Hn N a0=some r):AbC 93 (Ee a0) (AW r):=
 oK S1 <| bK (oA h) IE fun r1 k h=>cM k h (fun h=>cE h (fun h=>bE h C7 fun r2 h=>dE h) fun h=>uE h (Qa _)) fun h=>cE h (fun h=>bE h C7 fun r2 h=>dE h) fun h=>uE h (Qa _)
theorem Jl{N a0 r}(h:Ez N a0=some r):AbC 144 [.val (vI a0)] (AW r):=
 oK (fO Tryz.func144 [0,4,10,5]) <| bE (oA h) D3 fun r1 h=>cE h (fun h=>bE h AQ fun r2 h=>dE h) fun h=>bE h Bv fun r2 h=>dE h
theorem OM{N a0 r}(h:Jv N a0=some r):AbC 145 [.val (vB a0)] (AW r):=
 oK (fO Tryz.func145 [0,4,6,5]) <| cE (oA h) (fun h=>bE h Bv fun r1 h=>dE h) fun h=>bE h Bv fun r1 h=>dE h
def Rr:=fO Tryz.func231 [0,2,8,10,20,24,26,28,48] [(4,[0,2,24,26])] [(8,[(1,.take,false)])]
theorem xCC{N}:∀n {x0 x1 x12 x13 r},IH N n x0 x1 x12 x13=some r->RS Rr 4 [(0,vS .ro .str x0),(2,vS .ro .str x1),(24,vI x12),(26,vI x13)] (AN r):=
 nI nE fun n ih=>fun h=>cE (oA h) (fun h=>cE (iE (iE h)) (fun h=>dS h) fun h=>uS h ih) fun h=>dS h
theorem xF3{N a0 a1 r}(h:MK N a0 a1=some r):AbC 231 (Pf a0 a1) (AN r):=
 oK Rr <| cE (oA h) (fun h=>dE h) fun h=>uE h (xCC _)
def Rs:=fO Tryz.func232 [0,2,8,10,20,24,26,28,48] [(4,[0,2,24,26])] [(8,[(1,.take,false)])]
theorem xCD{N}:∀n {x0 x1 x12 x13 r},IG N n x0 x1 x12 x13=some r->RS Rs 4 [(0,vS .ro .int x0),(2,vS .ro .int x1),(24,vI x12),(26,vI x13)] (AN r):=
 nI nE fun n ih=>fun h=>cE (oA h) (fun h=>cE (iE (iE h)) (fun h=>dS h) fun h=>uS h ih) fun h=>dS h
theorem xF1{N a0 a1 r}(h:MJ N a0 a1=some r):AbC 232 [.val (vS .ro .int a0),.val (vS .ro .int a1)] (AN r):=
 oK Rs <| cE (oA h) (fun h=>dE h) fun h=>uE h (xCD _)
def Rt:=fO Tryz.func233 [0,2,8,10,20,24,26,28,48] [(4,[0,2,24,26])] [(8,[(1,.take,false)])]
theorem xCE{N}:∀n {x0 x1 x12 x13 r},OX N n x0 x1 x12 x13=some r->RS Rt 4 [(0,vS .ro .org x0),(2,vS .ro .org x1),(24,vI x12),(26,vI x13)] (AN r):=
 nI nE fun n ih=>fun h=>cE (oA h) (fun h=>cE (iE (iE h)) (fun h=>dS h) fun h=>uS h ih) fun h=>dS h
theorem xF0{N a0 a1 r}(h:T2 N a0 a1=some r):AbC 233 (Ku a0 a1) (AN r):=
 oK Rt <| cE (oA h) (fun h=>dE h) fun h=>uE h (xCE _)
def LE(q:Val->Val->Bool->Option (Bool)):Prop:=∀a0 a1 a2 r,q a0 a1 a2=some r->AbC 183 (JQ a0 a1 a2) (AN r)
def Np:=fO Tryz.func183 [0,2,4,6,8,12,14,16,120,126,128,130,158,166,168,170,238,7,9] [(4,[4,6,8,126,128,7,9]),(10,[4,6,8,166,168,7,9])] [(1,[(5,.take,false),(12,.take,false),(19,.take,false),(26,.take,false),(34,.take,false),(43,.take,false)]),(8,[(1,.take,false)]),(12,[(14,.take,false),(16,.take,false)]),(14,[(1,.take,false)])]
theorem xB7{N}{q0}(g0:LE q0):∀n {x2 x83 x84 b3 b4 r},EA N q0 n x2 x83 x84 b3 b4=some r->RS Np 10 [(4,vB x2),(6,vP 3),(8,vP 4),(166,vI x83),(168,vI x84),(7,vV .ro b3),(9,vV .ro b4)] (AN r):=
 nI nE fun n ih=>fun h=>cE (oA h) (fun h=>bE (iE (iE h)) xF1 fun r1 h=>cE h (fun h=>dS (cb Y h)) fun h=>cE h (fun h=>bE (rp 4 (rp 4 h)) xF0 fun r2 h=>cE h (fun h=>dS h) fun h=>uS h ih) fun h=>uS (cb F h) ih) fun h=>dS h
theorem xB8{N}{q0}(g0:LE q0):∀n {x2 x63 x64 b3 b4 r},GV N q0 n x2 x63 x64 b3 b4=some r->RS Np 4 [(4,vB x2),(6,vP 3),(8,vP 4),(126,vI x63),(128,vI x64),(7,vV .ro b3),(9,vV .ro b4)] (AN r):=
 nI nE fun n ih=>fun h=>cE (oA h) (fun h=>bE (iE (iE h)) (g0 _ _ _ _) fun r1 h=>cE h (fun h=>dS h) fun h=>uS h ih) fun h=>uS h (xB7 g0 _)
theorem xFz{N}{q0}(g0:LE q0){a0 a1 a2 r}(h:MD N q0 a0 a1 a2=some r):AbC 183 (JQ a0 a1 a2) (AN r):=
 oK Np <| cE (oA h) (fun h=>dE (cb Y (cb Y (cb Y (cb Y (cb Y (cb Y h))))))) fun h=>cE h (fun h=>dE (cb Y (cb Y (cb Y (cb Y (cb Y h)))))) fun h=>cE h (fun h=>dE (cb Y (cb Y (cb Y (cb Y h))))) fun h=>cE h (fun h=>dE (cb Y (cb Y (cb Y h)))) fun h=>bE h xF3 fun r1 h=>cE h (fun h=>dE (cb Y (cb Y h))) fun h=>cE h (fun h=>dE (cb Y h)) fun h=>cE h (fun h=>dE h) fun h=>uE h (xB8 g0 _)
theorem TV{N:Nat}:∀d,LE (Cl N d)
 |0=>fun _ _ _ _ h=>nE h
 |d+1=>fun _ _ _ _ h=>xFz (N:=N) (TV d) h
theorem xFA{N:Nat}{a0:Val}{a1:Val}{a2:Bool}{r:Bool}(h:OR N a0 a1 a2=some r):AbC 183 (JQ a0 a1 a2) (AN r):=TV N _ _ _ r h
theorem xEQ{N a0 a1 r}(h:Jm N a0 a1=some r):AbC 146 (B2 a0 a1) (AN r):=
 oK (fO Tryz.func146 [0,2,4,6,8,5,7]) <| bE (oA h) xFA fun r1 h=>dE h
theorem xEH{P:Program}{f:FuncId}{ags:List Arg}{r:Val×Bool}(h:AbsCalls P f ags (GD r))(ht:r.2=true):AbsCalls P f ags (B9 r):=by
 unfold GD at h;rw [ht] at h;exact h
theorem xEG{P:Program}{f:FuncId}{ags:List Arg}{r:Val×Bool}(h:AbsCalls P f ags (GD r))(ht:r.2=true)(e0:List.isEmpty (Val.list r.1)=true)(e1:List.isEmpty (Val.columns r.1)=true)(e2:List.isEmpty (Val.rows r.1)=true):AbsCalls P f ags (Sm r):=by
 have h:=xEH h ht;unfold B9 at h;rw [ZW.1 e0,ZW.1 e1,ZW.1 e2] at h;exact h
def L1:=fO Tryz.func95 [0,2,4,8,10,12,14,16,18,20,22,38,90,114,140,156,182,202,226,250,274,298,9,11,13,15] [(7,[0,8,10,12,18,20,22,9,11,13]),(13,[0,8,10,12,18,20,22,9,11,13]),(17,[0,8,10,12,18,20,9,11,13])] [(1,[(3,.take,true),(4,.take,false)]),(2,[(0,.take,false)]),(3,[(0,.take,false)]),(4,[(3,.take,false)]),(5,[(3,.take,false)]),(6,[(3,.take,false)]),(7,[(2,.take,false)]),(9,[(2,.take,false)]),(13,[(2,.take,false),(3,.take,false)]),(16,[(6,.take,false)]),(17,[(2,.take,false)]),(19,[(2,.take,false)]),(21,[(2,.take,false)]),(23,[(2,.take,false)])]
theorem Qc{N}:∀ {x0 x9 x10 b4 b5 b6 r},L9 N x0 x9 x10 b4 b5 b6=some r->RS L1 17 [(0,vI x0),(8,vP 4),(10,vP 5),(12,vP 6),(18,vB x9),(20,vB x10),(9,vV .ro b4),(11,vV .ro b5),(13,vV .own b6)] (GD r):=
 fun {x0 x9 x10 b4 b5 b6 r} h=>cE (oA h) (fun h=>cE h (fun h=>bE h Jl fun r1 h=>dS h) fun h=>bE (ax ((x0:Int)==5) false (zW (gt 7 (cb F (rb F 1 (cb F (ax ((x0:Int)==4) false (zW (gt 3 (cb F (ax ((x0:Int)==3) false (zW (gt 1 h) rfl) h))) rfl) (cb F (ax ((x0:Int)==3) false (zW (gt 1 h) rfl) h))))))) rfl) (cb F (rb F 1 (cb F (ax ((x0:Int)==4) false (zW (gt 3 (cb F (ax ((x0:Int)==3) false (zW (gt 1 h) rfl) h))) rfl) (cb F (ax ((x0:Int)==3) false (zW (gt 1 h) rfl) h))))))) AQ fun r1 h=>dS h) fun h=>cE (cb F h) (fun h=>cE h (fun h=>bE h Jl fun r1 h=>dS h) fun h=>bE (ax ((x0:Int)==5) false (zW (gt 5 (cb F (rb F 1 (cb F (ax ((x0:Int)==4) false (zW (gt 1 h) rfl) h))))) rfl) (cb F (rb F 1 (cb F (ax ((x0:Int)==4) false (zW (gt 1 h) rfl) h))))) AQ fun r1 h=>dS h) fun h=>cE (cb F h) (fun h=>cE h (fun h=>bE h OM fun r1 h=>dS h) fun h=>cE (rb Y 1 h) (fun h=>bE h OM fun r1 h=>dS h) fun h=>bE (ax ((x0:Int)==5) false (zW (gt 3 h) rfl) h) AQ fun r1 h=>dS h) fun h=>cE (cb F (rb F 1 (cb F h))) (fun h=>bE h xEQ fun r1 h=>bE h OM fun r2 h=>dS h) fun h=>bE h AQ fun r1 h=>dS h
theorem Qb{N}:∀ {x0 x9 x10 x11 b4 b5 b6 r},L8 N x0 x9 x10 x11 b4 b5 b6=some r->RS L1 13 [(0,vI x0),(8,vP 4),(10,vP 5),(12,vP 6),(18,vB x9),(20,vB x10),(22,vB x11),(9,vV .ro b4),(11,vV .ro b5),(13,vV .own b6)] (GD r):=
 fun h=>cE (oA h) (fun h=>cE h (fun h=>cE h (fun h=>bE h AQ fun r1 h=>dS h) fun h=>bE h OP fun r1 h=>bE h OP fun r2 h=>dS (iE h)) fun h=>uS h Qc) fun h=>uS (cb F h) Qc
theorem Eu{N}:∀ {x0 x9 x10 x11 b4 b5 b6 r},DV N x0 x9 x10 x11 b4 b5 b6=some r->RS L1 7 [(0,vI x0),(8,vP 4),(10,vP 5),(12,vP 6),(18,vB x9),(20,vB x10),(22,vB x11),(9,vV .ro b4),(11,vV .ro b5),(13,vV .own b6)] (GD r):=
 fun h=>cE (oA h) (fun h=>cE h (fun h=>bE h Jl fun r1 h=>dS h) fun h=>cE (rb Y 1 h) (fun h=>cE h (fun h=>bE h AQ fun r1 h=>dS h) fun h=>bE (iE h) TJ fun r1 h=>dS h) fun h=>uS h Qb) fun h=>uS (cb F (rb F 1 (cb F h))) Qb
theorem xEF{N a0 a1 a2 r}(h:Jk N a0 a1 a2=some r):AbC 95 [.val (vI a0),.val (vV .ro a1),.val (vV .ro a2)] (GD r):=
 oK L1 <| bK (oA h) IE fun r1 k h=>cN k h (MH k) (fun h=>cE h (fun h=>dE h) fun h=>cE h (fun h=>uE (ax ((a1.kind:Int)==3) false (zW (gt 1 (ax ((a1.kind:Int)==2) false (zW (gt 0 h) rfl) h)) rfl) (ax ((a1.kind:Int)==2) false (zW (gt 0 h) rfl) h)) Eu) fun h=>cE h (fun h=>uE (ax ((a1.kind:Int)==3) false (zW (gt 0 h) rfl) h) Eu) fun h=>cE h (fun h=>uE h Eu) fun h=>uE h Eu) fun h=>cE h (fun h=>dE h) fun h=>cE h (fun h=>uE (ax ((a1.kind:Int)==3) false (zW (gt 1 (ax ((a1.kind:Int)==2) false (zW (gt 0 h) rfl) h)) rfl) (ax ((a1.kind:Int)==2) false (zW (gt 0 h) rfl) h)) Eu) fun h=>cE h (fun h=>uE (ax ((a1.kind:Int)==3) false (zW (gt 0 h) rfl) h) Eu) fun h=>cE h (fun h=>uE h Eu) fun h=>uE h Eu
def S4:=fO Tryz.func96 [0,2,4,10,12,14,18,22,24,26,28,11,19] [(3,[2,10,14,22,24,26,11])] [(5,[(0,.take,false),(8,.take,false)]),(6,[(1,.take,false)]),(7,[(0,.take,false),(6,.take,false)])]
theorem xDq{N}:∀n {x1 x7 x11 x12 x13 b5 r},Hm N n x1 x7 x11 x12 x13 b5=some r->RS S4 3 [(2,vTq x1),(10,vP 5),(14,vS .own .bnd x7),(22,vS .ro .bnd x11),(24,vI x12),(26,vI x13),(11,vV .ro b5)] (M8 r):=
 nI nE fun n ih=>fun h=>cE (oA h) (fun h=>bE (iE h) C7 fun r1 h=>uS (iE h) ih) fun h=>bE h C7 fun r1 h=>dS (iE h)
theorem So{N a0 a1 a2 r}(h:La N a0 a1 a2=some r):AbC 96 [.val (vS .ro .bnd a0),.val (vTq a1),.val (vV .ro a2)] (M8 r):=
 oK S4 <| uE (oA h) (xDq _)
theorem xEZ{N a0 r}(h:OH N a0=some r):AbC 97 (Am a0) (AN r):=
 oK (fO Tryz.func97 [0,2,4,3] [] [(1,[(3,.take,false)])]) <| cE (oA h) (fun h=>dE h) fun h=>dE h
theorem OS{N a0 r}(h:D1 N a0=some r):AbC 44 (C1 a0) (AN r):=
 oK (fO Tryz.func44 [0,4] [] [(1,[(2,.take,false),(6,.take,false)])]) <| cE (oA h) (fun h=>dE (cb Y h)) fun h=>cE h (fun h=>dE h) fun h=>dE h
theorem xE6{N a0 r}(h:Lp N a0=some r):AbC 184 (Am a0) (xE7 r):=
 oK (fO Tryz.func184 [0,2,4,6,8,22,28,30,42,3,5,7] [] [(1,[(2,.take,true),(3,.take,false)]),(2,[(0,.take,false)]),(3,[(0,.take,false)])]) <| bK (oA h) IE fun r1 k h=>cN k h (MH k) (fun h=>cE h (fun h=>dE h) fun h=>cE h (fun h=>bE h Bv fun r2 h=>dE h) fun h=>cE h (fun h=>bE h Bv fun r2 h=>dE h) fun h=>bE h AQ fun r2 h=>dE h) fun h=>cE h (fun h=>dE h) fun h=>cE h (fun h=>bE h Bv fun r2 h=>dE h) fun h=>cE h (fun h=>bE h Bv fun r2 h=>dE h) fun h=>bE h AQ fun r2 h=>dE h
def R7:=fO Tryz.func185 [0,2,4,6,8,10,14,28,36,42,44,46,48,58,74,3,5,7,15] [(8,[4,10,42,44,46,5])] [(1,[(2,.take,true),(3,.take,false)]),(2,[(0,.take,false)]),(3,[(0,.take,false)]),(15,[(1,.take,false)])]
theorem QU{N}:∀n {x5 x21 x22 x23 b2 r},DZ N n x5 x21 x22 x23 b2=some r->RS R7 8 [(4,vP 2),(10,vI x5),(42,vS .ro .val x21),(44,vI x22),(46,vI x23),(5,vV .own b2)] (TG r):=
 nI nE fun n ih=>fun h=>cE (oA h) (fun h=>cE (iE h) (fun h=>bE h AQ fun r1 h=>dS h) fun h=>bE h D3 fun r1 h=>cE h (fun h=>bE h AQ fun r2 h=>dS h) fun h=>uS h ih) fun h=>bE h Bv fun r1 h=>dS h
theorem xFj{N a0 r}(h:Lw N a0=some r):AbC 185 (Am a0) (TG r):=
 oK R7 <| bK (oA h) IE fun r1 k h=>cN k h (MH k) (fun h=>cE h (fun h=>dE h) fun h=>cE h (fun h=>bE h AQ fun r2 h=>dE h) fun h=>uE h (QU _)) fun h=>cE h (fun h=>dE h) fun h=>cE h (fun h=>bE h AQ fun r2 h=>dE h) fun h=>uE h (QU _)
theorem xFO{P:Program}{f:FuncId}{ags:List Arg}{r:Val×Bool×Bool}(h:AbsCalls P f ags (KB r))(ht:r.2.2=true):AbsCalls P f ags (GY r):=by
 unfold KB at h;rw [ht] at h;exact h
theorem EE{P:Program}{f:FuncId}{ags:List Arg}{r:Val×Bool×Bool}(h:AbsCalls P f ags (KB r))(ht:r.2.2=true)(e0:List.isEmpty (Val.list r.1)=true)(e1:List.isEmpty (Val.columns r.1)=true)(e2:List.isEmpty (Val.rows r.1)=true):AbsCalls P f ags (TY r):=by
 have h:=xFO h ht;unfold GY at h;rw [ZW.1 e0,ZW.1 e1,ZW.1 e2] at h;exact h
def Re:=fO Tryz.func197 [0,2,8,10,12,14,16,18,30,34,36,38,40,60,9,13,19] [(5,[0,8,34,36,38,9])] [(1,[(2,.take,false)]),(2,[(0,.take,false)]),(3,[(0,.take,false)]),(7,[(3,.take,false)]),(9,[(1,.take,false)])]
theorem Q2{N}:∀n {x0 x17 x18 x19 b4 r},EC N n x0 x17 x18 x19 b4=some r->RS Re 5 [(0,vS .ro .int x0),(8,vP 4),(34,vS .ro .val x17),(36,vI x18),(38,vI x19),(9,vV .own b4)] (KB r):=
 nI nE fun n ih=>fun h=>cE (oA h) (fun h=>cE (iE (iE h)) (fun h=>bE h AQ fun r1 h=>dS h) fun h=>uS h ih) fun h=>dS h
theorem ED{N a0 a1 r}(h:C9 N a0 a1=some r):AbC 197 [.val (vS .ro .int a0),.val (vS .ro .val a1)] (KB r):=
 oK Re <| bK (oA h) IE fun r1 k h=>cM k h (fun h=>cE h (fun h=>dE h) fun h=>uE h (Q2 _)) fun h=>cE h (fun h=>dE h) fun h=>uE h (Q2 _)
theorem xEL{N a0 r}(h:Lc N a0=some r):AbC 186 (Am a0) (xEM r):=
 oK (fO Tryz.func186 [0,2,4,6,8,24,3,5,7] [] [(1,[(3,.take,true),(4,.take,false)]),(2,[(0,.take,false)]),(3,[(0,.take,false)])]) <| bK (oA h) ED fun r1 k h=>cN k h (EE k) (fun h=>cE h (fun h=>dE h) fun h=>bE h Bv fun r2 h=>dE h) fun h=>cE h (fun h=>dE h) fun h=>bE h Bv fun r2 h=>dE h
theorem OY{N a0 a1 r}(h:II N a0 a1=some r):AbC 234 (B2 a0 a1) (xF4 r):=
 oK (fO Tryz.func234 [0,2,4,6,8,10,12,14,30,5,7,9,13] [] [(1,[(3,.take,true),(4,.take,false)]),(2,[(0,.take,false)]),(3,[(0,.take,false)]),(4,[(4,.take,false),(8,.take,false)])]) <| bK (oA h) IE fun r1 k h=>cN k h (MH k) (fun h=>cE h (fun h=>dE h) fun h=>bE h AQ fun r2 h=>cE h (fun h=>dE h) fun h=>cE h (fun h=>dE h) fun h=>dE h) fun h=>cE h (fun h=>dE h) fun h=>bE h AQ fun r2 h=>cE h (fun h=>dE h) fun h=>cE h (fun h=>dE h) fun h=>dE h
theorem xFg{P:Program}{f:FuncId}{ags:List Arg}{r:Val×Bool}(h:AbsCalls P f ags (Lu r))(ht:r.2=true):AbsCalls P f ags (B9 r):=by
 unfold Lu at h;rw [ht] at h;exact h
theorem xFf{P:Program}{f:FuncId}{ags:List Arg}{r:Val×Bool}(h:AbsCalls P f ags (Lu r))(ht:r.2=true)(e0:List.isEmpty (Val.list r.1)=true)(e1:List.isEmpty (Val.columns r.1)=true)(e2:List.isEmpty (Val.rows r.1)=true):AbsCalls P f ags (Sm r):=by
 have h:=xFg h ht;unfold B9 at h;rw [ZW.1 e0,ZW.1 e1,ZW.1 e2] at h;exact h
theorem Ls{N a0 a1 r}(h:CY N a0 a1=some r):AbC 189 (B2 a0 a1) (Lu r):=
 oK (fO Tryz.func189 [0,2,4,6,8,10,12,26,30,66,5,7,9,11] [] [(1,[(3,.take,false)]),(2,[(0,.take,false)]),(3,[(0,.take,false)]),(4,[(3,.take,false),(7,.take,false)])]) <| bK (oA h) OY fun r1 k h=>cM k h (fun h=>cE h (fun h=>dE h) fun h=>cE h (fun h=>bE (cb Y h) AQ fun r2 h=>dE h) fun h=>cE h (fun h=>cE h (fun h=>bE h AQ fun r2 h=>dE h) fun h=>bE (iE (rb Y 1 h)) C7 fun r2 h=>dE h) fun h=>bE (rb F 1 (cb F h)) Jl fun r2 h=>dE h) fun h=>cE h (fun h=>dE h) fun h=>cE h (fun h=>bE (cb Y h) AQ fun r2 h=>dE h) fun h=>cE h (fun h=>cE h (fun h=>bE h AQ fun r2 h=>dE h) fun h=>bE (iE (rb Y 1 h)) C7 fun r2 h=>dE h) fun h=>bE (rb F 1 (cb F h)) Jl fun r2 h=>dE h
def R8:=fO Tryz.func187 [0,2,4,6,8,10,12,14,16,18,32,42,50,80,98,5,7,9,11,15,19] [(10,[4,6,8,14,16,5,7,9,15])] [(1,[(3,.take,false)]),(2,[(0,.take,false)]),(3,[(0,.take,false)]),(12,[(3,.take,true)]),(14,[(0,.take,false)]),(15,[(1,.take,false),(2,.take,false),(4,.take,false)]),(16,[(0,.take,false)])]
theorem xB9{N}:∀n {x8 b2 b3 b4 b7 r},Hy N n x8 b2 b3 b4 b7=some r->RS R8 10 [(4,vP 2),(6,vP 3),(8,vP 4),(14,vP 7),(16,vI x8),(5,vV .ro b2),(7,vV .ro b3),(9,vV .own b4),(15,vV .own b7)] (TH r):=
 nI nE fun n ih=>fun h=>cE (oA h) (fun h=>bE h Bv fun r1 h=>bK h Ls fun r2 k h=>cN k h (xFf k) (fun h=>cE h (fun h=>dS h) fun h=>nE (iE h).2) fun h=>cE h (fun h=>dS h) fun h=>uS (iE h) ih) fun h=>dS h
theorem xFl{N a0 a1 r}(h:GQ N a0 a1=some r):AbC 187 (B2 a0 a1) (TH r):=
 oK R8 <| bK (oA h) OY fun r1 k h=>cM k h (fun h=>cE h (fun h=>dE h) fun h=>bE h EI fun r2 h=>cE h (fun h=>bE h AQ fun r3 h=>dE h) fun h=>cE h (fun h=>bE (iE h) Jr fun r3 h=>dE h) fun h=>nE h.2) fun h=>cE h (fun h=>dE h) fun h=>bE h EI fun r2 h=>cE h (fun h=>bE h AQ fun r3 h=>dE h) fun h=>cE h (fun h=>bE (iE h) Jr fun r3 h=>dE h) fun h=>uE h (xB9 _)
theorem Hx{N a0 a1 r}(h:FC N a0 a1=some r):AbC 198 [.val (vI a0),.val (vI a1)] (AW r):=
 oK (fO Tryz.func198 [0,2,8,9]) <| dE (oA h)
theorem xFh{N a0 a1 r}(h:GO N a0 a1=some r):AbC 188 (B2 a0 a1) (xFi r):=
 oK (fO Tryz.func188 [0,2,4,6,8,10,12,14,28,36,44,76,5,7,9,11,15] [] [(1,[(3,.take,false)]),(2,[(0,.take,false)]),(3,[(0,.take,false)]),(10,[(0,.take,false)])]) <| bK (oA h) OY fun r1 k h=>cM k h (fun h=>cE h (fun h=>dE h) fun h=>cE h (fun h=>bE h AQ fun r2 h=>dE h) fun h=>cE h (fun h=>bE (iE h) Jr fun r2 h=>dE h) fun h=>bK h Ls fun r2 k h=>cM k h (fun h=>cE h (fun h=>dE h) fun h=>bE h Hx fun r3 h=>dE h) fun h=>cE h (fun h=>dE h) fun h=>bE h Hx fun r3 h=>dE h) fun h=>cE h (fun h=>dE h) fun h=>cE h (fun h=>bE h AQ fun r2 h=>dE h) fun h=>cE h (fun h=>bE (iE h) Jr fun r2 h=>dE h) fun h=>bK h Ls fun r2 k h=>cM k h (fun h=>cE h (fun h=>dE h) fun h=>bE h Hx fun r3 h=>dE h) fun h=>cE h (fun h=>dE h) fun h=>bE h Hx fun r3 h=>dE h
theorem xKE{N:Nat}{a0 a1:Str}{r:List Str}(h:NU N a0 a1=some r):AbC 267 [.val (vTq a0),.val (vTq a1)] (HU r):=
 AA (xDQ Tryz.lays146) (fun s c w hs=>xKC Tryz.lays146 (by kernel_rfl) s c w hs) h
theorem Lv{N a0 a1 r}(h:GP N a0 a1=some r):AbC 235 [.val (vTq a0),.val (.v false [.int .u8 a1])] (HU r):=
 oK (fO Tryz.func235 [0,2,8]) <| bE (oA h) xKE fun r1 h=>dE h
theorem Ba{N a0 a1 r}(h:BI N a0 a1=some r):AbC 236 [.val (vV .ro a0),.val (vTq a1)] (A9 r):=
 oK (fO Tryz.func236 [0,2,4,8,5]) <| bE (oA h) OG fun r1 h=>dE h
def Jd:=fO Tryz.func190 [0,2,4,6,8,10,12,14,16,20,22,26,28,32,50,66,68,70,72,86,106,112,114,116,118,134,136,138,140,5,7,9,11,15,27,29] [(7,[6,8,14,16,66,68,70,7,9,15]),(17,[8,14,16,112,114,116,9,15]),(21,[8,14,16,26,28,112,114,116,134,136,138,9,15,27,29])] [(1,[(4,.take,true),(5,.take,false)]),(2,[(0,.take,false)]),(3,[(0,.take,false)]),(9,[(1,.take,false)]),(12,[(0,.take,false)]),(13,[(1,.take,false)]),(23,[(1,.take,false),(4,.take,false)]),(24,[(1,.take,false)]),(25,[(1,.take,false),(2,.take,false),(4,.take,false)]),(26,[(1,.take,false)]),(27,[(0,.take,false)])]
theorem xCb{N}{k17}(hk17:∀ {z0 z1 z2 z3 z4 z5 r},k17 z0 z1 z2 z3 z4 z5=some r->RS Jd 17 [(8,vP 4),(14,vP 7),(16,vS .own .int z0),(112,vS .ro .row z1),(114,vI z2),(116,vI z3),(9,vV .own z4),(15,vV .own z5)] (Jq r)):∀n {x8 x56 x57 x58 x67 x68 x69 b4 b7 b13 b14 r},GM N k17 n x8 x56 x57 x58 x67 x68 x69 b4 b7 b13 b14=some r->RS Jd 21 [(8,vP 4),(14,vP 7),(16,vS .own .int x8),(26,vP 13),(28,vP 14),(112,vS .ro .row x56),(114,vI x57),(116,vI x58),(134,vS .bor .int x67),(136,vI x68),(138,vI x69),(9,vV .own b4),(15,vV .own b7),(27,.v true [.sl .ro .int b13.cells,.sl .ro .org b13.frm]),(29,.v true [.sl .own .int b14.cells,.sl .own .org b14.frm])] (Jq r):=
 nI nE fun n ih=>fun h=>cE (oA h) (fun h=>uS (iE (iE (iE h))) ih) fun h=>uS (iE h) hk17
theorem xCa{N}:∀n {x8 x56 x57 x58 b4 b7 r},Dy N n x8 x56 x57 x58 b4 b7=some r->RS Jd 17 [(8,vP 4),(14,vP 7),(16,vS .own .int x8),(112,vS .ro .row x56),(114,vI x57),(116,vI x58),(9,vV .own b4),(15,vV .own b7)] (Jq r):=
 nI nE fun n ih=>fun h=>cE (oA h) (fun h=>uS (iE (iE h)) (xCb ih _)) fun h=>dS h
theorem QV{N}:∀n {x8 x33 x34 x35 b3 b4 b7 r},Dz N n x8 x33 x34 x35 b3 b4 b7=some r->RS Jd 7 [(6,vP 3),(8,vP 4),(14,vP 7),(16,vS .own .int x8),(66,vS .bor .str x33),(68,vI x34),(70,vI x35),(7,vV .ro b3),(9,vV .own b4),(15,vV .own b7)] (Jq r):=
 nI nE fun n ih=>fun h=>cE (oA h) (fun h=>bE (iE h) Ba fun r1 h=>cE h (fun h=>bE h AQ fun r2 h=>dS h) fun h=>uS (iE h) ih) fun h=>bE h L7 fun r1 h=>cE h (fun h=>bE h AQ fun r2 h=>dS h) fun h=>uS h (xCa _)
theorem xE5{N a0 a1 r}(h:Jp N a0 a1=some r):AbC 190 (B2 a0 a1) (Jq r):=
 oK Jd <| bK (oA h) ED fun r1 k h=>cN k h (EE k) (fun h=>cE h (fun h=>dE h) fun h=>bE h Lv fun r2 h=>uE h (QV _)) fun h=>cE h (fun h=>dE h) fun h=>bE h Lv fun r2 h=>uE h (QV _)
def R9:=fO Tryz.func191 [0,2,4,6,8,10,12,14,16,20,38,52,62,70,72,74,76,5,7,9,11,17,21] [(11,[8,14,16,70,72,74,9,17])] [(1,[(4,.take,true),(5,.take,false)]),(2,[(0,.take,false)]),(3,[(0,.take,false)]),(13,[(1,.take,false),(9,.take,false)]),(14,[(1,.take,false)]),(15,[(0,.take,false)])]
theorem QW{N}:∀n {x7 x35 x36 x37 b4 b8 r},FA N n x7 x35 x36 x37 b4 b8=some r->RS R9 11 [(8,vP 4),(14,vI x7),(16,vP 8),(70,vS .ro .row x35),(72,vI x36),(74,vI x37),(9,vV .own b4),(17,vV .own b8)] (Sq r):=
 nI nE fun n ih=>fun h=>cE (oA h) (fun h=>bE (iE (iE h)) Bv fun r1 h=>uS (iE h) ih) fun h=>dS h
theorem xEK{N a0 a1 r}(h:Ho N a0 a1=some r):AbC 191 (B2 a0 a1) (Sq r):=
 oK R9 <| bK (oA h) ED fun r1 k h=>cN k h (EE k) (fun h=>cE h (fun h=>dE h) fun h=>bE h Ba fun r2 h=>cE h (fun h=>bE h AQ fun r3 h=>dE h) fun h=>cE h (fun h=>bE h AQ fun r3 h=>dE h) fun h=>uE h (QW _)) fun h=>cE h (fun h=>dE h) fun h=>bE h Ba fun r2 h=>cE h (fun h=>bE h AQ fun r3 h=>dE h) fun h=>cE h (fun h=>bE h AQ fun r3 h=>dE h) fun h=>uE h (QW _)
def LU:=fO Tryz.func192 [0,2,4,6,8,10,12,14,18,20,24,42,60,66,68,70,72,100,108,110,112,114,124,5,7,9,11,15,19,21,25] [(8,[8,14,66,68,70,9,15]),(14,[8,14,20,66,68,70,108,110,112,9,15,21])] [(1,[(4,.take,true),(5,.take,false)]),(2,[(0,.take,false)]),(3,[(0,.take,false)]),(10,[(3,.take,false)]),(18,[(1,.take,false)]),(19,[(1,.take,false)]),(20,[(1,.take,false),(2,.take,false),(4,.take,false)]),(21,[(1,.take,false)]),(22,[(0,.take,false)])]
theorem xCc{N}{k8}(hk8:∀ {z0 z1 z2 z3 z4 r},k8 z0 z1 z2 z3 z4=some r->RS LU 8 [(8,vP 4),(14,vP 7),(66,vS .ro .val z0),(68,vI z1),(70,vI z2),(9,vV .own z3),(15,vV .own z4)] (Lx r)):∀n {x33 x34 x35 x54 x55 x56 b4 b7 b10 r},FD N k8 n x33 x34 x35 x54 x55 x56 b4 b7 b10=some r->RS LU 14 [(8,vP 4),(14,vP 7),(20,vP 10),(66,vS .ro .val x33),(68,vI x34),(70,vI x35),(108,vS .ro .val x54),(110,vI x55),(112,vI x56),(9,vV .own b4),(15,vV .own b7),(21,.v true [.sl .own .int b10.cells,.sl .own .org b10.frm])] (Lx r):=
 nI nE fun n ih=>fun h=>cE (oA h) (fun h=>cE (iE h) (fun h=>bE h AQ fun r1 h=>dS h) fun h=>uS (iE h) ih) fun h=>uS (iE h) hk8
theorem QX{N}:∀n {x33 x34 x35 b4 b7 r},Ck N n x33 x34 x35 b4 b7=some r->RS LU 8 [(8,vP 4),(14,vP 7),(66,vS .ro .val x33),(68,vI x34),(70,vI x35),(9,vV .own b4),(15,vV .own b7)] (Lx r):=
 nI nE fun n ih=>fun h=>cE (oA h) (fun h=>cE (iE h) (fun h=>bE (cb Y h) AQ fun r1 h=>dS h) fun h=>cE h (fun h=>bE h AQ fun r1 h=>dS h) fun h=>uS h (xCc ih _)) fun h=>dS h
theorem xFk{N a0 a1 r}(h:Jt N a0 a1=some r):AbC 192 (B2 a0 a1) (Lx r):=
 oK LU <| bK (oA h) ED fun r1 k h=>cN k h (EE k) (fun h=>cE h (fun h=>dE h) fun h=>bE h Lv fun r2 h=>bE h ON fun r3 h=>cE h (fun h=>bE h AQ fun r4 h=>dE h) fun h=>uE h (QX _)) fun h=>cE h (fun h=>dE h) fun h=>bE h Lv fun r2 h=>bE h ON fun r3 h=>cE h (fun h=>bE h AQ fun r4 h=>dE h) fun h=>uE h (QX _)
def Ra:=fO Tryz.func193 [0,2,4,6,8,10,12,14,16,18,20,24,44,58,74,76,78,80,100,7,9,11,13,15,21,25] [(9,[8,12,18,20,74,76,78,9,13,21])] [(1,[(5,.take,true),(6,.take,false)]),(2,[(0,.take,false)]),(3,[(0,.take,false)]),(12,[(1,.take,false),(5,.take,false)]),(13,[(1,.take,false)]),(14,[(0,.take,false)])]
theorem QY{N}:∀n {x9 x37 x38 x39 b4 b6 b10 r},D0 N n x9 x37 x38 x39 b4 b6 b10=some r->RS Ra 9 [(8,vP 4),(12,vP 6),(18,vI x9),(20,vP 10),(74,vS .ro .row x37),(76,vI x38),(78,vI x39),(9,vV .ro b4),(13,vV .own b6),(21,vV .own b10)] (TK r):=
 nI nE fun n ih=>fun h=>cE (oA h) (fun h=>cE (iE (iE h)) (fun h=>bE h TS fun r1 h=>uS (iE h) ih) fun h=>uS h ih) fun h=>dS h
theorem xFp{N a0 a1 a2 r}(h:Hz N a0 a1 a2=some r):AbC 193 (Ix a0 a1 a2) (TK r):=
 oK Ra <| bK (oA h) ED fun r1 k h=>cN k h (EE k) (fun h=>cE h (fun h=>dE h) fun h=>bE h Ba fun r2 h=>cE h (fun h=>bE h AQ fun r3 h=>dE h) fun h=>uE (iE h) (QY _)) fun h=>cE h (fun h=>dE h) fun h=>bE h Ba fun r2 h=>cE h (fun h=>bE h AQ fun r3 h=>dE h) fun h=>uE (iE h) (QY _)
theorem xFn{N:Nat}{a0 a1 r:List Org}(h:Ly N a0 a1=some r):AbC 239 (Ku a0 a1) (NS r):=xKY h
def Rb:=fO Tryz.func194 [0,2,4,6,8,10,12,14,16,18,20,22,24,28,30,32,36,56,100,110,112,114,116,138,248,250,252,254,278,7,9,11,13,15,29,33,151] [(8,[6,8,10,12,18,20,7,9,11,13])] [(1,[(5,.take,true),(6,.take,false)]),(2,[(0,.take,false)]),(3,[(0,.take,false)]),(6,[(2,.take,false),(6,.take,false)]),(19,[(1,.take,false)]),(28,[(1,.take,false)])]
theorem QZ{N}:∀ {x9 x10 b3 b4 b5 b6 r},Lf N x9 x10 b3 b4 b5 b6=some r->RS Rb 8 [(6,vP 3),(8,vP 4),(10,vP 5),(12,vP 6),(18,vI x9),(20,vI x10),(7,vV .ro b3),(9,vV .ro b4),(11,vV .ro b5),(13,vV .own b6)] (OE r):=
 fun h=>xEu (by kernel_rfl) rfl rfl rfl (by kernel_rfl) (by kernel_rfl) (by kernel_rfl) (by kernel_rfl) (by kernel_rfl) (by kernel_rfl) (by kernel_rfl) (by kernel_rfl) (by kernel_rfl) rfl h
theorem xEV{N a0 a1 a2 r}(h:FB N a0 a1 a2=some r):AbC 194 (Ix a0 a1 a2) (OE r):=
 oK Rb <| bK (oA h) ED fun r1 k h=>cN k h (EE k) (fun h=>cE h (fun h=>dE h) fun h=>bE h Ba fun r2 h=>bE h Ba fun r3 h=>cE h (fun h=>bE (cb Y (cb Y h)) AQ fun r4 h=>dE h) fun h=>cE h (fun h=>bE (cb Y h) AQ fun r4 h=>dE h) fun h=>cE h (fun h=>bE h AQ fun r4 h=>dE h) fun h=>uE h QZ) fun h=>cE h (fun h=>dE h) fun h=>bE h Ba fun r2 h=>bE h Ba fun r3 h=>cE h (fun h=>bE (cb Y (cb Y h)) AQ fun r4 h=>dE h) fun h=>cE h (fun h=>bE (cb Y h) AQ fun r4 h=>dE h) fun h=>cE h (fun h=>bE h AQ fun r4 h=>dE h) fun h=>uE h QZ
def Rw:=fO Tryz.func241 [0,2,8,10,14,18,20,22,24,36] [(3,[2,10,18,20,22])] [(6,[(0,.take,false)]),(7,[(1,.take,false)]),(8,[(0,.take,false)])]
theorem xCH{N}:∀n {x1 x5 x9 x10 x11 r},FE N n x1 x5 x9 x10 x11=some r->RS Rw 3 [(2,vS .ro .str x1),(10,vS .own .str x5),(18,vS .ro .str x9),(20,vI x10),(22,vI x11)] (HU r):=
 nI nE fun n ih=>fun h=>cE (oA h) (fun h=>bE (iE h) OG fun r1 h=>cE h (fun h=>uS (iE h) ih) fun h=>uS h ih) fun h=>dS h
theorem TL{N a0 a1 r}(h:Jw N a0 a1=some r):AbC 241 (Pf a0 a1) (HU r):=
 oK Rw <| uE (oA h) (xCH _)
def LV:=fO Tryz.func195 [0,2,4,6,8,10,12,14,16,18,20,22,24,28,32,34,54,122,132,138,140,142,144,152,154,156,158,184,250,7,9,11,13,15,25,29,33] [(13,[10,12,18,20,24,138,140,142,11,13,25]),(16,[10,12,18,20,24,28,138,140,142,152,154,156,11,13,25,29])] [(1,[(5,.take,true),(6,.take,false)]),(2,[(0,.take,false)]),(3,[(0,.take,false)]),(7,[(4,.take,false)]),(8,[(2,.take,false),(6,.take,false)]),(20,[(1,.take,false),(2,.take,false),(10,.take,false)]),(21,[(1,.take,false)]),(22,[(1,.take,false)]),(25,[(0,.take,false)])]
def QA(x9 x10:Int)(x69:List Rowd)(x70 x71:Int)(b5 b6 b12:Val):St:=[(10,vP 5),(12,vP 6),(18,vI x9),(20,vI x10),(24,vP 12),(138,vS .ro .row x69),(140,vI x70),(142,vI x71),(11,vV .ro b5),(13,vV .own b6),(25,vV .own b12)]
theorem xCd{N}{k13}(hk13:∀ {z0 z1 z2 z3 z4 z5 z6 z7 r},k13 z0 z1 z2 z3 z4 z5 z6 z7=some r->RS LV 13 (QA z0 z1 z2 z3 z4 z5 z6 z7) (Lm r)):∀n {x9 x10 x69 x70 x71 x76 x77 x78 b5 b6 b12 b14 r},GL N k13 n x9 x10 x69 x70 x71 x76 x77 x78 b5 b6 b12 b14=some r->RS LV 16 [(10,vP 5),(12,vP 6),(18,vI x9),(20,vI x10),(24,vP 12),(28,vP 14),(138,vS .ro .row x69),(140,vI x70),(142,vI x71),(152,vS .ro .row x76),(154,vI x77),(156,vI x78),(11,vV .ro b5),(13,vV .own b6),(25,vV .own b12),(29,.v true [.sl .ro .int b14.cells,.sl .ro .org b14.frm])] (Lm r):=
 nI nE fun n ih=>fun h=>cE (oA h) (fun h=>cE (iE (iE (iE h))) (fun h=>uS h ih) fun h=>bE (iE (iE (iE (iE (iE h))))) xFn fun r1 h=>uS (iE h) ih) fun h=>uS h hk13
theorem Q0{N}:∀n {x9 x10 x69 x70 x71 b5 b6 b12 r},Dw N n x9 x10 x69 x70 x71 b5 b6 b12=some r->RS LV 13 (QA x9 x10 x69 x70 x71 b5 b6 b12) (Lm r):=
 nI nE fun n ih=>fun h=>cE (oA h) (fun h=>uS (iE h) (xCd ih _)) fun h=>cE h (fun h=>bE h AQ fun r1 h=>dS h) fun h=>dS h
theorem xE4{N a0 a1 a2 r}(h:GK N a0 a1 a2=some r):AbC 195 (Ix a0 a1 a2) (Lm r):=
 oK LV <| bK (oA h) ED fun r1 k h=>cN k h (EE k) (fun h=>cE h (fun h=>dE h) fun h=>bE h Ba fun r2 h=>bE h Ba fun r3 h=>bE h TL fun r4 h=>cE (iE (iE h)) (fun h=>bE (cb Y (cb Y h)) AQ fun r5 h=>dE h) fun h=>cE h (fun h=>bE (cb Y h) AQ fun r5 h=>dE h) fun h=>bE h L7 fun r5 h=>cE h (fun h=>bE h AQ fun r6 h=>dE h) fun h=>cE h (fun h=>bE h AQ fun r6 h=>dE h) fun h=>uE h (Q0 _)) fun h=>cE h (fun h=>dE h) fun h=>bE h Ba fun r2 h=>bE h Ba fun r3 h=>bE h TL fun r4 h=>cE (iE (iE h)) (fun h=>bE (cb Y (cb Y h)) AQ fun r5 h=>dE h) fun h=>cE h (fun h=>bE (cb Y h) AQ fun r5 h=>dE h) fun h=>bE h L7 fun r5 h=>cE h (fun h=>bE h AQ fun r6 h=>dE h) fun h=>cE h (fun h=>bE h AQ fun r6 h=>dE h) fun h=>uE h (Q0 _)
def Rd:=fO Tryz.func196 [0,2,4,6,8,10,12,14,16,18,20,22,24,26,28,30,32,54,110,120,144,146,148,150,184,9,11,13,15,17,19,27,31] [(13,[16,22,24,26,144,146,148,17,27])] [(1,[(6,.take,true),(7,.take,false)]),(2,[(0,.take,false)]),(3,[(0,.take,false)]),(6,[(4,.take,false),(11,.take,false),(15,.take,false)]),(11,[(1,.take,false)]),(18,[(1,.ref,false),(4,.ref,false),(8,.ref,false)]),(19,[(1,.take,false)]),(20,[(0,.take,false)])]
theorem Q1{N}:∀n {x11 x12 x72 x73 x74 b8 b13 r},Dp N n x11 x12 x72 x73 x74 b8 b13=some r->RS Rd 13 [(16,vP 8),(22,vI x11),(24,vI x12),(26,vP 13),(144,vS .ro .row x72),(146,vI x73),(148,vI x74),(17,vV .own b8),(27,vV .own b13)] (Sl r):=
 nI nE fun n ih=>fun {x11 x12 x72 x73 x74 b8 b13 r} h=>cE (oA h) (fun h=>bE (iE (iE (iE h))) D3 fun r1 h=>cE h (fun h=>bE h AQ fun r2 h=>dS h) fun h=>uS (ap (show(27:Nat)=27/\(6:Nat)=6/\([(x74.toNat,0)]:List (Nat×Nat))=[(x74.toNat,0)] from⟨rfl,rfl,rfl⟩) (rp 1 (iE (iE h)))) ih) fun h=>dS h
theorem xEE{N a0 a1 a2 a3 r}(h:DU N a0 a1 a2 a3=some r):AbC 196 [.val (vV .ro a0),.val (vV .ro a1),.val (vV .ro a2),.val (vV .ro a3)] (Sl r):=
 oK Rd <| bK (oA h) ED fun r1 k h=>cN k h (EE k) (fun h=>cE h (fun h=>dE h) fun h=>bE h Ba fun r2 h=>bE h Ba fun r3 h=>bE h Ht fun r4 h=>cE h (fun h=>bE (cb Y (cb Y (cb Y h))) AQ fun r5 h=>dE h) fun h=>bE h Ba fun r5 h=>cE h (fun h=>bE (cb Y (cb Y h)) AQ fun r6 h=>dE h) fun h=>cE h (fun h=>bE (cb Y h) AQ fun r6 h=>dE h) fun h=>cE h (fun h=>bE h AQ fun r6 h=>dE h) fun h=>cE h (fun h=>bE h AQ fun r6 h=>dE h) fun h=>bE h C7 fun r6 h=>uE (iE h) (Q1 _)) fun h=>cE h (fun h=>dE h) fun h=>bE h Ba fun r2 h=>bE h Ba fun r3 h=>bE h Ht fun r4 h=>cE h (fun h=>bE (cb Y (cb Y (cb Y h))) AQ fun r5 h=>dE h) fun h=>bE h Ba fun r5 h=>cE h (fun h=>bE (cb Y (cb Y h)) AQ fun r6 h=>dE h) fun h=>cE h (fun h=>bE (cb Y h) AQ fun r6 h=>dE h) fun h=>cE h (fun h=>bE h AQ fun r6 h=>dE h) fun h=>cE h (fun h=>bE h AQ fun r6 h=>dE h) fun h=>bE h C7 fun r6 h=>uE (iE h) (Q1 _)
theorem xEI{N a0 a1 r}(h:DX N a0 a1=some r):AbC 147 [.val (vTq a0),.val (vS .ro .val a1)] (xEJ r):=
 oK (fO Tryz.func147 [0,2,8,10,12,30,34,36,48,60,72,90,108,126,144,162,180,204,228,252,294,9,11] [] [(1,[(2,.take,false)]),(30,[(2,.take,true),(3,.take,false)]),(31,[(0,.take,false)]),(32,[(0,.take,false)])]) <| bE (oA h) OS fun r1 h=>cE h (fun h=>bE (cb Y h) AQ fun r2 h=>dE h) fun h=>bE h OB fun r2 h=>cE h (fun h=>bE h AQ fun r3 h=>dE h) fun h=>cE h (fun h=>bK (iE h) xE6 fun r3 k h=>cM k h (fun h=>dE h) fun h=>dE h) fun h=>cE h (fun h=>bK (iE h) xFj fun r3 k h=>cM k h (fun h=>dE h) fun h=>dE h) fun h=>cE h (fun h=>bK (iE h) xEL fun r3 k h=>cM k h (fun h=>dE h) fun h=>dE h) fun h=>cE h (fun h=>bK (iE (iE h)) xFl fun r3 k h=>cM k h (fun h=>dE h) fun h=>dE h) fun h=>cE h (fun h=>bK (iE (iE h)) xFh fun r3 k h=>cM k h (fun h=>dE h) fun h=>dE h) fun h=>cE h (fun h=>bK (iE (iE h)) Ls fun r3 k h=>cM k h (fun h=>dE h) fun h=>dE h) fun h=>cE h (fun h=>bK (iE (iE h)) xE5 fun r3 k h=>cM k h (fun h=>dE h) fun h=>dE h) fun h=>cE h (fun h=>bK (iE (iE h)) xEK fun r3 k h=>cM k h (fun h=>dE h) fun h=>dE h) fun h=>cE h (fun h=>bK (iE (iE h)) xFk fun r3 k h=>cM k h (fun h=>dE h) fun h=>dE h) fun h=>cE h (fun h=>bK (iE (iE (iE h))) xFp fun r3 k h=>cM k h (fun h=>dE h) fun h=>dE h) fun h=>cE h (fun h=>bK (iE (iE (iE h))) xEV fun r3 k h=>cM k h (fun h=>dE h) fun h=>dE h) fun h=>cE h (fun h=>bK (iE (iE (iE h))) xE4 fun r3 k h=>cM k h (fun h=>dE h) fun h=>dE h) fun h=>cE h (fun h=>bK (iE (iE (iE (iE h)))) xEE fun r3 k h=>cM k h (fun h=>dE h) fun h=>dE h) fun h=>bK h ED fun r3 k h=>cN k h (EE k) (fun h=>cE h (fun h=>dE h) fun h=>bE (iE (iE h)) Hx fun r4 h=>dE h) fun h=>cE h (fun h=>dE h) fun h=>bE (iE (iE h)) Hx fun r4 h=>dE h
theorem xFZ{N a0 a1 r}(h:MI N a0 a1=some r):AbC 242 [.val (.v true (Rc .ro a0)),.val (.v true (Rc .ro a1))] (AN r):=
 oK (fO Tryz.func242 [0,2,4,6,8,5,7] [] [(1,[(5,.take,false),(12,.take,false),(19,.take,false)])]) <| cE (oA h) (fun h=>cE h (fun h=>cE h (fun h=>dE h) fun h=>dE h) fun h=>dE (cb F h)) fun h=>dE (cb F (cb F h))
def Rf:=fO Tryz.func199 [0,2,6,8,10,14,16,18,20,22,32,7,9,15] [(2,[6,8,16,18,20,7,9])] [(6,[(1,.take,false)])]
theorem xCe{N}:∀n {x8 x9 x10 b3 b4 r},GI N n x8 x9 x10 b3 b4=some r->RS Rf 2 [(6,vP 3),(8,vP 4),(16,vS .ro .rea x8),(18,vI x9),(20,vI x10),(7,.v true (Rc .ro b3)),(9,vV .own b4)] (Eg r):=
 nI nE fun n ih=>fun h=>cE (oA h) (fun h=>bE (iE h) xFZ fun r1 h=>cE h (fun h=>bE h C7 fun r2 h=>dS h) fun h=>uS h ih) fun h=>dS h
theorem xET{N a0 a1 r}(h:OD N a0 a1=some r):AbC 199 [.val (vS .ro .rea a0),.val (.v true (Rc .ro a1))] (Eg r):=
 oK Rf <| uE (oA h) (xCe _)
theorem xFa{N a0 a1 a2 a3 r}(h:Lr N a0 a1 a2 a3=some r):AbC 243 [.val (vI a0),.val (vI a1),.val (vI a2),.val (vI a3)] (A9 r):=
 oK (fO Tryz.func243 [0,2,4,6,16,18,46]) <| cE (ap (show 2147483647≠(0:Int) by decide) (oA h)) (fun h=>dE (rp 1 h)) fun h=>dE (rp 1 h)
def Rx:=fO Tryz.func244 [0,2,4,8,10,14,18,20,22,24,36,5,15] [(2,[2,18,20,22])] [(6,[(1,.take,false)])]
theorem xCI{N}:∀n {x1 x9 x10 x11 r},GH N n x1 x9 x10 x11=some r->RS Rx 2 [(2,vTq x1),(18,vS .ro .fil x9),(20,vI x10),(22,vI x11)] (Me r):=
 nI nE fun n ih=>fun h=>cE (oA h) (fun h=>cE (iE h) (fun h=>dS h) fun h=>uS h ih) fun h=>dS h
theorem xES{N a0 a1 r}(h:OC N a0 a1=some r):AbC 244 [.val (.v true (Wc .ro a0)),.val (vTq a1)] (Me r):=
 oK Rx <| uE (oA h) (xCI _)
theorem xEP{N a0 a1 a2 a3 r}(h:GG N a0 a1 a2 a3=some r):AbC 200 [.val (.v true (Wc .ro a0)),.val (vI a1),.val (vI a2),.val (.v true (Rc .ro a3))] (AW r):=
 oK (fO Tryz.func200 [0,2,4,6,8,14,16,18,20,22,26,30,38,48,72,92,102,9,15,17] [] [(11,[(4,.take,false)]),(12,[(0,.take,false)]),(14,[(0,.take,false)])]) <| cE (oA h) (fun h=>bE h D3 fun r1 h=>cE h (fun h=>bE h AQ fun r2 h=>dE h) fun h=>bE h Bv fun r2 h=>dE h) fun h=>cE h (fun h=>bE h EI fun r1 h=>cE h (fun h=>bE h AQ fun r2 h=>dE h) fun h=>bE h xFa fun r2 h=>bE (iE h) D3 fun r3 h=>cE h (fun h=>bE h AQ fun r4 h=>dE h) fun h=>bE h Bv fun r4 h=>dE h) fun h=>cE h (fun h=>bE h xES fun r1 h=>cE h (fun h=>bE h AQ fun r2 h=>dE h) fun h=>bE h D3 fun r2 h=>cE h (fun h=>bE h AQ fun r3 h=>dE h) fun h=>bE h Bv fun r3 h=>dE h) fun h=>bE h AQ fun r1 h=>dE h
def RY:=fO Tryz.func148 [0,2,6,8,12,14,16,24,26,28,30,72,104,1,7,9,13,15] [(2,[0,6,8,24,26,28,1,7,9])] [(4,[(5,.take,false),(12,.take,false)]),(6,[(1,.take,false)]),(7,[(5,.cp,true),(6,.take,false),(7,.ref,false),(8,.ref,false)]),(8,[(0,.take,false)]),(11,[(4,.take,false),(5,.take,false),(7,.take,false)]),(12,[(0,.take,false)])] (ext:=[0]) (fcast:=[(9,4,true),(9,5,true),(9,6,true)])
theorem xBZ{N}:∀n {x12 x13 x14 b0 b3 b4 r},EF N n x12 x13 x14 b0 b3 b4=some r->RS RY 2 [(0,vP 0),(6,vP 3),(8,vP 4),(24,vS .bor .rea x12),(26,vI x13),(28,vI x14),(1,.v true (Mc .own b0)),(7,.v true (Rc .ro b3)),(9,vV .own b4)] (D4 r):=
 nI nE fun n ih=>fun h=>cE (oA h) (fun h=>cE (iE h) (fun h=>cE h (fun h=>cE h (fun h=>uS h ih) fun h=>uS h ih) fun h=>uS (cb F h) ih) fun h=>uS (cb F (cb F h)) ih) fun h=>bE h xET fun r1 h=>cE h (fun h=>bE h xEP fun r2 h=>bE h C7 fun r3 h=>dS (iE h)) fun h=>bE h C7 fun r2 h=>dS (iE h)
theorem FI{N a0 a1 r}(h:DB N a0 a1=some r):AbC 148 [.box (Mc .own a0),.val (.v true (Rc .ro a1))] (D4 r):=
 oK RY <| uE (oA h) (xBZ _)
def G94(q:Mch->(List Exp)->(List Bnd)->Option ((List Val)×Mch)):Prop:=∀a0 a1 a2 r,q a0 a1 a2=some r->AbC 94 [.box (Mc .own a0),.val (vS .ro .exp a1),.val (vS .ro .bnd a2)] (OU r)
def G99(q:Mch->Exp->(List Bnd)->Option (Val×Mch)):Prop:=∀a0 a1 a2 r,q a0 a1 a2=some r->AbC 99 (GX a0 a1 a2) (D4 r)
def G42(q:Mch->Exp->(List Bnd)->Option (Val×Mch)):Prop:=∀a0 a1 a2 r,q a0 a1 a2=some r->AbC 42 (GX a0 a1 a2) (D4 r)
def G98(q:Mch->Exp->(List Bnd)->Option (Val×Mch)):Prop:=∀a0 a1 a2 r,q a0 a1 a2=some r->AbC 98 (GX a0 a1 a2) (D4 r)
def S3:=fO Tryz.func94 [0,2,4,12,14,18,22,24,26,28,1,19] [(3,[0,4,14,22,24,26,1])] [(5,[(0,.take,false),(6,.take,false)]),(6,[(1,.take,false)]),(7,[(0,.take,false)])] (ext:=[0]) (casts:=[(3,[(14,0,false)])])
theorem xDp{N}{q0}(g0:G94 q0){q1}(g1:G99 q1){q2}(g2:G42 q2){q3}(g3:G98 q3):∀n {x2 x7 x11 x12 x13 b0 r},ID N q0 q1 q2 q3 n x2 x7 x11 x12 x13 b0=some r->RS S3 3 [(0,vP 0),(4,vS .ro .bnd x2),(14,vS .tip .val x7),(22,vS .ro .exp x11),(24,vI x12),(26,vI x13),(1,.v true (Mc .own b0))] (OU r):=
 nI nE fun n ih=>fun h=>cE (oA h) (fun h=>bE (iE h) (g2 _ _ _ _) fun r1 h=>uS (iE h) ih) fun h=>dS h
theorem xFP{N}{q0}(g0:G94 q0){q1}(g1:G99 q1){q2}(g2:G42 q2){q3}(g3:G98 q3){a0 a1 a2 r}(h:TX N q0 q1 q2 q3 a0 a1 a2=some r):AbC 94 [.box (Mc .own a0),.val (vS .ro .exp a1),.val (vS .ro .bnd a2)] (OU r):=
 oK S3 <| uE (oA h) (xDp g0 g1 g2 g3 _)
theorem xFR{N}{q0}(g0:G94 q0){q1}(g1:G99 q1){q2}(g2:G42 q2){q3}(g3:G98 q3){a0 a1 a2 r}(h:MF N q0 q1 q2 q3 a0 a1 a2=some r):AbC 99 (GX a0 a1 a2) (D4 r):=
 oK (fO Tryz.func99 [0,2,4,8,12,14,32,42,70,78,92,128,1,9,13] [] [(1,[(4,.cp,true)]),(5,[(3,.take,true)]),(6,[(3,.take,false)]),(7,[(0,.take,false),(1,.take,false)]),(9,[(1,.cp,true)]),(10,[(3,.take,false)]),(11,[(5,.cp,true)]),(12,[(3,.take,false)]),(13,[(5,.cp,true)])] (ext:=[0]) (fcast:=[(13,4,true),(13,5,true),(13,6,true)])) <| bE (oA h) (g0 _ _ _ _) fun r1 h=>cE h (fun h=>dE h) fun h=>bE h OS fun r2 h=>cE h (fun h=>bK h xEI fun r3 k h=>cM k h (fun h=>dE h) fun h=>dE h) fun h=>cE h (fun h=>cE (iE h) (fun h=>dE (rp 1 h)) fun h=>cE h (fun h=>bE h FI fun r3 h=>dE h) fun h=>cE h (fun h=>cE (rp 3 h) (fun h=>bE (rp 5 h) FI fun r3 h=>dE h) fun h=>cE h (fun h=>cE (rp 6 h) (fun h=>bE (rp 8 h) FI fun r3 h=>dE h) fun h=>bE h AQ fun r3 h=>dE h) fun h=>bE (cb F h) AQ fun r3 h=>dE h) fun h=>cE (cb F h) (fun h=>cE (rp 5 h) (fun h=>bE (rp 7 h) FI fun r3 h=>dE h) fun h=>bE h AQ fun r3 h=>dE h) fun h=>bE (cb F h) AQ fun r3 h=>dE h) fun h=>cE (cb F h) (fun h=>bE h FI fun r3 h=>dE h) fun h=>cE h (fun h=>cE (iE h) (fun h=>bE (rp 1 h) FI fun r3 h=>dE h) fun h=>cE h (fun h=>cE (rp 2 h) (fun h=>bE (rp 4 h) FI fun r3 h=>dE h) fun h=>bE h AQ fun r3 h=>dE h) fun h=>bE (cb F h) AQ fun r3 h=>dE h) fun h=>cE (cb F h) (fun h=>cE (iE h) (fun h=>bE (rp 1 h) FI fun r3 h=>dE h) fun h=>bE h AQ fun r3 h=>dE h) fun h=>bE (cb F h) AQ fun r3 h=>dE h
theorem xFS{N}{q0}(g0:G94 q0){q1}(g1:G99 q1){q2}(g2:G42 q2){q3}(g3:G98 q3){a0 a1 a2 r}(h:Bx N q0 q1 q2 q3 a0 a1 a2=some r):AbC 42 (GX a0 a1 a2) (D4 r):=
 oK (fO Tryz.func42 [0,2,4,8,12,14,16,18,40,66,68,78,88,100,116,148,188,206,228,262,1,9,13,17,19] [] [(1,[(4,.take,false)]),(16,[(8,.take,true)]),(19,[(9,.cp,true)]),(22,[(4,.take,false)])] (ext:=[0]) (fcast:=[(13,4,true),(13,5,true),(13,6,true)])) <| cE (oA h) (fun h=>dE (cb Y h)) fun h=>cE h (fun h=>dE h) fun h=>cE h (fun h=>bE h Bv fun r1 h=>dE h) fun h=>cE h (fun h=>bE h TJ fun r1 h=>dE h) fun h=>cE h (fun h=>bE h xE8 fun r1 h=>dE h) fun h=>cE h (fun h=>bE h (g0 _ _ _ _) fun r1 h=>bE h Sp fun r2 h=>dE h) fun h=>cE h (fun h=>bE h (g0 _ _ _ _) fun r1 h=>bK (iE (iE h)) xEF fun r2 k h=>cN k h (xEG k) (fun h=>dE h) fun h=>dE h) fun h=>cE h (fun h=>bE (iE h) (g2 _ _ _ _) fun r1 h=>bE (iE h) So fun r2 h=>bE h (g2 _ _ _ _) fun r3 h=>dE h) fun h=>cE h (fun h=>bE (iE h) (g2 _ _ _ _) fun r1 h=>cE h (fun h=>dE (cb Y h)) fun h=>cE h (fun h=>dE h) fun h=>bE h xEZ fun r2 h=>cE h (fun h=>bE (iE h) (g2 _ _ _ _) fun r3 h=>dE h) fun h=>bE (iE h) (g2 _ _ _ _) fun r3 h=>dE h) fun h=>cE h (fun h=>bE h (g3 _ _ _ _) fun r1 h=>dE h) fun h=>bE h (g1 _ _ _ _) fun r1 h=>dE h
def S5:=fO Tryz.func98 [0,2,4,8,12,14,16,20,52,60,68,70,72,74,114,1,9,13,15,21] [(8,[0,4,8,12,16,68,70,72,1,9,13])] [(2,[(4,.take,false)]),(10,[(0,.take,false),(10,.cp,true),(13,.take,false)]),(13,[(1,.take,false)])] (ext:=[0]) (casts:=[(8,[(16,0,false)])]) (fcast:=[(13,4,true),(13,5,true),(13,6,true)])
theorem xDr{N}{q0}(g0:G94 q0){q1}(g1:G99 q1){q2}(g2:G42 q2){q3}(g3:G98 q3):∀n {x2 x8 x34 x35 x36 b0 b4 b6 r},FJ N q0 q1 q2 q3 n x2 x8 x34 x35 x36 b0 b4 b6=some r->RS S5 8 [(0,vP 0),(4,vS .ro .bnd x2),(8,vP 4),(12,vP 6),(16,vS .tip .val x8),(68,vS .ro .val x34),(70,vI x35),(72,vI x36),(1,.v true (Mc .own b0)),(9,.v true (Ex .ro b4)),(13,vV .own b6)] (D4 r):=
 nI nE fun n ih=>fun h=>cE (oA h) (fun h=>bE (iE (iE h)) So fun r1 h=>bE h (g2 _ _ _ _) fun r2 h=>cE (iE h) (fun h=>dS h) fun h=>uS h ih) fun h=>bE h Sp fun r1 h=>dS h
theorem xFU{N}{q0}(g0:G94 q0){q1}(g1:G99 q1){q2}(g2:G42 q2){q3}(g3:G98 q3){a0 a1 a2 r}(h:MG N q0 q1 q2 q3 a0 a1 a2=some r):AbC 98 (GX a0 a1 a2) (D4 r):=
 oK S5 <| bE (iE (oA h)) (g2 _ _ _ _) fun r1 h=>cE h (fun h=>dE (cb Y h)) fun h=>cE h (fun h=>dE h) fun h=>cE h (fun h=>bE h AQ fun r2 h=>dE h) fun h=>uE h (xDr g0 g1 g2 g3 _)
theorem xFQ{N:Nat}:∀d,G94 (BJ N d).c8/\G99 (BJ N d).c9/\G42 (BJ N d).c10/\G98 (BJ N d).c11:=by
 intro d
 induction d with
 |zero=>exact⟨fun _ _ _ _ h=>nE h,fun _ _ _ _ h=>nE h,fun _ _ _ _ h=>nE h,fun _ _ _ _ h=>nE h⟩
 |succ d ih=>
  obtain⟨ih0,ih1,ih2,ih3⟩:=ih;exact⟨fun _ _ _ _ h=>xFP (N:=N) ih0 ih1 ih2 ih3 h,fun _ _ _ _ h=>xFR (N:=N) ih0 ih1 ih2 ih3 h,fun _ _ _ _ h=>xFS (N:=N) ih0 ih1 ih2 ih3 h,fun _ _ _ _ h=>xFU (N:=N) ih0 ih1 ih2 ih3 h⟩
theorem xFT{N:Nat}{a0:Mch}{a1:Exp}{a2:List Bnd}{r:Val×Mch}(h:OV N a0 a1 a2=some r):AbC 42 (GX a0 a1 a2) (D4 r):=(xFQ N).2.2.1 _ _ _ r h
def fk7:=fO Tryz.func7 [0,2,4,6,8,10,12,18,24,26,28,34,66,13,19,25,29,51] [(7,[24,26,28,25,29,51])] [(7,[(5,.take,false)])] (casts:=[(7,[(29,4,true),(29,5,true),(29,6,true)])])
theorem Q7{N}:∀ {b12 b14 b25 r},Ld N b12 b14 b25=some r->RS fk7 7 [(24,vP 12),(26,vP 25),(28,vP 14),(25,.v true [.int .i64 (b12.value.kind),.int .i64 (b12.value.n),.int .i64 (b12.value.step),.str (b12.value.text),.sl .own .val (b12.value.list),.sl .own .str (b12.value.columns),.sl .own .row (b12.value.rows),.sl .own .rea b12.reads,.int .i64 b12.steps]),(29,vV .ro b14),(51,.v true (Mc .own b25))] (Mb r):=
 fun {b12 b14 b25 r} h=>bE (oA h) C7 fun r1 h=>dS (ap (show b25.steps=b25.steps from rfl) h)
theorem Sv{N a0 a1 a2 a3 a4 a5 r}(h:Hr N a0 a1 a2 a3 a4 a5=some r):AbC 7 [.val (.v true (Ex .ro a0)),.val (vS .ro .bnd a1),.val (vS .ro .rea a2),.val (.v true (Wc .ro a3)),.val (vI a4),.val (vI a5)] (Mb r):=
 oK fk7 <| bE (oA h) xE0 fun r1 h=>cE h (fun h=>bE h AQ fun r2 h=>dE h) fun h=>bE h xFT fun r2 h=>cE h (fun h=>bE h AQ fun r3 h=>uE h Q7) fun h=>uE h Q7
theorem xGH{N a0 r}(h:KE N a0=some r):AbC 5 [.val (vS .ro .byte a0)] (AN r):=
 oK (fO Tryz.func5 [0,4]) <| dE (oA h)
def SM:=fO Tryz.func31 [0,4,6,8,30,63] [(3,[0,6,8])] [(3,[(4,.take,false)])]
theorem xCY{N}:∀n {x0 x3 x4 r},JJ N n x0 x3 x4=some r->RS SM 3 [(0,vS .ro .byte x0),(6,vI x3),(8,vI x4)] (xAJ r):=
 nI nE fun n ih=>fun h=>cE (oA h) (fun h=>cE h (fun h=>uS (iE h) ih) fun h=>dS h) fun h=>dS (cb F h)
theorem xJY{N a0 r}(h:JI N a0=some r):AbC 31 [.val (vS .ro .byte a0)] (xAJ r):=
 oK SM <| uE (oA h) (xCY _)
theorem Km{N a0 r}(h:Fc N a0=some r):AbC 86 (Br a0) (NF r):=
 oK (fO Tryz.func86 [0,4,6,68,1] (ext:=[0])) <| cE (ap (show(0:Int)<=45/\(45:Int)<64 by decide) (ap (show(0:Int)<=33/\(33:Int)<64 by decide) (oA h))) (fun h=>dE (iE h)) fun h=>dE h
theorem A2{N a0 a1 r}(h:AT N a0 a1=some r):AbC 39 (Fb a0 a1) (NF r):=
 oK (fO Tryz.func39 [0,2,8,10,12,14,16,20,24,1] [] [(9,[(0,.take,false),(2,.take,false),(5,.take,false),(8,.take,false)])] (ext:=[0])) <| cE (oA h) (fun h=>dE h) fun h=>cE h (fun h=>bE h Km fun r1 h=>dE (iE h)) fun h=>bE h Km fun r1 h=>bE h Km fun r2 h=>bE h Km fun r3 h=>bE h Km fun r4 h=>dE (iE h)
theorem Cc{N a0 a1 r}(h:Be N a0 a1=some r):AbC 80 [.box (Cu .ro a0),.val (vS .ro .str a1)] (xAK r):=
 oK (fO Tryz.func80 [0,2,8,1] (ext:=[0])) <| bE (oA h) A2 fun r1 h=>dE (iE h)
theorem Ca{N a0 r}(h:BU N a0=some r):AbC 76 [.val (vI a0)] (xAx r):=
 oK (fO Tryz.func76 [0,4,5]) <| dE (oA h)
theorem PV{N a0 r}(h:Kj N a0=some r):AbC 78 (C1 a0) (xAx r):=
 oK (fO Tryz.func78 [0,4,5]) <| dE (oA h)
theorem Mt{N a0 a1 r}(h:Iy N a0 a1=some r):AbC 79 [.box (Cu .ro a0),.val (vS .ro .str a1)] (Mu r):=
 oK (fO Tryz.func79 [0,2,8,12,14,26,1,9] [] [(3,[(1,.cp,true)])] (ext:=[0])) <| bE (oA h) A2 fun r1 h=>cE h (fun h=>bE h Cc fun r2 h=>dE h) fun h=>cE h (fun h=>bE (rb Y 0 h) A2 fun r2 h=>bE h Ca fun r3 h=>dE h) fun h=>cE h (fun h=>bE h A2 fun r2 h=>bE h Ca fun r3 h=>dE h) fun h=>bE h Cc fun r2 h=>bE h PV fun r3 h=>dE h
theorem JC{N a0 a1 a2 r}(h:Dg N a0 a1 a2=some r):AbC 74 [.val (vI a0),.val (.v true (Ex .tip a1)),.val (.v true (Ex .tip a2))] (xAy r):=
 oK (fO Tryz.func74 [0,2,4,8,10,12,9,11,13] [] [(1,[(1,.take,false),(2,.take,false)])]) <| dE (oA h)
theorem Bs{N a0 a1 r}(h:BM N a0 a1=some r):AbC 33 (Fb a0 a1) (xJZ r):=
 oK (fO Tryz.func33 [0,2,8,1] (ext:=[0])) <| bE (oA h) A2 fun r1 h=>dE h
def SW:=fO Tryz.func77 [0,2,8,10,12,14,26,50,1,9,11] [(4,[0,2,8,10,12,14,1,9,11])] [(4,[(1,.take,false)]),(6,[(1,.take,false),(6,.take,false)]),(8,[(1,.ref,false)]),(9,[(0,.take,false)])] (ext:=[0])
theorem xDe{N}:∀n {x1 x6 x7 b0 b4 b5 r},HL N n x1 x6 x7 b0 b4 b5=some r->RS SW 4 [(0,vP 0),(2,vS .ro .str x1),(8,vP 4),(10,vP 5),(12,vI x6),(14,vI x7),(1,.v true (Cu .ro b0)),(9,.v true (Ex .own b4)),(11,.v true (Ex .own b5))] (Mu r):=
 nI nE fun n ih=>fun h=>cE (oA h) (fun h=>bE h A2 fun r1 h=>bE h Ca fun r2 h=>bE (iE h) Bs fun r3 h=>cE h (fun h=>bE h Mt fun r4 h=>uS (iE h) ih) fun h=>uS h ih) fun h=>dS h
theorem JA{N a0 a1 r}(h:E0 N a0 a1=some r):AbC 77 [.box (Cu .ro a0),.val (vS .ro .str a1)] (Mu r):=
 oK SW <| bE (oA h) A2 fun r1 h=>uE h (xDe _)
theorem JK{N a0 a1 a2 r}(h:Fe N a0 a1 a2=some r):AbC 171 [.box (Cu .ro a0),.val (.v true (Ex .tip a1)),.val (.v true (Ex .tip a2))] (Cb r):=
 oK (fO Tryz.func171 [0,2,4,8,10,12,16,1,9,11,13] [] [(2,[(0,.take,false)]),(3,[(0,.take,false)])] (ext:=[0])) <| bE (oA h) Bs fun r1 h=>cE h (fun h=>dE h) fun h=>dE h
theorem Bp{N a0 a1 r}(h:BK N a0 a1=some r):AbC 75 [.val (vTq a0),.val (vS .tip .exp a1)] (xAy r):=
 oK (fO Tryz.func75 [0,2,8,9] [] [(1,[(1,.take,false)])]) <| dE (oA h)
theorem PS{N a0 r}(h:Ki N a0=some r):AbC 172 (Br a0) (Mu r):=
 oK (fO Tryz.func172 [0,4,1,5] [] [(1,[(1,.cp,true)])] (ext:=[0])) <| bE (oA h) Cc fun r1 h=>dE h
def R3:=fO Tryz.func173 [0,4,6,8,10,22,1,5,7] [(4,[0,4,6,8,10,1,5,7])] [(4,[(1,.take,false)]),(6,[(1,.take,false),(11,.take,false)]),(7,[(1,.take,false),(3,.take,false)])] (ext:=[0])
theorem xB4{N}:∀n {x4 x5 b0 b2 b3 r},JD N n x4 x5 b0 b2 b3=some r->RS R3 4 [(0,vP 0),(4,vP 2),(6,vP 3),(8,vI x4),(10,vI x5),(1,.v true (Cu .ro b0)),(5,.v true (Ex .own b2)),(7,.v true (Ex .own b3))] (Cb r):=
 nI nE fun n ih=>fun h=>cE (oA h) (fun h=>bE h A2 fun r1 h=>bE h Ca fun r2 h=>bE h A2 fun r3 h=>bE h Ca fun r4 h=>uS (iE h) ih) fun h=>bE h Bp fun r1 h=>dS h
theorem PW{N a0 r}(h:Kk N a0=some r):AbC 173 (Br a0) (Cb r):=
 oK R3 <| bE (oA h) A2 fun r1 h=>uE h (xB4 _)
def Pv(q:Cur->(List Str)->Int->Option (Exp×Cur)):Prop:=∀a0 a1 a2 r,q a0 a1 a2=some r->AbC 132 [.box (Cu .ro a0),.val (vS .ro .str a1),.val (vI a2)] (Cb r)
theorem xJD{N}{q0}(g0:Pv q0){a0 a1 a2 r}(h:JB N q0 a0 a1 a2=some r):AbC 132 [.box (Cu .ro a0),.val (vS .ro .str a1),.val (vI a2)] (Cb r):=
 oK (fO Tryz.func132 [0,2,4,12,14,16,20,30,32,66,114,152,198,208,242,288,324,358,384,1,13] [] [(6,[(13,.take,false)]),(8,[(4,.cp,true)]),(9,[(10,.cp,true)]),(13,[(4,.cp,true)]),(14,[(9,.cp,true)]),(18,[(1,.cp,true),(12,.take,false),(14,.take,false)]),(20,[(1,.cp,true),(17,.take,false),(18,.take,false),(20,.take,false)]),(22,[(13,.take,false),(15,.take,false)]),(24,[(12,.take,false),(14,.take,false)]),(26,[(8,.take,false),(10,.take,false)]),(28,[(5,.take,false)]),(29,[(1,.take,false),(3,.cp,true),(7,.take,false),(8,.take,false)])] (ext:=[0]) (fcast:=[(13,3,false)])) <| cE (oA h) (fun h=>bE h Mt fun r1 h=>dE h) fun h=>bE h A2 fun r1 h=>cE h (fun h=>bE (rb Y 0 h) A2 fun r2 h=>bE h (g0 _ _ _ _) fun r3 h=>bE h (g0 _ _ _ _) fun r4 h=>bE h JC fun r5 h=>dE h) fun h=>cE h (fun h=>bE h A2 fun r2 h=>bE h (g0 _ _ _ _) fun r3 h=>bE h (g0 _ _ _ _) fun r4 h=>bE h JC fun r5 h=>dE h) fun h=>cE h (fun h=>bE (iE h) Cc fun r2 h=>bE h (g0 _ _ _ _) fun r3 h=>bE (iE h) (g0 _ _ _ _) fun r4 h=>dE h) fun h=>cE h (fun h=>bE h (g0 _ _ _ _) fun r2 h=>bE h (g0 _ _ _ _) fun r3 h=>bE h (g0 _ _ _ _) fun r4 h=>dE h) fun h=>cE h (fun h=>bE (iE h) Cc fun r2 h=>bE h JA fun r3 h=>bE (iE h) (g0 _ _ _ _) fun r4 h=>dE h) fun h=>cE h (fun h=>bE h JA fun r2 h=>dE h) fun h=>cE h (fun h=>bE h Cc fun r2 h=>bE h JA fun r3 h=>bE h (g0 _ _ _ _) fun r4 h=>bE h JK fun r5 h=>bE h Bp fun r6 h=>dE h) fun h=>cE h (fun h=>bE h Cc fun r2 h=>bE h A2 fun r3 h=>bE h Ca fun r4 h=>bE h JA fun r5 h=>bE h A2 fun r6 h=>bE h Ca fun r7 h=>bE h A2 fun r8 h=>bE h Ca fun r9 h=>bE h Bp fun r10 h=>bE h JK fun r11 h=>bE h Bp fun r12 h=>dE h) fun h=>cE h (fun h=>bE h PS fun r2 h=>bE h A2 fun r3 h=>bE h Ca fun r4 h=>bE h PW fun r5 h=>bE h (g0 _ _ _ _) fun r6 h=>bE h JK fun r7 h=>bE h Bp fun r8 h=>dE h) fun h=>cE h (fun h=>bE h PS fun r2 h=>bE h PS fun r3 h=>bE h PW fun r4 h=>bE h (g0 _ _ _ _) fun r5 h=>bE h JK fun r6 h=>bE h Bp fun r7 h=>dE h) fun h=>cE h (fun h=>bE h PW fun r2 h=>bE h (g0 _ _ _ _) fun r3 h=>bE h JK fun r4 h=>bE h Bp fun r5 h=>dE h) fun h=>cE h (fun h=>bE h A2 fun r2 h=>bE h Ca fun r3 h=>bE h Bp fun r4 h=>dE h) fun h=>bE h Bp fun r2 h=>bE h Cc fun r3 h=>bE h Bp fun r4 h=>bE h JK fun r5 h=>dE h
theorem xAw{N:Nat}:∀d,Pv (E4 N d)
 |0=>fun _ _ _ _ h=>nE h
 |d+1=>fun _ _ _ _ h=>xJD (N:=N) (xAw d) h
theorem xJE{N:Nat}{a0:Cur}{a1:List Str}{a2:Int}{r:Exp×Cur}(h:PU N a0 a1 a2=some r):AbC 132 [.box (Cu .ro a0),.val (vS .ro .str a1),.val (vI a2)] (Cb r):=xAw N _ _ _ r h
theorem xAt{N a0 r}(h:Ms N a0=some r):AbC 73 (Br a0) (Cb r):=
 oK (fO Tryz.func73 [0,4,6,24,1,5,7] [] [(1,[(1,.cp,true)]),(3,[(1,.cp,true)]),(4,[(0,.take,false)])] (ext:=[0]) (fcast:=[(5,3,false)])) <| bE (oA h) A2 fun r1 h=>bE h xJE fun r2 h=>bE h Im fun r3 h=>cE h (fun h=>bE h Mt fun r4 h=>dE h) fun h=>dE h
theorem xJO{N a0 r}(h:NA N a0=some r):AbC 32 (Br a0) (Cb r):=
 oK (fO Tryz.func32 [0,4,6,16,38,56,1,5,7] [] [(3,[(0,.take,false),(5,.take,false),(6,.take,false),(7,.take,false),(8,.take,false)]),(5,[(1,.cp,true),(3,.take,false)]),(7,[(0,.take,false)]),(8,[(0,.take,false)])] (ext:=[0])) <| bE (oA h) xAt fun r1 h=>bE h Bs fun r2 h=>cE h (fun h=>bE h Bp fun r3 h=>bE h A2 fun r4 h=>bE h Ca fun r5 h=>bE h Bp fun r6 h=>bE h JC fun r7 h=>bE h JC fun r8 h=>bE h Bs fun r9 h=>cE h (fun h=>bE h JA fun r10 h=>bE h Im fun r11 h=>cE h (fun h=>bE h Bp fun r12 h=>dE h) fun h=>dE h) fun h=>bE h Im fun r10 h=>cE h (fun h=>bE h Bp fun r11 h=>dE h) fun h=>dE h) fun h=>bE h Bs fun r3 h=>cE h (fun h=>bE h JA fun r4 h=>bE h Im fun r5 h=>cE h (fun h=>bE h Bp fun r6 h=>dE h) fun h=>dE h) fun h=>bE h Im fun r4 h=>cE h (fun h=>bE h Bp fun r5 h=>dE h) fun h=>dE h
def Nr:=fO Tryz.func34 [0,4,6,8,10,12,26,56,1,5,7,13] [(4,[0,4,6,8,10,1,5,7]),(7,[0,4,6,1,5,7])] [(4,[(1,.take,false)]),(6,[(1,.take,false),(5,.take,false)]),(7,[(1,.take,false)]),(9,[(3,.take,false)]),(10,[(1,.take,false)])] (ext:=[0]) (casts:=[(7,[(7,3,true)])])
theorem xC0{N}:∀ {b0 b2 b3 r},P1 N b0 b2 b3=some r->RS Nr 7 [(0,vP 0),(4,vP 2),(6,vP 3),(1,.v true (Cu .ro b0)),(5,.v true (Ex .own b2)),(7,.v true (Ex .ro b3))] (Cb r):=
 fun h=>bE (oA h) Bp fun r1 h=>bE h Bs fun r2 h=>cE h (fun h=>bE h PV fun r3 h=>bE h PV fun r4 h=>bE h JC fun r5 h=>dS h) fun h=>dS h
theorem xCZ{N}:∀n {x4 x5 b0 b2 b3 r},JF N n x4 x5 b0 b2 b3=some r->RS Nr 4 [(0,vP 0),(4,vP 2),(6,vP 3),(8,vI x4),(10,vI x5),(1,.v true (Cu .ro b0)),(5,.v true (Ex .own b2)),(7,.v true (Ex .own b3))] (Cb r):=
 nI nE fun n ih=>fun h=>cE (oA h) (fun h=>bE h Ca fun r1 h=>uS (iE h) ih) fun h=>uS h xC0
theorem xJS{N a0 r}(h:P0 N a0=some r):AbC 34 (Br a0) (Cb r):=
 oK Nr <| bE (oA h) A2 fun r1 h=>uE h (xCZ _)
theorem P4{N a0 a1 r}(h:Ff N a0 a1=some r):AbC 81 [.box (Cu .ro a0),.val (vS .ro .int a1)] (NF r):=
 oK (fO Tryz.func81 [0,2,8,1] (ext:=[0])) <| bE (oA h) A2 fun r1 h=>dE (iE h)
def SN:=fO Tryz.func35 [0,4,6,8,16,18,28,48,60,72,78,1,5,7] [(13,[0,4,6,8,1,5,7])] [(6,[(1,.take,false),(3,.cp,true),(6,.take,false)]),(8,[(1,.cp,true)]),(10,[(1,.cp,true)]),(15,[(0,.take,false),(3,.take,false)]),(16,[(0,.take,false)])] (ext:=[0])
theorem xC1{N}:∀n {x4 b0 b2 b3 r},HK N n x4 b0 b2 b3=some r->RS SN 13 [(0,vP 0),(4,vP 2),(6,vP 3),(8,vI x4),(1,.v true (Cu .ro b0)),(5,.v true (Ex .own b2)),(7,.v true (Ex .tip b3))] (Cb r):=
 nI nE fun n ih=>fun h=>cE (oA h) (fun h=>bE h Ca fun r1 h=>bE h JC fun r2 h=>uS h ih) fun h=>dS h
theorem xAs{N a0 r}(h:Mq N a0=some r):AbC 35 (Br a0) (Cb r):=
 oK SN <| bE (oA h) xAt fun r1 h=>bE h A2 fun r2 h=>cE h (fun h=>bE h A2 fun r3 h=>dE h) fun h=>cE h (fun h=>bE h Mt fun r3 h=>dE (iE h)) fun h=>cE h (fun h=>bE h Cc fun r3 h=>dE h) fun h=>cE h (fun h=>bE h P4 fun r3 h=>dE h) fun h=>cE h (fun h=>uE h (xC1 _)) fun h=>dE h
theorem Ea{N a0 r}(h:CM N a0=some r):AbC 133 (Br a0) (NF r):=
 oK (fO Tryz.func133 [0,4,8,1] [] [(2,[(1,.cp,true)])] (ext:=[0])) <| bE (oA h) Bs fun r1 h=>cE h (fun h=>bE h P4 fun r2 h=>dE h) fun h=>bE h A2 fun r2 h=>dE h
theorem Pe{N a0 r}(h:H3 N a0=some r):AbC 134 (Br a0) (xAK r):=
 oK (fO Tryz.func134 [0,4,1] [] [(1,[(1,.cp,true)])] (ext:=[0])) <| bE (oA h) Cc fun r1 h=>dE h
def LB(q:Cur->Int->Option (Val×Cur)):Prop:=∀a0 a1 r,q a0 a1=some r->AbC 135 (Fb a0 a1) (Bt r)
def LC(q:Cur->Int->Option (Val×Cur)):Prop:=∀a0 a1 r,q a0 a1=some r->AbC 174 (Fb a0 a1) (Bt r)
def RR:=fO Tryz.func135 [0,2,8,10,12,14,28,1,9,11] [(4,[0,2,8,10,12,14,1,9,11])] [(2,[(1,.cp,true)]),(4,[(1,.take,false)]),(6,[(1,.take,false),(6,.take,false)]),(7,[(0,.take,false)])] (ext:=[0])
theorem xBT{N}{q0}(g0:LB q0){q1}(g1:LC q1):∀n {x1 x6 x7 b0 b4 b5 r},HY N q0 q1 n x1 x6 x7 b0 b4 b5=some r->RS RR 4 [(0,vP 0),(2,vI x1),(8,vP 4),(10,vP 5),(12,vI x6),(14,vI x7),(1,.v true (Cu .ro b0)),(9,vV .own b4),(11,vV .own b5)] (Bt r):=
 nI nE fun n ih=>fun h=>cE (oA h) (fun h=>bE h (g1 _ _ _) fun r1 h=>uS (iE h) ih) fun h=>dS h
theorem xJ7{N}{q0}(g0:LB q0){q1}(g1:LC q1){a0 a1 r}(h:NL N q0 q1 a0 a1=some r):AbC 135 (Fb a0 a1) (Bt r):=
 oK RR <| bE (oA h) P4 fun r1 h=>uE h (xBT g0 g1 _)
theorem xKb{N}{q0}(g0:LB q0){q1}(g1:LC q1){a0 a1 r}(h:NM N q0 q1 a0 a1=some r):AbC 174 (Fb a0 a1) (Bt r):=
 oK (fO Tryz.func174 [0,2,8,20,32,1,9] [] [(1,[(2,.take,false)])] (ext:=[0])) <| cE (oA h) (fun h=>bE h Bs fun r1 h=>cE h (fun h=>bE h (g0 _ _ _) fun r2 h=>dE h) fun h=>bE h Bs fun r2 h=>cE h (fun h=>bE h Pe fun r3 h=>bE h Kg fun r4 h=>dE h) fun h=>bE h Ea fun r3 h=>bE h BF fun r4 h=>dE h) fun h=>bE (cb F h) Bs fun r1 h=>cE h (fun h=>bE h Pe fun r2 h=>bE h Kg fun r3 h=>dE h) fun h=>bE h Ea fun r2 h=>bE h BF fun r3 h=>dE h
theorem xJ8{N:Nat}:∀d,LB (BV N d).c12/\LC (BV N d).c13:=by
 intro d
 induction d with
 |zero=>exact⟨fun _ _ _ h=>nE h,fun _ _ _ h=>nE h⟩
 |succ d ih=>
  obtain⟨ih0,ih1⟩:=ih;exact⟨fun _ _ _ h=>xJ7 (N:=N) ih0 ih1 h,fun _ _ _ h=>xKb (N:=N) ih0 ih1 h⟩
theorem xJ9{N:Nat}{a0:Cur}{a1:Int}{r:Val×Cur}(h:P9 N a0 a1=some r):AbC 135 (Fb a0 a1) (Bt r):=(xJ8 N).1 _ _ r h
def RU:=fO Tryz.func136 [0,4,6,8,10,22,1,5,7] [(4,[0,4,6,8,10,1,5,7])] [(4,[(1,.take,false)]),(6,[(1,.take,false),(6,.take,false)]),(7,[(0,.take,false)])] (ext:=[0])
theorem xBU{N}:∀n {x4 x5 b0 b2 b3 r},H0 N n x4 x5 b0 b2 b3=some r->RS RU 4 [(0,vP 0),(4,vP 2),(6,vP 3),(8,vI x4),(10,vI x5),(1,.v true (Cu .ro b0)),(5,vV .own b2),(7,vV .own b3)] (Bt r):=
 nI nE fun n ih=>fun h=>cE (oA h) (fun h=>bE h Ea fun r1 h=>bE h BF fun r2 h=>uS (iE h) ih) fun h=>dS h
theorem xKe{N a0 r}(h:Pb N a0=some r):AbC 136 (Br a0) (Bt r):=
 oK RU <| bE (oA h) A2 fun r1 h=>uE h (xBU _)
def R4:=fO Tryz.func175 [0,4,6,8,10,12,24,1] [(5,[0,6,8,10,12,1])] [(5,[(1,.take,false)]),(7,[(0,.take,false)]),(9,[(0,.take,false)])] (ext:=[0])
theorem xB5{N}:∀n {x3 x4 x5 x6 b0 r},JO N n x3 x4 x5 x6 b0=some r->RS R4 5 [(0,vP 0),(6,vS .own .org x3),(8,vI x4),(10,vI x5),(12,vI x6),(1,.v true (Cu .ro b0))] (xAQ r):=
 nI nE fun n ih=>fun h=>cE (oA h) (fun h=>bE h A2 fun r1 h=>bE (iE h) A2 fun r2 h=>uS h ih) fun h=>dS h
theorem xKc{N a0 r}(h:Pa N a0=some r):AbC 175 (Br a0) (xAQ r):=
 oK R4 <| bE (oA h) A2 fun r1 h=>uE h (xB5 _)
def LT:=fO Tryz.func138 [0,4,6,8,10,12,14,16,18,42,66,82,1,5,11,17] [(10,[0,4,8,10,12,14,1,5,11]),(14,[0,4,8,10,12,14,16,18,1,5,11,17])] [(3,[(1,.take,false)]),(5,[(1,.ref,false)]),(6,[(1,.take,false),(2,.take,false)]),(10,[(1,.take,false)]),(16,[(1,.take,false)]),(17,[(1,.take,false),(2,.take,false),(4,.take,false)]),(18,[(0,.take,false)])] (ext:=[0])
def Pz(x4 x6 x7:Int)(b0:Cur)(b2 b5:Val):St:=[(0,vP 0),(4,vP 2),(8,vI x4),(10,vP 5),(12,vI x6),(14,vI x7),(1,.v true (Cu .ro b0)),(5,vV .own b2),(11,vV .own b5)]
theorem xBV{N}{k10}(hk10:∀ {z0 z1 z2 z3 z4 z5 r},k10 z0 z1 z2 z3 z4 z5=some r->RS LT 10 (Pz z0 z1 z2 z3 z4 z5) (Bt r)):∀n {x4 x6 x7 x9 b0 b2 b5 b8 r},JN N k10 n x4 x6 x7 x9 b0 b2 b5 b8=some r->RS LT 14 [(0,vP 0),(4,vP 2),(8,vI x4),(10,vP 5),(12,vI x6),(14,vI x7),(16,vP 8),(18,vI x9),(1,.v true (Cu .ro b0)),(5,vV .own b2),(11,vV .own b5),(17,.v true [.sl .own .int b8.cells,.sl .own .org b8.frm])] (Bt r):=
 nI nE fun n ih=>fun h=>cE (oA h) (fun h=>bE h Ea fun r1 h=>uS (iE h) ih) fun h=>uS (iE h) hk10
theorem QT{N}:∀n {x4 x6 x7 b0 b2 b5 r},E9 N n x4 x6 x7 b0 b2 b5=some r->RS LT 10 (Pz x4 x6 x7 b0 b2 b5) (Bt r):=
 nI nE fun n ih=>fun h=>cE (oA h) (fun h=>bE h xKc fun r1 h=>uS h (xBV ih _)) fun h=>dS h
theorem xAO{N a0 r}(h:Kn N a0=some r):AbC 138 (Br a0) (Bt r):=
 oK LT <| bE (oA h) A2 fun r1 h=>bE (iE (iE h)) Bs fun r2 h=>cE h (fun h=>bE (iE (iE h)) A2 fun r3 h=>uE h (QT _)) fun h=>bE h A2 fun r3 h=>uE h (QT _)
theorem xKa{N a0 r}(h:NK N a0=some r):AbC 82 (Br a0) (Bt r):=
 oK (fO Tryz.func82 [0,4,8,10,24,34,42,50,64,1,5] (ext:=[0])) <| bE (oA h) A2 fun r1 h=>cE h (fun h=>bE (rb Y 0 h) Ea fun r2 h=>bE h BF fun r3 h=>dE h) fun h=>cE h (fun h=>bE (rb Y 0 h) Ea fun r2 h=>bE h BF fun r3 h=>dE h) fun h=>cE h (fun h=>bE h Ea fun r2 h=>bE h BF fun r3 h=>dE h) fun h=>cE h (fun h=>bE h Pe fun r2 h=>bE h Kg fun r3 h=>dE h) fun h=>cE h (fun h=>bE h xJ9 fun r2 h=>dE h) fun h=>cE h (fun h=>bE h xKe fun r2 h=>dE h) fun h=>cE h (fun h=>bE h Ea fun r2 h=>bE h Ea fun r3 h=>bE h PP fun r4 h=>dE h) fun h=>cE h (fun h=>bE h A2 fun r2 h=>bE h AS fun r3 h=>dE h) fun h=>bE h xAO fun r2 h=>dE h
end Go.Ab.T
end
section
open Go.Proofs
namespace Go.Ab.T
set_option maxRecDepth 100000
variable [Inhabited Lb]
def RV:=fO Tryz.func139 [0,2,6,8,10,12,36,52,7,9,11] [(5,[0,8,10,12,9,11])] [(1,[(3,.take,false),(8,.take,false)]),(7,[(1,.ref,false)]),(8,[(0,.take,false)])]
theorem xBW{N}:∀n {x0 x6 b4 b5 r},Is N n x0 x6 b4 b5=some r->RS RV 5 [(0,vI x0),(8,vP 4),(10,vP 5),(12,vI x6),(9,vV .own b4),(11,vV .own b5)] (AW r):=
 nI nE fun n ih=>fun h=>cE (oA h) (fun h=>uS (iE h) ih) fun h=>dS h
theorem xJi{N a0 a1 r}(h:Mn N a0 a1=some r):AbC 139 [.val (vI a0),.val (vV .ro a1)] (AW r):=
 oK RV <| cE (oA h) (fun h=>bE (cb Y (cb Y h)) AS fun r1 h=>dE h) fun h=>bE h xAh fun r1 h=>cE h (fun h=>bE (cb Y h) AS fun r2 h=>dE h) fun h=>cE h (fun h=>bE h AS fun r2 h=>dE h) fun h=>bE h DN fun r2 h=>uE h (xBW _)
def LZ:=fO Tryz.func83 [0,2,8,10,12,14,28,50,1,9,11] [(3,[0,2,8,10,12,1,9,11]),(6,[0,2,8,10,12,14,1,9,11])] [(8,[(1,.ref,false),(5,.ref,false)])] (ext:=[0])
def QE(x1 x6:Int)(b0:Cur)(b4 b5:Val):St:=[(0,vP 0),(2,vI x1),(8,vP 4),(10,vP 5),(12,vI x6),(1,.v true (Cu .ro b0)),(9,vV .own b4),(11,vV .own b5)]
theorem xDk{N}{k3}(hk3:∀ {z0 z1 z2 z3 z4 r},k3 z0 z1 z2 z3 z4=some r->RS LZ 3 (QE z0 z1 z2 z3 z4) (Bt r)):∀n {x1 x6 x7 b0 b4 b5 r},JX N k3 n x1 x6 x7 b0 b4 b5=some r->RS LZ 6 [(0,vP 0),(2,vI x1),(8,vP 4),(10,vP 5),(12,vI x6),(14,vI x7),(1,.v true (Cu .ro b0)),(9,vV .own b4),(11,vV .own b5)] (Bt r):=
 nI nE fun n ih=>fun h=>cE (iE (oA h)) (fun h=>bE (rp 1 h) A2 fun r1 h=>uS (iE h) ih) fun h=>uS h hk3
theorem xDj{N}:∀n {x1 x6 b0 b4 b5 r},H6 N n x1 x6 b0 b4 b5=some r->RS LZ 3 (QE x1 x6 b0 b4 b5) (Bt r):=
 nI nE fun n ih=>fun h=>cE (oA h) (fun h=>uS h (xDk ih _)) fun h=>bE h xJi fun r1 h=>dS h
theorem xKp{N a0 a1 r}(h:NT N a0 a1=some r):AbC 83 (Fb a0 a1) (Bt r):=
 oK LZ <| bE (oA h) xAO fun r1 h=>uE h (xDj _)
def SP:=fO Tryz.func36 [0,4,6,8,10,12,24,36,1,13] [(4,[0,6,8,10,1])] [(4,[(1,.take,false)]),(9,[(0,.take,false),(2,.cp,true),(4,.take,false),(7,.take,false)]),(10,[(0,.take,false)])] (ext:=[0])
theorem xC2{N}:∀n {x3 x4 x5 b0 r},HN N n x3 x4 x5 b0=some r->RS SP 4 [(0,vP 0),(6,vS .own .bnd x3),(8,vI x4),(10,vI x5),(1,.v true (Cu .ro b0))] (xAB r):=
 nI nE fun n ih=>fun h=>cE (oA h) (fun h=>bE h xKa fun r1 h=>bE h Bs fun r2 h=>cE h (fun h=>bE h A2 fun r3 h=>bE h xKp fun r4 h=>bE h Cc fun r5 h=>uS (iE h) ih) fun h=>bE h Cc fun r3 h=>uS (iE h) ih) fun h=>dS h
theorem My{N a0 r}(h:F9 N a0=some r):AbC 36 (Br a0) (xAB r):=
 oK SP <| bE (oA h) A2 fun r1 h=>uE h (xC2 _)
theorem xJH{N a0 r}(h:PX N a0=some r):AbC 84 (Br a0) (xJI r):=
 oK (fO Tryz.func84 [0,4,1,5] [] [(1,[(6,.cp,true)])] (ext:=[0])) <| bE (oA h) A2 fun r1 h=>bE h A2 fun r2 h=>bE h Cc fun r3 h=>bE h A2 fun r4 h=>dE h
def SQ:=fO Tryz.func37 [0,4,6,8,10,12,24,38,46,1,13] [(4,[0,6,8,10,1])] [(4,[(1,.take,false)]),(12,[(0,.take,false),(1,.take,false),(3,.take,false)]),(13,[(0,.take,false)])] (ext:=[0])
theorem xC3{N}:∀n {x3 x4 x5 b0 r},Fa N n x3 x4 x5 b0=some r->RS SQ 4 [(0,vP 0),(6,vS .own .rea x3),(8,vI x4),(10,vI x5),(1,.v true (Cu .ro b0))] (xAF r):=
 nI nE fun n ih=>fun h=>cE (oA h) (fun h=>bE h xJH fun r1 h=>cE h (fun h=>cE h (fun h=>bE h BF fun r2 h=>uS (iE h) ih) fun h=>bE h BF fun r2 h=>uS (iE h) ih) fun h=>bE (ax ((r1.1.kind:Int) != 3) true (AC (zW (AE (gt 0 h)) rfl)) h) BF fun r2 h=>uS (iE h) ih) fun h=>dS h
theorem NE{N a0 r}(h:HQ N a0=some r):AbC 37 (Br a0) (xAF r):=
 oK SQ <| bE (oA h) A2 fun r1 h=>uE h (xC3 _)
def SR:=fO Tryz.func38 [0,4,6,10,24,34,36,38,40,50,1,5,7] [(5,[0,4,6,34,36,38,1,5,7])] [(8,[(1,.take,false),(2,.take,false)]),(9,[(1,.take,false)]),(10,[(0,.take,false)])] (ext:=[0])
theorem Q6{N}:∀n {x17 x18 x19 b0 b2 b3 r},E5 N n x17 x18 x19 b0 b2 b3=some r->RS SR 5 [(0,vP 0),(4,vP 2),(6,vP 3),(34,vS .own .str x17),(36,vI x18),(38,vI x19),(1,.v true (Cu .ro b0)),(5,.v true (Wc .own b2)),(7,.v true (Wc .own b3))] (xAz r):=
 nI nE fun n ih=>fun h=>cE (oA h) (fun h=>bE (iE h) Bs fun r1 h=>cE h (fun h=>bE h A2 fun r2 h=>uS (iE h) ih) fun h=>uS h ih) fun h=>dS h
theorem Mw{N a0 r}(h:HM N a0=some r):AbC 38 (Br a0) (xAz r):=
 oK SR <| bE (oA h) A2 fun r1 h=>bE h A2 fun r2 h=>bE h Bs fun r3 h=>cE h (fun h=>bE h A2 fun r4 h=>uE h (Q6 _)) fun h=>uE h (Q6 _)
theorem xIR{N a0 r}(h:Ma N a0=some r):AbC 6 [.val (vS .ro .byte a0)] (xIS r):=
 oK (fO Tryz.func6 [0,4,6,8,10,12,14,16,18,30,38,5,11,19,23] [] [(7,[(0,.take,false)])]) <| bE (oA h) xJY fun r1 h=>bE h xJO fun r2 h=>bE h Bs fun r3 h=>cE h (fun h=>bE h xJS fun r4 h=>bE h Bs fun r5 h=>cE h (fun h=>bE h xAs fun r6 h=>bE h My fun r7 h=>bE h NE fun r8 h=>bE h Mw fun r9 h=>bE h A2 fun r10 h=>bE h A2 fun r11 h=>dE h) fun h=>bE h My fun r6 h=>bE h NE fun r7 h=>bE h Mw fun r8 h=>bE h A2 fun r9 h=>bE h A2 fun r10 h=>dE h) fun h=>bE h Bs fun r4 h=>cE h (fun h=>bE h xAs fun r5 h=>bE h My fun r6 h=>bE h NE fun r7 h=>bE h Mw fun r8 h=>bE h A2 fun r9 h=>bE h A2 fun r10 h=>dE h) fun h=>bE h My fun r5 h=>bE h NE fun r6 h=>bE h Mw fun r7 h=>bE h A2 fun r8 h=>bE h A2 fun r9 h=>dE h
def G8(q:Exp->Option (Bool)):Prop:=∀a0 r,q a0=some r->AbC 8 (BA a0) (AN r)
def fk8:=fO Tryz.func8 [0,2,4,8,24,28,30,32,34,42,3,9] [(4,[28,30,32])] [(1,[(3,.take,false)]),(8,[(1,.take,false)])]
theorem Q9{N}{q0}(g0:G8 q0):∀n {x14 x15 x16 r},Dt N q0 n x14 x15 x16=some r->RS fk8 4 [(28,vS .ro .exp x14),(30,vI x15),(32,vI x16)] (AN r):=
 nI nE fun n ih=>fun h=>cE (oA h) (fun h=>bE (iE h) (g0 _ _) fun r1 h=>cE h (fun h=>dS h) fun h=>uS h ih) fun h=>dS h
theorem xEW{N}{q0}(g0:G8 q0){a0 r}(h:OF N q0 a0=some r):AbC 8 (BA a0) (AN r):=
 oK fk8 <| cE (oA h) (fun h=>bE h OS fun r1 h=>cE h (fun h=>dE h) fun h=>uE h (Q9 g0 _)) fun h=>uE (cb F h) (Q9 g0 _)
theorem Sw{N:Nat}:∀d,G8 (GJ N d)
 |0=>fun _ _ h=>nE h
 |d+1=>fun _ _ h=>xEW (N:=N) (Sw d) h
theorem Sx{N:Nat}{a0:Exp}{r:Bool}(h:Lg N a0=some r):AbC 8 (BA a0) (AN r):=Sw N _ r h
theorem xAd{N a0 a1 r}(h:K8 N a0 a1=some r):AbC 10 (B2 a0 a1) (AN r):=
 oK (fO Tryz.func10 [0,2,4,6,8,5,7]) <| bE (oA h) xAU fun r1 h=>dE h
def fk3:=fO Tryz.func3 [0,4,6,8,10,12,14,16,18,20,24,94,98,7,13,19,21] [] [(3,[(2,.take,false)]),(5,[(5,.take,false)]),(10,[(4,.take,false),(11,.take,false)])]
theorem laws_FnNoEffects_ok{N a0 r}(h:ML N a0=some r):AbC 3 [.val (vS .ro .byte a0)] (AN r):=
 oK fk3 <| bE (oA h) xGH fun r1 h=>cE h (fun h=>dE h) fun h=>bE h xIR fun r2 h=>bE h Sv fun r3 h=>bE h Sx fun r4 h=>bE h xAf fun r5 h=>cE h (fun h=>dE (cb Y h)) fun h=>bE h xIU fun r6 h=>bE h xAd fun r7 h=>cE h (fun h=>dE h) fun h=>bE h Sx fun r8 h=>cE h (fun h=>dE h) fun h=>bE h Sv fun r9 h=>cE h (fun h=>bE h xAd fun r10 h=>cE h (fun h=>dE h) fun h=>dE h) fun h=>dE (cb F h)
end Go.Ab.T
end
section
namespace Go.Ab
inductive DK (K:Nat):D->Prop where
 |int {k n} (h:(Lit.int k n).wf=true):DK K (.int k n)
 |bool (b):DK K (.bool b)
 |str {s:Str} (h:s.length<=K):DK K (.str s)
 |sl {sz rows} (h:rows.length<=K) (hr:∀r∈rows,∀x∈r,DK K x):DK K (.sl sz rows)
theorem DK.mono{K M:Nat}(hKM:K<=M){d:D}(h:DK K d):DK M d:=by
 induction h with
 |int h=>grind [int]
 |bool b=>grind [bool]
 |str h=>grind [str]
 |sl h _ ih=>grind [sl]
theorem xBk{n:Int}:(Lit.int .i64 n).wf=true↔I64 n:=by
 show(decide (_<=n)&&decide (n<=_))=true↔_;rw [Zu,ZU,ZU];exact Iff.rfl
theorem DK.i64{K:Nat}{n:Int}:DK K (.int .i64 n)↔I64 n:=⟨fun h=>by cases h with |int h=>grind [xBk],fun h=> .int (xBk.2 h)⟩
theorem DK.str_iff{K:Nat}{s:Str}:DK K (.str s)↔s.length<=K:=⟨fun h=>by cases h;grind,.str⟩
theorem DK.sl_iff{K sz:Nat}{α:Type}{f:α->List D}{xs:List α}:DK K (.sl sz (xs.map f))↔xs.length<=K/\∀x∈xs,∀d∈f x,DK K d:=by
 constructor
 ·intro h;cases h with
  |sl h hr=>grind
 grind [sl]
def Aj{α:Type}(K:Nat)(p:α->Prop)(l:List α):Prop:=l.length<=K/\∀x∈l,p x
def Org.Fit(o:Org):Prop:=I64 o.cell/\I64 o.row
def Rowd.Fit(K:Nat)(r:Rowd):Prop:=Aj K I64 r.cells/\Aj K Org.Fit r.frm
def Str.Fit(K:Nat)(s:Str):Prop:=s.length<=K
def Val.Fit(K:Nat)(v:Val):Prop:=∀d∈Val.toD v,DK K d
def Exp.Fit(K:Nat)(v:Exp):Prop:=∀d∈Exp.toD v,DK K d
def Rea.Fit(K:Nat)(v:Rea):Prop:=I64 v.kind/\I64 v.n/\I64 v.time/\Str.Fit K v.text/\v.result.Fit K
def Bnd.Fit(K:Nat)(v:Bnd):Prop:=Str.Fit K v.name/\v.value.Fit K
theorem xHV{K:Nat}{r:Rowd}:(∀d∈Rowd.toD r,DK K d)↔r.Fit K:=by
 simp only [Rowd.toD,Zh,Z6,or_false,forall_eq_or_imp,forall_eq,DK.sl_iff,DK.i64,Rowd.Fit,Aj,Org.Fit]
theorem Val.fit_iff{K:Nat}{v:Val}:v.Fit K↔I64 v.kind/\I64 v.n/\I64 v.step/\Str.Fit K v.text/\Aj K (Val.Fit K) v.list/\Aj K (Str.Fit K) v.columns/\Aj K (Rowd.Fit K) v.rows:=by
 cases v;simp only [Val.Fit,Val.toD,Val.toDs_eq,Zh,Z6,or_false,forall_eq_or_imp,forall_eq,DK.sl_iff,DK.i64,DK.str_iff,Str.Fit,Aj,Val.kind,Val.n,Val.step,Val.text,Val.list,Val.columns,Val.rows,xHV]
theorem Exp.fit_iff{K:Nat}{v:Exp}:v.Fit K↔I64 v.kind/\I64 v.n/\Str.Fit K v.text/\Aj K (Exp.Fit K) v.args:=by
 cases v;simp only [Exp.Fit,Exp.toD,Exp.toDs_eq,Zh,Z6,or_false,forall_eq_or_imp,forall_eq,DK.sl_iff,DK.i64,DK.str_iff,Str.Fit,Aj,Exp.kind,Exp.n,Exp.text,Exp.args]
theorem xIh{l:List Val}{x:Val}(h:x∈l)(k n s:Int)(t:Str)(c:List Str)(r:List Rowd):SizeOf.sizeOf x<SizeOf.sizeOf (Val.mk k n s t l c r):=by
 have:=List.sizeOf_lt_of_mem h
 grind
theorem Val.ind{p:Val->Prop}(h:∀k n s t l c r,(∀x∈l,p x)->p (.mk k n s t l c r)):∀v,p v
 | .mk k n s t l c r=>h k n s t l c r fun x hx=>Val.ind h x
termination_by v=>SizeOf.sizeOf v
decreasing_by exact xIh hx k n s t c r
theorem xIg{l:List Exp}{x:Exp}(h:x∈l)(k n:Int)(t:Str):SizeOf.sizeOf x<SizeOf.sizeOf (Exp.mk k n t l):=by
 have:=List.sizeOf_lt_of_mem h
 grind
theorem Exp.ind{p:Exp->Prop}(h:∀k n t l,(∀x∈l,p x)->p (.mk k n t l)):∀v,p v
 | .mk k n t l=>h k n t l fun x hx=>Exp.ind h x
termination_by v=>SizeOf.sizeOf v
decreasing_by exact xIg hx k n t
theorem A3{α σ ρ:Type}{L:Nat->Int->σ->Option ρ}(x0:List α)(g:List α->σ->ρ)(Inv:Nat->σ->Prop)
 (hnil:∀n s,Inv x0.length s->L (n+1) (x0.length:Nat) s=some (g [] s))
 (hcons:∀i x l s,x0.drop i=x::l->i<x0.length->x0[i]? =some x->Inv i s->
   (∃s',Inv (i+1) s' /\g (x::l) s=g l s' /\∀n,L (n+1) (i:Nat) s=L n ((i+1:Nat):Int) s')\/(∀n,L (n+1) (i:Nat) s=some (g (x::l) s))):
 ∀n i s,Inv i s->i<=x0.length->x0.length<n+i->L n (i:Nat) s=some (g (x0.drop i) s):=by
 intro n
 induction n with
 |zero=>grind
 |succ n ih=>
  intro i s hs hi hn;cases hd:x0.drop i with
  |nil=>
   have:=Hg hd
   grind
  |cons x l=>
   grind [Bk]
theorem AR{α:Type}{xs:List α}{i:Nat}{x:α}(h:xs[i]? =some x)(d:α):xs.getD i d=x:=by grind
theorem AL{i:Nat}{len:Nat}(h:i<len)(hl:len<=9223372036854775807):IntKind.i64.wrap ((i:Int)+1)=((i+1:Nat):Int):=by
 grind [Af]
def left(s:Nat)(l:Int):Int:=if(s:Int)<=l then l - s else -1
theorem Te{s:Nat}{l:Int}(h:(s:Int)<=l):left s l=l - s:=by grind [left]
theorem xGJ{s:Nat}{l:Int}(h:¬(s:Int)<=l):left s l= -1:=by grind [left]
section
variable {α:Type} {d:α}
theorem Jc{L:Nat->Int->Option Bool}{x0:List α}(hend:∀n,L (n+1) (x0.length:Nat)=some true)
 (hcons:∀(i:Nat) x n,i<x0.length->x0[i]? =some x->x∈x0->L (n+1) (i:Nat)=L n ((i+1:Nat):Int)) {n:Nat} (hn:x0.length<n):L n 0=some true:=by
 have key:=A3 (σ:=Unit) (L:=fun n i _=>L n i) x0 (fun _ _=>true) (fun _ _=>True) (fun n _ _=>hend n)
  (fun i x r s hd hi hx _=> .inl ⟨(),trivial,rfl,fun n=>hcons i x n hi hx (Zy hx)⟩) n 0 () trivial (by omega) (by omega)
 grind
end
theorem vk(a b c:Int)(t:Str)(l:List Val)(k:List Str)(r:List Rowd):(Val.mk a b c t l k r).kind=a:=rfl
theorem vn(a b c:Int)(t:Str)(l:List Val)(k:List Str)(r:List Rowd):(Val.mk a b c t l k r).n=b:=rfl
theorem vs(a b c:Int)(t:Str)(l:List Val)(k:List Str)(r:List Rowd):(Val.mk a b c t l k r).step=c:=rfl
theorem vt(a b c:Int)(t:Str)(l:List Val)(k:List Str)(r:List Rowd):(Val.mk a b c t l k r).text=t:=rfl
theorem vl(a b c:Int)(t:Str)(l:List Val)(k:List Str)(r:List Rowd):(Val.mk a b c t l k r).list=l:=rfl
theorem vc(a b c:Int)(t:Str)(l:List Val)(k:List Str)(r:List Rowd):(Val.mk a b c t l k r).columns=k:=rfl
theorem vr(a b c:Int)(t:Str)(l:List Val)(k:List Str)(r:List Rowd):(Val.mk a b c t l k r).rows=r:=rfl
theorem ek(a b:Int)(t:Str)(l:List Exp):(Exp.mk a b t l).kind=a:=rfl
theorem en(a b:Int)(t:Str)(l:List Exp):(Exp.mk a b t l).n=b:=rfl
theorem et(a b:Int)(t:Str)(l:List Exp):(Exp.mk a b t l).text=t:=rfl
theorem ea(a b:Int)(t:Str)(l:List Exp):(Exp.mk a b t l).args=l:=rfl
mutual
def Exp.size:Exp->Nat
 | .mk _ _ t a=>t.length+(a.length+Exp.sizes a)
def Exp.sizes:List Exp->Nat
 | []=>0
 |x::r=>Exp.size x+Exp.sizes r
end
theorem Exp.sizes_eq(l:List Exp):Exp.sizes l=(l.map Exp.size).sum:=by
 induction l with
 |nil=>rfl
 |cons x l ih=>grind [Exp.sizes]
def Rowd.size(r:Rowd):Nat:=r.cells.length+r.frm.length
mutual
def Val.size:Val->Nat
 | .mk _ _ _ t l c r=>t.length+(l.length+Val.sizes l)+(c.length+(c.map List.length).sum)+(r.length+(r.map Rowd.size).sum)
def Val.sizes:List Val->Nat
 | []=>0
 |x::r=>Val.size x+Val.sizes r
end
theorem Val.sizes_eq(l:List Val):Val.sizes l=(l.map Val.size).sum:=by
 induction l with
 |nil=>rfl
 |cons x l ih=>grind [Val.sizes]
theorem MV{α:Type}{f:α->Nat}{l:List α}{x:α}(h:x∈l):f x<=(l.map f).sum:=by
 induction l with
 |nil=>cases h
 |cons a l ih=>
  grind
theorem Exp.size_eq(e:Exp):e.size=e.text.length+(e.args.length+(e.args.map Exp.size).sum):=by
 cases e;grind [Exp.size,Exp.sizes_eq,Exp.text,Exp.args]
theorem Val.size_eq(e:Val):e.size=e.text.length+(e.list.length+(e.list.map Val.size).sum)+(e.columns.length+(e.columns.map List.length).sum)+(e.rows.length+(e.rows.map Rowd.size).sum):=by
 cases e;grind [Val.size,Val.sizes_eq,Val.text,Val.list,Val.columns,Val.rows]
theorem Ap(n:Nat):Big fun N=>n<N:=⟨n+1,fun N h=>by omega⟩
def Gb(c:UInt8):Bool:=decide ((c.toNat:Int)>=97)&&decide ((c.toNat:Int)<=122)
def Fy(c:UInt8):Bool:=decide ((c.toNat:Int)>=48)&&decide ((c.toNat:Int)<=57)
def Cq:List UInt8->Bool->Bool
 | [],_=>true
 |x::r,f=>(Gb x||(!f&&Fy x))&&Cq r false
theorem xJ2{N:Nat}{s:Str}(hl:s.length<=9223372036854775807)(hn:s.length<N):P6 N s=some (Cq s true&&decide ((s.length:Int)>0)):=
 A3 (L:=fun n i _=>Dk N n s i) s (fun l f=>Cq l f&&decide ((s.length:Int)>0)) (fun i f=>f=(i==0)) (fun n _ _=>by simp [Dk,Cq])
  (fun i x l f hd hi hx hf=>by
    have hi' :(i:Int)<(s.length:Int):=by omega
    have hi0:((i:Int)==0)=f:=by rw [hf];grind
    by_cases h1:(Gb x||(!f&&Fy x))=true
    ·refine .inl ⟨false,by simp,by grind [Cq],fun n=> ?_⟩
     grind [Dk,AL,Gb,Fy]
    ·refine .inr fun n=> ?_;have h1:=Bool.eq_false_iff.2 h1;simp only [Dk,Zz hi',jT,jI,AR hx,AL hi hl,hi0,Cq,h1,ZY]
     grind [Gb,Fy]) N 0 true rfl (by omega) (by omega)
theorem EH(N:Nat)(a b c:Int):Cm N a b c=some (decide (b<=a)&&decide (a<=c)):=by
 grind [Cm]
theorem Fd(N:Nat)(a b c:Int):Dj N a b c=some (decide (b<=a)&&decide (a<=c)):=by
 grind [Dj]
theorem xFH{N:Nat}{s:Str}(hl:s.length<=9223372036854775807)(hn:s.length<N):OT N s=some (Cq s true&&(decide ((1:Int)<=s.length)&&decide ((s.length:Int)<=8))):=
 A3 (L:=fun n i _=>EB N n s i) s (fun l f=>Cq l f&&(decide ((1:Int)<=s.length)&&decide ((s.length:Int)<=8))) (fun i f=>f=(i==0)) (fun n _ _=>by grind [EB,Cq,EH])
  (fun i x l f hd hi hx hf=>by
    have hi' :(i:Int)<(s.length:Int):=by omega
    have hi0:((i:Int)==0)=f:=by rw [hf];grind
    have e1:decide ((x.toNat:Int)<48)= !decide ((x.toNat:Int)>=48):=by grind
    have e2:decide ((x.toNat:Int)>57)= !decide ((x.toNat:Int)<=57):=by grind
    by_cases h1:(Gb x||(!f&&Fy x))=true
    ·refine .inl ⟨false,by simp,by grind [Cq],fun n=> ?_⟩
     grind [EB,AL,Gb,Fy]
    ·refine .inr fun n=> ?_;have h1:=Bool.eq_false_iff.2 h1;simp only [EB,Zz hi',jT,jI,AR hx,AL hi hl,hi0,e1,e2,Cq,h1,ZY]
     grind [Gb,Fy]) N 0 true rfl (by omega) (by omega)
def IU:List Str:=[[108,101,116],[105,110],[105,102],[116,104,101,110],[101,108,115,101],[102,111,114],[100,111],[108,101,110],[115,117,109],[116,97,107,101],[115,107,105,112],[114,97,110,103,101],[110,116,104],[119,104,101,114,101],[107,101,101,112],[97,100,100],[103,114,111,117,112],[106,111,105,110],[99,111,108,117,109,110],[114,111,119,115],[99,108,111,99,107],[99,104,97,110,99,101],[102,105,108,101],[116,97,98,108,101]]
theorem xAG{N:Nat}{xs:List Str}{s:Str}(hl:xs.length<=9223372036854775807)(hn:xs.length<N):NG N xs s=some (xs.any (· ==s)):=
 A3 (σ:=Unit) (L:=fun n i _=>HR N n xs s i) xs (fun l _=>l.any (· ==s)) (fun _ _=>True) (fun n _ _=>by simp [HR])
  (fun i x l _ hd hi hx _=>by
    have hi' :(i:Int)<(xs.length:Int):=by omega
    cases h1:x==s
    ·refine .inl ⟨(),trivial,by grind,fun n=> ?_⟩
     grind [HR,AL]
    grind [HR]) N 0 () trivial (by omega) (by omega)
def IT(s:Str):Bool:=IU.any (· ==s)
theorem xI3{N:Nat}{s:Str}(hn:24<N):Mg N s=some (IT s):=by
 unfold Mg P5;rw [jS,show([[108,101,116],[105,110],[105,102],[116,104,101,110],[101,108,115,101],[102,111,114],[100,111],[108,101,110],[115,117,109],[116,97,107,101],[115,107,105,112],[114,97,110,103,101],[110,116,104],[119,104,101,114,101],[107,101,101,112],[97,100,100],[103,114,111,117,112],[106,111,105,110],[99,111,108,117,109,110],[114,111,119,115],[99,108,111,99,107],[99,104,97,110,99,101],[102,105,108,101],[116,97,98,108,101]]:List Str)=IU from rfl,xAG (by decide) hn]
 rfl
theorem xEX(N:Nat)(s:Str):Li N s=some (IT s):=by
 by_cases h:s∈IU
 ·have h' :IT s=true:=Yo.2 ⟨s,h,by simp⟩;rw [h'];simp only [IU,Zh,Z6,or_false] at h;rcases h with h|h|h|h|h|h|h|h|h|h|h|h|h|h|h|h|h|h|h|h|h|h|h|h <;>subst h <;>rfl
 ·have h' :IT s=false:=by
   grind [IT]
  rw [h'];have hne:∀x∈IU,(s==x)=false:=by
   grind
  simp only [IU,Zh,Z6,or_false,forall_eq_or_imp,forall_eq] at hne
  grind [Li,GE]
def Ce(s:Str):Bool:=Cq s true&&(decide ((1:Int)<=s.length)&&decide ((s.length:Int)<=8))&& !IT s
theorem OI{N:Nat}{s:Str}(hl:s.length<=9223372036854775807)(hn:s.length<N):Du N s=some (Ce s):=by
 grind [Du,Ce,xFH,xEX]
theorem PK{N:Nat}{s:Str}(hl:s.length<=9223372036854775807)(hn:s.length<N)(hn2:24<N):F5 N s=some (Ce s):=by
 grind [F5,Ce,xJ2,xI3]
def Bu:List Fil->Str->Int×Bool
 | [],_=>(0,false)
 |x::r,s=>bif x.name==s then(x.n,true) else Bu r s
theorem xIV{N:Nat}{w:Wld}{s:Str}(hl:w.files.length<=9223372036854775807)(hn:w.files.length<N):PG N w s=some (Bu w.files s):=
 A3 (σ:=Unit) (L:=fun n i _=>HA N n s i w) w.files (fun l _=>Bu l s) (fun _ _=>True) (fun n _ _=>by simp [HA,Bu])
  (fun i x l _ hd hi hx _=>by
    have hi' :(i:Int)<(w.files.length:Int):=by omega
    cases h1:x.name==s
    ·refine .inl ⟨(),trivial,by grind [Bu],fun n=> ?_⟩
     grind [HA,AL]
    grind [HA,Bu]) N 0 () trivial (by omega) (by omega)
theorem xER{N:Nat}{w:Wld}{s:Str}(hl:w.files.length<=9223372036854775807)(hn:w.files.length<N):OC N w s=some (Bu w.files s):=
 A3 (σ:=Unit) (L:=fun n i _=>GH N n s w.files w.files.length i) w.files (fun l _=>Bu l s) (fun _ _=>True) (fun n _ _=>by simp [GH,Bu])
  (fun i x l _ hd hi hx _=>by
    have hi' :(i:Int)<(w.files.length:Int):=by omega
    cases h1:x.name==s
    ·refine .inl ⟨(),trivial,by grind [Bu],fun n=> ?_⟩
     grind [GH,AL]
    grind [GH,Bu]) N 0 () trivial (by omega) (by omega)
def AY(n:Int):Bool:=decide ((-1000000000:Int)<=n)&&decide (n<=1000000000)
theorem DO(N:Nat)(n:Int):Cs N n=some (AY n):=by grind [Cs,Fd,AY]
theorem D2(N:Nat)(n:Int):C8 N n=some (AY n):=by grind [C8,EH,AY]
theorem xLf{i len:Nat}(h0:i≠0)(h:i<len)(hl:len<=9223372036854775807):IntKind.i64.wrap ((i:Int) - 1)=((i - 1:Nat):Int):=by
 grind [Af]
theorem Pc{N K:Nat}{r:Rowd}(h:r.Fit K)(hK:K<=137438953472):Kq N r=some r:=by
 have h1:r.cells.length<=K:=h.1.1;have h2:r.frm.length<=K:=h.2.1;unfold Kq;rw [Zt (by grind [Lim]),Zt (by grind [Lim])];rfl
theorem TR{N K:Nat}{r:Rowd}(h:r.Fit K)(hK:K<=137438953472):Lz N r=some r:=Pc (N:=N) h hK
theorem xJq{N K:Nat}{rc:Val->Option Val}{v z:Val}{k n s:Int}{t:Str}{l:List Val}{c:List Str}(h:Aj K (Rowd.Fit K) v.rows)(hK:K<=137438953472)(hN:K<N):
 HW N rc N 0 v z (Val.mk k n s t l c [])=some (Val.mk k n s t l c v.rows):=by
 have hl:v.rows.length<=K:=h.1
 exact A3 (L:=fun m i q=>HW N rc m i v z (Val.mk k n s t l c q)) v.rows (fun r q=>Val.mk k n s t l c (q++r)) (fun i q=>q.length=i) (fun m q hq=>by simp [HW])
  (fun i x r q hd hi hx hq=>by
    have hq:q.length=i:=hq;have hi' :(i:Int)<(v.rows.length:Int):=by omega
    refine .inl ⟨q++ [x],by grind,by simp,fun m=> ?_⟩;simp only [HW,Zz hi',jT,jI,AR hx,Pc (h.2 x (Zy hx)) hK,jS,AL hi (by omega:v.rows.length<=_),vk,vn,vs,vt,vl,vc,vr]
    grind [Lim]) N 0 [] rfl (by omega) (by omega)
theorem xAp{N d K:Nat}{v:Val}(h:v.Fit K)(hK:K<=137438953472)(hN:K<N)(hx:∀x∈v.list,HX N d x=some x):NJ N (HX N d) v=some v:=by
 obtain⟨h1,h2,h3,h4,h5,h6,h7⟩:=Val.fit_iff.1 h;have hl:v.list.length<=K:=h5.1;have hc:v.columns.length<=K:=h6.1;unfold NJ;rw [Zt (by grind [Lim])]
 have key:=A3 (L:=fun m i q=>JM N (HX N d) m i v (Val.mk 0 0 0 [] [] [] []) (Val.mk v.kind v.n v.step v.text q ([]++v.columns) [])) v.list (fun l q=>Val.mk v.kind v.n v.step v.text (q++l) v.columns v.rows) (fun i q=>q.length=i)
  (fun m q hq=>by
    grind [JM,xJq])
  (fun i x l q hd hi hxi hq=>by
    have hq:q.length=i:=hq;have hi' :(i:Int)<(v.list.length:Int):=by omega
    refine .inl ⟨q++ [x],by grind,by simp,fun m=> ?_⟩;simp only [JM,Zz hi',jT,jI,AR hxi,hx x (Zy hxi),jS,Val.re_eq,AL hi (by omega:v.list.length<=_),vk,vn,vs,vt,vl,vc,vr]
    grind [Lim]) N 0 [] rfl (by omega) (by omega)
 grind [Val.eta]
theorem xAo{K:Nat}(hK:K<=137438953472):∀v:Val,v.Fit K->Big2 fun N d=>HX N d v=some v:=by
 refine Val.ind fun k n s t a c r ih h=> ?_;have h5:=(Val.fit_iff.1 h).2.2.2.2.1;refine Big2.succ ?_;exact((Big2.list fun x hx=>ih x hx (h5.2 x hx)).and (Ap K).two).imp fun N d ⟨hx,hN⟩=>xAp h hK hN hx
theorem DL {K:Nat}{v:Val}(h:v.Fit K)(hK:K<=137438953472):Big fun N=>B1 N v=some v:=(xAo hK v h).diag
theorem xFx{N K:Nat}{rc:Val->Option Val}{rd:List Val->Option (List Val)}{z:Val}{k n s:Int}{t:Str}{l:List Val}{c:List Str}{rs:List Rowd}(h:Aj K (Rowd.Fit K) rs)(hK:K<=137438953472)(hN:K<N):
 GT N rc rd N rs rs.length 0 z (Val.mk k n s t l c [])=some (Val.mk k n s t l c rs):=by
 have hl:rs.length<=K:=h.1
 exact A3 (L:=fun m i q=>GT N rc rd m rs rs.length i z (Val.mk k n s t l c q)) rs (fun r q=>Val.mk k n s t l c (q++r)) (fun i q=>q.length=i) (fun m q hq=>by simp [GT])
  (fun i x r q hd hi hx hq=>by
    have hq:q.length=i:=hq;have hi' :(i:Int)<(rs.length:Int):=by omega
    refine .inl ⟨q++ [x],by grind,by simp,fun m=> ?_⟩;simp only [GT,Zz hi',jT,jI,AR hx,TR (h.2 x (Zy hx)) hK,jS,AL hi (by omega:rs.length<=_),vk,vn,vs,vt,vl,vc,vr]
    grind [Lim]) N 0 [] rfl (by omega) (by omega)
theorem TQ{N d:Nat}{a:List Val}(hl:a.length<=137438953472)(hn:a.length<N)(hx:∀x∈a,(B0 N d).c6 x=some x):(B0 N (d+1)).c7 a=some a:=by
 show MB N (B0 N d).c6 (B0 N d).c7 a=_;unfold MB
 exact A3 (L:=fun m i q=>IB N (B0 N d).c6 (B0 N d).c7 m q a a.length i) a (fun l q=>q++l) (fun i q=>q.length=i) (fun m q hq=>by simp [IB])
  (fun i x l q hd hi hxi hq=>by
    grind [IB,jI,Val.re_eq,AL,Lim]) N 0 [] rfl (by omega) (by omega)
theorem xFy{N d K:Nat}{v:Val}(h:v.Fit K)(hK:K<=137438953472)(hN:K<N)(hx:(B0 N d).c7 v.list=some v.list):(B0 N (d+1)).c6 v=some v:=by
 obtain⟨h1,h2,h3,h4,h5,h6,h7⟩:=Val.fit_iff.1 h;have hc:v.columns.length<=K:=h6.1;show MA N (B0 N d).c6 (B0 N d).c7 v=_
 grind [MA,Lim,xFx,Val.eta]
theorem OQ{K:Nat}(hK:K<=137438953472):∀v:Val,v.Fit K->Big2 fun N d=>(B0 N d).c6 v=some v:=by
 refine Val.ind fun k n s t a c r ih h=> ?_;have h5:=(Val.fit_iff.1 h).2.2.2.2.1;have hl:a.length<=K:=h5.1;refine Big2.succ (Big2.succ ?_);exact((Big2.list fun x hx=>ih x hx (h5.2 x hx)).and (Ap K).two).imp fun N d ⟨hx,hN⟩=>xFy h hK hN (TQ (a:=a) (by omega) (by omega) hx)
theorem FG {K:Nat}{v:Val}(h:v.Fit K)(hK:K<=137438953472):Big fun N=>Bm N v=some v:=(OQ hK v h).diag
theorem Jz{K:Nat}{a:List Val}(h:Aj K (Val.Fit K) a)(hK:K<=137438953472):Big fun N=>GU N a=some a:=by
 have hl:a.length<=K:=h.1
 have key:Big2 fun N d=>(B0 N d).c7 a=some a:=
  Big2.succ (((Big2.list fun x hx=>OQ hK x (h.2 x hx)).and (Ap K).two).imp fun N d ⟨hx,hN⟩=>TQ (by omega) (by omega) hx)
 exact key.diag
def D5:List Bnd->Str->Val
 | [],_=> .mk 6 1 0 [] [] [] []
 |b::r,s=>bif b.name==s then b.value else D5 r s
theorem xAi{K:Nat}{xs:List Bnd}{s:Str}(h:Aj K (Bnd.Fit K) xs)(hK:K<=137438953472):Big fun N=>Mk N xs s=some (D5 xs.reverse s)/\Lq N xs s=some (D5 xs.reverse s):=by
 have hl:xs.length<=K:=h.1;refine((Big.list fun x hx=>DL (h.2 x hx).2 hK).and ((Big.list fun x hx=>FG (h.2 x hx).2 hK).and (Ap K))).imp fun N ⟨hc,hd,hN⟩=> ?_;have key:∀(m i:Nat),i<=xs.length->i<m->Iq N m xs s ((i:Int) - 1) (Val.mk 0 0 0 [] [] [] [])=some (D5 (xs.take i).reverse s)/\Hu N m xs s ((i:Int) - 1) (Val.mk 0 0 0 [] [] [] [])=some (D5 (xs.take i).reverse s):=by
  intro m
  induction m with
  |zero=>grind
  |succ m ih=>
   intro i hi him;cases i with
   |zero=>grind [Iq,Hu,AK,AJ,D5]
   |succ i=>
    have hi2:i<xs.length:=by omega
    have hx:xs[i]? =some xs[i]:=by grind
    have e:((i+1:Nat):Int) - 1=(i:Int):=by omega
    have hg:(i:Int)>=0:=by omega
    have hw:IntKind.i64.wrap ((i:Int) - 1)=(i:Int) - 1:=Af (by omega) (by omega)
    grind [List.take_add_one,Iq,Hu,jI,D5]
 grind [Mk,Lq,Af]
theorem Ac{x:Int}(h1: -1000000<=x)(h2:x<=1000000):I64 x:=⟨by omega,by omega⟩
theorem DE{α:Type}{K:Nat}{p:α->Prop}:Aj K p []:=⟨Zg _,fun x hx=>by grind⟩
theorem S6{K:Nat}{a b c:Int}{t:Str}(h1:I64 a)(h2:I64 b)(h3:I64 c)(h4:t.length<=K):(Val.mk a b c t [] [] []).Fit K:=Val.fit_iff.2 ⟨h1,h2,h3,h4,DE,DE,DE⟩
theorem LJ{K:Nat}{xs:List Bnd}{s:Str}{v:Val}(h:Aj K (Bnd.Fit K) xs)(hv:v.Fit K)(hK:K<=137438953472):Big fun N=>K6 N xs s v=some (xs++ [⟨s,v⟩])/\La N xs s v=some (xs++ [⟨s,v⟩]):=by
 have hl:xs.length<=K:=h.1;refine((Big.list fun x hx=>DL (h.2 x hx).2 hK).and ((Big.list fun x hx=>FG (h.2 x hx).2 hK).and ((DL hv hK).and ((FG hv hK).and (Ap K))))).imp fun N ⟨hc,hd,hcv,hdv,hN⟩=>⟨?_,?_⟩
 ·exact A3 (L:=fun m i q=>Ig N m xs s q i v) xs (fun l q=>q++l++ [⟨s,v⟩]) (fun i q=>q.length=i)
   (fun m q hq=>by
     grind [Ig,Val.re_eq,Lim])
   (fun i x l q hd' hi hxi hq=>by
     have hq:q.length=i:=hq;have hi' :(i:Int)<(xs.length:Int):=by omega
     refine .inl ⟨q++ [x],by grind,by simp,fun m=> ?_⟩;simp only [Ig,Zz hi',jT,jI,AR hxi,hc x (Zy hxi),jS,Val.re_eq,AL hi (by omega:xs.length<=_)];rw [Zt (by omega),Zt (by grind [Lim])]) N 0 [] rfl (by omega) (by omega)
 ·exact A3 (L:=fun m i q=>Hm N m s q xs xs.length i v) xs (fun l q=>q++l++ [⟨s,v⟩]) (fun i q=>q.length=i)
   (fun m q hq=>by
     grind [Hm,Val.re_eq,Lim])
   (fun i x l q hd' hi hxi hq=>by
     have hq:q.length=i:=hq;have hi' :(i:Int)<(xs.length:Int):=by omega
     refine .inl ⟨q++ [x],by grind,by simp,fun m=> ?_⟩;simp only [Hm,Zz hi',jT,jI,AR hxi,hd x (Zy hxi),jS,Val.re_eq,AL hi (by omega:xs.length<=_)];rw [Zt (by omega),Zt (by grind [Lim])]) N 0 [] rfl (by omega) (by omega)
theorem Val.fit_mono{K M:Nat}(h:K<=M){v:Val}(hv:v.Fit K):v.Fit M:=fun d hd=>(hv d hd).mono h
def Ak{α:Type}(p:Nat->α->Bool):List α->Nat->Bool
 | [],_=>true
 |x::r,i=>p i x&&Ak p r (i+1)
theorem Ft{α:Type}{p:Nat->α->Bool}:∀ {l:List α} {i:Nat},Ak p l i=true->∀(j:Nat) (x:α),l[j]? =some x->p (i+j) x=true
 | [],i,_,j,x,hj=>by grind
 |y::r,i,h,j,x,hj=>by
  simp only [Ak,Zu] at h;cases j with
  |zero=>grind
  |succ j=>
   have:=Ft h.2 j x (by grind)
   grind
theorem BO{α:Type}{L:Nat->Int->Option Bool}{x0:List α}{p:Nat->α->Bool}{e:Option Bool}(hend:∀n,L (n+1) (x0.length:Nat)=e)
 (hcons:∀(i:Nat) x n,i<x0.length->x0[i]? =some x->x∈x0->L (n+1) (i:Nat)=bif p i x then L n ((i+1:Nat):Int) else some false) {n:Nat} (hn:x0.length<n):
 L n 0=bif Ak p x0 0 then e else some false:=by
 have key:∀(m i:Nat),i<=x0.length->x0.length<m+i->L m (i:Nat)=bif Ak p (x0.drop i) i then e else some false:=by
  intro m
  induction m with
  |zero=>grind
  |succ m ih=>
   intro i h1 h2;cases hd:x0.drop i with
   |nil=>
    have:=Hg hd;obtain rfl:i=x0.length:=by omega
    rw [hend];rfl
   |cons x l=>
    grind [Bk,Ak]
 exact key n 0 (by omega) (by omega)
def xBd(c:UInt8):Bool:= !(decide ((c.toNat:Int)<32))&&(!(decide ((c.toNat:Int)>126))&& !((c.toNat:Int)==34))
def El(s:Str):Bool:=Ak (fun _=>xBd) s 0&&decide ((s.length:Int)<=20)
theorem Hd{a b:Bool}:(bif a then some b else some false)=some (a&&b):=by grind
theorem PL{N:Nat}{s:Str}(hl:s.length<=9223372036854775807)(hn:s.length<N):Mh N s=some (El s):=by
 rw [El,<-Hd]
 exact BO (L:=fun n i=>F6 N n s i) (fun n=>by simp [F6]) (fun i x n hi hx hm=>by
  grind [F6,AL,xBd]) hn
theorem xE1(N n:Nat)(s:Str)(i:Int):Jo N n s i=F6 N n s i:=by
 induction n generalizing i with
 |zero=>rfl
 |succ n ih=>grind [Jo,F6]
theorem Sy{N:Nat}{s:Str}(hl:s.length<=9223372036854775807)(hn:s.length<N):Lk N s=some (El s):=(xE1 N N s 0).trans (PL hl hn)
def AM:List Str->Str->Nat->Int
 | [],_,_=> -1
 |x::r,s,i=>bif x==s then(i:Int) else AM r s (i+1)
theorem Lh{N:Nat}{xs:List Str}{s:Str}(hl:xs.length<=9223372036854775807)(hn:xs.length<N):Jn N xs s=some (AM xs s 0):=
 A3 (L:=fun n i _=>Hs N n s xs xs.length i) xs (fun l q=>AM l s q) (fun i q=>q=i) (fun n q _=>by simp [Hs,AM])
  (fun i x l q hd hi hx hq=>by
    have hi' :(i:Int)<(xs.length:Int):=by omega
    have hq:q=i:=hq;subst hq;cases h1:x==s
    all_goals grind [AM,Hs,AL]) N 0 0 rfl (by omega) (by omega)
theorem Sk{s:Str}:∀ {xs:List Str} {j i:Nat},xs[i]? =some s->(AM xs s j==((j+i:Nat):Int))= !(xs.take i).any (· ==s)
 | [],j,i,h=>by grind
 |x::r,j,0,h=>by
  grind [AM]
 |x::r,j,i+1,h=>by
  have h' :r[i]? =some s:=by grind
  have ih:=Sk (j:=j+1) h'
  grind [AM]
def Ev(xs:List Str)(i:Nat)(x:Str):Bool:= !(xs.take i).any (· ==x)
def CG(xs:List Str):Bool:=Ak (Ev xs) xs 0
theorem M7{N:Nat}{xs:List Str}(hl:xs.length<=9223372036854775807)(hn:xs.length<N):KZ N xs=some (CG xs):=by
 have:=BO (L:=fun n i=>Gu N n xs i) (x0:=xs) (p:=Ev xs) (e:=some true) (fun n=>by simp [Gu]) (fun i x n hi hx hm=>by
  grind [Gu,AL,xAG,Ev]) hn
 show Gu N N xs 0=_;rw [this,Hd,YO];rfl
theorem OA{N:Nat}{xs:List Str}(hl:xs.length<=9223372036854775807)(hn:xs.length<N):Hl N xs=some (CG xs):=by
 have:=BO (L:=fun n i=>GC N n xs xs xs.length i) (x0:=xs) (p:=Ev xs) (e:=some true) (fun n=>by simp [GC]) (fun i x n hi hx hm=>by
  have hi' :(i:Int)<(xs.length:Int):=by omega
  have e:=Sk (j:=0) hx
  grind [GC,AL,Lh,Ev]) hn
 show GC N N xs xs xs.length 0=_;rw [this,Hd,YO];rfl
def Bj(c:List Str):Bool:=Ak (fun _=>Ce) c 0&&((decide ((1:Int)<=c.length)&&decide ((c.length:Int)<=4))&&CG c)
theorem xAL{N K:Nat}{c:List Str}(h:Aj K (Str.Fit K) c)(hK:24<=K/\K<=4611686018427387904)(hN:K<N):NI N c=some (Bj c):=by
 have hl:c.length<=K:=h.1;rw [Bj,<-Hd]
 exact BO (L:=fun n i=>JL N n c i) (fun n=>by
  grind [JL,Fd,M7]) (fun i x n hi hx hm=>by
  have hi' :(i:Int)<(c.length:Int):=by omega
  have hxl:x.length<=K:=h.2 x hm
  grind [JL,jI,AL,PK]) (by omega)
theorem TM{N K:Nat}{c:List Str}(h:Aj K (Str.Fit K) c)(hK:24<=K/\K<=4611686018427387904)(hN:K<N):Jx N c=some (Bj c):=by
 have hl:c.length<=K:=h.1;rw [Bj,<-Hd]
 exact BO (L:=fun n i=>IA N n c c c.length i) (fun n=>by
  grind [IA,EH,OA]) (fun i x n hi hx hm=>by
  have hi' :(i:Int)<(c.length:Int):=by omega
  have hxl:x.length<=K:=h.2 x hm
  grind [IA,jI,AL,OI]) (by omega)
def Fv(a b:Org):Bool:=decide (a.cell<b.cell)||((a.cell==b.cell)&&decide (a.row<b.row))
theorem P8(N:Nat)(a b:Org):HV N a b=some (Fv a b):=by
 grind [HV,Fv]
theorem xFX(N:Nat)(a b:Org):IF N a b=some (Fv a b):=P8 N a b
def Fu(xs:List Org)(i:Nat)(x:Org):Bool:= !(decide (x.cell<0))&&(!(decide (x.row<0))&&(decide (i=0)||Fv (xs.getD (i - 1) Do) x))
def Cg(xs:List Org):Bool:=Ak (Fu xs) xs 0
theorem QL{xs:List Org}{i:Nat}{x:Org}{hi:i<xs.length}(hl:xs.length<=9223372036854775807){F:Option Bool}:
 (bif decide (x.cell<0) then some false else bif decide (x.row<0) then some false else bif decide ((i:Int)>0) then
   (if(0:Int)<=i64.wrap ((i:Int) - 1)/\i64.wrap ((i:Int) - 1)<(xs.length:Int) then(bif !(Fv (xs.getD (Int.toNat (i64.wrap ((i:Int) - 1))) Do) x) then some false else F) else none) else F)=
 bif Fu xs i x then F else some false:=by
 unfold Fu;cases decide (x.cell<0)
 ·cases decide (x.row<0)
  ·by_cases h0:i=0
   all_goals grind [xLf,jI]
  ·rfl
 ·rfl
theorem xJ4{N:Nat}{xs:List Org}(hl:xs.length<=9223372036854775807)(hn:xs.length<N):P7 N xs=some (Cg xs):=by
 have:=BO (L:=fun n i=>Fg N n xs i) (x0:=xs) (p:=Fu xs) (e:=some true) (fun n=>by simp [Fg]) (fun i x n hi hx hm=>by
  have hi' :(i:Int)<(xs.length:Int):=by omega
  rw [<-QL (hi:=hi) hl];simp only [Fg,Zz hi',jT,jI,AR hx,AL hi hl,P8,jS]
  grind) hn
 show Fg N N xs 0=_;rw [this,Hd,YO];rfl
def D8(n:Nat)(_:Nat)(r:Rowd):Bool:=(r.cells.length==n)&&(Ak (fun _=>AY) r.cells 0&&Cg r.frm)
def Aw(c:List Str)(rs:List Rowd):Bool:=Bj c&&(decide (rs.length<=12)&&Ak (D8 c.length) rs 0)
theorem Tf(a b:Nat):(((a:Nat):Int) != ((b:Nat):Int))= !(a==b):=by
 grind
theorem xKh{N:Nat}{k4:Int->Val->Option Bool}{x3:Int}{v:Val}{r:Rowd}(hl:r.cells.length<=9223372036854775807)(hn:r.cells.length<N):
 H1 N k4 N x3 0 v r=bif Ak (fun _=>AY) r.cells 0 then k4 (i64.wrap (x3+1)) v else some false:=
 BO (L:=fun n i=>H1 N k4 n x3 i v r) (fun n=>by simp [H1]) (fun i x n hi hx hm=>by
  grind [H1,jI,AL,DO]) hn
theorem xKi{N K:Nat}{v:Val}(h:v.Fit K)(hK:24<=K/\K<=4611686018427387904)(hN:K<N):NO N v=some (Aw v.columns v.rows):=by
 obtain⟨_,_,_,_,_,h6,h7⟩:=Val.fit_iff.1 h;have hl:v.rows.length<=K:=h7.1;unfold NO;rw [xAL h6 hK hN,jS,Aw];cases hc:Bj v.columns
 ·rfl
 ·by_cases hr:v.rows.length<=12
  ·rw [Zw (by omega),Zz hr];simp only [jU,jF,ZV]
   have:=BO (L:=fun n i=>JS N n i v) (x0:=v.rows) (p:=D8 v.columns.length) (e:=some true) (n:=N) (fun n=>by simp [JS]) (fun i x n hi hx hm=>by
    have hi' :(i:Int)<(v.rows.length:Int):=by omega
    obtain⟨⟨g1,_⟩,⟨g2,_⟩⟩:=h7.2 x hm;simp only [JS,Zz hi',jT,jI,AR hx,Tf,xJ4 (N:=N) (xs:=x.frm) (by omega) (by omega),jS,xKh (N:=N) (r:=x) (by omega) (by omega),AL hi (by omega:v.rows.length<=_),D8]
    grind) (by omega)
   grind
  grind
theorem xFE{N:Nat}{k4:List Rowd->Int->Int->Val->Option Bool}{x20:List Rowd}{x21 x22:Int}{v:Val}{r:Rowd}(hl:r.frm.length<=9223372036854775807)(hn:r.frm.length<N):
 FH N k4 N x20 x21 x22 r.frm r.frm.length 0 v r=bif Cg r.frm then k4 x20 x21 (i64.wrap (x22+1)) v else some false:=
 BO (L:=fun n i=>FH N k4 n x20 x21 x22 r.frm r.frm.length i v r) (fun n=>by simp [FH]) (fun i x n hi hx hm=>by
  have hi' :(i:Int)<(r.frm.length:Int):=by omega
  rw [<-QL (hi:=hi) hl];simp only [FH,Zz hi',jT,jI,AR hx,AL hi hl,xFX,jS]
  grind) hn
theorem xFF{N:Nat}{k4:List Rowd->Int->Int->Val->Option Bool}{x20:List Rowd}{x21 x22:Int}{v:Val}{r:Rowd}(hl:r.cells.length<=9223372036854775807)(hn:r.cells.length<N)(hl2:r.frm.length<=9223372036854775807)(hn2:r.frm.length<N):
 GW N k4 N x20 x21 x22 r.cells r.cells.length 0 v r=bif Ak (fun _=>AY) r.cells 0 then(bif Cg r.frm then k4 x20 x21 (i64.wrap (x22+1)) v else some false) else some false:=
 BO (L:=fun n i=>GW N k4 n x20 x21 x22 r.cells r.cells.length i v r) (fun n=>by grind [GW,xFE]) (fun i x n hi hx hm=>by
  grind [GW,jI,AL,D2]) hn
theorem xFG{N K:Nat}{v:Val}(h:v.Fit K)(hK:24<=K/\K<=4611686018427387904)(hN:K<N):KA N v=some (Aw v.columns v.rows):=by
 obtain⟨_,_,_,_,_,h6,h7⟩:=Val.fit_iff.1 h;have hl:v.rows.length<=K:=h7.1;unfold KA;rw [TM h6 hK hN,jS,Aw];cases hc:Bj v.columns
 ·rfl
 ·by_cases hr:v.rows.length<=12
  ·rw [Zw (by omega),Zz hr];simp only [jU,jF,ZV]
   have:=BO (L:=fun n i=>IC N n v.rows v.rows.length i v) (x0:=v.rows) (p:=D8 v.columns.length) (e:=some true) (n:=N) (fun n=>by simp [IC]) (fun i x n hi hx hm=>by
    have hi' :(i:Int)<(v.rows.length:Int):=by omega
    obtain⟨⟨g1,_⟩,⟨g2,_⟩⟩:=h7.2 x hm;simp only [IC,Zz hi',jT,jI,AR hx,Tf,xFF (N:=N) (r:=x) (by omega) (by omega) (by omega) (by omega),AL hi (by omega:v.rows.length<=_),D8]
    grind) (by omega)
   grind
  grind
mutual
def Val.dep:Val->Int
 | .mk _ _ _ _ l _ _=>Val.deps l 0+1
def Val.deps:List Val->Int->Int
 | [],m=>m
 |x::r,m=>Val.deps r (if x.dep>m then x.dep else m)
end
def Au:List Val->Int->Int
 | [],m=>m
 |x::r,m=>Au r (if x.dep>m then x.dep else m)
theorem Nl:∀(l:List Val) (m:Int),Val.deps l m=Au l m
 | [],m=>rfl
 |x::r,m=>by rw [Val.deps,Nl r];rfl
theorem DR(v:Val):v.dep=Au v.list 0+1:=by cases v;grind [Val.dep,Nl,vl]
theorem Hf:∀ {l:List Val} {m:Int},m<=Au l m/\∀x∈l,x.dep<=Au l m
 | [],m=>⟨Int.le_refl m,fun x hx=>by grind⟩
 |x::r,m=>by
  obtain⟨h1,h2⟩:=Hf (l:=r) (m:=if x.dep>m then x.dep else m)
  grind [Au]
theorem LO{B:Int}:∀ {l:List Val} {m:Int},m<=B->(∀x∈l,x.dep<=B)->Au l m<=B
 | [],m,h,_=>h
 |x::r,m,h,hx=>by
  show Au r (if x.dep>m then x.dep else m)<=B;refine LO ?_ fun y hy=>hx y (Zr _ hy)
  grind
theorem xEO{N d:Nat}{v:Val}(hn:v.list.length<N)(hl:v.list.length<=9223372036854775807)(hB:v.dep<=1000000000)(hx:∀x∈v.list,GF N d x=some x.dep):GF N (d+1) v=some v.dep:=by
 have hd:=DR v;have h0:=(Hf (l:=v.list) (m:=0)).1;rw [hd]
 exact A3 (L:=fun m i q=>Hq N (GF N d) m q v.list v.list.length i) v.list (fun l q=>Au l q+1) (fun i q=>Au (v.list.drop i) q=Au v.list 0)
  (fun m q hq=>by
    grind [Au,Hq,Af])
  (fun i x l q hd' hi hxi hq=>by
    grind [Au,Bk,Hq,jI,AL]) N 0 0 rfl (by omega) (by omega)
theorem xAb{N d:Nat}{v:Val}(hn:v.list.length<N)(hl:v.list.length<=9223372036854775807)(hB:v.dep<=1000000000)(hx:∀x∈v.list,Gy N d x=some x.dep):Gy N (d+1) v=some v.dep:=by
 have hd:=DR v;have h0:=(Hf (l:=v.list) (m:=0)).1;rw [hd]
 exact A3 (L:=fun m i q=>Ij N (Gy N d) m q i v) v.list (fun l q=>Au l q+1) (fun i q=>Au (v.list.drop i) q=Au v.list 0)
  (fun m q hq=>by
    grind [Au,Ij,Af])
  (fun i x l q hd' hi hxi hq=>by
    have hi' :(i:Int)<(v.list.length:Int):=by omega
    have hq:Au (v.list.drop i) q=Au v.list 0:=hq;have hm:HT N q x.dep=some (if x.dep>q then x.dep else q):=by
     grind [HT]
    grind [Au,Bk,Ij,jI,AL]) N 0 0 rfl (by omega) (by omega)
theorem xDI{K:Nat}(hK:K<=4611686018427387904):∀v:Val,v.Fit K->v.dep<=1000000000->Big2 fun N d=>GF N d v=some v.dep/\Gy N d v=some v.dep:=by
 refine Val.ind fun k n s t a c r ih h hB=> ?_;have h5:=(Val.fit_iff.1 h).2.2.2.2.1;have hl:a.length<=K:=h5.1;refine Big2.succ ?_;have hx:∀x∈a,x.dep<=1000000000:=fun x hx=>by
  have:=(Hf (l:=a) (m:=0)).2 x hx
  grind [DR,vl]
 refine((Big2.list fun x hxm=>ih x hxm (h5.2 x hxm) (hx x hxm)).and (Ap K).two).imp fun N d ⟨hx,hN⟩=>⟨?_,?_⟩
 ·exact xEO (v:= .mk k n s t a c r) (by show a.length<N;omega) (by show a.length<=_;omega) hB fun x hxm=>(hx x hxm).1
 ·exact xAb (v:= .mk k n s t a c r) (by show a.length<N;omega) (by show a.length<=_;omega) hB fun x hxm=>(hx x hxm).2
def BQ(v:Val):Bool:=(v.kind==1)||((v.kind==2)||(v.kind==3))
def emp{α:Type}(l:List α):Bool:=decide (l.length=0)
mutual
def AP:Val->Bool
 | .mk k n s t l c r=>
   bif k==1 then emp l&&(emp c&&(emp r&&((s==0)&&((t== [])&&AY n))))
   else bif k==2 then emp l&&(emp c&&(emp r&&((n==0)&&((s==0)&&El t))))
   else bif k==4 then emp l&&(emp c&&(emp r&&((t== [])&&(AY n&&AY s))))
   else bif k==6 then emp l&&(emp c&&(emp r&&((s==0)&&((t== [])&&(decide (1<=n)&&decide (n<=8))))))
   else bif k==5 then emp l&&((n==0)&&((s==0)&&((t== [])&&Aw c r)))
   else bif k==3 then Fm l&&((n==0)&&((s==0)&&((t== [])&&(emp c&&(emp r&&(decide (l.length<=8)&&decide (Val.deps l 0+1<=3)))))))
   else false
def Fm:List Val->Bool
 | []=>true
 |x::r=>(BQ x&&AP x)&&Fm r
end
theorem Fn:∀l:List Val,Fm l=l.all fun x=>BQ x&&AP x
 | []=>rfl
 |x::r=>by simp only [Fm,List.all_cons,Fn r]
theorem N7{α:Type}{f:α->Bool}:∀(l:List α) (i:Nat),Ak (fun _=>f) l i=l.all f
 | [],_=>rfl
 |x::r,i=>by simp only [Ak,List.all_cons,N7 r (i+1)]
theorem Pp:∀v:Val,AP v=true->v.dep<=3:=by
 intro v;cases v with
 |mk k n s t l c r=>
  grind [DR,vl,emp,Au,AP,Nl]
theorem xGO{α:Type}(l:List α):(((l.length:Nat):Int)==0)=emp l:=by
 grind [emp]
theorem xGM{α:Type}(l:List α):decide (((l.length:Nat):Int)>0)= !emp l:=by
 grind [emp]
theorem xGN{α β:Type}{l:List α}{r:List β}(h1:l.length<=4611686018427387903)(h2:r.length<=4611686018427387903):decide (IntKind.i64.wrap (((l.length:Nat):Int)+((r.length:Nat):Int))>0)= !(emp l&&emp r):=by
 grind [emp,Af]
theorem xF9{N d:Nat}{v:Val}(hl:v.list.length<=9223372036854775807)(hn:v.list.length<N)(hd:(∀x∈v.list,AP x=true)->Hp N v=some v.dep)(hx:∀x∈v.list,DA N d x=some (AP x)):
 Cz N (DA N d) N v.list v.list.length 0 v=some (Fm v.list&&((v.n==0)&&((v.step==0)&&((v.text== [])&&(emp v.columns&&(emp v.rows&&(decide (v.list.length<=8)&&decide (v.dep<=3)))))))):=by
 have h:=BO (L:=fun n i=>Cz N (DA N d) n v.list v.list.length i v) (x0:=v.list) (p:=fun _ x=>BQ x&&AP x) (fun n=>by simp only [Cz,Zd,Z9,jF];rfl) (fun i x n hi hxi hm=>by
  grind [Cz,jI,AL,BQ]) hn
 grind [N7,Fn,xGO]
theorem xA3{N d:Nat}{v:Val}(hl:v.list.length<=9223372036854775807)(hn:v.list.length<N)(hd:(∀x∈v.list,AP x=true)->Ii N v=some v.dep)(hx:∀x∈v.list,(Bb N d).c0 x=some (AP x)):
 (Bb N (d+1)).c1 v=some (Fm v.list&&(decide (v.list.length<=8)&&decide (v.dep<=3))):=by
 show HZ N (Bb N d).c0 (Bb N d).c1 N 0 v=_
 have h:=BO (L:=fun n i=>HZ N (Bb N d).c0 (Bb N d).c1 n i v) (x0:=v.list) (p:=fun _ x=>BQ x&&AP x) (fun n=>by simp only [HZ,Zd,Z9,jF];rfl) (fun i x n hi hxi hm=>by
  grind [HZ,Ko,jI,AL,BQ]) hn
 grind [N7,Fn]
theorem BN(v:Val):AP v=
 bif v.kind==1 then emp v.list&&(emp v.columns&&(emp v.rows&&((v.step==0)&&((v.text== [])&&AY v.n))))
 else bif v.kind==2 then emp v.list&&(emp v.columns&&(emp v.rows&&((v.n==0)&&((v.step==0)&&El v.text))))
 else bif v.kind==4 then emp v.list&&(emp v.columns&&(emp v.rows&&((v.text== [])&&(AY v.n&&AY v.step))))
 else bif v.kind==6 then emp v.list&&(emp v.columns&&(emp v.rows&&((v.step==0)&&((v.text== [])&&(decide (1<=v.n)&&decide (v.n<=8))))))
 else bif v.kind==5 then emp v.list&&((v.n==0)&&((v.step==0)&&((v.text== [])&&Aw v.columns v.rows)))
 else bif v.kind==3 then Fm v.list&&((v.n==0)&&((v.step==0)&&((v.text== [])&&(emp v.columns&&(emp v.rows&&(decide (v.list.length<=8)&&decide (v.dep<=3)))))))
 else false:=by
 cases v;simp only [AP,vk,vn,vs,vt,vl,vc,vr,Val.dep]
 rfl
theorem xK3{v:Val}(h:∀x∈v.list,AP x=true):v.dep<=1000000000:=by
 rw [DR];have:=LO (B:=3) (l:=v.list) (m:=0) (by omega) fun x hx=>Pp x (h x hx);omega
theorem T8(k:Int):(k==1)=true/\(k==2)=false/\(k==3)=false/\(k==4)=false/\(k==5)=false/\(k==6)=false\/
 (k==1)=false/\(k==2)=true/\(k==3)=false/\(k==4)=false/\(k==5)=false/\(k==6)=false\/
 (k==1)=false/\(k==2)=false/\(k==3)=true/\(k==4)=false/\(k==5)=false/\(k==6)=false\/
 (k==1)=false/\(k==2)=false/\(k==3)=false/\(k==4)=true/\(k==5)=false/\(k==6)=false\/
 (k==1)=false/\(k==2)=false/\(k==3)=false/\(k==4)=false/\(k==5)=true/\(k==6)=false\/
 (k==1)=false/\(k==2)=false/\(k==3)=false/\(k==4)=false/\(k==5)=false/\(k==6)=true\/
 (k==1)=false/\(k==2)=false/\(k==3)=false/\(k==4)=false/\(k==5)=false/\(k==6)=false:=by
 simp only [beq_iff_eq,ZR,ne_eq];omega
theorem xFo{N d K:Nat}{v:Val}(h:v.Fit K)(hK:24<=K/\K<=4611686018427387903)(hN:K<N)(hd:(∀x∈v.list,AP x=true)->Hp N v=some v.dep)(hx:∀x∈v.list,DA N d x=some (AP x)):
 DA N (d+1) v=some (AP v):=by
 obtain⟨h1,h2,h3,h4,h5,h6,h7⟩:=Val.fit_iff.1 h;have hl:v.list.length<=K:=h5.1;have ht:v.text.length<=K:=h4;have hb:=xF9 (d:=d) (by omega:v.list.length<=9223372036854775807) (by omega) hd hx;show Ll N (DA N d) v=_
 grind [BN,Ll,D2,EH,Sy,xFG,emp]
theorem xAn{N d K:Nat}{v:Val}(h:v.Fit K)(hK:24<=K/\K<=4611686018427387903)(hN:K<N)(hb:(Bb N d).c1 v=some (Fm v.list&&(decide (v.list.length<=8)&&decide (v.dep<=3)))):
 (Bb N (d+1)).c0 v=some (AP v):=by
 obtain⟨h1,h2,h3,h4,h5,h6,h7⟩:=Val.fit_iff.1 h;have hc:v.columns.length<=K:=h6.1;have hr:v.rows.length<=K:=h7.1;have ht:v.text.length<=K:=h4;show Mi N (Bb N d).c0 (Bb N d).c1 v=_;rw [BN];simp only [Mi,xGM,xGN (l:=v.columns) (r:=v.rows) (by omega) (by omega),DO,Fd,PL (N:=N) (s:=v.text) (by omega) (by omega),xKi h (by omega) hN,hb,jS,bne]
 rcases T8 v.kind with ⟨a1,a2,a3,a4,a5,a6⟩|⟨a1,a2,a3,a4,a5,a6⟩|⟨a1,a2,a3,a4,a5,a6⟩|⟨a1,a2,a3,a4,a5,a6⟩|⟨a1,a2,a3,a4,a5,a6⟩|⟨a1,a2,a3,a4,a5,a6⟩|⟨a1,a2,a3,a4,a5,a6⟩ <;>
  simp only [a1,a2,a3,a4,a5,a6,jT,jF,jU,jV]
 all_goals grind [emp]
theorem Ql{K:Nat}(hK:K<=4611686018427387904){v:Val}(h:v.Fit K):Big fun N=>(∀x∈v.list,AP x=true)->Hp N v=some v.dep/\Ii N v=some v.dep:=by
 by_cases hv:∀x∈v.list,AP x=true
 ·exact(xDI hK v h (xK3 hv)).diag.imp fun N h _=>h
 ·exact .of fun N h=>absurd h hv
theorem Big2.up{p:Nat->Nat->Prop}(h:Big2 p):Big2 fun N d=>p N (d+1):=h.elim fun k hk=>⟨k,fun N d h1 h2=>hk N (d+1) h1 (by omega)⟩
theorem xK0{K:Nat}(hK:24<=K/\K<=4611686018427387903):∀v:Val,v.Fit K->Big2 fun N d=>DA N d v=some (AP v)/\(Bb N d).c0 v=some (AP v):=by
 refine Val.ind fun k n s t a c r ih h=> ?_;have h5:=(Val.fit_iff.1 h).2.2.2.2.1;have hl:a.length<=K:=h5.1;have hb:Big2 fun N d=>∀x∈a,DA N d x=some (AP x)/\(Bb N d).c0 x=some (AP x):=Big2.list fun x hx=>ih x hx (h5.2 x hx);refine Big2.succ (Big2.succ ?_);refine(hb.and (hb.up.and ((Ql (by omega) h).and (Ap K)).two)).imp fun N d ⟨hx,hy,hd,hN⟩=>⟨?_,?_⟩
 ·exact xFo h hK hN (fun hv=>(hd hv).1) fun x hxm=>(hy x hxm).1
 ·exact xAn h hK hN (xA3 (v:= .mk k n s t a c r) (by show a.length<=_;omega) (by show a.length<_;omega) (fun hv=>(hd hv).2) fun x hxm=>(hx x hxm).2)
theorem xK1{K:Nat}(hK:24<=K/\K<=4611686018427387903){v:Val}(h:v.Fit K):Big fun N=>OJ N v=some (AP v)/\In N v=some (AP v):=(xK0 hK v h).diag
def AO(c:Int):Val:= .mk 6 c 0 [] [] [] []
def AX(c:Int):Val:= .mk 1 c 0 [] [] [] []
def Cp:Val:= .mk 0 0 0 [] [] [] []
def opG:List Val->Val×Bool×Bool
 | []=>(Cp,false,false)
 |v::r=>bif !AP v then(AO 4,true,false) else bif v.kind==6 then(v,true,true) else opG r
theorem B8{α:Type}{l:List α}(h:emp l=true):l=[]:=Z3.1 (of_decide_eq_true h)
theorem Qt{v:Val}(h:AP v=true)(hk:(v.kind==6)=true):v=AO v.n:=by
 rw [BN] at h;have hk' :=eq_of_beq hk;rw [hk'] at h;simp only [show((6:Int)==1)=false from rfl,show((6:Int)==2)=false from rfl,show((6:Int)==4)=false from rfl,show((6:Int)==6)=true from rfl,jT,jF,Zu] at h;obtain⟨h1,h2,h3,h4,h5,_⟩:=h;have e:=Val.eta v;rw [B8 h1,B8 h2,B8 h3,eq_of_beq h4,eq_of_beq h5,hk'] at e;exact e.symm
theorem FM:∀ {l:List Val},(opG l).1.list=[]/\(opG l).1.columns=[]/\(opG l).1.rows=[]/\(opG l).1.text=[]/\(opG l).1.step=0
 | []=>⟨rfl,rfl,rfl,rfl,rfl⟩
 |v::r=>by
  simp only [opG];cases hv:AP v
  ·exact⟨rfl,rfl,rfl,rfl,rfl⟩
  ·cases hk:(v.kind==6)
   ·exact FM (l:=r)
   ·simp only [jU,jF,jT];rw [Qt hv hk];exact⟨rfl,rfl,rfl,rfl,rfl⟩
theorem UG{K:Nat}:∀ {l:List Val},(∀x∈l,x.Fit K)->I64 (opG l).1.kind/\I64 (opG l).1.n
 | [],_=>⟨Ac (by show(-1000000:Int)<=0;omega) (by show(0:Int)<=1000000;omega),Ac (by show(-1000000:Int)<=0;omega) (by show(0:Int)<=1000000;omega)⟩
 |v::r,h=>by
  simp only [opG];cases hv:AP v
  ·exact⟨Ac (by show(-1000000:Int)<=6;omega) (by show(6:Int)<=1000000;omega),Ac (by show(-1000000:Int)<=4;omega) (by show(4:Int)<=1000000;omega)⟩
  ·cases hk:(v.kind==6)
   ·exact UG fun x hx=>h x (Zr _ hx)
   grind [Val.fit_iff,List.mem_cons_self]
theorem CU{v:Val}(h1:v.list=[])(h2:v.columns=[])(h3:v.rows=[]):Val.mk v.kind v.n v.step v.text [] [] []=v:=by
 grind [Val.eta]
theorem IM{K:Nat}(hK:24<=K/\K<=4611686018427387903){l:List Val}(h:∀x∈l,x.Fit K)(hl:l.length<=K):Big fun N=>EG N l=some (opG l)/\Ed N l=some ((opG l).1,(opG l).2.1):=by
 refine((Big.list fun x hx=>xK1 hK (h x hx)).and (Ap K)).imp fun N ⟨hv,hN⟩=>⟨?_,?_⟩
 ·exact A3 (σ:=Unit) (L:=fun m i _=>FK N m l l.length i (Val.mk 0 0 0 [] [] [] [])) l (fun r _=>opG r) (fun _ _=>True) (fun m _ _=>by simp only [FK,Zd,Z9,jF];rfl)
   (fun i x r _ hd hi hx _=>by
     have hi' :(i:Int)<(l.length:Int):=by omega
     have hm:=Zy hx;cases h1:AP x
     ·refine .inr fun m=> ?_;simp only [FK,Zz hi',jT,jI,AR hx,(hv x hm).1,h1,jS,jV,AJ,opG];rw [Zt (by omega)];rfl
     ·cases h2:(x.kind==6)
      ·refine .inl ⟨(),trivial,by grind [opG],fun m=> ?_⟩
       grind [FK,AL]
      grind [FK,opG]) N 0 () trivial (by omega) (by omega)
 ·exact A3 (σ:=Unit) (L:=fun m i _=>Fh N m l i (Val.mk 0 0 0 [] [] [] [])) l (fun r _=>((opG r).1,(opG r).2.1)) (fun _ _=>True) (fun m _ _=>by simp only [Fh,Zd,Z9,jF];rfl)
   (fun i x r _ hd hi hx _=>by
     have hi' :(i:Int)<(l.length:Int):=by omega
     have hm:=Zy hx;cases h1:AP x
     ·refine .inr fun m=> ?_;simp only [Fh,Zz hi',jT,jI,AR hx,(hv x hm).2,h1,jS,jV,AK,opG];rw [Zt (by omega)];rfl
     ·cases h2:(x.kind==6)
      ·refine .inl ⟨(),trivial,by grind [opG],fun m=> ?_⟩
       grind [Fh,AL]
      ·refine .inr fun m=> ?_;simp only [Fh,Zz hi',jT,jI,AR hx,(hv x hm).2,h1,h2,jS,jU,jF,opG,AK];rw [Zt (by omega),Qt h1 h2];rfl) N 0 () trivial (by omega) (by omega)
def Flat(v:Val):Prop:=v.list=[]/\v.columns=[]/\v.rows=[]/\v.text=[]/\I64 v.kind/\I64 v.n/\I64 v.step
theorem Flat.fit{v:Val}(h:Flat v)(K:Nat):v.Fit K:=by
 obtain⟨h1,h2,h3,h4,h5,h6,h7⟩:=h;refine Val.fit_iff.2 ⟨h5,h6,h7,?_,?_,?_,?_⟩
 ·rw [h4];exact Zg _
 all_goals grind [DE]
theorem Jf{K:Nat}{l:List Val}(h:∀x∈l,x.Fit K):Flat (opG l).1:=by
 obtain⟨h1,h2,h3,h4,h5⟩:=FM (l:=l);obtain⟨i1,i2⟩:=UG h;exact⟨h1,h2,h3,h4,i1,i2,by grind [Ac]⟩
theorem L2{k n s:Int}(h1:I64 k)(h2:I64 n)(h3:I64 s):Flat (.mk k n s [] [] [] []):=⟨rfl,rfl,rfl,rfl,h1,h2,h3⟩
theorem Hj{c:Int}(h:I64 c):Flat (AO c):=L2 (Ac (by omega) (by omega)) h (Ac (by omega) (by omega))
theorem L3{c:Int}(h:I64 c):Flat (AX c):=L2 (Ac (by omega) (by omega)) h (Ac (by omega) (by omega))
def CE:List Val->Int->Val
 | [],s=>AX s
 |x::r,s=>bif x.kind != 1 then AO 4 else bif !AY (i64.wrap (s+x.n)) then AO 5 else CE r (i64.wrap (s+x.n))
def H7(v:Val):Val×Bool:=bif(opG [v]).2.1 then((opG [v]).1,(opG [v]).2.2) else bif v.kind != 3 then(AO 4,false) else(CE v.list 0,false)
theorem IL:∀ {l:List Val},(opG l).2.1=false->(opG l).2.2=false
 | [],_=>rfl
 |v::r,h=>by
  simp only [opG] at h ⊢;cases hv:AP v
  ·rfl
  ·cases hk:(v.kind==6)
   ·rw [hv,hk] at h;exact IL (l:=r) h
   grind
theorem xKG{K:Nat}(hK:24<=K/\K<=4611686018427387903){v:Val}(h:v.Fit K):Big fun N=>Lw N v=some (H7 v)/\Mo N v=some (H7 v).1:=by
 have hl:v.list.length<=K:=(Val.fit_iff.1 h).2.2.2.2.1.1;refine((IM hK (l:=[v]) (fun x hx=>by grind) (by grind)).and (Ap K)).imp fun N ⟨⟨ho1,ho2⟩,hN⟩=> ?_;obtain⟨e1,e2,e3,e4,e5⟩:=FM (l:=[v])
 have i1:DZ N N 0 v.list v.list.length 0 (Val.mk 0 0 0 [] [] [] [])=some (CE v.list 0,false):=
  A3 (L:=fun m i q=>DZ N m q v.list v.list.length i (Val.mk 0 0 0 [] [] [] [])) v.list (fun r q=>(CE r q,false)) (fun _ _=>True) (fun m q _=>by simp only [DZ,Zd,Z9,jF];rfl)
   (fun i x r q hd hi hx _=>by
     have hi' :(i:Int)<(v.list.length:Int):=by omega
     cases h1:(x.kind != 1)
     ·cases h2:AY (i64.wrap (q+x.n))
      ·refine .inr fun m=> ?_;simp only [DZ,Zz hi',jT,jF,jI,AR hx,h1,h2,D2,jS,jV,AJ,CE];rw [Zt (by omega)];rfl
      grind [CE,DZ,D2,AL]
     ·refine .inr fun m=> ?_;simp only [DZ,Zz hi',jT,jI,AR hx,h1,jS,AJ,CE];rw [Zt (by omega)];rfl) N 0 0 trivial (by omega) (by omega)
 have i2:EX N N 0 v (Val.mk 0 0 0 [] [] [] []) (AX 0)=some (CE v.list 0):=
  A3 (L:=fun m i q=>EX N m i v (Val.mk 0 0 0 [] [] [] []) (AX q)) v.list (fun r q=>CE r q) (fun _ _=>True) (fun m q _=>by simp only [EX,Zd,Z9,jF];rfl)
   (fun i x r q hd hi hx _=>by
     have hi' :(i:Int)<(v.list.length:Int):=by omega
     have hn:(AX q).n=q:=rfl;cases h1:(x.kind != 1)
     ·cases h2:AY (i64.wrap (q+x.n))
      ·refine .inr fun m=> ?_;simp only [EX,hn,Zz hi',jT,jF,jI,AR hx,h1,h2,Dd,DO,jS,jV,AK,CE];rw [Zt (by omega)];rfl
      ·refine .inl ⟨i64.wrap (q+x.n),trivial,by grind [CE],fun m=> ?_⟩;simp only [EX,hn,Zz hi',jT,jF,jI,AR hx,h1,h2,Dd,DO,A6,jS,jU,AL hi (by omega:v.list.length<=_)];rw [Zt (by omega)];rfl
     ·refine .inr fun m=> ?_;simp only [EX,Zz hi',jT,jI,AR hx,h1,jS,AK,CE];rw [Zt (by omega)];rfl) N 0 0 trivial (by omega) (by omega)
 have hz:Val.mk 1 0 0 [] [] [] []=AX 0:=rfl;refine⟨?_,?_⟩
 ·simp only [Lw,Val.re_eq,ho1,jS,e1,e2,e3,jE,Ys,CU e1 e2 e3,i1,AJ,H7];cases h1:(opG [v]).2.1
  ·rw [IL h1];cases (v.kind != 3) <;>rfl
  grind
 ·simp only [Mo,Val.re_eq,ho2,jS,AK,A6,hz,i2,H7];cases h1:(opG [v]).2.1
  ·cases (v.kind != 3) <;>rfl
  ·rfl
def kb:List Val->List Int->Bool
 | [],_=>false
 |_::_,[]=>false
 |x::r,k::ks=>(x.kind != k)||kb r ks
def AU(ks:List Int)(vs:List Val):Val×Bool×Bool:=bif(opG vs).2.1 then opG vs else bif kb vs ks then(AO 4,true,false) else(Cp,false,false)
theorem xDY:Flat Cp:=L2 (Ac (by omega) (by omega)) (Ac (by omega) (by omega)) (Ac (by omega) (by omega))
theorem Dn{K:Nat}{ks:List Int}{l:List Val}(h:∀x∈l,x.Fit K):Flat (AU ks l).1:=by
 unfold AU;cases (opG l).2.1
 ·grind [xDY,Hj,Ac]
 ·exact Jf h
theorem EM{K:Nat}(hK:24<=K/\K<=4611686018427387903){vs:List Val}{ks:List Int}(h:∀x∈vs,x.Fit K)(hl:vs.length<=K)(hks:ks.length=vs.length):Big fun N=>C9 N ks vs=some (AU ks vs)/\Ct N vs ks=some ((AU ks vs).1,(AU ks vs).2.1):=by
 refine((IM hK h hl).and (Ap K)).imp fun N ⟨⟨ho1,ho2⟩,hN⟩=> ?_
 have i1:EC N N ks vs vs.length 0 (Val.mk 0 0 0 [] [] [] [])=some (bif kb vs ks then(AO 4,true,false) else(Cp,false,false)):=
  A3 (L:=fun m i q=>EC N m ks vs vs.length i (Val.mk 0 0 0 [] [] [] [])) vs (fun r q=>bif kb r (ks.drop q) then(AO 4,true,false) else(Cp,false,false)) (fun i q=>q=i) (fun m q _=>by simp only [EC,Zd,Z9,jF];rfl)
   (fun i x r q hd hi hx hq=>by
     have hq:q=i:=hq;subst hq;have hi' :(q:Int)<(vs.length:Int):=by omega
     have hk:ks[q]? =some ks[q]:=by grind
     have hdk:ks.drop q=ks[q]::ks.drop (q+1):=ZH (by omega);cases h1:(x.kind != ks[q])
     ·grind [kb,EC,jI,AL]
     ·refine .inr fun m=> ?_;rw [hdk];simp only [EC,Zz hi',jT,jI,AR hx,AR hk,h1,AJ,jS,kb,YJ];rw [Zt (by omega),Zt (by omega)];rfl) N 0 0 rfl (by omega) (by omega)
 have i2:Fi N N vs ks 0 (Val.mk 0 0 0 [] [] [] [])=some (bif kb vs ks then(AO 4,true) else(Cp,false)):=
  A3 (L:=fun m i q=>Fi N m vs ks i (Val.mk 0 0 0 [] [] [] [])) vs (fun r q=>bif kb r (ks.drop q) then(AO 4,true) else(Cp,false)) (fun i q=>q=i) (fun m q _=>by simp only [Fi,Zd,Z9,jF];rfl)
   (fun i x r q hd hi hx hq=>by
     have hq:q=i:=hq;subst hq;have hi' :(q:Int)<(vs.length:Int):=by omega
     have hk:ks[q]? =some ks[q]:=by grind
     have hdk:ks.drop q=ks[q]::ks.drop (q+1):=ZH (by omega);cases h1:(x.kind != ks[q])
     ·grind [kb,Fi,jI,AL]
     ·refine .inr fun m=> ?_;rw [hdk];simp only [Fi,Zz hi',jT,jI,AR hx,AR hk,h1,AK,jS,kb,YJ];rw [Zt (by omega),Zt (by omega)];rfl) N 0 0 rfl (by omega) (by omega)
 refine⟨?_,?_⟩
 all_goals grind [C9,AU,Ct]
def He(v:Val):Val×Bool:=bif(AU [5] [v]).2.1 then((AU [5] [v]).1,(AU [5] [v]).2.2) else(AX v.rows.length,false)
theorem G3{ks:List Int}{l:List Val}(h:(AU ks l).2.1=false):(AU ks l).2.2=false:=by
 grind [AU]
theorem Oi{K:Nat}{v:Val}(h:v.Fit K):∀x∈ [v],x.Fit K:=fun x hx=>by grind
theorem cnt_eq{K:Nat}(hK:24<=K/\K<=4611686018427387903){v:Val}(h:v.Fit K):Big fun N=>Lc N v=some (He v)/\M9 N v=some (He v).1:=by
 refine(EM hK (vs:=[v]) (ks:=[5]) (Oi h) (by grind) rfl).imp fun N ⟨h1,h2⟩=> ?_;obtain⟨e1,e2,e3,_⟩:=Dn (ks:=[5]) (Oi h)
 grind [AX,Lc,Val.re_eq,CU,Ax,He,M9,A6]
theorem FN:∀ {l:List Val},(opG l).2.1=false->∀x∈l,AP x=true
 | [],_,x,hx=>by grind
 |v::r,h,x,hx=>by
  simp only [opG] at h;cases hv:AP v
  ·grind
  ·cases hk:(v.kind==6)
   ·rw [hv,hk] at h;rcases Zh.1 hx with rfl|hx
    ·grind
    ·exact FN (l:=r) h x hx
   grind
theorem By{ks:List Int}{l:List Val}(h:(AU ks l).2.1=false):(∀x∈l,AP x=true)/\kb l ks=false:=by
 grind [AU,FN]
theorem Ha{v:Val}(hv:AP v=true)(hk:v.kind=5):∀r∈v.rows,r.cells.length=v.columns.length:=by
 grind [BN,Aw,List.getElem?_of_mem,Ft,D8]
theorem Jh{s:Str}:∀ {xs:List Str} {j:Nat},AM xs s j= -1\/((j:Int)<=AM xs s j/\AM xs s j<(j:Int)+xs.length)
 | [],j=> .inl rfl
 |x::r,j=>by
  simp only [AM,jC];cases (x==s)
  ·simp only [jF];rcases Jh (s:=s) (xs:=r) (j:=j+1) with h|⟨h1,h2⟩
   all_goals grind
  grind
theorem xI1{N:Nat}{xs:List Str}{s:Str}(hl:xs.length<=9223372036854775807)(hn:xs.length<N):PI N xs s=some (AM xs s 0):=
 A3 (L:=fun n i _=>Il N n xs s i) xs (fun l q=>AM l s q) (fun i q=>q=i) (fun n q _=>by simp [Il,AM])
  (fun i x l q hd hi hx hq=>by
    have hi' :(i:Int)<(xs.length:Int):=by omega
    have hq:q=i:=hq;subst hq;cases h1:x==s
    all_goals grind [AM,Il,AL]) N 0 0 rfl (by omega) (by omega)
theorem Dq{N:Nat}{v:Val}{s:Str}(hl:v.columns.length<=9223372036854775807)(hn:v.columns.length<N):BI N v s=some (AM v.columns s 0):=by
 grind [BI,Lh]
theorem DH{N:Nat}{v:Val}{s:Str}(hl:v.columns.length<=9223372036854775807)(hn:v.columns.length<N):C0 N v s=some (AM v.columns s 0):=by
 grind [C0,xI1]
def pick(k:Int)(n:Int)(rs:List Rowd):List Rowd:=rs.filter fun r=>r.cells.getD k.toNat Di==n
theorem MP{k n:Int}{r:Rowd}{rs:List Rowd}:pick k n (r::rs)=bif r.cells.getD k.toNat Di==n then r::pick k n rs else pick k n rs:=by
 grind [pick]
theorem xGa{N K:Nat}{k:Int}{a v z:Val}(h:Aj K (Rowd.Fit K) v.rows)(hK:K<=137438953472)(hN:K<N)(hk:0<=k)(hr:∀r∈v.rows,k<(r.cells.length:Int)):
 D0 N N k v.rows v.rows.length 0 a z (.mk 5 0 0 [] [] v.columns [])=some (.mk 5 0 0 [] [] v.columns (pick k a.n v.rows),false):=by
 have hl:v.rows.length<=K:=h.1
 exact A3 (L:=fun m i q=>D0 N m k v.rows v.rows.length i a z (.mk 5 0 0 [] [] v.columns q)) v.rows (fun l q=>(Val.mk 5 0 0 [] [] v.columns (q++pick k a.n l),false)) (fun i q=>q.length<=i) (fun m q _=>by simp [D0,pick])
  (fun i x l q hd hi hx hq=>by
    have hq:q.length<=i:=hq;have hi' :(i:Int)<(v.rows.length:Int):=by omega
    have hm:=Zy hx;have hkx:=hr x hm;cases h1:(x.cells.getD k.toNat Di==a.n)
    ·grind [MP,D0,jI,AL]
    ·refine .inl ⟨q++ [x],by grind,by grind [MP],fun m=> ?_⟩;simp only [D0,Zz hi',jT,jI,AR hx,h1,TR (h.2 x hm) hK,jS,vk,vn,vs,vt,vl,vc,vr,AL hi (by omega:v.rows.length<=_)]
     grind [Lim]) N 0 [] (by simp) (by omega) (by omega)
theorem xKz{N K:Nat}{k:Int}{a v z:Val}(h:Aj K (Rowd.Fit K) v.rows)(hK:K<=137438953472)(hN:K<N)(hk:0<=k)(hr:∀r∈v.rows,k<(r.cells.length:Int)):
 EZ N N k 0 a v z (.mk 5 0 0 [] [] v.columns [])=some (.mk 5 0 0 [] [] v.columns (pick k a.n v.rows)):=by
 have hl:v.rows.length<=K:=h.1
 exact A3 (L:=fun m i q=>EZ N m k i a v z (.mk 5 0 0 [] [] v.columns q)) v.rows (fun l q=>Val.mk 5 0 0 [] [] v.columns (q++pick k a.n l)) (fun i q=>q.length<=i) (fun m q _=>by simp [EZ,pick])
  (fun i x l q hd hi hx hq=>by
    have hq:q.length<=i:=hq;have hi' :(i:Int)<(v.rows.length:Int):=by omega
    have hm:=Zy hx;have hkx:=hr x hm;cases h1:(x.cells.getD k.toNat Di==a.n)
    ·grind [MP,EZ,jI,AL]
    ·refine .inl ⟨q++ [x],by grind,by grind [MP],fun m=> ?_⟩;simp only [EZ,Zz hi',jT,jI,AR hx,h1,Pc (h.2 x hm) hK,jS,vk,vn,vs,vt,vl,vc,vr,AL hi (by omega:v.rows.length<=_)]
     grind [Lim]) N 0 [] (by simp) (by omega) (by omega)
def whG(a b v:Val):Val×Bool:=bif(AU [2,1,5] [a,b,v]).2.1 then((AU [2,1,5] [a,b,v]).1,(AU [2,1,5] [a,b,v]).2.2) else
 bif decide (AM v.columns a.text 0<0) then(AO 7,false) else(.mk 5 0 0 [] [] v.columns (pick (AM v.columns a.text 0) b.n v.rows),false)
theorem kb3{a b c:Val}{x y z:Int}(h:kb [a,b,c] [x,y,z]=false):a.kind=x/\b.kind=y/\c.kind=z:=by
 grind [kb]
theorem JZ{K:Nat}{a b c:Val}(ha:a.Fit K)(hb:b.Fit K)(hc:c.Fit K):∀x∈ [a,b,c],x.Fit K:=fun x hx=>by
 grind
theorem xK8{K:Nat}(hK:24<=K/\K<=137438953472){a b v:Val}(ha:a.Fit K)(hb:b.Fit K)(hv:v.Fit K):Big fun N=>Hz N a b v=some (whG a b v)/\Iw N a b v=some (whG a b v).1:=by
 obtain⟨_,_,_,_,_,h6,h7⟩:=Val.fit_iff.1 hv;have hc:v.columns.length<=K:=h6.1;refine((EM (by omega) (vs:=[a,b,v]) (ks:=[2,1,5]) (JZ ha hb hv) (by grind) rfl).and (Ap K)).imp fun N ⟨⟨h1,h2⟩,hN⟩=> ?_;obtain⟨e1,e2,e3,_⟩:=Dn (ks:=[2,1,5]) (JZ ha hb hv);have hlim:0+v.columns.length<=Lim:=by grind [Lim]
 have i1:=Dq (N:=N) (v:=v) (s:=a.text) (by omega) (by omega);have i2:=DH (N:=N) (v:=v) (s:=a.text) (by omega) (by omega);cases g1:(AU [2,1,5] [a,b,v]).2.1
 ·obtain⟨g2,g3⟩:=By g1;have hk5:=(kb3 g3).2.2;have hrows:=Ha (g2 v (by simp)) hk5;have htag:=G3 g1;by_cases hneg:AM v.columns a.text 0<0
  ·refine⟨?_,?_⟩
   ·simp only [Hz,Val.re_eq,h1,jS,g1,htag,jF,i1,Zz hneg,jT,AJ,whG];rfl
   ·simp only [Iw,Val.re_eq,h2,jS,g1,jF,i2,Zz hneg,jT,AK,whG];rfl
  grind [Jh,xGa,xKz,Hz,Val.re_eq,whG,Iw]
 grind [Hz,Val.re_eq,CU,whG,Iw]
def Fx(k:Int)(r:Rowd):Val:=AX (r.cells.getD k.toNat Di)
theorem xFu{N K:Nat}{k:Int}{v z:Val}(hl:v.rows.length<=K)(hK:K<=137438953472)(hN:K<N)(hk:0<=k)(hr:∀r∈v.rows,k<(r.cells.length:Int)):
 FA N N k v.rows v.rows.length 0 z (.mk 3 0 0 [] [] [] [])=some (.mk 3 0 0 [] (v.rows.map (Fx k)) [] [],false):=
 A3 (L:=fun m i q=>FA N m k v.rows v.rows.length i z (.mk 3 0 0 [] q [] [])) v.rows (fun l q=>(Val.mk 3 0 0 [] (q++l.map (Fx k)) [] [],false)) (fun i q=>q.length=i) (fun m q _=>by simp [FA])
  (fun i x l q hd hi hx hq=>by
    have hq:q.length=i:=hq;have hi' :(i:Int)<(v.rows.length:Int):=by omega
    have hkx:=hr x (Zy hx);refine .inl ⟨q++ [Fx k x],by grind,by simp,fun m=> ?_⟩;simp only [FA,Zz hi',jT,jI,AR hx,Ax,jS,Val.re_eq,vk,vn,vs,vt,vl,vc,vr,AL hi (by omega:v.rows.length<=_)];rw [Zt (by omega),Zt (by omega),Zt (by grind [Lim])];rfl) N 0 [] rfl (by omega) (by omega)
theorem xJp{N K:Nat}{k:Int}{v z:Val}(hl:v.rows.length<=K)(hK:K<=137438953472)(hN:K<N)(hk:0<=k)(hr:∀r∈v.rows,k<(r.cells.length:Int)):
 Gx N N k 0 v z (.mk 3 0 0 [] [] [] [])=some (.mk 3 0 0 [] (v.rows.map (Fx k)) [] []):=
 A3 (L:=fun m i q=>Gx N m k i v z (.mk 3 0 0 [] q [] [])) v.rows (fun l q=>Val.mk 3 0 0 [] (q++l.map (Fx k)) [] []) (fun i q=>q.length=i) (fun m q _=>by simp [Gx])
  (fun i x l q hd hi hx hq=>by
    have hq:q.length=i:=hq;have hi' :(i:Int)<(v.rows.length:Int):=by omega
    have hkx:=hr x (Zy hx);refine .inl ⟨q++ [Fx k x],by grind,by simp,fun m=> ?_⟩;simp only [Gx,Zz hi',jT,jI,AR hx,A6,jS,Val.re_eq,vk,vn,vs,vt,vl,vc,vr,AL hi (by omega:v.rows.length<=_)];rw [Zt (by omega),Zt (by omega),Zt (by grind [Lim])];rfl) N 0 [] rfl (by omega) (by omega)
def DQ(a v:Val):Val×Bool:=bif(AU [2,5] [a,v]).2.1 then((AU [2,5] [a,v]).1,(AU [2,5] [a,v]).2.2) else
 bif decide (AM v.columns a.text 0<0) then(AO 7,false) else bif decide ((v.rows.length:Int)>8) then(AO 6,false) else(.mk 3 0 0 [] (v.rows.map (Fx (AM v.columns a.text 0))) [] [],false)
theorem kb2{a b:Val}{x y:Int}(h:kb [a,b] [x,y]=false):a.kind=x/\b.kind=y:=by
 grind [kb]
theorem Em{K:Nat}{a b:Val}(ha:a.Fit K)(hb:b.Fit K):∀x∈ [a,b],x.Fit K:=fun x hx=>by
 grind
theorem xDB{K:Nat}(hK:24<=K/\K<=137438953472){a v:Val}(ha:a.Fit K)(hv:v.Fit K):Big fun N=>Ho N a v=some (DQ a v)/\Ih N a v=some (DQ a v).1:=by
 obtain⟨_,_,_,_,_,h6,h7⟩:=Val.fit_iff.1 hv;have hc:v.columns.length<=K:=h6.1;refine((EM (by omega) (vs:=[a,v]) (ks:=[2,5]) (Em ha hv) (by grind) rfl).and (Ap K)).imp fun N ⟨⟨h1,h2⟩,hN⟩=> ?_;obtain⟨e1,e2,e3,_⟩:=Dn (ks:=[2,5]) (Em ha hv);have i1:=Dq (N:=N) (v:=v) (s:=a.text) (by omega) (by omega);have i2:=DH (N:=N) (v:=v) (s:=a.text) (by omega) (by omega);cases g1:(AU [2,5] [a,v]).2.1
 ·obtain⟨g2,g3⟩:=By g1;have hrows:=Ha (g2 v (by simp)) (kb2 g3).2;have htag:=G3 g1;by_cases hneg:AM v.columns a.text 0<0
  ·refine⟨?_,?_⟩
   ·simp only [Ho,Val.re_eq,h1,jS,g1,htag,jF,i1,Zz hneg,jT,AJ,DQ];rfl
   ·simp only [Ih,Val.re_eq,h2,jS,g1,jF,i2,Zz hneg,jT,AK,DQ];rfl
  ·have hr:∀r∈v.rows,AM v.columns a.text 0<(r.cells.length:Int):=fun r hr=>by
    grind [Jh]
   have l1:=xFu (z:=Val.mk 0 0 0 [] [] [] []) h7.1 hK.2 hN (by omega) hr;have l2:=xJp (z:=Val.mk 0 0 0 [] [] [] []) h7.1 hK.2 hN (by omega) hr;refine⟨?_,?_⟩
   ·simp only [Ho,Val.re_eq,h1,jS,g1,htag,jF,i1,Zw hneg,AJ,l1,DQ];cases decide ((v.rows.length:Int)>8) <;>rfl
   ·simp only [Ih,Val.re_eq,h2,jS,g1,jF,i2,Zw hneg,AK,l2,DQ];cases decide ((v.rows.length:Int)>8) <;>rfl
 grind [Ho,Val.re_eq,CU,DQ,Ih]
theorem xGU{K:Nat}{l:List Val}(h:Aj K (Val.Fit K) l):(Val.mk 3 0 0 [] l [] []).Fit K:=
 Val.fit_iff.2 ⟨Ac (by show(-1000000:Int)<=3;omega) (by show(3:Int)<=1000000;omega),Ac (by show(-1000000:Int)<=0;omega) (by show(0:Int)<=1000000;omega),Ac (by show(-1000000:Int)<=0;omega) (by show(0:Int)<=1000000;omega),Zg _,h,DE,DE⟩
def BP(l:List Val):Val:=bif(opG l).2.1 then(opG l).1 else bif !(l.all BQ) then AO 4 else bif decide ((l.length:Int)>8) then AO 6 else bif decide ((Val.mk 3 0 0 [] l [] []).dep>3) then AO 6 else .mk 3 0 0 [] l [] []
theorem PM{N:Nat}{l:List Val}(hl:l.length<=137438953472)(hn:l.length<N)(hc:∀x∈l,B1 N x=some x):Kc N l=some (.mk 3 0 0 [] l [] []):=
 A3 (L:=fun m i q=>Ip N m l i (Val.mk 0 0 0 [] [] [] []) (Val.mk 3 0 0 [] q [] [])) l (fun r q=>Val.mk 3 0 0 [] (q++r) [] []) (fun i q=>q.length=i) (fun m q _=>by simp [Ip])
  (fun i x r q hd hi hx hq=>by
    have hq:q.length=i:=hq;have hi' :(i:Int)<(l.length:Int):=by omega
    refine .inl ⟨q++ [x],by grind,by simp,fun m=> ?_⟩;simp only [Ip,Zz hi',jT,jI,AR hx,hc x (Zy hx),jS,Val.re_eq,vk,vn,vs,vt,vl,vc,vr,AL hi (by omega:l.length<=_)]
    grind [Lim]) N 0 [] rfl (by omega) (by omega)
def A4(c:UInt8):Str->Str->List Str
 |pre,[]=> [pre]
 |pre,b::l=>bif b==c then pre::A4 c [] l else A4 c (pre++ [b]) l
def J8(b:UInt8):List Str->List Str
 |h::t=>(b::h)::t
 | []=> []
theorem Qj(c:UInt8):∀(l pre:Str),∃h t,A4 c [] l=h::t/\A4 c pre l=(pre++h)::t:=by
 intro l
 induction l with
 |nil=>intro pre;exact⟨[],[],rfl,by simp [A4]⟩
 |cons b l ih=>
  intro pre;cases hb:b==c
  ·obtain⟨h1,t1,e1,e2⟩:=ih (pre++ [b]);obtain⟨h2,t2,e3,e4⟩:=ih [b]
   grind [A4]
  ·exact⟨[],A4 c [] l,by grind [A4],by grind [A4]⟩
theorem xDG{c b:UInt8}(h:(b==c)=false)(l:Str):A4 c [] (b::l)=J8 b (A4 c [] l):=by
 obtain⟨h1,t1,e1,e2⟩:=Qj c l [b]
 grind [A4,J8]
theorem xGb(c:UInt8)(l:Str):Lib.index (c::l) [c]=0:=by grind [Lib.index]
theorem xGc{b c:UInt8}(h:(b==c)=false)(l:Str):Lib.index (b::l) [c]=if Lib.index l [c]== -1 then -1 else Lib.index l [c]+1:=by
 grind [Lib.index]
theorem xKA{b c:UInt8}(h:(b==c)=false)(l:Str):∀k,Lib.splitK [c] 0 k (b::l)=J8 b (Lib.splitK [c] 0 k l)
 |0=>rfl
 |k+1=>by
  have h0:=Lib.index_ge l [c];unfold Lib.splitK;rw [xGc h];by_cases hi:Lib.index l [c]= -1
  ·grind [J8]
  ·have e1:(Lib.index l [c]== -1)=false:=by grind
   have e2:(Lib.index l [c]+1== -1)=false:=by grind
   have e3:(Lib.index l [c]+1).toNat=(Lib.index l [c]).toNat+1:=by omega
   simp only [e1,e2,e3,YY,if_false,Nat.add_zero,List.length_singleton,J8,List.take_succ_cons]
   grind
theorem xKB(c:UInt8):∀s:Str,Lib.split s [c]=A4 c [] s:=by
 intro s;unfold Lib.split;rw [Lib.count_one]
 induction s with
 |nil=>rfl
 |cons b l ih=>
  cases hb:b==c
  ·grind [xKA,xDG]
  ·obtain rfl:b=c:=by grind
   rw [List.count_cons_self];unfold Lib.splitK;rw [xGb]
   grind [A4]
theorem LN{c:UInt8}:∀ {l pre:Str},(A4 c pre l).length<=l.length+1
 | [],pre=>by simp [A4]
 |b::l,pre=>by
  simp only [A4];cases b==c
  ·simp only [jF];have:=LN (c:=c) (l:=l) (pre:=pre++ [b]);grind
  ·simp only [jT,jC];have:=LN (c:=c) (l:=l) (pre:=[]);omega
theorem Nh{c:UInt8}:∀ {l pre:Str},((A4 c pre l).map List.length).sum<=pre.length+l.length
 | [],pre=>by simp [A4]
 |b::l,pre=>by
  simp only [A4];cases b==c
  ·simp only [jF];have:=Nh (c:=c) (l:=l) (pre:=pre++ [b]);grind
  ·simp only [jT,jC,ZX,List.sum_cons];have:=Nh (c:=c) (l:=l) (pre:=[]);grind
theorem xDF{c:UInt8}{l pre x:Str}(h:x∈A4 c pre l):x.length<=pre.length+l.length:=
 ZT (MV (f:=List.length) h) Nh
theorem Qi{c:UInt8}{l:Str}:A4 c [] l≠ []:=by
 obtain⟨h,t,e,_⟩:=Qj c l []
 grind
theorem xKD{N:Nat}{s:Str}{c:UInt8}(h:s.length<4294967281):NU N s [c]=some (A4 c [] s):=by
 grind [NU,q9,xKB]
theorem TF{N:Nat}{s:Str}(h:s.length<4294967281):GP N s 32=some (A4 32 [] s):=by
 grind [GP,xKD]
theorem xAl{N K:Nat}{s:Str}(hl:s.length<=K)(hK:K<=137438953472)(hN:K+1<N):Ke N s 32=some (A4 32 [] s):=by
 have key:∀(l pre:Str) (q:List Str) (n i:Nat),s.drop i=l->i<=s.length->pre.length<=i->s.drop (i - pre.length)=pre++l->q.length<=i->l.length+1<n->
  EW N n s 32 q ((i - pre.length:Nat):Int) (i:Nat)=some (q++A4 32 pre l):=by
  intro l
  induction l with
  |nil=>
   intro pre q n i hd hi hp hs hq hn;obtain⟨n,rfl⟩:∃m,n=m+1+1:=⟨n - 2,by grind⟩;have hi2:i=s.length:=by grind
   subst hi2;have e1:¬((s.length+1:Nat):Int)<=(s.length:Int):=by omega
   have e2:List.drop (s.length - pre.length) (List.take s.length s)=pre:=by grind
   have e3:i64.wrap ((s.length:Int)+1)=((s.length+1:Nat):Int):=by grind [Af]
   have e4:(0:Int)<=((s.length - pre.length:Nat):Int)/\((s.length - pre.length:Nat):Int)<=(s.length:Int)/\(s.length:Int)<=(s.length:Int):=by omega
   grind [Lim,EW,A4]
  |cons b l ih=>
   intro pre q n i hd hi hp hs hq hn;obtain⟨n,rfl⟩:∃m,n=m+1:=⟨n - 1,by grind⟩;obtain⟨h1,h2,h3⟩:=Bk hd;simp only [jC] at hn;have e0:(i:Int)<=(s.length:Int):=by omega
   have e1:((i:Int)==(s.length:Int))=false:=by grind
   have e2:(0:Int)<=(i:Int)/\(i:Int)<(s.length:Int):=by omega
   have e3:i64.wrap ((i:Int)+1)=((i+1:Nat):Int):=AL h1 (by omega);have eb:((b.toNat:Int)==32)=(b==32):=by
    rcases Decidable.em (b=32) with rfl|hne
    ·rfl
    ·have h8:¬(b.toNat:Int)=32:=fun e=>hne (UInt8.toNat_inj.1 (by grind))
     grind
   have hdr:s.drop (i+1)=l:=h3;cases hb:b==32
   ·have:=ih (pre++ [b]) q n (i+1) hdr (by omega) (by simp;omega) (by simp_all) (by omega) (by omega);simp only [jA,jC,jN] at this;rw [show i+1 - (pre.length+(0+1))=i - pre.length from by omega] at this;simp only [EW,Zz e0,jT,e1,jF,Zt e2,jI,AR h2,eb,hb,e3,this,A4]
   ·have:=ih [] (q++ [pre]) n (i+1) hdr (by omega) (by simp) (by simp [hdr]) (by simp;omega) (by omega);have e6:List.drop (i - pre.length) (List.take i s)=pre:=by
     rw [List.drop_take,hs,show i - (i - pre.length)=pre.length from by omega];simp
    have e4:(0:Int)<=((i - pre.length:Nat):Int)/\((i - pre.length:Nat):Int)<=(i:Int)/\(i:Int)<=(s.length:Int):=by omega
    have e5:List.length q+List.length [pre]<=Lim:=by grind [jN,Lim]
    simp only [jN,Nat.sub_zero] at this;simp only [EW,Zz e0,jT,e1,jF,Zt e2,jI,AR h2,eb,hb,e3,e6,Zt e4,Zt e5,this,A4,Z5,jO,jM]
 have:=key s [] [] N 0 rfl (Zg _) (Zn _) rfl (Zn _) (by omega)
 grind [Ke]
def B7(y:Val):Bool:=y.kind==1
def CD(n:Nat)(x:Val):Bool:=x.kind==3&&(x.list.length==n&&x.list.all B7)
def KR(x:Val):Rowd:=⟨x.list.map Val.n,[]⟩
def CP(cs:List Str)(q:List Rowd)(l:List Val):Val:=bif l.all (CD cs.length) then .mk 5 0 0 [] [] cs (q++l.map KR) else AO 4
theorem xKr{N K:Nat}{x:Val}(hx:x.list.length<=K)(hK:K<=137438953472)(hN:K<N):
 ∃q,NP N x=some (q,x.list.all B7&&(x.kind==3))/\(x.list.all B7=true->q=x.list.map Val.n):=by
 have:=A3 (L:=fun m i q=>H5 N m q i x) x.list (fun l q=>(q++(l.takeWhile B7).map Val.n,l.all B7&&(x.kind==3))) (fun i q=>q.length=i) (fun m q _=>by simp [H5])
  (fun i y l q hd hi hy hq=>by
    have hq:q.length=i:=hq;have hi' :(i:Int)<(x.list.length:Int):=by omega
    cases hk:B7 y
    ·grind [B7,H5,List.takeWhile_cons]
    ·have hk' :(y.kind != 1)=false:=by grind [B7]
     refine .inl ⟨q++ [y.n],by grind,by simp_all,fun m=> ?_⟩
     grind [H5,AL,Lim]) N 0 [] rfl (by omega) (by omega)
 refine⟨(x.list.takeWhile B7).map Val.n,by grind [NP],fun h=> ?_⟩;have tw:∀l:List Val,l.all B7=true->l.takeWhile B7=l:=by
  intro l
  induction l with
  |nil=>intro _;rfl
  |cons y l ih=>
   simp_all
 grind
theorem xKx{N K:Nat}{v z:Val}{cs:List Str}(hl:v.list.length<=K)(hv:∀x∈v.list,x.list.length<=K)(hK:K<=137438953472)(hN:K<N):
 EY N N 0 v z (.mk 5 0 0 [] [] cs [])=some (CP cs [] v.list):=
 A3 (L:=fun m i q=>EY N m i v z (.mk 5 0 0 [] [] cs q)) v.list (fun l q=>CP cs q l) (fun i q=>q.length=i) (fun m q _=>by simp [EY,CP])
  (fun i x l q hd hi hx hq=>by
    have hq:q.length=i:=hq;have hi' :(i:Int)<(v.list.length:Int):=by omega
    obtain⟨qs,n1,n2⟩:=xKr (N:=N) (hv x (Zy hx)) hK hN;cases hk:(x.list.all B7&&(x.kind==3))
    ·rw [hk] at n1;refine .inr fun m=> ?_;have hr:CD cs.length x=false:=by
      grind [CD]
     simp only [EY,Zz hi',jT,jI,AR hx,n1,jS,jV,AK,CP,List.all_cons,hr,ZY,jF];rw [Zt (by omega)];rfl
    ·rw [hk] at n1;simp only [Zu] at hk;have hqs:=n2 hk.1;have hlen:qs.length=x.list.length:=by grind
     cases hc:(x.list.length==cs.length)
     ·refine .inr fun m=> ?_;have hr:CD cs.length x=false:=by grind [CD]
      have hc' :((qs.length:Int) != (cs.length:Int))=true:=by grind
      simp only [EY,Zz hi',jT,jI,AR hx,n1,jS,jU,jF,vc,hc',AK,CP,List.all_cons,hr,ZY];rw [Zt (by omega)];rfl
     ·have hr:CD cs.length x=true:=by grind [CD]
      have hc' :((qs.length:Int) != (cs.length:Int))=false:=by grind
      refine .inl ⟨q++ [KR x],by grind,by grind [CP],fun m=> ?_⟩;simp only [EY,Zz hi',jT,jI,AR hx,n1,jS,jU,jF,vk,vn,vs,vt,vl,vc,vr,hc',AL hi (by omega:v.list.length<=_)];rw [Zt (by omega),Zt (by grind [Lim]),hqs];rfl) N 0 [] rfl (by omega) (by omega)
theorem xFY{N K:Nat}{k8:List Val->Int->Int->Val->Val->Option (Val×Bool)}{X:List Val}{L0 j:Int}{z b:Val}{l:List Val}(hl:l.length<=K)(hK:K<=137438953472)(hN:K<N)(hb:b.rows.length<=K):
 FD N k8 N X L0 j l l.length 0 z b (Rowd.mk [] [])=bif l.all B7 then k8 X L0 (i64.wrap (j+1)) z (.mk b.kind b.n b.step b.text b.list b.columns (b.rows++ [⟨l.map Val.n,[]⟩])) else some (AO 4,false):=by
 have key:∀(n i:Nat) (q:List Int),q.length=i->i<=l.length->l.length<n+i->FD N k8 n X L0 j l l.length (i:Nat) z b (Rowd.mk q [])=bif(l.drop i).all B7 then k8 X L0 (i64.wrap (j+1)) z (.mk b.kind b.n b.step b.text b.list b.columns (b.rows++ [⟨q++(l.drop i).map Val.n,[]⟩])) else some (AO 4,false):=by
  intro n
  induction n with
  |zero=>grind
  |succ n ih=>
   intro i q hq hi hn;cases hd:l.drop i with
   |nil=>
    have hi2:i=l.length:=by grind
    grind [FD,Lim]
   |cons y r=>
    obtain⟨h1,h2,h3⟩:=Bk hd;have hi' :(i:Int)<(l.length:Int):=by omega
    have:=ih (i+1) (q++ [y.n]) (by grind) (by omega) (by omega);rw [h3] at this;cases hk:B7 y
    ·have hk' :(y.kind != 1)=true:=by grind [B7]
     simp only [FD,Zz hi',jT,jI,AR h2,hk',AJ,jS,List.all_cons,hk,ZY,jF];rw [Zt (by omega)];rfl
    ·have hk' :(y.kind != 1)=false:=by grind [B7]
     simp only [FD,Zz hi',jT,jI,AR h2,hk',jF,AL h1 (by omega:l.length<=_),List.all_cons,hk,ZV];rw [Zt (by omega),Zt (by grind [Lim]),this];simp
 have:=key N 0 [] rfl (Zg _) (by omega)
 grind
theorem xF6{N K:Nat}{l:List Val}{z:Val}{cs:List Str}(hl:l.length<=K)(hv:∀x∈l,x.list.length<=K)(hK:K<=137438953472)(hN:K<N):
 Ck N N l l.length 0 z (.mk 5 0 0 [] [] cs [])=some (CP cs [] l,false):=
 A3 (L:=fun m i q=>Ck N m l l.length i z (.mk 5 0 0 [] [] cs q)) l (fun r q=>(CP cs q r,false)) (fun i q=>q.length=i) (fun m q _=>by simp [Ck,CP])
  (fun i x r q hd hi hx hq=>by
    have hq:q.length=i:=hq;have hi' :(i:Int)<(l.length:Int):=by omega
    have inner:=fun m=>xFY (N:=N) (k8:=fun z0 z1 z2 z3 z4=>Ck N m z0 z1 z2 z3 z4) (X:=l) (L0:=l.length) (j:=(i:Nat)) (z:=z) (b:= .mk 5 0 0 [] [] cs q) (hv x (Zy hx)) hK hN (by grind [vr]);simp only [vk,vn,vs,vt,vl,vc,vr] at inner;cases h1:(x.kind==3)
    ·refine .inr fun m=> ?_;have h1' :(x.kind != 3)=true:=by grind
     have hr:CD cs.length x=false:=by grind [CD]
     simp only [Ck,Zz hi',jT,jI,AR hx,h1',AJ,jS,CP,List.all_cons,hr,ZY,jF];rw [Zt (by omega)];rfl
    ·have h1' :(x.kind != 3)=false:=by grind
     cases h2:(x.list.length==cs.length)
     ·refine .inr fun m=> ?_;have h2' :((x.list.length:Int) != (cs.length:Int))=true:=by grind
      have hr:CD cs.length x=false:=by grind [CD]
      simp only [Ck,Zz hi',jT,jI,AR hx,h1',jF,vc,h2',AJ,jS,CP,List.all_cons,hr,ZY];rw [Zt (by omega)];rfl
     ·have h2' :((x.list.length:Int) != (cs.length:Int))=false:=by grind
      cases h3:x.list.all B7
      ·grind [CD,Ck,jI,vc,CP]
      ·have hr:CD cs.length x=true:=by grind [CD]
       refine .inl ⟨q++ [KR x],by grind,by grind [CP],fun m=> ?_⟩;simp only [Ck,Zz hi',jT,jI,AR hx,h1',jF,vc,h2',inner,h3,AL hi (by omega:l.length<=_)];rw [Zt (by omega)];rfl) N 0 [] rfl (by omega) (by omega)
def Fj(a v:Val):Val×Bool:=bif(AU [2,3] [a,v]).2.1 then((AU [2,3] [a,v]).1,(AU [2,3] [a,v]).2.2) else
 (bif !Bj (A4 32 [] a.text) then AO 7 else CP (A4 32 [] a.text) [] v.list,false)
theorem xKS{K:Nat}(hK:24<=K/\K<=4294967000){a v:Val}(ha:a.Fit K)(hv:v.Fit K):Big fun N=>Jt N a v=some (Fj a v)/\Kf N a v=some (Fj a v).1:=by
 obtain⟨_,_,_,h5,_,_,_⟩:=Val.fit_iff.1 ha;obtain⟨_,_,_,_,h6,_,_⟩:=Val.fit_iff.1 hv;have ht:a.text.length<=K:=h5;refine((EM (by omega) (vs:=[a,v]) (ks:=[2,3]) (Em ha hv) (by grind) rfl).and (Ap (K+1))).imp fun N ⟨⟨h1,h2⟩,hN⟩=> ?_;obtain⟨e1,e2,e3,_⟩:=Dn (ks:=[2,3]) (Em ha hv);have hfit:Aj (K+1) (Str.Fit (K+1)) (A4 32 [] a.text):=⟨ZT LN (by omega),fun x hx=>by have:=xDF hx;simp only [jN] at this;show x.length<=_;omega⟩;have c1:=TM (N:=N) hfit (by omega) hN;have c2:=xAL (N:=N) hfit (by omega) hN;have s1:=TF (N:=N) (s:=a.text) (by omega);have s2:=xAl (N:=N) (s:=a.text) ht (by omega) hN;have hvl:∀x∈v.list,x.list.length<=K:=fun x hx=>(Val.fit_iff.1 (h6.2 x hx)).2.2.2.2.1.1;have l1:=xF6 (N:=N) (z:=Val.mk 0 0 0 [] [] [] []) (cs:=A4 32 [] a.text) h6.1 hvl (by omega) (by omega);have l2:=xKx (N:=N) (v:=v) (z:=Val.mk 0 0 0 [] [] [] []) (cs:=A4 32 [] a.text) h6.1 hvl (by omega) (by omega);cases g1:(AU [2,3] [a,v]).2.1
 ·have htag:=G3 g1;refine⟨?_,?_⟩
  ·simp only [Jt,Val.re_eq,h1,jS,g1,htag,jF,s1,c1,AJ,l1,Fj];cases Bj (A4 32 [] a.text) <;>rfl
  ·simp only [Kf,Val.re_eq,h2,jS,g1,jF,s2,c2,AK,l2,Fj];cases Bj (A4 32 [] a.text) <;>rfl
 grind [Jt,Val.re_eq,CU,Fj,Kf]
def atR(at_:List Int)(r:Rowd):Rowd:=⟨at_.map fun k=>r.cells.getD k.toNat Di,r.frm⟩
theorem xFN{N K:Nat}{k17:List Int->List Rowd->Int->Int->Val->Val->Option (Val×Bool)}{at_ x8:List Int}{X:List Rowd}{a1 a2:Int}{z b:Val}{r:Rowd}{f:List Org}(hl:at_.length<=K)(hK:K<=137438953472)(hN:K<N)(hb:b.rows.length<=K)
 (hr:∀k∈at_,0<=k/\k<(r.cells.length:Int)):
 GM N k17 N x8 X a1 a2 at_ at_.length 0 z b r (Rowd.mk [] f)=k17 x8 X a1 (i64.wrap (a2+1)) z (.mk b.kind b.n b.step b.text b.list b.columns (b.rows++ [⟨at_.map fun k=>r.cells.getD k.toNat Di,f⟩])):=by
 have key:∀(n i:Nat) (q:List Int),q.length=i->i<=at_.length->at_.length<n+i->GM N k17 n x8 X a1 a2 at_ at_.length (i:Nat) z b r (Rowd.mk q f)=
  k17 x8 X a1 (i64.wrap (a2+1)) z (.mk b.kind b.n b.step b.text b.list b.columns (b.rows++ [⟨q++(at_.drop i).map fun k=>r.cells.getD k.toNat Di,f⟩])):=by
  intro n
  induction n with
  |zero=>grind
  |succ n ih=>
   intro i q hq hi hn;cases hd:at_.drop i with
   |nil=>
    have hi2:i=at_.length:=by grind
    subst hi2;simp only [GM,Zd,Z9,jF,ZB,Z8];rw [Zt (by grind [Lim])]
   |cons y l=>
    obtain⟨h1,h2,h3⟩:=Bk hd;have hi' :(i:Int)<(at_.length:Int):=by omega
    have hy:=hr y (Zy h2);have:=ih (i+1) (q++ [r.cells.getD y.toNat Di]) (by grind) (by omega) (by omega);rw [h3] at this;simp only [GM,Zz hi',jT,jI,AR h2,AL h1 (by omega:at_.length<=_)];rw [Zt (by omega),Zt hy,Zt (by grind [Lim]),this];simp
 have:=key N 0 [] rfl (Zg _) (by omega)
 grind
theorem xJy{N K:Nat}{k12:List Str->Int->Val->Val->Val->Option Val}{cs:List Str}{j:Nat}{v z b:Val}{r:Rowd}{f:List Org}(hl:cs.length<=K)(hK:K<=137438953472)(hN:K<N)(hb:b.rows.length<=K)(hc:v.columns.length<=K)
 (hj:v.rows[j]? =some r) (hr:∀s∈cs,0<=AM v.columns s 0/\AM v.columns s 0<(r.cells.length:Int)):
 HG N k12 N cs (j:Nat) 0 v z b (Rowd.mk [] f)=k12 cs (i64.wrap ((j:Nat)+1)) v z (.mk b.kind b.n b.step b.text b.list b.columns (b.rows++ [⟨cs.map fun s=>r.cells.getD (AM v.columns s 0).toNat Di,f⟩])):=by
 have hjl:=(Zs.1 hj).1
 have key:∀(n i:Nat) (q:List Int),q.length=i->i<=cs.length->cs.length<n+i->HG N k12 n cs (j:Nat) (i:Nat) v z b (Rowd.mk q f)=
  k12 cs (i64.wrap ((j:Nat)+1)) v z (.mk b.kind b.n b.step b.text b.list b.columns (b.rows++ [⟨q++(cs.drop i).map fun s=>r.cells.getD (AM v.columns s 0).toNat Di,f⟩])):=by
  intro n
  induction n with
  |zero=>grind
  |succ n ih=>
   intro i q hq hi hn;cases hd:cs.drop i with
   |nil=>
    have hi2:i=cs.length:=by grind [Hg]
    subst hi2;simp only [HG,Zd,Z9,jF,ZB,Z8];rw [Zt (by grind [Lim])]
   |cons y l=>
    obtain⟨h1,h2,h3⟩:=Bk hd;have hi' :(i:Int)<(cs.length:Int):=by omega
    have hy:=hr y (Zy h2);have:=ih (i+1) (q++ [r.cells.getD (AM v.columns y 0).toNat Di]) (by grind) (by omega) (by omega);rw [h3] at this;simp only [HG,Zz hi',jT,jI,AR h2,AR hj,AL h1 (by omega:cs.length<=_),DH (N:=N) (v:=v) (s:=y) (by omega) (by omega),jS];rw [Zt (by omega),Zt (by omega),Zt hy,Zt (by grind [Lim]),this];simp
 have:=key N 0 [] rfl (Zg _) (by omega)
 grind
theorem xFM{N K:Nat}{rs:List Rowd}{at_:List Int}{z:Val}{cs:List Str}(hl:rs.length<=K)(ha:at_.length<=K)(hK:K<=137438953472)(hN:K<N)(hf:∀r∈rs,r.frm.length<=K)(hr:∀r∈rs,∀k∈at_,0<=k/\k<(r.cells.length:Int)):
 Dy N N at_ rs rs.length 0 z (.mk 5 0 0 [] [] cs [])=some (.mk 5 0 0 [] [] cs (rs.map (atR at_)),false):=
 A3 (L:=fun m i q=>Dy N m at_ rs rs.length i z (.mk 5 0 0 [] [] cs q)) rs (fun l q=>(Val.mk 5 0 0 [] [] cs (q++l.map (atR at_)),false)) (fun i q=>q.length=i) (fun m q _=>by simp [Dy])
  (fun i x l q hd hi hx hq=>by
    have hq:q.length=i:=hq;have hi' :(i:Int)<(rs.length:Int):=by omega
    have hm:=Zy hx;have hfx:=hf x hm;have inner:=fun m=>xFN (N:=N) (k17:=fun z0 z1 z2 z3 z4 z5=>Dy N m z0 z1 z2 z3 z4 z5) (at_:=at_) (x8:=at_) (X:=rs) (a1:=rs.length) (a2:=(i:Nat)) (z:=z) (b:= .mk 5 0 0 [] [] cs q) (r:=x) (f:=[]++x.frm) ha hK hN (by grind [vr]) (hr x hm);simp only [vk,vn,vs,vt,vl,vc,vr] at inner;refine .inl ⟨q++ [atR at_ x],by grind,by simp,fun m=> ?_⟩;simp only [Dy,Zz hi',jT,jI,AR hx,inner,AL hi (by omega:rs.length<=_)];rw [Zt (by omega),Zt (by grind [Lim])];rfl) N 0 [] rfl (by omega) (by omega)
theorem xJx{N K:Nat}{v z:Val}{cs:List Str}(hl:v.rows.length<=K)(ha:cs.length<=K)(hc:v.columns.length<=K)(hK:K<=137438953472)(hN:K<N)(hf:∀r∈v.rows,r.frm.length<=K)
 (hr:∀r∈v.rows,∀s∈cs,0<=AM v.columns s 0/\AM v.columns s 0<(r.cells.length:Int)):
 ET N N cs 0 v z (.mk 5 0 0 [] [] cs [])=some (.mk 5 0 0 [] [] cs (v.rows.map (atR (cs.map fun s=>AM v.columns s 0)))):=
 A3 (L:=fun m i q=>ET N m cs i v z (.mk 5 0 0 [] [] cs q)) v.rows (fun l q=>Val.mk 5 0 0 [] [] cs (q++l.map (atR (cs.map fun s=>AM v.columns s 0)))) (fun i q=>q.length=i) (fun m q _=>by simp [ET])
  (fun i x l q hd hi hx hq=>by
    have hq:q.length=i:=hq;have hi' :(i:Int)<(v.rows.length:Int):=by omega
    have hm:=Zy hx;have hfx:=hf x hm;have inner:=fun m=>xJy (N:=N) (k12:=fun z0 z1 z2 z3 z4=>ET N m z0 z1 z2 z3 z4) (cs:=cs) (j:=i) (v:=v) (z:=z) (b:= .mk 5 0 0 [] [] cs q) (r:=x) (f:=[]++x.frm) ha hK hN (by grind [vr]) hc hx (hr x hm);simp only [vk,vn,vs,vt,vl,vc,vr] at inner;refine .inl ⟨q++ [atR (cs.map fun s=>AM v.columns s 0) x],by grind,by simp,fun m=> ?_⟩;simp only [ET,Zz hi',jT,jI,AR hx,inner,AL hi (by omega:v.rows.length<=_)];rw [Zt (by omega),Zt (by grind [Lim])];simp only [atR,Yi,jM];rfl) N 0 [] rfl (by omega) (by omega)
def Bn(cols:List Str)(s:Str):Bool:= !decide (AM cols s 0<0)
def DD(cs:List Str)(v:Val):Val:=bif cs.all (Bn v.columns)&&CG cs then .mk 5 0 0 [] [] cs (v.rows.map (atR (cs.map fun s=>AM v.columns s 0))) else AO 7
theorem xFL{N K:Nat}{v z:Val}{cs:List Str}(hl:cs.length<=K)(hc:v.columns.length<=K)(hK:K<=137438953472)(hN:K<N)
 (hb:∀at_,at_=cs.map (fun s=>AM v.columns s 0)->(∀s∈cs,Bn v.columns s=true)->Dy N N at_ v.rows v.rows.length 0 z (.mk 5 0 0 [] [] cs [])=some (.mk 5 0 0 [] [] cs (v.rows.map (atR at_)),false)):
 Dz N N [] cs cs.length 0 v z (.mk 5 0 0 [] [] cs [])=some (DD cs v,false):=by
 have key:∀(n i:Nat) (q:List Int),q=(cs.take i).map (fun s=>AM v.columns s 0)->(∀s∈cs.take i,Bn v.columns s=true)->i<=cs.length->cs.length<n+i->
  Dz N n q cs cs.length (i:Nat) v z (.mk 5 0 0 [] [] cs [])=some (DD cs v,false):=by
  intro n
  induction n with
  |zero=>grind
  |succ n ih=>
   intro i q hq hok hi hn;cases hd:cs.drop i with
   |nil=>
    have hi2:i=cs.length:=by have:=Hg hd;omega
    subst hi2;rw [YV] at hq hok;have hall:cs.all (Bn v.columns)=true:=Zx.2 hok;simp only [Dz,Zd,Z9,jF,vc,OA (N:=N) (xs:=cs) (by omega) (by omega),jS,AJ,hb q hq hok,DD,hall,ZV];subst hq;cases CG cs <;>rfl
   |cons y l=>
    obtain⟨h1,h2,h3⟩:=Bk hd;have hi' :(i:Int)<(cs.length:Int):=by omega
    have htk:cs.take (i+1)=cs.take i++ [y]:=by grind
    have hql:q.length<=K:=by grind
    by_cases hneg:AM v.columns y 0<0
    ·have hall:cs.all (Bn v.columns)=false:=by
      rw [List.all_eq_false];exact⟨y,Zy h2,by grind [Bn]⟩
     simp only [Dz,Zz hi',jT,jI,AR h2,Dq (N:=N) (v:=v) (s:=y) (by omega) (by omega),jS,Zz hneg,AJ,DD,hall,ZY,jF];rw [Zt (by omega)];rfl
    ·have hok' :∀s∈cs.take (i+1),Bn v.columns s=true:=by
      grind [Bn]
     have:=ih (i+1) (q++ [AM v.columns y 0]) (by grind) hok' (by omega) (by omega);simp only [Dz,Zz hi',jT,jI,AR h2,Dq (N:=N) (v:=v) (s:=y) (by omega) (by omega),jS,Zw hneg,jF,AL h1 (by omega:cs.length<=_)];rw [Zt (by omega),Zt (by grind [Lim]),this]
 exact key N 0 [] rfl (fun s hs=>by grind) (Zg _) (by omega)
theorem xJw{N K:Nat}{v z:Val}{cs:List Str}(hne:cs≠ [])(hl:cs.length<=K)(hc:v.columns.length<=K)(hK:K<=137438953472)(hN:K<N)
 (hb:(∀s∈cs,Bn v.columns s=true)->ET N N cs 0 v z (.mk 5 0 0 [] [] cs [])=some (.mk 5 0 0 [] [] cs (v.rows.map (atR (cs.map fun s=>AM v.columns s 0))))):
 EU N N cs 0 v z (.mk 5 0 0 [] [] cs [])=some (DD cs v):=by
 have key:∀(n i:Nat),(∀s∈cs.take i,Bn v.columns s=true)->(i=0\/CG cs=true)->i<=cs.length->cs.length<n+i->
  EU N n cs (i:Nat) v z (.mk 5 0 0 [] [] cs [])=some (DD cs v):=by
  intro n
  induction n with
  |zero=>grind
  |succ n ih=>
   intro i hok hdi hi hn;cases hd:cs.drop i with
   |nil=>
    have hi2:i=cs.length:=by have:=Hg hd;omega
    grind [EU,DD]
   |cons y l=>
    obtain⟨h1,h2,h3⟩:=Bk hd;have hi' :(i:Int)<(cs.length:Int):=by omega
    have htk:cs.take (i+1)=cs.take i++ [y]:=by grind
    by_cases hneg:AM v.columns y 0<0
    ·have hall:cs.all (Bn v.columns)=false:=by
      rw [List.all_eq_false];exact⟨y,Zy h2,by grind [Bn]⟩
     simp only [EU,Zz hi',jT,jI,AR h2,DH (N:=N) (v:=v) (s:=y) (by omega) (by omega),jS,Zz hneg,AK,DD,hall,ZY,jF];rw [Zt (by omega)];rfl
    ·cases hdd:CG cs
     ·simp only [EU,Zz hi',jT,jI,AR h2,DH (N:=N) (v:=v) (s:=y) (by omega) (by omega),jS,Zw hneg,jF,M7 (N:=N) (xs:=cs) (by omega) (by omega),hdd,jV,AK,DD,Bool.and_false];rw [Zt (by omega)];rfl
     grind [Bn,List.mem_singleton,EU,jI,DH,M7,AL]
 exact key N 0 (fun s hs=>by grind) (.inl rfl) (Zg _) (by omega)
def G0(a v:Val):Val×Bool:=bif(AU [2,5] [a,v]).2.1 then((AU [2,5] [a,v]).1,(AU [2,5] [a,v]).2.2) else(DD (A4 32 [] a.text) v,false)
theorem Nz{cols:List Str}{s:Str}(h:Bn cols s=true):0<=AM cols s 0/\AM cols s 0<(cols.length:Int):=by
 grind [Bn,Jh]
theorem xGs{K:Nat}(hK:24<=K/\K<=4294967000){a v:Val}(ha:a.Fit K)(hv:v.Fit K):Big fun N=>Jp N a v=some (G0 a v)/\Kb N a v=some (G0 a v).1:=by
 obtain⟨_,_,_,h5,_,_,_⟩:=Val.fit_iff.1 ha;obtain⟨_,_,_,_,_,h6,h7⟩:=Val.fit_iff.1 hv;have ht:a.text.length<=K:=h5;have hcl:v.columns.length<=K:=h6.1;have hrl:v.rows.length<=K:=h7.1;refine((EM (by omega) (vs:=[a,v]) (ks:=[2,5]) (Em ha hv) (by grind) rfl).and (Ap (K+1))).imp fun N ⟨⟨h1,h2⟩,hN⟩=> ?_;obtain⟨e1,e2,e3,_⟩:=Dn (ks:=[2,5]) (Em ha hv);have hlen:(A4 32 [] a.text).length<=K+1:=ZT LN (by omega);have s1:=TF (N:=N) (s:=a.text) (by omega);have s2:=xAl (N:=N) (s:=a.text) ht (by omega) hN;cases g1:(AU [2,5] [a,v]).2.1
 ·have htag:=G3 g1;obtain⟨g2,g3⟩:=By g1;have hrows:=Ha (g2 v (by simp)) (kb2 g3).2;have hat:(∀s∈A4 32 [] a.text,Bn v.columns s=true)->∀r∈v.rows,∀s∈A4 32 [] a.text,0<=AM v.columns s 0/\AM v.columns s 0<(r.cells.length:Int):=fun h r hr s hs=>by
   rw [hrows r hr];exact Nz (h s hs)
  have hfr:∀r∈v.rows,r.frm.length<=K+1:=fun r hr=>ZT (h7.2 r hr).2.1 (by omega)
  have l1:=xFL (N:=N) (K:=K+1) (v:=v) (z:=Val.mk 0 0 0 [] [] [] []) (cs:=A4 32 [] a.text) hlen (by omega) (by omega) hN (fun at_ e h=>xFM (K:=K+1) (by omega) (by grind) (by omega) hN hfr (fun r hr k hk=>by
   grind))
  have l2:=xJw (N:=N) (K:=K+1) (v:=v) (z:=Val.mk 0 0 0 [] [] [] []) (cs:=A4 32 [] a.text) Qi hlen (by omega) (by omega) hN (fun h=>xJx (K:=K+1) (by omega) hlen (by omega) (by omega) hN hfr (hat h))
  grind [Jp,Val.re_eq,G0,Kb]
 grind [Jp,Val.re_eq,CU,G0,Kb]
theorem JY{v:Val}(hv:AP v=true)(hk:v.kind=5):Bj v.columns=true/\v.rows.length<=12:=by
 grind [BN,Aw]
theorem Jg{s:Str}:∀ {xs:List Str} {j:Nat},0<=AM xs s j->s∈xs
 | [],j,h=>by grind [AM]
 |x::r,j,h=>by
  simp only [AM] at h;cases hx:x==s
  ·rw [hx] at h;exact Zr _ (Jg h)
  grind
theorem Na(a b:Org):Fv a b=olt a b:=by
 grind [Fv,olt]
def SO(l:List Org):Prop:=l.Pairwise fun x y=>olt x y=true
theorem Oh{x y z:Org}(h:olt x y=true)(g:olt y z=true):olt x z=true:=ER.trans _ _ _ h g
theorem Of{x y:Org}(h:olt x y=true):olt y x=false:=by
 grind [olt]
theorem xHo{x y:Org}(h:olt x y=true):x≠y:=by rintro rfl;rw [ER.irrefl] at h;cases h
theorem Ui:∀ {l m:List Org},SO l->SO m->(∀x,x∈l↔x∈m)->l=m
 | [],[],_,_,_=>rfl
 | [],y::m,_,_,h=>absurd ((h y).2 Zp) (by simp)
 |x::l,[],_,_,h=>absurd ((h x).1 Zp) (by simp)
 |x::l,y::m,hl,hm,h=>by
  unfold SO at hl hm;rw [Z7] at hl hm;have e:x=y:=by
   grind [List.mem_cons_self,Of]
  subst e;refine Zl (x:: ·) (Ui hl.2 hm.2 fun z=>⟨fun hz=> ?_,fun hz=> ?_⟩)
  all_goals grind [xHo]
theorem QK{xs:List Org}(h:Cg xs=true):SO xs:=by
 have adj:∀i (hi:i+1<xs.length),olt xs[i] xs[i+1]=true:=fun i hi=>by
  have:=Ft h (i+1) xs[i+1] (Zv hi)
  grind [Fu,Na]
 have far:∀(m i:Nat) (hi:i+1+m<xs.length),olt (xs[i]'(by omega)) xs[i+1+m]=true:=by
  intro m
  induction m with
  |zero=>grind
  |succ m ih=>grind [Oh]
 unfold SO;rw [Yw];intro i j hi hj hij;have:=far (j - i - 1) i (by omega)
 grind
theorem Ni:∀(os acc:List Org),acc.Nodup->(os.foldl tY acc).Nodup/\∀x,x∈os.foldl tY acc↔x∈acc\/x∈os
 | [],acc,h=>⟨h,fun x=>by simp⟩
 |o::os,acc,h=>by
  rw [List.foldl_cons];have hs:(tY acc o).Nodup/\∀x,x∈tY acc o↔x∈acc\/x=o:=by
   grind [tY]
  obtain⟨i1,i2⟩:=Ni os (tY acc o) hs.1
  grind
theorem MM{a b:List Org}{x:Org}:x∈rM a b↔x∈a\/x∈b:=by
 grind [rM,List.mem_mergeSort,ded,Ni]
theorem Po(a b:List Org):SO (rM a b):=by
 have hs:(rM a b).Pairwise fun x y=>(!olt y x)=true:=YN (fun x y z h1 h2=>by
  simp only [ZF] at h1 h2 ⊢;exact ER.ntrans _ _ _ h2 h1) (fun x y=>by
  grind [Of]) _
 have hn:(rM a b).Nodup:=(Y4 _ _).nodup_iff.2 (Ni (a++b) [] YS).1;refine(hs.and hn).imp fun {x y} h=> ?_
 grind [Oe]
theorem xKW(a b:List Org):(rM a b).length<=a.length+b.length:=by
 unfold rM;rw [Y7];have:∀(os acc:List Org),(os.foldl tY acc).length<=acc.length+os.length:=by
  intro os
  induction os with
  |nil=>grind
  |cons o os ih=>
   grind [tY]
 grind [ded]
def mrg:List Org->List Org->List Org
 | [],y=>y
 |a::x,[]=>a::x
 |a::x,b::y=>bif olt a b then a::mrg x (b::y) else bif olt b a then b::mrg (a::x) y else a::mrg x y
termination_by x y=>x.length+y.length
theorem xG4(x:List Org):mrg x []=x:=by cases x <;>simp [mrg]
theorem xG3:∀(n:Nat) (x y:List Org),x.length+y.length<=n->SO x->SO y->SO (mrg x y)/\∀z,z∈mrg x y↔z∈x\/z∈y:=by
 intro n
 induction n with
 |zero=>
  grind [List.length_eq_zero_iff,mrg]
 |succ n ih=>
  intro x y h hx hy;cases x with
  |nil=>grind [mrg]
  |cons a x=>
   cases y with
   |nil=>grind [mrg]
   |cons b y=>
    have hx' :SO x:=(Z7.1 hx).2;have hy' :SO y:=(Z7.1 hy).2;have hax:=(Z7.1 hx).1;have hby:=(Z7.1 hy).1;simp only [jC] at h;rw [mrg];cases h1:olt a b with
    |true=>
     obtain⟨i1,i2⟩:=ih x (b::y) (by grind) hx' hy;rw [jT];refine⟨Z7.2 ⟨fun z hz=> ?_,i1⟩,fun z=> ?_⟩
     all_goals grind [Oh]
    |false=>
     rw [jF];cases h2:olt b a with
     |true=>
      obtain⟨i1,i2⟩:=ih (a::x) y (by grind) hx hy';rw [jT];refine⟨Z7.2 ⟨fun z hz=> ?_,i1⟩,fun z=> ?_⟩
      all_goals grind [Oh]
     |false=>
      have e:=Oe a b h1 h2;subst e;obtain⟨i1,i2⟩:=ih x y (by omega) hx' hy';rw [jF];refine⟨Z7.2 ⟨fun z hz=> ?_,i1⟩,fun z=> ?_⟩
      all_goals grind
theorem Tr{x y:List Org}(hx:SO x)(hy:SO y):mrg x y=rM x y:=by
 obtain⟨h1,h2⟩:=xG3 _ x y (Zn _) hx hy;exact Ui h1 (Po x y) fun z=>(h2 z).trans MM.symm
theorem xGD{N:Nat}{x y:List Org}(hl:x.length+y.length<=137438953472):∀(n i j:Nat) (acc:List Org),i<=x.length->j<=y.length->(x.length - i)+(y.length - j)<n->acc.length<=i+j->
 Bf N n x y acc (i:Int) (j:Int)=some (acc++mrg (x.drop i) (y.drop j)):=by
 intro n
 induction n with
 |zero=>grind
 |succ n ih=>
  intro i j acc hi hj hn hacc;have lim:∀(o:Org),List.length acc+List.length [o]<=Lim:=fun o=>by grind [Lim]
  have sx:∀a,x.drop i=a::x.drop (i+1)->i<x.length->Bf N n x y (acc++ [a]) (IntKind.i64.wrap ((i:Int)+1)) (j:Int)=some (acc++a::mrg (x.drop (i+1)) (y.drop j)):=by
   intro a _ hlt;rw [wn (i+1) (by omega) (by omega),ih (i+1) j (acc++ [a]) hlt hj (by omega) (by grind)];simp
  have sy:∀b,y.drop j=b::y.drop (j+1)->j<y.length->Bf N n x y (acc++ [b]) (i:Int) (IntKind.i64.wrap ((j:Int)+1))=some (acc++b::mrg (x.drop i) (y.drop (j+1))):=by
   intro b _ hlt;rw [wn (j+1) (by omega) (by omega),ih i (j+1) (acc++ [b]) hi hlt (by omega) (by grind)];simp
  by_cases h1:i<x.length
  ·have d1:(decide ((i:Int)<(x.length:Int)))=true:=Zz (by omega);have ex:x.drop i=x[i]::x.drop (i+1):=ZH h1;have gx:x.getD (Int.toNat (i:Int)) Do=x[i]:=by grind [jI]
   by_cases h2:j<y.length
   ·have ey:y.drop j=y[j]::y.drop (j+1):=ZH h2;have gy:y.getD (Int.toNat (j:Int)) Do=y[j]:=by grind [jI]
    have e2:((j:Int)==(y.length:Int))=false:=ZR.2 (by omega);have e3:((i:Int)==(x.length:Int))=false:=ZR.2 (by omega);have n1:(0:Int)<=i/\(i:Int)<(x.length:Int):=by omega
    have n2:(0:Int)<=j/\(j:Int)<(y.length:Int):=by omega
    simp only [Bf,d1,e2,e3,jT,jF,Zt n1,Zt n2,gx,gy,P8,jS,Na,Zt (lim _)];rw [ex,ey,mrg];cases h3:olt x[i] y[j] with
    |true=>grind
    |false=>
     rw [jF,jF];cases h4:olt y[j] x[i] with
     |true=>grind
     |false=>
      rw [jF,jF,wn (i+1) (by omega) (by omega),wn (j+1) (by omega) (by omega),ih (i+1) (j+1) (acc++ [x[i]]) (by omega) (by omega) (by omega) (by grind)];simp
   ·have ej:j=y.length:=by omega
    have e2:((j:Int)==(y.length:Int))=true:=by grind
    have n1:(0:Int)<=i/\(i:Int)<(x.length:Int):=by omega
    grind [Bf,xG4]
  ·have ei:i=x.length:=by omega
   have d1:(decide ((i:Int)<(x.length:Int)))=false:=Zw (by omega);by_cases h2:j<y.length
   ·have ey:y.drop j=y[j]::y.drop (j+1):=ZH h2;have gy:y.getD (Int.toNat (j:Int)) Do=y[j]:=by grind [jI]
    have d2:(decide ((j:Int)<(y.length:Int)))=true:=Zz (by omega);have e2:((j:Int)==(y.length:Int))=false:=ZR.2 (by omega);have e3:((i:Int)==(x.length:Int))=true:=by grind
    have n2:(0:Int)<=j/\(j:Int)<(y.length:Int):=by omega
    grind [Bf,mrg]
   grind [Bf,mrg]
theorem xAZ{N:Nat}{x y:List Org}(hx:SO x)(hy:SO y)(hl:x.length+y.length<=137438953472)(hN:x.length+y.length<N):Kt N x y=some (rM x y):=by
 unfold Kt;rw [<-Tr hx hy];exact xGD hl N 0 0 [] (Zg _) (Zg _) (by omega) (Zg _)
theorem xFm{N:Nat}{x y:List Org}(hl:x.length+y.length<=1000000000000):Ly N x y=some (rM x y):=by
 grind [Ly,AH]
def ES(k:Nat)(r t:Rowd):Rowd:=⟨(r.cells++t.cells.take k)++t.cells.drop (k+1),rM r.frm t.frm⟩
def jr(i k:Nat)(r:Rowd):List Rowd->List Rowd
 | []=> []
 |t::ts=>bif r.cells.getD i Di==t.cells.getD k Di then ES k r t::jr i k r ts else jr i k r ts
def jrs(i k:Nat)(ts:List Rowd):List Rowd->List Rowd
 | []=> []
 |r::rs=>jr i k r ts++jrs i k ts rs
theorem OZ{i k:Nat}{r:Rowd}:∀ {ts:List Rowd},(jr i k r ts).length<=ts.length
 | []=>Zn _
 |t::ts=>by
  have:=OZ (i:=i) (k:=k) (r:=r) (ts:=ts)
  grind [jr]
def Ep(K k:Nat)(ts:List Rowd):Prop:=∀t∈ts,k<t.cells.length/\t.cells.length<=K/\t.frm.length<=K
theorem xFK{N K:Nat}{k13:Int->Int->List Rowd->Int->Int->Val->Val->Val->Option (Val×Bool)}{i k:Nat}{X:List Rowd}{a1 a2:Int}{ts:List Rowd}{v z:Val}{cs:List Str}{r:Rowd}(hK:K<=4294967296)(hN:K<N)(hl:ts.length<=K)
 (hr:i<r.cells.length/\r.cells.length<=K/\r.frm.length<=K) (ht:Ep K k ts):∀(n j:Nat) (q:List Rowd),q.length+(ts.length - j)<=8589934592->j<=ts.length->ts.length<n+j->
 GL N k13 n (i:Int) (k:Int) X a1 a2 ts (ts.length:Int) (j:Int) v z (.mk 5 0 0 [] [] cs q) r=k13 (i:Int) (k:Int) X a1 (i64.wrap (a2+1)) v z (.mk 5 0 0 [] [] cs (q++jr i k r (ts.drop j))):=by
 intro n
 induction n with
 |zero=>grind
 |succ n ih=>
  intro j q hq hj hn;cases hd:ts.drop j with
  |nil=>
   grind [GL,jr]
  |cons t l=>
   obtain⟨h1,h2,h3⟩:=Bk hd;have hj' :(j:Int)<(ts.length:Int):=by omega
   obtain⟨t1,t2,t3⟩:=ht t (Zy h2);have w:i64.wrap ((k:Int)+1)=((k+1:Nat):Int):=wn _ (by omega) (by omega);have g:(List.getD r.cells i Di != List.getD t.cells k Di)= !(List.getD r.cells i Di==List.getD t.cells k Di):=rfl;simp only [GL,Zz hj',jT,jI,AR h2,AL h1 (by omega:ts.length<=_),w,jr,jM,Zc,g,vk,vn,vs,vt,vl,vc,vr];rw [Zt (by omega),Zt (by omega),Zt (by omega)];cases (List.getD r.cells i Di==List.getD t.cells k Di) with
   |false=>
    grind
   |true=>
    have:=ih (j+1) (q++ [ES k r t]) (by grind) (by omega) (by omega)
    grind [xFm,Lim,ES]
def EK(cs:List Str)(rows:List Rowd):Val:=bif decide ((rows.length:Int)>12) then AO 6 else .mk 5 0 0 [] [] cs rows
theorem xFJ{N K:Nat}{i k:Nat}{rs:List Rowd}{v z:Val}{cs:List Str}(hK:K<=4294967296)(hN:K<N)(hK24:24<=K)(hrs:rs.length<=12)(hts:v.rows.length<=12)(hr:Ep K i rs)(ht:Ep K k v.rows):
 Dw N N (i:Int) (k:Int) rs (rs.length:Int) 0 v z (.mk 5 0 0 [] [] cs [])=some (EK cs (jrs i k v.rows rs),false):=
 A3 (L:=fun m j q=>Dw N m (i:Int) (k:Int) rs (rs.length:Int) j v z (.mk 5 0 0 [] [] cs q)) rs (fun l q=>(EK cs (q++jrs i k v.rows l),false)) (fun j q=>q.length<=12*j)
  (fun m q _=>by
    simp only [Dw,Zd,Z9,jF,jrs,Z8,EK,AJ,jS];show(bif decide ((q.length:Int)>12) then some (AO 6,false) else some (Val.mk 5 0 0 [] [] cs q,false))=some (bif decide ((q.length:Int)>12) then AO 6 else Val.mk 5 0 0 [] [] cs q,false)
    grind)
  (fun j x l q hd hj hx hq=>by
    have hq:q.length<=12*j:=hq;have hj' :(j:Int)<(rs.length:Int):=by omega
    have inner:=fun m=>xFK (N:=N) (k13:=fun z0 z1 z2 z3 z4 z5 z6 z7=>Dw N m z0 z1 z2 z3 z4 z5 z6 z7) (i:=i) (k:=k) (X:=rs) (a1:=rs.length) (a2:=(j:Nat)) (ts:=v.rows) (v:=v) (z:=z) (cs:=cs) (r:=x) hK hN (by omega) (hr x (Zy hx)) ht N 0 q (by omega) (Zg _) (by omega);refine .inl ⟨q++jr i k x v.rows,by grind [OZ],by simp [jrs],fun m=> ?_⟩
    grind [Dw,jI,AL]) N 0 [] (by simp) (by omega) (by omega)
theorem xKt{N K k:Nat}{r t:Rowd}(hK:K<=4294967296)(hN:2*K<N)(hr:r.cells.length<=K/\r.frm.length<=K)(ht:k<t.cells.length/\t.cells.length<=K/\t.frm.length<=K)(h1:SO r.frm)(h2:SO t.frm):
 NQ N r t (k:Int)=some (ES k r t):=by
 have w:i64.wrap ((k:Int)+1)=((k+1:Nat):Int):=wn _ (by omega) (by omega);simp only [NQ,w,jI,jM,Zc,xAZ (N:=N) h1 h2 (by omega) (by omega),jS];rw [Zt (by grind [Lim]),Zt (by omega),Zt (by grind [Lim]),Zt (by omega),Zt (by grind [Lim])]
 rfl
theorem xJv{N K:Nat}{k15:Int->Int->Int->Val->Val->Val->Val->Option Val}{i k:Nat}{j0:Nat}{u v z:Val}{cs:List Str}{r:Rowd}(hK:K<=4294967296)(hN:2*K<N)(hl:v.rows.length<=K)(hj0:u.rows[j0]? =some r)
 (hr:i<r.cells.length/\r.cells.length<=K/\r.frm.length<=K) (ht:Ep K k v.rows) (s1:SO r.frm) (s2:∀t∈v.rows,SO t.frm):∀(n j:Nat) (q:List Rowd),q.length+(v.rows.length - j)<=8589934592->j<=v.rows.length->v.rows.length<n+j->
 HF N k15 n (i:Int) (k:Int) (j0:Int) (j:Int) u v z (.mk 5 0 0 [] [] cs q)=k15 (i:Int) (k:Int) (i64.wrap ((j0:Int)+1)) u v z (.mk 5 0 0 [] [] cs (q++jr i k r (v.rows.drop j))):=by
 have hj0l:=(Zs.1 hj0).1;intro n
 induction n with
 |zero=>grind
 |succ n ih=>
  intro j q hq hj hn;cases hd:v.rows.drop j with
  |nil=>
   grind [HF,jr]
  |cons t l=>
   obtain⟨h1,h2,h3⟩:=Bk hd;have hj' :(j:Int)<(v.rows.length:Int):=by omega
   have hm:=Zy h2;obtain⟨t1,t2,t3⟩:=ht t hm;simp only [HF,Zz hj',jT,jI,AR h2,AR hj0,AL h1 (by omega:v.rows.length<=_),jr,vk,vn,vs,vt,vl,vc,vr];rw [Zt (by omega),Zt (by omega),Zt (by omega),Zt (by omega)];cases (List.getD r.cells i Di==List.getD t.cells k Di) with
   |false=>
    grind
   |true=>
    have:=ih (j+1) (q++ [ES k r t]) (by grind) (by omega) (by omega)
    grind [xKt,Lim]
theorem xJu{N K:Nat}{i k:Nat}{u v z:Val}{cs:List Str}(hK:K<=4294967296)(hN:2*K<N)(hK24:24<=K)(hrs:u.rows.length<=12)(hts:v.rows.length<=12)(hr:Ep K i u.rows)(ht:Ep K k v.rows)(s1:∀t∈u.rows,SO t.frm)(s2:∀t∈v.rows,SO t.frm):
 F7 N N (i:Int) (k:Int) 0 u v z (.mk 5 0 0 [] [] cs [])=some (EK cs (jrs i k v.rows u.rows)):=
 A3 (L:=fun m j q=>F7 N m (i:Int) (k:Int) j u v z (.mk 5 0 0 [] [] cs q)) u.rows (fun l q=>EK cs (q++jrs i k v.rows l)) (fun j q=>q.length<=12*j)
  (fun m q _=>by
    simp only [F7,Zd,Z9,jF,jrs,Z8,EK,AK,jS];show(bif decide ((q.length:Int)>12) then some (AO 6) else some (Val.mk 5 0 0 [] [] cs q))=some (bif decide ((q.length:Int)>12) then AO 6 else Val.mk 5 0 0 [] [] cs q)
    grind)
  (fun j x l q hd hj hx hq=>by
    have hq:q.length<=12*j:=hq;have hj' :(j:Int)<(u.rows.length:Int):=by omega
    have hm:=Zy hx;have inner:=fun m=>xJv (N:=N) (k15:=fun z0 z1 z2 z3 z4 z5 z6=>F7 N m z0 z1 z2 z3 z4 z5 z6) (i:=i) (k:=k) (j0:=j) (u:=u) (v:=v) (z:=z) (cs:=cs) (r:=x) hK hN (by omega) hx (hr x hm) ht (s1 x hm) s2 N 0 q (by omega) (Zg _) (by omega);refine .inl ⟨q++jr i k x v.rows,by grind [OZ],by simp [jrs],fun m=> ?_⟩
    grind [F7,AL]) N 0 [] (by simp) (by omega) (by omega)
theorem Ji{s:Str}:∀ {xs:List Str} {j:Nat},(AM xs s j= -1/\s ∉ xs)\/∃k,k<xs.length/\AM xs s j=((j+k:Nat):Int)/\xs[k]? =some s/\s ∉ xs.take k
 | [],j=> .inl ⟨rfl,by simp⟩
 |x::r,j=>by
  simp only [AM];cases hx:x==s
  ·have hne:s≠x:=by grind
   rcases Ji (s:=s) (xs:=r) (j:=j+1) with ⟨h1,h2⟩|⟨k,h1,h2,h3,h4⟩
   ·grind
   ·refine .inr ⟨k+1,by grind,by grind,by grind,by grind⟩
  grind
theorem xDK{xs:List Str}(h:CG xs=true):xs.Nodup:=by
 rw [YR,Yw];intro i j hi hj hij e;have:=Ft h j xs[j] (Zv hj)
 grind [Ev,List.mem_take_iff_getElem]
theorem xLa{xs:List Str}{s:Str}{k:Nat}(hd:xs.Nodup)(hk:xs[k]? =some s):xs.filter (fun x=>x != s)=xs.take k++xs.drop (k+1):=by
 obtain⟨hlt,e⟩:=Zs.1 hk;have hsplit:xs=xs.take k++s::xs.drop (k+1):=by
  grind [List.take_append_drop,List.drop_eq_getElem_cons]
 have hn:=hd;rw [hsplit,Yz] at hn
 grind [List.filter_eq_self]
theorem xFq{N K:Nat}{cols:List Str}{s:Str}(hl:cols.length<=K)(hK:K<=4294967296)(hN:K<N)(hK1:1<=K):Jw N cols [s]=some (cols.filter fun x=>x != s):=by
 have:=A3 (L:=fun m i q=>FE N m [s] q cols (cols.length:Int) i) cols (fun l q=>q++l.filter fun x=>x != s) (fun i q=>q.length<=i) (fun m q _=>by simp [FE])
  (fun i x l q hd hi hx hq=>by
    have hq:q.length<=i:=hq;have hi' :(i:Int)<(cols.length:Int):=by omega
    have e:AM [s] x 0=bif s==x then 0 else -1:=by grind [AM]
    cases h1:s==x
    ·refine .inl ⟨q++ [x],by grind,?_,fun m=> ?_⟩
     ·grind
     ·simp only [FE,Zz hi',jT,jI,AR hx,Lh (N:=N) (xs:=[s]) (s:=x) (by simp) (by grind),jS,e,h1,jF,AL hi (by omega:cols.length<=_)]
      grind [Lim]
    grind [FE,jI,Lh,AL]) N 0 [] (Zn _) (Zg _) (by omega)
 grind [Jw]
def EL(i k:Int)(u v:Val):Val:=bif decide (i<0) then AO 7 else bif decide (k<0) then AO 7 else
 bif !CG (u.columns++(v.columns.take k.toNat++v.columns.drop (k.toNat+1))) then AO 7 else
 bif decide (((u.columns++(v.columns.take k.toNat++v.columns.drop (k.toNat+1))).length:Int)>4) then AO 6 else
 EK (u.columns++(v.columns.take k.toNat++v.columns.drop (k.toNat+1))) (jrs i.toNat k.toNat v.rows u.rows)
def Cn(a u v:Val):Val×Bool:=bif(AU [2,5,5] [a,u,v]).2.1 then((AU [2,5,5] [a,u,v]).1,(AU [2,5,5] [a,u,v]).2.2) else(EL (AM u.columns a.text 0) (AM v.columns a.text 0) u v,false)
theorem Pk{v:Val}(hv:AP v=true)(hk:v.kind=5):∀r∈v.rows,SO r.frm:=by
 grind [BN,Aw,List.getElem?_of_mem,Ft,D8,QK]
theorem xDD{v:Val}(hv:AP v=true)(hk:v.kind=5):CG v.columns=true:=by
 grind [JY,Bj]
theorem xGn{K:Nat}(hK:24<=K/\K<=1073741824){a u v:Val}(ha:a.Fit K)(hu:u.Fit K)(hv:v.Fit K):Big fun N=>GK N a u v=some (Cn a u v)/\HE N a u v=some (Cn a u v).1:=by
 obtain⟨_,_,_,_,_,u6,u7⟩:=Val.fit_iff.1 hu;obtain⟨_,_,_,_,_,v6,v7⟩:=Val.fit_iff.1 hv;have huc:u.columns.length<=K:=u6.1;have hvc:v.columns.length<=K:=v6.1;refine((EM (by omega) (vs:=[a,u,v]) (ks:=[2,5,5]) (JZ ha hu hv) (by grind) rfl).and (Ap (2*K))).imp fun N ⟨⟨h1,h2⟩,hN⟩=> ?_;obtain⟨e1,e2,e3,_⟩:=Dn (ks:=[2,5,5]) (JZ ha hu hv);have i1:=Dq (N:=N) (v:=u) (s:=a.text) (by omega) (by omega);have i2:=Dq (N:=N) (v:=v) (s:=a.text) (by omega) (by omega);have j1:=DH (N:=N) (v:=u) (s:=a.text) (by omega) (by omega);have j2:=DH (N:=N) (v:=v) (s:=a.text) (by omega) (by omega);have w1:=xFq (N:=N) (K:=K) (cols:=v.columns) (s:=a.text) hvc (by omega) (by omega) (by omega);have hfl:(v.columns.filter fun x=>x != a.text).length<=K:=ZT (List.length_filter_le _ _) hvc;cases g1:(AU [2,5,5] [a,u,v]).2.1
 ·obtain⟨g2,g3⟩:=By g1;obtain⟨_,hk1,hk2⟩:=kb3 g3;have htag:=G3 g1;have ou:=JY (g2 u (by simp)) hk1;have ov:=JY (g2 v (by simp)) hk2;have ru:=Ha (g2 u (by simp)) hk1;have rv:=Ha (g2 v (by simp)) hk2;have su:=Pk (g2 u (by simp)) hk1;have sv:=Pk (g2 v (by simp)) hk2;have dv:=xDK (xDD (g2 v (by simp)) hk2);have il:0+u.columns.length<=Lim:=by grind [Lim]
  have il2:([]++u.columns).length+(v.columns.filter fun x=>x != a.text).length<=Lim:=by grind [Lim]
  rcases Ji (s:=a.text) (xs:=u.columns) (j:=0) with ⟨hi,_⟩|⟨i,hi1,hi,_,_⟩
  ·have hneg:AM u.columns a.text 0<0:=by omega
   refine⟨?_,?_⟩
   ·simp only [GK,Val.re_eq,h1,jS,g1,htag,jF,i1,i2,w1,Zt il,Zt il2,Zz hneg,jT,AJ,Cn,EL];rfl
   ·simp only [HE,Val.re_eq,h2,jS,g1,jF,j1,j2,Zz hneg,jT,AK,Cn,EL];rfl
  ·rw [Zc] at hi;have hni:¬(i:Int)<0:=by omega
   rcases Ji (s:=a.text) (xs:=v.columns) (j:=0) with ⟨hk,_⟩|⟨k,hk1',hk,hks,_⟩
   ·have hneg:AM v.columns a.text 0<0:=by omega
    refine⟨?_,?_⟩
    ·simp only [GK,Val.re_eq,h1,jS,g1,htag,jF,i1,i2,w1,Zt il,Zt il2,hi,Zw hni,Zz hneg,jT,AJ,Cn,EL];rfl
    ·simp only [HE,Val.re_eq,h2,jS,g1,jF,j1,j2,hi,Zw hni,Zz hneg,jT,AK,Cn,EL];rfl
   ·rw [Zc] at hk;have hnk:¬(k:Int)<0:=by omega
    have hwo:=xLa dv hks;rw [hwo] at w1 il2;have il3:u.columns.length+(v.columns.take k++v.columns.drop (k+1)).length<=Lim:=by grind
    have w:i64.wrap ((k:Int)+1)=((k+1:Nat):Int):=wn _ (by omega) (by omega);have c1:(0:Int)<=(k:Int)/\(k:Int)<=(v.columns.length:Int):=by omega
    have c2:u.columns.length+(v.columns.take k).length<=Lim:=by grind
    have c3:(0:Int)<=((k+1:Nat):Int)/\((k+1:Nat):Int)<=(v.columns.length:Int):=by omega
    have c4:(u.columns++v.columns.take k).length+(v.columns.drop (k+1)).length<=Lim:=by grind
    generalize hcs:u.columns++(v.columns.take k++v.columns.drop (k+1))=cs;have hcs2:(u.columns++v.columns.take k)++v.columns.drop (k+1)=cs:=by grind
    have hcl:cs.length<=2*K:=by grind
    have hRu:Ep K i u.rows:=fun t ht=>by
     have:=u7.2 t ht;have e:=ru t ht;exact⟨by omega,by omega,this.2.1⟩
    have hRv:Ep K k v.rows:=fun t ht=>by
     have:=v7.2 t ht;have e:=rv t ht;exact⟨by omega,by omega,this.2.1⟩
    have l1:=xFJ (N:=N) (K:=K) (i:=i) (k:=k) (rs:=u.rows) (v:=v) (z:=Val.mk 0 0 0 [] [] [] []) (cs:=cs) (by omega) (by omega) hK.1 ou.2 ov.2 hRu hRv;have l2:=xJu (N:=N) (K:=K) (i:=i) (k:=k) (u:=u) (v:=v) (z:=Val.mk 0 0 0 [] [] [] []) (cs:=cs) (by omega) hN hK.1 ou.2 ov.2 hRu hRv su sv;have d1:=OA (N:=N) (xs:=cs) (by omega) (by omega);have d2:=M7 (N:=N) (xs:=cs) (by omega) (by omega);refine⟨?_,?_⟩
    ·simp only [GK,Val.re_eq,h1,jS,g1,htag,jF,i1,i2,w1,Zt il,hi,hk,Zw hni,Zw hnk,AJ,Cn,EL,jM,Zt il3,jI,hcs,d1,l1];cases CG cs
     ·rfl
     ·simp only [jU,jF];rcases Yj 4 cs.length with h|h
      ·simp only [show ∀inst:Decidable ((cs.length:Int)>4),@decide _ inst=true from fun inst=>Zz (by omega),jT];rfl
      grind
    ·simp only [HE,Val.re_eq,h2,jS,g1,jF,j1,j2,Zt il,hi,hk,Zw hni,Zw hnk,AK,Cn,EL,jM,jI,w,Zt c1,Zt c2,Zt c3,Zt c4,hcs,hcs2,d2,l2];cases CG cs
     ·rfl
     ·simp only [jU,jF];rcases Yj 4 cs.length with h|h
      ·simp only [show ∀inst:Decidable ((cs.length:Int)>4),@decide _ inst=true from fun inst=>Zz (by omega),jT];rfl
      grind
 grind [GK,Val.re_eq,CU,Cn,HE]
def SI(l:List Int):Prop:=l.Pairwise fun x y=>x<y
def DC(x:Int):List Int->List Int
 | []=> [x]
 |y::l=>if y=x then y::l else if x<y then x::y::l else y::DC x l
theorem O6{x z:Int}:∀ {l:List Int},z∈DC x l↔z=x\/z∈l
 | []=>by simp [DC]
 |y::l=>by
  unfold DC;split
  ·grind
  ·split
   ·simp
   ·rw [Zh,O6,Zh]
    grind
theorem Ue{x:Int}:∀ {l:List Int},SI l->SI (DC x l)
 | [],_=>by simp [DC,SI]
 |y::l,h=>by
  have h' :=Z7.1 h;unfold DC;split
  ·exact h
  ·rename_i hne;split
   ·rename_i hlt;refine Z7.2 ⟨fun z hz=> ?_,h⟩
    grind
   ·rename_i hge;refine Z7.2 ⟨fun z hz=> ?_,Ue h'.2⟩
    grind [O6]
theorem Uf:∀ {l m:List Int},SI l->SI m->(∀x,x∈l↔x∈m)->l=m
 | [],[],_,_,_=>rfl
 | [],y::m,_,_,h=>absurd ((h y).2 Zp) (by simp)
 |x::l,[],_,_,h=>absurd ((h x).1 Zp) (by simp)
 |x::l,y::m,hl,hm,h=>by
  have hl' :=Z7.1 hl;have hm' :=Z7.1 hm;have e:x=y:=by
   grind [List.mem_cons_self]
  subst e;refine Zl (x:: ·) (Uf hl'.2 hm'.2 fun z=>⟨fun hz=> ?_,fun hz=> ?_⟩)
  all_goals grind
theorem MQ(i:Nat)(rs:List Rowd)(r:Rowd):vF i (rs++ [r])=if hD i r∈vF i rs then vF i rs else vF i rs++ [hD i r]:=by
 grind [vF]
theorem On(i k:Nat)(rs:List Rowd)(r:Rowd)(y:Int):pA i k (rs++ [r]) y=if hD i r=y then IntKind.i64.wrap (pA i k rs y+hD k r) else pA i k rs y:=by
 grind [pA]
theorem IR(i:Nat)(rs:List Rowd)(r:Rowd)(y:Int):vE i (rs++ [r]) y=if hD i r=y then rM (vE i rs y) r.frm else vE i rs y:=by
 grind [vE]
theorem Gl{α:Type}{p:List α->Prop}(h0:p [])(h1:∀l a,p l->p (l++ [a])):∀(n:Nat) (l:List α),l.length=n->p l:=by
 intro n
 induction n with
 |zero=>grind
 |succ n ih=>
  intro l h;have e:l=l.take n++ [l[n]'(by omega)]:=by rw [<-YX (by omega)];grind
  grind
theorem xHK(i:Nat)(rs:List Rowd):(vF i rs).Nodup:=by
 refine Gl (p:=fun rs=>(vF i rs).Nodup) YS (fun l r h=> ?_) _ rs rfl
 grind [MQ]
theorem xHL{i:Nat}{x:Int}(k:Nat)(rs:List Rowd):x ∉ vF i rs->pA i k rs x=0/\vE i rs x=[]:=by
 refine Gl (p:=fun rs=>x ∉ vF i rs->pA i k rs x=0/\vE i rs x=[]) (fun _=>⟨rfl,rfl⟩) (fun l r h hx=> ?_) _ rs rfl
 grind [vF,On,IR]
theorem Om(i:Nat)(rs:List Rowd):SI (o9 i rs):=by
 have h1:(o9 i rs).Pairwise fun x y=>decide (x<=y)=true:=YN (fun x y z h1 h2=>by grind) (fun x y=>by grind) _;have h2:(o9 i rs).Nodup:=(Y4 _ _).nodup_iff.2 (xHK i rs);refine(h1.and h2).imp fun {x y} h=> ?_
 grind
theorem O7{i:Nat}{rs:List Rowd}{x:Int}:x∈o9 i rs↔x∈vF i rs:=YZ
theorem xHN(i:Nat)(rs:List Rowd)(r:Rowd):o9 i (rs++ [r])=DC (hD i r) (o9 i rs):=by
 grind [Uf,Om,Ue,O7,MQ,O6]
theorem Ol(i:Nat)(rs:List Rowd):(o9 i rs).length<=rs.length:=by
 have h0:(o9 i rs).length=(vF i rs).length:=Y7 _;rw [h0];refine Gl (p:=fun rs=>(vF i rs).length<=rs.length) (Zn _) (fun l r h=> ?_) _ rs rfl
 grind [MQ]
theorem xHI{i L:Nat}{x:Int}(rs:List Rowd)(h:∀r∈rs,r.frm.length<=L):(vE i rs x).length<=rs.length*L:=by
 refine Gl (p:=fun rs=>(∀r∈rs,r.frm.length<=L)->(vE i rs x).length<=rs.length*L) (fun _=>by simp [vE]) (fun l r ih h=> ?_) _ rs rfl h
 grind [xKW,IR,Nat.add_mul]
theorem UY{i:Nat}{x:Int}(rs:List Rowd):SO (vE i rs x):=by
 refine Gl (p:=fun rs=>SO (vE i rs x)) List.Pairwise.nil (fun l r ih=> ?_) _ rs rfl
 grind [IR,Po]
def Aa(s:Int->Int)(g:Int->List Org)(y:Int):Rowd:=⟨[y,s y],g y⟩
def D7(s:Int->Int)(g:Int->List Org)(x v:Int)(f:List Org):List Int->List Rowd
 | []=> [⟨[x,v],f⟩]
 |y::l=>if y=x then⟨[x,IntKind.i64.wrap (s x+v)],rM (g x) f⟩::l.map (Aa s g) else if x<y then⟨[x,v],f⟩::Aa s g y::l.map (Aa s g) else Aa s g y::D7 s g x v f l
theorem UW{s s' :Int->Int}{g g' :Int->List Org}{x v:Int}{f:List Org}(hs:∀y,s' y=if x=y then IntKind.i64.wrap (s y+v) else s y)(hg:∀y,g' y=if x=y then rM (g y) f else g y):
 ∀ {l:List Int},SI l->(x ∉ l->s' x=v/\g' x=f)->D7 s g x v f l=(DC x l).map (Aa s' g')
 | [],_,h=>by
   grind [D7,DC,Aa]
 |y::l,hl,h=>by
  have hl' :=Z7.1 hl;have same:∀z,z≠x->Aa s' g' z=Aa s g z:=fun z hz=>by grind [Aa]
  unfold D7 DC;by_cases e:y=x
  ·grind [Aa,List.map_congr_left]
  ·rw [Za e,Za e];by_cases hlt:x<y
   ·grind [Aa,List.map_congr_left]
   ·rw [Za hlt,Za hlt,ZX,same y e]
    congr 1
    exact UW hs hg hl'.2 fun hx=>h fun hm=>(Zh.1 hm).elim (fun e2=>e e2.symm) hx
theorem xHM{i k:Nat}{rs:List Rowd}{r:Rowd}(h1: -1000000000<=hD k r/\hD k r<=1000000000)(h2:SO r.frm):
 D7 (pA i k rs) (vE i rs) (hD i r) (hD k r) r.frm (o9 i rs)=vG i k (rs++ [r]):=by
 unfold vG;rw [xHN];refine UW (fun y=>On i k rs r y) (fun y=>IR i rs r y) (Om i rs) fun hx=> ?_;obtain⟨a,b⟩:=xHL k rs (fun h=>hx (O7.2 h));rw [On,IR,Zt rfl,Zt rfl,a,b];refine⟨?_,?_⟩
 ·grind [Af]
 ·rw [<-Tr List.Pairwise.nil h2,mrg]
theorem UV{N K:Nat}{s:Int->Int}{g:Int->List Org}{x v:Int}{f:List Org}{xs:List Int}(hl:xs.length<=1000):∀(n j:Nat) (acc:List Rowd),j<=xs.length->xs.length<n+j->acc.length<=20000+j->(∀y∈xs.drop j,x<y)->
 CN N n (xs.map (Aa s g)) x v f acc true (j:Int)=some (acc++(xs.drop j).map (Aa s g)):=by
 intro n
 induction n with
 |zero=>grind
 |succ n ih=>
  intro j acc hj hn hacc hgt;have hml:(xs.map (Aa s g)).length=xs.length:=Zm _;cases hd:xs.drop j with
  |nil=>
   grind [CN]
  |cons y l=>
   obtain⟨h1,h2,h3⟩:=Bk hd;have hj' :(j:Int)<(xs.length:Int):=by omega
   have hy:x<y:=hgt y (by grind);have hg:(xs.map (Aa s g))[j]? =some (Aa s g y):=by grind
   have e1:(y==x)=false:=ZR.2 (by omega);have e2:decide (y>x)=true:=Zz (by omega);have:=ih (j+1) (acc++ [Aa s g y]) (by omega) (by omega) (by grind) (fun z hz=>hgt z (by grind));rw [h3] at this;simp only [CN,hml,Zz hj',jT,jI,AR hg,Aa,jC,jN,Int.toNat_zero,ZD,e1,jF,e2,jU,AL h1 (by omega:xs.length<=_)]
   grind [Lim,Aa]
theorem xHH{N K:Nat}{s:Int->Int}{g:Int->List Org}{x v:Int}{f:List Org}{xs:List Int}(hl:xs.length<=1000)(hsi:SI xs)(hf:SO f)(hg:SO (g x))(hfl:f.length<=10000000000)(hgl:(g x).length<=10000000000)(hN:(g x).length+f.length<N):∀(n j:Nat) (acc:List Rowd),j<=xs.length->xs.length<n+j->acc.length<=10000+j->
 CN N n (xs.map (Aa s g)) x v f acc false (j:Int)=some (acc++D7 s g x v f (xs.drop j)):=by
 intro n
 induction n with
 |zero=>grind
 |succ n ih=>
  intro j acc hj hn hacc;have hml:(xs.map (Aa s g)).length=xs.length:=Zm _;cases hd:xs.drop j with
  |nil=>
   grind [CN,D7,jN,Lim]
  |cons y l=>
   obtain⟨h1,h2,h3⟩:=Bk hd;have hj' :(j:Int)<(xs.length:Int):=by omega
   have hg' :(xs.map (Aa s g))[j]? =some (Aa s g y):=by grind
   have hsd:SI (y::l):=by rw [<-hd];exact List.Pairwise.sublist (List.drop_sublist _ _) hsi
   have hyl:=(Z7.1 hsd).1;by_cases e:y=x
   ·subst e;have:=UV (N:=N) (K:=K) (s:=s) (g:=g) (x:=y) (v:=v) (f:=f) hl n (j+1) (acc++ [⟨[y,IntKind.i64.wrap (s y+v)],rM (g y) f⟩]) (by omega) (by omega) (by grind) (fun z hz=>by grind);rw [h3] at this;have e2:decide (y>y)=false:=Zw (by omega);simp only [CN,hml,Zz hj',jT,jI,AR hg',Aa,jC,jN,Int.toNat_zero,ZD,Yc,show Int.toNat 1=1 from rfl,Y3,xAZ (N:=N) hg hf (by omega) (by omega),jS,e2,jF,AL h1 (by omega:xs.length<=_)]
    grind [Lim,D7]
   ·have e1:(y==x)=false:=ZR.2 e;by_cases hlt:x<y
    ·have:=UV (N:=N) (K:=K) (s:=s) (g:=g) (x:=x) (v:=v) (f:=f) hl n (j+1) ((acc++ [⟨[x,v],f⟩])++ [Aa s g y]) (by omega) (by omega) (by grind) (fun z hz=>by grind);rw [h3] at this;have e2:decide (y>x)=true:=Zz (by omega);simp only [CN,hml,Zz hj',jT,jI,AR hg',Aa,jC,jN,Int.toNat_zero,ZD,e1,jF,e2,jV,jM,jA,AL h1 (by omega:xs.length<=_)]
     grind [Lim,Aa,D7]
    ·have:=ih (j+1) (acc++ [Aa s g y]) (by omega) (by omega) (by grind);rw [h3] at this;have e2:decide (y>x)=false:=Zw (by omega);simp only [CN,hml,Zz hj',jT,jI,AR hg',Aa,jC,jN,Int.toNat_zero,ZD,e1,jF,e2,AL h1 (by omega:xs.length<=_)]
     grind [Lim,Aa,D7]
structure GRowOk (K i k:Nat) (t:Rowd):Prop where
 hi:i<t.cells.length
 hk:k<t.cells.length
 f:t.frm.length<=K
 so:SO t.frm
 num: -1000000000<=hD k t/\hD k t<=1000000000
theorem xKn{N K i k:Nat}{rs:List Rowd}{r:Rowd}(hK:K<=100000000)(hN:20*K<N)(hK2:1000<=K)(hl:rs.length<=12)(h:∀t∈rs,GRowOk K i k t)(hr:GRowOk K i k r):
 Ph N (vG i k rs) (hD i r) (hD k r) r.frm=some (vG i k (rs++ [r])):=by
 have h1:=Ol i rs;have h2:=xHI (i:=i) (x:=hD i r) (L:=K) rs fun t ht=>(h t ht).f;have h3:rs.length*K<=12*K:=Yh hl (Zn _);have h4:=hr.f;have:=xHH (N:=N) (K:=K) (s:=pA i k rs) (g:=vE i rs) (x:=hD i r) (v:=hD k r) (f:=r.frm) (xs:=o9 i rs) (by omega) (Om i rs) hr.so (UY rs) (by omega) (by omega) (by omega) N 0 [] (Zg _) (by omega) (by simp);rw [Yr,jM,xHM hr.num hr.so] at this;exact this
theorem xD5{i:Nat}{t:Rowd}:List.getD t.cells i Di=hD i t:=rfl
theorem xJr{N:Nat}{a b:Str}{z:Val}{xs:List Int}{s:Int->Int}{g:Int->List Org}(hl:xs.length<=1000)(hN:1000<N):
 FZ N N 0 z (.mk 5 0 0 [] [] [a,b] (xs.map (Aa s g)))=some (if xs.all (fun x=>xO (s x))=true then .mk 5 0 0 [] [] [a,b] (xs.map (Aa s g)) else AO 5):=by
 have:=A3 (L:=fun m j (_:Unit)=>FZ N m j z (.mk 5 0 0 [] [] [a,b] (xs.map (Aa s g)))) xs (fun l _=>if l.all (fun x=>xO (s x))=true then .mk 5 0 0 [] [] [a,b] (xs.map (Aa s g)) else AO 5) (fun _ _=>True)
  (fun n q _=>by
    grind [FZ,vr])
  (fun j x l q hd hj hx _=>by
    have hj' :(j:Int)<(xs.length:Int):=by omega
    have hg:(xs.map (Aa s g))[j]? =some (Aa s g x):=by grind
    cases hnum:xO (s x) with
    |true=>
     refine .inl ⟨(),trivial,by grind,fun n=> ?_⟩;simp only [FZ,vr,Zm,Zz hj',jT,jI,AR hg,Aa,jC,jN,show Int.toNat 1=1 from rfl,Y3,ZD,DO,jS,show AY (s x)=true from hnum,jU,jF,AL hj (by omega:xs.length<=_)]
     grind
    |false=>
     refine .inr fun n=> ?_;simp only [FZ,vr,Zm,Zz hj',jT,jI,AR hg,Aa,jC,jN,show Int.toNat 1=1 from rfl,Y3,ZD,DO,jS,show AY (s x)=false from hnum,jV,AK]
     grind [AO]) N 0 () trivial (Zg _) (by omega)
 grind
theorem xJs{N K i k:Nat}{t z:Val}{a b:Str}(hK:K<=100000000)(hN:20*K<N)(hK2:1000<=K)(hl:t.rows.length<=12)(h:∀r∈t.rows,GRowOk K i k r):
 HC N N (i:Int) (k:Int) 0 t z (.mk 5 0 0 [] [] [a,b] [])=some (if(o9 i t.rows).all (fun x=>xO (pA i k t.rows x))=true then .mk 5 0 0 [] [] [a,b] (vG i k t.rows) else AO 5):=by
 have hlk:=Ol i t.rows
 exact A3 (L:=fun m j q=>HC N m (i:Int) (k:Int) j t z (.mk 5 0 0 [] [] [a,b] q)) t.rows (fun _ _=>if(o9 i t.rows).all (fun x=>xO (pA i k t.rows x))=true then Val.mk 5 0 0 [] [] [a,b] (vG i k t.rows) else AO 5) (fun j q=>q=vG i k (t.rows.take j))
  (fun n q hq=>by
    have hq:q=vG i k (t.rows.take t.rows.length):=hq;rw [YV] at hq;subst hq;simp only [HC,Zd,Z9,jF];exact xJr (by omega) (by omega))
  (fun j x l q hd hj hx hq=>by
    have hj' :(j:Int)<(t.rows.length:Int):=by omega
    have hm:=h x (Zy hx);have hti:t.rows.take (j+1)=t.rows.take j++ [x]:=by
     grind
    refine .inl ⟨vG i k (t.rows.take (j+1)),rfl,rfl,fun n=> ?_⟩;have hp:=xKn (N:=N) (K:=K) (i:=i) (k:=k) (rs:=t.rows.take j) (r:=x) hK hN hK2 (by grind) (fun r hr=>h r (ZM hr)) hm;have hq:q=vG i k (t.rows.take j):=hq;rw [<-hq,<-hti] at hp;have hi:=hm.hi;have hk:=hm.hk;simp only [HC,Zz hj',jT,jI,AR hx,xD5,vk,vn,vs,vt,vl,vc,vr,hp,jS,AL hj (by omega:t.rows.length<=_)]
    grind) N 0 [] (by simp [vG,o9,vF]) (Zg _) (by omega)
def Cy(i k:Int)(a b t:Val):Val:=bif decide (i<0) then AO 7 else bif decide (k<0) then AO 7 else bif i==k then AO 7 else
 if(o9 i.toNat t.rows).all (fun x=>xO (pA i.toNat k.toNat t.rows x))=true then .mk 5 0 0 [] [] [a.text,b.text] (vG i.toNat k.toNat t.rows) else AO 5
def CX(a b t:Val):Val×Bool:=bif(AU [2,2,5] [a,b,t]).2.1 then((AU [2,2,5] [a,b,t]).1,(AU [2,2,5] [a,b,t]).2.2) else(Cy (AM t.columns a.text 0) (AM t.columns b.text 0) a b t,false)
theorem xKM{v:Val}(hv:AP v=true)(hk:v.kind=5):∀r∈v.rows,∀k,k<r.cells.length-> -1000000000<=hD k r/\hD k r<=1000000000:=by
 grind [BN,Aw,List.getElem?_of_mem,Ft,D8,AY,hD]
theorem xEt{K:Nat}(hK:1000<=K/\K<=100000000){a b t:Val}(ha:a.Fit K)(hb:b.Fit K)(ht:t.Fit K):Big fun N=>FB N a b t=some (CX a b t)/\FY N a b t=some (CX a b t).1:=by
 obtain⟨_,_,_,_,_,t6,t7⟩:=Val.fit_iff.1 ht;have htc:t.columns.length<=K:=t6.1;refine((EM (by omega) (vs:=[a,b,t]) (ks:=[2,2,5]) (JZ ha hb ht) (by grind) rfl).and (Ap (20*K))).imp fun N ⟨⟨h1,h2⟩,hN⟩=> ?_;obtain⟨e1,e2,e3,_⟩:=Dn (ks:=[2,2,5]) (JZ ha hb ht);have i1:=Dq (N:=N) (v:=t) (s:=a.text) (by omega) (by omega);have i2:=Dq (N:=N) (v:=t) (s:=b.text) (by omega) (by omega);have j1:=DH (N:=N) (v:=t) (s:=a.text) (by omega) (by omega);have j2:=DH (N:=N) (v:=t) (s:=b.text) (by omega) (by omega);cases g1:(AU [2,2,5] [a,b,t]).2.1
 ·obtain⟨g2,g3⟩:=By g1;obtain⟨_,_,hk2⟩:=kb3 g3;have htag:=G3 g1;have ot:=JY (g2 t (by simp)) hk2;have rt:=Ha (g2 t (by simp)) hk2;have st:=Pk (g2 t (by simp)) hk2;have nt:=xKM (g2 t (by simp)) hk2;rcases Ji (s:=a.text) (xs:=t.columns) (j:=0) with ⟨hi,_⟩|⟨i,hi1,hi,hia,_⟩
  ·have hneg:AM t.columns a.text 0<0:=by omega
   refine⟨?_,?_⟩
   ·simp only [FB,Val.re_eq,h1,jS,g1,htag,jF,i1,i2,Zz hneg,jT,AJ,CX,Cy];rfl
   ·simp only [FY,Val.re_eq,h2,jS,g1,jF,j1,j2,Zz hneg,jT,AK,CX,Cy];rfl
  ·rw [Zc] at hi;have hni:¬(i:Int)<0:=by omega
   rcases Ji (s:=b.text) (xs:=t.columns) (j:=0) with ⟨hk,_⟩|⟨k,hk1',hk,hks,_⟩
   ·have hneg:AM t.columns b.text 0<0:=by omega
    refine⟨?_,?_⟩
    ·simp only [FB,Val.re_eq,h1,jS,g1,htag,jF,i1,i2,hi,Zw hni,Zz hneg,jT,AJ,CX,Cy];rfl
    ·simp only [FY,Val.re_eq,h2,jS,g1,jF,j1,j2,hi,Zw hni,Zz hneg,jT,AK,CX,Cy];rfl
   ·rw [Zc] at hk;have hnk:¬(k:Int)<0:=by omega
    have heq:(a.text==b.text)=((i:Int)==(k:Int)):=by
     grind
    by_cases hik:(i:Int)=(k:Int)
    ·have b1:((i:Int)==(k:Int))=true:=beq_iff_eq.2 hik;refine⟨?_,?_⟩
     ·simp only [FB,Val.re_eq,h1,jS,g1,htag,jF,i1,i2,hi,hk,Zw hni,Zw hnk,heq,b1,jT,AJ,CX,Cy];rfl
     ·simp only [FY,Val.re_eq,h2,jS,g1,jF,j1,j2,hi,hk,Zw hni,Zw hnk,b1,jT,AK,CX,Cy];rfl
    ·have b1:((i:Int)==(k:Int))=false:=ZR.2 hik;have hR:∀r∈t.rows,GRowOk K i k r:=fun r hr=>by
      have e:=rt r hr;exact⟨by omega,by omega,(t7.2 r hr).2.1,st r hr,nt r hr k (by omega)⟩
     have l2:=xJs (N:=N) (K:=K) (i:=i) (k:=k) (t:=t) (z:=Val.mk 0 0 0 [] [] [] []) (a:=a.text) (b:=b.text) hK.2 hN hK.1 ot.2 hR;have l1:zX (i:Int) (k:Int) a b t=some (if(o9 i t.rows).all (fun x=>xO (pA i k t.rows x))=true then Val.mk 5 0 0 [] [] [a.text,b.text] (vG i k t.rows) else Val.mk 6 5 0 [] [] [] [],false):=by
      have hall:t.rows.all (yL (i:Int).toNat (k:Int).toNat)=true:=by
       rw [Zx];intro r hr;have:=hR r hr;have h1:=this.hi;have h2:=this.hk;have h3:=this.f
       grind [yL]
      grind [zX]
     refine⟨?_,?_⟩
     ·simp only [FB,Lf,Val.re_eq,h1,jS,g1,htag,jF,i1,i2,hi,hk,Zw hni,Zw hnk,heq,b1,l1,CX,Cy,jI];rfl
     grind [FY,Val.re_eq,CX,Cy]
 grind [FB,Val.re_eq,CU,CX,FY]
theorem xHJ{i:Nat}{x:Int}(rs:List Rowd):x∈vF i rs->∃r∈rs,hD i r=x:=by
 refine Gl (p:=fun rs=>x∈vF i rs->∃r∈rs,hD i r=x) (fun h=>by cases h) (fun l r ih h=> ?_) _ rs rfl
 grind [MQ]
theorem UX{i:Nat}{x:Int}{o:Org}(rs:List Rowd):o∈vE i rs x->∃r∈rs,hD i r=x/\o∈r.frm:=by
 refine Gl (p:=fun rs=>o∈vE i rs x->∃r∈rs,hD i r=x/\o∈r.frm) (fun h=>by cases h) (fun l r ih h=> ?_) _ rs rfl
 grind [IR,MM]
theorem QH{α ρ:Type}{L:Nat->Int->Option ρ}{x0:List α}{p:α->Bool}{e b:Option ρ}(hend:∀n,L (n+1) (x0.length:Nat)=e)
 (hcons:∀(i:Nat) x n,i<x0.length->x0[i]? =some x->x∈x0->L (n+1) (i:Nat)=bif p x then L n ((i+1:Nat):Int) else b) {n:Nat} (hn:x0.length<n):
 L n 0=bif x0.all p then e else b:=by
 have key:∀(m i:Nat),i<=x0.length->x0.length<m+i->L m (i:Nat)=bif(x0.drop i).all p then e else b:=by
  intro m
  induction m with
  |zero=>grind
  |succ m ih=>
   intro i h1 h2;cases hd:x0.drop i with
   |nil=>
    have:=Hg hd
    grind
   |cons x l=>
    grind [Bk]
 exact key n 0 (by omega) (by omega)
theorem LK{K:Nat}(hK:24<=K/\K<=137438953472){l:List Val}(h:Aj K (Val.Fit K) l):Big fun N=>Hn N l=some (BP l)/\Gv N l=some (BP l):=by
 have hl:l.length<=K:=h.1;have hv:(Val.mk 3 0 0 [] l [] []).Fit K:=xGU h;have hof:(opG l).1.Fit K:=(Jf h.2).fit K;refine((IM (by omega) h.2 hl).and ((Jz h (by omega)).and ((Big.list fun x hx=>DL (h.2 x hx) (by omega)).and ((Ql (by omega) hv).and ((FG hof (by omega)).and ((DL hof (by omega)).and (Ap K))))))).imp fun N ⟨⟨h1,h2⟩,h3,h4,h5,h6,h7,hN⟩=> ?_;have hsl:=PM (N:=N) (by omega:l.length<=_) (by omega) h4;have hil:DY N l=some (.mk 3 0 0 [] l [] []):=by grind [DY]
 cases g1:(opG l).2.1
 ·have hok:=FN g1;obtain⟨d1,d2⟩:=h5 hok;have htag:=IL g1;have hi1:DW N N l l l.length 0 (Val.mk 0 0 0 [] [] [] [])=some (BP l):=by
   have:=QH (L:=fun m i=>DW N m l l l.length i (Val.mk 0 0 0 [] [] [] [])) (x0:=l) (p:=BQ) (e:=some (bif decide ((l.length:Int)>8) then AO 6 else bif decide ((Val.mk 3 0 0 [] l [] []).dep>3) then AO 6 else .mk 3 0 0 [] l [] [])) (b:=some (AO 4)) (n:=N)
    (fun n=>by
      simp only [DW,Zd,Z9,jF,hil,jS,d1,AJ];cases decide ((l.length:Int)>8) <;>cases decide ((Val.mk 3 0 0 [] l [] []).dep>3) <;>rfl)
    (fun i x n hi hx hm=>by
      have hi' :(i:Int)<(l.length:Int):=by omega
      simp only [DW,Zz hi',jT,jI,AR hx,AL hi (by omega:l.length<=_),AJ,jS,bne,BQ];rw [Zt (by omega)];cases (x.kind==1) <;>cases (x.kind==2) <;>cases (x.kind==3) <;>rfl) (by omega)
   grind [BP]
  have hi2:Gw N N l 0 (Val.mk 0 0 0 [] [] [] [])=some (BP l):=by
   have:=QH (L:=fun m i=>Gw N m l i (Val.mk 0 0 0 [] [] [] [])) (x0:=l) (p:=BQ) (e:=some (bif decide ((l.length:Int)>8) then AO 6 else bif decide ((Val.mk 3 0 0 [] l [] []).dep>3) then AO 6 else .mk 3 0 0 [] l [] [])) (b:=some (AO 4)) (n:=N)
    (fun n=>by
      simp only [Gw,Zd,Z9,jF,hsl,jS,d2,AK];cases decide ((l.length:Int)>8) <;>cases decide ((Val.mk 3 0 0 [] l [] []).dep>3) <;>rfl)
    (fun i x n hi hx hm=>by
      have hi' :(i:Int)<(l.length:Int):=by omega
      simp only [Gw,Ko,Zz hi',jT,jI,AR hx,AL hi (by omega:l.length<=_),AK,jS,BQ];rw [Zt (by omega)];cases (x.kind==1) <;>cases (x.kind==2) <;>cases (x.kind==3) <;>rfl) (by omega)
   grind [BP]
  grind [Hn,Gv]
 grind [Hn,BP,Gv]
theorem O0{i k:Nat}{r x:Rowd}:∀ {ts:List Rowd},x∈jr i k r ts->∃t∈ts,x=ES k r t/\r.cells.getD i Di=t.cells.getD k Di
 | [],h=>by cases h
 |t::ts,h=>by
  unfold jr at h;cases hc:(r.cells.getD i Di==t.cells.getD k Di)
  ·rw [hc,jF] at h;obtain⟨t',h1,h2⟩:=O0 h
   grind
  ·rw [hc,jT] at h;rcases Zh.1 h with e|h
   ·grind
   ·obtain⟨t',h1,h2⟩:=O0 h
    grind
theorem T7{i k:Nat}{ts:List Rowd}{x:Rowd}:∀ {rs:List Rowd},x∈jrs i k ts rs->∃r∈rs,∃t∈ts,x=ES k r t/\r.cells.getD i Di=t.cells.getD k Di
 | [],h=>by cases h
 |r::rs,h=>by
  rcases Zf.1 h with h|h
  ·grind [O0]
  ·obtain⟨r',h1,h2⟩:=T7 h
   grind
def C4(n:Int):Val:=bif AY n then AX n else AO 5
theorem xHg {n:Int}(h:AY n=true):I64 n:=by
 unfold AY at h;simp only [Zu,ZU] at h;exact⟨by omega,by omega⟩
theorem xDX(n:Int):Flat (C4 n):=by
 grind [C4,Hj,Ac,L3,xHg]
theorem TP(N:Nat)(n:Int):Ez N n=some (C4 n):=by
 simp only [Ez,D2,jS,AJ,Ax,C4];cases AY n <;>rfl
theorem PQ(N:Nat)(n:Int):Dd N n=some (C4 n):=by
 simp only [Dd,DO,jS,AK,A6,C4];cases AY n <;>rfl
def IW(n v:Val):Bool:=(n.kind != 1)||((v.kind != 3)&&(v.kind != 4))
def Al(n v:Val):Val×Bool×Bool:=bif(opG [n,v]).2.1 then opG [n,v] else(AO 4,IW n v,false)
def DG(n v:Val):Val×Bool:=bif(Al n v).2.1 then((Al n v).1,true) else(Cp,false)
theorem Nw{K:Nat}{n v:Val}(hn:n.Fit K)(hv:v.Fit K):Flat (Al n v).1:=by
 unfold Al;cases (opG [n,v]).2.1
 ·grind [Hj,Ac]
 ·exact Jf (Em hn hv)
theorem Gk{n v:Val}(h:(Al n v).2.1=false):(Al n v).2.2=false/\AP v=true/\n.kind=1/\(v.kind=3\/v.kind=4)/\AP n=true:=by
 grind [Al,FN,IW]
theorem xGV{v:Val}(hv:AP v=true)(hk:v.kind=3):v.list.length<=8/\∀x∈v.list,(x.kind==6)=false:=by
 grind [BN,Fn,BQ]
theorem Ou{K:Nat}(hK:24<=K/\K<=4611686018427387903){n v:Val}(hn:n.Fit K)(hv:v.Fit K):Big fun N=>II N n v=some (Al n v)/\JW N n v=some (DG n v):=by
 refine(IM hK (l:=[n,v]) (Em hn hv) (by grind)).imp fun N ⟨h1,h2⟩=> ?_;obtain⟨e1,e2,e3,e4,e5⟩:=FM (l:=[n,v]);constructor
 ·simp only [II,Val.re_eq,h1,jS,e1,e2,e3,jE,Ys,CU e1 e2 e3,AJ,Al,IW];cases g:(opG [n,v]).2.1
  ·rw [IL g];cases (n.kind != 1) <;>cases (v.kind != 3) <;>cases (v.kind != 4) <;>rfl
  grind
 ·simp only [JW,Val.re_eq,h2,jS,AK,DG,Al,IW];cases g:(opG [n,v]).2.1
  ·cases (n.kind != 1) <;>cases (v.kind != 3) <;>cases (v.kind != 4) <;>rfl
  grind
def Ay(n v:Val):Val:=bif decide (n.n<0)||((v.kind==3)&&decide (n.n>=(v.list.length:Int))) then AO 5 else bif v.kind==3 then v.list.getD n.n.toNat Dv else C4 (IntKind.i64.wrap (v.n+IntKind.i64.wrap (n.n*v.step)))
def CA(n v:Val):Val×Bool:=bif(Al n v).2.1 then((Al n v).1,(Al n v).2.2) else(Ay n v,false)
theorem Oc{K:Nat}(hK:24<=K/\K<=137438953472){n v:Val}(hn:n.Fit K)(hv:v.Fit K):Big fun N=>CY N n v=some (CA n v)/\CL N n v=some (CA n v).1:=by
 obtain⟨_,_,_,_,h5,_,_⟩:=Val.fit_iff.1 hv;have hk:K<=137438953472:=hK.2;refine((Ou (by omega) hn hv).and (((Big.list fun x hx=>DL (h5.2 x hx) hk)).and (Big.list fun x hx=>FG (h5.2 x hx) hk))).imp fun N ⟨⟨h1,h2⟩,c1,c2⟩=> ?_;obtain⟨e1,e2,e3,_⟩:=Nw (K:=K) hn hv;cases g:(Al n v).2.1
 ·obtain⟨gt,_,_,gk,_⟩:=Gk g;have hget:∀h:0<=n.n/\n.n<(v.list.length:Int),v.list.getD n.n.toNat Dv∈v.list:=fun h=>by
   grind
  have hs:DG n v=(Cp,false):=by grind [DG]
  rw [hs] at h2;by_cases a:n.n<0
  ·simp only [CY,CL,h1,h2,jS,g,gt,jF,Zz a,jT,AJ,AK,CA,Ay,YJ]
   first |exact⟨rfl,rfl⟩|exact⟨trivial,trivial⟩
  ·cases b:(v.kind==3)
   ·grind [CY,CL,CA,Ay,TP,PQ]
   ·by_cases c:n.n>=(v.list.length:Int)
    ·simp only [CY,CL,h1,h2,jS,g,gt,jF,Zw a,Zz c,jT,AJ,AK,CA,Ay,Bool.false_or,b,ZV]
     first |exact⟨rfl,rfl⟩|exact⟨trivial,trivial⟩
    grind [CY,CL,CA,Ay]
 grind [DG,CY,CA,CL]
def EQ(n:Int)(l:Nat):Int:=if(l:Int)<n then(l:Int) else n
def skB(n v:Val):Val:=bif decide (n.n<0) then AO 5 else bif v.kind==3 then .mk 3 0 0 [] (v.list.drop (EQ n.n v.list.length).toNat) [] [] else bif(Ay n v).kind==6 then Ay n v else .mk 4 (Ay n v).n v.step [] [] [] []
def skG(n v:Val):Val×Bool:=bif(Al n v).2.1 then((Al n v).1,(Al n v).2.2) else(skB n v,false)
theorem xGR{α:Type}{K:Nat}{p:α->Prop}{l:List α}(h:Aj K p l)(k:Nat):Aj K p (l.drop k):=
 ⟨by have:=h.1;grind,fun x hx=>h.2 x (List.mem_of_mem_drop hx)⟩
theorem xIj{K:Nat}(hK:24<=K/\K<=137438953472){n v:Val}(hn:n.Fit K)(hv:v.Fit K):Big fun N=>GO N n v=some (skG n v)/\HH N n v=some (skG n v).1:=by
 obtain⟨_,_,_,_,h5,_,_⟩:=Val.fit_iff.1 hv;have hk:K<=137438953472:=hK.2;have hd:=xGR h5 (EQ n.n v.list.length).toNat;have hlen:v.list.length<=K:=h5.1;refine(((Ou (by omega) hn hv).and (Oc hK hn hv)).and ((Jz hd hk).and ((Big.list fun x hx=>DL (hd.2 x hx) hk).and (Ap K)))).imp fun N ⟨⟨⟨h1,h2⟩,n1,n2⟩,c1,c2,hN⟩=> ?_;obtain⟨e1,e2,e3,_⟩:=Nw (K:=K) hn hv;cases g:(Al n v).2.1
 ·obtain⟨gt,_,_,gk,_⟩:=Gk g;have hs:DG n v=(Cp,false):=by grind [DG]
  rw [hs] at h2;have hnt:CA n v=(Ay n v,false):=by grind [CA]
  rw [hnt] at n1 n2;by_cases a:n.n<0
  ·simp only [GO,HH,h1,h2,jS,g,gt,jF,Zz a,jT,AJ,AK,skG,skB]
   first |exact⟨rfl,rfl⟩|exact⟨trivial,trivial⟩
  ·cases b:(v.kind==3)
   ·grind [GO,HH,FC,It,skG,skB]
   grind [EQ,P3,PM,GO,HH,skG,skB,DY]
 grind [DG,GO,skG,HH]
theorem xHh{i:Int}(h0:0<=i)(h1:i<=8):AP (AX i)=true:=by
 grind [AY,BN,AX,vk,vn,vs,vt,vl,vc,vr,emp]
theorem xH8{n v:Val}(g:(Al n v).2.1=false){i:Int}(h0:0<=i)(h1:i<=8):(Al (AX i) v).2.1=false:=by
 obtain⟨_,hv,_,hk,_⟩:=Gk g;have h6:(v.kind==6)=false:=by grind
 have ho:opG [AX i,v]=(Cp,false,false):=by
  simp only [opG,xHh h0 h1,hv,h6,jU,jF,show((AX i).kind==6)=false from rfl]
 unfold Al;rw [ho];show IW (AX i) v=false;unfold IW;have e:((AX i).kind != 1)=false:=rfl
 grind
def DP(v:Val):Nat->Int->List Val->Val
 |0,_,acc=> .mk 3 0 0 [] acc [] []
 |m+1,i,acc=>bif(Ay (AX i) v).kind==6 then Ay (AX i) v else DP v m (i+1) (acc++ [Ay (AX i) v])
def Kw(n v:Val):Val:=bif !(decide (0<=n.n)&&decide (n.n<=8)) then AO 5 else bif v.kind==3 then .mk 3 0 0 [] (v.list.take n.n.toNat) [] [] else DP v n.n.toNat 0 []
def Ek(n v:Val):Val×Bool:=bif(Al n v).2.1 then((Al n v).1,(Al n v).2.2) else(Kw n v,false)
theorem xF5{N:Nat}{n v z:Val}(hn:n.n<=8)(hnth:∀i:Int,0<=i->i<=8->CY N (AX i) v=some (Ay (AX i) v,false)):
 ∀(m:Nat) (i:Int) (acc:List Val) (f:Nat),0<=i->i+m=n.n->acc.length<=1000 - m->m<=8->m<f->Hy N f i n v z (.mk 3 0 0 [] acc [] [])=some (DP v m i acc,false):=by
 intro m
 induction m with
 |zero=>
  intro i acc f h0 h1 h2 h3 h4;obtain⟨f,rfl⟩:∃g,f=g+1:=⟨f - 1,by omega⟩
  grind [Hy,DP]
 |succ m ih=>
  intro i acc f h0 h1 h2 h3 h4;obtain⟨f,rfl⟩:∃g,f=g+1:=⟨f - 1,by omega⟩;have hnum:Ax N i=some (AX i):=rfl;simp only [Hy,Zz (by omega:i<n.n),jT,hnum,hnth i h0 (by omega),jS,jF,Val.re_eq,vk,vn,vs,vt,vl,vc,vr,DP]
  grind [Lim,Af]
theorem xKw{N:Nat}{n v z:Val}(hn:n.n<=8)(hk:(v.kind==3)=false)(hnth:∀i:Int,0<=i->i<=8->CL N (AX i) v=some (Ay (AX i) v)):
 ∀(m:Nat) (i:Int) (acc:List Val) (f:Nat),0<=i->i+m=n.n->acc.length<=1000 - m->m<=8->m<f->DJ N f i n v z (.mk 3 0 0 [] acc [] [])=some (DP v m i acc):=by
 intro m
 induction m with
 |zero=>
  intro i acc f h0 h1 h2 h3 h4;obtain⟨f,rfl⟩:∃g,f=g+1:=⟨f - 1,by omega⟩
  grind [DJ,DP]
 |succ m ih=>
  intro i acc f h0 h1 h2 h3 h4;obtain⟨f,rfl⟩:∃g,f=g+1:=⟨f - 1,by omega⟩;have hnum:A6 N i=some (AX i):=rfl;simp only [DJ,Zz (by omega:i<n.n),hk,jT,hnum,hnth i h0 (by omega),jS,jF,Val.re_eq,vk,vn,vs,vt,vl,vc,vr,DP]
  grind [Lim,Af]
theorem xKv{N:Nat}{n v z:Val}(hn:n.n<=8)(hk:(v.kind==3)=true)(hl:v.list.length<=8)(h6:∀x∈v.list,(x.kind==6)=false)(hnth:∀i:Int,0<=i->i<=8->CL N (AX i) v=some (Ay (AX i) v)):
 ∀(m i:Nat) (acc:List Val) (f:Nat),(i:Int)+m=n.n->i<=v.list.length->acc.length<=1000 - m->m<=8->m<f->DJ N f i n v z (.mk 3 0 0 [] acc [] [])=some (.mk 3 0 0 [] (acc++(v.list.drop i).take m) [] []):=by
 intro m
 induction m with
 |zero=>
  intro i acc f h1 hi h2 h3 h4;obtain⟨f,rfl⟩:∃g,f=g+1:=⟨f - 1,by omega⟩
  grind [DJ]
 |succ m ih=>
  intro i acc f h1 hi h2 h3 h4;obtain⟨f,rfl⟩:∃g,f=g+1:=⟨f - 1,by omega⟩;have hnum:A6 N i=some (AX i):=rfl;by_cases he:i=v.list.length
  ·have hb:((i:Int)==(v.list.length:Int))=true:=by grind
   simp only [DJ,Zz (by omega:(i:Int)<n.n),hk,jT,vl,hb]
   grind
  ·have hlt:i<v.list.length:=by omega
   have hb:((i:Int)==(v.list.length:Int))=false:=by grind
   have hnb:Ay (AX (i:Int)) v=v.list[i]:=by
    unfold Ay;have en:(AX (i:Int)).n=i:=rfl;rw [en,Zw (by omega:¬(i:Int)<0),hk,Zw (by omega:¬(i:Int)>=(v.list.length:Int))]
    simp_all
   have hx:=h6 v.list[i] (ZN hlt);simp only [DJ,Zz (by omega:(i:Int)<n.n),hk,jT,hb,jF,hnum,hnth i (by omega) (by omega),jS,hnb,hx,Val.re_eq,vk,vn,vs,vt,vl,vc,vr];rw [Zt (by grind [Lim]),Af (x:=(i:Int)+1) (by omega) (by omega)];have e1:((i:Int)+1)=((i+1:Nat):Int):=by omega
   rw [e1,ih (i+1) (acc++ [v.list[i]]) f (by omega) (by omega) (by grind [jN]) (by omega) (by omega)]
   grind [List.drop_eq_getElem_cons]
theorem xGS{α:Type}{K:Nat}{p:α->Prop}{l:List α}(h:Aj K p l)(k:Nat):Aj K p (l.take k):=
 ⟨by have:=h.1;grind,fun x hx=>h.2 x (ZM hx)⟩
theorem xKP{K:Nat}(hK:24<=K/\K<=137438953472){n v:Val}(hn:n.Fit K)(hv:v.Fit K):Big fun N=>GQ N n v=some (Ek n v)/\HI N n v=some (Ek n v).1:=by
 obtain⟨_,_,_,_,h5,_,_⟩:=Val.fit_iff.1 hv;have hk:K<=137438953472:=hK.2;have hd:=xGS h5 (EQ n.n v.list.length).toNat;have hnum:∀i:Nat,i∈List.range 9->Big fun N=>CY N (AX (i:Int)) v=some (CA (AX i) v)/\CL N (AX (i:Int)) v=some (CA (AX i) v).1:=fun i hi=>by
  rw [ZI] at hi;exact Oc hK ((L3 (Ac (by omega) (by omega))).fit K) hv
 refine(((Ou (by omega) hn hv).and (Big.list hnum)).and ((Jz hd hk).and (Ap 24))).imp fun N ⟨⟨⟨h1,h2⟩,hnth⟩,c1,hN⟩=> ?_;obtain⟨e1,e2,e3,_⟩:=Nw (K:=K) hn hv;cases g:(Al n v).2.1
 ·obtain⟨gt,gv,_,gk,_⟩:=Gk g;have hs:DG n v=(Cp,false):=by grind [DG]
  rw [hs] at h2;have hg:∀i:Int,0<=i->i<=8->CA (AX i) v=(Ay (AX i) v,false):=fun i h0 h1=>by grind [CA,xH8]
  have ni:∀i:Int,0<=i->i<=8->CY N (AX i) v=some (Ay (AX i) v,false):=fun i h0 h1=>by
   have:=(hnth i.toNat (ZI.2 (by omega))).1
   grind
  have ns:∀i:Int,0<=i->i<=8->CL N (AX i) v=some (Ay (AX i) v):=fun i h0 h1=>by
   have:=(hnth i.toNat (ZI.2 (by omega))).2
   grind
  by_cases a:0<=n.n/\n.n<=8
  ·have ha:(decide (0<=n.n)&&decide (n.n<=8))=true:=by grind
   cases b:(v.kind==3)
   ·grind [xF5,xKw,GQ,HI,EH,Fd,Ek,Kw]
   ·obtain⟨q1,q2⟩:=xGV gv (eq_of_beq b);have l2:=xKv (N:=N) (n:=n) (v:=v) (z:=Val.mk 0 0 0 [] [] [] []) a.2 b q1 q2 ns n.n.toNat 0 [] N (by omega) (by omega) (by simp) (by omega) (by omega);have hm:0<=EQ n.n v.list.length/\EQ n.n v.list.length<=(v.list.length:Int):=by grind [EQ]
    have him:(if(v.list.length:Int)<n.n then(v.list.length:Int) else n.n)=EQ n.n v.list.length:=rfl;have ht:v.list.take (EQ n.n v.list.length).toNat=v.list.take n.n.toNat:=by
     grind
    grind [GQ,HI,EH,Fd,DY,Ek,Kw]
  ·have ha:(decide (0<=n.n)&&decide (n.n<=8))=false:=by
    grind
   simp only [GQ,HI,h1,h2,jS,g,gt,jF,jT,EH,Fd,ha,jV,AJ,AK,Ek,Kw]
   first |exact⟨rfl,rfl⟩|exact⟨trivial,trivial⟩
 grind [DG,GQ,Ek,HI]
def xA6(i k:Int)(r:Rowd):Int:=i64.wrap (r.cells.getD i.toNat Di+r.cells.getD k.toNat Di)
def Ei(i k:Int)(r:Rowd):Bool:=AY (xA6 i k r)
def C2(i k:Int)(r:Rowd):Rowd:=⟨r.cells++ [xA6 i k r],r.frm⟩
def J9(i k:Int)(nm:Str)(t:Val):Val:=bif t.rows.all (Ei i k) then .mk t.kind t.n t.step t.text t.list (t.columns++ [nm]) (t.rows.map (C2 i k)) else AO 5
theorem QF{i k:Int}{rows q:List Rowd}{j:Nat}{x:Rowd}{l:List Rowd}(hd:rows.drop j=x::l)(hq:q=(rows.take j).map (C2 i k)++rows.drop j):
 q[j]? =some x/\q.length=rows.length/\q.set j (C2 i k x)=(rows.take (j+1)).map (C2 i k)++rows.drop (j+1):=by
 grind [Bk,List.take_add_one]
theorem xJo{N:Nat}{x11 x12:Int}{v z:Val}{k n s:Int}{t:Str}{li:List Val}{cs:List Str}(hl:v.rows.length<=1048576)(hN:1048576<N)
 (h1:∀r∈v.rows,(0<=x11/\x11<(r.cells.length:Int))/\(0<=x12/\x12<(r.cells.length:Int))/\r.cells.length<=1048576):
 FX N N x11 x12 0 v z (.mk k n s t li cs v.rows)=some (bif v.rows.all (Ei x11 x12) then .mk k n s t li cs (v.rows.map (C2 x11 x12)) else AO 5):=by
 refine A3 (L:=fun m i q=>FX N m x11 x12 i v z (.mk k n s t li cs q)) v.rows (fun l q=>bif l.all (Ei x11 x12) then .mk k n s t li cs (v.rows.map (C2 x11 x12)) else AO 5)
  (fun i q=>q=(v.rows.take i).map (C2 x11 x12)++v.rows.drop i) (fun m q hq=> ?_) (fun i x l q hd hi hx hq=> ?_) N 0 v.rows (by simp) (by omega) (by omega)
 ·grind [FX,vr]
 ·obtain⟨c1,c2,c3⟩:=QF (i:=x11) (k:=x12) hd hq;have hm:=Zy hx;obtain⟨b1,b2,b3⟩:=h1 x hm;have hi' :(i:Int)<(v.rows.length:Int):=by omega
  cases ho:Ei x11 x12 x
  ·refine .inr fun m=> ?_;simp only [FX,vr,c2,Zz hi',jT,jI,AR hx,DO,jS,show AY (i64.wrap (x.cells.getD x11.toNat Di+x.cells.getD x12.toNat Di))=false from ho,jV,AK,List.all_cons,ho,ZY,jF];rw [Zt (by omega),Zt b1,Zt b2];rfl
  ·refine .inl ⟨_,c3,by grind,fun m=> ?_⟩;simp only [FX,vk,vn,vs,vt,vl,vc,vr,c2,Zz hi',jT,jI,AR hx,AR c1,DO,jS,show AY (i64.wrap (x.cells.getD x11.toNat Di+x.cells.getD x12.toNat Di))=true from ho,jU,jF,AL hi (by omega:v.rows.length<=_)];rw [Zt (by omega),Zt b1,Zt b2,Zt (by omega),Zt (by grind [Lim])];rfl
theorem xFr{N:Nat}{x11 x12:Int}{v z:Val}{k n s:Int}{t:Str}{li:List Val}{cs:List Str}(hl:v.rows.length<=1048576)(hN:1048576<N)
 (h1:∀r∈v.rows,(0<=x11/\x11<(r.cells.length:Int))/\(0<=x12/\x12<(r.cells.length:Int))/\r.cells.length<=1048576):
 Dp N N x11 x12 v.rows v.rows.length 0 z (.mk k n s t li cs v.rows)=some ((bif v.rows.all (Ei x11 x12) then .mk k n s t li cs (v.rows.map (C2 x11 x12)) else AO 5),false):=by
 refine A3 (L:=fun m i q=>Dp N m x11 x12 v.rows v.rows.length i z (.mk k n s t li cs q)) v.rows (fun l q=>((bif l.all (Ei x11 x12) then .mk k n s t li cs (v.rows.map (C2 x11 x12)) else AO 5),false))
  (fun i q=>q=(v.rows.take i).map (C2 x11 x12)++v.rows.drop i) (fun m q hq=> ?_) (fun i x l q hd hi hx hq=> ?_) N 0 v.rows (by simp) (by omega) (by omega)
 ·grind [Dp]
 ·obtain⟨c1,c2,c3⟩:=QF (i:=x11) (k:=x12) hd hq;have hm:=Zy hx;obtain⟨b1,b2,b3⟩:=h1 x hm;have hi' :(i:Int)<(v.rows.length:Int):=by omega
  cases ho:Ei x11 x12 x
  ·refine .inr fun m=> ?_;simp only [Dp,vr,c2,Zz hi',jT,jI,AR hx,D2,jS,show AY (i64.wrap (x.cells.getD x11.toNat Di+x.cells.getD x12.toNat Di))=false from ho,jV,AJ,List.all_cons,ho,ZY,jF];rw [Zt (by omega),Zt b1,Zt b2];rfl
  ·refine .inl ⟨_,c3,by grind,fun m=> ?_⟩;simp only [Dp,vk,vn,vs,vt,vl,vc,vr,c2,Zz hi',jT,jI,AR hx,AR c1,D2,jS,show AY (i64.wrap (x.cells.getD x11.toNat Di+x.cells.getD x12.toNat Di))=true from ho,jU,jF,AL hi (by omega:v.rows.length<=_)];rw [Zt (by omega),Zt b1,Zt b2,Zt (by omega),Zt (by grind [Lim])];rfl
def BG(m a b t:Val):Val×Bool:=bif(AU [2,2,2,5] [m,a,b,t]).2.1 then((AU [2,2,2,5] [m,a,b,t]).1,(AU [2,2,2,5] [m,a,b,t]).2.2) else
 (bif !Ce m.text then AO 7 else bif decide (AM t.columns m.text 0>=0) then AO 7 else bif decide (AM t.columns a.text 0<0) then AO 7 else bif decide (AM t.columns b.text 0<0) then AO 7 else
   bif decide ((t.columns.length:Int)>=4) then AO 6 else J9 (AM t.columns a.text 0) (AM t.columns b.text 0) m.text t,false)
theorem kb4{a b c d:Val}{x y z w:Int}(h:kb [a,b,c,d] [x,y,z,w]=false):a.kind=x/\b.kind=y/\c.kind=z/\d.kind=w:=by
 grind [kb]
theorem Sa{K:Nat}{a b c d:Val}(ha:a.Fit K)(hb:b.Fit K)(hc:c.Fit K)(hd:d.Fit K):∀x∈ [a,b,c,d],x.Fit K:=fun x hx=>by
 grind
theorem xDC{c:List Str}(h:Bj c=true):c.length<=4:=by
 grind [Bj]
theorem Jj{cols:List Str}{s:Str}(h:¬AM cols s 0<0):0<=AM cols s 0/\AM cols s 0<(cols.length:Int):=by
 grind [Jh]
theorem xBq{K:Nat}(hK:24<=K/\K<=1048576){m a b v:Val}(hm:m.Fit K)(ha:a.Fit K)(hb:b.Fit K)(hv:v.Fit K):Big fun N=>DU N m a b v=some (BG m a b v)/\Da N m a b v=some (BG m a b v).1:=by
 obtain⟨_,_,_,_,_,h6,h7⟩:=Val.fit_iff.1 hv;obtain⟨_,_,_,hmt,_,_,_⟩:=Val.fit_iff.1 hm;have hc:v.columns.length<=K:=h6.1;have hrl:v.rows.length<=K:=h7.1;have hmt:m.text.length<=K:=hmt;refine(((EM (by omega) (vs:=[m,a,b,v]) (ks:=[2,2,2,5]) (Sa hm ha hb hv) (by grind) rfl).and (Ap 1048576)).and ((xAo (by omega:K<=_) v hv).diag.and (OQ (by omega:K<=_) v hv).diag)).imp fun N ⟨⟨⟨h1,h2⟩,hN⟩,cp1,cp2⟩=> ?_;have cp1:B1 N v=some v:=cp1;have cp2:Bm N v=some v:=cp2;obtain⟨e1,e2,e3,_⟩:=Dn (ks:=[2,2,2,5]) (Sa hm ha hb hv);have i1:=fun s=>Dq (N:=N) (v:=v) (s:=s) (by omega) (by omega);have i2:=fun s=>DH (N:=N) (v:=v) (s:=s) (by omega) (by omega);have n1:=OI (N:=N) (s:=m.text) (by omega) (by omega);have n2:=PK (N:=N) (s:=m.text) (by omega) (by omega) (by omega);cases g1:(AU [2,2,2,5] [m,a,b,v]).2.1
 ·have htag:=G3 g1;obtain⟨g2,g3⟩:=By g1;have hk5:=(kb4 g3).2.2.2;have hrows:=Ha (g2 v (by simp)) hk5;obtain⟨hco,hr12⟩:=JY (g2 v (by simp)) hk5;have hc4:=xDC hco;cases hnm:Ce m.text
  ·exact⟨by simp only [DU,Val.re_eq,h1,jS,g1,htag,jF,i1,n1,hnm,jV,jT,AJ,BG];rfl,by simp only [Da,Val.re_eq,h2,jS,g1,jF,i2,n2,hnm,jV,jT,AK,BG];rfl⟩
  by_cases d1:AM v.columns m.text 0>=0
  ·exact⟨by simp only [DU,Val.re_eq,h1,jS,g1,htag,jF,i1,n1,hnm,jU,Zz d1,jT,AJ,BG];rfl,by simp only [Da,Val.re_eq,h2,jS,g1,jF,i2,n2,hnm,jU,Zz d1,jT,AK,BG];rfl⟩
  by_cases d2:AM v.columns a.text 0<0
  ·exact⟨by simp only [DU,Val.re_eq,h1,jS,g1,htag,jF,i1,n1,hnm,jU,Zw d1,Zz d2,jT,AJ,BG];rfl,by simp only [Da,Val.re_eq,h2,jS,g1,jF,i2,n2,hnm,jU,Zw d1,Zz d2,jT,AK,BG];rfl⟩
  by_cases d3:AM v.columns b.text 0<0
  ·exact⟨by simp only [DU,Val.re_eq,h1,jS,g1,htag,jF,i1,n1,hnm,jU,Zw d1,Zw d2,Zz d3,jT,AJ,BG];rfl,by simp only [Da,Val.re_eq,h2,jS,g1,jF,i2,n2,hnm,jU,Zw d1,Zw d2,Zz d3,jT,AK,BG];rfl⟩
  have q1:=Jj d2;have q2:=Jj d3;have hat:∀r∈v.rows,(0<=AM v.columns a.text 0/\AM v.columns a.text 0<(r.cells.length:Int))/\(0<=AM v.columns b.text 0/\AM v.columns b.text 0<(r.cells.length:Int))/\r.cells.length<=1048576:=fun r hr=>by
   grind
  by_cases d4:v.columns.length=4
  ·have e4:((v.columns.length:Int)==4)=true:=by grind
   have e5:decide ((v.columns.length:Int)>=4)=true:=Zz (by omega);exact⟨by simp only [DU,Val.re_eq,h1,jS,g1,htag,jF,i1,n1,hnm,jU,Zw d1,Zw d2,Zw d3,e5,jT,AJ,BG];rfl,by simp only [Da,Val.re_eq,h2,jS,g1,jF,i2,n2,hnm,jU,Zw d1,Zw d2,Zw d3,e4,e5,jT,AK,BG];rfl⟩
  ·have e4:((v.columns.length:Int)==4)=false:=ZR.2 (by omega);have e5:decide ((v.columns.length:Int)>=4)=false:=Zw (by omega)
   grind [Lim,jN,xFr,xJo,DU,Val.re_eq,BG,J9,Da]
 grind [DU,Val.re_eq,CU,BG,Da]
mutual
def Exp.cnt:Exp->Nat
 | .mk _ _ _ a=>1+Exp.cnts a
def Exp.cnts:List Exp->Nat
 | []=>0
 |x::r=>Exp.cnt x+Exp.cnts r
end
theorem Exp.cnts_eq(l:List Exp):Exp.cnts l=(l.map Exp.cnt).sum:=by
 induction l with
 |nil=>rfl
 |cons x l ih=>grind [Exp.cnts]
theorem Exp.cnt_eq(e:Exp):e.cnt=1+(e.args.map Exp.cnt).sum:=by
 cases e;grind [Exp.cnt,Exp.cnts_eq,Exp.args]
mutual
def Exp.nest:Exp->Nat
 | .mk _ _ _ a=>Exp.nests a+1
def Exp.nests:List Exp->Nat
 | []=>0
 |x::r=>max (Exp.nest x) (Exp.nests r)
end
theorem Exp.nest_eq(e:Exp):e.nest=Exp.nests e.args+1:=by cases e;rfl
theorem xA9{f g:Exp->Nat}:∀ {a:List Exp},(∀x∈a,f x<=g x+1)->(a.map f).sum<=a.length+(a.map g).sum
 | [],_=>Zn _
 |x::l,ih=>by
  have h1:=ih x Zp;have h2:=xA9 fun y hy=>ih y (Zr _ hy)
  grind
theorem Exp.cnt_le:∀e:Exp,e.cnt<=e.size+1:=by
 refine Exp.ind fun k n t a ih=> ?_;rw [Exp.cnt_eq,Exp.size_eq];have:=xA9 ih;show 1+(a.map Exp.cnt).sum<=t.length+(a.length+(a.map Exp.size).sum)+1;omega
theorem Ts:∀ {a:List Exp},(∀x∈a,x.nest<=x.cnt)->Exp.nests a<=(a.map Exp.cnt).sum
 | [],_=>Zn _
 |x::l,ih=>by
  have h1:=ih x Zp;have h2:=Ts fun y hy=>ih y (Zr _ hy)
  grind [Exp.nests]
theorem Exp.nest_le:∀e:Exp,e.nest<=e.cnt:=by
 refine Exp.ind fun k n t a ih=> ?_;rw [Exp.nest_eq,Exp.cnt_eq];have:=Ts ih;show Exp.nests a+1<=1+(a.map Exp.cnt).sum;omega
def KJ(vT vN:Str->Bool)(ac:Str->Int)(k n:Int)(t:Str)(l:Nat):Bool:=
 bif k==1 then(decide (0<=n)&&decide (n<=1000000000))&&((t== [])&&(l==0))
 else bif k==2 then(n==0)&&(vT t&&(l==0))
 else bif k==3 then(n==0)&&(vN t&&(l==0))
 else bif k==4 then(n==0)&&((t== [])&&decide (l<=8))
 else bif k==5 then(n==0)&&((l:Int)==ac t)
 else bif k==6 then(decide (1<=n)&&decide (n<=5))&&((t== [])&&(l==2))
 else bif k==7 then(n==0)&&(vN t&&(l==2))
 else bif k==9 then(n==0)&&(vN t&&(l==2))
 else bif k==8 then(n==0)&&((t== [])&&(l==3)) else false
theorem Nc{α:Type}{b:Bool}{x y:Option α}(h1:∃r,x=some r)(h2:∃r,y=some r):∃r,(bif b then x else y)=some r:=by grind
def BC(s:Str):Int:=(Db 0 s).getD 0
theorem PD(N:Nat)(s:Str):Db N s=some (BC s):=by
 have key:∃r,Db 0 s=some r:=by
  unfold Db
  repeat (first |exact⟨_,rfl⟩|refine Nc ⟨_,rfl⟩ ?_)
 grind [Db,BC]
theorem Sn(N:Nat)(s:Str):GE N s=some (BC s):=(show GE N s=Db N s from rfl).trans (PD N s)
def FL(e:Exp):Bool:=KJ El Ce BC e.kind e.n e.text e.args.length
theorem Th(l:Nat):((l:Int)==0)=(l==0):=by
 grind
theorem Ti(l:Nat):((l:Int)==2)=(l==2):=by
 grind
theorem Tj(l:Nat):((l:Int)==3)=(l==3):=by
 grind
theorem Tk(l:Nat):decide ((l:Int)<=8)=decide (l<=8):=by
 grind
theorem xFC{N:Nat}{e:Exp}(ht:e.text.length<=9223372036854775807)(hn:e.text.length<N):ME N e=some (FL e):=by
 simp only [ME,FL,KJ,EH,Sy ht hn,OI (N:=N) ht hn,Sn,jS,Th,Ti,Tj,Tk]
 grind
theorem xJF{N:Nat}{e:Exp}(ht:e.text.length<=9223372036854775807)(hn:e.text.length<N)(h24:24<N):Mv N e=some (FL e):=by
 simp only [Mv,FL,KJ,Fd,PL ht hn,PK (N:=N) (s:=e.text) ht hn h24,PD,jS,Th,Ti,Tj,Tk]
 grind
mutual
def okE:Exp->Bool
 | .mk k n t a=>MN a&&FL (.mk k n t a)
def MN:List Exp->Bool
 | []=>true
 |x::r=>okE x&&MN r
end
theorem xHn(l:List Exp):MN l=l.all okE:=by
 induction l with
 |nil=>rfl
 |cons x l ih=>grind [MN]
theorem Od(e:Exp):okE e=(e.args.all okE&&FL e):=by
 cases e;simp only [okE,xHn];rfl
theorem xBu{K:Nat}(hK:K<=1048576):∀e:Exp,e.Fit K->Big2 fun N d=>Jy N d e=some (okE e)/\Kh N d e=some (okE e):=by
 refine Exp.ind fun k n t a ih h=> ?_;obtain⟨h1,h2,h3,h4⟩:=Exp.fit_iff.1 h;refine Big2.succ ?_;refine((Big2.list fun x hx=>ih x hx (h4.2 x hx)).and (Ap (K+30)).two).imp fun N d ⟨hx,hn⟩=> ?_;have hl:a.length<=K:=h4.1;have ht:(Exp.mk k n t a).text.length<=K:=h3;rw [Od];refine⟨?_,?_⟩
 ·exact A3 (σ:=Unit) (L:=fun m i _=>GR N (Jy N d) m a a.length i (.mk k n t a)) a (fun l _=>l.all okE&&FL (.mk k n t a)) (fun _ _=>True) (fun m _ _=>by grind [GR,xFC])
   (fun i x l _ hd hi hxi _=>by
     have hi' :(i:Int)<(a.length:Int):=by omega
     have hm:=Zy hxi;cases ho:okE x
     ·grind [GR,jI]
     ·refine .inl ⟨(),trivial,by grind,fun m=> ?_⟩
      grind [GR,jI,AL]) N 0 () trivial (by omega) (by omega)
 ·exact A3 (σ:=Unit) (L:=fun m i _=>HJ N (Kh N d) m i (.mk k n t a)) a (fun l _=>l.all okE&&FL (.mk k n t a)) (fun _ _=>True) (fun m _ _=>by grind [HJ,ea,xJF])
   (fun i x l _ hd hi hxi _=>by
     have hi' :(i:Int)<((Exp.mk k n t a).args.length:Int):=by show(i:Int)<(a.length:Int);omega
     have hi2:(0:Int)<=(i:Int)/\(i:Int)<((Exp.mk k n t a).args.length:Int):=⟨by omega,hi'⟩;have hm:=Zy hxi;have hxi2:(Exp.mk k n t a).args[i]? =some x:=hxi;cases ho:okE x
     ·grind [HJ,jI]
     ·refine .inl ⟨(),trivial,by grind,fun m=> ?_⟩
      grind [HJ,jI,AL]) N 0 () trivial (by omega) (by omega)
def Ga(v:Val):Val×Bool:=bif(opG [v]).2.1 then((opG [v]).1,(opG [v]).2.2) else(bif v.kind==3 then AX v.list.length else bif v.kind==2 then AX v.text.length else AO 4,false)
theorem xGP{K:Nat}(hK:24<=K/\K<=4611686018427387903){v:Val}(h:v.Fit K):Big fun N=>Lp N v=some (Ga v)/\Mj N v=some (Ga v).1:=by
 refine(IM hK (l:=[v]) (Oi h) (by grind)).imp fun N ⟨h1,h2⟩=> ?_;obtain⟨e1,e2,e3,_⟩:=FM (l:=[v]);have hz:∀n:Int,Val.mk 1 n 0 [] [] [] []=AX n:=fun _=>rfl;refine⟨?_,?_⟩
 ·simp only [Lp,Val.re_eq,h1,jS,e1,e2,e3,jE,Ys,CU e1 e2 e3,Ax,AJ,hz,Ga];cases g1:(opG [v]).2.1
  ·rw [IL g1];cases v.kind==3 <;>cases v.kind==2 <;>rfl
  grind
 ·simp only [Mj,Val.re_eq,h2,jS,A6,AK,hz,Ga];cases g1:(opG [v]).2.1
  ·cases v.kind==3 <;>cases v.kind==2 <;>rfl
  ·rfl
def KQ(a b:Val):Val×Bool:=bif(AU [1,1] [a,b]).2.1 then((AU [1,1] [a,b]).1,(AU [1,1] [a,b]).2.2) else(.mk 4 a.n b.n [] [] [] [],false)
def C5(s:Str):Bool:=(D1 0 s).getD true
def cas(s:Str)(l:List Val):Val×Bool:=
 let g:=fun i=>l.getD i Dv
 bif s== [108,101,110] then Ga (g 0) else bif s== [115,117,109] then H7 (g 0) else bif s== [114,111,119,115] then He (g 0) else
 bif s== [116,97,107,101] then Ek (g 0) (g 1) else bif s== [115,107,105,112] then skG (g 0) (g 1) else bif s== [110,116,104] then CA (g 0) (g 1) else
 bif s== [107,101,101,112] then G0 (g 0) (g 1) else bif s== [99,111,108,117,109,110] then DQ (g 0) (g 1) else bif s== [116,97,98,108,101] then Fj (g 0) (g 1) else
 bif s== [119,104,101,114,101] then whG (g 0) (g 1) (g 2) else bif s== [103,114,111,117,112] then CX (g 0) (g 1) (g 2) else bif s== [106,111,105,110] then Cn (g 0) (g 1) (g 2) else
 bif s== [97,100,100] then BG (g 0) (g 1) (g 2) (g 3) else bif s== [114,97,110,103,101] then KQ (g 0) (g 1) else(AO 4,false)
def BY(s:Str)(l:List Val):Val×Bool:=bif(l.length:Int) != BC s then(AO 4,false) else cas s l
def xBa(r:Val×Bool):Option (Val×Bool):=bif r.2 then some (r.1,true) else some (r.1,false)
theorem xKN(r:Val×Bool):xBa r=some r:=by obtain⟨x,b⟩:=r;cases b <;>rfl
theorem C3{s:Str}{l:List Val}{r:Val×Bool}{f:Nat->Option (Val×Bool)}{g:Nat->Option Val}(h:Big fun N=>f N=some r/\g N=some r.1)(e:BY s l=r)
 (h1:∀N,DX N s l=Option.bind (f N) xBa) (h2:∀N,Dc N s l=Option.bind (g N) some):Big fun N=>DX N s l=some (BY s l)/\Dc N s l=some (BY s l).1:=
 h.imp fun N ⟨a,b⟩=>⟨by grind [xKN],by grind⟩
theorem xDw{s:Str}{l:List Val}(h:((l.length:Int) != BC s)=true)(N:Nat):DX N s l=some (BY s l)/\Dc N s l=some (BY s l).1:=by
 have he:∃b,D1 N s=some b:=by
  unfold D1;exact Nc ⟨_,rfl⟩ (Nc ⟨_,rfl⟩ ⟨_,rfl⟩)
 obtain⟨b,hb⟩:=he;refine⟨?_,?_⟩
 ·simp only [DX,hb,Sn,jS,h,jT,AJ,BY];cases b <;>rfl
 ·simp only [Dc,PD,jS,h,jT,AK,BY]
  rfl
theorem xG5(s:Str):BC s= -1\/s∈([[99,108,111,99,107],[108,101,110],[115,117,109],[114,111,119,115],[99,104,97,110,99,101],[102,105,108,101],[116,97,107,101],[115,107,105,112],[114,97,110,103,101],[110,116,104],[107,101,101,112],[99,111,108,117,109,110],[116,97,98,108,101],[119,104,101,114,101],[103,114,111,117,112],[106,111,105,110],[97,100,100]]:List Str):=by
 by_cases h:s∈([[99,108,111,99,107],[108,101,110],[115,117,109],[114,111,119,115],[99,104,97,110,99,101],[102,105,108,101],[116,97,107,101],[115,107,105,112],[114,97,110,103,101],[110,116,104],[107,101,101,112],[99,111,108,117,109,110],[116,97,98,108,101],[119,104,101,114,101],[103,114,111,117,112],[106,111,105,110],[97,100,100]]:List Str)
 ·grind
 ·refine .inl ?_;simp only [Zh,Z6,or_false,not_or,<-ZR] at h
  grind [BC,Db]
theorem G6{l:List Val}(h:l.length=1):∃a,l=[a]:=by
 match l,h with
 | [a],_=>grind
theorem G7{l:List Val}(h:l.length=2):∃a b,l=[a,b]:=by
 match l,h with
 | [a,b],_=>grind
theorem O1{l:List Val}(h:l.length=3):∃a b c,l=[a,b,c]:=by
 match l,h with
 | [a,b,c],_=>grind
theorem xGK{l:List Val}(h:l.length=4):∃a b c d,l=[a,b,c,d]:=by
 match l,h with
 | [a,b,c,d],_=>grind
theorem xBC{s:Str}{l:List Val}{P:Str->List Val->Prop}(h:((l.length:Int) != BC s)=false)(z:P [99,108,111,99,107] [])
 (o1:∀a,l=[a]->∀s∈([[108,101,110],[115,117,109],[114,111,119,115],[99,104,97,110,99,101],[102,105,108,101]]:List Str),P s [a])
 (o2:∀a b,l=[a,b]->∀s∈([[116,97,107,101],[115,107,105,112],[114,97,110,103,101],[110,116,104],[107,101,101,112],[99,111,108,117,109,110],[116,97,98,108,101]]:List Str),P s [a,b])
 (o3:∀a b c,l=[a,b,c]->∀s∈([[119,104,101,114,101],[103,114,111,117,112],[106,111,105,110]]:List Str),P s [a,b,c])
 (o4:∀a b c d,l=[a,b,c,d]->P [97,100,100] [a,b,c,d]):P s l:=by
 have h:(l.length:Int)=BC s:=by grind
 rcases xG5 s with e|hs
 ·grind
 ·simp only [Zh,Z6,or_false] at hs;have f:∀(k:Nat) (t:Str),s=t->BC t=(k:Int)->l.length=k:=fun k t e1 e2=>by grind
  rcases hs with e|e|e|e|e|e|e|e|e|e|e|e|e|e|e|e|e
  ·obtain rfl:l=[]:=Z3.1 (f 0 _ e (by kernel_rfl))
   grind
  ·obtain⟨a,q⟩:=G6 (f 1 _ e (by kernel_rfl));grind
  ·obtain⟨a,q⟩:=G6 (f 1 _ e (by kernel_rfl));grind
  ·obtain⟨a,q⟩:=G6 (f 1 _ e (by kernel_rfl));grind
  ·obtain⟨a,q⟩:=G6 (f 1 _ e (by kernel_rfl));grind
  ·obtain⟨a,q⟩:=G6 (f 1 _ e (by kernel_rfl));grind
  ·obtain⟨a,b,q⟩:=G7 (f 2 _ e (by kernel_rfl));grind
  ·obtain⟨a,b,q⟩:=G7 (f 2 _ e (by kernel_rfl));grind
  ·obtain⟨a,b,q⟩:=G7 (f 2 _ e (by kernel_rfl));grind
  ·obtain⟨a,b,q⟩:=G7 (f 2 _ e (by kernel_rfl));grind
  ·obtain⟨a,b,q⟩:=G7 (f 2 _ e (by kernel_rfl));grind
  ·obtain⟨a,b,q⟩:=G7 (f 2 _ e (by kernel_rfl));grind
  ·obtain⟨a,b,q⟩:=G7 (f 2 _ e (by kernel_rfl));grind
  ·obtain⟨a,b,c,q⟩:=O1 (f 3 _ e (by kernel_rfl));grind
  ·obtain⟨a,b,c,q⟩:=O1 (f 3 _ e (by kernel_rfl));grind
  ·obtain⟨a,b,c,q⟩:=O1 (f 3 _ e (by kernel_rfl));grind
  ·obtain⟨a,b,c,d,q⟩:=xGK (f 4 _ e (by kernel_rfl));grind
theorem Qf{s:Str}{l:List Val}(h:Aj 1048576 (Val.Fit 1048576) l):Big fun N=>DX N s l=some (BY s l)/\Dc N s l=some (BY s l).1:=by
 cases hn:((l.length:Int) != BC s)
 ·refine xBC (P:=fun s l=>Big fun N=>DX N s l=some (BY s l)/\Dc N s l=some (BY s l).1) hn (Big.of fun N=>⟨by kernel_rfl,by kernel_rfl⟩) (fun a e s hs=> ?_) (fun a b e s hs=> ?_) (fun a b c e s hs=> ?_) (fun a b c d e=> ?_)
  ·have fa:a.Fit 1048576:=h.2 a (by grind);simp only [Zh,Z6,or_false] at hs;rcases hs with rfl|rfl|rfl|rfl|rfl
   ·exact C3 (xGP (by omega) fa) (by kernel_rfl) (fun N=>by kernel_rfl) (fun N=>by kernel_rfl)
   ·exact C3 (xKG (by omega) fa) (by kernel_rfl) (fun N=>by kernel_rfl) (fun N=>by kernel_rfl)
   ·exact C3 (cnt_eq (by omega) fa) (by kernel_rfl) (fun N=>by kernel_rfl) (fun N=>by kernel_rfl)
   ·exact Big.of fun N=>⟨by kernel_rfl,by kernel_rfl⟩
   ·exact Big.of fun N=>⟨by kernel_rfl,by kernel_rfl⟩
  ·have fa:a.Fit 1048576:=h.2 a (by grind);have fb:b.Fit 1048576:=h.2 b (by grind);simp only [Zh,Z6,or_false] at hs;rcases hs with rfl|rfl|rfl|rfl|rfl|rfl|rfl
   ·exact C3 (xKP (by omega) fa fb) (by kernel_rfl) (fun N=>by kernel_rfl) (fun N=>by kernel_rfl)
   ·exact C3 (xIj (by omega) fa fb) (by kernel_rfl) (fun N=>by kernel_rfl) (fun N=>by kernel_rfl)
   ·refine(EM (K:=1048576) (by omega) (vs:=[a,b]) (ks:=[1,1]) (fun x hx=>by grind) (by simp) rfl).imp fun N ⟨h1,h2⟩=> ?_;obtain⟨e1,e2,e3,_⟩:=Dn (ks:=[1,1]) (l:=[a,b]) (K:=1048576) fun x hx=>by grind
    have i1:DX N [114,97,110,103,101] [a,b]=Option.bind (C9 N [1,1] [a,b]) fun r=>bif r.2.2 then(if List.isEmpty r.1.list=true then if List.isEmpty r.1.columns=true then if List.isEmpty r.1.rows=true then(bif r.2.1 then some (.mk r.1.kind r.1.n r.1.step r.1.text [] [] [],true) else some (.mk 4 a.n b.n [] [] [] [],false)) else none else none else none) else bif r.2.1 then some (r.1,false) else some (.mk 4 a.n b.n [] [] [] [],false):=by kernel_rfl
    have i2:Dc N [114,97,110,103,101] [a,b]=Option.bind (Mx N a b) some:=by kernel_rfl
    have i3:BY [114,97,110,103,101] [a,b]=KQ a b:=by kernel_rfl
    grind [KQ,Mx,It,Val.re_eq,CU]
   ·exact C3 (Oc (by omega) fa fb) (by kernel_rfl) (fun N=>by kernel_rfl) (fun N=>by kernel_rfl)
   ·exact C3 (xGs (by omega) fa fb) (by kernel_rfl) (fun N=>by kernel_rfl) (fun N=>by kernel_rfl)
   ·exact C3 (xDB (by omega) fa fb) (by kernel_rfl) (fun N=>by kernel_rfl) (fun N=>by kernel_rfl)
   ·exact C3 (xKS (by omega) fa fb) (by kernel_rfl) (fun N=>by kernel_rfl) (fun N=>by kernel_rfl)
  ·have fa:a.Fit 1048576:=h.2 a (by grind);have fb:b.Fit 1048576:=h.2 b (by grind);have fc:c.Fit 1048576:=h.2 c (by grind);simp only [Zh,Z6,or_false] at hs;rcases hs with rfl|rfl|rfl
   ·exact C3 (xK8 (by omega) fa fb fc) (by kernel_rfl) (fun N=>by kernel_rfl) (fun N=>by kernel_rfl)
   ·exact C3 (xEt (by omega) fa fb fc) (by kernel_rfl) (fun N=>by kernel_rfl) (fun N=>by kernel_rfl)
   ·exact C3 (xGn (by omega) fa fb fc) (by kernel_rfl) (fun N=>by kernel_rfl) (fun N=>by kernel_rfl)
  ·have fa:a.Fit 1048576:=h.2 a (by grind);have fb:b.Fit 1048576:=h.2 b (by grind);have fc:c.Fit 1048576:=h.2 c (by grind);have fd:d.Fit 1048576:=h.2 d (by grind);exact C3 (xBq (by omega) fa fb fc fd) (by kernel_rfl) (fun N=>by kernel_rfl) (fun N=>by kernel_rfl)
 ·exact Big.of fun N=>xDw hn N
def eqI{α:Type}(p:Nat->α->Bool)(xs:List α)(n:Nat):Bool:=bif((xs.length:Int) != (n:Int)) then false else Ak p xs 0
theorem xKy{N:Nat}{xs ys:List Str}(hl:xs.length<=137438953472)(hn:xs.length<N):JT N xs ys=some (eqI (fun i x=>x==ys.getD i Ds) xs ys.length):=by
 unfold JT eqI;cases h:((xs.length:Int) != (ys.length:Int))
 ·have hlen:(xs.length:Int)=(ys.length:Int):=by grind
  rw [jF,jF];refine(BO (x0:=xs) (L:=fun n i=>Ec N n xs ys i) (p:=fun i x=>x==ys.getD i Ds) (e:=some true) (fun n=>by simp [Ec]) (fun i x n hi hx _=> ?_) hn).trans (by grind)
  grind [Ec,AL]
 ·rfl
theorem xF7{N:Nat}{xs ys:List Str}(hl:xs.length<=137438953472)(hn:xs.length<N):MK N xs ys=some (eqI (fun i x=>x==ys.getD i Ds) xs ys.length):=by
 unfold MK eqI;cases h:((xs.length:Int) != (ys.length:Int))
 ·have hlen:(xs.length:Int)=(ys.length:Int):=by grind
  rw [jF,jF];refine(BO (x0:=xs) (L:=fun n i=>IH N n xs ys xs.length i) (p:=fun i x=>x==ys.getD i Ds) (e:=some true) (fun n=>by simp [IH]) (fun i x n hi hx _=> ?_) hn).trans (by grind)
  grind [IH,AL]
 ·rfl
theorem xJt{N:Nat}{xs ys:List Int}(hl:xs.length<=137438953472)(hn:xs.length<N):JH N xs ys=some (eqI (fun i x=>x==ys.getD i Di) xs ys.length):=by
 unfold JH eqI;cases h:((xs.length:Int) != (ys.length:Int))
 ·have hlen:(xs.length:Int)=(ys.length:Int):=by grind
  rw [jF,jF];refine(BO (x0:=xs) (L:=fun n i=>E8 N n xs ys i) (p:=fun i x=>x==ys.getD i Di) (e:=some true) (fun n=>by simp [E8]) (fun i x n hi hx _=> ?_) hn).trans (by grind)
  grind [E8,AL]
 ·rfl
theorem xFB{N:Nat}{xs ys:List Int}(hl:xs.length<=137438953472)(hn:xs.length<N):MJ N xs ys=some (eqI (fun i x=>x==ys.getD i Di) xs ys.length):=by
 unfold MJ eqI;cases h:((xs.length:Int) != (ys.length:Int))
 ·have hlen:(xs.length:Int)=(ys.length:Int):=by grind
  rw [jF,jF];refine(BO (x0:=xs) (L:=fun n i=>IG N n xs ys xs.length i) (p:=fun i x=>x==ys.getD i Di) (e:=some true) (fun n=>by simp [IG]) (fun i x n hi hx _=> ?_) hn).trans (by grind)
  grind [IG,AL]
 ·rfl
def IV(ys:List Rowd)(i:Nat)(x:Rowd):Bool:=eqI (fun j z=>z==(ys.getD i Ty.row.dflt).cells.getD j Di) x.cells (ys.getD i Ty.row.dflt).cells.length
mutual
def Bd:Val->Val->Bool
 | .mk k n s t l c r,b=>(k==b.kind)&&((n==b.n)&&((s==b.step)&&((t==b.text)&&(eqI (fun i x=>x==b.columns.getD i Ds) c b.columns.length&&(((l.length:Int)==(b.list.length:Int))&&(((r.length:Int)==(b.rows.length:Int))&&(MS l b.list 0&&Ak (IV b.rows) r 0)))))))
def MS:List Val->List Val->Nat->Bool
 | [],_,_=>true
 |x::r,ys,i=>Bd x (ys.getD i Dv)&&MS r ys (i+1)
end
theorem U6(ys:List Val):∀(l:List Val) (i:Nat),MS l ys i=Ak (fun i x=>Bd x (ys.getD i Dv)) l i
 | [],_=>rfl
 |x::r,i=>by simp only [MS,Ak,U6 ys r (i+1)]
theorem U5(a b:Val):Bd a b=((a.kind==b.kind)&&((a.n==b.n)&&((a.step==b.step)&&((a.text==b.text)&&(eqI (fun i x=>x==b.columns.getD i Ds) a.columns b.columns.length&&(((a.list.length:Int)==(b.list.length:Int))&&(((a.rows.length:Int)==(b.rows.length:Int))&&(Ak (fun i x=>Bd x (b.list.getD i Dv)) a.list 0&&Ak (IV b.rows) a.rows 0)))))))):=by
 cases a
 grind [Bd,U6,vk,vn,vs,vt,vl,vc,vr]
theorem xKu{N d K:Nat}{a b:Val}(ha:a.Fit K)(hb:b.Fit K)(hK:K<=137438953472)(hN:K<N)
 (hx:∀x∈a.list,∀y∈b.list,Bc N d x y false=some (Bd x y)):Bc N (d+1) a b false=some (Bd a b):=by
 obtain⟨_,_,_,_,h5,h6,h7⟩:=Val.fit_iff.1 ha;have l5:a.list.length<=K:=h5.1;have l6:a.columns.length<=K:=h6.1;have l7:a.rows.length<=K:=h7.1;rw [U5];show JR N (Bc N d) a b false=_;unfold JR;rw [xKy (by omega) (by omega),jS];simp only [bne];cases (a.kind==b.kind)
 ·rfl
 cases (a.n==b.n)
 ·rfl
 cases (a.step==b.step)
 ·rfl
 cases (a.text==b.text)
 ·rfl
 simp only [jU,jF,ZV];cases hl:((a.list.length:Int)==(b.list.length:Int))
 ·grind
 ·simp only [jU,jF,ZV];cases eqI (fun i x=>x==b.columns.getD i Ds) a.columns b.columns.length
  ·rfl
  ·simp only [jU,jF,ZV];cases hr:((a.rows.length:Int)==(b.rows.length:Int))
   ·rfl
   ·simp only [jU,jF,ZV];have el:(a.list.length:Int)=b.list.length:=eq_of_beq hl;have er:(a.rows.length:Int)=b.rows.length:=eq_of_beq hr;have r9:Cd N (Bc N d) N false 0 a b=bif Ak (IV b.rows) a.rows 0 then some true else some false:=by
     refine BO (x0:=a.rows) (L:=fun n i=>Cd N (Bc N d) n false i a b) (fun n=>by simp [Cd]) (fun i x n hi hxi hm=> ?_) (by omega);have hi' :(i:Int)<(a.rows.length:Int):=by omega
     have hc:x.cells.length<=K:=(h7.2 x hm).1.1;simp only [Cd,Zz hi',jT,jF,jI,AR hxi,AL hi (by omega:a.rows.length<=_),xJt (N:=N) (xs:=x.cells) (by omega) (by omega),jS]
     grind [IV]
    have r4:Dl N (Bc N d) N false 0 a b=bif Ak (fun i x=>Bd x (b.list.getD i Dv)) a.list 0 then Cd N (Bc N d) N false 0 a b else some false:=by
     refine BO (x0:=a.list) (L:=fun n i=>Dl N (Bc N d) n false i a b) (fun n=>by simp [Dl]) (fun i x n hi hxi hm=> ?_) (by omega)
     grind [Dl,jI,AL]
    grind
theorem xF2{N d K:Nat}{a b:Val}(ha:a.Fit K)(hb:b.Fit K)(hK:K<=137438953472)(hN:K<N)
 (hx:∀x∈a.list,∀y∈b.list,Cl N d x y false=some (Bd x y)):Cl N (d+1) a b false=some (Bd a b):=by
 obtain⟨_,_,_,_,h5,h6,h7⟩:=Val.fit_iff.1 ha;have l5:a.list.length<=K:=h5.1;have l6:a.columns.length<=K:=h6.1;have l7:a.rows.length<=K:=h7.1;rw [U5];show MD N (Cl N d) a b false=_;unfold MD;rw [xF7 (by omega) (by omega),jS];simp only [bne];cases (a.kind==b.kind)
 ·rfl
 cases (a.n==b.n)
 ·rfl
 cases (a.step==b.step)
 ·rfl
 cases (a.text==b.text)
 ·rfl
 simp only [jU,jF,ZV];cases eqI (fun i x=>x==b.columns.getD i Ds) a.columns b.columns.length
 ·rfl
 ·simp only [jU,jF,ZV];cases hl:((a.list.length:Int)==(b.list.length:Int))
  ·rfl
  ·simp only [jU,jF,ZV];cases hr:((a.rows.length:Int)==(b.rows.length:Int))
   ·rfl
   ·simp only [jU,jF,ZV];have el:(a.list.length:Int)=b.list.length:=eq_of_beq hl;have er:(a.rows.length:Int)=b.rows.length:=eq_of_beq hr;have r9:EA N (Cl N d) N false a.rows.length 0 a b=bif Ak (IV b.rows) a.rows 0 then some true else some false:=by
     refine BO (x0:=a.rows) (L:=fun n i=>EA N (Cl N d) n false a.rows.length i a b) (fun n=>by simp [EA]) (fun i x n hi hxi hm=> ?_) (by omega);have hi' :(i:Int)<(a.rows.length:Int):=by omega
     have hc:x.cells.length<=K:=(h7.2 x hm).1.1;simp only [EA,Zz hi',jT,jF,jI,AR hxi,AL hi (by omega:a.rows.length<=_),xFB (N:=N) (xs:=x.cells) (by omega) (by omega),jS]
     grind [IV]
    have r4:GV N (Cl N d) N false a.list.length 0 a b=bif Ak (fun i x=>Bd x (b.list.getD i Dv)) a.list 0 then EA N (Cl N d) N false a.rows.length 0 a b else some false:=by
     refine BO (x0:=a.list) (L:=fun n i=>GV N (Cl N d) n false a.list.length i a b) (fun n=>by simp [GV]) (fun i x n hi hxi hm=> ?_) (by omega)
     grind [GV,jI,AL]
    grind
theorem xH3{K:Nat}(hK:K<=137438953472):∀a:Val,a.Fit K->∀b:Val,b.Fit K->Big2 fun N d=>Bc N d a b false=some (Bd a b)/\Cl N d a b false=some (Bd a b):=by
 refine Val.ind fun k n s t l c r ih ha b hb=> ?_;obtain⟨_,_,_,_,h5,_,_⟩:=Val.fit_iff.1 ha;obtain⟨_,_,_,_,g5,_,_⟩:=Val.fit_iff.1 hb;refine Big2.succ ?_;refine((Big2.list fun x hx=>Big2.list fun y hy=>ih x hx (h5.2 x hx) y (g5.2 y hy)).and (Ap K).two).imp fun N d ⟨hx,hN⟩=>⟨?_,?_⟩
 ·exact xKu ha hb hK hN fun x hm y hy=>(hx x hm y hy).1
 ·exact xF2 ha hb hK hN fun x hm y hy=>(hx x hm y hy).2
theorem xIb{K:Nat}(hK:K<=137438953472){a b:Val}(ha:a.Fit K)(hb:b.Fit K):Big fun N=>Ik N a b=some (Bd a b)/\Jm N a b=some (Bd a b):=
 (xH3 hK a ha b hb).diag.imp fun N h=>by
   grind [Kr,OR,Ik,Jm]
def Hc(a b:Val):Val:=
 bif a.kind==1 then(bif b.kind==1 then C4 (i64.wrap (a.n+b.n)) else AO 4)
 else bif a.kind==2 then(bif b.kind==2 then(bif decide (i64.wrap ((a.text.length:Int)+(b.text.length:Int))>20) then AO 6 else .mk 2 0 0 (a.text++b.text) [] [] []) else AO 4)
 else bif a.kind==3 then(bif b.kind==3 then(bif decide (i64.wrap ((a.list.length:Int)+(b.list.length:Int))>8) then AO 6 else .mk 3 0 0 [] (a.list++b.list) [] []) else AO 4)
 else AO 4
def J0(t:Bool):Val:=bif t then AX 1 else AX 0
def KG(a b:Val):Val:=
 bif a.kind==1 then(bif b.kind==1 then J0 (decide (a.n<b.n)) else AO 4)
 else bif a.kind==2 then(bif b.kind==2 then J0 (Op.bytesLess a.text b.text) else AO 4)
 else AO 4
def opV(op:Int)(a b:Val):Val:=
 bif op==1 then Hc a b else bif op==4 then KG a b else bif op==5 then J0 (Bd a b)
 else bif op==2 then(bif a.kind==1 then(bif b.kind==1 then C4 (i64.wrap (a.n - b.n)) else AO 4) else AO 4)
 else bif op==3 then(bif a.kind==1 then(bif b.kind==1 then C4 (i64.wrap (a.n*b.n)) else AO 4) else AO 4)
 else AO 4
def Bh(op:Int)(a b:Val):Val×Bool:=bif(opG [a,b]).2.1 then((opG [a,b]).1,(opG [a,b]).2.2) else(opV op a b,false)
theorem xJn{N:Nat}{a b:Val}(h1:a.text.length<=137438953472)(h2:b.text.length<=137438953472)(h3:a.list.length+b.list.length<=137438953472)(hn:a.list.length+b.list.length<N)(hc:∀x∈a.list++b.list,B1 N x=some x):JU N a b=some (Hc a b):=by
 have hl:=PM (N:=N) (l:=a.list++b.list) (by grind) (by grind) hc;unfold JU Hc;cases (a.kind==1)
 ·cases (a.kind==2)
  ·cases (a.kind==3)
   ·rfl
   ·cases (b.kind==3)
    ·rfl
    ·simp only [jT,jF,jM,hl,AK,jS];cases decide (i64.wrap ((a.list.length:Int)+(b.list.length:Int))>8)
     ·grind [Lim]
     ·rfl
  ·cases (b.kind==2)
   ·rfl
   ·simp only [jT,jF,Df,AK,jS];cases decide (i64.wrap ((a.text.length:Int)+(b.text.length:Int))>20)
    ·grind [Lim]
    ·rfl
 ·cases (b.kind==1)
  ·rfl
  grind [PQ]
theorem xA2(N:Nat)(t:Bool):Iu N t=some (J0 t):=by cases t <;>rfl
theorem xF8(N:Nat)(t:Bool):Jv N t=some (J0 t):=by cases t <;>rfl
theorem xKq(N:Nat)(a b:Val):Ks N a b=some (KG a b):=by
 unfold Ks KG;simp only [xA2,jS];cases (a.kind==1)
 ·cases (a.kind==2)
  ·rfl
  ·cases (b.kind==2) <;>rfl
 ·cases (b.kind==1) <;>rfl
theorem xKs{N:Nat}{op:Int}{a b:Val}(ha:JU N a b=some (Hc a b))(hs:Ik N a b=some (Bd a b))(h5:Ed N [a,b]=some ((opG [a,b]).1,(opG [a,b]).2.1)):
 K0 N op a b=some (Bh op a b).1:=by
 unfold K0;simp only [Val.re_eq,h5,jS,ha,hs,xKq,xA2,PQ,AK,Bh,opV];cases (opG [a,b]).2.1
 ·cases (a.kind==1) <;>cases (op==1) <;>cases (op==4) <;>cases (op==5) <;>cases (op==2) <;>cases (op==3) <;>cases (b.kind==1) <;>rfl
 ·rfl
theorem xFV{N:Nat}{op:Int}{a b:Val}(h1:a.text.length+b.text.length<=137438953472)(h3:a.list.length+b.list.length<=137438953472)(hs:Jm N a b=some (Bd a b))(h5:EG N [a,b]=some (opG [a,b]))
 (ca:GU N a.list=some a.list) (cb:GU N b.list=some b.list):Jk N op a b=some (Bh op a b):=by
 obtain⟨e1,e2,e3,e4,e5⟩:=FM (l:=[a,b]);have hT:a.text.length+b.text.length<=Lim:=by unfold Lim;omega
 have hL:a.list.length+b.list.length<=Lim:=by unfold Lim;omega
 unfold Jk;simp only [DV,L8,L9,Val.re_eq,h5,jS,e1,e2,e3,jE,Ys,CU e1 e2 e3,hs,xF8,TP,AJ,Ju,ca,cb,Zt hT,Zt hL,Bh,opV,Hc,KG];cases g:(opG [a,b]).2.1
 ·rw [IL g];simp only [jF]
  rcases T8 op with ⟨o1,o2,o3,o4,o5,_⟩|⟨o1,o2,o3,o4,o5,_⟩|⟨o1,o2,o3,o4,o5,_⟩|⟨o1,o2,o3,o4,o5,_⟩|⟨o1,o2,o3,o4,o5,_⟩|⟨o1,o2,o3,o4,o5,_⟩|⟨o1,o2,o3,o4,o5,_⟩ <;>simp only [o1,o2,o3,o4,o5,jT,jF] <;>
   cases (a.kind==1) <;>cases (a.kind==2) <;>cases (a.kind==3) <;>cases (b.kind==1) <;>cases (b.kind==2) <;>cases (b.kind==3) <;>cases (decide (i64.wrap ((a.list.length:Int)+(b.list.length:Int))>8)) <;>cases (decide (i64.wrap ((a.text.length:Int)+(b.text.length:Int))>20)) <;>rfl
 ·cases (opG [a,b]).2.2 <;>rfl
theorem QJ{op:Int}{a b:Val}(ha:a.Fit 1048576)(hb:b.Fit 1048576):Big fun N=>Jk N op a b=some (Bh op a b)/\K0 N op a b=some (Bh op a b).1:=by
 obtain⟨_,_,_,a4,a5,_,_⟩:=Val.fit_iff.1 ha;obtain⟨_,_,_,b4,b5,_,_⟩:=Val.fit_iff.1 hb;have a4:a.text.length<=1048576:=a4;have b4:b.text.length<=1048576:=b4;have:=a5.1;have:=b5.1;have hk:(1048576:Nat)<=137438953472:=by omega
 refine(((IM (K:=1048576) (by omega) (l:=[a,b]) (Em ha hb) (by simp)).and (xIb hk ha hb)).and (((Jz a5 hk).and (Jz b5 hk)).and ((Big.list (l:=a.list++b.list) fun x hx=>DL ((Zf.1 hx).elim (a5.2 x) (b5.2 x)) hk).and (Ap 2097153)))).imp
  fun N ⟨⟨⟨h1,h2⟩,s1,s2⟩,⟨c1,c2⟩,c3,hN⟩=>⟨?_,?_⟩
 ·exact xFV (by omega) (by omega) s2 h1 c1 c2
 ·exact xKs (xJn (by omega) (by omega) (by omega) (by omega) c3) s1 h2
def Ret{α:Type}(o:Option α)(Q:α->Prop):Prop:=∃r,o=some r/\Q r
theorem Ret.mk' {α:Type}{a:α}{Q:α->Prop}(h:Q a):Ret (Option.some a) Q:=⟨a,rfl,h⟩
theorem Ret.bnd{α β:Type}{o:Option α}{f:α->Option β}{P:α->Prop}{Q:β->Prop}(h:Ret o P)(hf:∀a,P a->Ret (f a) Q):Ret (Option.bind o f) Q:=by
 obtain⟨a,rfl,ha⟩:=h
 grind
theorem Ret.cnd{α:Type}{b:Bool}{x y:Option α}{Q:α->Prop}(h1:b=true->Ret x Q)(h2:b=false->Ret y Q):Ret (bif b then x else y) Q:=by
 grind
theorem Ret.chk{α:Type}{p:Prop} [Decidable p]{x:Option α}{Q:α->Prop}(hp:p)(h:Ret x Q):Ret (if p then x else none) Q:=by
 grind
theorem Ret.imp{α:Type}{o:Option α}{P Q:α->Prop}(h:Ret o P)(hi:∀a,P a->Q a):Ret o Q:=by
 obtain⟨a,e,ha⟩:=h;exact⟨a,e,hi a ha⟩
structure CurOk (c:Cur):Prop where
 lo:0<=c.i
 len:c.b.length<=1048576
def Dr{α:Type}(P:α->Prop):α×Cur->Prop:=fun r=>P r.1/\CurOk r.2
theorem QI(x:Int):0<=sI .i64 x 255/\sI .i64 x 255<=255:=by
 unfold sI;have h:(BitVec.ofInt IntKind.i64.bits x &&& BitVec.ofInt IntKind.i64.bits 255).toNat<=255:=by
  rw [BitVec.toNat_and];exact Nat.and_le_right
 grind [Af]
theorem Ja{N:Nat}{c:Cur}(h:CurOk c):Ret (Fc N c) (Dr fun v=>0<=v/\v<=255):=by
 unfold Fc;have h1:=h.lo;have h2:=h.len;refine .cnd (fun hc=> ?_) (fun _=> .mk' ⟨QI _,h1,h2⟩);have hc:=of_decide_eq_true hc;refine .chk ⟨h1,hc⟩ (.mk' ⟨QI _,?_,h2⟩)
 grind [Af]
theorem xBf{x n:Int}(hx:0<=x)(hn:0<n):0<=Int.tmod x n/\Int.tmod x n<n:=by
 rw [Int.tmod_eq_emod_of_nonneg hx];exact⟨Int.emod_nonneg _ (by omega),Int.emod_lt_of_pos _ hn⟩
theorem QM{N:Nat}{c:Cur}{n:Int}(h:CurOk c):Ret (AT N c n) (Dr fun v=>0<=v/\(v<n\/v=0)):=by
 unfold AT;refine .cnd (fun _=> .mk' ⟨⟨by omega,.inr rfl⟩,h⟩) (fun hc=> ?_);have hc:¬n<=0:=of_decide_eq_false hc;have hn:n≠0:=by omega
 refine .cnd (fun _=> .bnd (Ja h) fun a ha=> ?_) (fun _=> .bnd (Ja h) fun a ha=> .bnd (Ja ha.2) fun b hb=> .bnd (Ja hb.2) fun d hd=> .bnd (Ja hd.2) fun e he=> ?_)
 ·have:=xBf ha.1.1 (by omega:0<n);exact .chk hn (.mk' ⟨⟨this.1,.inl this.2⟩,ha.2⟩)
 ·have a1:=ha.1;have b1:=hb.1;have d1:=hd.1;have e1:=he.1
  have key:∀x y z w:Int,(0<=x/\x<=255)->(0<=y/\y<=255)->(0<=z/\z<=255)->(0<=w/\w<=255)->
   0<=i64.wrap ((i64.wrap ((i64.wrap ((i64.wrap (x*16777216))+(i64.wrap (y*65536))))+(i64.wrap (z*256))))+w):=by
   grind [Af]
  have:=xBf (key _ _ _ _ a1 b1 d1 e1) (by omega:0<n);exact .chk hn (.mk' ⟨⟨this.1,.inl this.2⟩,he.2⟩)
theorem LI{N:Nat}{c:Cur}{n:Int}(h:CurOk c)(hn:0<n):Ret (AT N c n) (Dr fun v=>0<=v/\v<n):=
 (QM h).imp fun a ha=>⟨⟨ha.1.1,by have:=ha.1.2;omega⟩,ha.2⟩
theorem UF{N:Nat}{c:Cur}{n:Int}(h:CurOk c):Ret (BM N c n) (Dr fun _=>True):=
 .bnd (QM h) fun a ha=> .mk' ⟨trivial,ha.2⟩
theorem xHD{N:Nat}{c:Cur}{l:List Str}(h:CurOk c)(hl:0<l.length):Ret (Be N c l) (Dr fun v=>v∈l):=by
 refine .bnd (LI h (by omega)) fun a ha=> ?_;have h1:=ha.1;refine .chk h1 (.mk' ⟨?_,ha.2⟩)
 grind
theorem US{N:Nat}{c:Cur}{l:List Int}(h:CurOk c)(hl:0<l.length):Ret (Ff N c l) (Dr fun v=>v∈l):=by
 refine .bnd (LI h (by omega)) fun a ha=> ?_;have h1:=ha.1;refine .chk h1 (.mk' ⟨?_,ha.2⟩)
 grind
theorem xGA{N:Nat}{c:Cur}(h:CurOk c):Ret (CM N c) (Dr fun v=> -1000000000<=v/\v<=1000000000):=by
 refine .bnd (UF h) fun a ha=> .cnd (fun _=> .bnd (US ha.2 (by decide)) fun b hb=> .mk' ⟨?_,hb.2⟩) (fun _=> .bnd (LI ha.2 (by decide)) fun b hb=> .mk' ⟨?_,hb.2⟩)
 ·have:=hb.1
  grind
 ·have:=hb.1
  grind [Af]
theorem xKU(x:Int): -2147483647<x.tmod 2147483647/\x.tmod 2147483647<2147483647:=by
 grind
def FO(x:Int):Int:=if x.tmod 2147483647<0 then x.tmod 2147483647+2147483647 else x.tmod 2147483647
theorem UZ(x:Int):0<=FO x/\FO x<2147483647:=by
 grind [FO]
theorem xJJ(N:Nat)(x:Int):Kl N x=some (FO x):=by
 grind [Kl,FO,Af]
def DF(a b c d:Int):Int:=FO (16807*FO (i64.wrap ((i64.wrap ((i64.wrap ((i64.wrap (48271*a))+(i64.wrap (7919*b))))+(i64.wrap (104729*c))))+(i64.wrap (1299709*d)))))
theorem xJc(N:Nat)(a b c d:Int):Ml N a b c d=some (DF a b c d):=by
 have:=UZ (i64.wrap ((i64.wrap ((i64.wrap ((i64.wrap (48271*a))+(i64.wrap (7919*b))))+(i64.wrap (104729*c))))+(i64.wrap (1299709*d))))
 grind [Ml,xJJ,DF,Af]
theorem xE9(N:Nat)(a b c d:Int):Lr N a b c d=some (DF a b c d):=by
 unfold Lr DF;generalize (i64.wrap ((i64.wrap ((i64.wrap ((i64.wrap (48271*a))+(i64.wrap (7919*b))))+(i64.wrap (104729*c))))+(i64.wrap (1299709*d))))=x;have:=xKU x
 grind [FO,Af]
def DS(w:Wld)(c v:Int)(r:Rea):Val:=
 bif r.kind==1 then(bif AY w.clock then AX w.clock else AO 4)
 else bif r.kind==2 then(bif decide (1<=r.n)&&decide (r.n<=1000000000) then AX (Int.tmod (DF w.seed c v r.time) r.n) else AO 5)
 else bif r.kind==3 then(bif(Bu w.files r.text).2 then(bif AY (Bu w.files r.text).1 then AX (Bu w.files r.text).1 else AO 4) else AO 1)
 else AO 4
theorem xG2(a b c d:Int):0<=DF a b c d/\DF a b c d<2147483647:=UZ _
theorem xDO{N:Nat}{w:Wld}{c v:Int}{r:Rea}(hl:w.files.length<=1048576)(hn:w.files.length<N):GG N w c v r=some (DS w c v r)/\Gz N w c v r=some (DS w c v r):=by
 have f1:=xIV (N:=N) (w:=w) (s:=r.text) (by omega) hn;have f2:=xER (N:=N) (w:=w) (s:=r.text) (by omega) hn;have hm:=xG2 w.seed c v r.time;cases h1:(r.kind==1)
 ·cases h2:(r.kind==2)
  ·cases h3:(r.kind==3)
   ·simp only [GG,Gz,h1,h2,h3,jF,AJ,AK,jS,DS];exact⟨rfl,rfl⟩
   ·simp only [GG,Gz,h1,h2,h3,jF,jT,f1,f2,AJ,AK,Ax,A6,D2,DO,jS,DS];cases (Bu w.files r.text).2 <;>cases AY (Bu w.files r.text).1 <;>exact⟨rfl,rfl⟩
  ·simp only [GG,Gz,h1,h2,jF,jT,EH,Fd,xE9,xJc,AJ,AK,Ax,A6,D2,jS,DS];cases h4:decide (1<=r.n)&&decide (r.n<=1000000000)
   ·exact⟨rfl,rfl⟩
   ·simp only [Zu,ZU] at h4;have hne:r.n≠(0:Int):=by omega
    have hr1:=Int.tmod_nonneg r.n hm.1;have hr2:=Int.tmod_lt_of_pos (DF w.seed c v r.time) (show 0<r.n by omega);have hno:AY (Int.tmod (DF w.seed c v r.time) r.n)=true:=by
     grind [AY]
    simp only [jU,jF,jT,Zt hne,hno];exact⟨rfl,rfl⟩
 ·simp only [GG,Gz,h1,jT,AJ,AK,Ax,A6,D2,DO,jS,DS];cases AY w.clock <;>exact⟨rfl,rfl⟩
theorem xIH{N:Nat}{xs:List Org}(hl:xs.length<=137438953472)(hn:xs.length<N):NN N xs xs=some true:=by
 unfold NN;rw [Ye,jF]
 exact Jc (x0:=xs) (L:=fun n i=>JP N n xs xs i) (fun n=>by simp [JP]) (fun i x n hi hxi hm=>by
  grind [JP,AL]) hn
theorem xIG{N:Nat}{xs:List Int}(hl:xs.length<=137438953472)(hn:xs.length<N):JH N xs xs=some true:=by
 unfold JH;rw [Ye,jF]
 exact Jc (x0:=xs) (L:=fun n i=>E8 N n xs xs i) (fun n=>by simp [E8]) (fun i x n hi hxi hm=>by
  grind [E8,AL]) hn
theorem xIK{N:Nat}{xs:List Str}(hl:xs.length<=137438953472)(hn:xs.length<N):JT N xs xs=some true:=by
 unfold JT;rw [Ye,jF]
 exact Jc (x0:=xs) (L:=fun n i=>Ec N n xs xs i) (fun n=>by simp [Ec]) (fun i x n hi hxi hm=>by
  grind [Ec,AL]) hn
theorem xIJ{N d K:Nat}{a:Val}(ha:a.Fit K)(hK:K<=137438953472)(hN:K<N)(hx:∀x∈a.list,∀f,Bc N d x x f=some true)(f:Bool):Bc N (d+1) a a f=some true:=by
 obtain⟨_,_,_,_,h5,h6,h7⟩:=Val.fit_iff.1 ha;have l5:a.list.length<=K:=h5.1;have l6:a.columns.length<=K:=h6.1;have l7:a.rows.length<=K:=h7.1;show JR N (Bc N d) a a f=_;unfold JR;simp only [Ye,jF,Yc,jU,xIK (N:=N) (xs:=a.columns) (by omega) (by omega),jS];have r9:Cd N (Bc N d) N f 0 a a=some true:=by
  refine Jc (x0:=a.rows) (L:=fun m i=>Cd N (Bc N d) m f i a a) (fun m=>by simp [Cd]) (fun i x m hi hxi hm=> ?_) (by omega);have hi' :(i:Int)<(a.rows.length:Int):=by omega
  have g:=h7.2 x hm;have g1:x.cells.length<=K:=g.1.1;have g2:x.frm.length<=K:=g.2.1
  grind [Cd,AL,xIG,xIH]
 refine Jc (x0:=a.list) (L:=fun m i=>Dl N (Bc N d) m f i a a) (fun m=>by grind [Dl]) (fun i x m hi hxi hm=> ?_) (by omega)
 grind [Dl,AL]
theorem xII{K:Nat}(hK:K<=137438953472):∀v:Val,v.Fit K->Big2 fun N d=>∀f,Bc N d v v f=some true:=by
 refine Val.ind fun k n s t l c r ih h=> ?_;obtain⟨_,_,_,_,h5,h6,h7⟩:=Val.fit_iff.1 h;refine Big2.succ ?_;exact((Big2.list fun x hx=>ih x hx (h5.2 x hx)).and (Ap K).two).imp fun N d ⟨hx,hN⟩=>xIJ h hK hN hx
theorem xIF{K:Nat}(hK:K<=137438953472){v:Val}(h:v.Fit K):Big fun N=>K8 N v v=some true:=
 (xII hK v h).diag.imp fun N h=>by
   grind [Kr,K8]
def U{ι α:Type}(S:ι->Prop)(o:ι->Option α)(Q:α->Prop):Prop:=∃r,Q r/\∀x,S x->o x=some r
section
variable {ι α β:Type} {S:ι->Prop} {P:α->Prop} {Q:β->Prop}
theorem U.mk' {a:α}(h:P a):U S (fun _=>some a) P:=⟨a,h,fun _ _=>rfl⟩
theorem U.bnd{o:ι->Option α}{f:ι->α->Option β}(h:U S o P)(hf:∀a,P a->U S (fun x=>f x a) Q):U S (fun x=>Option.bind (o x) (f x)) Q:=by
 obtain⟨a,ha,e⟩:=h;obtain⟨b,hb,e'⟩:=hf a ha;exact⟨b,hb,fun x hx=>by grind⟩
theorem U.cnd{b:Bool}{p q:ι->Option α}(h1:b=true->U S p P)(h2:b=false->U S q P):U S (fun x=>bif b then p x else q x) P:=by
 cases b
 all_goals grind
theorem U.chk{p:Prop} [Decidable p]{o:ι->Option α}(hp:p)(h:U S o P):U S (fun x=>if p then o x else none) P:=by
 simp_all
theorem U.imp{o:ι->Option α}{P' :α->Prop}(h:U S o P)(hi:∀a,P a->P' a):U S o P' :=by
 obtain⟨a,ha,e⟩:=h;exact⟨a,hi a ha,e⟩
theorem U.pre{κ:Type}{T:κ->Prop}{o:κ->Option α}(h:U T o P)(g:ι->κ)(hg:∀x,S x->T (g x)):U S (fun x=>o (g x)) P:=by
 obtain⟨a,ha,e⟩:=h;exact⟨a,ha,fun x hx=>e _ (hg x hx)⟩
theorem U.congr{o o' :ι->Option α}(h:U S o P)(he:∀x,S x->o' x=o x):U S o' P:=by
 obtain⟨a,ha,e⟩:=h;exact⟨a,ha,fun x hx=>(he x hx).trans (e x hx)⟩
theorem U.ret{o:Nat->Option α}(g:ι->Nat)(h:Ret (o 0) P)(hc:∀N,o N=o 0):U S (fun x=>o (g x)) P:=by
 obtain⟨a,e,ha⟩:=h;exact⟨a,ha,fun x _=>(hc _).trans e⟩
end
theorem Cj{σ ρ:Type}{L:Nat->Nat->Int->σ->Option ρ}{Q:ρ->Prop}{B:Nat}(len:Nat)(Inv:Nat->σ->Prop)(hB:len<=B)
 (hend:∀st,Inv len st->U (fun x:Nat×Nat=>B<x.1) (fun x=>L x.1 (x.2+1) (len:Nat) st) Q)
 (hstep:∀i st,i<len->Inv i st->(∀st',Inv (i+1) st' ->U (fun x:Nat×Nat=>B<x.1/\len - (i+1)<x.2) (fun x=>L x.1 x.2 ((i+1:Nat):Int) st') Q)->U (fun x:Nat×Nat=>B<x.1/\len - (i+1)<x.2) (fun x=>L x.1 (x.2+1) (i:Nat) st) Q):
 ∀st,Inv 0 st->U (fun N:Nat=>B<N) (fun N=>L N N 0 st) Q:=by
 have key:∀k i st,len - i=k->i<=len->Inv i st->U (fun x:Nat×Nat=>B<x.1/\len - i<x.2) (fun x=>L x.1 x.2 (i:Nat) st) Q:=by
  intro k
  induction k with
  |zero=>
   intro i st hk hi hs;have:i=len:=by omega
   subst this;obtain⟨r,hr,e⟩:=hend st hs;refine⟨r,hr,fun x hx=> ?_⟩;obtain⟨N,n⟩:=x;obtain⟨m,rfl⟩:∃m,n=m+1:=⟨n - 1,by grind⟩
   simp_all
  |succ k ih=>
   intro i st hk hi hs;obtain⟨r,hr,e⟩:=hstep i st (by omega) hs fun st' h' =>ih (i+1) st' (by omega) (by omega) h';refine⟨r,hr,fun x hx=> ?_⟩;obtain⟨N,n⟩:=x;have h2:len - i<n:=hx.2;obtain⟨m,rfl⟩:∃m,n=m+1:=⟨n - 1,by omega⟩;exact e (N,m) ⟨hx.1,by grind⟩
 intro st hs;exact(key len 0 st (by omega) (by omega) hs).pre (fun N=>(N,N)) fun N hN=>⟨hN,by grind⟩
section
variable {ι:Type} {S:ι->Prop} {c:Cur}
theorem Ao(g:ι->Nat){n:Int}(h:CurOk c)(hn:0<n):U S (fun x=>AT (g x) c n) (Dr fun v=>0<=v/\v<n):= .ret (o:=fun N=>AT N c n) g (LI h hn) fun _=>rfl
theorem D6(g:ι->Nat){n:Int}(h:CurOk c):U S (fun x=>BM (g x) c n) (Dr fun _=>True):= .ret (o:=fun N=>BM N c n) g (UF h) fun _=>rfl
theorem Gh(g:ι->Nat){l:List Str}(h:CurOk c)(hl:0<l.length):U S (fun x=>Be (g x) c l) (Dr fun v=>v∈l):= .ret (o:=fun N=>Be N c l) g (xHD h hl) fun _=>rfl
theorem xHC(g:ι->Nat){l:List Int}(h:CurOk c)(hl:0<l.length):U S (fun x=>Ff (g x) c l) (Dr fun v=>v∈l):= .ret (o:=fun N=>Ff N c l) g (US h hl) fun _=>rfl
theorem KD(g:ι->Nat)(h:CurOk c):U S (fun x=>CM (g x) c) (Dr fun v=> -1000000000<=v/\v<=1000000000):= .ret (o:=fun N=>CM N c) g (xGA h) fun _=>rfl
theorem xG8(g:ι->Nat){a:List Int}(h:a.length<=1048576)(hS:∀x,S x->1048576<g x):U S (fun x=>JI (g x) a) CurOk:=by
 have key:U (fun N:Nat=>1048576<N) (fun N=>JI N a) CurOk:=by
  unfold JI;refine Cj (σ:=Int) (L:=fun N m i st=>JJ N m a st i) (B:=1048576) a.length (fun _ _=>True) h (fun st _=> ?_) (fun i st hi _ ih=> ?_) _ trivial
  ·simp only [JJ,Zd,Z9,jF];exact .mk' ⟨by grind,h⟩
  ·simp only [JJ,Zz (show(i:Int)<(a.length:Int) by omega),jT,AL hi (by omega:a.length<=_)];exact .cnd (fun _=> .chk ⟨by omega,by omega⟩ (ih _ trivial)) (fun _=> .mk' ⟨by grind,h⟩)
 exact key.pre g hS
end
def VDr(v:Val):Prop:=v.Fit 64
theorem Ky{k n s:Int}{t:Str}(h1:I64 k)(h2:I64 n)(h3:I64 s)(h4:t.length<=64):VDr (.mk k n s t [] [] []):=S6 h1 h2 h3 h4
theorem L6{x:Int}(h1: -1000000000<=x)(h2:x<=1000000000):I64 x:=⟨by omega,by omega⟩
theorem xGC{ι:Type}{S:ι->Prop}{c:Cur}(g:ι->Nat)(h:CurOk c):U S (fun x=>H3 (g x) c) (Dr fun v=>v.length<=64):=by
 refine .bnd (Gh g h (by decide)) fun a ha=> .mk' ⟨?_,ha.2⟩;have:=ha.1;simp only [Zh,Z6,or_false] at this;show a.1.length<=64;rcases this with e|e|e|e|e|e|e <;>rw [e] <;>decide
theorem Co{v:Int}(h:0<=v):∃n:Nat,v=(n:Int):=⟨v.toNat,by omega⟩
theorem xGx{c:Cur}(h:CurOk c):U (fun N:Nat=>1000<N) (fun N=>Pa N c) (Dr fun v=>v.length<=64/\∀x∈v,Org.Fit x):=by
 refine .bnd (Ao id h (by decide)) fun a ha=> ?_;obtain⟨n,hn⟩:=Co ha.1.1;have hn2:n<3:=by have:=ha.1.2;omega
 rw [hn];refine Cj (σ:=List Org×Int×Cur) (L:=fun N m i st=>JO N m st.1 st.2.1 n i st.2.2) (B:=1000) n (fun i st=>(st.1.length<=i/\∀x∈st.1,Org.Fit x)/\I64 st.2.1/\CurOk st.2.2) (by omega) (fun st hs=> ?_) (fun i st hi hs ih=> ?_) ([],1,a.2) ⟨⟨Zn _,by simp⟩,(show I64 1 from Ac (by omega) (by omega)),ha.2⟩
 ·simp only [JO,Zd,Z9,jF];exact .mk' ⟨⟨by grind,hs.1.2⟩,hs.2.2⟩
 ·simp only [JO,Zz (show(i:Int)<(n:Int) by omega),jT,AL hi (by omega:n<=_)];refine .bnd (Ao _ hs.2.2 (by decide)) fun b hb=> .chk ?_ (.bnd (Ao _ hb.2 (by decide)) fun d hd=>ih (st.1++ [Org.mk st.2.1 _],_,d.2) ⟨⟨?_,fun x hx=> ?_⟩,Ey _,hd.2⟩)
  ·grind [Lim]
  ·grind
  ·rcases Zf.1 hx with hx|hx
   ·grind
   ·simp at hx;subst hx;exact⟨hs.2.1,Ey _⟩
theorem Kz{v:Val}(h1:I64 v.kind)(h2:I64 v.n)(h3:I64 v.step)(h4:v.text.length<=64)(h5:Aj 64 (Val.Fit 64) v.list)(h6:Aj 64 (Str.Fit 64) v.columns)(h7:Aj 64 (Rowd.Fit 64) v.rows):VDr v:=Val.fit_iff.2 ⟨h1,h2,h3,h4,h5,h6,h7⟩
theorem EP{α:Type}{K:Nat}{p:α->Prop}{l:List α}{x:α}{i:Nat}(h:l.length<=i/\∀y∈l,p y)(hx:p x):(l++ [x]).length<=i+1/\∀y∈l++ [x],p y:=by
 grind
theorem xGB{c:Cur}(h:CurOk c):U (fun N:Nat=>1000<N) (fun N=>Pb N c) (Dr VDr):=by
 refine .bnd (Ao id h (by decide)) fun a ha=> ?_;obtain⟨n,hn⟩:=Co ha.1.1;have hn2:n<9:=by have:=ha.1.2;omega
 rw [hn];refine Cj (σ:=List Val×Cur) (L:=fun N m i st=>H0 N m n i st.2 (Val.mk 0 0 0 [] [] [] []) (Val.mk 3 0 0 [] st.1 [] [])) (B:=1000) n (fun i st=>(st.1.length<=i/\∀x∈st.1,Val.Fit 64 x)/\CurOk st.2) (by omega) (fun st hs=> ?_) (fun i st hi hs ih=> ?_) ([],a.2) ⟨⟨Zn _,by simp⟩,ha.2⟩
 ·simp only [H0,Zd,Z9,jF];exact .mk' ⟨Kz (show I64 3 from Ac (by omega) (by omega)) (show I64 0 from Ac (by omega) (by omega)) (show I64 0 from Ac (by omega) (by omega)) (Zg _) ⟨by have:=hs.1.1;show st.1.length<=64;omega,hs.1.2⟩ DE DE,hs.2⟩
 ·simp only [H0,A6,Zz (show(i:Int)<(n:Int) by omega),jT,AL hi (by omega:n<=_),jS,Val.re_eq,vk,vn,vs,vt,vl,vc,vr];refine .bnd (KD _ hs.2) fun b hb=> .chk ?_ (ih (st.1++ [_],b.2) ⟨EP (K:=64) hs.1 ?_,hb.2⟩)
  ·grind [Lim]
  ·have:=hb.1
   grind [S6,L6]
theorem Nx{κ σ ρ:Type}{T:κ->Prop}{L:κ->Nat->Int->σ->Option ρ}{Q:ρ->Prop}(len:Nat)(Inv:Nat->σ->Prop)
 (hend:∀st,Inv len st->U (fun x:κ×Nat=>T x.1) (fun x=>L x.1 (x.2+1) (len:Nat) st) Q)
 (hstep:∀i st,i<len->Inv i st->(∀st',Inv (i+1) st' ->U (fun x:κ×Nat=>T x.1/\len - (i+1)<x.2) (fun x=>L x.1 x.2 ((i+1:Nat):Int) st') Q)->U (fun x:κ×Nat=>T x.1/\len - (i+1)<x.2) (fun x=>L x.1 (x.2+1) (i:Nat) st) Q)
 (fuel:κ->Nat) (hf:∀x,T x->len<fuel x):∀st,Inv 0 st->U T (fun x=>L x (fuel x) 0 st) Q:=by
 have key:∀k i st,len - i=k->i<=len->Inv i st->U (fun x:κ×Nat=>T x.1/\len - i<x.2) (fun x=>L x.1 x.2 (i:Nat) st) Q:=by
  intro k
  induction k with
  |zero=>
   intro i st hk hi hs;have:i=len:=by omega
   subst this;obtain⟨r,hr,e⟩:=hend st hs;refine⟨r,hr,fun x hx=> ?_⟩;obtain⟨N,n⟩:=x;obtain⟨m,rfl⟩:∃m,n=m+1:=⟨n - 1,by grind⟩
   simp_all
  |succ k ih=>
   intro i st hk hi hs;obtain⟨r,hr,e⟩:=hstep i st (by omega) hs fun st' h' =>ih (i+1) st' (by omega) (by omega) h';refine⟨r,hr,fun x hx=> ?_⟩;obtain⟨N,n⟩:=x;have h2:len - i<n:=hx.2;obtain⟨m,rfl⟩:∃m,n=m+1:=⟨n - 1,by omega⟩;exact e (N,m) ⟨hx.1,by grind⟩
 intro st hs;exact(key len 0 st (by omega) (by omega) hs).pre (fun x=>(x,fuel x)) fun x hx=>⟨hx,by grind⟩
theorem Tb{w rows:Nat}{cols:List Str}{z:Val}{c:Cur}(hw:w<=3)(hr:rows<=5)(hc:Aj 64 (Str.Fit 64) cols)(h:CurOk c):
 U (fun N:Nat=>1000<N) (fun N=>E9 N N w rows 0 c z (Val.mk 5 0 0 [] [] cols [])) (Dr fun v=>VDr v/\v.list=[]):=by
 refine Cj (σ:=List Rowd×Cur) (L:=fun N m i st=>E9 N m w rows i st.2 z (Val.mk 5 0 0 [] [] cols st.1)) (B:=1000) rows (fun i st=>(st.1.length<=i/\∀x∈st.1,Rowd.Fit 64 x)/\CurOk st.2) (by omega) (fun st hs=> ?_) (fun i st hi hs ih=> ?_) ([],c) ⟨⟨Zn _,by simp⟩,h⟩
 ·simp only [E9,Zd,Z9,jF];exact .mk' ⟨⟨Kz (show I64 5 from Ac (by omega) (by omega)) (show I64 0 from Ac (by omega) (by omega)) (show I64 0 from Ac (by omega) (by omega)) (Zg _) DE hc ⟨by have:=hs.1.1;show st.1.length<=64;omega,hs.1.2⟩,rfl⟩,hs.2⟩
 ·simp only [E9,Zz (show(i:Int)<(rows:Int) by omega),jT];refine .bnd ((xGx hs.2).pre (fun x:Nat×Nat=>x.1) fun x hx=>hx.1) fun a ha=> ?_
  refine Nx (κ:=Nat×Nat) (σ:=List Int×Cur) (L:=fun x m j q=>JN x.1 (fun z0 z1 z2 z3 z4 z5=>E9 x.1 x.2 z0 z1 z2 z3 z4 z5) m w rows i j q.2 z (Val.mk 5 0 0 [] [] cols st.1) (Rowd.mk q.1 a.1)) w
   (fun j q=>(q.1.length<=j/\∀y∈q.1,I64 y)/\CurOk q.2) (fun q hq=> ?_) (fun j q hj hq ih2=> ?_) (fun x=>x.1) (fun x hx=>by grind) ([],a.2) ⟨⟨Zn _,by simp⟩,ha.2⟩
  ·simp only [JN,Zd,Z9,jF,vk,vn,vs,vt,vl,vc,vr,AL hi (by omega:rows<=_)];refine .chk ?_ ((ih (st.1++ [Rowd.mk q.1 a.1],q.2) ⟨EP (K:=64) hs.1 ⟨⟨by grind,hq.1.2⟩,⟨ha.1.1,ha.1.2⟩⟩,hq.2⟩).pre (fun x:(Nat×Nat)×Nat=>x.1) fun x hx=>hx)
   grind [Lim]
  ·simp only [JN,Zz (show(j:Int)<(w:Int) by omega),jT,AL hj (by omega:w<=_)];refine .bnd (KD _ hq.2) fun b hb=> .chk ?_ (ih2 (q.1++ [b.1],b.2) ⟨EP (K:=64) hq.1 ?_,hb.2⟩)
   ·grind [Lim]
   ·have:=hb.1
    grind [L6]
theorem Tc{c:Cur}(h:CurOk c):U (fun N:Nat=>1000<N) (fun N=>Kn N c) (Dr fun v=>VDr v/\v.list=[]):=by
 unfold Kn;refine .bnd (Ao id h (by decide)) fun a ha=> ?_;obtain⟨n,hn⟩:=Co ha.1.1;have hn2:n<3:=by have:=ha.1.2;omega
 have hw:IntKind.i64.wrap (1+a.1)=((n+1:Nat):Int):=by grind [Af]
 have hcols:∀x∈([[97],[98],[99],[120]]:List Str),x.length<=64:=by decide
 rw [hw];have hlen:(List.take (Int.toNat ((n+1:Nat):Int)) ([[97],[98],[99],[120]]:List Str)).length=n+1:=by
  grind
 have hmem:∀x∈List.take (Int.toNat ((n+1:Nat):Int)) ([[97],[98],[99],[120]]:List Str),x.length<=64:=fun x hx=>hcols x (ZM hx);have hset:(List.set (List.take (Int.toNat ((n+1:Nat):Int)) ([[97],[98],[99],[120]]:List Str)) (Int.toNat 0) [120]).length=n+1:=by grind
 refine .chk ⟨by omega,by grind⟩ (.chk (ZT (YL ((Zc _).trans hlen)) (by grind [Lim])) (.bnd (D6 id ha.2) fun b hb=> .cnd (fun _=> .chk ⟨Int.le_refl _,Int.ofNat_lt.2 (Nat.lt_of_lt_of_eq (Nat.succ_pos n) (show n+1=List.length _ from hlen.symm))⟩ (.chk ⟨by omega,Int.ofNat_le.2 (ZT (Nat.succ_le_succ (Zg n)) (YL hset.symm))⟩ (.bnd (Ao id hb.2 (by decide)) fun d hd=> ?_))) (fun _=> .bnd (Ao id hb.2 (by decide)) fun d hd=> ?_)))
 ·obtain⟨m,hm⟩:=Co hd.1.1;have hm2:m<6:=by have:=hd.1.2;omega
  rw [hm];refine Tb (w:=1) (rows:=m) (by omega) (by omega) ⟨ZT (List.length_take_le 1 _) (by omega),fun x hx=> ?_⟩ hd.2;have hx:=ZM hx;rcases Yf hx with hx|rfl
  ·exact hmem x hx
  ·show List.length [120]<=64;decide
 ·obtain⟨m,hm⟩:=Co hd.1.1;have hm2:m<6:=by have:=hd.1.2;omega
  rw [hm];exact Tb (w:=n+1) (rows:=m) (by omega) (by omega) ⟨ZT (YL hlen) (by omega),fun x hx=>hmem x hx⟩ hd.2
theorem KM{ι:Type}{S:ι->Prop}{c:Cur}(g:ι->Nat)(h:CurOk c):U S (fun x=>Option.bind (CM (g x) c) fun r2=>Option.bind (A6 (g x) r2.1) fun r3=>some (r3,r2.2)) (Dr VDr):=by
 refine .bnd (KD g h) fun a ha=> .bnd (.mk' (P:=fun v=>VDr v) ?_) fun b hb=> .mk' ⟨hb,ha.2⟩;have:=ha.1
 grind [Ky,L6]
theorem Pm{ι:Type}{S:ι->Prop}{c:Cur}(g:ι->Nat)(h:CurOk c):U S (fun x=>Option.bind (H3 (g x) c) fun r2=>Option.bind (Df (g x) r2.1) fun r3=>some (r3,r2.2)) (Dr VDr):=by
 refine .bnd (xGC g h) fun a ha=> .bnd (.mk' (P:=fun v=>VDr v) ?_) fun b hb=> .mk' ⟨hb,ha.2⟩;exact Ky (Ac (by omega) (by omega)) (Ac (by omega) (by omega)) (Ac (by omega) (by omega)) ha.1
theorem T9{k:Nat}(hk:k<=3)(hd:1<k->∀c,CurOk c->U (fun x:Nat×Nat=>1000<x.1/\2*k<=x.2) (fun x=>(BV x.1 x.2).c12 c ((k - 1:Nat):Int)) (Dr VDr)):
 ∀c,CurOk c->U (fun x:Nat×Nat=>1000<x.1/\2*k+1<=x.2) (fun x=>(BV x.1 x.2).c13 c k) (Dr VDr):=by
 intro c hc;have key:U (fun x:Nat×Nat=>1000<x.1/\2*k<=x.2) (fun x=>NM x.1 (BV x.1 x.2).c12 (BV x.1 x.2).c13 c k) (Dr VDr):=by
  unfold NM;refine .cnd (fun h=> .bnd (D6 _ hc) fun a ha=> .cnd (fun _=> ?_) (fun _=> .bnd (D6 _ ha.2) fun b hb=> .cnd (fun _=>Pm _ hb.2) (fun _=>KM _ hb.2))) (fun _=> .bnd (D6 _ hc) fun a ha=> .cnd (fun _=>Pm _ ha.2) (fun _=>KM _ ha.2));have h:(k:Int)>1:=of_decide_eq_true h;have e:IntKind.i64.wrap ((k:Int) - 1)=((k - 1:Nat):Int):=by grind [Af]
  rw [e];exact .bnd (hd (by omega) a.2 ha.2) fun b hb=> .mk' ⟨hb.1,hb.2⟩
 exact(key.pre (fun x:Nat×Nat=>(x.1,x.2 - 1)) fun x hx=>⟨hx.1,by grind⟩).congr fun x hx=>by
  obtain⟨N,d⟩:=x;obtain⟨m,rfl⟩:∃m,d=m+1:=⟨d - 1,by grind⟩
  rfl
theorem Ta{k:Nat}(he:∀c,CurOk c->U (fun x:Nat×Nat=>1000<x.1/\2*k+1<=x.2) (fun x=>(BV x.1 x.2).c13 c k) (Dr VDr)):
 ∀c,CurOk c->U (fun x:Nat×Nat=>1000<x.1/\2*k+2<=x.2) (fun x=>(BV x.1 x.2).c12 c k) (Dr VDr):=by
 intro c hc;have key:U (fun x:Nat×Nat=>1000<x.1/\2*k+1<=x.2) (fun x=>NL x.1 (BV x.1 x.2).c12 (BV x.1 x.2).c13 c k) (Dr VDr):=by
  unfold NL;refine .bnd (xHC _ hc (by decide)) fun a ha=> ?_;have hm:=ha.1;simp only [Zh,Z6,or_false] at hm;obtain⟨n,hn⟩:=Co (v:=a.1) (by omega);have hn2:n<=8:=by omega
  rw [hn]
  refine Nx (κ:=Nat×Nat) (σ:=List Val×Cur) (L:=fun x m i st=>HY x.1 (BV x.1 x.2).c12 (BV x.1 x.2).c13 m k n i st.2 (Val.mk 0 0 0 [] [] [] []) (Val.mk 3 0 0 [] st.1 [] [])) n
   (fun i st=>(st.1.length<=i/\∀y∈st.1,Val.Fit 64 y)/\CurOk st.2) (fun st hs=> ?_) (fun i st hi hs ih=> ?_) (fun x=>x.1) (fun x hx=>by grind) ([],a.2) ⟨⟨Zn _,by simp⟩,ha.2⟩
  ·simp only [HY,Zd,Z9,jF];exact .mk' ⟨Kz (show I64 3 from Ac (by omega) (by omega)) (show I64 0 from Ac (by omega) (by omega)) (show I64 0 from Ac (by omega) (by omega)) (Zg _) ⟨by have:=hs.1.1;show st.1.length<=64;omega,hs.1.2⟩ DE DE,hs.2⟩
  ·simp only [HY,Zz (show(i:Int)<(n:Int) by omega),jT,AL hi (by omega:n<=_),Val.re_eq,vk,vn,vs,vt,vl,vc,vr];refine .bnd ((he st.2 hs.2).pre (fun x:(Nat×Nat)×Nat=>x.1) fun x hx=>hx.1) fun b hb=> .chk ?_ (ih (st.1++ [b.1],b.2) ⟨EP (K:=64) hs.1 hb.1,hb.2⟩)
   grind [Lim]
 exact(key.pre (fun x:Nat×Nat=>(x.1,x.2 - 1)) fun x hx=>⟨hx.1,by grind⟩).congr fun x hx=>by
  obtain⟨N,d⟩:=x;obtain⟨m,rfl⟩:∃m,d=m+1:=⟨d - 1,by grind⟩
  rfl
theorem xGz:∀(k:Nat),k<=3->(∀c,CurOk c->U (fun x:Nat×Nat=>1000<x.1/\2*k+1<=x.2) (fun x=>(BV x.1 x.2).c13 c k) (Dr VDr))/\
 ∀c,CurOk c->U (fun x:Nat×Nat=>1000<x.1/\2*k+2<=x.2) (fun x=>(BV x.1 x.2).c12 c k) (Dr VDr):=by
 intro k
 induction k with
 |zero=>
  intro _;have e:=T9 (k:=0) (by omega) (fun h=>by omega);exact⟨e,Ta (k:=0) e⟩
 |succ k ih=>
  intro hk;have e:=T9 (k:=k+1) (by omega) (fun h c hc=>((ih (by omega)).2 c hc).pre id fun x hx=>⟨hx.1,by grind⟩);exact⟨e,Ta e⟩
theorem xGy{c:Cur}(h:CurOk c):U (fun N:Nat=>1000<N) (fun N=>P9 N c 3) (Dr VDr):=
 ((xGz 3 (by omega)).2 c h).pre (fun N:Nat=>(N,N)) fun N hN=>⟨hN,by grind⟩
def Iv{α:Type}(o:Option α)(P:α->Prop):Prop:=∀r,o=some r->P r
section
variable {α β:Type} {P:α->Prop} {Q:β->Prop}
theorem Iv.bnd{o:Option α}{f:α->Option β}(h:Iv o P)(hf:∀a,P a->Iv (f a) Q):Iv (Option.bind o f) Q:=by
 intro r hr;cases ho:o with
 |none=>grind
 |some a=>rw [ho] at hr;exact hf a (h a ho) r hr
theorem Iv.any{o:Option α}{f:α->Option β}(hf:∀a,Iv (f a) Q):Iv (Option.bind o f) Q:=Iv.bnd (P:=fun _=>True) (fun _ _=>trivial) fun a _=>hf a
theorem Iv.cnd{b:Bool}{p q:Option α}(h1:Iv p P)(h2:Iv q P):Iv (bif b then p else q) P:=by
 grind
theorem Iv.chk{p:Prop} [Decidable p]{o:Option α}(h:Iv o P):Iv (if p then o else none) P:=by
 intro r hr;by_cases hp:p
 ·rw [Zt hp] at hr;exact h r hr
 grind
theorem Iv.mk' {a:α}(h:P a):Iv (some a) P:=fun r hr=>by grind
theorem Iv.non:Iv (none:Option α) P:=fun r hr=>by grind
theorem U.andI{ι:Type}{S:ι->Prop}{o:ι->Option α}{P' :α->Prop}(h:U S o P)(x:ι)(hx:S x)(hI:Iv (o x) P'):U S o fun r=>P r/\P' r:=by
 obtain⟨r,hr,e⟩:=h;exact⟨r,⟨hr,hI r (e x hx)⟩,e⟩
end
inductive OIn (P:Org->Prop):Val->Prop
 |mk {v:Val} (l:∀x∈v.list,OIn P x) (r:∀r∈v.rows,∀o∈r.frm,P o):OIn P v
theorem OIn.el{P:Org->Prop}{v x:Val}(h:OIn P v)(hx:x∈v.list):OIn P x:=by cases h;exact ‹∀x∈v.list,OIn P x› x hx
theorem OIn.row{P:Org->Prop}{v:Val}(h:OIn P v):∀r∈v.rows,∀o∈r.frm,P o:=by cases h;assumption
def NR(r:Val×Cur):Prop:=OIn (fun _=>False) r.1
theorem KL{v:Val}{c:Cur}(h1:v.list=[])(h2:v.rows=[]):NR (v,c):= .mk (by show ∀x∈v.list,_;rw [h1];simp) (by show ∀x∈v.rows,_;rw [h2];simp)
theorem KN{N:Nat}{c:Cur}:Iv (Option.bind (CM N c) fun r2=>Option.bind (A6 N r2.1) fun r3=>some (r3,r2.2)) NR:= .any fun a=> .mk' (KL rfl rfl)
theorem Pn{N:Nat}{c:Cur}:Iv (Option.bind (H3 N c) fun r2=>Option.bind (Df N r2.1) fun r3=>some (r3,r2.2)) NR:= .any fun a=> .mk' (KL rfl rfl)
theorem Tv{v x:Val}{c d e:Cur}(h:NR (v,c))(hx:NR (x,d)):NR (.mk v.kind v.n v.step v.text (v.list++ [x]) v.columns v.rows,e):=
 .mk (fun y hy=>(Zf.1 hy).elim (fun hy=>h.el hy) fun hy=>by rw [Zo.1 hy];exact hx) h.row
theorem Tl{N:Nat}{q0 q1:Cur->Int->Option (Val×Cur)}(hq:∀c x,Iv (q1 c x) NR):∀(n:Nat) (x1 x6 x7:Int) (b0:Cur) (b4 b5:Val),NR (b5,b0)->Iv (HY N q0 q1 n x1 x6 x7 b0 b4 b5) NR
 |0,_,_,_,_,_,_,_=> .non
 |n+1,_,_,_,_,_,_,h=> .cnd (.bnd (hq _ _) fun a ha=> .chk (Tl hq n _ _ _ _ _ _ (Tv (d:=a.2) h (by rw [Val.re_eq];exact ha)))) (.mk' h)
theorem O2{N:Nat}:∀d,(∀c x,Iv ((BV N d).c12 c x) NR)/\∀c x,Iv ((BV N d).c13 c x) NR
 |0=>⟨fun _ _=> .non,fun _ _=> .non⟩
 |d+1=>⟨fun _ _=> .any fun _=>Tl (O2 d).2 N _ _ _ _ _ _ (KL rfl rfl),fun _ _=> .cnd (.any fun _=> .cnd (.bnd ((O2 d).1 _ _) fun b hb=> .mk' hb) (.any fun _=> .cnd Pn KN)) (.any fun _=> .cnd Pn KN)⟩
theorem Tx{N:Nat}:∀(n:Nat) (x4 x5:Int) (b0:Cur) (b2 b3:Val),NR (b3,b0)->Iv (H0 N n x4 x5 b0 b2 b3) NR
 |0,_,_,_,_,_,_=> .non
 |n+1,_,_,b0,_,_,h=> .cnd (.any fun a=> .bnd (P:=fun v=>NR (v,b0)) (.mk' (KL rfl rfl)) fun b hb=> .chk (Tx n _ _ _ _ _ (Tv h (by rw [Val.re_eq];exact hb)))) (.mk' h)
def Lo(v:Val):Prop:=v.list=[]\/OIn (fun _=>False) v
theorem U.lo{o:Nat->Option (Val×Cur)}(h:U (fun N:Nat=>1000<N) o (Dr VDr))(h' :Iv (o 1001) NR):U (fun N:Nat=>1000<N) o (Dr fun v=>VDr v/\Lo v):=
 (h.andI 1001 (by decide) h').imp fun a ha=>⟨⟨ha.1.1,.inr ha.2⟩,ha.1.2⟩
theorem xGw{c:Cur}(h:CurOk c):U (fun N:Nat=>1000<N) (fun N=>NK N c) (Dr fun v=>VDr v/\Lo v):=by
 unfold NK;refine .bnd (Ao id h (by decide)) fun a ha=> ?_;refine .cnd (fun _=>(KM id ha.2).lo KN) fun _=> .cnd (fun _=>(KM id ha.2).lo KN) fun _=> .cnd (fun _=>(KM id ha.2).lo KN) fun _=> .cnd (fun _=>(Pm id ha.2).lo Pn) fun _=> .cnd (fun _=> .bnd ((xGy ha.2).lo ((O2 _).1 _ _)) fun b hb=> .mk' hb) fun _=> .cnd (fun _=> .bnd ((xGB ha.2).lo (.any fun _=>Tx _ _ _ _ _ _ (KL rfl rfl))) fun b hb=> .mk' hb) fun _=> .cnd (fun _=> ?_) fun _=> .cnd (fun _=> ?_) fun _=> .bnd (Tc ha.2) fun b hb=> .mk' ⟨⟨hb.1.1,.inl hb.1.2⟩,hb.2⟩
 ·refine .bnd (KD id ha.2) fun b hb=> .bnd (KD id hb.2) fun d hd=> .bnd (.mk' (P:=fun v=>VDr v/\v.list=[]) ⟨?_,rfl⟩) fun e he=> .mk' ⟨⟨he.1,.inl he.2⟩,hd.2⟩;have:=hb.1;have:=hd.1
  grind [Ky,L6]
 ·exact .bnd (Ao id ha.2 (by decide)) fun b hb=> .bnd (.mk' (P:=fun v=>VDr v/\v.list=[]) ⟨Ky (show I64 6 from Ac (by omega) (by omega)) (Ey _) (show I64 0 from Ac (by omega) (by omega)) (Zg _),rfl⟩) fun e he=> .mk' ⟨⟨he.1,.inl he.2⟩,hb.2⟩
theorem xHd{v:Val}(hl:v.list=[])(h0:v.Fit 64){N:Nat}(hN:100<N):In N v=some (AP v):=by
 obtain⟨M,rfl⟩:∃M,N=M+2:=⟨N - 2,by omega⟩;have hdep:v.dep<=1000000000:=by
  cases v
  grind [vl,Val.dep,Val.deps]
 have hd:Ii (M+2) v=some v.dep:=xAb (N:=M+2) (d:=M+1) (by grind) (by grind) hdep (fun x hx=>by grind);have hb:=xA3 (N:=M+2) (d:=M) (v:=v) (by grind) (by grind) (fun _=>hd) (fun x hx=>by grind);exact xAn (N:=M+2) (d:=M+1) h0 (by omega) (by omega) hb
theorem xHc{v:Val}(hl:v.list=[])(h0:v.Fit 64){N:Nat}(hN:100<N):B1 N v=some v:=by
 obtain⟨M,rfl⟩:∃M,N=M+1:=⟨N - 1,by omega⟩;exact xAp (N:=M+1) (d:=M) h0 (by omega) (by omega) (fun x hx=>by grind)
theorem U1{rows:List Rowd}{r:Rowd}{i:Nat}(h:∀x∈rows,Rowd.Fit 64 x)(hr:Rowd.Fit 64 r):∀x∈rows.set i r,Rowd.Fit 64 x:=fun x hx=>by
 grind
theorem xIE{v:Val}{a:Int}(hv:VDr v)(hl:v.list=[])(ha:I64 a):U (fun N:Nat=>1000<N) (fun N=>Mn N a v) fun v=>VDr v/\v.list=[]:=by
 obtain⟨h1,h2,h3,h4,h5,h6,h7⟩:=Val.fit_iff.1 hv;have herr:U (fun N:Nat=>1000<N) (fun N=>Option.bind (AK N 4) fun r1=>some r1) (fun v=>VDr v/\v.list=[]):= .bnd (.mk' (P:=fun v=>VDr v/\v.list=[]) ⟨Ky (show I64 6 from Ac (by omega) (by omega)) (show I64 4 from Ac (by omega) (by omega)) (show I64 0 from Ac (by omega) (by omega)) (Zg _),rfl⟩) fun e he=> .mk' he;unfold Mn;refine .cnd (fun _=>herr) fun _=> ?_;have hval:U (fun N:Nat=>1000<N) (fun N=>In N v) (fun _=>True):=⟨AP v,trivial,fun N hN=>xHd hl hv (by grind)⟩;refine .bnd hval fun b _=> .cnd (fun _=>herr) fun _=> .cnd (fun _=>herr) fun _=> ?_;have hcp:U (fun N:Nat=>1000<N) (fun N=>B1 N v) (fun x=>x=v):=⟨v,rfl,fun N hN=>xHc hl hv (by grind)⟩;refine .bnd hcp fun w hw=> ?_;subst hw;obtain⟨k,n,s,t,l,c,r⟩:=w;have hrl:r.length<=64:=h7.1;refine Cj (σ:=List Rowd) (L:=fun N m i st=>Is N m a i (Val.mk 0 0 0 [] [] [] []) (Val.mk k n s t l c st)) (B:=1000) r.length (fun i st=>st.length=r.length/\∀x∈st,Rowd.Fit 64 x) (by omega) (fun st hs=> ?_) (fun i st hi hs ih=> ?_) r ⟨rfl,h7.2⟩
 ·simp only [Is,vr,hs.1,Zd,Z9,jF];exact .mk' ⟨Kz h1 h2 h3 h4 h5 h6 ⟨by show st.length<=64;grind,hs.2⟩,hl⟩
 ·simp only [Is,vk,vn,vs,vt,vl,vc,vr,hs.1,Zz (show(i:Int)<(r.length:Int) by omega),jT,AL hi (by omega:r.length<=_),jI];have hi' :i<st.length:=by omega
  have hg:st.getD i Ty.row.dflt∈st:=by
   grind
  refine .chk ⟨by omega,by omega⟩ (ih _ ⟨by grind,U1 hs.2 ⟨(hs.2 _ hg).1,⟨show 1<=64 by decide,fun o ho=> ?_⟩⟩⟩);have ho:o∈ [Org.mk a (i:Int)]:=ho;rw [Zo] at ho;subst ho;exact⟨ha,⟨show _<=(i:Int) by omega,show(i:Int)<=_ by omega⟩⟩
theorem xGE{c:Cur}{a:Int}(h:CurOk c)(ha:I64 a):U (fun N:Nat=>1000<N) (fun N=>NT N c a) (Dr fun v=>VDr v/\v.list=[]):=by
 unfold NT;refine .bnd (Tc h) fun v hv=> ?_;obtain⟨v,c2⟩:=v;obtain⟨⟨hv,hl⟩,hc2⟩:=hv;obtain⟨h1,h2,h3,h4,h5,h6,h7⟩:=Val.fit_iff.1 hv;obtain⟨k,n,s,t,l,cs,r⟩:=v;have hrl:r.length<=64:=h7.1;refine Cj (σ:=List Rowd×Cur) (L:=fun N m i st=>H6 N m a i st.2 (Val.mk 0 0 0 [] [] [] []) (Val.mk k n s t l cs st.1)) (B:=1000) r.length (fun i st=>(st.1.length=r.length/\∀x∈st.1,Rowd.Fit 64 x)/\CurOk st.2) (by omega) (fun st hs=> ?_) (fun i st hi hs ih=> ?_) (r,c2) ⟨⟨rfl,h7.2⟩,hc2⟩
 ·simp only [H6,vr,hs.1.1,Zd,Z9,jF];have hv' :VDr (Val.mk k n s t l cs st.1):=Kz h1 h2 h3 h4 h5 h6 ⟨by show st.1.length<=64;grind,hs.1.2⟩;exact .bnd ((xIE hv' hl ha).pre (fun x:Nat×Nat=>x.1) fun x hx=>hx) fun b hb=> .mk' ⟨hb,hs.2⟩
 ·simp only [H6,vr,hs.1.1,Zz (show(i:Int)<(r.length:Int) by omega),jT];have hgd:∀q:List Rowd,q.length=r.length->q.getD i Ty.row.dflt∈q:=fun q hq=>by
   grind
  have hn2:(st.1.getD i Ty.row.dflt).cells.length<=64:=(hs.1.2 _ (hgd st.1 hs.1.1)).1.1
  refine Nx (κ:=Nat×Nat) (σ:=List Rowd×Cur) (L:=fun x m j q=>JX x.1 (fun z0 z1 z2 z3 z4=>H6 x.1 x.2 z0 z1 z2 z3 z4) m a i j q.2 (Val.mk 0 0 0 [] [] [] []) (Val.mk k n s t l cs q.1)) (st.1.getD i Ty.row.dflt).cells.length
   (fun j q=>((q.1.length=r.length/\∀x∈q.1,Rowd.Fit 64 x)/\(q.1.getD i Ty.row.dflt).cells.length=(st.1.getD i Ty.row.dflt).cells.length)/\CurOk q.2) (fun q hq=> ?_) (fun j q hj hq ih2=> ?_) (fun x=>x.1) (fun x hx=>by grind) st ⟨⟨hs.1,rfl⟩,hs.2⟩
  ·simp only [JX,vk,vn,vs,vt,vl,vc,vr,jI,hq.1.2,hq.1.1.1,Zd,Z9,jF,AL hi (by omega:r.length<=_)];exact .chk ⟨by omega,by omega⟩ ((ih q ⟨hq.1.1,hq.2⟩).pre (fun x:(Nat×Nat)×Nat=>x.1) fun x hx=>hx)
  ·simp only [JX,vk,vn,vs,vt,vl,vc,vr,jI,hq.1.2,hq.1.1.1,Zz (show(j:Int)<((st.1.getD i Ty.row.dflt).cells.length:Int) by omega),jT,AL hj (by omega:(st.1.getD i Ty.row.dflt).cells.length<=_)];have hf:=hq.1.1.2 _ (hgd q.1 hq.1.1.1);refine .chk ⟨by omega,by omega⟩ (.bnd (Ao _ hq.2 (by decide)) fun b hb=> .chk ⟨by omega,by omega⟩ (ih2 (_,b.2) ⟨⟨⟨by grind,U1 hq.1.1.2 ⟨⟨by grind,fun y hy=> ?_⟩,hf.2⟩⟩,?_⟩,hb.2⟩))
   ·rcases Yf hy with hy|rfl
    ·exact hf.1.2 y hy
    ·have:=hb.1;exact⟨show _<=b.1 by omega,show b.1<=_ by omega⟩
   grind
def BDr(b:Bnd):Prop:=Bnd.Fit 64 b/\b.name.length<=1/\Lo b.value
theorem xGv{c:Cur}(h:CurOk c):U (fun N:Nat=>1000<N) (fun N=>F9 N c) (Dr fun l=>l.length<=64/\∀b∈l,BDr b):=by
 unfold F9;refine .bnd (Ao id h (by decide)) fun a ha=> ?_;obtain⟨n,hn⟩:=Co ha.1.1;have hn2:n<5:=by have:=ha.1.2;omega
 rw [hn];have hname:∀s:Str,s∈([[97],[98],[99]]:List Str)->s.length<=1:=by
  grind
 refine Cj (σ:=List Bnd×Cur) (L:=fun N m i st=>HN N m st.1 n i st.2) (B:=1000) n (fun i st=>(st.1.length<=i/\∀b∈st.1,BDr b)/\CurOk st.2) (by omega) (fun st hs=> ?_) (fun i st hi hs ih=> ?_) ([],a.2) ⟨⟨Zn _,by simp⟩,ha.2⟩
 ·simp only [HN,Zd,Z9,jF];exact .mk' ⟨⟨by grind,hs.1.2⟩,hs.2⟩
 ·have hlen:∀b:Bnd,st.1.length+List.length [b]<=Lim:=fun b=>by
   grind [Lim]
  simp only [HN,Zz (show(i:Int)<(n:Int) by omega),jT,AL hi (by omega:n<=_),Val.re_eq];refine .bnd ((xGw hs.2).pre (fun x:Nat×Nat=>x.1) fun x hx=>hx.1) fun b hb=> .bnd (D6 _ hb.2) fun d hd=> .cnd (fun _=> .bnd (Ao _ hd.2 (by decide)) fun e he=> .bnd ((xGE he.2 (Ey _)).pre (fun x:Nat×Nat=>x.1) fun x hx=>hx.1) fun f hf=> .bnd (Gh _ hf.2 (by decide)) fun g hg=> .chk (hlen _) (ih (st.1++ [Bnd.mk g.1 f.1],g.2) ⟨EP (K:=64) hs.1 ?_,hg.2⟩)) (fun _=> .bnd (Gh _ hd.2 (by decide)) fun g hg=> .chk (hlen _) (ih (st.1++ [Bnd.mk g.1 b.1],g.2) ⟨EP (K:=64) hs.1 ?_,hg.2⟩))
  ·have:=hname g.1 hg.1;exact⟨⟨by show g.1.length<=64;omega,hf.1.1⟩,this,.inl hf.1.2⟩
  ·have:=hname g.1 hg.1;exact⟨⟨by show g.1.length<=64;omega,hb.1.1⟩,this,hb.1.2⟩
theorem UH:∀ {l:List Val},(opG l).2.1=true->(opG l).1.kind=6
 | [],h=>by cases h
 |v::r,h=>by
  simp only [opG] at h ⊢;cases hv:AP v
  ·rfl
  ·rw [hv] at h;cases hk:(v.kind==6)
   ·rw [hk] at h;simp only [jU,jF] at h ⊢;exact UH h
   grind
theorem IJ{v:Val}(hv:AP v=true)(hk:v.kind=3):(v= .mk 3 0 0 [] v.list [] [])/\v.list.length<=8/\v.dep<=3/\∀x∈v.list,(BQ x&&AP x)=true:=by
 grind [BN,Fn,Val.eta,B8]
theorem xA5{v:Val}(hv:AP v=true)(hk:v.kind=3){l:List Val}(hs:∀x∈l,x∈v.list)(hl:l.length<=8):AP (.mk 3 0 0 [] l [] [])=true:=by
 obtain⟨_,_,h8,h1⟩:=IJ hv hk;rw [DR] at h8;have h0:=(Hf (l:=v.list) (m:=0)).1;have hd:Val.dep (.mk 3 0 0 [] l [] [])<=3:=by
  rw [DR];have:=LO (B:=Au v.list 0) (l:=l) (m:=0) h0 fun x hx=>(Hf (l:=v.list) (m:=0)).2 x (hs x hx);show Au l 0+1<=3;omega
 rw [BN]
 grind [vk,vn,vs,vt,vl,vc,vr,Fn,emp]
theorem LH{α:Type}{p:Nat->α->Bool}:∀ {l:List α} {i:Nat},Ak p l i=true↔∀(j:Nat) (x:α),l[j]? =some x->p (i+j) x=true
 | [],i=>by simp [Ak]
 |y::r,i=>by
  simp only [Ak,Zu,LH (l:=r)];constructor
  ·grind
  ·intro h;refine⟨h 0 y rfl,fun j x hj=> ?_⟩;have:=h (j+1) x (by grind)
   grind
theorem N8{α:Type}{p:α->Bool}{l:List α}{i:Nat}:Ak (fun _=>p) l i=true↔∀x∈l,p x=true:=by
 grind [LH,List.getElem?_of_mem]
theorem xG6{xs:List Str}(h:xs.Nodup){i j:Nat}(hi:i<xs.length)(hj:j<xs.length)(e:xs[i]=xs[j]):i=j:=by
 grind [List.pairwise_iff_getElem]
theorem Nm{xs:List Str}:CG xs=true↔xs.Nodup:=by
 unfold CG;rw [LH];constructor
 ·intro h;rw [YR,Yw];intro i j hi hj hij e;have:=h j xs[j] (Zv hj)
  grind [Ev,List.mem_take_iff_getElem]
 ·intro h j x hj;rw [Zc];unfold Ev;rw [ZF,List.any_eq_false];intro y hy he;rw [List.mem_take_iff_getElem] at hy;obtain⟨i,hi,rfl⟩:=hy;obtain⟨hjl,rfl⟩:=Zs.1 hj;have:=xG6 h (i:=i) (j:=j) (by omega) hjl (by grind);omega
theorem xED{s:Str}{xs:List Str}:s ∉ xs↔AM xs s 0<0:=by
 constructor
 ·grind [Jg]
 ·intro h hm;obtain⟨i,hi⟩:=List.getElem?_of_mem hm;have key:∀ {xs:List Str} {j:Nat},s∈xs->0<=AM xs s j:=by
   intro xs
   induction xs with
   |nil=>grind
   |cons x r ih=>
    grind [AM]
  grind
theorem J2{c:List Str}{rs:List Rowd}:AP (.mk 5 0 0 [] [] c rs)=Aw c rs:=by
 grind [BN,vk,vn,vs,vt,vl,vc,vr,emp]
theorem xKL{v:Val}(hv:AP v=true)(hk:v.kind=5):v= .mk 5 0 0 [] [] v.columns v.rows/\Aw v.columns v.rows=true:=by
 grind [BN,emp,Val.eta]
theorem Cw{c:List Str}{rs:List Rowd}:Aw c rs=true↔(((∀s∈c,Ce s=true)/\(1<=c.length/\c.length<=4))/\c.Nodup)/\rs.length<=12/\∀r∈rs,r.cells.length=c.length/\(∀z∈r.cells,AY z=true)/\Cg r.frm=true:=by
 unfold Aw Bj;simp only [Zu,N8,Nm,ZU];have e:Ak (D8 c.length) rs 0=true↔∀r∈rs,r.cells.length=c.length/\(∀z∈r.cells,AY z=true)/\Cg r.frm=true:=by
  have:D8 c.length=fun _ r=>(r.cells.length==c.length)&&(Ak (fun _=>AY) r.cells 0&&Cg r.frm):=rfl;rw [this,N8];simp only [Zu,beq_iff_eq,N8]
 grind
theorem xBr{m a b t:Val}(hk:(BG m a b t).1.kind=5):(BG m a b t).2=false/\∃c rs i k,t= .mk 5 0 0 [] [] c rs/\Aw c rs=true/\(BG m a b t).1= .mk 5 0 0 [] [] (c++ [m.text]) (rs.map (C2 i k))/\Aw (c++ [m.text]) (rs.map (C2 i k))=true:=by
 unfold BG at hk ⊢;cases g1:(AU [2,2,2,5] [m,a,b,t]).2.1
 ·rw [g1] at hk;obtain⟨g2,g3⟩:=By g1;have hk5:=(kb4 g3).2.2.2;have hvt:=g2 t (by simp);obtain⟨et,ht⟩:=xKL hvt hk5;obtain⟨⟨⟨h1,h2,h3⟩,h4⟩,h5,h6⟩:=Cw.1 ht;simp only [jF] at hk ⊢;have err:∀ {c:Int} {P:Prop},(AO c).kind=5->P:=fun h=>by cases h
  cases d0: !Ce m.text
  case true=>rw [d0] at hk;exact err hk
  rw [d0] at hk;cases d1:decide (AM t.columns m.text 0>=0)
  case true=>rw [d1] at hk;exact err hk
  rw [d1] at hk;cases d2:decide (AM t.columns a.text 0<0)
  case true=>rw [d2] at hk;exact err hk
  rw [d2] at hk;cases d3:decide (AM t.columns b.text 0<0)
  case true=>rw [d3] at hk;exact err hk
  rw [d3] at hk;cases d4:decide ((t.columns.length:Int)>=4)
  case true=>rw [d4] at hk;exact err hk
  rw [d4] at hk;simp only [jF] at hk ⊢;unfold J9 at hk ⊢;cases d5:t.rows.all (Ei (AM t.columns a.text 0) (AM t.columns b.text 0))
  case false=>rw [d5] at hk;exact err hk
  simp only [jT];refine⟨trivial,t.columns,t.rows,AM t.columns a.text 0,AM t.columns b.text 0,et,ht,?_,?_⟩
  ·grind [Val.n,Val.step,Val.text,Val.list]
  ·simp only [decide_eq_false_iff_not] at d1 d4;simp only [Bool.not_eq_false'] at d0;refine Cw.2 ⟨⟨⟨fun s hs=> ?_,by grind,by grind⟩,?_⟩,by grind,fun r hr=> ?_⟩
   ·grind
   ·grind [xED]
   ·obtain⟨x,hx,rfl⟩:=Zk.1 hr;obtain⟨x1,x2,x3⟩:=h6 x hx;refine⟨by grind [C2],fun z hz=> ?_,x3⟩;rcases Zf.1 hz with hz|hz
    ·grind
    ·rw [Zo.1 hz];exact Zx.1 d5 x hx
 ·exfalso;rw [g1] at hk;simp only [jT] at hk;have:(AU [2,2,2,5] [m,a,b,t]).1.kind=6:=by
   unfold AU at g1 ⊢;cases ho:(opG [m,a,b,t]).2.1
   ·rw [ho] at g1;simp only [jF] at g1 ⊢;cases hb:kb [m,a,b,t] [2,2,2,5]
    ·grind
    ·rfl
   grind [UH]
  grind
theorem Uh{l:List Org}(h:SO l)(h0:∀o∈l,0<=o.cell/\0<=o.row):Cg l=true:=by
 unfold Cg;rw [LH];intro j x hj;have hm:=Zy hj;obtain⟨h1,h2⟩:=h0 x hm;unfold Fu;rw [Zc,Zw (by omega),Zw (by omega)];simp only [jV,ZV,Yv,ZU];rcases Nat.eq_zero_or_pos j with h' |h'
 ·grind
 ·right
  rw [Na];obtain⟨hj',rfl⟩:=Zs.1 hj;have:l.getD (j - 1) Do=l[j - 1]:=by grind
  rw [this];exact Yw.1 h (j - 1) j (by omega) hj' (by omega)
theorem N9{l:List Org}(h:Cg l=true):∀o∈l,0<=o.cell/\0<=o.row:=by
 intro o ho;obtain⟨i,hi⟩:=List.getElem?_of_mem ho;have:=Ft h i o hi
 grind [Fu]
theorem xKK{c:List Str}{rs:List Rowd}{p:Rowd->Bool}(h:Aw c rs=true):Aw c (rs.filter p)=true:=by
 grind [Cw]
theorem H9{v:Val}(h:AP v=true)(hk:v.kind=5):Aw v.columns v.rows=true:=by
 grind [BN]
def GZ(k:Nat)(u v:Val):List Str:=u.columns++(v.columns.take k++v.columns.drop (k+1))
theorem xGo{i k:Nat}{u v:Val}(tu:Aw u.columns u.rows=true)(tv:Aw v.columns v.rows=true)(hk:k<v.columns.length)(hd:(GZ k u v).Nodup)(h4:(GZ k u v).length<=4)(h12:(jrs i k v.rows u.rows).length<=12):
 Aw (GZ k u v) (jrs i k v.rows u.rows)=true:=by
 rw [Cw] at tu tv ⊢;obtain⟨⟨⟨u1,u2,u3⟩,u4⟩,u5,u6⟩:=tu;obtain⟨⟨⟨v1,v2,v3⟩,v4⟩,v5,v6⟩:=tv;have hlen:(GZ k u v).length=u.columns.length+(min k v.columns.length+(v.columns.length - (k+1))):=by
  grind [GZ]
 refine⟨⟨⟨fun s hs=> ?_,by omega,h4⟩,hd⟩,h12,fun x hx=> ?_⟩
 ·grind [GZ]
 ·obtain⟨r,hr,t,ht,rfl,_⟩:=T7 hx;obtain⟨r1,r2,r3⟩:=u6 r hr;obtain⟨t1,t2,t3⟩:=v6 t ht;refine⟨?_,fun z hz=> ?_,?_⟩
  ·grind [ES]
  ·grind [ES]
  ·refine Uh (Po _ _) fun o ho=> ?_;rcases MM.1 ho with h|h
   ·exact N9 r3 o h
   ·exact N9 t3 o h
theorem Ah{c:Int}(h:1<=c/\c<=8):AP (AO c)=true:=by
 grind [BN,AO,vk,vn,vs,vt,vl,vc,vr,emp]
theorem KO{n:Int}(h:AY n=true):AP (AX n)=true:=by
 grind [BN,AX,vk,vn,vs,vt,vl,vc,vr,emp]
theorem UD{n s:Int}(h:AY n=true)(h' :AY s=true):AP (.mk 4 n s [] [] [] [])=true:=by
 grind [BN,vk,vn,vs,vt,vl,vc,vr,emp]
theorem UC{n:Int}(h0: -1000000000<=n)(h1:n<=1000000000):AY n=true:=by grind [AY]
theorem Tz{v:Val}(h:AP v=true)(hk:v.kind=1):AY v.n=true:=by
 grind [BN]
theorem xHi{v:Val}(h:AP v=true)(hk:v.kind=4):AY v.step=true:=by
 grind [BN]
theorem xHj{v:Val}(h:AP v=true)(hk:v.kind=2):v.text.length<=20:=by
 grind [BN,El]
theorem KP:∀ {l:List Val},(opG l).2.1=true->AP (opG l).1=true
 | [],h=>by cases h
 |v::r,h=>by
  simp only [opG] at h ⊢;cases hv:AP v
  ·grind [Ah]
  ·cases hk:(v.kind==6)
   ·rw [hv,hk] at h;exact KP (l:=r) h
   grind
theorem EO{ks:List Int}{l:List Val}(h:(AU ks l).2.1=true):AP (AU ks l).1=true:=by
 grind [AU,Ah,KP]
theorem xGL(v:Val):AP (Ga v).1=true:=by
 grind [Ga,FN,Ah,xHj,KO,UC,IJ,KP]
theorem xA8:∀ {l:List Val} {s:Int},AY s=true->AP (CE l s)=true
 | [],s,h=>KO h
 |x::r,s,h=>by
  simp only [CE];cases (x.kind != 1)
  ·cases h2:AY (IntKind.i64.wrap (s+x.n))
   ·grind [Ah]
   ·exact xA8 h2
  grind [Ah]
theorem xKF(v:Val):AP (H7 v).1=true:=by
 unfold H7;cases h1:(opG [v]).2.1
 ·cases (v.kind != 3)
  ·exact xA8 rfl
  grind [Ah]
 grind [KP]
theorem xDz(v:Val):AP (He v).1=true:=by
 unfold He;cases g1:(AU [5] [v]).2.1
 ·obtain⟨g2,g3⟩:=By g1;have hk:v.kind=5:=by grind [kb]
  have:=(JY (g2 v (by simp)) hk).2
  grind [KO,UC]
 grind [EO]
theorem Ot{n v:Val}(h:(Al n v).2.1=true):AP (Al n v).1=true:=by
 grind [Al,Ah,KP]
theorem Oa{x v:Val}(hk:(v.kind==3)=false):Ay x v=AO 5\/∃n,AY n=true/\Ay x v=AX n:=by
 grind [Ay,C4]
theorem xHe{n v:Val}(hv:AP v=true):AP (Ay n v)=true:=by
 grind [Oa,Ah,KO,Ay,IJ]
theorem xHf(n v:Val):AP (CA n v).1=true:=by
 grind [CA,xHe,Gk,Ot]
theorem xIi(n v:Val):AP (skG n v).1=true:=by
 unfold skG;cases h:(Al n v).2.1
 ·obtain⟨_,hv,_,h34,_⟩:=Gk h;rw [jF];unfold skB;cases decide (n.n<0)
  ·cases hk:v.kind==3
   ·have hs:=xHi hv (by grind);rcases Oa (x:=n) hk with e|⟨m,h,e⟩ <;>rw [e]
    ·exact Ah (by omega)
    ·exact UD h hs
   grind [IJ,xA5]
  grind [Ah]
 grind [Ot]
theorem UB{l:List Val}(h:∀x∈l,∃n,AY n=true/\x=AX n)(hl:l.length<=8):AP (.mk 3 0 0 [] l [] [])=true:=by
 have hd:Val.dep (.mk 3 0 0 [] l [] [])<=3:=by
  rw [DR];have:=LO (B:=1) (l:=l) (m:=0) (by omega) fun x hx=>by
   grind [AX,Val.dep,Val.deps]
  show Au l 0+1<=3;omega
 rw [BN];simp only [vk,vn,vs,vt,vl,vc,vr,show((3:Int)==1)=false from rfl,show((3:Int)==2)=false from rfl,show((3:Int)==4)=false from rfl,show((3:Int)==6)=false from rfl,show((3:Int)==5)=false from rfl,show((3:Int)==3)=true from rfl,jT,jF,Zu,ZU,Fn,Zx,Yc,true_and,and_true];refine⟨fun x hx=> ?_,by grind [emp]⟩;obtain⟨n,h1,rfl⟩:=h x hx;exact⟨rfl,KO h1⟩
theorem xBc{v:Val}(hk:(v.kind==3)=false):∀(m:Nat) (i:Int) (acc:List Val),(∀x∈acc,∃n,AY n=true/\x=AX n)->acc.length+m<=8->AP (DP v m i acc)=true
 |0,i,acc,h,hl=>UB h (by omega)
 |m+1,i,acc,h,hl=>by
  unfold DP;rcases Oa (x:=AX i) hk with e|⟨n,h1,e⟩ <;>rw [e]
  ·exact Ah (by omega)
  ·refine xBc hk m (i+1) _ (fun x hx=> ?_) (by grind)
   grind
theorem xKO(n v:Val):AP (Ek n v).1=true:=by
 unfold Ek;cases h:(Al n v).2.1
 ·grind [Gk,Kw,xBc,xA5,Ah]
 grind [Ot]
theorem xHR(a b:Val):AP (KQ a b).1=true:=by
 grind [KQ,By,kb2,UD,Tz,EO]
theorem O9{α:Type} [DecidableEq α]:∀ {l m:List α},l.Nodup->(∀x∈l,x∈m)->l.length<=m.length
 | [],m,_,_=>Zg _
 |x::l,m,h,hs=>by
  obtain⟨h1,h2⟩:=ZG.1 h;have hx:=hs x Zp;have:=O9 (l:=l) (m:=m.erase x) h2 fun y hy=>(List.mem_erase_of_ne (fun e=>h1 (by rw [<-e];exact hy))).2 (hs y (Zr _ hy));rw [List.length_erase_of_mem hx] at this;have:=List.length_pos_of_mem hx;simp only [jC];omega
theorem Qh{c:List Str}{rs:List Rowd}(t:Aw c rs=true){r:Rowd}(hr:r∈rs){k:Nat}(hk:k<c.length):AY (r.cells.getD k Di)=true:=by
 grind [Cw]
theorem xGq(a v:Val):AP (G0 a v).1=true:=by
 unfold G0;cases g1:(AU [2,5] [a,v]).2.1
 ·obtain⟨g2,g3⟩:=By g1;have t:=H9 (g2 v (by simp)) (kb2 g3).2;have hne:A4 32 [] a.text≠ []:=Qi;rw [jF];generalize A4 32 [] a.text=cs at*;unfold DD;cases h1:cs.all (Bn v.columns)
  ·grind [Ah]
  ·cases h2:CG cs
   ·grind [Ah]
   ·have t0:=t;obtain⟨⟨⟨c1,c2,c3⟩,c4⟩,r1,r2⟩:=Cw.1 t;have hin:∀s∈cs,s∈v.columns:=fun s hs=>Jg (Nz (Zx.1 h1 s hs)).1;have hnd:=Nm.1 h2;have hle:=O9 hnd hin
    show AP (.mk 5 0 0 [] [] cs _)=true;rw [J2,Cw];refine⟨⟨⟨fun s hs=>c1 s (hin s hs),List.length_pos_iff.2 hne,by omega⟩,hnd⟩,by grind,fun x hx=> ?_⟩;obtain⟨r,hr,rfl⟩:=Zk.1 hx;refine⟨by simp [atR],fun z hz=> ?_,(r2 r hr).2.2⟩;obtain⟨k,hk,rfl⟩:=Zk.1 hz;obtain⟨s,hs,rfl⟩:=Zk.1 hk;have:=Nz (Zx.1 h1 s hs)
    grind
 grind [EO]
theorem xDA(a v:Val):AP (DQ a v).1=true:=by
 unfold DQ;cases g1:(AU [2,5] [a,v]).2.1
 ·obtain⟨g2,g3⟩:=By g1;have t:=H9 (g2 v (by simp)) (kb2 g3).2;rw [jF];by_cases h1:AM v.columns a.text 0<0
  ·grind [Ah]
  ·rw [Zw h1];by_cases h2:(v.rows.length:Int)>8
   ·grind [Ah]
   ·rw [Zw h2];refine UB (fun x hx=> ?_) (by grind);obtain⟨r,hr,rfl⟩:=Zk.1 hx;exact⟨_,Qh t hr (by grind [Jj]),rfl⟩
 grind [EO]
theorem xKI{c:List Str}{rs:List Rowd}(hc:Bj c=true)(hl:rs.length<=12)(hr:∀r∈rs,r.cells.length=c.length/\(∀z∈r.cells,AY z=true)/\Cg r.frm=true):Aw c rs=true:=by
 have h0:Aw c []=true:=by
  unfold Aw;rw [hc];rfl
 grind [Cw]
theorem xKR(a v:Val):AP (Fj a v).1=true:=by
 unfold Fj;cases g1:(AU [2,3] [a,v]).2.1
 ·obtain⟨g2,g3⟩:=By g1;obtain⟨_,hl,_,hx⟩:=IJ (g2 v (by simp)) (kb2 g3).2;rw [jF];generalize A4 32 [] a.text=cs at*;cases hc:Bj cs
  ·grind [Ah]
  ·unfold CP;cases h1:v.list.all (CD cs.length)
   ·grind [Ah]
   ·show AP (.mk 5 0 0 [] [] cs ([]++v.list.map KR))=true;rw [J2,jM];refine xKI hc (by grind) fun r hr=> ?_;obtain⟨x,hm,rfl⟩:=Zk.1 hr;have h2:=Zx.1 h1 x hm;simp only [CD,Zu,beq_iff_eq,Zx,B7] at h2;obtain⟨k1,k2,k3⟩:=h2;have h3:=hx x hm;rw [Zu] at h3;refine⟨by grind [KR],fun z hz=> ?_,rfl⟩;obtain⟨y,hy,rfl⟩:=Zk.1 hz
    grind [IJ,Tz]
 grind [EO]
theorem xK7(a b v:Val):AP (whG a b v).1=true:=by
 unfold whG;cases g1:(AU [2,1,5] [a,b,v]).2.1
 ·obtain⟨g2,g3⟩:=By g1;have t:=H9 (g2 v (by simp)) (kb3 g3).2.2
  grind [pick,J2,xKK,Ah]
 grind [EO]
theorem xEs(a b t:Val):AP (CX a b t).1=true:=by
 unfold CX;cases g1:(AU [2,2,5] [a,b,t]).2.1
 ·obtain⟨g2,g3⟩:=By g1;obtain⟨_,_,hk2⟩:=kb3 g3;have tt:=H9 (g2 t (by simp)) hk2;obtain⟨⟨⟨c1,c2,c3⟩,c4⟩,r1,r2⟩:=Cw.1 tt;rw [jF];unfold Cy;by_cases hi:AM t.columns a.text 0<0
  ·grind [Ah]
  ·rw [Zw hi,jF];by_cases hk:AM t.columns b.text 0<0
   ·grind [Ah]
   ·rw [Zw hk,jF];have hin:=Jj hi;cases he:(AM t.columns a.text 0==AM t.columns b.text 0)
    ·rw [jF];split
     ·rename_i hall;rw [J2,Cw];have ma:=Jg (s:=a.text) (xs:=t.columns) (j:=0) (by omega);have mb:=Jg (s:=b.text) (xs:=t.columns) (j:=0) (by omega);have hne:a.text≠b.text:=fun e=>by grind
      have hl:=Ol (AM t.columns a.text 0).toNat t.rows;refine⟨⟨⟨fun s hs=> ?_,by simp,by simp⟩,by grind⟩,by grind [vG],fun x hx=> ?_⟩
      ·grind
      ·obtain⟨y,hy,rfl⟩:=Zk.1 hx;obtain⟨r,hr,e⟩:=xHJ t.rows (O7.1 hy);have h2:=Zx.1 hall y hy;refine⟨rfl,fun z hz=> ?_,Uh (UY t.rows) fun o ho=> ?_⟩
       ·simp only [Zh,Z6,or_false] at hz;rcases hz with rfl|rfl
        ·rw [<-e];exact Qh tt hr (by omega)
        ·exact h2
       ·obtain⟨q,hq,_,hm⟩:=UX t.rows ho;exact N9 (r2 q hq).2.2 o hm
     grind [Ah]
    grind [Ah]
 grind [EO]
theorem xGm(a u v:Val):AP (Cn a u v).1=true:=by
 unfold Cn;cases g1:(AU [2,5,5] [a,u,v]).2.1
 ·obtain⟨g2,g3⟩:=By g1;obtain⟨_,hk1,hk2⟩:=kb3 g3;have tu:=H9 (g2 u (by simp)) hk1;have tv:=H9 (g2 v (by simp)) hk2;rw [jF];unfold EL;by_cases hi:AM u.columns a.text 0<0
  ·grind [Ah]
  ·rw [Zw hi,jF];by_cases hk:AM v.columns a.text 0<0
   ·grind [Ah]
   ·rw [Zw hk,jF];have hin:=Jj hk;have ec:u.columns++(v.columns.take (AM v.columns a.text 0).toNat++v.columns.drop ((AM v.columns a.text 0).toNat+1))=GZ (AM v.columns a.text 0).toNat u v:=rfl
    grind [Ah,EK,J2,xGo,Nm]
 grind [EO]
theorem xBp(m a b t:Val):AP (BG m a b t).1=true:=by
 by_cases h5:(BG m a b t).1.kind=5
 ·grind [xBr,J2]
 ·unfold BG at h5 ⊢;cases g1:(AU [2,2,2,5] [m,a,b,t]).2.1
  ·rw [g1,jF] at h5;obtain⟨g2,g3⟩:=By g1;have hk:=(kb4 g3).2.2.2;rw [jF];cases h1: !Ce m.text
   ·cases h2:decide (AM t.columns m.text 0>=0)
    ·cases h3:decide (AM t.columns a.text 0<0)
     ·cases h4:decide (AM t.columns b.text 0<0)
      ·cases h6:decide ((t.columns.length:Int)>=4)
       ·rw [h1,h2,h3,h4,h6] at h5;simp only [jF,J9] at h5 ⊢;cases h7:t.rows.all (Ei (AM t.columns a.text 0) (AM t.columns b.text 0))
        ·grind [Ah]
        ·rw [h7] at h5;exact absurd hk h5
       grind [Ah]
      grind [Ah]
     grind [Ah]
    grind [Ah]
   grind [Ah]
  grind [EO]
theorem xDt(s:Str)(l:List Val):AP (BY s l).1=true:=by
 have er:AP (AO 4)=true:=Ah (by omega);unfold BY;cases ((l.length:Int) != BC s)
 ·rw [jF];unfold cas;have c:∀ {b:Bool} {x y:Val×Bool},AP x.1=true->AP y.1=true->AP (bif b then x else y).1=true:=fun {b} _ _ h1 h2=>by grind
  exact c (xGL _) (c (xKF _) (c (xDz _) (c (xKO _ _) (c (xIi _ _) (c (xHf _ _) (c (xGq _ _) (c (xDA _ _) (c (xKR _ _) (c (xK7 _ _ _) (c (xEs _ _ _) (c (xGm _ _ _) (c (xBp _ _ _ _) (c (xHR _ _) er)))))))))))))
 grind
def Cv(l:List Exp):Nat:=(l.map Exp.cnt).sum
theorem Pi(x:Exp)(l:List Exp):Cv (x::l)=x.cnt+Cv l:=by grind [Cv]
theorem xGI(c s:Nat){l:Int}(h:0<=l):left (c+s) l=if left c l<0 then left c l else left s (left c l):=by
 grind [Te,xGJ]
theorem xDE{K:Nat}(hK:K<=1048576):∀e:Exp,e.Fit K->e.cnt<=2000000->Big2 fun N d=>Hw N d e=some (e.cnt:Int)/\∀l:Int,0<=l->l<=1000->Iz N d e l=some (left e.cnt l):=by
 refine Exp.ind fun k n t a ih h hc=> ?_;obtain⟨h1,h2,h3,h4⟩:=Exp.fit_iff.1 h;rw [Exp.cnt_eq] at hc;have hc:1+Cv a<=2000000:=hc;have hmem:∀x∈a,x.cnt<=Cv a:=fun x hx=>MV (f:=Exp.cnt) hx;refine Big2.succ ?_;refine((Big2.list fun x hx=>ih x hx (h4.2 x hx) (by grind)).and (Ap (K+30)).two).imp fun N d ⟨hx,hn⟩=> ?_;have hl:a.length<=K:=h4.1;rw [Exp.cnt_eq];refine⟨?_,fun l hl0 hl1=> ?_⟩
 ·have:=A3 (L:=fun m i s=>GN N (Hw N d) m s a a.length i) a (fun l s=>s+(Cv l:Int)) (fun i s=>0<=s/\s+(Cv (a.drop i):Int)<=2000000) (fun m s _=>by simp [GN,Cv])
   (fun i x l s hd hi hxi hs=>by
     have hi' :(i:Int)<(a.length:Int):=by omega
     have hm:=Zy hxi;rw [hd,Pi] at hs;have hw:i64.wrap (s+(x.cnt:Int))=s+(x.cnt:Int):=Af (by omega) (by omega);refine .inl ⟨s+(x.cnt:Int),⟨by omega,by grind [Bk]⟩,by grind [Pi],fun m=> ?_⟩
     grind [GN,jI,AL]) N 0 1 ⟨by omega,by grind⟩ (by omega) (by omega)
  rw [Yr] at this;show GN N (Hw N d) N 1 a a.length 0=some ((1+Cv a:Nat):Int)
  grind
 ·have:=A3 (L:=fun m i s=>F8 N (Iz N d) m s i (.mk k n t a)) a (fun l s=>if s<0 then s else left (Cv l) s) (fun i s=> -1<=s/\s<=1000) (fun m s hs=>by
   grind [F8,ea,Cv,Te])
   (fun i x l s hd hi hxi hs=>by
     have hi' :(i:Int)<((Exp.mk k n t a).args.length:Int):=by show(i:Int)<(a.length:Int);omega
     have hi2:(0:Int)<=(i:Int)/\(i:Int)<((Exp.mk k n t a).args.length:Int):=⟨by omega,hi'⟩;have hm:=Zy hxi;have hxi2:(Exp.mk k n t a).args[i]? =some x:=hxi;by_cases hneg:s<0
     ·grind [F8]
     ·have h2:s>=0:=by omega
      refine .inl ⟨left x.cnt s,?_,?_,fun m=> ?_⟩
      ·grind [left]
      ·rw [if_neg hneg,Pi,xGI _ _ (by omega)]
      ·simp only [F8,decide_eq_true hi',cond_true,decide_eq_true h2,if_pos hi2,jI,AR hxi2,(hx x hm).2 s (by omega) (by omega),Option.bind_some,AL hi (by omega:a.length<=_)]) N 0 (l - 1) ⟨by omega,by omega⟩ (by omega) (by omega)
  rw [Yr] at this;show F8 N (Iz N d) N (i64.wrap (l - 1)) 0 (.mk k n t a)=some (left (1+Cv a) l)
  grind [Af,left]
theorem Gc{x:Exp}:∀ {a:List Exp},x∈a->x.nest<=Exp.nests a
 |y::l,h=>by
  rcases Zh.1 h with rfl|h
  ·grind [Exp.nests]
  ·have:=Gc h;grind [Exp.nests]
theorem nest_eq{K:Nat}(hK:K<=1048576):∀e:Exp,e.Fit K->e.nest<=2000000->Big2 fun N d=>Js N d e=some (e.nest:Int)/\Kd N d e=some (e.nest:Int):=by
 refine Exp.ind fun k n t a ih h hc=> ?_;obtain⟨h1,h2,h3,h4⟩:=Exp.fit_iff.1 h;rw [Exp.nest_eq] at hc;have hc:Exp.nests a+1<=2000000:=hc;have hmem:∀x∈a,x.nest<=Exp.nests a:=fun x hx=>Gc hx;refine Big2.succ ?_;refine((Big2.list fun x hx=>ih x hx (h4.2 x hx) (by grind)).and (Ap (K+30)).two).imp fun N d ⟨hx,hn⟩=> ?_;have hl:a.length<=K:=h4.1;rw [Exp.nest_eq];refine⟨?_,?_⟩
 ·have:=A3 (L:=fun m i (s:Nat)=>Hv N (Js N d) m (s:Int) a a.length i) a (fun l s=>((max s (Exp.nests l)+1:Nat):Int)) (fun i s=>s<=2000000) (fun m s hs=>by
   have hw:i64.wrap ((s:Int)+1)=((max s 0+1:Nat):Int):=by grind [Af]
   grind [Hv,Exp.nests])
   (fun i x l s hd hi hxi hs=>by
     have hi' :(i:Int)<(a.length:Int):=by omega
     have hm:=Zy hxi;have:=hmem x hm;refine .inl ⟨max s x.nest,by omega,by grind [Exp.nests],fun m=> ?_⟩
     grind [Hv,jI,AR,AL]) N 0 0 (by omega) (by omega) (by omega)
  rw [Yr] at this;refine Eq.trans this ?_;simp;rfl
 ·have:=A3 (L:=fun m i (s:Nat)=>Ir N (Kd N d) m (s:Int) i (.mk k n t a)) a (fun l s=>((max s (Exp.nests l)+1:Nat):Int)) (fun i s=>s<=2000000) (fun m s hs=>by
   have hw:i64.wrap ((s:Int)+1)=((max s 0+1:Nat):Int):=by grind [Af]
   grind [Ir,ea,Exp.nests])
   (fun i x l s hd hi hxi hs=>by
     have hi' :(i:Int)<((Exp.mk k n t a).args.length:Int):=by show(i:Int)<(a.length:Int);omega
     have hi2:(0:Int)<=(i:Int)/\(i:Int)<((Exp.mk k n t a).args.length:Int):=⟨by omega,hi'⟩;have hm:=Zy hxi;have hxi2:(Exp.mk k n t a).args[i]? =some x:=hxi;have:=hmem x hm;have hmax:HT N (s:Int) (x.nest:Int)=some ((max s x.nest:Nat):Int):=by
      grind [HT]
     refine .inl ⟨max s x.nest,by omega,by grind [Exp.nests],fun m=> ?_⟩
     grind [Ir,jI,AL]) N 0 0 (by omega) (by omega) (by omega)
  rw [Yr] at this;refine Eq.trans this ?_;simp;rfl
def Fk(e:Exp):Bool:=(decide (e.cnt<=40)&&decide (e.nest<=8))&&okE e
theorem Pq{K:Nat}(hK:K<=1048576){e:Exp}(h:e.Fit K)(hs:e.size<=1048576):Big fun N=>Lj N e=some (Fk e)/\Cr N e=some (Fk e):=by
 have h1:=Exp.cnt_le e;have h2:=Exp.nest_le e;refine(((xDE hK e h (by omega)).diag.and (nest_eq hK e h (by omega)).diag).and (xBu hK e h).diag).imp fun N ⟨⟨⟨c1,c2⟩,n1,n2⟩,a1,a2⟩=> ?_
 grind [OL,PT,left,OK,PO,OO,PR,Lj,Fk,Cr]
def Gj(a b:Rea):Bool:=a.kind==b.kind&&(a.n==b.n&&(a.text==b.text&&a.time==b.time))
theorem Rea.eta(r:Rea):Rea.mk r.kind r.n r.time r.text r.result=r:=rfl
theorem xA1(N:Nat)(a b:Rea):ND N a b=some (Gj a b):=by
 grind [ND,Gj]
theorem T1(N:Nat)(a b:Rea):MI N a b=some (Gj a b):=by
 grind [MI,Gj]
def BZ(b:Rea):List Rea->Val×Bool
 | []=>(Val.mk 0 0 0 [] [] [] [],false)
 |x::r=>bif Gj x b then(x.result,true) else BZ b r
theorem xIY{N:Nat}{xs:List Rea}{b:Rea}(hc:∀x∈xs,B1 N x.result=some x.result)(hl:xs.length<=137438953472)(hn:xs.length<N):PH N xs b=some (BZ b xs):=by
 have key:=A3 (σ:=Unit) (L:=fun n i _=>HB N n xs i b (Val.mk 0 0 0 [] [] [] [])) xs (fun l _=>BZ b l) (fun _ _=>True) (fun n s _=>by simp [HB,BZ])
  (fun i x l s hd hi hxi _=>by
    have hi' :(i:Int)<(xs.length:Int):=by omega
    have hcd:(0:Int)<=(i:Int)/\(i:Int)<(xs.length:Int):=by omega
    cases h:Gj x b
    ·refine .inl ⟨(),trivial,by grind [BZ],fun n=> ?_⟩
     grind [HB,xA1,AL]
    grind [HB,xA1,BZ]) N 0 () trivial (by omega) (by omega)
 exact key
theorem xEU{N:Nat}{xs:List Rea}{b:Rea}(hc:∀x∈xs,Bm N x.result=some x.result)(hl:xs.length<=137438953472)(hn:xs.length<N):OD N xs b=some (BZ b xs):=by
 have key:=A3 (σ:=Unit) (L:=fun n i _=>GI N n xs xs.length i b (Val.mk 0 0 0 [] [] [] [])) xs (fun l _=>BZ b l) (fun _ _=>True) (fun n s _=>by simp [GI,BZ])
  (fun i x l s hd hi hxi _=>by
    have hi' :(i:Int)<(xs.length:Int):=by omega
    have hcd:(0:Int)<=(i:Int)/\(i:Int)<(xs.length:Int):=by omega
    cases h:Gj x b
    ·refine .inl ⟨(),trivial,by grind [BZ],fun n=> ?_⟩
     grind [GI,T1,AL]
    grind [GI,T1,BZ]) N 0 () trivial (by omega) (by omega)
 exact key
theorem xJg{N:Nat}{xs:List Rea}(hc:∀x∈xs,B1 N x.result=some x.result)(hl:xs.length<=137438953472)(hn:xs.length<N):NC N xs=some xs:=by
 have key:=A3 (L:=fun m i q=>JG N m xs q i) xs (fun l q=>q++l) (fun i q=>q.length=i) (fun m q hq=>by simp [JG])
  (fun i x l q hd hi hxi hq=>by
    have hq:q.length=i:=hq;have hi' :(i:Int)<(xs.length:Int):=by omega
    refine .inl ⟨q++ [x],by grind,by simp,fun m=> ?_⟩;simp only [JG,P2,Zz hi',jT,jI,AR hxi,hc x (Zy hxi),jS,Val.re_eq,Rea.eta,AL hi (by omega:xs.length<=_)]
    grind [Lim]) N 0 [] rfl (by omega) (by omega)
 exact key
end Go.Ab
end
