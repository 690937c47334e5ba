/- The statement FnExactEvaluate holds: plain functions, certificates, laws. Conditions: none. -/
import Derived.Test.YtmkdoadmcaagiaaGreatDoorL1
import Derived.Test.YtmkdoadmcaagiaaGreatDoorFnExactEvaluateP1
set_option linter.all false
open Go.IntKind (i64)
open Go.IntKind renaming i64->V,u64->U
open Int (toNat)
open List (length)
section
open Go.Proofs Go.Proofs.Tryz
namespace Go.Ab.T
set_option maxRecDepth 100000
variable [Inhabited Lb]
def xIp{P:Program}{f:FuncId}{ags:List Arg}{r:Val×Bool×Bool}(h:AbsCalls P f ags (Jy r))(ht:r.2.2=true):AbsCalls P f ags (Fw r):=by
 unfold Jy at h;rw [ht] at h;exact h
def MP{P:Program}{f:FuncId}{ags:List Arg}{r:Val×Bool×Bool}(h:AbsCalls P f ags (Jy r))(ht:r.2.2=true)(e0:List.isEmpty (Val.list r.1)=true)(e1:List.isEmpty (Val.columns r.1)=true)(e2:List.isEmpty (Val.rows r.1)=true):AbsCalls P f ags (xAv r):=by
 have h:=xIp h ht;unfold Fw at h;rw [ZW.1 e0,ZW.1 e1,ZW.1 e2] at h;exact h
def Su:=fO func141 [0,4,6,10,12,14,16,18,28,36,5,11] [(2,[4,12,14,16,5])] [(8,[(1,.take,false)])]
def xDL{N}:∀n {x6 x7 x8 b2 r},Eo N n x6 x7 x8 b2=some r->RS Su 2 [(4,vP 2),(12,vS .ro .val x6),(14,vI x7),(16,vI x8),(5,vV .own b2)] (Jy r):=
 nI nE fun n ih=>fun h=>cE (oA h) (fun h=>bE (iE h) xHw fun r1 h=>cE h (fun h=>bE h AQ fun r2 h=>dS h) fun h=>cE h (fun h=>dS h) fun h=>uS h ih) fun h=>dS h
def H8{N a0 r}(h:Dp N a0=some r):AbC 141 (Co a0) (Jy r):=
 oK Su <| uE (oA h) (xDL _)
def Jn{N a0 r}(h:DJ N a0=some r):AbC 142 (Co a0) (AX r):=
 oK (fO func142 [0,4,5]) <| bE (oA h) PS fun r1 h=>dE h
def UW:=fO func93 [0,4,6,8,12,14,26,32,34,36,38,68,92,5,7,13,15] [(5,[0,4,32,34,36,5])] [(1,[(2,.take,false)]),(2,[(0,.take,false)]),(7,[(3,.take,false),(8,.take,false)]),(9,[(1,.take,false)]),(11,[(3,.take,false)]),(13,[(0,.take,false)])]
def SB{N}:∀n {x0 x16 x17 x18 b2 r},DH N n x0 x16 x17 x18 b2=some r->RS UW 5 [(0,vS .ro .val x0),(4,vP 2),(32,vS .ro .val x16),(34,vI x17),(36,vI x18),(5,vV .own b2)] (AX r):=
 nI nE fun n ih=>fun h=>cE (oA h) (fun h=>cE (iE h) (fun h=>cE h (fun h=>cE h (fun h=>bE h AQ fun r1 h=>dS h) fun h=>uS h ih) fun h=>uS (cb F h) ih) fun h=>uS (cb F (cb F h)) ih) fun h=>bE h Jn fun r1 h=>cE h (fun h=>bE (cb Y h) AQ fun r2 h=>dS h) fun h=>bE h Uk fun r2 h=>cE h (fun h=>bE h AQ fun r3 h=>dS h) fun h=>dS h
def Ug{N a0 r}(h:HP N a0=some r):AbC 93 (Co a0) (AX r):=
 oK UW <| bK (oA h) H8 fun r1 k h=>cM k h (fun h=>cE h (fun h=>bE h CQ fun r2 h=>dE h) fun h=>uE h (SB _)) fun h=>cE h (fun h=>bE h CQ fun r2 h=>dE h) fun h=>uE h (SB _)
def Jh{N a0 r}(h:Ed N a0=some r):AbC 144 [.val (vI a0)] (AX r):=
 oK (fO func144 [0,4,10,5]) <| bE (oA h) DO fun r1 h=>cE h (fun h=>bE h AQ fun r2 h=>dE h) fun h=>bE h Bk fun r2 h=>dE h
def PP{N a0 r}(h:Jr N a0=some r):AbC 145 [.val (vB a0)] (AX r):=
 oK (fO func145 [0,4,6,5]) <| cE (oA h) (fun h=>bE h Bk fun r1 h=>dE h) fun h=>bE h Bk fun r1 h=>dE h
def Tb:=fO func231 [0,2,8,10,20,24,26,28,48] [(4,[0,2,24,26])] [(8,[(1,.take,false)])]
def xEC{N}:∀n {x0 x1 x12 x13 r},Hb N n x0 x1 x12 x13=some r->RS Tb 4 [(0,vS .ro .str x0),(2,vS .ro .str x1),(24,vI x12),(26,vI x13)] (AK r):=
 nI nE fun n ih=>fun h=>cE (oA h) (fun h=>cE (iE (iE h)) (fun h=>dS h) fun h=>uS h ih) fun h=>dS h
def xIw{N a0 a1 r}(h:MS N a0 a1=some r):AbC 231 (OT a0 a1) (AK r):=
 oK Tb <| cE (oA h) (fun h=>dE h) fun h=>uE h (xEC _)
def Tc:=fO func232 [0,2,8,10,20,24,26,28,48] [(4,[0,2,24,26])] [(8,[(1,.take,false)])]
def xED{N}:∀n {x0 x1 x12 x13 r},Ha N n x0 x1 x12 x13=some r->RS Tc 4 [(0,vS .ro .int x0),(2,vS .ro .int x1),(24,vI x12),(26,vI x13)] (AK r):=
 nI nE fun n ih=>fun h=>cE (oA h) (fun h=>cE (iE (iE h)) (fun h=>dS h) fun h=>uS h ih) fun h=>dS h
def xIu{N a0 a1 r}(h:MR N a0 a1=some r):AbC 232 (RI a0 a1) (AK r):=
 oK Tc <| cE (oA h) (fun h=>dE h) fun h=>uE h (xED _)
def Td:=fO func233 [0,2,8,10,20,24,26,28,48] [(4,[0,2,24,26])] [(8,[(1,.take,false)])]
def xEE{N}:∀n {x0 x1 x12 x13 r},P0 N n x0 x1 x12 x13=some r->RS Td 4 [(0,vS .ro .org x0),(2,vS .ro .org x1),(24,vI x12),(26,vI x13)] (AK r):=
 nI nE fun n ih=>fun h=>cE (oA h) (fun h=>cE (iE (iE h)) (fun h=>dS h) fun h=>uS h ih) fun h=>dS h
def xIt{N a0 a1 r}(h:xAy N a0 a1=some r):AbC 233 (JU a0 a1) (AK r):=
 oK Td <| cE (oA h) (fun h=>dE h) fun h=>uE h (xEE _)
def LQ(q:Val->Val->Bool->Option (Bool)):Prop:=∀a0 a1 a2 r,q a0 a1 a2=some r->AbC 183 (JO a0 a1 a2) (AK r)
def Ow:=fO func183 [0,2,4,6,8,12,14,16,120,126,128,130,158,166,168,170,238,7,9] [(4,[4,6,8,126,128,7,9]),(10,[4,6,8,166,168,7,9])] [(1,[(5,.take,false),(12,.take,false),(19,.take,false),(26,.take,false),(34,.take,false),(43,.take,false)]),(8,[(1,.take,false)]),(12,[(14,.take,false),(16,.take,false)]),(14,[(1,.take,false)])]
def xD3{N}{q0}(g0:LQ q0):∀n {x2 x83 x84 b3 b4 r},Dg N q0 n x2 x83 x84 b3 b4=some r->RS Ow 10 [(4,vB x2),(6,vP 3),(8,vP 4),(166,vI x83),(168,vI x84),(7,vV .ro b3),(9,vV .ro b4)] (AK r):=
 nI nE fun n ih=>fun h=>cE (oA h) (fun h=>bE (iE (iE h)) xIu fun r1 h=>cE h (fun h=>dS (cb Y h)) fun h=>cE h (fun h=>bE (rp 4 (rp 4 h)) xIt fun r2 h=>cE h (fun h=>dS h) fun h=>uS h ih) fun h=>uS (cb F h) ih) fun h=>dS h
def xD4{N}{q0}(g0:LQ q0):∀n {x2 x63 x64 b3 b4 r},Ft N q0 n x2 x63 x64 b3 b4=some r->RS Ow 4 [(4,vB x2),(6,vP 3),(8,vP 4),(126,vI x63),(128,vI x64),(7,vV .ro b3),(9,vV .ro b4)] (AK r):=
 nI nE fun n ih=>fun h=>cE (oA h) (fun h=>bE (iE (iE h)) (g0 _ _ _ _) fun r1 h=>cE h (fun h=>dS h) fun h=>uS h ih) fun h=>uS h (xD3 g0 _)
def xH2{N}{q0}(g0:LQ q0){a0 a1 a2 r}(h:ML N q0 a0 a1 a2=some r):AbC 183 (JO a0 a1 a2) (AK r):=
 oK Ow <| cE (oA h) (fun h=>dE (cb Y (cb Y (cb Y (cb Y (cb Y (cb Y h))))))) fun h=>cE h (fun h=>dE (cb Y (cb Y (cb Y (cb Y (cb Y h)))))) fun h=>cE h (fun h=>dE (cb Y (cb Y (cb Y (cb Y h))))) fun h=>cE h (fun h=>dE (cb Y (cb Y (cb Y h)))) fun h=>bE h xIw fun r1 h=>cE h (fun h=>dE (cb Y (cb Y h))) fun h=>cE h (fun h=>dE (cb Y h)) fun h=>cE h (fun h=>dE h) fun h=>uE h (xD4 g0 _)
def xAr{N:Nat}:∀d,LQ (C4 N d)
 |0=>fun _ _ _ _ h=>nE h
 |d+1=>fun _ _ _ _ h=>xH2 (N:=N) (xAr d) h
def xH3{N:Nat}{a0:Val}{a1:Val}{a2:Bool}{r:Bool}(h:PU N a0 a1 a2=some r):AbC 183 (JO a0 a1 a2) (AK r):=xAr N _ _ _ r h
def xHk{N a0 a1 r}(h:Ji N a0 a1=some r):AbC 146 (BG a0 a1) (AK r):=
 oK (fO func146 [0,2,4,6,8,5,7]) <| bE (oA h) xH3 fun r1 h=>dE h
def xHb{P:Program}{f:FuncId}{ags:List Arg}{r:Val×Bool}(h:AbsCalls P f ags (Fc r))(ht:r.2=true):AbsCalls P f ags (BW r):=by
 unfold Fc at h;rw [ht] at h;exact h
def xHa{P:Program}{f:FuncId}{ags:List Arg}{r:Val×Bool}(h:AbsCalls P f ags (Fc r))(ht:r.2=true)(e0:List.isEmpty (Val.list r.1)=true)(e1:List.isEmpty (Val.columns r.1)=true)(e2:List.isEmpty (Val.rows r.1)=true):AbsCalls P f ags (Ud r):=by
 have h:=xHb h ht;unfold BW at h;rw [ZW.1 e0,ZW.1 e1,ZW.1 e2] at h;exact h
def Lc:=fO func95 [0,2,4,8,10,12,14,16,18,20,22,38,90,114,140,156,182,202,226,250,274,298,9,11,13,15] [(7,[0,8,10,12,18,20,22,9,11,13]),(13,[0,8,10,12,18,20,22,9,11,13]),(17,[0,8,10,12,18,20,9,11,13])] [(1,[(3,.take,true),(4,.take,false)]),(2,[(0,.take,false)]),(3,[(0,.take,false)]),(4,[(3,.take,false)]),(5,[(3,.take,false)]),(6,[(3,.take,false)]),(7,[(2,.take,false)]),(9,[(2,.take,false)]),(13,[(2,.take,false),(3,.take,false)]),(16,[(6,.take,false)]),(17,[(2,.take,false)]),(19,[(2,.take,false)]),(21,[(2,.take,false)]),(23,[(2,.take,false)])]
def SD{N}:∀ {x0 x9 x10 b4 b5 b6 r},Ll N x0 x9 x10 b4 b5 b6=some r->RS Lc 17 [(0,vI x0),(8,vP 4),(10,vP 5),(12,vP 6),(18,vB x9),(20,vB x10),(9,vV .ro b4),(11,vV .ro b5),(13,vV .own b6)] (Fc r):=
 fun {x0 x9 x10 b4 b5 b6 r} h=>cE (oA h) (fun h=>cE h (fun h=>bE h Jh fun r1 h=>dS h) fun h=>bE (ax ((x0:Int)==5) false (zW (gt 7 (cb F (rb F 1 (cb F (ax ((x0:Int)==4) false (zW (gt 3 (cb F (ax ((x0:Int)==3) false (zW (gt 1 h) rfl) h))) rfl) (cb F (ax ((x0:Int)==3) false (zW (gt 1 h) rfl) h))))))) rfl) (cb F (rb F 1 (cb F (ax ((x0:Int)==4) false (zW (gt 3 (cb F (ax ((x0:Int)==3) false (zW (gt 1 h) rfl) h))) rfl) (cb F (ax ((x0:Int)==3) false (zW (gt 1 h) rfl) h))))))) AQ fun r1 h=>dS h) fun h=>cE (cb F h) (fun h=>cE h (fun h=>bE h Jh fun r1 h=>dS h) fun h=>bE (ax ((x0:Int)==5) false (zW (gt 5 (cb F (rb F 1 (cb F (ax ((x0:Int)==4) false (zW (gt 1 h) rfl) h))))) rfl) (cb F (rb F 1 (cb F (ax ((x0:Int)==4) false (zW (gt 1 h) rfl) h))))) AQ fun r1 h=>dS h) fun h=>cE (cb F h) (fun h=>cE h (fun h=>bE h PP fun r1 h=>dS h) fun h=>cE (rb Y 1 h) (fun h=>bE h PP fun r1 h=>dS h) fun h=>bE (ax ((x0:Int)==5) false (zW (gt 3 h) rfl) h) AQ fun r1 h=>dS h) fun h=>cE (cb F (rb F 1 (cb F h))) (fun h=>bE h xHk fun r1 h=>bE h PP fun r2 h=>dS h) fun h=>bE h AQ fun r1 h=>dS h
def SC{N}:∀ {x0 x9 x10 x11 b4 b5 b6 r},Lk N x0 x9 x10 x11 b4 b5 b6=some r->RS Lc 13 [(0,vI x0),(8,vP 4),(10,vP 5),(12,vP 6),(18,vB x9),(20,vB x10),(22,vB x11),(9,vV .ro b4),(11,vV .ro b5),(13,vV .own b6)] (Fc r):=
 fun h=>cE (oA h) (fun h=>cE h (fun h=>cE h (fun h=>bE h AQ fun r1 h=>dS h) fun h=>bE h PS fun r1 h=>bE h PS fun r2 h=>dS (iE h)) fun h=>uS h SD) fun h=>uS (cb F h) SD
def E9{N}:∀ {x0 x9 x10 x11 b4 b5 b6 r},DG N x0 x9 x10 x11 b4 b5 b6=some r->RS Lc 7 [(0,vI x0),(8,vP 4),(10,vP 5),(12,vP 6),(18,vB x9),(20,vB x10),(22,vB x11),(9,vV .ro b4),(11,vV .ro b5),(13,vV .own b6)] (Fc r):=
 fun h=>cE (oA h) (fun h=>cE h (fun h=>bE h Jh fun r1 h=>dS h) fun h=>cE (rb Y 1 h) (fun h=>cE h (fun h=>bE h AQ fun r1 h=>dS h) fun h=>bE (iE h) xAg fun r1 h=>dS h) fun h=>uS h SC) fun h=>uS (cb F (rb F 1 (cb F h))) SC
def xG9{N a0 a1 a2 r}(h:Jg N a0 a1 a2=some r):AbC 95 [.val (vI a0),.val (vV .ro a1),.val (vV .ro a2)] (Fc r):=
 oK Lc <| bK (oA h) H8 fun r1 k h=>cN k h (MP k) (fun h=>cE h (fun h=>dE h) fun h=>cE h (fun h=>uE (ax ((a1.kind:Int)==3) false (zW (gt 1 (ax ((a1.kind:Int)==2) false (zW (gt 0 h) rfl) h)) rfl) (ax ((a1.kind:Int)==2) false (zW (gt 0 h) rfl) h)) E9) fun h=>cE h (fun h=>uE (ax ((a1.kind:Int)==3) false (zW (gt 0 h) rfl) h) E9) fun h=>cE h (fun h=>uE h E9) fun h=>uE h E9) fun h=>cE h (fun h=>dE h) fun h=>cE h (fun h=>uE (ax ((a1.kind:Int)==3) false (zW (gt 1 (ax ((a1.kind:Int)==2) false (zW (gt 0 h) rfl) h)) rfl) (ax ((a1.kind:Int)==2) false (zW (gt 0 h) rfl) h)) E9) fun h=>cE h (fun h=>uE (ax ((a1.kind:Int)==3) false (zW (gt 0 h) rfl) h) E9) fun h=>cE h (fun h=>uE h E9) fun h=>uE h E9
def UY:=fO func96 [0,2,4,10,12,14,18,22,24,26,28,11,19] [(3,[2,10,14,22,24,26,11])] [(5,[(0,.take,false),(8,.take,false)]),(6,[(1,.take,false)]),(7,[(0,.take,false),(6,.take,false)])]
def xFz{N}:∀n {x1 x7 x11 x12 x13 b5 r},HO N n x1 x7 x11 x12 x13 b5=some r->RS UY 3 [(2,vTq x1),(10,vP 5),(14,vS .own .bnd x7),(22,vS .ro .bnd x11),(24,vI x12),(26,vI x13),(11,vV .ro b5)] (IW r):=
 nI nE fun n ih=>fun h=>cE (oA h) (fun h=>bE (iE h) CQ fun r1 h=>uS (iE h) ih) fun h=>bE h CQ fun r1 h=>dS (iE h)
def Uf{N a0 a1 a2 r}(h:Lo N a0 a1 a2=some r):AbC 96 [.val (vS .ro .bnd a0),.val (vTq a1),.val (vV .ro a2)] (IW r):=
 oK UY <| uE (oA h) (xFz _)
def xHs{N a0 r}(h:PK N a0=some r):AbC 97 (Ad a0) (AK r):=
 oK (fO func97 [0,2,4,3] [] [(1,[(3,.take,false)])]) <| cE (oA h) (fun h=>dE h) fun h=>dE h
def xAs{N a0 r}(h:Dh N a0=some r):AbC 44 (CX a0) (AK r):=
 oK (fO func44 [0,4] [] [(1,[(2,.take,false),(6,.take,false)])]) <| cE (oA h) (fun h=>dE (cb Y h)) fun h=>cE h (fun h=>dE h) fun h=>dE h
def xHz{N a0 r}(h:Lz N a0=some r):AbC 184 (Ad a0) (xHA r):=
 oK (fO func184 [0,2,4,6,8,22,28,30,42,3,5,7] [] [(1,[(2,.take,true),(3,.take,false)]),(2,[(0,.take,false)]),(3,[(0,.take,false)])]) <| bK (oA h) H8 fun r1 k h=>cN k h (MP k) (fun h=>cE h (fun h=>dE h) fun h=>cE h (fun h=>bE h Bk fun r2 h=>dE h) fun h=>cE h (fun h=>bE h Bk fun r2 h=>dE h) fun h=>bE h AQ fun r2 h=>dE h) fun h=>cE h (fun h=>dE h) fun h=>cE h (fun h=>bE h Bk fun r2 h=>dE h) fun h=>cE h (fun h=>bE h Bk fun r2 h=>dE h) fun h=>bE h AQ fun r2 h=>dE h
def TO:=fO func185 [0,2,4,6,8,10,14,28,36,42,44,46,48,58,74,3,5,7,15] [(8,[4,10,42,44,46,5])] [(1,[(2,.take,true),(3,.take,false)]),(2,[(0,.take,false)]),(3,[(0,.take,false)]),(15,[(1,.take,false)])]
def Rn{N}:∀n {x5 x21 x22 x23 b2 r},DL N n x5 x21 x22 x23 b2=some r->RS TO 8 [(4,vP 2),(10,vI x5),(42,vS .ro .val x21),(44,vI x22),(46,vI x23),(5,vV .own b2)] (xAe r):=
 nI nE fun n ih=>fun h=>cE (oA h) (fun h=>cE (iE h) (fun h=>bE h AQ fun r1 h=>dS h) fun h=>bE h DO fun r1 h=>cE h (fun h=>bE h AQ fun r2 h=>dS h) fun h=>uS h ih) fun h=>bE h Bk fun r1 h=>dS h
def xHM{N a0 r}(h:MF N a0=some r):AbC 185 (Ad a0) (xAe r):=
 oK TO <| bK (oA h) H8 fun r1 k h=>cN k h (MP k) (fun h=>cE h (fun h=>dE h) fun h=>cE h (fun h=>bE h AQ fun r2 h=>dE h) fun h=>uE h (Rn _)) fun h=>cE h (fun h=>dE h) fun h=>cE h (fun h=>bE h AQ fun r2 h=>dE h) fun h=>uE h (Rn _)
def xIh{P:Program}{f:FuncId}{ags:List Arg}{r:Val×Bool×Bool}(h:AbsCalls P f ags (Jx r))(ht:r.2.2=true):AbsCalls P f ags (Fw r):=by
 unfold Jx at h;rw [ht] at h;exact h
def Dm{P:Program}{f:FuncId}{ags:List Arg}{r:Val×Bool×Bool}(h:AbsCalls P f ags (Jx r))(ht:r.2.2=true)(e0:List.isEmpty (Val.list r.1)=true)(e1:List.isEmpty (Val.columns r.1)=true)(e2:List.isEmpty (Val.rows r.1)=true):AbsCalls P f ags (xAv r):=by
 have h:=xIh h ht;unfold Fw at h;rw [ZW.1 e0,ZW.1 e1,ZW.1 e2] at h;exact h
def TV:=fO func197 [0,2,8,10,12,14,16,18,30,34,36,38,40,60,9,13,19] [(5,[0,8,34,36,38,9])] [(1,[(2,.take,false)]),(2,[(0,.take,false)]),(3,[(0,.take,false)]),(7,[(3,.take,false)]),(9,[(1,.take,false)])]
def Rv{N}:∀n {x0 x17 x18 x19 b4 r},Dk N n x0 x17 x18 x19 b4=some r->RS TV 5 [(0,vS .ro .int x0),(8,vP 4),(34,vS .ro .val x17),(36,vI x18),(38,vI x19),(9,vV .own b4)] (Jx r):=
 nI nE fun n ih=>fun h=>cE (oA h) (fun h=>cE (iE (iE h)) (fun h=>bE h AQ fun r1 h=>dS h) fun h=>uS h ih) fun h=>dS h
def Dl{N a0 a1 r}(h:CS N a0 a1=some r):AbC 197 [.val (vS .ro .int a0),.val (vS .ro .val a1)] (Jx r):=
 oK TV <| bK (oA h) H8 fun r1 k h=>cM k h (fun h=>cE h (fun h=>dE h) fun h=>uE h (Rv _)) fun h=>cE h (fun h=>dE h) fun h=>uE h (Rv _)
def xHf{N a0 r}(h:Lp N a0=some r):AbC 186 (Ad a0) (xHg r):=
 oK (fO func186 [0,2,4,6,8,24,3,5,7] [] [(1,[(3,.take,true),(4,.take,false)]),(2,[(0,.take,false)]),(3,[(0,.take,false)])]) <| bK (oA h) Dl fun r1 k h=>cN k h (Dm k) (fun h=>cE h (fun h=>dE h) fun h=>bE h Bk fun r2 h=>dE h) fun h=>cE h (fun h=>dE h) fun h=>bE h Bk fun r2 h=>dE h
def P1{N a0 a1 r}(h:Hc N a0 a1=some r):AbC 234 (BG a0 a1) (xIx r):=
 oK (fO func234 [0,2,4,6,8,10,12,14,30,5,7,9,13] [] [(1,[(3,.take,true),(4,.take,false)]),(2,[(0,.take,false)]),(3,[(0,.take,false)]),(4,[(4,.take,false),(8,.take,false)])]) <| bK (oA h) H8 fun r1 k h=>cN k h (MP k) (fun h=>cE h (fun h=>dE h) fun h=>bE h AQ fun r2 h=>cE h (fun h=>dE h) fun h=>cE h (fun h=>dE h) fun h=>dE h) fun h=>cE h (fun h=>dE h) fun h=>bE h AQ fun r2 h=>cE h (fun h=>dE h) fun h=>cE h (fun h=>dE h) fun h=>dE h
def xHJ{P:Program}{f:FuncId}{ags:List Arg}{r:Val×Bool}(h:AbsCalls P f ags (MD r))(ht:r.2=true):AbsCalls P f ags (BW r):=by
 unfold MD at h;rw [ht] at h;exact h
def xHI{P:Program}{f:FuncId}{ags:List Arg}{r:Val×Bool}(h:AbsCalls P f ags (MD r))(ht:r.2=true)(e0:List.isEmpty (Val.list r.1)=true)(e1:List.isEmpty (Val.columns r.1)=true)(e2:List.isEmpty (Val.rows r.1)=true):AbsCalls P f ags (Ud r):=by
 have h:=xHJ h ht;unfold BW at h;rw [ZW.1 e0,ZW.1 e1,ZW.1 e2] at h;exact h
def MC{N a0 a1 r}(h:CF N a0 a1=some r):AbC 189 (BG a0 a1) (MD r):=
 oK (fO func189 [0,2,4,6,8,10,12,26,30,66,5,7,9,11] [] [(1,[(3,.take,false)]),(2,[(0,.take,false)]),(3,[(0,.take,false)]),(4,[(3,.take,false),(7,.take,false)])]) <| bK (oA h) P1 fun r1 k h=>cM k h (fun h=>cE h (fun h=>dE h) fun h=>cE h (fun h=>bE (cb Y h) AQ fun r2 h=>dE h) fun h=>cE h (fun h=>cE h (fun h=>bE h AQ fun r2 h=>dE h) fun h=>bE (iE (rb Y 1 h)) CQ fun r2 h=>dE h) fun h=>bE (rb F 1 (cb F h)) Jh fun r2 h=>dE h) fun h=>cE h (fun h=>dE h) fun h=>cE h (fun h=>bE (cb Y h) AQ fun r2 h=>dE h) fun h=>cE h (fun h=>cE h (fun h=>bE h AQ fun r2 h=>dE h) fun h=>bE (iE (rb Y 1 h)) CQ fun r2 h=>dE h) fun h=>bE (rb F 1 (cb F h)) Jh fun r2 h=>dE h
def TP:=fO func187 [0,2,4,6,8,10,12,14,16,18,32,42,50,80,98,5,7,9,11,15,19] [(10,[4,6,8,14,16,5,7,9,15])] [(1,[(3,.take,false)]),(2,[(0,.take,false)]),(3,[(0,.take,false)]),(12,[(3,.take,true)]),(14,[(0,.take,false)]),(15,[(1,.take,false),(2,.take,false),(4,.take,false)]),(16,[(0,.take,false)])]
def xD5{N}:∀n {x8 b2 b3 b4 b7 r},H0 N n x8 b2 b3 b4 b7=some r->RS TP 10 [(4,vP 2),(6,vP 3),(8,vP 4),(14,vP 7),(16,vI x8),(5,vV .ro b2),(7,vV .ro b3),(9,vV .own b4),(15,vV .own b7)] (xAf r):=
 nI nE fun n ih=>fun h=>cE (oA h) (fun h=>bE h Bk fun r1 h=>bK h MC fun r2 k h=>cN k h (xHI k) (fun h=>cE h (fun h=>dS h) fun h=>nE (iE h).2) fun h=>cE h (fun h=>dS h) fun h=>uS (iE h) ih) fun h=>dS h
def xHO{N a0 a1 r}(h:Fp N a0 a1=some r):AbC 187 (BG a0 a1) (xAf r):=
 oK TP <| bK (oA h) P1 fun r1 k h=>cM k h (fun h=>cE h (fun h=>dE h) fun h=>bE h Dt fun r2 h=>cE h (fun h=>bE h AQ fun r3 h=>dE h) fun h=>cE h (fun h=>bE (iE h) Jn fun r3 h=>dE h) fun h=>nE h.2) fun h=>cE h (fun h=>dE h) fun h=>bE h Dt fun r2 h=>cE h (fun h=>bE h AQ fun r3 h=>dE h) fun h=>cE h (fun h=>bE (iE h) Jn fun r3 h=>dE h) fun h=>uE h (xD5 _)
def HZ{N a0 a1 r}(h:Eh N a0 a1=some r):AbC 198 [.val (vI a0),.val (vI a1)] (AX r):=
 oK (fO func198 [0,2,8,9]) <| dE (oA h)
def xHK{N a0 a1 r}(h:Fn N a0 a1=some r):AbC 188 (BG a0 a1) (xHL r):=
 oK (fO func188 [0,2,4,6,8,10,12,14,28,36,44,76,5,7,9,11,15] [] [(1,[(3,.take,false)]),(2,[(0,.take,false)]),(3,[(0,.take,false)]),(10,[(0,.take,false)])]) <| bK (oA h) P1 fun r1 k h=>cM k h (fun h=>cE h (fun h=>dE h) fun h=>cE h (fun h=>bE h AQ fun r2 h=>dE h) fun h=>cE h (fun h=>bE (iE h) Jn fun r2 h=>dE h) fun h=>bK h MC fun r2 k h=>cM k h (fun h=>cE h (fun h=>dE h) fun h=>bE h HZ fun r3 h=>dE h) fun h=>cE h (fun h=>dE h) fun h=>bE h HZ fun r3 h=>dE h) fun h=>cE h (fun h=>dE h) fun h=>cE h (fun h=>bE h AQ fun r2 h=>dE h) fun h=>cE h (fun h=>bE (iE h) Jn fun r2 h=>dE h) fun h=>bK h MC fun r2 k h=>cM k h (fun h=>cE h (fun h=>dE h) fun h=>bE h HZ fun r3 h=>dE h) fun h=>cE h (fun h=>dE h) fun h=>bE h HZ fun r3 h=>dE h
def xNQ{N:Nat}{a0 a1:Str}{r:List Str}(h:OW N a0 a1=some r):AbC 267 [.val (vTq a0),.val (vTq a1)] (EE r):=
 AA (xF3 Tryz.lays146) (fun s c w hs=>xNO Tryz.lays146 (by kernel_rfl) s c w hs) h
def ME{N a0 a1 r}(h:Fo N a0 a1=some r):AbC 235 [.val (vTq a0),.val (.v false [.int .u8 a1])] (EE r):=
 oK (fO func235 [0,2,8]) <| bE (oA h) xNQ fun r1 h=>dE h
def BX{N a0 a1 r}(h:BD N a0 a1=some r):AbC 236 [.val (vV .ro a0),.val (vTq a1)] (AR r):=
 oK (fO func236 [0,2,4,8,5]) <| bE (oA h) PJ fun r1 h=>dE h
def J8:=fO func190 [0,2,4,6,8,10,12,14,16,20,22,26,28,32,50,66,68,70,72,86,106,112,114,116,118,134,136,138,140,5,7,9,11,15,27,29] [(7,[6,8,14,16,66,68,70,7,9,15]),(17,[8,14,16,112,114,116,9,15]),(21,[8,14,16,26,28,112,114,116,134,136,138,9,15,27,29])] [(1,[(4,.take,true),(5,.take,false)]),(2,[(0,.take,false)]),(3,[(0,.take,false)]),(9,[(1,.take,false)]),(12,[(0,.take,false)]),(13,[(1,.take,false)]),(23,[(1,.take,false),(4,.take,false)]),(24,[(1,.take,false)]),(25,[(1,.take,false),(2,.take,false),(4,.take,false)]),(26,[(1,.take,false)]),(27,[(0,.take,false)])]
def xD8{N}{k17}(hk17:∀ {z0 z1 z2 z3 z4 z5 r},k17 z0 z1 z2 z3 z4 z5=some r->RS J8 17 [(8,vP 4),(14,vP 7),(16,vS .own .int z0),(112,vS .ro .row z1),(114,vI z2),(116,vI z3),(9,vV .own z4),(15,vV .own z5)] (Jm r)):∀n {x8 x56 x57 x58 x67 x68 x69 b4 b7 b13 b14 r},Fk N k17 n x8 x56 x57 x58 x67 x68 x69 b4 b7 b13 b14=some r->RS J8 21 [(8,vP 4),(14,vP 7),(16,vS .own .int x8),(26,vP 13),(28,vP 14),(112,vS .ro .row x56),(114,vI x57),(116,vI x58),(134,vS .bor .int x67),(136,vI x68),(138,vI x69),(9,vV .own b4),(15,vV .own b7),(27,.v true [.sl .ro .int b13.cells,.sl .ro .org b13.frm]),(29,.v true [.sl .own .int b14.cells,.sl .own .org b14.frm])] (Jm r):=
 nI nE fun n ih=>fun h=>cE (oA h) (fun h=>uS (iE (iE (iE h))) ih) fun h=>uS (iE h) hk17
def xD7{N}:∀n {x8 x56 x57 x58 b4 b7 r},Dd N n x8 x56 x57 x58 b4 b7=some r->RS J8 17 [(8,vP 4),(14,vP 7),(16,vS .own .int x8),(112,vS .ro .row x56),(114,vI x57),(116,vI x58),(9,vV .own b4),(15,vV .own b7)] (Jm r):=
 nI nE fun n ih=>fun h=>cE (oA h) (fun h=>uS (iE (iE h)) (xD8 ih _)) fun h=>dS h
def Ro{N}:∀n {x8 x33 x34 x35 b3 b4 b7 r},Df N n x8 x33 x34 x35 b3 b4 b7=some r->RS J8 7 [(6,vP 3),(8,vP 4),(14,vP 7),(16,vS .own .int x8),(66,vS .bor .str x33),(68,vI x34),(70,vI x35),(7,vV .ro b3),(9,vV .own b4),(15,vV .own b7)] (Jm r):=
 nI nE fun n ih=>fun h=>cE (oA h) (fun h=>bE (iE h) BX fun r1 h=>cE h (fun h=>bE h AQ fun r2 h=>dS h) fun h=>uS (iE h) ih) fun h=>bE h Lj fun r1 h=>cE h (fun h=>bE h AQ fun r2 h=>dS h) fun h=>uS h (xD7 _)
def xHy{N a0 a1 r}(h:Jl N a0 a1=some r):AbC 190 (BG a0 a1) (Jm r):=
 oK J8 <| bK (oA h) Dl fun r1 k h=>cN k h (Dm k) (fun h=>cE h (fun h=>dE h) fun h=>bE h ME fun r2 h=>uE h (Ro _)) fun h=>cE h (fun h=>dE h) fun h=>bE h ME fun r2 h=>uE h (Ro _)
def TQ:=fO func191 [0,2,4,6,8,10,12,14,16,20,38,52,62,70,72,74,76,5,7,9,11,17,21] [(11,[8,14,16,70,72,74,9,17])] [(1,[(4,.take,true),(5,.take,false)]),(2,[(0,.take,false)]),(3,[(0,.take,false)]),(13,[(1,.take,false),(9,.take,false)]),(14,[(1,.take,false)]),(15,[(0,.take,false)])]
def Rp{N}:∀n {x7 x35 x36 x37 b4 b8 r},Ee N n x7 x35 x36 x37 b4 b8=some r->RS TQ 11 [(8,vP 4),(14,vI x7),(16,vP 8),(70,vS .ro .row x35),(72,vI x36),(74,vI x37),(9,vV .own b4),(17,vV .own b8)] (Uh r):=
 nI nE fun n ih=>fun h=>cE (oA h) (fun h=>bE (iE (iE h)) Bk fun r1 h=>uS (iE h) ih) fun h=>dS h
def xHe{N a0 a1 r}(h:HQ N a0 a1=some r):AbC 191 (BG a0 a1) (Uh r):=
 oK TQ <| bK (oA h) Dl fun r1 k h=>cN k h (Dm k) (fun h=>cE h (fun h=>dE h) fun h=>bE h BX fun r2 h=>cE h (fun h=>bE h AQ fun r3 h=>dE h) fun h=>cE h (fun h=>bE h AQ fun r3 h=>dE h) fun h=>uE h (Rp _)) fun h=>cE h (fun h=>dE h) fun h=>bE h BX fun r2 h=>cE h (fun h=>bE h AQ fun r3 h=>dE h) fun h=>cE h (fun h=>bE h AQ fun r3 h=>dE h) fun h=>uE h (Rp _)
def L6:=fO func192 [0,2,4,6,8,10,12,14,18,20,24,42,60,66,68,70,72,100,108,110,112,114,124,5,7,9,11,15,19,21,25] [(8,[8,14,66,68,70,9,15]),(14,[8,14,20,66,68,70,108,110,112,9,15,21])] [(1,[(4,.take,true),(5,.take,false)]),(2,[(0,.take,false)]),(3,[(0,.take,false)]),(10,[(3,.take,false)]),(18,[(1,.take,false)]),(19,[(1,.take,false)]),(20,[(1,.take,false),(2,.take,false),(4,.take,false)]),(21,[(1,.take,false)]),(22,[(0,.take,false)])]
def xD9{N}{k8}(hk8:∀ {z0 z1 z2 z3 z4 r},k8 z0 z1 z2 z3 z4=some r->RS L6 8 [(8,vP 4),(14,vP 7),(66,vS .ro .val z0),(68,vI z1),(70,vI z2),(9,vV .own z3),(15,vV .own z4)] (MG r)):∀n {x33 x34 x35 x54 x55 x56 b4 b7 b10 r},Ei N k8 n x33 x34 x35 x54 x55 x56 b4 b7 b10=some r->RS L6 14 [(8,vP 4),(14,vP 7),(20,vP 10),(66,vS .ro .val x33),(68,vI x34),(70,vI x35),(108,vS .ro .val x54),(110,vI x55),(112,vI x56),(9,vV .own b4),(15,vV .own b7),(21,.v true [.sl .own .int b10.cells,.sl .own .org b10.frm])] (MG r):=
 nI nE fun n ih=>fun h=>cE (oA h) (fun h=>cE (iE h) (fun h=>bE h AQ fun r1 h=>dS h) fun h=>uS (iE h) ih) fun h=>uS (iE h) hk8
def Rq{N}:∀n {x33 x34 x35 b4 b7 r},C3 N n x33 x34 x35 b4 b7=some r->RS L6 8 [(8,vP 4),(14,vP 7),(66,vS .ro .val x33),(68,vI x34),(70,vI x35),(9,vV .own b4),(15,vV .own b7)] (MG r):=
 nI nE fun n ih=>fun h=>cE (oA h) (fun h=>cE (iE h) (fun h=>bE (cb Y h) AQ fun r1 h=>dS h) fun h=>cE h (fun h=>bE h AQ fun r1 h=>dS h) fun h=>uS h (xD9 ih _)) fun h=>dS h
def xHN{N a0 a1 r}(h:Jp N a0 a1=some r):AbC 192 (BG a0 a1) (MG r):=
 oK L6 <| bK (oA h) Dl fun r1 k h=>cN k h (Dm k) (fun h=>cE h (fun h=>dE h) fun h=>bE h ME fun r2 h=>bE h PQ fun r3 h=>cE h (fun h=>bE h AQ fun r4 h=>dE h) fun h=>uE h (Rq _)) fun h=>cE h (fun h=>dE h) fun h=>bE h ME fun r2 h=>bE h PQ fun r3 h=>cE h (fun h=>bE h AQ fun r4 h=>dE h) fun h=>uE h (Rq _)
def TR:=fO func193 [0,2,4,6,8,10,12,14,16,18,20,24,44,58,74,76,78,80,100,7,9,11,13,15,21,25] [(9,[8,12,18,20,74,76,78,9,13,21])] [(1,[(5,.take,true),(6,.take,false)]),(2,[(0,.take,false)]),(3,[(0,.take,false)]),(12,[(1,.take,false),(5,.take,false)]),(13,[(1,.take,false)]),(14,[(0,.take,false)])]
def Rr{N}:∀n {x9 x37 x38 x39 b4 b6 b10 r},DM N n x9 x37 x38 x39 b4 b6 b10=some r->RS TR 9 [(8,vP 4),(12,vP 6),(18,vI x9),(20,vP 10),(74,vS .ro .row x37),(76,vI x38),(78,vI x39),(9,vV .ro b4),(13,vV .own b6),(21,vV .own b10)] (xAh r):=
 nI nE fun n ih=>fun h=>cE (oA h) (fun h=>cE (iE (iE h)) (fun h=>bE h xAp fun r1 h=>uS (iE h) ih) fun h=>uS h ih) fun h=>dS h
def xHS{N a0 a1 a2 r}(h:H1 N a0 a1 a2=some r):AbC 193 (JH a0 a1 a2) (xAh r):=
 oK TR <| bK (oA h) Dl fun r1 k h=>cN k h (Dm k) (fun h=>cE h (fun h=>dE h) fun h=>bE h BX fun r2 h=>cE h (fun h=>bE h AQ fun r3 h=>dE h) fun h=>uE (iE h) (Rr _)) fun h=>cE h (fun h=>dE h) fun h=>bE h BX fun r2 h=>cE h (fun h=>bE h AQ fun r3 h=>dE h) fun h=>uE (iE h) (Rr _)
def xHQ{N:Nat}{a0 a1 r:List Org}(h:MH N a0 a1=some r):AbC 239 (JU a0 a1) (IY r):=xOD h
def TS:=fO func194 [0,2,4,6,8,10,12,14,16,18,20,22,24,28,30,32,36,56,100,110,112,114,116,138,248,250,252,254,278,7,9,11,13,15,29,33,151] [(8,[6,8,10,12,18,20,7,9,11,13])] [(1,[(5,.take,true),(6,.take,false)]),(2,[(0,.take,false)]),(3,[(0,.take,false)]),(6,[(2,.take,false),(6,.take,false)]),(19,[(1,.take,false)]),(28,[(1,.take,false)])]
def Rs{N}:∀ {x9 x10 b3 b4 b5 b6 r},Lr N x9 x10 b3 b4 b5 b6=some r->RS TS 8 [(6,vP 3),(8,vP 4),(10,vP 5),(12,vP 6),(18,vI x9),(20,vI x10),(7,vV .ro b3),(9,vV .ro b4),(11,vV .ro b5),(13,vV .own b6)] (PI r):=
 fun h=>xGZ (by kernel_rfl) rfl rfl rfl (by kernel_rfl) (by kernel_rfl) (by kernel_rfl) (by kernel_rfl) (by kernel_rfl) (by kernel_rfl) (by kernel_rfl) (by kernel_rfl) (by kernel_rfl) rfl h
def xHp{N a0 a1 a2 r}(h:Eg N a0 a1 a2=some r):AbC 194 (JH a0 a1 a2) (PI r):=
 oK TS <| bK (oA h) Dl fun r1 k h=>cN k h (Dm k) (fun h=>cE h (fun h=>dE h) fun h=>bE h BX fun r2 h=>bE h BX fun r3 h=>cE h (fun h=>bE (cb Y (cb Y h)) AQ fun r4 h=>dE h) fun h=>cE h (fun h=>bE (cb Y h) AQ fun r4 h=>dE h) fun h=>cE h (fun h=>bE h AQ fun r4 h=>dE h) fun h=>uE h Rs) fun h=>cE h (fun h=>dE h) fun h=>bE h BX fun r2 h=>bE h BX fun r3 h=>cE h (fun h=>bE (cb Y (cb Y h)) AQ fun r4 h=>dE h) fun h=>cE h (fun h=>bE (cb Y h) AQ fun r4 h=>dE h) fun h=>cE h (fun h=>bE h AQ fun r4 h=>dE h) fun h=>uE h Rs
def Th:=fO func241 [0,2,8,10,14,18,20,22,24,36] [(3,[2,10,18,20,22])] [(6,[(0,.take,false)]),(7,[(1,.take,false)]),(8,[(0,.take,false)])]
def xEI{N}:∀n {x1 x5 x9 x10 x11 r},Ej N n x1 x5 x9 x10 x11=some r->RS Th 3 [(2,vS .ro .str x1),(10,vS .own .str x5),(18,vS .ro .str x9),(20,vI x10),(22,vI x11)] (EE r):=
 nI nE fun n ih=>fun h=>cE (oA h) (fun h=>bE (iE h) PJ fun r1 h=>cE h (fun h=>uS (iE h) ih) fun h=>uS h ih) fun h=>dS h
def xAi{N a0 a1 r}(h:Js N a0 a1=some r):AbC 241 (OT a0 a1) (EE r):=
 oK Th <| uE (oA h) (xEI _)
def L7:=fO func195 [0,2,4,6,8,10,12,14,16,18,20,22,24,28,32,34,54,122,132,138,140,142,144,152,154,156,158,184,250,7,9,11,13,15,25,29,33] [(13,[10,12,18,20,24,138,140,142,11,13,25]),(16,[10,12,18,20,24,28,138,140,142,152,154,156,11,13,25,29])] [(1,[(5,.take,true),(6,.take,false)]),(2,[(0,.take,false)]),(3,[(0,.take,false)]),(7,[(4,.take,false)]),(8,[(2,.take,false),(6,.take,false)]),(20,[(1,.take,false),(2,.take,false),(10,.take,false)]),(21,[(1,.take,false)]),(22,[(1,.take,false)]),(25,[(0,.take,false)])]
def R8(x9 x10:Int)(x69:List Rowd)(x70 x71:Int)(b5 b6 b12:Val):St:=[(10,vP 5),(12,vP 6),(18,vI x9),(20,vI x10),(24,vP 12),(138,vS .ro .row x69),(140,vI x70),(142,vI x71),(11,vV .ro b5),(13,vV .own b6),(25,vV .own b12)]
def xEa{N}{k13}(hk13:∀ {z0 z1 z2 z3 z4 z5 z6 z7 r},k13 z0 z1 z2 z3 z4 z5 z6 z7=some r->RS L7 13 (R8 z0 z1 z2 z3 z4 z5 z6 z7) (Ly r)):∀n {x9 x10 x69 x70 x71 x76 x77 x78 b5 b6 b12 b14 r},Fj N k13 n x9 x10 x69 x70 x71 x76 x77 x78 b5 b6 b12 b14=some r->RS L7 16 [(10,vP 5),(12,vP 6),(18,vI x9),(20,vI x10),(24,vP 12),(28,vP 14),(138,vS .ro .row x69),(140,vI x70),(142,vI x71),(152,vS .ro .row x76),(154,vI x77),(156,vI x78),(11,vV .ro b5),(13,vV .own b6),(25,vV .own b12),(29,.v true [.sl .ro .int b14.cells,.sl .ro .org b14.frm])] (Ly r):=
 nI nE fun n ih=>fun h=>cE (oA h) (fun h=>cE (iE (iE (iE h))) (fun h=>uS h ih) fun h=>bE (iE (iE (iE (iE (iE h))))) xHQ fun r1 h=>uS (iE h) ih) fun h=>uS h hk13
def Rt{N}:∀n {x9 x10 x69 x70 x71 b5 b6 b12 r},Dc N n x9 x10 x69 x70 x71 b5 b6 b12=some r->RS L7 13 (R8 x9 x10 x69 x70 x71 b5 b6 b12) (Ly r):=
 nI nE fun n ih=>fun h=>cE (oA h) (fun h=>uS (iE h) (xEa ih _)) fun h=>cE h (fun h=>bE h AQ fun r1 h=>dS h) fun h=>dS h
def xHx{N a0 a1 a2 r}(h:Fi N a0 a1 a2=some r):AbC 195 (JH a0 a1 a2) (Ly r):=
 oK L7 <| bK (oA h) Dl fun r1 k h=>cN k h (Dm k) (fun h=>cE h (fun h=>dE h) fun h=>bE h BX fun r2 h=>bE h BX fun r3 h=>bE h xAi fun r4 h=>cE (iE (iE h)) (fun h=>bE (cb Y (cb Y h)) AQ fun r5 h=>dE h) fun h=>cE h (fun h=>bE (cb Y h) AQ fun r5 h=>dE h) fun h=>bE h Lj fun r5 h=>cE h (fun h=>bE h AQ fun r6 h=>dE h) fun h=>cE h (fun h=>bE h AQ fun r6 h=>dE h) fun h=>uE h (Rt _)) fun h=>cE h (fun h=>dE h) fun h=>bE h BX fun r2 h=>bE h BX fun r3 h=>bE h xAi fun r4 h=>cE (iE (iE h)) (fun h=>bE (cb Y (cb Y h)) AQ fun r5 h=>dE h) fun h=>cE h (fun h=>bE (cb Y h) AQ fun r5 h=>dE h) fun h=>bE h Lj fun r5 h=>cE h (fun h=>bE h AQ fun r6 h=>dE h) fun h=>cE h (fun h=>bE h AQ fun r6 h=>dE h) fun h=>uE h (Rt _)
def TU:=fO func196 [0,2,4,6,8,10,12,14,16,18,20,22,24,26,28,30,32,54,110,120,144,146,148,150,184,9,11,13,15,17,19,27,31] [(13,[16,22,24,26,144,146,148,17,27])] [(1,[(6,.take,true),(7,.take,false)]),(2,[(0,.take,false)]),(3,[(0,.take,false)]),(6,[(4,.take,false),(11,.take,false),(15,.take,false)]),(11,[(1,.take,false)]),(18,[(1,.ref,false),(4,.ref,false),(8,.ref,false)]),(19,[(1,.take,false)]),(20,[(0,.take,false)])]
def Ru{N}:∀n {x11 x12 x72 x73 x74 b8 b13 r},D8 N n x11 x12 x72 x73 x74 b8 b13=some r->RS TU 13 [(16,vP 8),(22,vI x11),(24,vI x12),(26,vP 13),(144,vS .ro .row x72),(146,vI x73),(148,vI x74),(17,vV .own b8),(27,vV .own b13)] (Uc r):=
 nI nE fun n ih=>fun {x11 x12 x72 x73 x74 b8 b13 r} h=>cE (oA h) (fun h=>bE (iE (iE (iE h))) DO fun r1 h=>cE h (fun h=>bE h AQ fun r2 h=>dS h) fun h=>uS (ap (show(27:Nat)=27/\(6:Nat)=6/\([(x74.toNat,0)]:List (Nat×Nat))=[(x74.toNat,0)] from⟨rfl,rfl,rfl⟩) (rp 1 (iE (iE h)))) ih) fun h=>dS h
def xG8{N a0 a1 a2 a3 r}(h:DF N a0 a1 a2 a3=some r):AbC 196 [.val (vV .ro a0),.val (vV .ro a1),.val (vV .ro a2),.val (vV .ro a3)] (Uc r):=
 oK TU <| bK (oA h) Dl fun r1 k h=>cN k h (Dm k) (fun h=>cE h (fun h=>dE h) fun h=>bE h BX fun r2 h=>bE h BX fun r3 h=>bE h HV fun r4 h=>cE h (fun h=>bE (cb Y (cb Y (cb Y h))) AQ fun r5 h=>dE h) fun h=>bE h BX fun r5 h=>cE h (fun h=>bE (cb Y (cb Y h)) AQ fun r6 h=>dE h) fun h=>cE h (fun h=>bE (cb Y h) AQ fun r6 h=>dE h) fun h=>cE h (fun h=>bE h AQ fun r6 h=>dE h) fun h=>cE h (fun h=>bE h AQ fun r6 h=>dE h) fun h=>bE h CQ fun r6 h=>uE (iE h) (Ru _)) fun h=>cE h (fun h=>dE h) fun h=>bE h BX fun r2 h=>bE h BX fun r3 h=>bE h HV fun r4 h=>cE h (fun h=>bE (cb Y (cb Y (cb Y h))) AQ fun r5 h=>dE h) fun h=>bE h BX fun r5 h=>cE h (fun h=>bE (cb Y (cb Y h)) AQ fun r6 h=>dE h) fun h=>cE h (fun h=>bE (cb Y h) AQ fun r6 h=>dE h) fun h=>cE h (fun h=>bE h AQ fun r6 h=>dE h) fun h=>cE h (fun h=>bE h AQ fun r6 h=>dE h) fun h=>bE h CQ fun r6 h=>uE (iE h) (Ru _)
def xHc{N a0 a1 r}(h:DI N a0 a1=some r):AbC 147 [.val (vTq a0),.val (vS .ro .val a1)] (xHd r):=
 oK (fO func147 [0,2,8,10,12,30,34,36,48,60,72,90,108,126,144,162,180,204,228,252,294,9,11] [] [(1,[(2,.take,false)]),(30,[(2,.take,true),(3,.take,false)]),(31,[(0,.take,false)]),(32,[(0,.take,false)])]) <| bE (oA h) xAs fun r1 h=>cE h (fun h=>bE (cb Y h) AQ fun r2 h=>dE h) fun h=>bE h PF fun r2 h=>cE h (fun h=>bE h AQ fun r3 h=>dE h) fun h=>cE h (fun h=>bK (iE h) xHz fun r3 k h=>cM k h (fun h=>dE h) fun h=>dE h) fun h=>cE h (fun h=>bK (iE h) xHM fun r3 k h=>cM k h (fun h=>dE h) fun h=>dE h) fun h=>cE h (fun h=>bK (iE h) xHf fun r3 k h=>cM k h (fun h=>dE h) fun h=>dE h) fun h=>cE h (fun h=>bK (iE (iE h)) xHO fun r3 k h=>cM k h (fun h=>dE h) fun h=>dE h) fun h=>cE h (fun h=>bK (iE (iE h)) xHK fun r3 k h=>cM k h (fun h=>dE h) fun h=>dE h) fun h=>cE h (fun h=>bK (iE (iE h)) MC fun r3 k h=>cM k h (fun h=>dE h) fun h=>dE h) fun h=>cE h (fun h=>bK (iE (iE h)) xHy fun r3 k h=>cM k h (fun h=>dE h) fun h=>dE h) fun h=>cE h (fun h=>bK (iE (iE h)) xHe fun r3 k h=>cM k h (fun h=>dE h) fun h=>dE h) fun h=>cE h (fun h=>bK (iE (iE h)) xHN fun r3 k h=>cM k h (fun h=>dE h) fun h=>dE h) fun h=>cE h (fun h=>bK (iE (iE (iE h))) xHS fun r3 k h=>cM k h (fun h=>dE h) fun h=>dE h) fun h=>cE h (fun h=>bK (iE (iE (iE h))) xHp fun r3 k h=>cM k h (fun h=>dE h) fun h=>dE h) fun h=>cE h (fun h=>bK (iE (iE (iE h))) xHx fun r3 k h=>cM k h (fun h=>dE h) fun h=>dE h) fun h=>cE h (fun h=>bK (iE (iE (iE (iE h)))) xG8 fun r3 k h=>cM k h (fun h=>dE h) fun h=>dE h) fun h=>bK h Dl fun r3 k h=>cN k h (Dm k) (fun h=>cE h (fun h=>dE h) fun h=>bE (iE (iE h)) HZ fun r4 h=>dE h) fun h=>cE h (fun h=>dE h) fun h=>bE (iE (iE h)) HZ fun r4 h=>dE h
def xIs{N a0 a1 r}(h:MQ N a0 a1=some r):AbC 242 (RH a0 a1) (AK r):=
 oK (fO func242 [0,2,4,6,8,5,7] [] [(1,[(5,.take,false),(12,.take,false),(19,.take,false)])]) <| cE (oA h) (fun h=>cE h (fun h=>cE h (fun h=>dE h) fun h=>dE h) fun h=>dE (cb F h)) fun h=>dE (cb F (cb F h))
def TW:=fO func199 [0,2,6,8,10,14,16,18,20,22,32,7,9,15] [(2,[6,8,16,18,20,7,9])] [(6,[(1,.take,false)])]
def xEb{N}:∀n {x8 x9 x10 b3 b4 r},Fh N n x8 x9 x10 b3 b4=some r->RS TW 2 [(6,vP 3),(8,vP 4),(16,vS .ro .rea x8),(18,vI x9),(20,vI x10),(7,.v true (Rc .ro b3)),(9,vV .own b4)] (EU r):=
 nI nE fun n ih=>fun h=>cE (oA h) (fun h=>bE (iE h) xIs fun r1 h=>cE h (fun h=>bE h CQ fun r2 h=>dS h) fun h=>uS h ih) fun h=>dS h
def xHn{N a0 a1 r}(h:PH N a0 a1=some r):AbC 199 [.val (vS .ro .rea a0),.val (.v true (Rc .ro a1))] (EU r):=
 oK TW <| uE (oA h) (xEb _)
def xHD{N a0 a1 a2 a3 r}(h:MB N a0 a1 a2 a3=some r):AbC 243 [.val (vI a0),.val (vI a1),.val (vI a2),.val (vI a3)] (AR r):=
 oK (fO func243 [0,2,4,6,16,18,46]) <| cE (ap (show 2147483647≠(0:Int) by decide) (oA h)) (fun h=>dE (rp 1 h)) fun h=>dE (rp 1 h)
def Ti:=fO func244 [0,2,4,8,10,14,18,20,22,24,36,5,15] [(2,[2,18,20,22])] [(6,[(1,.take,false)])]
def xEJ{N}:∀n {x1 x9 x10 x11 r},Fg N n x1 x9 x10 x11=some r->RS Ti 2 [(2,vTq x1),(18,vS .ro .fil x9),(20,vI x10),(22,vI x11)] (Nt r):=
 nI nE fun n ih=>fun h=>cE (oA h) (fun h=>cE (iE h) (fun h=>dS h) fun h=>uS h ih) fun h=>dS h
def xHm{N a0 a1 r}(h:PG N a0 a1=some r):AbC 244 [.val (.v true (Wc .ro a0)),.val (vTq a1)] (Nt r):=
 oK Ti <| uE (oA h) (xEJ _)
def xHj{N a0 a1 a2 a3 r}(h:Ff N a0 a1 a2 a3=some r):AbC 200 [.val (.v true (Wc .ro a0)),.val (vI a1),.val (vI a2),.val (.v true (Rc .ro a3))] (AX r):=
 oK (fO func200 [0,2,4,6,8,14,16,18,20,22,26,30,38,48,72,92,102,9,15,17] [] [(11,[(4,.take,false)]),(12,[(0,.take,false)]),(14,[(0,.take,false)])]) <| cE (oA h) (fun h=>bE h DO fun r1 h=>cE h (fun h=>bE h AQ fun r2 h=>dE h) fun h=>bE h Bk fun r2 h=>dE h) fun h=>cE h (fun h=>bE h Dt fun r1 h=>cE h (fun h=>bE h AQ fun r2 h=>dE h) fun h=>bE h xHD fun r2 h=>bE (iE h) DO fun r3 h=>cE h (fun h=>bE h AQ fun r4 h=>dE h) fun h=>bE h Bk fun r4 h=>dE h) fun h=>cE h (fun h=>bE h xHm fun r1 h=>cE h (fun h=>bE h AQ fun r2 h=>dE h) fun h=>bE h DO fun r2 h=>cE h (fun h=>bE h AQ fun r3 h=>dE h) fun h=>bE h Bk fun r3 h=>dE h) fun h=>bE h AQ fun r1 h=>dE h
def Sw:=fO func148 [0,2,6,8,12,14,16,24,26,28,30,72,104,1,7,9,13,15] [(2,[0,6,8,24,26,28,1,7,9])] [(4,[(5,.take,false),(12,.take,false)]),(6,[(1,.take,false)]),(7,[(5,.cp,true),(6,.take,false),(7,.ref,false),(8,.ref,false)]),(8,[(0,.take,false)]),(11,[(4,.take,false),(5,.take,false),(7,.take,false)]),(12,[(0,.take,false)])] (ext:=[0]) (fcast:=[(9,4,true),(9,5,true),(9,6,true)])
def xDN{N}:∀n {x12 x13 x14 b0 b3 b4 r},Dn N n x12 x13 x14 b0 b3 b4=some r->RS Sw 2 [(0,vP 0),(6,vP 3),(8,vP 4),(24,vS .bor .rea x12),(26,vI x13),(28,vI x14),(1,.v true (Mc .own b0)),(7,.v true (Rc .ro b3)),(9,vV .own b4)] (DP r):=
 nI nE fun n ih=>fun h=>cE (oA h) (fun h=>cE (iE h) (fun h=>cE h (fun h=>cE h (fun h=>uS h ih) fun h=>uS h ih) fun h=>uS (cb F h) ih) fun h=>uS (cb F (cb F h)) ih) fun h=>bE h xHn fun r1 h=>cE h (fun h=>bE h xHj fun r2 h=>bE h CQ fun r3 h=>dS (iE h)) fun h=>bE h CQ fun r2 h=>dS (iE h)
def Em{N a0 a1 r}(h:Cj N a0 a1=some r):AbC 148 [.box (Mc .own a0),.val (.v true (Rc .ro a1))] (DP r):=
 oK Sw <| uE (oA h) (xDN _)
def G94(q:Mch->(List Exp)->(List Bnd)->Option ((List Val)×Mch)):Prop:=∀a0 a1 a2 r,q a0 a1 a2=some r->AbC 94 [.box (Mc .own a0),.val (vS .ro .exp a1),.val (vS .ro .bnd a2)] (PW r)
def G99(q:Mch->Exp->(List Bnd)->Option (Val×Mch)):Prop:=∀a0 a1 a2 r,q a0 a1 a2=some r->AbC 99 (Fv a0 a1 a2) (DP r)
def G42(q:Mch->Exp->(List Bnd)->Option (Val×Mch)):Prop:=∀a0 a1 a2 r,q a0 a1 a2=some r->AbC 42 (Fv a0 a1 a2) (DP r)
def G98(q:Mch->Exp->(List Bnd)->Option (Val×Mch)):Prop:=∀a0 a1 a2 r,q a0 a1 a2=some r->AbC 98 (Fv a0 a1 a2) (DP r)
def UX:=fO func94 [0,2,4,12,14,18,22,24,26,28,1,19] [(3,[0,4,14,22,24,26,1])] [(5,[(0,.take,false),(6,.take,false)]),(6,[(1,.take,false)]),(7,[(0,.take,false)])] (ext:=[0]) (casts:=[(3,[(14,0,false)])])
def xFy{N}{q0}(g0:G94 q0){q1}(g1:G99 q1){q2}(g2:G42 q2){q3}(g3:G98 q3):∀n {x2 x7 x11 x12 x13 b0 r},H7 N q0 q1 q2 q3 n x2 x7 x11 x12 x13 b0=some r->RS UX 3 [(0,vP 0),(4,vS .ro .bnd x2),(14,vS .tip .val x7),(22,vS .ro .exp x11),(24,vI x12),(26,vI x13),(1,.v true (Mc .own b0))] (PW r):=
 nI nE fun n ih=>fun h=>cE (oA h) (fun h=>bE (iE h) (g2 _ _ _ _) fun r1 h=>uS (iE h) ih) fun h=>dS h
def xIi{N}{q0}(g0:G94 q0){q1}(g1:G99 q1){q2}(g2:G42 q2){q3}(g3:G98 q3){a0 a1 a2 r}(h:xAu N q0 q1 q2 q3 a0 a1 a2=some r):AbC 94 [.box (Mc .own a0),.val (vS .ro .exp a1),.val (vS .ro .bnd a2)] (PW r):=
 oK UX <| uE (oA h) (xFy g0 g1 g2 g3 _)
def xIk{N}{q0}(g0:G94 q0){q1}(g1:G99 q1){q2}(g2:G42 q2){q3}(g3:G98 q3){a0 a1 a2 r}(h:MN N q0 q1 q2 q3 a0 a1 a2=some r):AbC 99 (Fv a0 a1 a2) (DP r):=
 oK (fO func99 [0,2,4,8,12,14,32,42,70,78,92,128,1,9,13] [] [(1,[(4,.cp,true)]),(5,[(3,.take,true)]),(6,[(3,.take,false)]),(7,[(0,.take,false),(1,.take,false)]),(9,[(1,.cp,true)]),(10,[(3,.take,false)]),(11,[(5,.cp,true)]),(12,[(3,.take,false)]),(13,[(5,.cp,true)])] (ext:=[0]) (fcast:=[(13,4,true),(13,5,true),(13,6,true)])) <| bE (oA h) (g0 _ _ _ _) fun r1 h=>cE h (fun h=>dE h) fun h=>bE h xAs fun r2 h=>cE h (fun h=>bK h xHc fun r3 k h=>cM k h (fun h=>dE h) fun h=>dE h) fun h=>cE h (fun h=>cE (iE h) (fun h=>dE (rp 1 h)) fun h=>cE h (fun h=>bE h Em fun r3 h=>dE h) fun h=>cE h (fun h=>cE (rp 3 h) (fun h=>bE (rp 5 h) Em fun r3 h=>dE h) fun h=>cE h (fun h=>cE (rp 6 h) (fun h=>bE (rp 8 h) Em fun r3 h=>dE h) fun h=>bE h AQ fun r3 h=>dE h) fun h=>bE (cb F h) AQ fun r3 h=>dE h) fun h=>cE (cb F h) (fun h=>cE (rp 5 h) (fun h=>bE (rp 7 h) Em fun r3 h=>dE h) fun h=>bE h AQ fun r3 h=>dE h) fun h=>bE (cb F h) AQ fun r3 h=>dE h) fun h=>cE (cb F h) (fun h=>bE h Em fun r3 h=>dE h) fun h=>cE h (fun h=>cE (iE h) (fun h=>bE (rp 1 h) Em fun r3 h=>dE h) fun h=>cE h (fun h=>cE (rp 2 h) (fun h=>bE (rp 4 h) Em fun r3 h=>dE h) fun h=>bE h AQ fun r3 h=>dE h) fun h=>bE (cb F h) AQ fun r3 h=>dE h) fun h=>cE (cb F h) (fun h=>cE (iE h) (fun h=>bE (rp 1 h) Em fun r3 h=>dE h) fun h=>bE h AQ fun r3 h=>dE h) fun h=>bE (cb F h) AQ fun r3 h=>dE h
def xIl{N}{q0}(g0:G94 q0){q1}(g1:G99 q1){q2}(g2:G42 q2){q3}(g3:G98 q3){a0 a1 a2 r}(h:Bm N q0 q1 q2 q3 a0 a1 a2=some r):AbC 42 (Fv a0 a1 a2) (DP r):=
 oK (fO func42 [0,2,4,8,12,14,16,18,40,66,68,78,88,100,116,148,188,206,228,262,1,9,13,17,19] [] [(1,[(4,.take,false)]),(16,[(8,.take,true)]),(19,[(9,.cp,true)]),(22,[(4,.take,false)])] (ext:=[0]) (fcast:=[(13,4,true),(13,5,true),(13,6,true)])) <| cE (oA h) (fun h=>dE (cb Y h)) fun h=>cE h (fun h=>dE h) fun h=>cE h (fun h=>bE h Bk fun r1 h=>dE h) fun h=>cE h (fun h=>bE h xAg fun r1 h=>dE h) fun h=>cE h (fun h=>bE h xHB fun r1 h=>dE h) fun h=>cE h (fun h=>bE h (g0 _ _ _ _) fun r1 h=>bE h Ug fun r2 h=>dE h) fun h=>cE h (fun h=>bE h (g0 _ _ _ _) fun r1 h=>bK (iE (iE h)) xG9 fun r2 k h=>cN k h (xHa k) (fun h=>dE h) fun h=>dE h) fun h=>cE h (fun h=>bE (iE h) (g2 _ _ _ _) fun r1 h=>bE (iE h) Uf fun r2 h=>bE h (g2 _ _ _ _) fun r3 h=>dE h) fun h=>cE h (fun h=>bE (iE h) (g2 _ _ _ _) fun r1 h=>cE h (fun h=>dE (cb Y h)) fun h=>cE h (fun h=>dE h) fun h=>bE h xHs fun r2 h=>cE h (fun h=>bE (iE h) (g2 _ _ _ _) fun r3 h=>dE h) fun h=>bE (iE h) (g2 _ _ _ _) fun r3 h=>dE h) fun h=>cE h (fun h=>bE h (g3 _ _ _ _) fun r1 h=>dE h) fun h=>bE h (g1 _ _ _ _) fun r1 h=>dE h
def UZ:=fO func98 [0,2,4,8,12,14,16,20,52,60,68,70,72,74,114,1,9,13,15,21] [(8,[0,4,8,12,16,68,70,72,1,9,13])] [(2,[(4,.take,false)]),(10,[(0,.take,false),(10,.cp,true),(13,.take,false)]),(13,[(1,.take,false)])] (ext:=[0]) (casts:=[(8,[(16,0,false)])]) (fcast:=[(13,4,true),(13,5,true),(13,6,true)])
def xFA{N}{q0}(g0:G94 q0){q1}(g1:G99 q1){q2}(g2:G42 q2){q3}(g3:G98 q3):∀n {x2 x8 x34 x35 x36 b0 b4 b6 r},En N q0 q1 q2 q3 n x2 x8 x34 x35 x36 b0 b4 b6=some r->RS UZ 8 [(0,vP 0),(4,vS .ro .bnd x2),(8,vP 4),(12,vP 6),(16,vS .tip .val x8),(68,vS .ro .val x34),(70,vI x35),(72,vI x36),(1,.v true (Mc .own b0)),(9,.v true (Ex .ro b4)),(13,vV .own b6)] (DP r):=
 nI nE fun n ih=>fun h=>cE (oA h) (fun h=>bE (iE (iE h)) Uf fun r1 h=>bE h (g2 _ _ _ _) fun r2 h=>cE (iE h) (fun h=>dS h) fun h=>uS h ih) fun h=>bE h Ug fun r1 h=>dS h
def xIn{N}{q0}(g0:G94 q0){q1}(g1:G99 q1){q2}(g2:G42 q2){q3}(g3:G98 q3){a0 a1 a2 r}(h:MO N q0 q1 q2 q3 a0 a1 a2=some r):AbC 98 (Fv a0 a1 a2) (DP r):=
 oK UZ <| bE (iE (oA h)) (g2 _ _ _ _) fun r1 h=>cE h (fun h=>dE (cb Y h)) fun h=>cE h (fun h=>dE h) fun h=>cE h (fun h=>bE h AQ fun r2 h=>dE h) fun h=>uE h (xFA g0 g1 g2 g3 _)
def xIj{N:Nat}:∀d,G94 (BE N d).c16/\G99 (BE N d).c17/\G42 (BE N d).c18/\G98 (BE N d).c19:=by
 intro d
 induction d with
 |zero=>exact⟨fun _ _ _ _ h=>nE h,fun _ _ _ _ h=>nE h,fun _ _ _ _ h=>nE h,fun _ _ _ _ h=>nE h⟩
 |succ d ih=>
  obtain⟨ih0,ih1,ih2,ih3⟩:=ih;exact⟨fun _ _ _ _ h=>xIi (N:=N) ih0 ih1 ih2 ih3 h,fun _ _ _ _ h=>xIk (N:=N) ih0 ih1 ih2 ih3 h,fun _ _ _ _ h=>xIl (N:=N) ih0 ih1 ih2 ih3 h,fun _ _ _ _ h=>xIn (N:=N) ih0 ih1 ih2 ih3 h⟩
def xIm{N:Nat}{a0:Mch}{a1:Exp}{a2:List Bnd}{r:Val×Mch}(h:PX N a0 a1 a2=some r):AbC 42 (Fv a0 a1 a2) (DP r):=(xIj N).2.2.1 _ _ _ r h
def fk7:=fO func7 [0,2,4,6,8,10,12,18,24,26,28,34,66,13,19,25,29,51] [(7,[24,26,28,25,29,51])] [(7,[(5,.take,false)])] (casts:=[(7,[(29,4,true),(29,5,true),(29,6,true)])])
def Rz{N}:∀ {b12 b14 b25 r},Lq N b12 b14 b25=some r->RS fk7 7 [(24,vP 12),(26,vP 25),(28,vP 14),(25,.v true [.int .i64 (b12.value.kind),.int .i64 (b12.value.n),.int .i64 (b12.value.step),.str (b12.value.text),.sl .own .val (b12.value.list),.sl .own .str (b12.value.columns),.sl .own .row (b12.value.rows),.sl .own .rea b12.reads,.int .i64 b12.steps]),(29,vV .ro b14),(51,.v true (Mc .own b25))] (Ns r):=
 fun {b12 b14 b25 r} h=>bE (oA h) CQ fun r1 h=>dS (ap (show b25.steps=b25.steps from rfl) h)
def Ul{N a0 a1 a2 a3 a4 a5 r}(h:HT N a0 a1 a2 a3 a4 a5=some r):AbC 7 (Qn a0 a1 a2 a3 a4 a5) (Ns r):=
 oK fk7 <| bE (oA h) xHt fun r1 h=>cE h (fun h=>bE h AQ fun r2 h=>dE h) fun h=>bE h xIm fun r2 h=>cE h (fun h=>bE h AQ fun r3 h=>uE h Rz) fun h=>uE h Rz
def Sk:=fO func124 [0,2,8,10,20,28,50] [(4,[0,2,10])]
def xDD{N}:∀n {x0 x1 x5 r},Hn N n x0 x1 x5=some r->RS Sk 4 [(0,vS .ro .str x0),(2,vS .ro .str x1),(10,vI x5)] (AK r):=
 nI nE fun n ih=>fun h=>cE (oA h) (fun h=>cE (iE (iE h)) (fun h=>dS h) fun h=>uS h ih) fun h=>dS h
def xJd{N a0 a1 r}(h:M5 N a0 a1=some r):AbC 124 (OT a0 a1) (AK r):=
 oK Sk <| cE (oA h) (fun h=>dE h) fun h=>uE h (xDD _)
def T6:=fO func224 [0,2,8,10,20,28,50] [(4,[0,2,10])]
def xEs{N}:∀n {x0 x1 x5 r},Hi N n x0 x1 x5=some r->RS T6 4 [(0,vS .ro .int x0),(2,vS .ro .int x1),(10,vI x5)] (AK r):=
 nI nE fun n ih=>fun h=>cE (oA h) (fun h=>cE (iE (iE h)) (fun h=>dS h) fun h=>uS h ih) fun h=>dS h
def xI7{N a0 a1 r}(h:MZ N a0 a1=some r):AbC 224 (RI a0 a1) (AK r):=
 oK T6 <| cE (oA h) (fun h=>dE h) fun h=>uE h (xEs _)
def xI9{N a0 a1 r}(h:M0 N a0 a1=some r):AbC 264 (PZ a0 a1) (AK r):=
 oK (fO func264 [0,2,4,6,8,18,28,5,7]) <| cE (oA h) (fun h=>dE h) fun h=>cE h (fun h=>dE h) fun h=>dE h
def T7:=fO func225 [0,2,8,10,20,28,52] [(4,[0,2,10])]
def xEt{N}:∀n {x0 x1 x5 r},Hj N n x0 x1 x5=some r->RS T7 4 [(0,vS .ro .org x0),(2,vS .ro .org x1),(10,vI x5)] (AK r):=
 nI nE fun n ih=>fun h=>cE (oA h) (fun h=>bE (iE (iE h)) xI9 fun r1 h=>cE h (fun h=>dS h) fun h=>uS h ih) fun h=>dS h
def xI8{N a0 a1 r}(h:M1 N a0 a1=some r):AbC 225 (JU a0 a1) (AK r):=
 oK T7 <| cE (oA h) (fun h=>dE h) fun h=>uE h (xEt _)
def xJc{N a0 a1 r}(h:M3 N a0 a1=some r):AbC 168 [.val (.v true [.sl .ro .int a0.cells,.sl .ro .org a0.frm]),.val (.v true [.sl .ro .int a1.cells,.sl .ro .org a1.frm])] (AK r):=
 oK (fO func168 [0,2,4,6,8,20,32,5,7]) <| bE (oA h) xI7 fun r1 h=>cE h (fun h=>dE h) fun h=>bE h xI8 fun r2 h=>cE h (fun h=>dE h) fun h=>dE h
def Sl:=fO func125 [0,2,8,10,20,28,52] [(4,[0,2,10])]
def xDE{N}:∀n {x0 x1 x5 r},Hm N n x0 x1 x5=some r->RS Sl 4 [(0,vS .ro .row x0),(2,vS .ro .row x1),(10,vI x5)] (AK r):=
 nI nE fun n ih=>fun h=>cE (oA h) (fun h=>bE (iE (iE h)) xJc fun r1 h=>cE h (fun h=>dS h) fun h=>uS h ih) fun h=>dS h
def xJb{N a0 a1 r}(h:M4 N a0 a1=some r):AbC 125 [.val (vS .ro .row a0),.val (vS .ro .row a1)] (AK r):=
 oK Sl <| cE (oA h) (fun h=>dE h) fun h=>uE h (xDE _)
def G59(q:Val->Val->Option (Bool)):Prop:=∀a0 a1 r,q a0 a1=some r->AbC 59 (BG a0 a1) (AK r)
def LM(q:(List Val)->(List Val)->Option (Bool)):Prop:=∀a0 a1 r,q a0 a1=some r->AbC 123 [.val (vS .ro .val a0),.val (vS .ro .val a1)] (AK r)
def xJf{N}{q0}(g0:G59 q0){q1}(g1:LM q1){a0 a1 r}(h:M7 N q0 q1 a0 a1=some r):AbC 59 (BG a0 a1) (AK r):=
 oK (fO func59 [0,2,4,6,8,18,28,38,48,60,72,84,5,7]) <| cE (oA h) (fun h=>dE h) fun h=>cE h (fun h=>dE h) fun h=>cE h (fun h=>dE h) fun h=>cE h (fun h=>dE h) fun h=>bE h (g1 _ _ _) fun r1 h=>cE h (fun h=>dE h) fun h=>bE h xJd fun r2 h=>cE h (fun h=>dE h) fun h=>bE h xJb fun r3 h=>cE h (fun h=>dE h) fun h=>dE h
def Sj:=fO func123 [0,2,8,10,20,28,52] [(4,[0,2,10])]
def xDC{N}{q0}(g0:G59 q0){q1}(g1:LM q1):∀n {x0 x1 x5 r},Ho N q0 q1 n x0 x1 x5=some r->RS Sj 4 [(0,vS .ro .val x0),(2,vS .ro .val x1),(10,vI x5)] (AK r):=
 nI nE fun n ih=>fun h=>cE (oA h) (fun h=>bE (iE (iE h)) (g0 _ _ _) fun r1 h=>cE h (fun h=>dS h) fun h=>uS h ih) fun h=>dS h
def xJe{N}{q0}(g0:G59 q0){q1}(g1:LM q1){a0 a1 r}(h:M6 N q0 q1 a0 a1=some r):AbC 123 [.val (vS .ro .val a0),.val (vS .ro .val a1)] (AK r):=
 oK Sj <| cE (oA h) (fun h=>dE h) fun h=>uE h (xDC g0 g1 _)
def xJg{N:Nat}:∀d,G59 (Bo N d).c20/\LM (Bo N d).c21:=by
 intro d
 induction d with
 |zero=>exact⟨fun _ _ _ h=>nE h,fun _ _ _ h=>nE h⟩
 |succ d ih=>
  obtain⟨ih0,ih1⟩:=ih;exact⟨fun _ _ _ h=>xJf (N:=N) ih0 ih1 h,fun _ _ _ h=>xJe (N:=N) ih0 ih1 h⟩
def P7{N:Nat}{a0:Val}{a1:Val}{r:Bool}(h:KA N a0 a1=some r):AbC 59 (BG a0 a1) (AK r):=(xJg N).1 _ _ r h
def xJa{N a0 a1 r}(h:M2 N a0 a1=some r):AbC 62 (RH a0 a1) (AK r):=
 oK (fO func62 [0,2,4,6,8,18,28,38,48,60,5,7]) <| cE (oA h) (fun h=>dE h) fun h=>cE h (fun h=>dE h) fun h=>cE h (fun h=>dE h) fun h=>cE h (fun h=>dE h) fun h=>bE h P7 fun r1 h=>cE h (fun h=>dE h) fun h=>dE h
def Ta:=fO func23 [0,2,8,10,20,28,52] [(4,[0,2,10])]
def xEH{N}:∀n {x0 x1 x5 r},Hl N n x0 x1 x5=some r->RS Ta 4 [(0,vS .ro .rea x0),(2,vS .ro .rea x1),(10,vI x5)] (AK r):=
 nI nE fun n ih=>fun h=>cE (oA h) (fun h=>bE (iE (iE h)) xJa fun r1 h=>cE h (fun h=>dS h) fun h=>uS h ih) fun h=>dS h
def xAG{N a0 a1 r}(h:Jz N a0 a1=some r):AbC 23 [.val (vS .ro .rea a0),.val (vS .ro .rea a1)] (AK r):=
 oK Ta <| cE (oA h) (fun h=>dE h) fun h=>uE h (xEH _)
def P6{N a0 a1 r}(h:Hk N a0 a1=some r):AbC 20 [.val (.v true [.int .i64 (a0.value.kind),.int .i64 (a0.value.n),.int .i64 (a0.value.step),.str (a0.value.text),.sl .ro .val (a0.value.list),.sl .ro .str (a0.value.columns),.sl .ro .row (a0.value.rows),.sl .ro .rea a0.reads,.int .i64 a0.steps]),.val (.v true [.int .i64 (a1.value.kind),.int .i64 (a1.value.n),.int .i64 (a1.value.step),.str (a1.value.text),.sl .ro .val (a1.value.list),.sl .ro .str (a1.value.columns),.sl .ro .row (a1.value.rows),.sl .ro .rea a1.reads,.int .i64 a1.steps])] (AK r):=
 oK (fO func20 [0,2,4,6,8,20,32,42,5,7]) <| bE (oA h) P7 fun r1 h=>cE h (fun h=>dE h) fun h=>bE h xAG fun r2 h=>cE h (fun h=>dE h) fun h=>cE h (fun h=>dE h) fun h=>dE h
def G21(q:Exp->Exp->Option (Bool)):Prop:=∀a0 a1 r,q a0 a1=some r->AbC 21 (P5 a0 a1) (AK r)
def G60(q:(List Exp)->(List Exp)->Option (Bool)):Prop:=∀a0 a1 r,q a0 a1=some r->AbC 60 [.val (vS .ro .exp a0),.val (vS .ro .exp a1)] (AK r)
def xI2{N}{q0}(g0:G21 q0){q1}(g1:G60 q1){a0 a1 r}(h:MW N q0 q1 a0 a1=some r):AbC 21 (P5 a0 a1) (AK r):=
 oK (fO func21 [0,2,4,6,8,18,28,38,50,5,7]) <| cE (oA h) (fun h=>dE h) fun h=>cE h (fun h=>dE h) fun h=>cE h (fun h=>dE h) fun h=>bE h (g1 _ _ _) fun r1 h=>cE h (fun h=>dE h) fun h=>dE h
def UI:=fO func60 [0,2,8,10,20,28,52] [(4,[0,2,10])]
def xFg{N}{q0}(g0:G21 q0){q1}(g1:G60 q1):∀n {x0 x1 x5 r},Hg N q0 q1 n x0 x1 x5=some r->RS UI 4 [(0,vS .ro .exp x0),(2,vS .ro .exp x1),(10,vI x5)] (AK r):=
 nI nE fun n ih=>fun h=>cE (oA h) (fun h=>bE (iE (iE h)) (g0 _ _ _) fun r1 h=>cE h (fun h=>dS h) fun h=>uS h ih) fun h=>dS h
def xI1{N}{q0}(g0:G21 q0){q1}(g1:G60 q1){a0 a1 r}(h:MV N q0 q1 a0 a1=some r):AbC 60 [.val (vS .ro .exp a0),.val (vS .ro .exp a1)] (AK r):=
 oK UI <| cE (oA h) (fun h=>dE h) fun h=>uE h (xFg g0 g1 _)
def xI3{N:Nat}:∀d,G21 (CT N d).c22/\G60 (CT N d).c23:=by
 intro d
 induction d with
 |zero=>exact⟨fun _ _ _ h=>nE h,fun _ _ _ h=>nE h⟩
 |succ d ih=>
  obtain⟨ih0,ih1⟩:=ih;exact⟨fun _ _ _ h=>xI2 (N:=N) ih0 ih1 h,fun _ _ _ h=>xI1 (N:=N) ih0 ih1 h⟩
def xI4{N:Nat}{a0:Exp}{a1:Exp}{r:Bool}(h:P4 N a0 a1=some r):AbC 21 (P5 a0 a1) (AK r):=(xI3 N).1 _ _ r h
def xI0{N a0 a1 r}(h:MT N a0 a1=some r):AbC 61 [.val (.v true (Bc .ro a0)),.val (.v true (Bc .ro a1))] (AK r):=
 oK (fO func61 [0,2,4,6,8,18,30,5,7]) <| cE (oA h) (fun h=>dE h) fun h=>bE h P7 fun r1 h=>cE h (fun h=>dE h) fun h=>dE h
def T5:=fO func22 [0,2,8,10,20,28,52] [(4,[0,2,10])]
def xEy{N}:∀n {x0 x1 x5 r},Hf N n x0 x1 x5=some r->RS T5 4 [(0,vS .ro .bnd x0),(2,vS .ro .bnd x1),(10,vI x5)] (AK r):=
 nI nE fun n ih=>fun h=>cE (oA h) (fun h=>bE (iE (iE h)) xI0 fun r1 h=>cE h (fun h=>dS h) fun h=>uS h ih) fun h=>dS h
def xIZ{N a0 a1 r}(h:MU N a0 a1=some r):AbC 22 [.val (vS .ro .bnd a0),.val (vS .ro .bnd a1)] (AK r):=
 oK T5 <| cE (oA h) (fun h=>dE h) fun h=>uE h (xEy _)
def xI6{N a0 a1 r}(h:MX N a0 a1=some r):AbC 126 [.val (.v true [.str a0.name,.int .i64 a0.n]),.val (.v true [.str a1.name,.int .i64 a1.n])] (AK r):=
 oK (fO func126 [0,2,4,6,8,18,28,5,7]) <| cE (oA h) (fun h=>dE h) fun h=>cE h (fun h=>dE h) fun h=>dE h
def UJ:=fO func63 [0,2,8,10,20,28,52] [(4,[0,2,10])]
def xFh{N}:∀n {x0 x1 x5 r},Hh N n x0 x1 x5=some r->RS UJ 4 [(0,vS .ro .fil x0),(2,vS .ro .fil x1),(10,vI x5)] (AK r):=
 nI nE fun n ih=>fun h=>cE (oA h) (fun h=>bE (iE (iE h)) xI6 fun r1 h=>cE h (fun h=>dS h) fun h=>uS h ih) fun h=>dS h
def xI5{N a0 a1 r}(h:MY N a0 a1=some r):AbC 63 [.val (vS .ro .fil a0),.val (vS .ro .fil a1)] (AK r):=
 oK UJ <| cE (oA h) (fun h=>dE h) fun h=>uE h (xFh _)
def xJh{N a0 a1 r}(h:M8 N a0 a1=some r):AbC 24 [.val (.v true (Wc .ro a0)),.val (.v true (Wc .ro a1))] (AK r):=
 oK (fO func24 [0,2,4,6,8,18,28,40,5,7]) <| cE (oA h) (fun h=>dE h) fun h=>cE h (fun h=>dE h) fun h=>bE h xI5 fun r1 h=>cE h (fun h=>dE h) fun h=>dE h
def UL:=fO func65 [0,4,6,10,14] [(4,[0,6])]
def xFj{N}:∀n {x0 x3 r},IQ N n x0 x3=some r->RS UL 4 [(0,vI x0),(6,vTq x3)] (xAU r):=
 nI nE fun n ih=>fun h=>cE (oA h) (fun h=>uS (rp 1 (iE (ap (show 10≠(0:Int) by decide) h))) ih) fun h=>dS (iE h)
def C7{N a0 r}(h:Bx N a0=some r):AbC 65 [.val (vI a0)] (xAU r):=
 oK UL <| cE (oA h) (fun h=>dE h) fun h=>uE h (xFj _)
def G64(q:(List Exp)->Int->Option (Int×(List Exp))):Prop:=∀a0 a1 r,q a0 a1=some r->AbC 64 [.val (vS (.lnt 0) .exp a0),.val (vI a1)] (KH r)
def UK:=fO func64 [0,2,8,10,18] [(2,[0,2,10])] [(4,[(0,.ref,false)]),(6,[(0,.ref,false)]),(8,[(0,.ref,false)]),(10,[(0,.ref,false),(4,.ref,false),(6,.ref,false)])] (lnt:=[(0,0)])
def xFi{N}{q0}(g0:G64 q0):∀n {x0 x1 x5 r},Hz N q0 n x0 x1 x5=some r->RS UK 2 [(0,vS (.lnt 0) .exp x0),(2,vI x1),(10,vI x5)] (KH r):=
 nI nE fun n ih=>fun {x0 x1 x5 r} h=>cE (oA h) (fun h=>bE (iE (iE h)) C7 fun r1 h=>bE (iE (iE h)) (g0 _ _ _) fun r2 h=>uS (iE (ap (show x5.toNat=x5.toNat from rfl) h)) ih) fun h=>dS h
def xJo{N}{q0}(g0:G64 q0){a0 a1 r}(h:xAM N q0 a0 a1=some r):AbC 64 [.val (vS (.lnt 0) .exp a0),.val (vI a1)] (KH r):=
 oK UK <| uE (oA h) (xFi g0 _)
def xAN{N:Nat}:∀d,G64 (KG N d)
 |0=>fun _ _ _ h=>nE h
 |d+1=>fun _ _ _ h=>xJo (N:=N) (xAN d) h
def xJp{N:Nat}{a0:List Exp}{a1:Int}{r:Int×(List Exp)}(h:Pk N a0 a1=some r):AbC 64 [.val (vS (.lnt 0) .exp a0),.val (vI a1)] (KH r):=xAN N _ _ r h
def xJq{N a0 a1 r}(h:Mg N a0 a1=some r):AbC 25 [.val (.v true [.int .i64 a0.kind,.int .i64 a0.n,.str a0.text,.sl (.lnt 0) .exp a0.args]),.val (vI a1)] (KH r):=
 oK (fO func25 [0,2,4,8,5] [] [(1,[(1,.ref,false),(3,.ref,false)])] (lnt:=[(5,3)])) <| bE (oA h) xJp fun r1 h=>dE (iE h)
def UN:=fO func67 [0,2,8,10,18] [(2,[0,2,10])] [(4,[(0,.ref,false)])] (lnt:=[(0,0)])
def xFl{N}:∀n {x0 x1 x5 r},IP N n x0 x1 x5=some r->RS UN 2 [(0,vS (.lnt 0) .str x0),(2,vI x1),(10,vI x5)] (xAT r):=
 nI nE fun n ih=>fun h=>cE (oA h) (fun h=>bE h C7 fun r1 h=>uS (iE h) ih) fun h=>dS h
def Mm{N a0 a1 r}(h:IN N a0 a1=some r):AbC 67 [.val (vS (.lnt 0) .str a0),.val (vI a1)] (xAT r):=
 oK UN <| uE (oA h) (xFl _)
def Sm:=fO func127 [0,2,8,10,18] [(2,[0,2,10])] [(4,[(0,.ref,false)])] (lnt:=[(0,0)])
def xDF{N}:∀n {x0 x1 x5 r},IC N n x0 x1 x5=some r->RS Sm 2 [(0,vS (.lnt 0) .int x0),(2,vI x1),(10,vI x5)] (xAO r):=
 nI nE fun n ih=>fun h=>cE (oA h) (fun h=>uS (iE h) ih) fun h=>dS h
def xJs{N a0 a1 r}(h:Pp N a0 a1=some r):AbC 127 [.val (vS (.lnt 0) .int a0),.val (vI a1)] (xAO r):=
 oK Sm <| uE (oA h) (xDF _)
def Sn:=fO func128 [0,2,8,10,18] [(2,[0,2,10])] [(4,[(0,.ref,false)]),(6,[(0,.ref,false)])] (lnt:=[(0,0)])
def xDG{N}:∀n {x0 x1 x5 r},ID N n x0 x1 x5=some r->RS Sn 2 [(0,vS (.lnt 0) .org x0),(2,vI x1),(10,vI x5)] (xAP r):=
 nI nE fun n ih=>fun h=>cE (oA h) (fun h=>uS (iE (iE h)) ih) fun h=>dS h
def xJt{N a0 a1 r}(h:Pq N a0 a1=some r):AbC 128 [.val (vS (.lnt 0) .org a0),.val (vI a1)] (xAP r):=
 oK Sn <| uE (oA h) (xDG _)
def UO:=fO func68 [0,2,8,10,18] [(2,[0,2,10])] [(4,[(0,.ref,false),(4,.ref,false),(6,.ref,false)]),(5,[(0,.ref,false),(4,.ref,false),(6,.ref,false)])] (lnt:=[(0,0)])
def xFm{N}:∀n {x0 x1 x5 r},IM N n x0 x1 x5=some r->RS UO 2 [(0,vS (.lnt 0) .row x0),(2,vI x1),(10,vI x5)] (xAS r):=
 nI nE fun n ih=>fun {x0 x1 x5 r} h=>cE (oA h) (fun h=>bE (iE h) xJs fun r1 h=>bE (iE (iE (ap (show x5.toNat=x5.toNat from rfl) h))) xJt fun r2 h=>uS (iE (ap (show x5.toNat=x5.toNat from rfl) h)) ih) fun h=>dS h
def Ml{N a0 a1 r}(h:IL N a0 a1=some r):AbC 68 [.val (vS (.lnt 0) .row a0),.val (vI a1)] (xAS r):=
 oK UO <| uE (oA h) (xFm _)
def G66(q:(List Val)->Int->Option (Int×(List Val))):Prop:=∀a0 a1 r,q a0 a1=some r->AbC 66 [.val (vS (.lnt 0) .val a0),.val (vI a1)] (Ms r)
def UM:=fO func66 [0,2,8,10,18] [(2,[0,2,10])] [(4,[(0,.ref,false)]),(6,[(0,.ref,false)]),(8,[(0,.ref,false)]),(10,[(0,.ref,false)]),(12,[(0,.ref,false),(4,.ref,false),(6,.ref,false)]),(13,[(0,.ref,false),(4,.ref,false),(6,.ref,false)]),(14,[(0,.ref,false),(4,.ref,false),(6,.ref,false)])] (lnt:=[(0,0)])
def xFk{N}{q0}(g0:G66 q0):∀n {x0 x1 x5 r},IR N q0 n x0 x1 x5=some r->RS UM 2 [(0,vS (.lnt 0) .val x0),(2,vI x1),(10,vI x5)] (Ms r):=
 nI nE fun n ih=>fun {x0 x1 x5 r} h=>cE (oA h) (fun h=>bE (iE (iE (iE h))) C7 fun r1 h=>bE (iE (iE h)) (g0 _ _ _) fun r2 h=>bE (iE (iE (ap (show x5.toNat=x5.toNat from rfl) h))) Mm fun r3 h=>bE (iE (iE (ap (show x5.toNat=x5.toNat from rfl) h))) Ml fun r4 h=>uS (iE (ap (show x5.toNat=x5.toNat from rfl) h)) ih) fun h=>dS h
def xJw{N}{q0}(g0:G66 q0){a0 a1 r}(h:xAV N q0 a0 a1=some r):AbC 66 [.val (vS (.lnt 0) .val a0),.val (vI a1)] (Ms r):=
 oK UM <| uE (oA h) (xFk g0 _)
def xAW{N:Nat}:∀d,G66 (KU N d)
 |0=>fun _ _ _ h=>nE h
 |d+1=>fun _ _ _ h=>xJw (N:=N) (xAW d) h
def Pw{N:Nat}{a0:List Val}{a1:Int}{r:Int×(List Val)}(h:ED N a0 a1=some r):AbC 66 [.val (vS (.lnt 0) .val a0),.val (vI a1)] (Ms r):=xAW N _ _ r h
def Tr:=fO func26 [0,2,8,10,18] [(2,[0,2,10])] [(4,[(0,.ref,false)]),(6,[(0,.ref,false)]),(8,[(0,.ref,false)]),(10,[(0,.ref,false)]),(12,[(0,.ref,false)]),(14,[(0,.ref,false),(5,.ref,false),(7,.ref,false)]),(15,[(0,.ref,false),(5,.ref,false),(7,.ref,false)]),(16,[(0,.ref,false),(5,.ref,false),(7,.ref,false)])] (lnt:=[(0,0)])
def xEW{N}:∀n {x0 x1 x5 r},Hv N n x0 x1 x5=some r->RS Tr 2 [(0,vS (.lnt 0) .bnd x0),(2,vI x1),(10,vI x5)] (xAL r):=
 nI nE fun n ih=>fun {x0 x1 x5 r} h=>cE (oA h) (fun h=>bE h C7 fun r1 h=>bE (iE (iE (iE (iE h)))) C7 fun r2 h=>bE (iE (iE h)) Pw fun r3 h=>bE (iE (iE (ap (show x5.toNat=x5.toNat from rfl) h))) Mm fun r4 h=>bE (iE (iE (ap (show x5.toNat=x5.toNat from rfl) h))) Ml fun r5 h=>uS (iE (ap (show x5.toNat=x5.toNat from rfl) h)) ih) fun h=>dS h
def xJn{N a0 a1 r}(h:Pd N a0 a1=some r):AbC 26 [.val (vS (.lnt 0) .bnd a0),.val (vI a1)] (xAL r):=
 oK Tr <| uE (oA h) (xEW _)
def Tw:=fO func27 [0,2,8,10,18] [(2,[0,2,10])] [(4,[(0,.ref,false)]),(6,[(0,.ref,false)]),(8,[(0,.ref,false)]),(10,[(0,.ref,false)]),(12,[(0,.ref,false)]),(14,[(0,.ref,false)]),(16,[(0,.ref,false)]),(18,[(0,.ref,false)]),(20,[(0,.ref,false),(5,.ref,false),(7,.ref,false)]),(21,[(0,.ref,false),(5,.ref,false),(7,.ref,false)]),(22,[(0,.ref,false),(5,.ref,false),(7,.ref,false)])] (lnt:=[(0,0)])
def xE0{N}:∀n {x0 x1 x5 r},EC N n x0 x1 x5=some r->RS Tw 2 [(0,vS (.lnt 0) .rea x0),(2,vI x1),(10,vI x5)] (xAR r):=
 nI nE fun n ih=>fun {x0 x1 x5 r} h=>cE (oA h) (fun h=>bE (iE (iE (iE h))) C7 fun r1 h=>bE (iE (iE (iE (iE h)))) C7 fun r2 h=>bE (iE (iE h)) Pw fun r3 h=>bE (iE (iE (ap (show x5.toNat=x5.toNat from rfl) h))) Mm fun r4 h=>bE (iE (iE (ap (show x5.toNat=x5.toNat from rfl) h))) Ml fun r5 h=>uS (iE (ap (show x5.toNat=x5.toNat from rfl) h)) ih) fun h=>dS h
def xAQ{N a0 a1 r}(h:KI N a0 a1=some r):AbC 27 [.val (vS (.lnt 0) .rea a0),.val (vI a1)] (xAR r):=
 oK Tw <| uE (oA h) (xE0 _)
def UP:=fO func69 [0,2,8,10,18] [(2,[0,2,10])] [(4,[(0,.ref,false)]),(6,[(0,.ref,false)])] (lnt:=[(0,0)])
def xFn{N}:∀n {x0 x1 x5 r},IB N n x0 x1 x5=some r->RS UP 2 [(0,vS (.lnt 0) .fil x0),(2,vI x1),(10,vI x5)] (Po r):=
 nI nE fun n ih=>fun h=>cE (oA h) (fun h=>bE h C7 fun r1 h=>uS (iE (iE h)) ih) fun h=>dS h
def xJr{N a0 a1 r}(h:Mj N a0 a1=some r):AbC 69 [.val (vS (.lnt 0) .fil a0),.val (vI a1)] (Po r):=
 oK UP <| uE (oA h) (xFn _)
def xJz{N a0 a1 r}(h:Mt N a0 a1=some r):AbC 28 [.val (.v true [.int .i64 a0.clock,.int .i64 a0.seed,.sl (.lnt 0) .fil a0.files]),.val (vI a1)] (Po r):=
 oK (fO func28 [0,2,4,8,5] [] [(1,[(1,.ref,false),(3,.ref,false)])] (lnt:=[(5,2)])) <| bE (oA h) xJr fun r1 h=>dE (iE h)
def xJx{N a0 a1 r}(h:Mn N a0 a1=some r):AbC 70 [.val (.v true [.int .i64 a0.kind,.int .i64 a0.n,.int .i64 a0.step,.str a0.text,.sl (.lnt 0) .val a0.list,.sl (.lnt 1) .str a0.columns,.sl (.lnt 2) .row a0.rows]),.val (vI a1)] (xJy r):=
 oK (fO func70 [0,2,4,8,5] [] [(1,[(1,.ref,false),(3,.ref,false)]),(2,[(1,.ref,false),(3,.ref,false)]),(3,[(1,.ref,false),(3,.ref,false)])] (lnt:=[(5,4),(5,5),(5,6)])) <| bE (oA h) Pw fun r1 h=>bE (iE h) Mm fun r2 h=>bE (iE h) Ml fun r3 h=>dE (iE h)
def xJu{N a0 a1 r}(h:Mk N a0 a1=some r):AbC 29 [.val (.v true [.int .i64 (a0.value.kind),.int .i64 (a0.value.n),.int .i64 (a0.value.step),.str (a0.value.text),.sl (.lnt 0) .val (a0.value.list),.sl (.lnt 1) .str (a0.value.columns),.sl (.lnt 2) .row (a0.value.rows),.sl (.lnt 3) .rea a0.reads,.int .i64 a0.steps]),.val (vI a1)] (xJv r):=
 oK (fO func29 [0,2,4,8,5] [] [(1,[(1,.ref,false),(3,.ref,false)]),(2,[(1,.ref,false),(3,.ref,false)])] (lnt:=[(5,4),(5,5),(5,6),(5,7)])) <| bE (oA h) xJx fun r1 h=>bE (iE (iE (iE h))) xAQ fun r2 h=>dE (iE h)
def Sq:=fO func130 [0,2,8,10,18,36] [(2,[0,2,10])]
def xDI{N}:∀n {x0 x1 x5 r},Ht N n x0 x1 x5=some r->RS Sq 2 [(0,vS .ro .str x0),(2,vI x1),(10,vI x5)] (AR r):=
 nI nE fun n ih=>fun h=>cE (oA h) (fun h=>bE (iE h) C7 fun r1 h=>cE h (fun h=>dS h) fun h=>uS h ih) fun h=>dS h
def Pc{N a0 a1 r}(h:KD N a0 a1=some r):AbC 130 [.val (vS .ro .str a0),.val (vI a1)] (AR r):=
 oK Sq <| uE (oA h) (xDI _)
def TH:=fO func169 [0,2,8,10,18,34] [(2,[0,2,10])]
def xDZ{N}:∀n {x0 x1 x5 r},Hp N n x0 x1 x5=some r->RS TH 2 [(0,vS .ro .int x0),(2,vI x1),(10,vI x5)] (AR r):=
 nI nE fun n ih=>fun h=>cE (oA h) (fun h=>cE (iE h) (fun h=>dS h) fun h=>uS h ih) fun h=>dS h
def xJi{N a0 a1 r}(h:P8 N a0 a1=some r):AbC 169 [.val (vS .ro .int a0),.val (vI a1)] (AR r):=
 oK TH <| uE (oA h) (xDZ _)
def TK:=fO func170 [0,2,8,10,18,36,54] [(2,[0,2,10])]
def xD0{N}:∀n {x0 x1 x5 r},Hq N n x0 x1 x5=some r->RS TK 2 [(0,vS .ro .org x0),(2,vI x1),(10,vI x5)] (AR r):=
 nI nE fun n ih=>fun h=>cE (oA h) (fun h=>cE (iE h) (fun h=>dS h) fun h=>cE (rp 1 h) (fun h=>dS h) fun h=>uS h ih) fun h=>dS h
def xJj{N a0 a1 r}(h:P9 N a0 a1=some r):AbC 170 [.val (vS .ro .org a0),.val (vI a1)] (AR r):=
 oK TK <| uE (oA h) (xD0 _)
def Sr:=fO func131 [0,2,8,10,18,40,58] [(2,[0,2,10])]
def xDJ{N}:∀n {x0 x1 x5 r},Hs N n x0 x1 x5=some r->RS Sr 2 [(0,vS .ro .row x0),(2,vI x1),(10,vI x5)] (AR r):=
 nI nE fun n ih=>fun h=>cE (oA h) (fun h=>bE (iE h) xJi fun r1 h=>cE h (fun h=>dS h) fun h=>bE (rp 2 h) xJj fun r2 h=>cE h (fun h=>dS h) fun h=>uS h ih) fun h=>dS h
def Pb{N a0 a1 r}(h:KC N a0 a1=some r):AbC 131 [.val (vS .ro .row a0),.val (vI a1)] (AR r):=
 oK Sr <| uE (oA h) (xDJ _)
def O4(q:(List Val)->Int->Option (Int)):Prop:=∀a0 a1 r,q a0 a1=some r->AbC 129 (KV a0 a1) (AR r)
def So:=fO func129 [0,2,8,10,18,36,54,72,92,114,132,150] [(2,[0,2,10])]
def xDH{N}{q0}(g0:O4 q0):∀n {x0 x1 x5 r},Hu N q0 n x0 x1 x5=some r->RS So 2 [(0,vS .ro .val x0),(2,vI x1),(10,vI x5)] (AR r):=
 nI nE fun n ih=>fun h=>cE (oA h) (fun h=>cE (iE h) (fun h=>dS h) fun h=>cE (rp 1 h) (fun h=>dS h) fun h=>cE (rp 3 h) (fun h=>dS h) fun h=>bE (rp 5 h) C7 fun r1 h=>cE h (fun h=>dS h) fun h=>bE (rp 8 h) (g0 _ _ _) fun r2 h=>cE h (fun h=>dS h) fun h=>bE (rp 11 h) Pc fun r3 h=>cE h (fun h=>dS h) fun h=>bE (rp 14 h) Pb fun r4 h=>cE h (fun h=>dS h) fun h=>uS h ih) fun h=>dS h
def xJl{N}{q0}(g0:O4 q0){a0 a1 r}(h:xAI N q0 a0 a1=some r):AbC 129 (KV a0 a1) (AR r):=
 oK So <| uE (oA h) (xDH g0 _)
def xAJ{N:Nat}:∀d,O4 (KF N d)
 |0=>fun _ _ _ h=>nE h
 |d+1=>fun _ _ _ h=>xJl (N:=N) (xAJ d) h
def xAK{N:Nat}{a0:List Val}{a1:Int}{r:Int}(h:KE N a0 a1=some r):AbC 129 (KV a0 a1) (AR r):=xAJ N _ _ r h
def xJm{N a0 a1 r}(h:M9 N a0 a1=some r):AbC 71 [.val (vV .ro a0),.val (vI a1)] (AR r):=
 oK (fO func71 [0,2,4,8,20,32,44,5]) <| bE (oA h) xAK fun r1 h=>cE h (fun h=>dE h) fun h=>bE h Pc fun r2 h=>cE h (fun h=>dE h) fun h=>bE h Pb fun r3 h=>cE h (fun h=>dE h) fun h=>dE h
def UR:=fO func72 [0,2,8,10,18,36,54,72,92,112,132,152,174,198,218,238] [(2,[0,2,10])]
def xFp{N}:∀n {x0 x1 x5 r},Hr N n x0 x1 x5=some r->RS UR 2 [(0,vS .ro .rea x0),(2,vI x1),(10,vI x5)] (AR r):=
 nI nE fun n ih=>fun h=>cE (oA h) (fun h=>cE (iE h) (fun h=>dS h) fun h=>cE (rp 1 h) (fun h=>dS h) fun h=>cE (rp 3 h) (fun h=>dS h) fun h=>bE (rp 5 h) C7 fun r1 h=>cE h (fun h=>dS h) fun h=>cE (rp 8 h) (fun h=>dS h) fun h=>cE (rp 10 h) (fun h=>dS h) fun h=>cE (rp 12 h) (fun h=>dS h) fun h=>bE (rp 14 h) C7 fun r2 h=>cE h (fun h=>dS h) fun h=>bE (rp 17 h) xAK fun r3 h=>cE h (fun h=>dS h) fun h=>bE (rp 20 h) Pc fun r4 h=>cE h (fun h=>dS h) fun h=>bE (rp 23 h) Pb fun r5 h=>cE h (fun h=>dS h) fun h=>uS h ih) fun h=>dS h
def xJk{N a0 a1 r}(h:Pa N a0 a1=some r):AbC 72 [.val (vS .ro .rea a0),.val (vI a1)] (AR r):=
 oK UR <| uE (oA h) (xFp _)
def xAH{N a0 a1 r}(h:KB N a0 a1=some r):AbC 30 [.val (.v true [.int .i64 (a0.value.kind),.int .i64 (a0.value.n),.int .i64 (a0.value.step),.str (a0.value.text),.sl .ro .val (a0.value.list),.sl .ro .str (a0.value.columns),.sl .ro .row (a0.value.rows),.sl .ro .rea a0.reads,.int .i64 a0.steps]),.val (vI a1)] (AR r):=
 oK (fO func30 [0,2,4,8,20,32,5]) <| bE (oA h) xJm fun r1 h=>cE h (fun h=>dE h) fun h=>bE h xJk fun r2 h=>cE h (fun h=>dE h) fun h=>dE h
def fk4:=fO func4 [0,2,4,6,8,10,12,18,24,26,28,30,32,34,36,38,40,42,44,46,56,66,76,86,146,156,166,176,186,226,242,248,278,288,294,13,19,29,31,37,39,47] [] [(31,[(0,.ref,false),(2,.ref,false)]),(32,[(0,.ref,false),(2,.ref,false)]),(33,[(0,.ref,false),(2,.ref,false)]),(34,[(0,.ref,false),(2,.ref,false)]),(35,[(2,.take,false)]),(38,[(0,.ref,false),(2,.ref,false)])]
set_option maxHeartbeats 1000000 in
theorem laws_FnExactEvaluate_ok{N a0 a1 a2 a3 a4 a5 r}(h:GA N a0 a1 a2 a3 a4 a5=some r):AbC 4 (Qn a0 a1 a2 a3 a4 a5) (AK r):=
 oK fk4 <| bE (oA h) xJF fun r1 h=>cE h (fun h=>dE h) fun h=>bE h xJA fun r2 h=>cE h (fun h=>dE h) fun h=>bE h xJK fun r3 h=>cE h (fun h=>dE h) fun h=>bE h xJS fun r4 h=>cE h (fun h=>dE h) fun h=>bE h NL fun r5 h=>bE h NH fun r6 h=>bE h NT fun r7 h=>bE h N4 fun r8 h=>bE h xMh fun r9 h=>bE h NL fun r10 h=>bE h NH fun r11 h=>bE h NT fun r12 h=>bE h N4 fun r13 h=>bE h Ul fun r14 h=>bE h P6 fun r15 h=>cE h (fun h=>dE h) fun h=>bE h NL fun r16 h=>bE h xI4 fun r17 h=>cE h (fun h=>dE h) fun h=>bE h NH fun r18 h=>bE h xIZ fun r19 h=>cE h (fun h=>dE h) fun h=>bE h NT fun r20 h=>bE h xAG fun r21 h=>cE h (fun h=>dE h) fun h=>bE h N4 fun r22 h=>bE h xJh fun r23 h=>cE h (fun h=>dE h) fun h=>bE h xJq fun r24 h=>bE (iE h) xJn fun r25 h=>bE (iE h) xAQ fun r26 h=>bE (iE h) xJz fun r27 h=>cE (iE h) (fun h=>dE (cb Y h)) fun h=>bE h P6 fun r28 h=>cE h (fun h=>dE h) fun h=>bE h xJu fun r29 h=>bE (iE (iE (iE (iE h)))) xAH fun r30 h=>cE h (fun h=>dE h) fun h=>cE h (fun h=>dE h) fun h=>bE h NL fun r31 h=>bE h NH fun r32 h=>bE h NT fun r33 h=>bE h N4 fun r34 h=>bE h Ul fun r35 h=>bE h P6 fun r36 h=>cE h (fun h=>dE h) fun h=>bE h xAH fun r37 h=>cE h (fun h=>dE h) fun h=>cE h (fun h=>dE h) fun h=>dE h
end Go.Ab.T
end
section
namespace Go.Ab
inductive DK (K:Nat):D->Prop where
 |int {k n} (h:(Lit.int k n).wf=true):DK K (.int k n)
 |bool (b):DK K (.bool b)
 |str {s:Str} (h:s.length<=K):DK K (.str s)
 |sl {sz rows} (h:rows.length<=K) (hr:∀r∈rows,∀x∈r,DK K x):DK K (.sl sz rows)
def DFit.dk{d:D}(h:DFit d):DK maxLen d:=by
 induction h with
 |int h=>exact .int h
 |bool b=>exact .bool b
 |str h=>exact .str h
 |sl h _ ih=>exact .sl h ih
def DK.mono{K M:Nat}(hKM:K<=M){d:D}(h:DK K d):DK M d:=by
 induction h with
 |int h=>grind [int]
 |bool b=>grind [bool]
 |str h=>grind [str]
 |sl h _ ih=>grind [sl]
theorem xC6{n:Int}:(Lit.int .i64 n).wf=true↔I64 n:=by
 show(decide (_<=n)&&decide (n<=_))=true↔_;rw [Zu,ZU,ZU];exact Iff.rfl
theorem DK.i64{K:Nat}{n:Int}:DK K (.int .i64 n)↔I64 n:=⟨fun h=>by cases h with |int h=>grind [xC6],fun h=> .int (xC6.2 h)⟩
def DK.str_iff{K:Nat}{s:Str}:DK K (.str s)↔s.length<=K:=⟨fun h=>by cases h;grind,.str⟩
def DK.sl_iff{K sz:Nat}{α:Type}{f:α->List D}{xs:List α}:DK K (.sl sz (xs.map f))↔xs.length<=K/\∀x∈xs,∀d∈f x,DK K d:=by
 constructor
 ·intro h;cases h with
  |sl h hr=>grind
 grind [sl]
def LFit{α:Type}(K:Nat)(p:α->Prop)(l:List α):Prop:=l.length<=K/\∀x∈l,p x
def Ty.Fit(K:Nat)(T:Ty)(x:T.den):Prop:=∀d∈T.toD x,DK K d
def Org.Fit(o:Org):Prop:=I64 o.cell/\I64 o.row
def Rowd.Fit(K:Nat)(r:Rowd):Prop:=LFit K I64 r.cells/\LFit K Org.Fit r.frm
def Str.Fit(K:Nat)(s:Str):Prop:=s.length<=K
def Val.Fit(K:Nat)(v:Val):Prop:=∀d∈Val.toD v,DK K d
def Exp.Fit(K:Nat)(v:Exp):Prop:=∀d∈Exp.toD v,DK K d
def Fil.Fit(K:Nat)(v:Fil):Prop:=Str.Fit K v.name/\I64 v.n
def Rea.Fit(K:Nat)(v:Rea):Prop:=I64 v.kind/\I64 v.n/\I64 v.time/\Str.Fit K v.text/\v.result.Fit K
def Bnd.Fit(K:Nat)(v:Bnd):Prop:=Str.Fit K v.name/\v.value.Fit K
def Wld.Fit(K:Nat)(v:Wld):Prop:=I64 v.clock/\I64 v.seed/\LFit K (Fil.Fit K) v.files
def xLq{K:Nat}{r:Rowd}:(∀d∈Rowd.toD r,DK K d)↔r.Fit K:=by
 simp only [Rowd.toD,Zh,Z6,or_false,forall_eq_or_imp,forall_eq,DK.sl_iff,DK.i64,Rowd.Fit,LFit,Org.Fit]
def xGq{K:Nat}{r:Fil}:Ty.Fit K .fil r↔r.Fit K:=by
 simp only [Ty.Fit,Ty.toD,Zh,Z6,or_false,forall_eq_or_imp,forall_eq,DK.str_iff,DK.i64,Fil.Fit,Str.Fit]
def xDh{K:Nat}{r:Bnd}:Ty.Fit K .bnd r↔r.Fit K:=by
 simp only [Ty.Fit,Ty.toD,Zh,forall_eq_or_imp,DK.str_iff,Bnd.Fit,Str.Fit,Val.Fit]
def xLi{K:Nat}{r:Rea}:Ty.Fit K .rea r↔r.Fit K:=by
 simp only [Ty.Fit,Ty.toD,jO,jM,Zh,forall_eq_or_imp,DK.str_iff,DK.i64,Rea.Fit,Str.Fit,Val.Fit]
theorem Val.fit_iff{K:Nat}{v:Val}:v.Fit K↔I64 v.kind/\I64 v.n/\I64 v.step/\Str.Fit K v.text/\LFit K (Val.Fit K) v.list/\LFit K (Str.Fit K) v.columns/\LFit K (Rowd.Fit K) v.rows:=by
 cases v;simp only [Val.Fit,Val.toD,Val.toDs_eq,Zh,Z6,or_false,forall_eq_or_imp,forall_eq,DK.sl_iff,DK.i64,DK.str_iff,Str.Fit,LFit,Val.kind,Val.n,Val.step,Val.text,Val.list,Val.columns,Val.rows,xLq]
theorem Exp.fit_iff{K:Nat}{v:Exp}:v.Fit K↔I64 v.kind/\I64 v.n/\Str.Fit K v.text/\LFit K (Exp.Fit K) v.args:=by
 cases v;simp only [Exp.Fit,Exp.toD,Exp.toDs_eq,Zh,Z6,or_false,forall_eq_or_imp,forall_eq,DK.sl_iff,DK.i64,DK.str_iff,Str.Fit,LFit,Exp.kind,Exp.n,Exp.text,Exp.args]
def xLM{l:List Val}{x:Val}(h:x∈l)(k n s:Int)(t:Str)(c:List Str)(r:List Rowd):SizeOf.sizeOf x<SizeOf.sizeOf (Val.mk k n s t l c r):=by
 have:=List.sizeOf_lt_of_mem h
 grind
def Val.ind{p:Val->Prop}(h:∀k n s t l c r,(∀x∈l,p x)->p (.mk k n s t l c r)):∀v,p v
 | .mk k n s t l c r=>h k n s t l c r fun x hx=>Val.ind h x
termination_by v=>SizeOf.sizeOf v
decreasing_by exact xLM hx k n s t c r
def xLL{l:List Exp}{x:Exp}(h:x∈l)(k n:Int)(t:Str):SizeOf.sizeOf x<SizeOf.sizeOf (Exp.mk k n t l):=by
 have:=List.sizeOf_lt_of_mem h
 grind
def Exp.ind{p:Exp->Prop}(h:∀k n t l,(∀x∈l,p x)->p (.mk k n t l)):∀v,p v
 | .mk k n t l=>h k n t l fun x hx=>Exp.ind h x
termination_by v=>SizeOf.sizeOf v
decreasing_by exact xLL hx k n t
def LY{n:Int}(h:DK maxLen (CV.int .i64 n).toD):I64 n:=DK.i64.1 h
def xFJ{s:Str}(h:DK maxLen (CV.str s).toD):Str.Fit maxLen s:=DK.str_iff.1 h
def LZ{T:Ty}{f:Fl}{xs:List T.den}(h:DK maxLen (CV.sl f T xs).toD):LFit maxLen (T.Fit maxLen) xs:=DK.sl_iff.1 h
theorem LFit.imp{α:Type}{K:Nat}{p q:α->Prop}{l:List α}(h:LFit K p l)(f:∀x,p x->q x):LFit K q l:=⟨h.1,fun x hx=>f x (h.2 x hx)⟩
theorem xOP{σ ρ:Type}{L:Nat->σ->Option ρ}(m:σ->Nat)(Inv:σ->Prop)(Post:ρ->Prop)
 (hstep:∀s,Inv s->(∃s',Inv s' /\m s' <m s/\∀n,L (n+1) s=L n s')\/(∃r,Post r/\∀n,L (n+1) s=some r)):
 ∀n s,Inv s->m s<n->∃r,Post r/\L n s=some r:=by
 intro n
 induction n with
 |zero=>grind
 |succ n ih=>
  grind
theorem A3{α σ ρ:Type}{L:Nat->Int->σ->Option ρ}(x0:List α)(g:List α->σ->ρ)(Inv:Nat->σ->Prop)
 (hnil:∀n s,Inv x0.length s->L (n+1) (x0.length:Nat) s=some (g [] s))
 (hcons:∀i x l s,x0.drop i=x::l->i<x0.length->x0[i]? =some x->Inv i s->
   (∃s',Inv (i+1) s' /\g (x::l) s=g l s' /\∀n,L (n+1) (i:Nat) s=L n ((i+1:Nat):Int) s')\/(∀n,L (n+1) (i:Nat) s=some (g (x::l) s))):
 ∀n i s,Inv i s->i<=x0.length->x0.length<n+i->L n (i:Nat) s=some (g (x0.drop i) s):=by
 intro n
 induction n with
 |zero=>grind
 |succ n ih=>
  intro i s hs hi hn;cases hd:x0.drop i with
  |nil=>
   have:=HI hd
   grind
  |cons x l=>
   grind [B9]
theorem AS{α:Type}{xs:List α}{i:Nat}{x:α}(h:xs[i]? =some x)(d:α):xs.getD i d=x:=by grind
theorem AM{i:Nat}{len:Nat}(h:i<len)(hl:len<=9223372036854775807):V.wrap ((i:Int)+1)=((i+1:Nat):Int):=by
 grind [AU]
def left(s:Nat)(l:Int):Int:=if(s:Int)<=l then l - s else -1
theorem CG{s:Nat}{l:Int}(h:(s:Int)<=l):left s l=l - s:=by grind [left]
theorem xKe{s:Nat}{l:Int}(h:¬(s:Int)<=l):left s l= -1:=by grind [left]
theorem Cy{s b:Nat}{F:Option Int}{R:Int->Option Int}{l:Int}(hl:s<=9223372036854775807)(h0:0<=l)(h1:l<=1048576)
 (hF:F=bif decide (V.wrap (l - (s:Int))<0) then some (-1) else R (V.wrap (l - (s:Int))))
 (hR:∀m,0<=m->m<=1048576->R m=some (left b m)):F=some (left (s+b) l):=by
 grind [AU,left]
theorem RX{s:Nat}{l:Int}(hl:s<=9223372036854775807)(h0:0<=l)(h1:l<=1048576):
 (bif decide (V.wrap (l - (s:Int))<0) then some (-1) else some (V.wrap (l - (s:Int))))=some (left s l):=by
 grind [AU,left]
theorem RW{a b:Nat}{l:Int}{x:Option Int}{R:Int->Option Int}(h0:0<=l)(h1:l<=1048576)(h:x=some (left a l))(hR:∀m,0<=m->m<=1048576->R m=some (left b m)):
 (x.bind fun r1=>bif decide (r1<0) then(some (-1):Option Int) else R r1)=some (left (a+b) l):=by
 grind [Int,left]
theorem IZ{a:Nat}{l:Int}{x:Option Int}(h:x=some (left a l)):(x.bind fun r1=>bif decide (r1<0) then(some (-1):Option Int) else some r1)=some (left a l):=by
 grind [left]
section
variable {α:Type} {d:α}
theorem JV{L:Nat->List α->Int->Int->Option Int}{sz:α->Int->Option Int}{size:α->Nat}{x0:List α}
 (hL:∀n x1 x5,L (n+1) x0 x1 x5=bif decide (x5<(x0.length:Int)) then(if(0:Int)<=x5/\x5<(x0.length:Int) then Option.bind (sz (x0.getD x5.toNat d) x1) fun r1=>bif decide (r1<0) then some (-1) else L n x0 r1 (V.wrap (x5+1)) else none) else some x1)
 (hlen:x0.length<=9223372036854775807) (hsz:∀x∈x0,∀l,0<=l->l<=1048576->sz x l=some (left (size x) l)) {n:Nat} (hn:x0.length<n) {l:Int} (h0:0<=l) (h1:l<=1048576):
 L n x0 l 0=some (left (x0.map size).sum l):=by
 have key:=A3 (L:=fun n i s=>L n x0 s i) x0 (fun l s=>left (l.map size).sum s) (fun _ s=>0<=s/\s<=1048576) (fun n s hs=>by
  grind [left])
  (fun i x r s hd hi hx hs=>by
    have hs:0<=s/\s<=1048576:=hs;have hi' :(i:Int)<(x0.length:Int):=by omega
    have hm:x∈x0:=Zy hx;by_cases hle:(size x:Int)<=s
    ·refine .inl ⟨s - size x,by omega,?_,fun n=> ?_⟩
     all_goals grind [left,jI,AM]
    ·refine .inr fun n=> ?_
     grind [left])
  n 0 l ⟨h0,h1⟩ (by omega) (by omega)
 grind
theorem xN1{L:Nat->List α->Int->Int->Option Int}{sz:α->Int->Option Int}{size:α->Nat}{x0:List α}
 (hL:∀n x1 x5,L (n+1) x0 x1 x5=bif decide (x5<(x0.length:Int)) then(if(0:Int)<=x5/\x5<(x0.length:Int) then Option.bind (sz (x0.getD x5.toNat d) x1) fun r1=>bif decide (r1<0) then some (-1) else L n x0 r1 (V.wrap (x5+1)) else none) else some x1)
 (hlen:x0.length<=9223372036854775807) (hsz:∀x∈x0,∀l,0<=l->l<=1048576->∃r,sz x l=some r/\((size x:Int)<=l->r=l - size x)/\(¬(size x:Int)<=l->r<0)) {n:Nat} (hn:x0.length<n) {l:Int} (h0:0<=l) (h1:l<=1048576):
 L n x0 l 0=some (left (x0.map size).sum l):=by
 have key:=A3 (L:=fun n i s=>L n x0 s i) x0 (fun l s=>left (l.map size).sum s) (fun _ s=>0<=s/\s<=1048576) (fun n s hs=>by
  grind [left])
  (fun i x r s hd hi hx hs=>by
    have hs:0<=s/\s<=1048576:=hs;have hi' :(i:Int)<(x0.length:Int):=by omega
    have hm:x∈x0:=Zy hx;obtain⟨q,hq,hq1,hq2⟩:=hsz x hm s hs.1 hs.2;by_cases hle:(size x:Int)<=s
    ·refine .inl ⟨s - size x,by omega,?_,fun n=> ?_⟩
     all_goals grind [left,AM]
    grind [jI,left])
  n 0 l ⟨h0,h1⟩ (by omega) (by omega)
 grind
theorem EZ{L:Nat->List α->List α->Int->Option (List α)}{to:α->Option α}{re:α->α}{x0:List α}
 (hL:∀n x3 x4,L (n+1) x0 x3 x4=bif decide (x4<(x0.length:Int)) then(if(0:Int)<=x4/\x4<(x0.length:Int) then Option.bind (to (x0.getD x4.toNat d)) fun r1=>(if(0:Int)<=x4/\x4<(x3.length:Int) then L n x0 (x3.set x4.toNat (re r1)) (V.wrap (x4+1)) else none) else none) else some x3)
 (hlen:x0.length<=9223372036854775807) (hto:∀x∈x0,∃y,to x=some y/\re y=x) {n:Nat} (hn:x0.length<n):
 L n x0 (List.replicate x0.length d) 0=some x0:=by
 have key:=A3 (L:=fun n i s=>L n x0 s i) x0 (fun _ _=>x0) (fun i s=>s=x0.take i++List.replicate (x0.length - i) d) (fun n s hs=>by
  grind)
  (fun i x r s hd hi hx hs=>by
    have hs:s=x0.take i++List.replicate (x0.length - i) d:=hs;have hi' :(i:Int)<(x0.length:Int):=by omega
    have hm:x∈x0:=Zy hx;obtain⟨y,h1,h2⟩:=hto x hm;have hsl:s.length=x0.length:=by grind
    grind [List.take_add_one,jI,AS,AM])
  n 0 (List.replicate x0.length d) (by simp) (by omega) (by omega)
 grind
theorem D5{L:Nat->Int->Option Bool}{x0:List α}(hend:∀n,L (n+1) (x0.length:Nat)=some true)
 (hcons:∀(i:Nat) x n,i<x0.length->x0[i]? =some x->x∈x0->L (n+1) (i:Nat)=L n ((i+1:Nat):Int)) {n:Nat} (hn:x0.length<n):L n 0=some true:=by
 have key:=A3 (σ:=Unit) (L:=fun n i _=>L n i) x0 (fun _ _=>true) (fun _ _=>True) (fun n _ _=>hend n)
  (fun i x r s hd hi hx _=> .inl ⟨(),trivial,rfl,fun n=>hcons i x n hi hx (Zy hx)⟩) n 0 () trivial (by omega) (by omega)
 grind
end
theorem vk(a b c:Int)(t:Str)(l:List Val)(k:List Str)(r:List Rowd):(Val.mk a b c t l k r).kind=a:=rfl
theorem vn(a b c:Int)(t:Str)(l:List Val)(k:List Str)(r:List Rowd):(Val.mk a b c t l k r).n=b:=rfl
theorem vs(a b c:Int)(t:Str)(l:List Val)(k:List Str)(r:List Rowd):(Val.mk a b c t l k r).step=c:=rfl
theorem vt(a b c:Int)(t:Str)(l:List Val)(k:List Str)(r:List Rowd):(Val.mk a b c t l k r).text=t:=rfl
theorem vl(a b c:Int)(t:Str)(l:List Val)(k:List Str)(r:List Rowd):(Val.mk a b c t l k r).list=l:=rfl
theorem vc(a b c:Int)(t:Str)(l:List Val)(k:List Str)(r:List Rowd):(Val.mk a b c t l k r).columns=k:=rfl
theorem vr(a b c:Int)(t:Str)(l:List Val)(k:List Str)(r:List Rowd):(Val.mk a b c t l k r).rows=r:=rfl
theorem ek(a b:Int)(t:Str)(l:List Exp):(Exp.mk a b t l).kind=a:=rfl
theorem en(a b:Int)(t:Str)(l:List Exp):(Exp.mk a b t l).n=b:=rfl
theorem et(a b:Int)(t:Str)(l:List Exp):(Exp.mk a b t l).text=t:=rfl
theorem ea(a b:Int)(t:Str)(l:List Exp):(Exp.mk a b t l).args=l:=rfl
def Fil.size(f:Fil):Nat:=f.name.length
def Wld.size(w:Wld):Nat:=w.files.length+(w.files.map Fil.size).sum
mutual
def Exp.size:Exp->Nat
 | .mk _ _ t a=>t.length+(a.length+Exp.sizes a)
def Exp.sizes:List Exp->Nat
 | []=>0
 |x::r=>Exp.size x+Exp.sizes r
end
theorem Exp.sizes_eq(l:List Exp):Exp.sizes l=(l.map Exp.size).sum:=by
 induction l with
 |nil=>rfl
 |cons x l ih=>grind [Exp.sizes]
def Rowd.size(r:Rowd):Nat:=r.cells.length+r.frm.length
mutual
def Val.size:Val->Nat
 | .mk _ _ _ t l c r=>t.length+(l.length+Val.sizes l)+(c.length+(c.map length).sum)+(r.length+(r.map Rowd.size).sum)
def Val.sizes:List Val->Nat
 | []=>0
 |x::r=>Val.size x+Val.sizes r
end
theorem Val.sizes_eq(l:List Val):Val.sizes l=(l.map Val.size).sum:=by
 induction l with
 |nil=>rfl
 |cons x l ih=>grind [Val.sizes]
theorem Ie{α:Type}{f:α->Nat}{l:List α}{x:α}(h:x∈l):f x<=(l.map f).sum:=by
 induction l with
 |nil=>cases h
 |cons a l ih=>
  grind
theorem Exp.size_eq(e:Exp):e.size=e.text.length+(e.args.length+(e.args.map Exp.size).sum):=by
 cases e;grind [Exp.size,Exp.sizes_eq,Exp.text,Exp.args]
theorem Val.size_eq(e:Val):e.size=e.text.length+(e.list.length+(e.list.map Val.size).sum)+(e.columns.length+(e.columns.map length).sum)+(e.rows.length+(e.rows.map Rowd.size).sum):=by
 cases e;grind [Val.size,Val.sizes_eq,Val.text,Val.list,Val.columns,Val.rows]
def GJ{α:Type}{K M:Nat}{p q:α->Prop}{f:α->Nat}{l:List α}(h:LFit M p l)(hs:l.length+(l.map f).sum<=K)(hpq:∀x∈l,p x->f x<=K->q x):LFit K q l:=
 ⟨by omega,fun x hx=>hpq x hx (h.2 x hx) (by grind [Ie])⟩
def Exp.fit_size{K M:Nat}:∀e:Exp,e.Fit M->e.size<=K->e.Fit K:=by
 refine Exp.ind fun k n t l ih h hs=> ?_;rw [Exp.fit_iff] at h ⊢;obtain⟨h1,h2,h3,h4⟩:=h;have hs:=hs;rw [Exp.size_eq] at hs;exact⟨h1,h2,show length _<=K from by omega,GJ h4 (by omega) fun x hx=>ih x hx⟩
def Rowd.fit_size{K M:Nat}{r:Rowd}(h:r.Fit M)(hs:r.size<=K):r.Fit K:=by
 unfold Rowd.size at hs;exact⟨⟨by omega,h.1.2⟩,⟨by omega,h.2.2⟩⟩
def Val.fit_size{K M:Nat}:∀e:Val,e.Fit M->e.size<=K->e.Fit K:=by
 refine Val.ind fun k n s t l c r ih h hs=> ?_;rw [Val.fit_iff] at h ⊢;obtain⟨h1,h2,h3,h4,h5,h6,h7⟩:=h;have hs:=hs;rw [Val.size_eq] at hs;exact⟨h1,h2,h3,show length _<=K from by omega,GJ h5 (by omega) fun x hx=>ih x hx,GJ (f:=length) h6 (by omega) fun x hx _ h=>h,GJ (f:=Rowd.size) h7 (by omega) fun x hx=>Rowd.fit_size⟩
def Fil.fit_size{K M:Nat}{r:Fil}(h:r.Fit M)(hs:r.size<=K):r.Fit K:=⟨hs,h.2⟩
def Wld.fit_size{K M:Nat}{r:Wld}(h:r.Fit M)(hs:r.size<=K):r.Fit K:=⟨h.1,h.2.1,GJ (f:=Fil.size) h.2.2 hs fun x hx=>Fil.fit_size⟩
def A2(n:Nat):Big fun N=>n<N:=⟨n+1,fun N h=>by omega⟩
def GK{α:Type}{Lm:Nat->List α->Int->Int->Option (Int×List α)}{Lh:Nat->List α->Int->Int->Option Int}{c:α->Nat}{x0:List α}{k0 B:Int}{n:Nat}
 (hm:∀n xs k,xs.length=x0.length->Lm (n+1) xs k (xs.length:Nat)=some (k,xs)) (hh:∀n ys k,ys.length=x0.length->Lh (n+1) ys k (ys.length:Nat)=some k)
 (hx:∀x∈x0,∀k,k0<=k->k+c x<=B->∃y,(∀n xs (i:Nat),xs.length=x0.length->xs[i]? =some x->Lm (n+1) xs k i=Lm n (xs.set i y) (k+c x) ((i+1:Nat):Int))/\
   (∀n ys (i:Nat),ys.length=x0.length->ys[i]? =some y->Lh (n+1) ys k i=Lh n ys (k+c x) ((i+1:Nat):Int)))
 (hk:k0+(x0.map c).sum<=B) (hn:x0.length<n):∃ys,ys.length=x0.length/\Lm n x0 k0 0=some (k0+(x0.map c).sum,ys)/\Lh n ys k0 0=some (k0+(x0.map c).sum):=by
 have key:∀(l pre:List α) (k:Int) (n:Nat),pre.length+l.length=x0.length->(∀x∈l,x∈x0)->k0<=k->k+(l.map c).sum<=B->l.length<n->
  ∃ys,ys.length=l.length/\Lm n (pre++l) k (pre.length:Nat)=some (k+(l.map c).sum,pre++ys)/\∀pre' :List α,pre'.length=pre.length->Lh n (pre' ++ys) k (pre.length:Nat)=some (k+(l.map c).sum):=by
  intro l
  induction l with
  |nil=>
   intro pre k n hl hmem h0 hB hn;obtain⟨n,rfl⟩:∃m,n=m+1:=⟨n - 1,by grind⟩
   grind
  |cons x l ih=>
   intro pre k n hl hmem h0 hB hn;obtain⟨n,rfl⟩:∃m,n=m+1:=⟨n - 1,by grind⟩;simp only [ZX,List.sum_cons,jC] at hB hl hn;obtain⟨y,h1,h2⟩:=hx x (hmem x Zp) k h0 (by omega);obtain⟨ys,g1,g2,g3⟩:=ih (pre++ [y]) (k+c x) n (by grind) (fun z hz=>hmem z (Zr _ hz)) (by omega) (by omega) (by omega);refine⟨y::ys,by grind,?_,fun pre' hp=> ?_⟩
   ·rw [h1 n (pre++x::l) pre.length (by grind) (by simp)];rw [List.set_append,Za (by omega),Nat.sub_self,List.set_cons_zero];have e:((pre.length+1:Nat):Int)=((pre++ [y]).length:Nat):=by simp
    rw [e,show pre++y::l=(pre++ [y])++l from by simp,g2];simp only [ZX,List.sum_cons,Z5,jO,jM]
    grind
   ·rw [h2 n (pre' ++y::ys) pre.length (by grind) (by rw [<-hp];simp)];have e:((pre.length+1:Nat):Int)=((pre++ [y]).length:Nat):=by simp
    rw [e,show pre' ++y::ys=(pre' ++ [y])++ys from by simp,g3 (pre' ++ [y]) (by grind)];simp only [ZX,List.sum_cons]
    grind
 obtain⟨ys,h1,h2,h3⟩:=key x0 [] k0 n (by simp) (fun x h=>h) (Int.le_refl _) hk hn
 grind
def OX{α:Type}{f g:α->Nat}{l:List α}{a:Nat}(h:∀x∈l,f x<=a+a*g x):(l.map f).sum<=a*(l.length+(l.map g).sum):=by
 induction l with
 |nil=>simp
 |cons x l ih=>
  grind [Nat.mul_add]
def Li{α:Type}{xs:List α}{i:Nat}(h:i<xs.length)(y d:α):(xs.set i y).getD i d=y:=by grind
def xNZ{N:Nat}{f:Fil}(h:f.Fit maxLen){l:Int}(h0:0<=l)(h1:l<=1048576):Mx N f l=some (left f.size l):=by
 exact RX h.1 h0 h1
def xNY{N:Nat}{x0:List Fil}(h:LFit maxLen (Fil.Fit maxLen) x0)(hn:x0.length<N){l:Int}(h0:0<=l)(h1:l<=1048576):Pz N x0 l=some (left (x0.length+(x0.map Fil.size).sum) l):=
 Cy h.1 h0 h1 rfl fun m hm0 hm1=>JV (L:=fun n x0 x1 x5=>My N n x0 x1 x5) (d:=Ty.fil.dflt) (sz:=Mx N) (fun _ _ _=>rfl) h.1 (fun x hx l h0 h1=>xNZ (h.2 x hx) h0 h1) hn hm0 hm1
def xCV{N:Nat}{w:Wld}(h:w.Fit maxLen)(hn:w.files.length<N){l:Int}(h0:0<=l)(h1:l<=1048576):QF N w l=some (left w.size l):=IZ (xNY h.2.2 hn h0 h1)
def xOp{N:Nat}{x0:List Fil}(hl:x0.length<=1048576)(hn:x0.length<N):NM N x0=some x0:=by
 unfold NM;rw [Zt ⟨by omega,rfl,by grind [Lim]⟩];exact EZ (L:=fun n x0 x3 x4=>NN N n x0 x3 x4) (to:=QI N) (re:=fun r=>r) (fun _ _ _=>rfl) (by omega) (fun x hx=>⟨x,rfl,rfl⟩) hn
def xOz{N:Nat}{w:Wld}(hl:w.files.length<=1048576)(hn:w.files.length<N):GE N w=some w:=by
 unfold GE;rw [xOp hl hn];rfl
theorem xGa(N:Nat)(f:Fil):MX N f f=some true:=by simp [MX]
theorem xF9{N:Nat}{x0:List Fil}(hl:x0.length<=9223372036854775807)(hn:x0.length<N):MY N x0 x0=some true:=by
 unfold MY;rw [Ye,jF]
 exact D5 (L:=fun n i=>Hh N n x0 x0 i) (fun n=>by simp [Hh]) (fun i x n hi hx hm=>by
  grind [Hh,xGa,AM]) hn
def xGk{N:Nat}{w:Wld}(hl:w.files.length<=9223372036854775807)(hn:w.files.length<N):M8 N w w=some true:=by
 grind [M8,xF9]
def xNW:∀e:Exp,e.Fit maxLen->Big2 fun N d=>∀l,0<=l->l<=1048576->(Cm N d).c0 e l=some (left e.size l):=by
 refine Exp.ind fun k n t a ih h=> ?_;obtain⟨h1,h2,h3,h4⟩:=Exp.fit_iff.1 h;refine Big2.succ (Big2.succ ?_);refine((Big2.list fun x hx=>ih x hx (h4.2 x hx)).and (A2 a.length).two).imp fun N d ⟨hx,hn⟩ l h0 l1=> ?_;rw [Exp.size_eq]
 exact Cy h3 h0 l1 rfl fun m m0 m1=>IZ (Cy h4.1 m0 m1 rfl fun m m0 m1=>
  JV (L:=fun n x0 x1 x5=>Mw N (Cm N d).c0 (Cm N d).c1 n x0 x1 x5) (d:=Dx) (sz:=(Cm N d).c0)
   (fun _ _ _=>rfl) h4.1 (fun x hxm l h0 h1=>hx x hxm l h0 h1) hn m0 m1)
def xOn{K:Nat}(hK:K<=1048576):∀e:Exp,e.Fit K->Big2 fun N d=>(By N d).c4 e=some e:=by
 refine Exp.ind fun k n t a ih h=> ?_;obtain⟨h1,h2,h3,h4⟩:=Exp.fit_iff.1 h;refine Big2.succ (Big2.succ ?_);refine((Big2.list fun x hx=>ih x hx (h4.2 x hx)).and (A2 a.length).two).imp fun N d ⟨hx,hn⟩=> ?_;have hl:a.length<=K:=h4.1;have key:(By N (d+1)).c5 a=some a:=by
  show NJ _ _ _ a=_;unfold NJ;rw [Zt ⟨by omega,rfl,by grind [Lim]⟩];exact EZ (L:=fun n x0 x3 x4=>NI N (By N d).c4 (By N d).c5 n x0 x3 x4) (to:=(By N d).c4) (re:=Exp.re) (fun _ _ _=>rfl) (by omega) (fun x hxm=>⟨x,hx x hxm,Exp.re_eq x⟩) hn
 show NK N (By N (d+1)).c4 (By N (d+1)).c5 _=_;unfold NK;show Option.bind ((By N (d+1)).c5 a) _=_;rw [key];rfl
def xF7{K:Nat}(hK:K<=9223372036854775807):∀e:Exp,e.Fit K->Big2 fun N d=>(CT N d).c22 e e=some true:=by
 refine Exp.ind fun k n t a ih h=> ?_;obtain⟨h1,h2,h3,h4⟩:=Exp.fit_iff.1 h;refine Big2.succ (Big2.succ ?_);refine((Big2.list fun x hx=>ih x hx (h4.2 x hx)).and (A2 a.length).two).imp fun N d ⟨hx,hn⟩=> ?_;have hl:a.length<=K:=h4.1;have key:(CT N (d+1)).c23 a a=some true:=by
  show MV _ _ _ a a=_;unfold MV;rw [Ye,jF]
  exact D5 (L:=fun n i=>Hg N (CT N d).c22 (CT N d).c23 n a a i) (fun n=>by simp [Hg]) (fun i x n hi hxi hm=>by
   grind [Hg,AM]) hn
 show MW N (CT N (d+1)).c22 (CT N (d+1)).c23 _ _=_
 grind [MW,Exp.args]
def xNX{e:Exp}(h:e.Fit maxLen):Big fun N=>Py N e 1048576=some (left e.size 1048576):=(xNW e h).diag.imp fun N h=>h _ (by omega) (by omega)
def xOo{e:Exp}(h:e.Fit 1048576):Big fun N=>IX N e=some e:=(xOn (by omega) e h).diag
def xF8{e:Exp}{K:Nat}(h:e.Fit K)(hK:K<=9223372036854775807):Big fun N=>P4 N e e=some true:=(xF7 hK e h).diag
def GI(c:UInt8):Bool:=decide ((c.toNat:Int)>=97)&&decide ((c.toNat:Int)<=122)
def F9(c:UInt8):Bool:=decide ((c.toNat:Int)>=48)&&decide ((c.toNat:Int)<=57)
def C9:List UInt8->Bool->Bool
 | [],_=>true
 |x::r,f=>(GI x||(!f&&F9 x))&&C9 r false
theorem xNk{N:Nat}{s:Str}(hl:s.length<=9223372036854775807)(hn:s.length<N):RL N s=some (C9 s true&&decide ((s.length:Int)>0)):=
 A3 (L:=fun n i _=>D1 N n s i) s (fun l f=>C9 l f&&decide ((s.length:Int)>0)) (fun i f=>f=(i==0)) (fun n _ _=>by simp [D1,C9])
  (fun i x l f hd hi hx hf=>by
    have hi' :(i:Int)<(s.length:Int):=by omega
    have hi0:((i:Int)==0)=f:=by rw [hf];grind
    by_cases h1:(GI x||(!f&&F9 x))=true
    ·refine .inl ⟨false,by simp,by grind [C9],fun n=> ?_⟩
     grind [D1,AM,GI,F9]
    ·refine .inr fun n=> ?_;have h1:=Bool.eq_false_iff.2 h1;simp only [D1,Zz hi',jT,jI,AS hx,AM hi hl,hi0,C9,h1,ZY]
     grind [GI,F9]) N 0 true rfl (by omega) (by omega)
theorem Dq(N:Nat)(a b c:Int):C5 N a b c=some (decide (b<=a)&&decide (a<=c)):=by
 grind [C5]
theorem FN(N:Nat)(a b c:Int):D0 N a b c=some (decide (b<=a)&&decide (a<=c)):=by
 grind [D0]
theorem xIa{N:Nat}{s:Str}(hl:s.length<=9223372036854775807)(hn:s.length<N):PV N s=some (C9 s true&&(decide ((1:Int)<=s.length)&&decide ((s.length:Int)<=8))):=
 A3 (L:=fun n i _=>Dj N n s i) s (fun l f=>C9 l f&&(decide ((1:Int)<=s.length)&&decide ((s.length:Int)<=8))) (fun i f=>f=(i==0)) (fun n _ _=>by grind [Dj,C9,Dq])
  (fun i x l f hd hi hx hf=>by
    have hi' :(i:Int)<(s.length:Int):=by omega
    have hi0:((i:Int)==0)=f:=by rw [hf];grind
    have e1:decide ((x.toNat:Int)<48)= !decide ((x.toNat:Int)>=48):=by grind
    have e2:decide ((x.toNat:Int)>57)= !decide ((x.toNat:Int)<=57):=by grind
    by_cases h1:(GI x||(!f&&F9 x))=true
    ·refine .inl ⟨false,by simp,by grind [C9],fun n=> ?_⟩
     grind [Dj,AM,GI,F9]
    ·refine .inr fun n=> ?_;have h1:=Bool.eq_false_iff.2 h1;simp only [Dj,Zz hi',jT,jI,AS hx,AM hi hl,hi0,e1,e2,C9,h1,ZY]
     grind [GI,F9]) N 0 true rfl (by omega) (by omega)
def I9:List Str:=[[108,101,116],[105,110],[105,102],[116,104,101,110],[101,108,115,101],[102,111,114],[100,111],[108,101,110],[115,117,109],[116,97,107,101],[115,107,105,112],[114,97,110,103,101],[110,116,104],[119,104,101,114,101],[107,101,101,112],[97,100,100],[103,114,111,117,112],[106,111,105,110],[99,111,108,117,109,110],[114,111,119,115],[99,108,111,99,107],[99,104,97,110,99,101],[102,105,108,101],[116,97,98,108,101]]
theorem xCv{N:Nat}{xs:List Str}{s:Str}(hl:xs.length<=9223372036854775807)(hn:xs.length<N):OL N xs s=some (xs.any (· ==s)):=
 A3 (σ:=Unit) (L:=fun n i _=>Gl N n xs s i) xs (fun l _=>l.any (· ==s)) (fun _ _=>True) (fun n _ _=>by simp [Gl])
  (fun i x l _ hd hi hx _=>by
    have hi' :(i:Int)<(xs.length:Int):=by omega
    cases h1:x==s
    ·refine .inl ⟨(),trivial,by grind,fun n=> ?_⟩
     grind [Gl,AM]
    grind [Gl]) N 0 () trivial (by omega) (by omega)
def I8(s:Str):Bool:=I9.any (· ==s)
theorem xMr{N:Nat}{s:Str}(hn:24<N):Nv N s=some (I8 s):=by
 unfold Nv RK;rw [jS,show([[108,101,116],[105,110],[105,102],[116,104,101,110],[101,108,115,101],[102,111,114],[100,111],[108,101,110],[115,117,109],[116,97,107,101],[115,107,105,112],[114,97,110,103,101],[110,116,104],[119,104,101,114,101],[107,101,101,112],[97,100,100],[103,114,111,117,112],[106,111,105,110],[99,111,108,117,109,110],[114,111,119,115],[99,108,111,99,107],[99,104,97,110,99,101],[102,105,108,101],[116,97,98,108,101]]:List Str)=I9 from rfl,xCv (by decide) hn]
 rfl
theorem xHq(N:Nat)(s:Str):Lu N s=some (I8 s):=by
 by_cases h:s∈I9
 ·have h' :I8 s=true:=Yo.2 ⟨s,h,by simp⟩;rw [h'];simp only [I9,Zh,Z6,or_false] at h;rcases h with h|h|h|h|h|h|h|h|h|h|h|h|h|h|h|h|h|h|h|h|h|h|h|h <;>subst h <;>rfl
 ·have h' :I8 s=false:=by
   grind [I8]
  rw [h'];have hne:∀x∈I9,(s==x)=false:=by
   grind
  simp only [I9,Zh,Z6,or_false,forall_eq_or_imp,forall_eq] at hne
  grind [Lu,Fd]
def CY(s:Str):Bool:=C9 s true&&(decide ((1:Int)<=s.length)&&decide ((s.length:Int)<=8))&& !I8 s
theorem PL{N:Nat}{s:Str}(hl:s.length<=9223372036854775807)(hn:s.length<N):Da N s=some (CY s):=by
 grind [Da,CY,xIa,xHq]
theorem Qu{N:Nat}{s:Str}(hl:s.length<=9223372036854775807)(hn:s.length<N)(hn2:24<N):FJ N s=some (CY s):=by
 grind [FJ,CY,xNk,xMr]
def N5{s:Nat}{l:Int}(h:¬left s l<0):(s:Int)<=l:=by grind [left]
def xGp{a0:Exp}(f0:∀z∈ [CV.int .i64 (Exp.kind a0),.int .i64 (Exp.n a0),.str (Exp.text a0),.sl .ro .exp (Exp.args a0)],DFit z.toD):a0.Fit maxLen:=by
 have f:=fun z hz=>(f0 z hz).dk;simp only [Zh,Z6,or_false,forall_eq_or_imp,forall_eq] at f;obtain⟨h1,h2,h3,h4⟩:=f;exact Exp.fit_iff.2 ⟨LY h1,LY h2,xFJ h3,LZ h4⟩
def Bj:List Fil->Str->Int×Bool
 | [],_=>(0,false)
 |x::r,s=>bif x.name==s then(x.n,true) else Bj r s
def xMi{N:Nat}{w:Wld}{s:Str}(hl:w.files.length<=9223372036854775807)(hn:w.files.length<N):Qp N w s=some (Bj w.files s):=
 A3 (σ:=Unit) (L:=fun n i _=>G8 N n s i w) w.files (fun l _=>Bj l s) (fun _ _=>True) (fun n _ _=>by simp [G8,Bj])
  (fun i x l _ hd hi hx _=>by
    have hi' :(i:Int)<(w.files.length:Int):=by omega
    cases h1:x.name==s
    ·refine .inl ⟨(),trivial,by grind [Bj],fun n=> ?_⟩
     grind [G8,AM]
    grind [G8,Bj]) N 0 () trivial (by omega) (by omega)
def xHl{N:Nat}{w:Wld}{s:Str}(hl:w.files.length<=9223372036854775807)(hn:w.files.length<N):PG N w s=some (Bj w.files s):=
 A3 (σ:=Unit) (L:=fun n i _=>Fg N n s w.files w.files.length i) w.files (fun l _=>Bj l s) (fun _ _=>True) (fun n _ _=>by simp [Fg,Bj])
  (fun i x l _ hd hi hx _=>by
    have hi' :(i:Int)<(w.files.length:Int):=by omega
    cases h1:x.name==s
    ·refine .inl ⟨(),trivial,by grind [Bj],fun n=> ?_⟩
     grind [Fg,AM]
    grind [Fg,Bj]) N 0 () trivial (by omega) (by omega)
def xOS{a0:Wld}(f0:∀z∈ [CV.int .i64 (Wld.clock a0),.int .i64 (Wld.seed a0),.sl .ro .fil (Wld.files a0)],DFit z.toD):a0.Fit maxLen:=by
 have f:=fun z hz=>(f0 z hz).dk;simp only [Zh,Z6,or_false,forall_eq_or_imp,forall_eq] at f;obtain⟨h1,h2,h3⟩:=f;exact⟨LY h1,LY h2,(LZ h3).imp fun x=>xGq.1⟩
def AZ(n:Int):Bool:=decide ((-1000000000:Int)<=n)&&decide (n<=1000000000)
theorem Cx(N:Nat)(n:Int):Ca N n=some (AZ n):=by grind [Ca,FN,AZ]
theorem DN(N:Nat)(n:Int):CR N n=some (AZ n):=by grind [CR,Dq,AZ]
theorem xOW{i len:Nat}(h0:i≠0)(h:i<len)(hl:len<=9223372036854775807):IntKind.i64.wrap ((i:Int) - 1)=((i - 1:Nat):Int):=by
 grind [AU]
def DR{N:Nat}(hN:274877906944<N){k:Int}(h0:0<=k)(h1:k<=137438953472):∃t,Bx N k=some t:=by
 unfold Bx;cases decide (k<=0)
 ·rw [jF]
  obtain⟨r,_,hr⟩:=xOP (L:=fun n (s:Int×Str)=>IQ N n s.1 s.2) (fun s=>s.1.toNat) (fun s=>0<=s.1/\(s.2.length:Int)+s.1<=137438953472) (fun _=>True) (fun s hs=>by
   obtain⟨x,t⟩:=s;obtain⟨g0,g1⟩:=hs;have g0:0<=x:=g0;have g1:(t.length:Int)+x<=137438953472:=g1;by_cases hx:x>0
   ·have hq:Int.tdiv x 10=x / 10:=Int.tdiv_eq_ediv_of_nonneg g0;refine .inl ⟨(IntKind.i64.wrap (Int.tdiv x 10),(List.map (fun n=>UInt8.ofNat (toNat n)) [(IntKind.u8.wrap ((IntKind.i64.wrap (48+(Int.tmod x 10)))))])++t),?_,?_,fun n=> ?_⟩
    all_goals grind [AU,IQ,Lim]
   ·refine .inr ⟨[109]++t,trivial,fun n=> ?_⟩
    grind [IQ,Lim]) N (k,[]) ⟨h0,by grind⟩ (by grind)
  grind
 grind
def Eb(_:Fil):Nat:=2
theorem SG(xs:List Fil):(xs.map Eb).sum=2*xs.length:=by
 induction xs with
 |nil=>rfl
 |cons x l ih=>grind [Eb]
def xN0{N:Nat}{x0:List Int}(h:x0.length<=9223372036854775807){l:Int}(h0:0<=l)(h1:l<=1048576):QA N x0 l=some (left x0.length l):=RX h h0 h1
def xN2{N:Nat}{x0:List Org}(h:x0.length<=9223372036854775807){l:Int}(h0:0<=l)(h1:l<=1048576):QB N x0 l=some (left x0.length l):=RX h h0 h1
def xN6{N:Nat}{r:Rowd}(h:r.Fit maxLen){l:Int}(h0:0<=l)(h1:l<=1048576):NB N r l=some (left r.size l):=
 RW h0 h1 (xN0 h.1.1 h0 h1) fun m m0 m1=>IZ (xN2 h.2.1 m0 m1)
def xN5{N:Nat}{x0:List Rowd}(h:LFit maxLen (Rowd.Fit maxLen) x0)(hn:x0.length<N){l:Int}(h0:0<=l)(h1:l<=1048576):QD N x0 l=some (left (x0.length+(x0.map Rowd.size).sum) l):=
 Cy h.1 h0 h1 rfl fun m hm0 hm1=>JV (L:=fun n x0 x1 x5=>NC N n x0 x1 x5) (d:=Dr) (sz:=NB N) (fun _ _ _=>rfl) h.1 (fun x hx l h0 h1=>xN6 (h.2 x hx) h0 h1) hn hm0 hm1
def xN7{N:Nat}{x0:List Str}(h:LFit maxLen (Str.Fit maxLen) x0)(hn:x0.length<N){l:Int}(h0:0<=l)(h1:l<=1048576):QE N x0 l=some (left (x0.length+(x0.map length).sum) l):=
 Cy h.1 h0 h1 rfl fun m hm0 hm1=>xN1 (L:=fun n x0 x1 x5=>ND N n x0 x1 x5) (d:=Ds) (sz:=fun s l=>some (V.wrap (l - (length s:Int)))) (size:=length) (fun _ _ _=>rfl) h.1
  (fun x hx l h0 h1=>by
    have hx:x.length<=9223372036854775807:=h.2 x hx
    grind [AU]) hn hm0 hm1
def xN8:∀v:Val,v.Fit maxLen->Big2 fun N d=>∀l,0<=l->l<=1048576->(Cn N d).c2 v l=some (left v.size l):=by
 refine Val.ind fun k n s t a c r ih h=> ?_;obtain⟨h1,h2,h3,h4,h5,h6,h7⟩:=Val.fit_iff.1 h;refine Big2.succ (Big2.succ ?_);refine((Big2.list fun x hx=>ih x hx (h5.2 x hx)).and ((A2 a.length).and ((A2 c.length).and (A2 r.length))).two).imp fun N d ⟨hx,hn,hc,hr⟩ l h0 l1=> ?_;have e:(Val.mk k n s t a c r).size=t.length+((a.length+(a.map Val.size).sum)+((c.length+(c.map length).sum)+(r.length+(r.map Rowd.size).sum))):=by grind [Val.size_eq,Val.text,Val.list,Val.columns,Val.rows]
 rw [e]
 exact Cy h4 h0 l1 rfl fun m m0 m1=>RW m0 m1 (Cy h5.1 m0 m1 rfl fun m m0 m1=>
  JV (L:=fun n x0 x1 x5=>NF N (Cn N d).c2 (Cn N d).c3 n x0 x1 x5) (d:=Dv) (sz:=(Cn N d).c2)
   (fun _ _ _=>rfl) h5.1 (fun x hxm l h0 h1=>hx x hxm l h0 h1) hn m0 m1) fun m m0 m1=>RW m0 m1 (xN7 h6 hc m0 m1) fun m m0 m1=>IZ (xN5 h7 hr m0 m1)
def xCU{v:Val}(h:v.Fit maxLen):Big fun N=>∀l,0<=l->l<=1048576->NE N v l=some (left v.size l):=(xN8 v h).diag
def xOq{N:Nat}{x0:List Int}(hl:x0.length<=1048576)(hn:x0.length<N):NO N x0=some x0:=by
 unfold NO;rw [Zt ⟨by omega,rfl,by grind [Lim]⟩];exact EZ (L:=fun n x0 x3 x4=>NP N n x0 x3 x4) (to:=some) (re:=fun r=>r) (fun _ _ _=>rfl) (by omega) (fun x hx=>⟨x,rfl,rfl⟩) hn
def xOw{N:Nat}{x0:List Str}(hl:x0.length<=1048576)(hn:x0.length<N):NY N x0=some x0:=by
 unfold NY;rw [Zt ⟨by omega,rfl,by grind [Lim]⟩];exact EZ (L:=fun n x0 x3 x4=>NZ N n x0 x3 x4) (to:=some) (re:=fun r=>r) (fun _ _ _=>rfl) (by omega) (fun x hx=>⟨x,rfl,rfl⟩) hn
def xOr{N:Nat}{x0:List Org}(hl:x0.length<=1048576)(hn:x0.length<N):NQ N x0=some x0:=by
 unfold NQ;rw [Zt ⟨by omega,rfl,by grind [Lim]⟩];exact EZ (L:=fun n x0 x3 x4=>NR N n x0 x3 x4) (to:=QJ N) (re:=fun r=>r) (fun _ _ _=>rfl) (by omega) (fun x hx=>⟨x,rfl,rfl⟩) hn
def xOv{N:Nat}{r:Rowd}(h:r.Fit 1048576)(hN:1048576<N):KY N r=some r:=by
 have h1:r.cells.length<=1048576:=h.1.1;have h2:r.frm.length<=1048576:=h.2.1;unfold KY;rw [xOq h1 (by omega),xOr h2 (by omega)];rfl
def xOu{N:Nat}{x0:List Rowd}(h:LFit 1048576 (Rowd.Fit 1048576) x0)(hN:1048576<N):NV N x0=some x0:=by
 have hl:x0.length<=1048576:=h.1;unfold NV;rw [Zt ⟨by omega,rfl,by grind [Lim]⟩];exact EZ (L:=fun n x0 x3 x4=>NW N n x0 x3 x4) (to:=KY N) (re:=fun r=>r) (fun _ _ _=>rfl) (by omega) (fun x hx=>⟨x,xOv (h.2 x hx) hN,rfl⟩) (by omega)
def xOx{N d:Nat}{a:List Val}(hl:a.length<=1048576)(hn:a.length<N)(hx:∀x∈a,(Bd N d).c6 x=some x):(Bd N (d+1)).c7 a=some a:=by
 show N2 N (Bd N d).c6 (Bd N d).c7 a=_;unfold N2;rw [Zt ⟨by omega,rfl,by grind [Lim]⟩];exact EZ (L:=fun n x0 x3 x4=>N1 N (Bd N d).c6 (Bd N d).c7 n x0 x3 x4) (to:=(Bd N d).c6) (re:=Val.re) (fun _ _ _=>rfl) (by omega) (fun x hxm=>⟨x,hx x hxm,Val.re_eq x⟩) hn
def xOy:∀v:Val,v.Fit 1048576->Big2 fun N d=>(Bd N d).c6 v=some v:=by
 refine Val.ind fun k n s t a c r ih h=> ?_;obtain⟨h1,h2,h3,h4,h5,h6,h7⟩:=Val.fit_iff.1 h;refine Big2.succ (Big2.succ ?_);refine((Big2.list fun x hx=>ih x hx (h5.2 x hx)).and (A2 1048576).two).imp fun N d ⟨hx,hN⟩=> ?_;have hl:a.length<=1048576:=h5.1;have hc:c.length<=1048576:=h6.1;show N3 N (Bd N (d+1)).c6 (Bd N (d+1)).c7 _=_;unfold N3;simp only [Val.list,Val.columns,Val.rows,xOx (N:=N) hl (by omega) hx,xOw (N:=N) hc (by omega),xOu (x0:=r) h7 hN,jS]
 rfl
def xC1{v:Val}(h:v.Fit 1048576):Big fun N=>N0 N v=some v:=(xOy v h).diag
theorem xGb{N:Nat}{x0:List Int}(hl:x0.length<=9223372036854775807)(hn:x0.length<N):MZ N x0 x0=some true:=by
 unfold MZ;rw [Ye,jF]
 exact D5 (L:=fun n i=>Hi N n x0 x0 i) (fun n=>by simp [Hi]) (fun i x n hi hx hm=>by
  grind [Hi,AM]) hn
theorem xGh{N:Nat}{x0:List Str}(hl:x0.length<=9223372036854775807)(hn:x0.length<N):M5 N x0 x0=some true:=by
 unfold M5;rw [Ye,jF]
 exact D5 (L:=fun n i=>Hn N n x0 x0 i) (fun n=>by simp [Hn]) (fun i x n hi hx hm=>by
  grind [Hn,AM]) hn
theorem xGd(N:Nat)(f:Org):M0 N f f=some true:=by simp [M0]
theorem xGc{N:Nat}{x0:List Org}(hl:x0.length<=9223372036854775807)(hn:x0.length<N):M1 N x0 x0=some true:=by
 unfold M1;rw [Ye,jF]
 exact D5 (L:=fun n i=>Hj N n x0 x0 i) (fun n=>by simp [Hj]) (fun i x n hi hx hm=>by
  grind [Hj,xGd,AM]) hn
def xGg{N K:Nat}{r:Rowd}(h:r.Fit K)(hK:K<=9223372036854775807)(hN:K<N):M3 N r r=some true:=by
 have h1:r.cells.length<=K:=h.1.1;have h2:r.frm.length<=K:=h.2.1
 grind [M3,xGb,xGc]
theorem xGf{N K:Nat}{x0:List Rowd}(h:LFit K (Rowd.Fit K) x0)(hK:K<=9223372036854775807)(hN:K<N):M4 N x0 x0=some true:=by
 have hl:x0.length<=K:=h.1;unfold M4;rw [Ye,jF]
 exact D5 (x0:=x0) (L:=fun n i=>Hm N n x0 x0 i) (fun n=>by simp [Hm]) (fun i x n hi hx hm=>by
  have hi' :(i:Int)<(x0.length:Int):=by omega
  simp only [Hm,Zz hi',jT,jI,AS hx,xGg (h.2 x hm) hK hN,jS,AM hi (by omega:x0.length<=_),jU,jF]
  grind) (by omega)
theorem xGi{N d:Nat}{a:List Val}(hl:a.length<=9223372036854775807)(hn:a.length<N)(hx:∀x∈a,(Bo N d).c20 x x=some true):(Bo N (d+1)).c21 a a=some true:=by
 show M6 N (Bo N d).c20 (Bo N d).c21 a a=_;unfold M6;rw [Ye,jF]
 exact D5 (L:=fun n i=>Ho N (Bo N d).c20 (Bo N d).c21 n a a i) (fun n=>by simp [Ho]) (fun i x n hi hxi hm=>by
  grind [Ho,AM]) hn
def xGj{K:Nat}(hK:K<=9223372036854775807):∀v:Val,v.Fit K->Big2 fun N d=>(Bo N d).c20 v v=some true:=by
 refine Val.ind fun k n s t a c r ih h=> ?_;obtain⟨h1,h2,h3,h4,h5,h6,h7⟩:=Val.fit_iff.1 h;refine Big2.succ (Big2.succ ?_);refine((Big2.list fun x hx=>ih x hx (h5.2 x hx)).and (A2 K).two).imp fun N d ⟨hx,hN⟩=> ?_;have hl:a.length<=K:=h5.1;have hc:c.length<=K:=h6.1;show M7 N (Bo N (d+1)).c20 (Bo N (d+1)).c21 _ _=_
 grind [M7,Val.list,Val.columns,xGi,xGh,xGf]
def Ov{v:Val}{K:Nat}(h:v.Fit K)(hK:K<=9223372036854775807):Big fun N=>KA N v v=some true:=(xGj hK v h).diag
def Aj{α:Type}(_:α):Nat:=1
def D4(_:Org):Nat:=2
def B2(r:Rowd):Nat:=(r.cells.map Aj).sum+(r.frm.map D4).sum
theorem LX{α:Type}(xs:List α):(xs.map Aj).sum=xs.length:=by
 induction xs with
 |nil=>rfl
 |cons x l ih=>grind [Aj]
theorem SH(xs:List Org):(xs.map D4).sum=2*xs.length:=by
 induction xs with
 |nil=>rfl
 |cons x l ih=>grind [D4]
def xKx{N:Nat}(hN:274877906944<N){xs:List Int}{k:Int}(h0:0<=k)(h1:k+((xs.map Aj).sum:Nat)<=137438953472):
 ∃ys,ys.length=xs.length/\Pp N xs k=some (k+((xs.map Aj).sum:Nat),ys)/\P8 N ys k=some (k+((xs.map Aj).sum:Nat)):=by
 have hs:=LX xs
 refine GK (Lm:=fun n xs k i=>IC N n xs k i) (Lh:=fun n ys k i=>Hp N n ys k i) (c:=Aj) (fun n xs k hl=>by simp [IC]) (fun n ys k hl=>by simp [Hp])
  (fun x hx k hk hB=> ?_) h1 (by omega)
 have hc:Aj x=1:=rfl;rw [hc] at hB ⊢;refine⟨k,fun n xs' i hl hxi=> ?_,fun n ys i hl hyi=> ?_⟩
 all_goals grind [IC,AU,Hp]
def K7{N:Nat}(hN:274877906944<N){xs:List Str}{k:Int}(h0:0<=k)(h1:k+((xs.map Aj).sum:Nat)<=137438953472):
 ∃ys,ys.length=xs.length/\IN N xs k=some (k+((xs.map Aj).sum:Nat),ys)/\KD N ys k=some (k+((xs.map Aj).sum:Nat)):=by
 have hs:=LX xs
 refine GK (Lm:=fun n xs k i=>IP N n xs k i) (Lh:=fun n ys k i=>Ht N n ys k i) (c:=Aj) (fun n xs k hl=>by simp [IP]) (fun n ys k hl=>by simp [Ht])
  (fun x hx k hk hB=> ?_) h1 (by omega)
 have hc:Aj x=1:=rfl;rw [hc] at hB ⊢;obtain⟨t,ht⟩:=DR hN (k:=k) (by omega) (by omega);refine⟨t,fun n xs' i hl hxi=> ?_,fun n ys i hl hyi=> ?_⟩
 all_goals grind [IP,AU,Ht]
def xKA{N:Nat}(hN:274877906944<N){xs:List Org}{k:Int}(h0:0<=k)(h1:k+((xs.map D4).sum:Nat)<=137438953472):
 ∃ys,ys.length=xs.length/\Pq N xs k=some (k+((xs.map D4).sum:Nat),ys)/\P9 N ys k=some (k+((xs.map D4).sum:Nat)):=by
 have hs:=SH xs
 refine GK (Lm:=fun n xs k i=>ID N n xs k i) (Lh:=fun n ys k i=>Hq N n ys k i) (c:=D4) (fun n xs k hl=>by simp [ID]) (fun n ys k hl=>by simp [Hq])
  (fun x hx k hk hB=> ?_) h1 (by omega)
 have hc:D4 x=2:=rfl;rw [hc] at hB ⊢;refine⟨⟨k,k+1⟩,fun n xs' i hl hxi=> ?_,fun n ys i hl hyi=> ?_⟩
 all_goals grind [ID,List.set_set,AU,Hq]
def K6{N:Nat}(hN:274877906944<N){xs:List Rowd}{k:Int}(hlen:xs.length<=137438953472)(h0:0<=k)(h1:k+((xs.map B2).sum:Nat)<=137438953472):
 ∃ys,ys.length=xs.length/\IL N xs k=some (k+((xs.map B2).sum:Nat),ys)/\KC N ys k=some (k+((xs.map B2).sum:Nat)):=by
 refine GK (Lm:=fun n xs k i=>IM N n xs k i) (Lh:=fun n ys k i=>Hs N n ys k i) (c:=B2) (fun n xs k hl=>by simp [IM]) (fun n ys k hl=>by simp [Hs])
  (fun x hx k hk hB=> ?_) h1 (by omega)
 have hc:B2 x=(x.cells.map Aj).sum+(x.frm.map D4).sum:=rfl;rw [hc] at hB ⊢;obtain⟨ya,a1,a2,a3⟩:=xKx hN (xs:=x.cells) (k:=k) (by omega) (by omega);obtain⟨yb,b1,b2,b3⟩:=xKA hN (xs:=x.frm) (k:=k+((x.cells.map Aj).sum:Nat)) (by omega) (by omega);refine⟨⟨ya,yb⟩,fun n xs' i hl hxi=> ?_,fun n ys i hl hyi=> ?_⟩
 all_goals grind [List.getElem?_eq_some_iff,IM,List.set_set,AM,Hs]
mutual
def Val.cnt:Val->Nat
 | .mk _ _ _ _ l c r=>4+Val.cnts l+(c.map Aj).sum+(r.map B2).sum
def Val.cnts:List Val->Nat
 | []=>0
 |x::r=>Val.cnt x+Val.cnts r
end
theorem Val.cnts_eq(l:List Val):Val.cnts l=(l.map Val.cnt).sum:=by
 induction l with
 |nil=>rfl
 |cons x l ih=>grind [Val.cnts]
theorem xFD(l:List Rowd):(l.map B2).sum<=2*(l.length+(l.map Rowd.size).sum):=
 OX fun x _=>by grind [B2,LX,SH,Rowd.size]
def Val.cnt_le:∀v:Val,v.cnt<=4+4*v.size:=by
 refine Val.ind fun k n s t l c r ih=> ?_;have h1:=OX (f:=Val.cnt) (g:=Val.size) (l:=l) (a:=4) fun x hx=>ih x hx
 grind [xFD,LX,Val.size_eq,Val.cnt,Val.cnts_eq,Val.list,Val.columns,Val.rows]
def xFN(l:List Val):l.length<=(l.map Val.cnt).sum:=by
 induction l with
 |nil=>simp
 |cons x l ih=>
  have:4<=x.cnt:=by cases x;grind [Val.cnt]
  grind
def HC(N d:Nat)(l:List Val):Prop:=∀k:Int,0<=k->k+((l.map Val.cnt).sum:Nat)<=137438953472->
    ∃ys,ys.length=l.length/\KU N d l k=some (k+((l.map Val.cnt).sum:Nat),ys)/\KF N d ys k=some (k+((l.map Val.cnt).sum:Nat))
def xBg{N d:Nat}(hN:274877906944<N){l:List Val}(hr:∀x∈l,x.rows.length<=137438953472)(hx:∀x∈l,HC N d x.list):HC N (d+1) l:=by
 intro k h0 h1;have hlen:=xFN l
 refine GK (Lm:=fun n xs k i=>IR N (KU N d) n xs k i) (Lh:=fun n ys k i=>Hu N (KF N d) n ys k i) (c:=Val.cnt) (fun n xs k hl=>by simp [IR,Mo,Pr,Ps,Pt,Pu,Pv,Mp,Mq,IT,IU,IS]) (fun n ys k hl=>by simp [Hu])
  (fun x hxm k hk hB=> ?_) h1 (by omega)
 have hc:x.cnt=4+(x.list.map Val.cnt).sum+(x.columns.map Aj).sum+(x.rows.map B2).sum:=by cases x;grind [Val.cnt,Val.cnts_eq,Val.list,Val.columns,Val.rows]
 rw [hc] at hB ⊢;obtain⟨t,ht⟩:=DR hN (k:=k+1+1+1) (by omega) (by omega);obtain⟨ya,a1,a2,a3⟩:=hx x hxm (k+1+1+1+1) (by omega) (by omega);obtain⟨yb,b1,b2,b3⟩:=K7 hN (xs:=x.columns) (k:=k+1+1+1+1+((x.list.map Val.cnt).sum:Nat)) (by omega) (by omega);obtain⟨yc,c1,c2,c3⟩:=K6 hN (xs:=x.rows) (k:=k+1+1+1+1+((x.list.map Val.cnt).sum:Nat)+((x.columns.map Aj).sum:Nat)) (hr x hxm) (by omega) (by omega);have w1:V.wrap (k+1)=k+1:=AU (by omega) (by omega);have w2:V.wrap (k+1+1)=k+1+1:=AU (by omega) (by omega);have w3:V.wrap (k+1+1+1)=k+1+1+1:=AU (by omega) (by omega);have w4:V.wrap (k+1+1+1+1)=k+1+1+1+1:=AU (by omega) (by omega);refine⟨.mk k (k+1) (k+1+1) t ya yb yc,fun n xs' i hl hxi=> ?_,fun n ys i hl hyi=> ?_⟩
 ·have hi:=(Zs.1 hxi).1;have hi' :(i:Int)<(xs'.length:Int):=by omega
  have hcd:(0:Int)<=(i:Int)/\(i:Int)<(xs'.length:Int):=by omega
  simp only [IR,Mo,Pr,Ps,Pt,Pu,Pv,Mp,Mq,IT,IU,IS,Zz hi',jT,jI,AS hxi,List.length_set,Li hi,List.set_set,AM hi (by omega:xs'.length<=_),Zt hcd,w1,w2,w3,w4,ht,jS,
   vk,vn,vs,vt,vl,vc,vr,a2,b2,c2,Zt a1,Zt b1,Zt c1]
  grind
 ·have hi:=(Zs.1 hyi).1;have hi' :(i:Int)<(ys.length:Int):=by omega
  have hcd:(0:Int)<=(i:Int)/\(i:Int)<(ys.length:Int):=by omega
  grind [Hu,jI,AM,vk,vn,vs,vt,vl,vc,vr]
def QO{K:Nat}(hK:K<=137438953472):∀v:Val,v.Fit K->Big2 fun N d=>HC N d v.list:=by
 refine Val.ind fun k n s t a c r ih h=> ?_;obtain⟨h1,h2,h3,h4,h5,h6,h7⟩:=Val.fit_iff.1 h;refine Big2.succ ?_;refine((Big2.list fun x hx=>ih x hx (h5.2 x hx)).and (A2 274877906944).two).imp fun N d ⟨hx,hN⟩=> ?_;exact xBg hN (fun x hxm=>by have:=(Val.fit_iff.1 (h5.2 x hxm)).2.2.2.2.2.2.1;omega) hx
def xKD{K:Nat}(hK:K<=137438953472){v:Val}(h:v.Fit K):
 Big fun N=>∀k:Int,0<=k->k+(v.cnt:Nat)<=137438953472->∃k' xa xb xc,k<=k' /\k' <=k+(v.cnt:Nat)/\xa.length=v.list.length/\xb.length=v.columns.length/\xc.length=v.rows.length/\Mn N v k=some (k',xa,xb,xc)/\M9 N (Val.mk v.kind v.n v.step v.text xa xb xc) k=some k' :=by
 have hb:=(QO hK v h).diag;refine(hb.and (A2 274877906944)).imp fun N ⟨hm,hN⟩ k k0 kB=> ?_;have hc' :v.cnt=4+(v.list.map Val.cnt).sum+(v.columns.map Aj).sum+(v.rows.map B2).sum:=by cases v;simp only [Val.cnt,Val.cnts_eq,Val.list,Val.columns,Val.rows]
 obtain⟨ya,a1,a2,a3⟩:=hm k (by omega) (by omega);obtain⟨yb,b1,b2,b3⟩:=K7 hN (xs:=v.columns) (k:=k+((v.list.map Val.cnt).sum:Nat)) (by omega) (by omega);obtain⟨yc,c1,c2,c3⟩:=K6 hN (xs:=v.rows) (k:=k+((v.list.map Val.cnt).sum:Nat)+((v.columns.map Aj).sum:Nat)) (by have:=(Val.fit_iff.1 h).2.2.2.2.2.2.1;omega) (by omega) (by omega);have a2' :ED N v.list k=_:=a2;have a3' :KE N ya k=_:=a3;refine⟨k+((v.list.map Val.cnt).sum:Nat)+((v.columns.map Aj).sum:Nat)+((v.rows.map B2).sum:Nat),ya,yb,yc,by omega,by omega,a1,b1,c1,?_,?_⟩
 ·simp only [Mn,a2',jS,Zt a1,b2,Zt b1,c2,Zt c1]
 ·simp only [M9,vl,vc,vr,a3',b3,c3,jS];rw [Zw (by omega),jF,Zw (by omega),jF,Zw (by omega),jF]
def RP{N K:Nat}{r:Rowd}(h:r.Fit K)(hK:K<=137438953472):LD N r=some r:=by
 have h1:r.cells.length<=K:=h.1.1;have h2:r.frm.length<=K:=h.2.1;unfold LD;rw [Zt (by grind [Lim]),Zt (by grind [Lim])];rfl
def xAo{N K:Nat}{r:Rowd}(h:r.Fit K)(hK:K<=137438953472):MI N r=some r:=RP (N:=N) h hK
theorem xMQ{N K:Nat}{rc:Val->Option Val}{v z:Val}{k n s:Int}{t:Str}{l:List Val}{c:List Str}(h:LFit K (Rowd.Fit K) v.rows)(hK:K<=137438953472)(hN:K<N):
 Gq N rc N 0 v z (Val.mk k n s t l c [])=some (Val.mk k n s t l c v.rows):=by
 have hl:v.rows.length<=K:=h.1
 exact A3 (L:=fun m i q=>Gq N rc m i v z (Val.mk k n s t l c q)) v.rows (fun r q=>Val.mk k n s t l c (q++r)) (fun i q=>q.length=i) (fun m q hq=>by simp [Gq])
  (fun i x r q hd hi hx hq=>by
    have hq:q.length=i:=hq;have hi' :(i:Int)<(v.rows.length:Int):=by omega
    refine .inl ⟨q++ [x],by grind,by simp,fun m=> ?_⟩;simp only [Gq,Zz hi',jT,jI,AS hx,RP (h.2 x (Zy hx)) hK,jS,AM hi (by omega:v.rows.length<=_),vk,vn,vs,vt,vl,vc,vr]
    grind [Lim]) N 0 [] rfl (by omega) (by omega)
def xMR{N d K:Nat}{v:Val}(h:v.Fit K)(hK:K<=137438953472)(hN:K<N)(hx:∀x∈v.list,Gr N d x=some x):OP N (Gr N d) v=some v:=by
 obtain⟨h1,h2,h3,h4,h5,h6,h7⟩:=Val.fit_iff.1 h;have hl:v.list.length<=K:=h5.1;have hc:v.columns.length<=K:=h6.1;unfold OP;rw [Zt (by grind [Lim])]
 have key:=A3 (L:=fun m i q=>JN N (Gr N d) m i v (Val.mk 0 0 0 [] [] [] []) (Val.mk v.kind v.n v.step v.text q ([]++v.columns) [])) v.list (fun l q=>Val.mk v.kind v.n v.step v.text (q++l) v.columns v.rows) (fun i q=>q.length=i)
  (fun m q hq=>by
    grind [JN,xMQ])
  (fun i x l q hd hi hxi hq=>by
    have hq:q.length=i:=hq;have hi' :(i:Int)<(v.list.length:Int):=by omega
    refine .inl ⟨q++ [x],by grind,by simp,fun m=> ?_⟩;simp only [JN,Zz hi',jT,jI,AS hxi,hx x (Zy hxi),jS,Val.re_eq,AM hi (by omega:v.list.length<=_),vk,vn,vs,vt,vl,vc,vr]
    grind [Lim]) N 0 [] rfl (by omega) (by omega)
 grind [Val.eta]
def xCn{K:Nat}(hK:K<=137438953472):∀v:Val,v.Fit K->Big2 fun N d=>Gr N d v=some v:=by
 refine Val.ind fun k n s t a c r ih h=> ?_;have h5:=(Val.fit_iff.1 h).2.2.2.2.1;refine Big2.succ ?_;exact((Big2.list fun x hx=>ih x hx (h5.2 x hx)).and (A2 K).two).imp fun N d ⟨hx,hN⟩=>xMR h hK hN hx
def Cv {K:Nat}{v:Val}(h:v.Fit K)(hK:K<=137438953472):Big fun N=>Bg N v=some v:=(xCn hK v h).diag
theorem xH0{N K:Nat}{rc:Val->Option Val}{rd:List Val->Option (List Val)}{z:Val}{k n s:Int}{t:Str}{l:List Val}{c:List Str}{rs:List Rowd}(h:LFit K (Rowd.Fit K) rs)(hK:K<=137438953472)(hN:K<N):
 Fr N rc rd N rs rs.length 0 z (Val.mk k n s t l c [])=some (Val.mk k n s t l c rs):=by
 have hl:rs.length<=K:=h.1
 exact A3 (L:=fun m i q=>Fr N rc rd m rs rs.length i z (Val.mk k n s t l c q)) rs (fun r q=>Val.mk k n s t l c (q++r)) (fun i q=>q.length=i) (fun m q hq=>by simp [Fr])
  (fun i x r q hd hi hx hq=>by
    have hq:q.length=i:=hq;have hi' :(i:Int)<(rs.length:Int):=by omega
    refine .inl ⟨q++ [x],by grind,by simp,fun m=> ?_⟩;simp only [Fr,Zz hi',jT,jI,AS hx,xAo (h.2 x (Zy hx)) hK,jS,AM hi (by omega:rs.length<=_),vk,vn,vs,vt,vl,vc,vr]
    grind [Lim]) N 0 [] rfl (by omega) (by omega)
def xAn{N d:Nat}{a:List Val}(hl:a.length<=137438953472)(hn:a.length<N)(hx:∀x∈a,(BR N d).c14 x=some x):(BR N (d+1)).c15 a=some a:=by
 show MK N (BR N d).c14 (BR N d).c15 a=_;unfold MK
 exact A3 (L:=fun m i q=>H5 N (BR N d).c14 (BR N d).c15 m q a a.length i) a (fun l q=>q++l) (fun i q=>q.length=i) (fun m q hq=>by simp [H5])
  (fun i x l q hd hi hxi hq=>by
    grind [H5,jI,Val.re_eq,AM,Lim]) N 0 [] rfl (by omega) (by omega)
def xH1{N d K:Nat}{v:Val}(h:v.Fit K)(hK:K<=137438953472)(hN:K<N)(hx:(BR N d).c15 v.list=some v.list):(BR N (d+1)).c14 v=some v:=by
 obtain⟨h1,h2,h3,h4,h5,h6,h7⟩:=Val.fit_iff.1 h;have hc:v.columns.length<=K:=h6.1;show MJ N (BR N d).c14 (BR N d).c15 v=_
 grind [MJ,Lim,xH0,Val.eta]
def PT{K:Nat}(hK:K<=137438953472):∀v:Val,v.Fit K->Big2 fun N d=>(BR N d).c14 v=some v:=by
 refine Val.ind fun k n s t a c r ih h=> ?_;have h5:=(Val.fit_iff.1 h).2.2.2.2.1;have hl:a.length<=K:=h5.1;refine Big2.succ (Big2.succ ?_);exact((Big2.list fun x hx=>ih x hx (h5.2 x hx)).and (A2 K).two).imp fun N d ⟨hx,hN⟩=>xH1 h hK hN (xAn (a:=a) (by omega) (by omega) hx)
def Ek {K:Nat}{v:Val}(h:v.Fit K)(hK:K<=137438953472):Big fun N=>Ba N v=some v:=(PT hK v h).diag
def Jv{K:Nat}{a:List Val}(h:LFit K (Val.Fit K) a)(hK:K<=137438953472):Big fun N=>Fs N a=some a:=by
 have hl:a.length<=K:=h.1
 have key:Big2 fun N d=>(BR N d).c15 a=some a:=
  Big2.succ (((Big2.list fun x hx=>PT hK x (h.2 x hx)).and (A2 K).two).imp fun N d ⟨hx,hN⟩=>xAn (by omega) (by omega) hx)
 exact key.diag
def Bnd.size(b:Bnd):Nat:=b.name.length+b.value.size
def xNV{b:Bnd}(h:b.Fit maxLen):Big fun N=>∀l,0<=l->l<=1048576->Mu N b l=some (left b.size l):=
 (xCU h.2).imp fun N hv l h0 h1=>Cy h.1 h0 h1 rfl fun m m0 m1=>IZ (hv m m0 m1)
def xNU{x0:List Bnd}(h:LFit maxLen (Bnd.Fit maxLen) x0):Big fun N=>∀l,0<=l->l<=1048576->Px N x0 l=some (left (x0.length+(x0.map Bnd.size).sum) l):=
 ((Big.list fun x hx=>xNV (h.2 x hx)).and (A2 x0.length)).imp fun N ⟨hx,hn⟩ l h0 h1=>
   Cy h.1 h0 h1 rfl fun m hm0 hm1=>JV (L:=fun n x0 x1 x5=>Mv N n x0 x1 x5) (d:=Db) (sz:=Mu N) (fun _ _ _=>rfl) h.1 (fun x hxm l h0 h1=>hx x hxm l h0 h1) hn hm0 hm1
def Bnd.fit_size{K M:Nat}{r:Bnd}(h:r.Fit M)(hs:r.size<=K):r.Fit K:=by
 unfold Bnd.size at hs;exact⟨show length _<=K by omega,Val.fit_size _ h.2 (by omega)⟩
def xOm{b:Bnd}(h:b.Fit 1048576):Big fun N=>KW N b=some b:=(xC1 h.2).imp fun N hv=>by simp [KW,hv]
def xOl{x0:List Bnd}(h:LFit 1048576 (Bnd.Fit 1048576) x0):Big fun N=>GB N x0=some x0:=
 ((Big.list fun x hx=>xOm (h.2 x hx)).and (A2 x0.length)).imp fun N ⟨hx,hn⟩=>by
   have hl:x0.length<=1048576:=h.1;unfold GB;rw [Zt ⟨by omega,rfl,by grind [Lim]⟩];exact EZ (L:=fun n x0 x3 x4=>NG N n x0 x3 x4) (to:=KW N) (re:=fun r=>Bnd.mk (Bnd.name r) (Val.re (Bnd.value r))) (fun _ _ _=>rfl) (by omega) (fun x hxm=>⟨x,hx x hxm,by simp [Val.re_eq]⟩) hn
def xF6{b:Bnd}{K:Nat}(h:b.Fit K)(hK:K<=9223372036854775807):Big fun N=>MT N b b=some true:=(Ov h.2 hK).imp fun N hv=>by grind [MT]
def xF5{x0:List Bnd}{K:Nat}(h:LFit K (Bnd.Fit K) x0)(hK:K<=9223372036854775807):Big fun N=>MU N x0 x0=some true:=
 ((Big.list fun x hx=>xF6 (h.2 x hx) hK).and (A2 x0.length)).imp fun N ⟨hx,hn⟩=>by
   have hl:x0.length<=K:=h.1;unfold MU;rw [Ye,jF]
   exact D5 (x0:=x0) (L:=fun n i=>Hf N n x0 x0 i) (fun n=>by simp [Hf]) (fun i x n hi hxi hm=>by
    grind [Hf,AM]) hn
def Ea(b:Bnd):Nat:=5+((b.value.list.map Val.cnt).sum+(b.value.columns.map Aj).sum+(b.value.rows.map B2).sum)
theorem xC3(v:Val):v.cnt=4+((v.list.map Val.cnt).sum+(v.columns.map Aj).sum+(v.rows.map B2).sum):=by
 cases v;grind [Val.cnt,Val.cnts_eq,vl,vc,vr]
def DQ:List Bnd->Str->Val
 | [],_=> .mk 6 1 0 [] [] [] []
 |b::r,s=>bif b.name==s then b.value else DQ r s
def xCg{K:Nat}{xs:List Bnd}{s:Str}(h:LFit K (Bnd.Fit K) xs)(hK:K<=137438953472):Big fun N=>OA N xs s=some (DQ xs.reverse s)/\MA N xs s=some (DQ xs.reverse s):=by
 have hl:xs.length<=K:=h.1;refine((Big.list fun x hx=>Cv (h.2 x hx).2 hK).and ((Big.list fun x hx=>Ek (h.2 x hx).2 hK).and (A2 K))).imp fun N ⟨hc,hd,hN⟩=> ?_;have key:∀(m i:Nat),i<=xs.length->i<m->JD N m xs s ((i:Int) - 1) (Val.mk 0 0 0 [] [] [] [])=some (DQ (xs.take i).reverse s)/\HW N m xs s ((i:Int) - 1) (Val.mk 0 0 0 [] [] [] [])=some (DQ (xs.take i).reverse s):=by
  intro m
  induction m with
  |zero=>grind
  |succ m ih=>
   intro i hi him;cases i with
   |zero=>grind [JD,HW,AL,AJ,DQ]
   |succ i=>
    have hi2:i<xs.length:=by omega
    have hx:xs[i]? =some xs[i]:=by grind
    have e:((i+1:Nat):Int) - 1=(i:Int):=by omega
    have hg:(i:Int)>=0:=by omega
    have hw:IntKind.i64.wrap ((i:Int) - 1)=(i:Int) - 1:=AU (by omega) (by omega)
    grind [List.take_add_one,JD,HW,jI,DQ]
 grind [OA,MA,AU]
theorem BV{x:Int}(h1: -1000000<=x)(h2:x<=1000000):I64 x:=⟨by omega,by omega⟩
theorem QM{α:Type}{K:Nat}{p:α->Prop}:LFit K p []:=⟨Zg _,fun x hx=>by grind⟩
def xDi{a0:List Bnd}(f0:∀z∈ [CV.sl .ro .bnd a0],DFit z.toD):LFit maxLen (Bnd.Fit maxLen) a0:=(LZ (f0 _ Zp).dk).imp fun x=>xDh.1
def xFB(xs:List Bnd):(xs.map Ea).sum<=5*(xs.length+(xs.map Bnd.size).sum):=OX fun x _=>by
 have h1:=Val.cnt_le x.value
 grind [xC3,Ea,Bnd.size]
def LU{K:Nat}{xs:List Bnd}{s:Str}{v:Val}(h:LFit K (Bnd.Fit K) xs)(hv:v.Fit K)(hK:K<=137438953472):Big fun N=>Kl N xs s v=some (xs++ [⟨s,v⟩])/\Lo N xs s v=some (xs++ [⟨s,v⟩]):=by
 have hl:xs.length<=K:=h.1;refine((Big.list fun x hx=>Cv (h.2 x hx).2 hK).and ((Big.list fun x hx=>Ek (h.2 x hx).2 hK).and ((Cv hv hK).and ((Ek hv hK).and (A2 K))))).imp fun N ⟨hc,hd,hcv,hdv,hN⟩=>⟨?_,?_⟩
 ·exact A3 (L:=fun m i q=>Ix N m xs s q i v) xs (fun l q=>q++l++ [⟨s,v⟩]) (fun i q=>q.length=i)
   (fun m q hq=>by
     grind [Ix,Val.re_eq,Lim])
   (fun i x l q hd' hi hxi hq=>by
     have hq:q.length=i:=hq;have hi' :(i:Int)<(xs.length:Int):=by omega
     refine .inl ⟨q++ [x],by grind,by simp,fun m=> ?_⟩;simp only [Ix,Zz hi',jT,jI,AS hxi,hc x (Zy hxi),jS,Val.re_eq,AM hi (by omega:xs.length<=_)];rw [Zt (by omega),Zt (by grind [Lim])]) N 0 [] rfl (by omega) (by omega)
 ·exact A3 (L:=fun m i q=>HO N m s q xs xs.length i v) xs (fun l q=>q++l++ [⟨s,v⟩]) (fun i q=>q.length=i)
   (fun m q hq=>by
     grind [HO,Val.re_eq,Lim])
   (fun i x l q hd' hi hxi hq=>by
     have hq:q.length=i:=hq;have hi' :(i:Int)<(xs.length:Int):=by omega
     refine .inl ⟨q++ [x],by grind,by simp,fun m=> ?_⟩;simp only [HO,Zz hi',jT,jI,AS hxi,hd x (Zy hxi),jS,Val.re_eq,AM hi (by omega:xs.length<=_)];rw [Zt (by omega),Zt (by grind [Lim])]) N 0 [] rfl (by omega) (by omega)
def Val.fit_mono{K M:Nat}(h:K<=M){v:Val}(hv:v.Fit K):v.Fit M:=fun d hd=>(hv d hd).mono h
def Ah{α:Type}(p:Nat->α->Bool):List α->Nat->Bool
 | [],_=>true
 |x::r,i=>p i x&&Ah p r (i+1)
theorem F3{α:Type}{p:Nat->α->Bool}:∀ {l:List α} {i:Nat},Ah p l i=true->∀(j:Nat) (x:α),l[j]? =some x->p (i+j) x=true
 | [],i,_,j,x,hj=>by grind
 |y::r,i,h,j,x,hj=>by
  simp only [Ah,Zu] at h;cases j with
  |zero=>grind
  |succ j=>
   have:=F3 h.2 j x (by grind)
   grind
def BI{α:Type}{L:Nat->Int->Option Bool}{x0:List α}{p:Nat->α->Bool}{e:Option Bool}(hend:∀n,L (n+1) (x0.length:Nat)=e)
 (hcons:∀(i:Nat) x n,i<x0.length->x0[i]? =some x->x∈x0->L (n+1) (i:Nat)=bif p i x then L n ((i+1:Nat):Int) else some false) {n:Nat} (hn:x0.length<n):
 L n 0=bif Ah p x0 0 then e else some false:=by
 have key:∀(m i:Nat),i<=x0.length->x0.length<m+i->L m (i:Nat)=bif Ah p (x0.drop i) i then e else some false:=by
  intro m
  induction m with
  |zero=>grind
  |succ m ih=>
   intro i h1 h2;cases hd:x0.drop i with
   |nil=>
    have:=HI hd;obtain rfl:i=x0.length:=by omega
    rw [hend];rfl
   |cons x l=>
    grind [B9,Ah]
 exact key n 0 (by omega) (by omega)
def xCZ(c:UInt8):Bool:= !(decide ((c.toNat:Int)<32))&&(!(decide ((c.toNat:Int)>126))&& !((c.toNat:Int)==34))
def EY(s:Str):Bool:=Ah (fun _=>xCZ) s 0&&decide ((s.length:Int)<=20)
def HF{a b:Bool}:(bif a then some b else some false)=some (a&&b):=by grind
def Qv{N:Nat}{s:Str}(hl:s.length<=9223372036854775807)(hn:s.length<N):Nx N s=some (EY s):=by
 rw [EY,<-HF]
 exact BI (L:=fun n i=>FK N n s i) (fun n=>by simp [FK]) (fun i x n hi hx hm=>by
  grind [FK,AM,xCZ]) hn
def xHu(N n:Nat)(s:Str)(i:Int):Jk N n s i=FK N n s i:=by
 induction n generalizing i with
 |zero=>rfl
 |succ n ih=>grind [Jk,FK]
theorem Um{N:Nat}{s:Str}(hl:s.length<=9223372036854775807)(hn:s.length<N):Lw N s=some (EY s):=(xHu N N s 0).trans (Qv hl hn)
def AN:List Str->Str->Nat->Int
 | [],_,_=> -1
 |x::r,s,i=>bif x==s then(i:Int) else AN r s (i+1)
theorem Ls{N:Nat}{xs:List Str}{s:Str}(hl:xs.length<=9223372036854775807)(hn:xs.length<N):Jj N xs s=some (AN xs s 0):=
 A3 (L:=fun n i _=>HU N n s xs xs.length i) xs (fun l q=>AN l s q) (fun i q=>q=i) (fun n q _=>by simp [HU,AN])
  (fun i x l q hd hi hx hq=>by
    have hi' :(i:Int)<(xs.length:Int):=by omega
    have hq:q=i:=hq;subst hq;cases h1:x==s
    all_goals grind [AN,HU,AM]) N 0 0 rfl (by omega) (by omega)
def Ub{s:Str}:∀ {xs:List Str} {j i:Nat},xs[i]? =some s->(AN xs s j==((j+i:Nat):Int))= !(xs.take i).any (· ==s)
 | [],j,i,h=>by grind
 |x::r,j,0,h=>by
  grind [AN]
 |x::r,j,i+1,h=>by
  have h' :r[i]? =some s:=by grind
  have ih:=Ub (j:=j+1) h'
  grind [AN]
def Ec(xs:List Str)(i:Nat)(x:Str):Bool:= !(xs.take i).any (· ==x)
def Bu(xs:List Str):Bool:=Ah (Ec xs) xs 0
theorem Nq{N:Nat}{xs:List Str}(hl:xs.length<=9223372036854775807)(hn:xs.length<N):Kj N xs=some (Bu xs):=by
 have:=BI (L:=fun n i=>GY N n xs i) (x0:=xs) (p:=Ec xs) (e:=some true) (fun n=>by simp [GY]) (fun i x n hi hx hm=>by
  grind [GY,AM,xCv,Ec]) hn
 show GY N N xs 0=_;rw [this,HF,YO];rfl
theorem PE{N:Nat}{xs:List Str}(hl:xs.length<=9223372036854775807)(hn:xs.length<N):HN N xs=some (Bu xs):=by
 have:=BI (L:=fun n i=>Fb N n xs xs xs.length i) (x0:=xs) (p:=Ec xs) (e:=some true) (fun n=>by simp [Fb]) (fun i x n hi hx hm=>by
  have hi' :(i:Int)<(xs.length:Int):=by omega
  have e:=Ub (j:=0) hx
  grind [Fb,AM,Ls,Ec]) hn
 show Fb N N xs xs xs.length 0=_;rw [this,HF,YO];rfl
def B8(c:List Str):Bool:=Ah (fun _=>CY) c 0&&((decide ((1:Int)<=c.length)&&decide ((c.length:Int)<=4))&&Bu c)
def xCy{N K:Nat}{c:List Str}(h:LFit K (Str.Fit K) c)(hK:24<=K/\K<=4611686018427387904)(hN:K<N):OO N c=some (B8 c):=by
 have hl:c.length<=K:=h.1;rw [B8,<-HF]
 exact BI (L:=fun n i=>JM N n c i) (fun n=>by
  grind [JM,FN,Nq]) (fun i x n hi hx hm=>by
  have hi' :(i:Int)<(c.length:Int):=by omega
  have hxl:x.length<=K:=h.2 x hm
  grind [JM,jI,AM,Qu]) (by omega)
def xAj{N K:Nat}{c:List Str}(h:LFit K (Str.Fit K) c)(hK:24<=K/\K<=4611686018427387904)(hN:K<N):Jt N c=some (B8 c):=by
 have hl:c.length<=K:=h.1;rw [B8,<-HF]
 exact BI (L:=fun n i=>H3 N n c c c.length i) (fun n=>by
  grind [H3,Dq,PE]) (fun i x n hi hx hm=>by
  have hi' :(i:Int)<(c.length:Int):=by omega
  have hxl:x.length<=K:=h.2 x hm
  grind [H3,jI,AM,PL]) (by omega)
def F6(a b:Org):Bool:=decide (a.cell<b.cell)||((a.cell==b.cell)&&decide (a.row<b.row))
def RN(N:Nat)(a b:Org):Gp N a b=some (F6 a b):=by
 grind [Gp,F6]
def xIq(N:Nat)(a b:Org):H9 N a b=some (F6 a b):=RN N a b
def F5(xs:List Org)(i:Nat)(x:Org):Bool:= !(decide (x.cell<0))&&(!(decide (x.row<0))&&(decide (i=0)||F6 (xs.getD (i - 1) Do) x))
def C0(xs:List Org):Bool:=Ah (F5 xs) xs 0
def Ri{xs:List Org}{i:Nat}{x:Org}{hi:i<xs.length}(hl:xs.length<=9223372036854775807){F:Option Bool}:
 (bif decide (x.cell<0) then some false else bif decide (x.row<0) then some false else bif decide ((i:Int)>0) then
   (if(0:Int)<=V.wrap ((i:Int) - 1)/\V.wrap ((i:Int) - 1)<(xs.length:Int) then(bif !(F6 (xs.getD (toNat (V.wrap ((i:Int) - 1))) Do) x) then some false else F) else none) else F)=
 bif F5 xs i x then F else some false:=by
 unfold F5;cases decide (x.cell<0)
 ·cases decide (x.row<0)
  ·by_cases h0:i=0
   all_goals grind [xOW,jI]
  ·rfl
 ·rfl
def xNm{N:Nat}{xs:List Org}(hl:xs.length<=9223372036854775807)(hn:xs.length<N):RM N xs=some (C0 xs):=by
 have:=BI (L:=fun n i=>FO N n xs i) (x0:=xs) (p:=F5 xs) (e:=some true) (fun n=>by simp [FO]) (fun i x n hi hx hm=>by
  have hi' :(i:Int)<(xs.length:Int):=by omega
  rw [<-Ri (hi:=hi) hl];simp only [FO,Zz hi',jT,jI,AS hx,AM hi hl,RN,jS]
  grind) hn
 show FO N N xs 0=_;rw [this,HF,YO];rfl
def DT(n:Nat)(_:Nat)(r:Rowd):Bool:=(r.cells.length==n)&&(Ah (fun _=>AZ) r.cells 0&&C0 r.frm)
def Ar(c:List Str)(rs:List Rowd):Bool:=B8 c&&(decide (rs.length<=12)&&Ah (DT c.length) rs 0)
def xA7(a b:Nat):(((a:Nat):Int) != ((b:Nat):Int))= !(a==b):=by
 grind
def xNt{N:Nat}{k4:Int->Val->Option Bool}{x3:Int}{v:Val}{r:Rowd}(hl:r.cells.length<=9223372036854775807)(hn:r.cells.length<N):
 Gv N k4 N x3 0 v r=bif Ah (fun _=>AZ) r.cells 0 then k4 (V.wrap (x3+1)) v else some false:=
 BI (L:=fun n i=>Gv N k4 n x3 i v r) (fun n=>by simp [Gv]) (fun i x n hi hx hm=>by
  grind [Gv,jI,AM,Cx]) hn
def xNu{N K:Nat}{v:Val}(h:v.Fit K)(hK:24<=K/\K<=4611686018427387904)(hN:K<N):OR N v=some (Ar v.columns v.rows):=by
 obtain⟨_,_,_,_,_,h6,h7⟩:=Val.fit_iff.1 h;have hl:v.rows.length<=K:=h7.1;unfold OR;rw [xCy h6 hK hN,jS,Ar];cases hc:B8 v.columns
 ·rfl
 ·by_cases hr:v.rows.length<=12
  ·rw [Zw (by omega),Zz hr];simp only [jU,jF,ZV]
   have:=BI (L:=fun n i=>JP N n i v) (x0:=v.rows) (p:=DT v.columns.length) (e:=some true) (n:=N) (fun n=>by simp [JP]) (fun i x n hi hx hm=>by
    have hi' :(i:Int)<(v.rows.length:Int):=by omega
    obtain⟨⟨g1,_⟩,⟨g2,_⟩⟩:=h7.2 x hm;simp only [JP,Zz hi',jT,jI,AS hx,xA7,xNm (N:=N) (xs:=x.frm) (by omega) (by omega),jS,xNt (N:=N) (r:=x) (by omega) (by omega),AM hi (by omega:v.rows.length<=_),DT]
    grind) (by omega)
   grind
  grind
theorem xH7{N:Nat}{k4:List Rowd->Int->Int->Val->Option Bool}{x20:List Rowd}{x21 x22:Int}{v:Val}{r:Rowd}(hl:r.frm.length<=9223372036854775807)(hn:r.frm.length<N):
 El N k4 N x20 x21 x22 r.frm r.frm.length 0 v r=bif C0 r.frm then k4 x20 x21 (V.wrap (x22+1)) v else some false:=
 BI (L:=fun n i=>El N k4 n x20 x21 x22 r.frm r.frm.length i v r) (fun n=>by simp [El]) (fun i x n hi hx hm=>by
  have hi' :(i:Int)<(r.frm.length:Int):=by omega
  rw [<-Ri (hi:=hi) hl];simp only [El,Zz hi',jT,jI,AS hx,AM hi hl,xIq,jS]
  grind) hn
def xH8{N:Nat}{k4:List Rowd->Int->Int->Val->Option Bool}{x20:List Rowd}{x21 x22:Int}{v:Val}{r:Rowd}(hl:r.cells.length<=9223372036854775807)(hn:r.cells.length<N)(hl2:r.frm.length<=9223372036854775807)(hn2:r.frm.length<N):
 Fu N k4 N x20 x21 x22 r.cells r.cells.length 0 v r=bif Ah (fun _=>AZ) r.cells 0 then(bif C0 r.frm then k4 x20 x21 (V.wrap (x22+1)) v else some false) else some false:=
 BI (L:=fun n i=>Fu N k4 n x20 x21 x22 r.cells r.cells.length i v r) (fun n=>by grind [Fu,xH7]) (fun i x n hi hx hm=>by
  grind [Fu,jI,AM,DN]) hn
theorem xH9{N K:Nat}{v:Val}(h:v.Fit K)(hK:24<=K/\K<=4611686018427387904)(hN:K<N):Jw N v=some (Ar v.columns v.rows):=by
 obtain⟨_,_,_,_,_,h6,h7⟩:=Val.fit_iff.1 h;have hl:v.rows.length<=K:=h7.1;unfold Jw;rw [xAj h6 hK hN,jS,Ar];cases hc:B8 v.columns
 ·rfl
 ·by_cases hr:v.rows.length<=12
  ·rw [Zw (by omega),Zz hr];simp only [jU,jF,ZV]
   have:=BI (L:=fun n i=>H6 N n v.rows v.rows.length i v) (x0:=v.rows) (p:=DT v.columns.length) (e:=some true) (n:=N) (fun n=>by simp [H6]) (fun i x n hi hx hm=>by
    have hi' :(i:Int)<(v.rows.length:Int):=by omega
    obtain⟨⟨g1,_⟩,⟨g2,_⟩⟩:=h7.2 x hm;simp only [H6,Zz hi',jT,jI,AS hx,xA7,xH8 (N:=N) (r:=x) (by omega) (by omega) (by omega) (by omega),AM hi (by omega:v.rows.length<=_),DT]
    grind) (by omega)
   grind
  grind
mutual
def Val.dep:Val->Int
 | .mk _ _ _ _ l _ _=>Val.deps l 0+1
def Val.deps:List Val->Int->Int
 | [],m=>m
 |x::r,m=>Val.deps r (if x.dep>m then x.dep else m)
end
def Ao:List Val->Int->Int
 | [],m=>m
 |x::r,m=>Ao r (if x.dep>m then x.dep else m)
theorem Oo:∀(l:List Val) (m:Int),Val.deps l m=Ao l m
 | [],m=>rfl
 |x::r,m=>by rw [Val.deps,Oo r];rfl
theorem DB(v:Val):v.dep=Ao v.list 0+1:=by cases v;grind [Val.dep,Oo,vl]
def HH:∀ {l:List Val} {m:Int},m<=Ao l m/\∀x∈l,x.dep<=Ao l m
 | [],m=>⟨Int.le_refl m,fun x hx=>by grind⟩
 |x::r,m=>by
  obtain⟨h1,h2⟩:=HH (l:=r) (m:=if x.dep>m then x.dep else m)
  grind [Ao]
def L2{B:Int}:∀ {l:List Val} {m:Int},m<=B->(∀x∈l,x.dep<=B)->Ao l m<=B
 | [],m,h,_=>h
 |x::r,m,h,hx=>by
  show Ao r (if x.dep>m then x.dep else m)<=B;refine L2 ?_ fun y hy=>hx y (Zr _ hy)
  grind
def xHi{N d:Nat}{v:Val}(hn:v.list.length<N)(hl:v.list.length<=9223372036854775807)(hB:v.dep<=1000000000)(hx:∀x∈v.list,Fe N d x=some x.dep):Fe N (d+1) v=some v.dep:=by
 have hd:=DB v;have h0:=(HH (l:=v.list) (m:=0)).1;rw [hd]
 exact A3 (L:=fun m i q=>HS N (Fe N d) m q v.list v.list.length i) v.list (fun l q=>Ao l q+1) (fun i q=>Ao (v.list.drop i) q=Ao v.list 0)
  (fun m q hq=>by
    grind [Ao,HS,AU])
  (fun i x l q hd' hi hxi hq=>by
    grind [Ao,B9,HS,jI,AM]) N 0 0 rfl (by omega) (by omega)
def xMf{N d:Nat}{v:Val}(hn:v.list.length<N)(hl:v.list.length<=9223372036854775807)(hB:v.dep<=1000000000)(hx:∀x∈v.list,G6 N d x=some x.dep):G6 N (d+1) v=some v.dep:=by
 have hd:=DB v;have h0:=(HH (l:=v.list) (m:=0)).1;rw [hd]
 exact A3 (L:=fun m i q=>Iz N (G6 N d) m q i v) v.list (fun l q=>Ao l q+1) (fun i q=>Ao (v.list.drop i) q=Ao v.list 0)
  (fun m q hq=>by
    grind [Ao,Iz,AU])
  (fun i x l q hd' hi hxi hq=>by
    have hi' :(i:Int)<(v.list.length:Int):=by omega
    have hq:Ao (v.list.drop i) q=Ao v.list 0:=hq;have hm:Gn N q x.dep=some (if x.dep>q then x.dep else q):=by
     grind [Gn]
    grind [Ao,B9,Iz,jI,AM]) N 0 0 rfl (by omega) (by omega)
def xFW{K:Nat}(hK:K<=4611686018427387904):∀v:Val,v.Fit K->v.dep<=1000000000->Big2 fun N d=>Fe N d v=some v.dep/\G6 N d v=some v.dep:=by
 refine Val.ind fun k n s t a c r ih h hB=> ?_;have h5:=(Val.fit_iff.1 h).2.2.2.2.1;have hl:a.length<=K:=h5.1;refine Big2.succ ?_;have hx:∀x∈a,x.dep<=1000000000:=fun x hx=>by
  have:=(HH (l:=a) (m:=0)).2 x hx
  grind [DB,vl]
 refine((Big2.list fun x hxm=>ih x hxm (h5.2 x hxm) (hx x hxm)).and (A2 K).two).imp fun N d ⟨hx,hN⟩=>⟨?_,?_⟩
 ·exact xHi (v:= .mk k n s t a c r) (by show a.length<N;omega) (by show a.length<=_;omega) hB fun x hxm=>(hx x hxm).1
 ·exact xMf (v:= .mk k n s t a c r) (by show a.length<N;omega) (by show a.length<=_;omega) hB fun x hxm=>(hx x hxm).2
def BJ(v:Val):Bool:=(v.kind==1)||((v.kind==2)||(v.kind==3))
def emp{α:Type}(l:List α):Bool:=decide (l.length=0)
mutual
def AP:Val->Bool
 | .mk k n s t l c r=>
   bif k==1 then emp l&&(emp c&&(emp r&&((s==0)&&((t== [])&&AZ n))))
   else bif k==2 then emp l&&(emp c&&(emp r&&((n==0)&&((s==0)&&EY t))))
   else bif k==4 then emp l&&(emp c&&(emp r&&((t== [])&&(AZ n&&AZ s))))
   else bif k==6 then emp l&&(emp c&&(emp r&&((s==0)&&((t== [])&&(decide (1<=n)&&decide (n<=8))))))
   else bif k==5 then emp l&&((n==0)&&((s==0)&&((t== [])&&Ar c r)))
   else bif k==3 then FT l&&((n==0)&&((s==0)&&((t== [])&&(emp c&&(emp r&&(decide (l.length<=8)&&decide (Val.deps l 0+1<=3)))))))
   else false
def FT:List Val->Bool
 | []=>true
 |x::r=>(BJ x&&AP x)&&FT r
end
theorem FU:∀l:List Val,FT l=l.all fun x=>BJ x&&AP x
 | []=>rfl
 |x::r=>by simp only [FT,List.all_cons,FU r]
theorem Ob{α:Type}{f:α->Bool}:∀(l:List α) (i:Nat),Ah (fun _=>f) l i=l.all f
 | [],_=>rfl
 |x::r,i=>by simp only [Ah,List.all_cons,Ob r (i+1)]
def R0:∀v:Val,AP v=true->v.dep<=3:=by
 intro v;cases v with
 |mk k n s t l c r=>
  grind [DB,vl,emp,Ao,AP,Oo]
theorem xKj{α:Type}(l:List α):(((l.length:Nat):Int)==0)=emp l:=by
 grind [emp]
def xKh{α:Type}(l:List α):decide (((l.length:Nat):Int)>0)= !emp l:=by
 grind [emp]
def xKi{α β:Type}{l:List α}{r:List β}(h1:l.length<=4611686018427387903)(h2:r.length<=4611686018427387903):decide (IntKind.i64.wrap (((l.length:Nat):Int)+((r.length:Nat):Int))>0)= !(emp l&&emp r):=by
 grind [emp,AU]
def xIC{N d:Nat}{v:Val}(hl:v.list.length<=9223372036854775807)(hn:v.list.length<N)(hd:(∀x∈v.list,AP x=true)->HR N v=some v.dep)(hx:∀x∈v.list,Ci N d x=some (AP x)):
 Ch N (Ci N d) N v.list v.list.length 0 v=some (FT v.list&&((v.n==0)&&((v.step==0)&&((v.text== [])&&(emp v.columns&&(emp v.rows&&(decide (v.list.length<=8)&&decide (v.dep<=3)))))))):=by
 have h:=BI (L:=fun n i=>Ch N (Ci N d) n v.list v.list.length i v) (x0:=v.list) (p:=fun _ x=>BJ x&&AP x) (fun n=>by simp only [Ch,Zd,Z9,jF];rfl) (fun i x n hi hxi hm=>by
  grind [Ch,jI,AM,BJ]) hn
 grind [Ob,FU,xKj]
def xNK{N d:Nat}{v:Val}(hl:v.list.length<=9223372036854775807)(hn:v.list.length<N)(hd:(∀x∈v.list,AP x=true)->Kn N v=some v.dep)(hx:∀x∈v.list,(BY N d).c8 x=some (AP x)):
 (BY N (d+1)).c9 v=some (FT v.list&&(decide (v.list.length<=8)&&decide (v.dep<=3))):=by
 show Gs N (BY N d).c8 (BY N d).c9 N 0 v=_
 have h:=BI (L:=fun n i=>Gs N (BY N d).c8 (BY N d).c9 n i v) (x0:=v.list) (p:=fun _ x=>BJ x&&AP x) (fun n=>by simp only [Gs,Zd,Z9,jF];rfl) (fun i x n hi hxi hm=>by
  grind [Gs,LC,jI,AM,BJ]) hn
 grind [Ob,FU]
theorem BH(v:Val):AP v=
 bif v.kind==1 then emp v.list&&(emp v.columns&&(emp v.rows&&((v.step==0)&&((v.text== [])&&AZ v.n))))
 else bif v.kind==2 then emp v.list&&(emp v.columns&&(emp v.rows&&((v.n==0)&&((v.step==0)&&EY v.text))))
 else bif v.kind==4 then emp v.list&&(emp v.columns&&(emp v.rows&&((v.text== [])&&(AZ v.n&&AZ v.step))))
 else bif v.kind==6 then emp v.list&&(emp v.columns&&(emp v.rows&&((v.step==0)&&((v.text== [])&&(decide (1<=v.n)&&decide (v.n<=8))))))
 else bif v.kind==5 then emp v.list&&((v.n==0)&&((v.step==0)&&((v.text== [])&&Ar v.columns v.rows)))
 else bif v.kind==3 then FT v.list&&((v.n==0)&&((v.step==0)&&((v.text== [])&&(emp v.columns&&(emp v.rows&&(decide (v.list.length<=8)&&decide (v.dep<=3)))))))
 else false:=by
 cases v;simp only [AP,vk,vn,vs,vt,vl,vc,vr,Val.dep]
 rfl
def xOJ{v:Val}(h:∀x∈v.list,AP x=true):v.dep<=1000000000:=by
 rw [DB];have:=L2 (B:=3) (l:=v.list) (m:=0) (by omega) fun x hx=>R0 x (h x hx);omega
def xAE(k:Int):(k==1)=true/\(k==2)=false/\(k==3)=false/\(k==4)=false/\(k==5)=false/\(k==6)=false\/
 (k==1)=false/\(k==2)=true/\(k==3)=false/\(k==4)=false/\(k==5)=false/\(k==6)=false\/
 (k==1)=false/\(k==2)=false/\(k==3)=true/\(k==4)=false/\(k==5)=false/\(k==6)=false\/
 (k==1)=false/\(k==2)=false/\(k==3)=false/\(k==4)=true/\(k==5)=false/\(k==6)=false\/
 (k==1)=false/\(k==2)=false/\(k==3)=false/\(k==4)=false/\(k==5)=true/\(k==6)=false\/
 (k==1)=false/\(k==2)=false/\(k==3)=false/\(k==4)=false/\(k==5)=false/\(k==6)=true\/
 (k==1)=false/\(k==2)=false/\(k==3)=false/\(k==4)=false/\(k==5)=false/\(k==6)=false:=by
 simp only [beq_iff_eq,ZR,ne_eq];omega
def xHR{N d K:Nat}{v:Val}(h:v.Fit K)(hK:24<=K/\K<=4611686018427387903)(hN:K<N)(hd:(∀x∈v.list,AP x=true)->HR N v=some v.dep)(hx:∀x∈v.list,Ci N d x=some (AP x)):
 Ci N (d+1) v=some (AP v):=by
 obtain⟨h1,h2,h3,h4,h5,h6,h7⟩:=Val.fit_iff.1 h;have hl:v.list.length<=K:=h5.1;have ht:v.text.length<=K:=h4;have hb:=xIC (d:=d) (by omega:v.list.length<=9223372036854775807) (by omega) hd hx;show Lx N (Ci N d) v=_
 grind [BH,Lx,DN,Dq,Um,xH9,emp]
def xML{N d K:Nat}{v:Val}(h:v.Fit K)(hK:24<=K/\K<=4611686018427387903)(hN:K<N)(hb:(BY N d).c9 v=some (FT v.list&&(decide (v.list.length<=8)&&decide (v.dep<=3)))):
 (BY N (d+1)).c8 v=some (AP v):=by
 obtain⟨h1,h2,h3,h4,h5,h6,h7⟩:=Val.fit_iff.1 h;have hc:v.columns.length<=K:=h6.1;have hr:v.rows.length<=K:=h7.1;have ht:v.text.length<=K:=h4;show Ny N (BY N d).c8 (BY N d).c9 v=_;rw [BH];simp only [Ny,xKh,xKi (l:=v.columns) (r:=v.rows) (by omega) (by omega),Cx,FN,Qv (N:=N) (s:=v.text) (by omega) (by omega),xNu h (by omega) hN,hb,jS,bne]
 rcases xAE v.kind with ⟨a1,a2,a3,a4,a5,a6⟩|⟨a1,a2,a3,a4,a5,a6⟩|⟨a1,a2,a3,a4,a5,a6⟩|⟨a1,a2,a3,a4,a5,a6⟩|⟨a1,a2,a3,a4,a5,a6⟩|⟨a1,a2,a3,a4,a5,a6⟩|⟨a1,a2,a3,a4,a5,a6⟩ <;>
  simp only [a1,a2,a3,a4,a5,a6,jT,jF,jU,jV]
 all_goals grind [emp]
def SR{K:Nat}(hK:K<=4611686018427387904){v:Val}(h:v.Fit K):Big fun N=>(∀x∈v.list,AP x=true)->HR N v=some v.dep/\Kn N v=some v.dep:=by
 by_cases hv:∀x∈v.list,AP x=true
 ·exact(xFW hK v h (xOJ hv)).diag.imp fun N h _=>h
 ·exact .of fun N h=>absurd h hv
def Big2.up{p:Nat->Nat->Prop}(h:Big2 p):Big2 fun N d=>p N (d+1):=h.elim fun k hk=>⟨k,fun N d h1 h2=>hk N (d+1) h1 (by omega)⟩
def xOG{K:Nat}(hK:24<=K/\K<=4611686018427387903):∀v:Val,v.Fit K->Big2 fun N d=>Ci N d v=some (AP v)/\(BY N d).c8 v=some (AP v):=by
 refine Val.ind fun k n s t a c r ih h=> ?_;have h5:=(Val.fit_iff.1 h).2.2.2.2.1;have hl:a.length<=K:=h5.1;have hb:Big2 fun N d=>∀x∈a,Ci N d x=some (AP x)/\(BY N d).c8 x=some (AP x):=Big2.list fun x hx=>ih x hx (h5.2 x hx);refine Big2.succ (Big2.succ ?_);refine(hb.and (hb.up.and ((SR (by omega) h).and (A2 K)).two)).imp fun N d ⟨hx,hy,hd,hN⟩=>⟨?_,?_⟩
 ·exact xHR h hK hN (fun hv=>(hd hv).1) fun x hxm=>(hy x hxm).1
 ·exact xML h hK hN (xNK (v:= .mk k n s t a c r) (by show a.length<=_;omega) (by show a.length<_;omega) (fun hv=>(hd hv).2) fun x hxm=>(hx x hxm).2)
def xOH{K:Nat}(hK:24<=K/\K<=4611686018427387903){v:Val}(h:v.Fit K):Big fun N=>PM N v=some (AP v)/\Qw N v=some (AP v):=(xOG hK v h).diag
def AO(c:Int):Val:= .mk 6 c 0 [] [] [] []
def AY(c:Int):Val:= .mk 1 c 0 [] [] [] []
def C8:Val:= .mk 0 0 0 [] [] [] []
def opG:List Val->Val×Bool×Bool
 | []=>(C8,false,false)
 |v::r=>bif !AP v then(AO 4,true,false) else bif v.kind==6 then(v,true,true) else opG r
theorem BU{α:Type}{l:List α}(h:emp l=true):l=[]:=Z3.1 (of_decide_eq_true h)
def SY{v:Val}(h:AP v=true)(hk:(v.kind==6)=true):v=AO v.n:=by
 rw [BH] at h;have hk' :=eq_of_beq hk;rw [hk'] at h;simp only [show((6:Int)==1)=false from rfl,show((6:Int)==2)=false from rfl,show((6:Int)==4)=false from rfl,show((6:Int)==6)=true from rfl,jT,jF,Zu] at h;obtain⟨h1,h2,h3,h4,h5,_⟩:=h;have e:=Val.eta v;rw [BU h1,BU h2,BU h3,eq_of_beq h4,eq_of_beq h5,hk'] at e;exact e.symm
theorem Eu:∀ {l:List Val},(opG l).1.list=[]/\(opG l).1.columns=[]/\(opG l).1.rows=[]/\(opG l).1.text=[]/\(opG l).1.step=0
 | []=>⟨rfl,rfl,rfl,rfl,rfl⟩
 |v::r=>by
  simp only [opG];cases hv:AP v
  ·exact⟨rfl,rfl,rfl,rfl,rfl⟩
  ·cases hk:(v.kind==6)
   ·exact Eu (l:=r)
   ·simp only [jU,jF,jT];rw [SY hv hk];exact⟨rfl,rfl,rfl,rfl,rfl⟩
def xBu{K:Nat}:∀ {l:List Val},(∀x∈l,x.Fit K)->I64 (opG l).1.kind/\I64 (opG l).1.n
 | [],_=>⟨BV (by show(-1000000:Int)<=0;omega) (by show(0:Int)<=1000000;omega),BV (by show(-1000000:Int)<=0;omega) (by show(0:Int)<=1000000;omega)⟩
 |v::r,h=>by
  simp only [opG];cases hv:AP v
  ·exact⟨BV (by show(-1000000:Int)<=6;omega) (by show(6:Int)<=1000000;omega),BV (by show(-1000000:Int)<=4;omega) (by show(4:Int)<=1000000;omega)⟩
  ·cases hk:(v.kind==6)
   ·exact xBu fun x hx=>h x (Zr _ hx)
   grind [Val.fit_iff,List.mem_cons_self]
theorem CD{v:Val}(h1:v.list=[])(h2:v.columns=[])(h3:v.rows=[]):Val.mk v.kind v.n v.step v.text [] [] []=v:=by
 grind [Val.eta]
def I3{K:Nat}(hK:24<=K/\K<=4611686018427387903){l:List Val}(h:∀x∈l,x.Fit K)(hl:l.length<=K):Big fun N=>Dp N l=some (opG l)/\ET N l=some ((opG l).1,(opG l).2.1):=by
 refine((Big.list fun x hx=>xOH hK (h x hx)).and (A2 K)).imp fun N ⟨hv,hN⟩=>⟨?_,?_⟩
 ·exact A3 (σ:=Unit) (L:=fun m i _=>Eo N m l l.length i (Val.mk 0 0 0 [] [] [] [])) l (fun r _=>opG r) (fun _ _=>True) (fun m _ _=>by simp only [Eo,Zd,Z9,jF];rfl)
   (fun i x r _ hd hi hx _=>by
     have hi' :(i:Int)<(l.length:Int):=by omega
     have hm:=Zy hx;cases h1:AP x
     ·refine .inr fun m=> ?_;simp only [Eo,Zz hi',jT,jI,AS hx,(hv x hm).1,h1,jS,jV,AJ,opG];rw [Zt (by omega)];rfl
     ·cases h2:(x.kind==6)
      ·refine .inl ⟨(),trivial,by grind [opG],fun m=> ?_⟩
       grind [Eo,AM]
      grind [Eo,opG]) N 0 () trivial (by omega) (by omega)
 ·exact A3 (σ:=Unit) (L:=fun m i _=>FP N m l i (Val.mk 0 0 0 [] [] [] [])) l (fun r _=>((opG r).1,(opG r).2.1)) (fun _ _=>True) (fun m _ _=>by simp only [FP,Zd,Z9,jF];rfl)
   (fun i x r _ hd hi hx _=>by
     have hi' :(i:Int)<(l.length:Int):=by omega
     have hm:=Zy hx;cases h1:AP x
     ·refine .inr fun m=> ?_;simp only [FP,Zz hi',jT,jI,AS hx,(hv x hm).2,h1,jS,jV,AL,opG];rw [Zt (by omega)];rfl
     ·cases h2:(x.kind==6)
      ·refine .inl ⟨(),trivial,by grind [opG],fun m=> ?_⟩
       grind [FP,AM]
      ·refine .inr fun m=> ?_;simp only [FP,Zz hi',jT,jI,AS hx,(hv x hm).2,h1,h2,jS,jU,jF,opG,AL];rw [Zt (by omega),SY h1 h2];rfl) N 0 () trivial (by omega) (by omega)
def Flat(v:Val):Prop:=v.list=[]/\v.columns=[]/\v.rows=[]/\v.text=[]/\I64 v.kind/\I64 v.n/\I64 v.step
def Flat.fit{v:Val}(h:Flat v)(K:Nat):v.Fit K:=by
 obtain⟨h1,h2,h3,h4,h5,h6,h7⟩:=h;refine Val.fit_iff.2 ⟨h5,h6,h7,?_,?_,?_,?_⟩
 ·rw [h4];exact Zg _
 all_goals grind [QM]
def Jb{K:Nat}{l:List Val}(h:∀x∈l,x.Fit K):Flat (opG l).1:=by
 obtain⟨h1,h2,h3,h4,h5⟩:=Eu (l:=l);obtain⟨i1,i2⟩:=xBu h;exact⟨h1,h2,h3,h4,i1,i2,by grind [BV]⟩
def Ld{k n s:Int}(h1:I64 k)(h2:I64 n)(h3:I64 s):Flat (.mk k n s [] [] [] []):=⟨rfl,rfl,rfl,rfl,h1,h2,h3⟩
theorem HL{c:Int}(h:I64 c):Flat (AO c):=Ld (BV (by omega) (by omega)) h (BV (by omega) (by omega))
theorem Lf{c:Int}(h:I64 c):Flat (AY c):=Ld (BV (by omega) (by omega)) h (BV (by omega) (by omega))
def Bs:List Val->Int->Val
 | [],s=>AY s
 |x::r,s=>bif x.kind != 1 then AO 4 else bif !AZ (V.wrap (s+x.n)) then AO 5 else Bs r (V.wrap (s+x.n))
def Gx(v:Val):Val×Bool:=bif(opG [v]).2.1 then((opG [v]).1,(opG [v]).2.2) else bif v.kind != 3 then(AO 4,false) else(Bs v.list 0,false)
def I2:∀ {l:List Val},(opG l).2.1=false->(opG l).2.2=false
 | [],_=>rfl
 |v::r,h=>by
  simp only [opG] at h ⊢;cases hv:AP v
  ·rfl
  ·cases hk:(v.kind==6)
   ·rw [hv,hk] at h;exact I2 (l:=r) h
   grind
def xNS{K:Nat}(hK:24<=K/\K<=4611686018427387903){v:Val}(h:v.Fit K):Big fun N=>MF N v=some (Gx v)/\OD N v=some (Gx v).1:=by
 have hl:v.list.length<=K:=(Val.fit_iff.1 h).2.2.2.2.1.1;refine((I3 hK (l:=[v]) (fun x hx=>by grind) (by grind)).and (A2 K)).imp fun N ⟨⟨ho1,ho2⟩,hN⟩=> ?_;obtain⟨e1,e2,e3,e4,e5⟩:=Eu (l:=[v])
 have i1:DL N N 0 v.list v.list.length 0 (Val.mk 0 0 0 [] [] [] [])=some (Bs v.list 0,false):=
  A3 (L:=fun m i q=>DL N m q v.list v.list.length i (Val.mk 0 0 0 [] [] [] [])) v.list (fun r q=>(Bs r q,false)) (fun _ _=>True) (fun m q _=>by simp only [DL,Zd,Z9,jF];rfl)
   (fun i x r q hd hi hx _=>by
     have hi' :(i:Int)<(v.list.length:Int):=by omega
     cases h1:(x.kind != 1)
     ·cases h2:AZ (V.wrap (q+x.n))
      ·refine .inr fun m=> ?_;simp only [DL,Zz hi',jT,jF,jI,AS hx,h1,h2,DN,jS,jV,AJ,Bs];rw [Zt (by omega)];rfl
      grind [Bs,DL,DN,AM]
     ·refine .inr fun m=> ?_;simp only [DL,Zz hi',jT,jI,AS hx,h1,jS,AJ,Bs];rw [Zt (by omega)];rfl) N 0 0 trivial (by omega) (by omega)
 have i2:EM N N 0 v (Val.mk 0 0 0 [] [] [] []) (AY 0)=some (Bs v.list 0):=
  A3 (L:=fun m i q=>EM N m i v (Val.mk 0 0 0 [] [] [] []) (AY q)) v.list (fun r q=>Bs r q) (fun _ _=>True) (fun m q _=>by simp only [EM,Zd,Z9,jF];rfl)
   (fun i x r q hd hi hx _=>by
     have hi' :(i:Int)<(v.list.length:Int):=by omega
     have hn:(AY q).n=q:=rfl;cases h1:(x.kind != 1)
     ·cases h2:AZ (V.wrap (q+x.n))
      ·refine .inr fun m=> ?_;simp only [EM,hn,Zz hi',jT,jF,jI,AS hx,h1,h2,DY,Cx,jS,jV,AL,Bs];rw [Zt (by omega)];rfl
      ·refine .inl ⟨V.wrap (q+x.n),trivial,by grind [Bs],fun m=> ?_⟩;simp only [EM,hn,Zz hi',jT,jF,jI,AS hx,h1,h2,DY,Cx,As,jS,jU,AM hi (by omega:v.list.length<=_)];rw [Zt (by omega)];rfl
     ·refine .inr fun m=> ?_;simp only [EM,Zz hi',jT,jI,AS hx,h1,jS,AL,Bs];rw [Zt (by omega)];rfl) N 0 0 trivial (by omega) (by omega)
 have hz:Val.mk 1 0 0 [] [] [] []=AY 0:=rfl;refine⟨?_,?_⟩
 ·simp only [MF,Val.re_eq,ho1,jS,e1,e2,e3,jE,Ys,CD e1 e2 e3,i1,AJ,Gx];cases h1:(opG [v]).2.1
  ·rw [I2 h1];cases (v.kind != 3) <;>rfl
  grind
 ·simp only [OD,Val.re_eq,ho2,jS,AL,As,hz,i2,Gx];cases h1:(opG [v]).2.1
  ·cases (v.kind != 3) <;>rfl
  ·rfl
def kb:List Val->List Int->Bool
 | [],_=>false
 |_::_,[]=>false
 |x::r,k::ks=>(x.kind != k)||kb r ks
def AW(ks:List Int)(vs:List Val):Val×Bool×Bool:=bif(opG vs).2.1 then opG vs else bif kb vs ks then(AO 4,true,false) else(C8,false,false)
theorem xGt:Flat C8:=Ld (BV (by omega) (by omega)) (BV (by omega) (by omega)) (BV (by omega) (by omega))
def D7{K:Nat}{ks:List Int}{l:List Val}(h:∀x∈l,x.Fit K):Flat (AW ks l).1:=by
 unfold AW;cases (opG l).2.1
 ·grind [xGt,HL,BV]
 ·exact Jb h
def Dz{K:Nat}(hK:24<=K/\K<=4611686018427387903){vs:List Val}{ks:List Int}(h:∀x∈vs,x.Fit K)(hl:vs.length<=K)(hks:ks.length=vs.length):Big fun N=>CS N ks vs=some (AW ks vs)/\Cc N vs ks=some ((AW ks vs).1,(AW ks vs).2.1):=by
 refine((I3 hK h hl).and (A2 K)).imp fun N ⟨⟨ho1,ho2⟩,hN⟩=> ?_
 have i1:Dk N N ks vs vs.length 0 (Val.mk 0 0 0 [] [] [] [])=some (bif kb vs ks then(AO 4,true,false) else(C8,false,false)):=
  A3 (L:=fun m i q=>Dk N m ks vs vs.length i (Val.mk 0 0 0 [] [] [] [])) vs (fun r q=>bif kb r (ks.drop q) then(AO 4,true,false) else(C8,false,false)) (fun i q=>q=i) (fun m q _=>by simp only [Dk,Zd,Z9,jF];rfl)
   (fun i x r q hd hi hx hq=>by
     have hq:q=i:=hq;subst hq;have hi' :(q:Int)<(vs.length:Int):=by omega
     have hk:ks[q]? =some ks[q]:=by grind
     have hdk:ks.drop q=ks[q]::ks.drop (q+1):=ZH (by omega);cases h1:(x.kind != ks[q])
     ·grind [kb,Dk,jI,AM]
     ·refine .inr fun m=> ?_;rw [hdk];simp only [Dk,Zz hi',jT,jI,AS hx,AS hk,h1,AJ,jS,kb,YJ];rw [Zt (by omega),Zt (by omega)];rfl) N 0 0 rfl (by omega) (by omega)
 have i2:FQ N N vs ks 0 (Val.mk 0 0 0 [] [] [] [])=some (bif kb vs ks then(AO 4,true) else(C8,false)):=
  A3 (L:=fun m i q=>FQ N m vs ks i (Val.mk 0 0 0 [] [] [] [])) vs (fun r q=>bif kb r (ks.drop q) then(AO 4,true) else(C8,false)) (fun i q=>q=i) (fun m q _=>by simp only [FQ,Zd,Z9,jF];rfl)
   (fun i x r q hd hi hx hq=>by
     have hq:q=i:=hq;subst hq;have hi' :(q:Int)<(vs.length:Int):=by omega
     have hk:ks[q]? =some ks[q]:=by grind
     have hdk:ks.drop q=ks[q]::ks.drop (q+1):=ZH (by omega);cases h1:(x.kind != ks[q])
     ·grind [kb,FQ,jI,AM]
     ·refine .inr fun m=> ?_;rw [hdk];simp only [FQ,Zz hi',jT,jI,AS hx,AS hk,h1,AL,jS,kb,YJ];rw [Zt (by omega),Zt (by omega)];rfl) N 0 0 rfl (by omega) (by omega)
 refine⟨?_,?_⟩
 all_goals grind [CS,AW,Cc]
def HG(v:Val):Val×Bool:=bif(AW [5] [v]).2.1 then((AW [5] [v]).1,(AW [5] [v]).2.2) else(AY v.rows.length,false)
def Fz{ks:List Int}{l:List Val}(h:(AW ks l).2.1=false):(AW ks l).2.2=false:=by
 grind [AW]
def Q4{K:Nat}{v:Val}(h:v.Fit K):∀x∈ [v],x.Fit K:=fun x hx=>by grind
def cnt_eq{K:Nat}(hK:24<=K/\K<=4611686018427387903){v:Val}(h:v.Fit K):Big fun N=>Lp N v=some (HG v)/\Nr N v=some (HG v).1:=by
 refine(Dz hK (vs:=[v]) (ks:=[5]) (Q4 h) (by grind) rfl).imp fun N ⟨h1,h2⟩=> ?_;obtain⟨e1,e2,e3,_⟩:=D7 (ks:=[5]) (Q4 h)
 grind [AY,Lp,Val.re_eq,CD,At,HG,Nr,As]
theorem Ev:∀ {l:List Val},(opG l).2.1=false->∀x∈l,AP x=true
 | [],_,x,hx=>by grind
 |v::r,h,x,hx=>by
  simp only [opG] at h;cases hv:AP v
  ·grind
  ·cases hk:(v.kind==6)
   ·rw [hv,hk] at h;rcases Zh.1 hx with rfl|hx
    ·grind
    ·exact Ev (l:=r) h x hx
   grind
theorem Bn{ks:List Int}{l:List Val}(h:(AW ks l).2.1=false):(∀x∈l,AP x=true)/\kb l ks=false:=by
 grind [AW,Ev]
def HA{v:Val}(hv:AP v=true)(hk:v.kind=5):∀r∈v.rows,r.cells.length=v.columns.length:=by
 grind [BH,Ar,List.getElem?_of_mem,F3,DT]
theorem Jd{s:Str}:∀ {xs:List Str} {j:Nat},AN xs s j= -1\/((j:Int)<=AN xs s j/\AN xs s j<(j:Int)+xs.length)
 | [],j=> .inl rfl
 |x::r,j=>by
  simp only [AN,jC];cases (x==s)
  ·simp only [jF];rcases Jd (s:=s) (xs:=r) (j:=j+1) with h|⟨h1,h2⟩
   all_goals grind
  grind
theorem xMp{N:Nat}{xs:List Str}{s:Str}(hl:xs.length<=9223372036854775807)(hn:xs.length<N):Qs N xs s=some (AN xs s 0):=
 A3 (L:=fun n i _=>JB N n xs s i) xs (fun l q=>AN l s q) (fun i q=>q=i) (fun n q _=>by simp [JB,AN])
  (fun i x l q hd hi hx hq=>by
    have hi' :(i:Int)<(xs.length:Int):=by omega
    have hq:q=i:=hq;subst hq;cases h1:x==s
    all_goals grind [AN,JB,AM]) N 0 0 rfl (by omega) (by omega)
def D9{N:Nat}{v:Val}{s:Str}(hl:v.columns.length<=9223372036854775807)(hn:v.columns.length<N):BD N v s=some (AN v.columns s 0):=by
 grind [BD,Ls]
theorem Cs{N:Nat}{v:Val}{s:Str}(hl:v.columns.length<=9223372036854775807)(hn:v.columns.length<N):CI N v s=some (AN v.columns s 0):=by
 grind [CI,xMp]
def pick(k:Int)(n:Int)(rs:List Rowd):List Rowd:=rs.filter fun r=>r.cells.getD k.toNat Di==n
theorem N9{k n:Int}{r:Rowd}{rs:List Rowd}:pick k n (r::rs)=bif r.cells.getD k.toNat Di==n then r::pick k n rs else pick k n rs:=by
 grind [pick]
theorem xID{N K:Nat}{k:Int}{a v z:Val}(h:LFit K (Rowd.Fit K) v.rows)(hK:K<=137438953472)(hN:K<N)(hk:0<=k)(hr:∀r∈v.rows,k<(r.cells.length:Int)):
 DM N N k v.rows v.rows.length 0 a z (.mk 5 0 0 [] [] v.columns [])=some (.mk 5 0 0 [] [] v.columns (pick k a.n v.rows),false):=by
 have hl:v.rows.length<=K:=h.1
 exact A3 (L:=fun m i q=>DM N m k v.rows v.rows.length i a z (.mk 5 0 0 [] [] v.columns q)) v.rows (fun l q=>(Val.mk 5 0 0 [] [] v.columns (q++pick k a.n l),false)) (fun i q=>q.length<=i) (fun m q _=>by simp [DM,pick])
  (fun i x l q hd hi hx hq=>by
    have hq:q.length<=i:=hq;have hi' :(i:Int)<(v.rows.length:Int):=by omega
    have hm:=Zy hx;have hkx:=hr x hm;cases h1:(x.cells.getD k.toNat Di==a.n)
    ·grind [N9,DM,jI,AM]
    ·refine .inl ⟨q++ [x],by grind,by grind [N9],fun m=> ?_⟩;simp only [DM,Zz hi',jT,jI,AS hx,h1,xAo (h.2 x hm) hK,jS,vk,vn,vs,vt,vl,vc,vr,AM hi (by omega:v.rows.length<=_)]
     grind [Lim]) N 0 [] (by simp) (by omega) (by omega)
theorem xNL{N K:Nat}{k:Int}{a v z:Val}(h:LFit K (Rowd.Fit K) v.rows)(hK:K<=137438953472)(hN:K<N)(hk:0<=k)(hr:∀r∈v.rows,k<(r.cells.length:Int)):
 EO N N k 0 a v z (.mk 5 0 0 [] [] v.columns [])=some (.mk 5 0 0 [] [] v.columns (pick k a.n v.rows)):=by
 have hl:v.rows.length<=K:=h.1
 exact A3 (L:=fun m i q=>EO N m k i a v z (.mk 5 0 0 [] [] v.columns q)) v.rows (fun l q=>Val.mk 5 0 0 [] [] v.columns (q++pick k a.n l)) (fun i q=>q.length<=i) (fun m q _=>by simp [EO,pick])
  (fun i x l q hd hi hx hq=>by
    have hq:q.length<=i:=hq;have hi' :(i:Int)<(v.rows.length:Int):=by omega
    have hm:=Zy hx;have hkx:=hr x hm;cases h1:(x.cells.getD k.toNat Di==a.n)
    ·grind [N9,EO,jI,AM]
    ·refine .inl ⟨q++ [x],by grind,by grind [N9],fun m=> ?_⟩;simp only [EO,Zz hi',jT,jI,AS hx,h1,RP (h.2 x hm) hK,jS,vk,vn,vs,vt,vl,vc,vr,AM hi (by omega:v.rows.length<=_)]
     grind [Lim]) N 0 [] (by simp) (by omega) (by omega)
def whG(a b v:Val):Val×Bool:=bif(AW [2,1,5] [a,b,v]).2.1 then((AW [2,1,5] [a,b,v]).1,(AW [2,1,5] [a,b,v]).2.2) else
 bif decide (AN v.columns a.text 0<0) then(AO 7,false) else(.mk 5 0 0 [] [] v.columns (pick (AN v.columns a.text 0) b.n v.rows),false)
def kb3{a b c:Val}{x y z:Int}(h:kb [a,b,c] [x,y,z]=false):a.kind=x/\b.kind=y/\c.kind=z:=by
 grind [kb]
def JX{K:Nat}{a b c:Val}(ha:a.Fit K)(hb:b.Fit K)(hc:c.Fit K):∀x∈ [a,b,c],x.Fit K:=fun x hx=>by
 grind
def xOO{K:Nat}(hK:24<=K/\K<=137438953472){a b v:Val}(ha:a.Fit K)(hb:b.Fit K)(hv:v.Fit K):Big fun N=>H1 N a b v=some (whG a b v)/\JG N a b v=some (whG a b v).1:=by
 obtain⟨_,_,_,_,_,h6,h7⟩:=Val.fit_iff.1 hv;have hc:v.columns.length<=K:=h6.1;refine((Dz (by omega) (vs:=[a,b,v]) (ks:=[2,1,5]) (JX ha hb hv) (by grind) rfl).and (A2 K)).imp fun N ⟨⟨h1,h2⟩,hN⟩=> ?_;obtain⟨e1,e2,e3,_⟩:=D7 (ks:=[2,1,5]) (JX ha hb hv);have hlim:0+v.columns.length<=Lim:=by grind [Lim]
 have i1:=D9 (N:=N) (v:=v) (s:=a.text) (by omega) (by omega);have i2:=Cs (N:=N) (v:=v) (s:=a.text) (by omega) (by omega);cases g1:(AW [2,1,5] [a,b,v]).2.1
 ·obtain⟨g2,g3⟩:=Bn g1;have hk5:=(kb3 g3).2.2;have hrows:=HA (g2 v (by simp)) hk5;have htag:=Fz g1;by_cases hneg:AN v.columns a.text 0<0
  ·refine⟨?_,?_⟩
   ·simp only [H1,Val.re_eq,h1,jS,g1,htag,jF,i1,Zz hneg,jT,AJ,whG];rfl
   ·simp only [JG,Val.re_eq,h2,jS,g1,jF,i2,Zz hneg,jT,AL,whG];rfl
  grind [Jd,xID,xNL,H1,Val.re_eq,whG,JG]
 grind [H1,Val.re_eq,CD,whG,JG]
def F8(k:Int)(r:Rowd):Val:=AY (r.cells.getD k.toNat Di)
def xHX{N K:Nat}{k:Int}{v z:Val}(hl:v.rows.length<=K)(hK:K<=137438953472)(hN:K<N)(hk:0<=k)(hr:∀r∈v.rows,k<(r.cells.length:Int)):
 Ee N N k v.rows v.rows.length 0 z (.mk 3 0 0 [] [] [] [])=some (.mk 3 0 0 [] (v.rows.map (F8 k)) [] [],false):=
 A3 (L:=fun m i q=>Ee N m k v.rows v.rows.length i z (.mk 3 0 0 [] q [] [])) v.rows (fun l q=>(Val.mk 3 0 0 [] (q++l.map (F8 k)) [] [],false)) (fun i q=>q.length=i) (fun m q _=>by simp [Ee])
  (fun i x l q hd hi hx hq=>by
    have hq:q.length=i:=hq;have hi' :(i:Int)<(v.rows.length:Int):=by omega
    have hkx:=hr x (Zy hx);refine .inl ⟨q++ [F8 k x],by grind,by simp,fun m=> ?_⟩;simp only [Ee,Zz hi',jT,jI,AS hx,At,jS,Val.re_eq,vk,vn,vs,vt,vl,vc,vr,AM hi (by omega:v.rows.length<=_)];rw [Zt (by omega),Zt (by omega),Zt (by grind [Lim])];rfl) N 0 [] rfl (by omega) (by omega)
def xMP{N K:Nat}{k:Int}{v z:Val}(hl:v.rows.length<=K)(hK:K<=137438953472)(hN:K<N)(hk:0<=k)(hr:∀r∈v.rows,k<(r.cells.length:Int)):
 G3 N N k 0 v z (.mk 3 0 0 [] [] [] [])=some (.mk 3 0 0 [] (v.rows.map (F8 k)) [] []):=
 A3 (L:=fun m i q=>G3 N m k i v z (.mk 3 0 0 [] q [] [])) v.rows (fun l q=>Val.mk 3 0 0 [] (q++l.map (F8 k)) [] []) (fun i q=>q.length=i) (fun m q _=>by simp [G3])
  (fun i x l q hd hi hx hq=>by
    have hq:q.length=i:=hq;have hi' :(i:Int)<(v.rows.length:Int):=by omega
    have hkx:=hr x (Zy hx);refine .inl ⟨q++ [F8 k x],by grind,by simp,fun m=> ?_⟩;simp only [G3,Zz hi',jT,jI,AS hx,As,jS,Val.re_eq,vk,vn,vs,vt,vl,vc,vr,AM hi (by omega:v.rows.length<=_)];rw [Zt (by omega),Zt (by omega),Zt (by grind [Lim])];rfl) N 0 [] rfl (by omega) (by omega)
def DA(a v:Val):Val×Bool:=bif(AW [2,5] [a,v]).2.1 then((AW [2,5] [a,v]).1,(AW [2,5] [a,v]).2.2) else
 bif decide (AN v.columns a.text 0<0) then(AO 7,false) else bif decide ((v.rows.length:Int)>8) then(AO 6,false) else(.mk 3 0 0 [] (v.rows.map (F8 (AN v.columns a.text 0))) [] [],false)
theorem kb2{a b:Val}{x y:Int}(h:kb [a,b] [x,y]=false):a.kind=x/\b.kind=y:=by
 grind [kb]
def E0{K:Nat}{a b:Val}(ha:a.Fit K)(hb:b.Fit K):∀x∈ [a,b],x.Fit K:=fun x hx=>by
 grind
def xFP{K:Nat}(hK:24<=K/\K<=137438953472){a v:Val}(ha:a.Fit K)(hv:v.Fit K):Big fun N=>HQ N a v=some (DA a v)/\Iy N a v=some (DA a v).1:=by
 obtain⟨_,_,_,_,_,h6,h7⟩:=Val.fit_iff.1 hv;have hc:v.columns.length<=K:=h6.1;refine((Dz (by omega) (vs:=[a,v]) (ks:=[2,5]) (E0 ha hv) (by grind) rfl).and (A2 K)).imp fun N ⟨⟨h1,h2⟩,hN⟩=> ?_;obtain⟨e1,e2,e3,_⟩:=D7 (ks:=[2,5]) (E0 ha hv);have i1:=D9 (N:=N) (v:=v) (s:=a.text) (by omega) (by omega);have i2:=Cs (N:=N) (v:=v) (s:=a.text) (by omega) (by omega);cases g1:(AW [2,5] [a,v]).2.1
 ·obtain⟨g2,g3⟩:=Bn g1;have hrows:=HA (g2 v (by simp)) (kb2 g3).2;have htag:=Fz g1;by_cases hneg:AN v.columns a.text 0<0
  ·refine⟨?_,?_⟩
   ·simp only [HQ,Val.re_eq,h1,jS,g1,htag,jF,i1,Zz hneg,jT,AJ,DA];rfl
   ·simp only [Iy,Val.re_eq,h2,jS,g1,jF,i2,Zz hneg,jT,AL,DA];rfl
  ·have hr:∀r∈v.rows,AN v.columns a.text 0<(r.cells.length:Int):=fun r hr=>by
    grind [Jd]
   have l1:=xHX (z:=Val.mk 0 0 0 [] [] [] []) h7.1 hK.2 hN (by omega) hr;have l2:=xMP (z:=Val.mk 0 0 0 [] [] [] []) h7.1 hK.2 hN (by omega) hr;refine⟨?_,?_⟩
   ·simp only [HQ,Val.re_eq,h1,jS,g1,htag,jF,i1,Zw hneg,AJ,l1,DA];cases decide ((v.rows.length:Int)>8) <;>rfl
   ·simp only [Iy,Val.re_eq,h2,jS,g1,jF,i2,Zw hneg,AL,l2,DA];cases decide ((v.rows.length:Int)>8) <;>rfl
 grind [HQ,Val.re_eq,CD,DA,Iy]
def xKp{K:Nat}{l:List Val}(h:LFit K (Val.Fit K) l):(Val.mk 3 0 0 [] l [] []).Fit K:=
 Val.fit_iff.2 ⟨BV (by show(-1000000:Int)<=3;omega) (by show(3:Int)<=1000000;omega),BV (by show(-1000000:Int)<=0;omega) (by show(0:Int)<=1000000;omega),BV (by show(-1000000:Int)<=0;omega) (by show(0:Int)<=1000000;omega),Zg _,h,QM,QM⟩
def BS(l:List Val):Val:=bif(opG l).2.1 then(opG l).1 else bif !(l.all BJ) then AO 4 else bif decide ((l.length:Int)>8) then AO 6 else bif decide ((Val.mk 3 0 0 [] l [] []).dep>3) then AO 6 else .mk 3 0 0 [] l [] []
theorem Qx{N:Nat}{l:List Val}(hl:l.length<=137438953472)(hn:l.length<N)(hc:∀x∈l,Bg N x=some x):Ku N l=some (.mk 3 0 0 [] l [] []):=
 A3 (L:=fun m i q=>JC N m l i (Val.mk 0 0 0 [] [] [] []) (Val.mk 3 0 0 [] q [] [])) l (fun r q=>Val.mk 3 0 0 [] (q++r) [] []) (fun i q=>q.length=i) (fun m q _=>by simp [JC])
  (fun i x r q hd hi hx hq=>by
    have hq:q.length=i:=hq;have hi' :(i:Int)<(l.length:Int):=by omega
    refine .inl ⟨q++ [x],by grind,by simp,fun m=> ?_⟩;simp only [JC,Zz hi',jT,jI,AS hx,hc x (Zy hx),jS,Val.re_eq,vk,vn,vs,vt,vl,vc,vr,AM hi (by omega:l.length<=_)]
    grind [Lim]) N 0 [] rfl (by omega) (by omega)
def A5(c:UInt8):Str->Str->List Str
 |pre,[]=> [pre]
 |pre,b::l=>bif b==c then pre::A5 c [] l else A5 c (pre++ [b]) l
def J6(b:UInt8):List Str->List Str
 |h::t=>(b::h)::t
 | []=> []
def SP(c:UInt8):∀(l pre:Str),∃h t,A5 c [] l=h::t/\A5 c pre l=(pre++h)::t:=by
 intro l
 induction l with
 |nil=>intro pre;exact⟨[],[],rfl,by simp [A5]⟩
 |cons b l ih=>
  intro pre;cases hb:b==c
  ·obtain⟨h1,t1,e1,e2⟩:=ih (pre++ [b]);obtain⟨h2,t2,e3,e4⟩:=ih [b]
   grind [A5]
  ·exact⟨[],A5 c [] l,by grind [A5],by grind [A5]⟩
theorem xFU{c b:UInt8}(h:(b==c)=false)(l:Str):A5 c [] (b::l)=J6 b (A5 c [] l):=by
 obtain⟨h1,t1,e1,e2⟩:=SP c l [b]
 grind [A5,J6]
def xIE(c:UInt8)(l:Str):Lib.index (c::l) [c]=0:=by grind [Lib.index]
def xIF{b c:UInt8}(h:(b==c)=false)(l:Str):Lib.index (b::l) [c]=if Lib.index l [c]== -1 then -1 else Lib.index l [c]+1:=by
 grind [Lib.index]
theorem xNM{b c:UInt8}(h:(b==c)=false)(l:Str):∀k,Lib.splitK [c] 0 k (b::l)=J6 b (Lib.splitK [c] 0 k l)
 |0=>rfl
 |k+1=>by
  have h0:=Lib.index_ge l [c];unfold Lib.splitK;rw [xIF h];by_cases hi:Lib.index l [c]= -1
  ·grind [J6]
  ·have e1:(Lib.index l [c]== -1)=false:=by grind
   have e2:(Lib.index l [c]+1== -1)=false:=by grind
   have e3:(Lib.index l [c]+1).toNat=(Lib.index l [c]).toNat+1:=by omega
   simp only [e1,e2,e3,YY,if_false,Nat.add_zero,List.length_singleton,J6,List.take_succ_cons]
   grind
theorem xNN(c:UInt8):∀s:Str,Lib.split s [c]=A5 c [] s:=by
 intro s;unfold Lib.split;rw [Lib.count_one]
 induction s with
 |nil=>rfl
 |cons b l ih=>
  cases hb:b==c
  ·grind [xNM,xFU]
  ·obtain rfl:b=c:=by grind
   rw [List.count_cons_self];unfold Lib.splitK;rw [xIE]
   grind [A5]
def L1{c:UInt8}:∀ {l pre:Str},(A5 c pre l).length<=l.length+1
 | [],pre=>by simp [A5]
 |b::l,pre=>by
  simp only [A5];cases b==c
  ·simp only [jF];have:=L1 (c:=c) (l:=l) (pre:=pre++ [b]);grind
  ·simp only [jT,jC];have:=L1 (c:=c) (l:=l) (pre:=[]);omega
def Ok{c:UInt8}:∀ {l pre:Str},((A5 c pre l).map length).sum<=pre.length+l.length
 | [],pre=>by simp [A5]
 |b::l,pre=>by
  simp only [A5];cases b==c
  ·simp only [jF];have:=Ok (c:=c) (l:=l) (pre:=pre++ [b]);grind
  ·simp only [jT,jC,ZX,List.sum_cons];have:=Ok (c:=c) (l:=l) (pre:=[]);grind
def xFT{c:UInt8}{l pre x:Str}(h:x∈A5 c pre l):x.length<=pre.length+l.length:=
 ZT (Ie (f:=length) h) Ok
def SN{c:UInt8}{l:Str}:A5 c [] l≠ []:=by
 obtain⟨h,t,e,_⟩:=SP c l []
 grind
theorem xNP{N:Nat}{s:Str}{c:UInt8}(h:s.length<4294967281):OW N s [c]=some (A5 c [] s):=by
 grind [OW,q9,xNN]
def xAd{N:Nat}{s:Str}(h:s.length<4294967281):Fo N s 32=some (A5 32 [] s):=by
 grind [Fo,xNP]
def xCj{N K:Nat}{s:Str}(hl:s.length<=K)(hK:K<=137438953472)(hN:K+1<N):Kw N s 32=some (A5 32 [] s):=by
 have key:∀(l pre:Str) (q:List Str) (n i:Nat),s.drop i=l->i<=s.length->pre.length<=i->s.drop (i - pre.length)=pre++l->q.length<=i->l.length+1<n->
  EL N n s 32 q ((i - pre.length:Nat):Int) (i:Nat)=some (q++A5 32 pre l):=by
  intro l
  induction l with
  |nil=>
   intro pre q n i hd hi hp hs hq hn;obtain⟨n,rfl⟩:∃m,n=m+1+1:=⟨n - 2,by grind⟩;have hi2:i=s.length:=by grind
   subst hi2;have e1:¬((s.length+1:Nat):Int)<=(s.length:Int):=by omega
   have e2:List.drop (s.length - pre.length) (List.take s.length s)=pre:=by grind
   have e3:V.wrap ((s.length:Int)+1)=((s.length+1:Nat):Int):=by grind [AU]
   have e4:(0:Int)<=((s.length - pre.length:Nat):Int)/\((s.length - pre.length:Nat):Int)<=(s.length:Int)/\(s.length:Int)<=(s.length:Int):=by omega
   grind [Lim,EL,A5]
  |cons b l ih=>
   intro pre q n i hd hi hp hs hq hn;obtain⟨n,rfl⟩:∃m,n=m+1:=⟨n - 1,by grind⟩;obtain⟨h1,h2,h3⟩:=B9 hd;simp only [jC] at hn;have e0:(i:Int)<=(s.length:Int):=by omega
   have e1:((i:Int)==(s.length:Int))=false:=by grind
   have e2:(0:Int)<=(i:Int)/\(i:Int)<(s.length:Int):=by omega
   have e3:V.wrap ((i:Int)+1)=((i+1:Nat):Int):=AM h1 (by omega);have eb:((b.toNat:Int)==32)=(b==32):=by
    rcases Decidable.em (b=32) with rfl|hne
    ·rfl
    ·have h8:¬(b.toNat:Int)=32:=fun e=>hne (UInt8.toNat_inj.1 (by grind))
     grind
   have hdr:s.drop (i+1)=l:=h3;cases hb:b==32
   ·have:=ih (pre++ [b]) q n (i+1) hdr (by omega) (by simp;omega) (by simp_all) (by omega) (by omega);simp only [jA,jC,jN] at this;rw [show i+1 - (pre.length+(0+1))=i - pre.length from by omega] at this;simp only [EL,Zz e0,jT,e1,jF,Zt e2,jI,AS h2,eb,hb,e3,this,A5]
   ·have:=ih [] (q++ [pre]) n (i+1) hdr (by omega) (by simp) (by simp [hdr]) (by simp;omega) (by omega);have e6:List.drop (i - pre.length) (List.take i s)=pre:=by
     rw [List.drop_take,hs,show i - (i - pre.length)=pre.length from by omega];simp
    have e4:(0:Int)<=((i - pre.length:Nat):Int)/\((i - pre.length:Nat):Int)<=(i:Int)/\(i:Int)<=(s.length:Int):=by omega
    have e5:length q+length [pre]<=Lim:=by grind [jN,Lim]
    simp only [jN,Nat.sub_zero] at this;simp only [EL,Zz e0,jT,e1,jF,Zt e2,jI,AS h2,eb,hb,e3,e6,Zt e4,Zt e5,this,A5,Z5,jO,jM]
 have:=key s [] [] N 0 rfl (Zg _) (Zn _) rfl (Zn _) (by omega)
 grind [Kw]
def BT(y:Val):Bool:=y.kind==1
def Br(n:Nat)(x:Val):Bool:=x.kind==3&&(x.list.length==n&&x.list.all BT)
def Kc(x:Val):Rowd:=⟨x.list.map Val.n,[]⟩
def CC(cs:List Str)(q:List Rowd)(l:List Val):Val:=bif l.all (Br cs.length) then .mk 5 0 0 [] [] cs (q++l.map Kc) else AO 4
def xNC{N K:Nat}{x:Val}(hx:x.list.length<=K)(hK:K<=137438953472)(hN:K<N):
 ∃q,OU N x=some (q,x.list.all BT&&(x.kind==3))/\(x.list.all BT=true->q=x.list.map Val.n):=by
 have:=A3 (L:=fun m i q=>Gw N m q i x) x.list (fun l q=>(q++(l.takeWhile BT).map Val.n,l.all BT&&(x.kind==3))) (fun i q=>q.length=i) (fun m q _=>by simp [Gw])
  (fun i y l q hd hi hy hq=>by
    have hq:q.length=i:=hq;have hi' :(i:Int)<(x.list.length:Int):=by omega
    cases hk:BT y
    ·grind [BT,Gw,List.takeWhile_cons]
    ·have hk' :(y.kind != 1)=false:=by grind [BT]
     refine .inl ⟨q++ [y.n],by grind,by simp_all,fun m=> ?_⟩
     grind [Gw,AM,Lim]) N 0 [] rfl (by omega) (by omega)
 refine⟨(x.list.takeWhile BT).map Val.n,by grind [OU],fun h=> ?_⟩;have tw:∀l:List Val,l.all BT=true->l.takeWhile BT=l:=by
  intro l
  induction l with
  |nil=>intro _;rfl
  |cons y l ih=>
   simp_all
 grind
def xNI{N K:Nat}{v z:Val}{cs:List Str}(hl:v.list.length<=K)(hv:∀x∈v.list,x.list.length<=K)(hK:K<=137438953472)(hN:K<N):
 EN N N 0 v z (.mk 5 0 0 [] [] cs [])=some (CC cs [] v.list):=
 A3 (L:=fun m i q=>EN N m i v z (.mk 5 0 0 [] [] cs q)) v.list (fun l q=>CC cs q l) (fun i q=>q.length=i) (fun m q _=>by simp [EN,CC])
  (fun i x l q hd hi hx hq=>by
    have hq:q.length=i:=hq;have hi' :(i:Int)<(v.list.length:Int):=by omega
    obtain⟨qs,n1,n2⟩:=xNC (N:=N) (hv x (Zy hx)) hK hN;cases hk:(x.list.all BT&&(x.kind==3))
    ·rw [hk] at n1;refine .inr fun m=> ?_;have hr:Br cs.length x=false:=by
      grind [Br]
     simp only [EN,Zz hi',jT,jI,AS hx,n1,jS,jV,AL,CC,List.all_cons,hr,ZY,jF];rw [Zt (by omega)];rfl
    ·rw [hk] at n1;simp only [Zu] at hk;have hqs:=n2 hk.1;have hlen:qs.length=x.list.length:=by grind
     cases hc:(x.list.length==cs.length)
     ·refine .inr fun m=> ?_;have hr:Br cs.length x=false:=by grind [Br]
      have hc' :((qs.length:Int) != (cs.length:Int))=true:=by grind
      simp only [EN,Zz hi',jT,jI,AS hx,n1,jS,jU,jF,vc,hc',AL,CC,List.all_cons,hr,ZY];rw [Zt (by omega)];rfl
     ·have hr:Br cs.length x=true:=by grind [Br]
      have hc' :((qs.length:Int) != (cs.length:Int))=false:=by grind
      refine .inl ⟨q++ [Kc x],by grind,by grind [CC],fun m=> ?_⟩;simp only [EN,Zz hi',jT,jI,AS hx,n1,jS,jU,jF,vk,vn,vs,vt,vl,vc,vr,hc',AM hi (by omega:v.list.length<=_)];rw [Zt (by omega),Zt (by grind [Lim]),hqs];rfl) N 0 [] rfl (by omega) (by omega)
def xIr{N K:Nat}{k8:List Val->Int->Int->Val->Val->Option (Val×Bool)}{X:List Val}{L0 j:Int}{z b:Val}{l:List Val}(hl:l.length<=K)(hK:K<=137438953472)(hN:K<N)(hb:b.rows.length<=K):
 Ei N k8 N X L0 j l l.length 0 z b (Rowd.mk [] [])=bif l.all BT then k8 X L0 (V.wrap (j+1)) z (.mk b.kind b.n b.step b.text b.list b.columns (b.rows++ [⟨l.map Val.n,[]⟩])) else some (AO 4,false):=by
 have key:∀(n i:Nat) (q:List Int),q.length=i->i<=l.length->l.length<n+i->Ei N k8 n X L0 j l l.length (i:Nat) z b (Rowd.mk q [])=bif(l.drop i).all BT then k8 X L0 (V.wrap (j+1)) z (.mk b.kind b.n b.step b.text b.list b.columns (b.rows++ [⟨q++(l.drop i).map Val.n,[]⟩])) else some (AO 4,false):=by
  intro n
  induction n with
  |zero=>grind
  |succ n ih=>
   intro i q hq hi hn;cases hd:l.drop i with
   |nil=>
    have hi2:i=l.length:=by grind
    grind [Ei,Lim]
   |cons y r=>
    obtain⟨h1,h2,h3⟩:=B9 hd;have hi' :(i:Int)<(l.length:Int):=by omega
    have:=ih (i+1) (q++ [y.n]) (by grind) (by omega) (by omega);rw [h3] at this;cases hk:BT y
    ·have hk' :(y.kind != 1)=true:=by grind [BT]
     simp only [Ei,Zz hi',jT,jI,AS h2,hk',AJ,jS,List.all_cons,hk,ZY,jF];rw [Zt (by omega)];rfl
    ·have hk' :(y.kind != 1)=false:=by grind [BT]
     simp only [Ei,Zz hi',jT,jI,AS h2,hk',jF,AM h1 (by omega:l.length<=_),List.all_cons,hk,ZV];rw [Zt (by omega),Zt (by grind [Lim]),this];simp
 have:=key N 0 [] rfl (Zg _) (by omega)
 grind
def xIz{N K:Nat}{l:List Val}{z:Val}{cs:List Str}(hl:l.length<=K)(hv:∀x∈l,x.list.length<=K)(hK:K<=137438953472)(hN:K<N):
 C3 N N l l.length 0 z (.mk 5 0 0 [] [] cs [])=some (CC cs [] l,false):=
 A3 (L:=fun m i q=>C3 N m l l.length i z (.mk 5 0 0 [] [] cs q)) l (fun r q=>(CC cs q r,false)) (fun i q=>q.length=i) (fun m q _=>by simp [C3,CC])
  (fun i x r q hd hi hx hq=>by
    have hq:q.length=i:=hq;have hi' :(i:Int)<(l.length:Int):=by omega
    have inner:=fun m=>xIr (N:=N) (k8:=fun z0 z1 z2 z3 z4=>C3 N m z0 z1 z2 z3 z4) (X:=l) (L0:=l.length) (j:=(i:Nat)) (z:=z) (b:= .mk 5 0 0 [] [] cs q) (hv x (Zy hx)) hK hN (by grind [vr]);simp only [vk,vn,vs,vt,vl,vc,vr] at inner;cases h1:(x.kind==3)
    ·refine .inr fun m=> ?_;have h1' :(x.kind != 3)=true:=by grind
     have hr:Br cs.length x=false:=by grind [Br]
     simp only [C3,Zz hi',jT,jI,AS hx,h1',AJ,jS,CC,List.all_cons,hr,ZY,jF];rw [Zt (by omega)];rfl
    ·have h1' :(x.kind != 3)=false:=by grind
     cases h2:(x.list.length==cs.length)
     ·refine .inr fun m=> ?_;have h2' :((x.list.length:Int) != (cs.length:Int))=true:=by grind
      have hr:Br cs.length x=false:=by grind [Br]
      simp only [C3,Zz hi',jT,jI,AS hx,h1',jF,vc,h2',AJ,jS,CC,List.all_cons,hr,ZY];rw [Zt (by omega)];rfl
     ·have h2' :((x.list.length:Int) != (cs.length:Int))=false:=by grind
      cases h3:x.list.all BT
      ·grind [Br,C3,jI,vc,CC]
      ·have hr:Br cs.length x=true:=by grind [Br]
       refine .inl ⟨q++ [Kc x],by grind,by grind [CC],fun m=> ?_⟩;simp only [C3,Zz hi',jT,jI,AS hx,h1',jF,vc,h2',inner,h3,AM hi (by omega:l.length<=_)];rw [Zt (by omega)];rfl) N 0 [] rfl (by omega) (by omega)
def FSq(a v:Val):Val×Bool:=bif(AW [2,3] [a,v]).2.1 then((AW [2,3] [a,v]).1,(AW [2,3] [a,v]).2.2) else
 (bif !B8 (A5 32 [] a.text) then AO 7 else CC (A5 32 [] a.text) [] v.list,false)
def xOi{K:Nat}(hK:24<=K/\K<=4294967000){a v:Val}(ha:a.Fit K)(hv:v.Fit K):Big fun N=>Jp N a v=some (FSq a v)/\Ky N a v=some (FSq a v).1:=by
 obtain⟨_,_,_,h5,_,_,_⟩:=Val.fit_iff.1 ha;obtain⟨_,_,_,_,h6,_,_⟩:=Val.fit_iff.1 hv;have ht:a.text.length<=K:=h5;refine((Dz (by omega) (vs:=[a,v]) (ks:=[2,3]) (E0 ha hv) (by grind) rfl).and (A2 (K+1))).imp fun N ⟨⟨h1,h2⟩,hN⟩=> ?_;obtain⟨e1,e2,e3,_⟩:=D7 (ks:=[2,3]) (E0 ha hv);have hfit:LFit (K+1) (Str.Fit (K+1)) (A5 32 [] a.text):=⟨ZT L1 (by omega),fun x hx=>by have:=xFT hx;simp only [jN] at this;show x.length<=_;omega⟩;have c1:=xAj (N:=N) hfit (by omega) hN;have c2:=xCy (N:=N) hfit (by omega) hN;have s1:=xAd (N:=N) (s:=a.text) (by omega);have s2:=xCj (N:=N) (s:=a.text) ht (by omega) hN;have hvl:∀x∈v.list,x.list.length<=K:=fun x hx=>(Val.fit_iff.1 (h6.2 x hx)).2.2.2.2.1.1;have l1:=xIz (N:=N) (z:=Val.mk 0 0 0 [] [] [] []) (cs:=A5 32 [] a.text) h6.1 hvl (by omega) (by omega);have l2:=xNI (N:=N) (v:=v) (z:=Val.mk 0 0 0 [] [] [] []) (cs:=A5 32 [] a.text) h6.1 hvl (by omega) (by omega);cases g1:(AW [2,3] [a,v]).2.1
 ·have htag:=Fz g1;refine⟨?_,?_⟩
  ·simp only [Jp,Val.re_eq,h1,jS,g1,htag,jF,s1,c1,AJ,l1,FSq];cases B8 (A5 32 [] a.text) <;>rfl
  ·simp only [Ky,Val.re_eq,h2,jS,g1,jF,s2,c2,AL,l2,FSq];cases B8 (A5 32 [] a.text) <;>rfl
 grind [Jp,Val.re_eq,CD,FSq,Ky]
def atR(at_:List Int)(r:Rowd):Rowd:=⟨at_.map fun k=>r.cells.getD k.toNat Di,r.frm⟩
def xIg{N K:Nat}{k17:List Int->List Rowd->Int->Int->Val->Val->Option (Val×Bool)}{at_ x8:List Int}{X:List Rowd}{a1 a2:Int}{z b:Val}{r:Rowd}{f:List Org}(hl:at_.length<=K)(hK:K<=137438953472)(hN:K<N)(hb:b.rows.length<=K)
 (hr:∀k∈at_,0<=k/\k<(r.cells.length:Int)):
 Fk N k17 N x8 X a1 a2 at_ at_.length 0 z b r (Rowd.mk [] f)=k17 x8 X a1 (V.wrap (a2+1)) z (.mk b.kind b.n b.step b.text b.list b.columns (b.rows++ [⟨at_.map fun k=>r.cells.getD k.toNat Di,f⟩])):=by
 have key:∀(n i:Nat) (q:List Int),q.length=i->i<=at_.length->at_.length<n+i->Fk N k17 n x8 X a1 a2 at_ at_.length (i:Nat) z b r (Rowd.mk q f)=
  k17 x8 X a1 (V.wrap (a2+1)) z (.mk b.kind b.n b.step b.text b.list b.columns (b.rows++ [⟨q++(at_.drop i).map fun k=>r.cells.getD k.toNat Di,f⟩])):=by
  intro n
  induction n with
  |zero=>grind
  |succ n ih=>
   intro i q hq hi hn;cases hd:at_.drop i with
   |nil=>
    have hi2:i=at_.length:=by grind
    subst hi2;simp only [Fk,Zd,Z9,jF,ZB,Z8];rw [Zt (by grind [Lim])]
   |cons y l=>
    obtain⟨h1,h2,h3⟩:=B9 hd;have hi' :(i:Int)<(at_.length:Int):=by omega
    have hy:=hr y (Zy h2);have:=ih (i+1) (q++ [r.cells.getD y.toNat Di]) (by grind) (by omega) (by omega);rw [h3] at this;simp only [Fk,Zz hi',jT,jI,AS h2,AM h1 (by omega:at_.length<=_)];rw [Zt (by omega),Zt hy,Zt (by grind [Lim]),this];simp
 have:=key N 0 [] rfl (Zg _) (by omega)
 grind
def xMZ{N K:Nat}{k12:List Str->Int->Val->Val->Val->Option Val}{cs:List Str}{j:Nat}{v z b:Val}{r:Rowd}{f:List Org}(hl:cs.length<=K)(hK:K<=137438953472)(hN:K<N)(hb:b.rows.length<=K)(hc:v.columns.length<=K)
 (hj:v.rows[j]? =some r) (hr:∀s∈cs,0<=AN v.columns s 0/\AN v.columns s 0<(r.cells.length:Int)):
 Gf N k12 N cs (j:Nat) 0 v z b (Rowd.mk [] f)=k12 cs (V.wrap ((j:Nat)+1)) v z (.mk b.kind b.n b.step b.text b.list b.columns (b.rows++ [⟨cs.map fun s=>r.cells.getD (AN v.columns s 0).toNat Di,f⟩])):=by
 have hjl:=(Zs.1 hj).1
 have key:∀(n i:Nat) (q:List Int),q.length=i->i<=cs.length->cs.length<n+i->Gf N k12 n cs (j:Nat) (i:Nat) v z b (Rowd.mk q f)=
  k12 cs (V.wrap ((j:Nat)+1)) v z (.mk b.kind b.n b.step b.text b.list b.columns (b.rows++ [⟨q++(cs.drop i).map fun s=>r.cells.getD (AN v.columns s 0).toNat Di,f⟩])):=by
  intro n
  induction n with
  |zero=>grind
  |succ n ih=>
   intro i q hq hi hn;cases hd:cs.drop i with
   |nil=>
    have hi2:i=cs.length:=by grind [HI]
    subst hi2;simp only [Gf,Zd,Z9,jF,ZB,Z8];rw [Zt (by grind [Lim])]
   |cons y l=>
    obtain⟨h1,h2,h3⟩:=B9 hd;have hi' :(i:Int)<(cs.length:Int):=by omega
    have hy:=hr y (Zy h2);have:=ih (i+1) (q++ [r.cells.getD (AN v.columns y 0).toNat Di]) (by grind) (by omega) (by omega);rw [h3] at this;simp only [Gf,Zz hi',jT,jI,AS h2,AS hj,AM h1 (by omega:cs.length<=_),Cs (N:=N) (v:=v) (s:=y) (by omega) (by omega),jS];rw [Zt (by omega),Zt (by omega),Zt hy,Zt (by grind [Lim]),this];simp
 have:=key N 0 [] rfl (Zg _) (by omega)
 grind
def xIf{N K:Nat}{rs:List Rowd}{at_:List Int}{z:Val}{cs:List Str}(hl:rs.length<=K)(ha:at_.length<=K)(hK:K<=137438953472)(hN:K<N)(hf:∀r∈rs,r.frm.length<=K)(hr:∀r∈rs,∀k∈at_,0<=k/\k<(r.cells.length:Int)):
 Dd N N at_ rs rs.length 0 z (.mk 5 0 0 [] [] cs [])=some (.mk 5 0 0 [] [] cs (rs.map (atR at_)),false):=
 A3 (L:=fun m i q=>Dd N m at_ rs rs.length i z (.mk 5 0 0 [] [] cs q)) rs (fun l q=>(Val.mk 5 0 0 [] [] cs (q++l.map (atR at_)),false)) (fun i q=>q.length=i) (fun m q _=>by simp [Dd])
  (fun i x l q hd hi hx hq=>by
    have hq:q.length=i:=hq;have hi' :(i:Int)<(rs.length:Int):=by omega
    have hm:=Zy hx;have hfx:=hf x hm;have inner:=fun m=>xIg (N:=N) (k17:=fun z0 z1 z2 z3 z4 z5=>Dd N m z0 z1 z2 z3 z4 z5) (at_:=at_) (x8:=at_) (X:=rs) (a1:=rs.length) (a2:=(i:Nat)) (z:=z) (b:= .mk 5 0 0 [] [] cs q) (r:=x) (f:=[]++x.frm) ha hK hN (by grind [vr]) (hr x hm);simp only [vk,vn,vs,vt,vl,vc,vr] at inner;refine .inl ⟨q++ [atR at_ x],by grind,by simp,fun m=> ?_⟩;simp only [Dd,Zz hi',jT,jI,AS hx,inner,AM hi (by omega:rs.length<=_)];rw [Zt (by omega),Zt (by grind [Lim])];rfl) N 0 [] rfl (by omega) (by omega)
def xMY{N K:Nat}{v z:Val}{cs:List Str}(hl:v.rows.length<=K)(ha:cs.length<=K)(hc:v.columns.length<=K)(hK:K<=137438953472)(hN:K<N)(hf:∀r∈v.rows,r.frm.length<=K)
 (hr:∀r∈v.rows,∀s∈cs,0<=AN v.columns s 0/\AN v.columns s 0<(r.cells.length:Int)):
 EI N N cs 0 v z (.mk 5 0 0 [] [] cs [])=some (.mk 5 0 0 [] [] cs (v.rows.map (atR (cs.map fun s=>AN v.columns s 0)))):=
 A3 (L:=fun m i q=>EI N m cs i v z (.mk 5 0 0 [] [] cs q)) v.rows (fun l q=>Val.mk 5 0 0 [] [] cs (q++l.map (atR (cs.map fun s=>AN v.columns s 0)))) (fun i q=>q.length=i) (fun m q _=>by simp [EI])
  (fun i x l q hd hi hx hq=>by
    have hq:q.length=i:=hq;have hi' :(i:Int)<(v.rows.length:Int):=by omega
    have hm:=Zy hx;have hfx:=hf x hm;have inner:=fun m=>xMZ (N:=N) (k12:=fun z0 z1 z2 z3 z4=>EI N m z0 z1 z2 z3 z4) (cs:=cs) (j:=i) (v:=v) (z:=z) (b:= .mk 5 0 0 [] [] cs q) (r:=x) (f:=[]++x.frm) ha hK hN (by grind [vr]) hc hx (hr x hm);simp only [vk,vn,vs,vt,vl,vc,vr] at inner;refine .inl ⟨q++ [atR (cs.map fun s=>AN v.columns s 0) x],by grind,by simp,fun m=> ?_⟩;simp only [EI,Zz hi',jT,jI,AS hx,inner,AM hi (by omega:v.rows.length<=_)];rw [Zt (by omega),Zt (by grind [Lim])];simp only [atR,Yi,jM];rfl) N 0 [] rfl (by omega) (by omega)
def Bb(cols:List Str)(s:Str):Bool:= !decide (AN cols s 0<0)
def Cl(cs:List Str)(v:Val):Val:=bif cs.all (Bb v.columns)&&Bu cs then .mk 5 0 0 [] [] cs (v.rows.map (atR (cs.map fun s=>AN v.columns s 0))) else AO 7
def xIe{N K:Nat}{v z:Val}{cs:List Str}(hl:cs.length<=K)(hc:v.columns.length<=K)(hK:K<=137438953472)(hN:K<N)
 (hb:∀at_,at_=cs.map (fun s=>AN v.columns s 0)->(∀s∈cs,Bb v.columns s=true)->Dd N N at_ v.rows v.rows.length 0 z (.mk 5 0 0 [] [] cs [])=some (.mk 5 0 0 [] [] cs (v.rows.map (atR at_)),false)):
 Df N N [] cs cs.length 0 v z (.mk 5 0 0 [] [] cs [])=some (Cl cs v,false):=by
 have key:∀(n i:Nat) (q:List Int),q=(cs.take i).map (fun s=>AN v.columns s 0)->(∀s∈cs.take i,Bb v.columns s=true)->i<=cs.length->cs.length<n+i->
  Df N n q cs cs.length (i:Nat) v z (.mk 5 0 0 [] [] cs [])=some (Cl cs v,false):=by
  intro n
  induction n with
  |zero=>grind
  |succ n ih=>
   intro i q hq hok hi hn;cases hd:cs.drop i with
   |nil=>
    have hi2:i=cs.length:=by have:=HI hd;omega
    subst hi2;rw [YV] at hq hok;have hall:cs.all (Bb v.columns)=true:=Zx.2 hok;simp only [Df,Zd,Z9,jF,vc,PE (N:=N) (xs:=cs) (by omega) (by omega),jS,AJ,hb q hq hok,Cl,hall,ZV];subst hq;cases Bu cs <;>rfl
   |cons y l=>
    obtain⟨h1,h2,h3⟩:=B9 hd;have hi' :(i:Int)<(cs.length:Int):=by omega
    have htk:cs.take (i+1)=cs.take i++ [y]:=by grind
    have hql:q.length<=K:=by grind
    by_cases hneg:AN v.columns y 0<0
    ·have hall:cs.all (Bb v.columns)=false:=by
      rw [List.all_eq_false];exact⟨y,Zy h2,by grind [Bb]⟩
     simp only [Df,Zz hi',jT,jI,AS h2,D9 (N:=N) (v:=v) (s:=y) (by omega) (by omega),jS,Zz hneg,AJ,Cl,hall,ZY,jF];rw [Zt (by omega)];rfl
    ·have hok' :∀s∈cs.take (i+1),Bb v.columns s=true:=by
      grind [Bb]
     have:=ih (i+1) (q++ [AN v.columns y 0]) (by grind) hok' (by omega) (by omega);simp only [Df,Zz hi',jT,jI,AS h2,D9 (N:=N) (v:=v) (s:=y) (by omega) (by omega),jS,Zw hneg,jF,AM h1 (by omega:cs.length<=_)];rw [Zt (by omega),Zt (by grind [Lim]),this]
 exact key N 0 [] rfl (fun s hs=>by grind) (Zg _) (by omega)
def xMX{N K:Nat}{v z:Val}{cs:List Str}(hne:cs≠ [])(hl:cs.length<=K)(hc:v.columns.length<=K)(hK:K<=137438953472)(hN:K<N)
 (hb:(∀s∈cs,Bb v.columns s=true)->EI N N cs 0 v z (.mk 5 0 0 [] [] cs [])=some (.mk 5 0 0 [] [] cs (v.rows.map (atR (cs.map fun s=>AN v.columns s 0))))):
 EJ N N cs 0 v z (.mk 5 0 0 [] [] cs [])=some (Cl cs v):=by
 have key:∀(n i:Nat),(∀s∈cs.take i,Bb v.columns s=true)->(i=0\/Bu cs=true)->i<=cs.length->cs.length<n+i->
  EJ N n cs (i:Nat) v z (.mk 5 0 0 [] [] cs [])=some (Cl cs v):=by
  intro n
  induction n with
  |zero=>grind
  |succ n ih=>
   intro i hok hdi hi hn;cases hd:cs.drop i with
   |nil=>
    have hi2:i=cs.length:=by have:=HI hd;omega
    grind [EJ,Cl]
   |cons y l=>
    obtain⟨h1,h2,h3⟩:=B9 hd;have hi' :(i:Int)<(cs.length:Int):=by omega
    have htk:cs.take (i+1)=cs.take i++ [y]:=by grind
    by_cases hneg:AN v.columns y 0<0
    ·have hall:cs.all (Bb v.columns)=false:=by
      rw [List.all_eq_false];exact⟨y,Zy h2,by grind [Bb]⟩
     simp only [EJ,Zz hi',jT,jI,AS h2,Cs (N:=N) (v:=v) (s:=y) (by omega) (by omega),jS,Zz hneg,AL,Cl,hall,ZY,jF];rw [Zt (by omega)];rfl
    ·cases hdd:Bu cs
     ·simp only [EJ,Zz hi',jT,jI,AS h2,Cs (N:=N) (v:=v) (s:=y) (by omega) (by omega),jS,Zw hneg,jF,Nq (N:=N) (xs:=cs) (by omega) (by omega),hdd,jV,AL,Cl,Bool.and_false];rw [Zt (by omega)];rfl
     grind [Bb,List.mem_singleton,EJ,jI,Cs,Nq,AM]
 exact key N 0 (fun s hs=>by grind) (.inl rfl) (Zg _) (by omega)
def Fy(a v:Val):Val×Bool:=bif(AW [2,5] [a,v]).2.1 then((AW [2,5] [a,v]).1,(AW [2,5] [a,v]).2.2) else(Cl (A5 32 [] a.text) v,false)
def PD{cols:List Str}{s:Str}(h:Bb cols s=true):0<=AN cols s 0/\AN cols s 0<(cols.length:Int):=by
 grind [Bb,Jd]
def xIV{K:Nat}(hK:24<=K/\K<=4294967000){a v:Val}(ha:a.Fit K)(hv:v.Fit K):Big fun N=>Jl N a v=some (Fy a v)/\Kt N a v=some (Fy a v).1:=by
 obtain⟨_,_,_,h5,_,_,_⟩:=Val.fit_iff.1 ha;obtain⟨_,_,_,_,_,h6,h7⟩:=Val.fit_iff.1 hv;have ht:a.text.length<=K:=h5;have hcl:v.columns.length<=K:=h6.1;have hrl:v.rows.length<=K:=h7.1;refine((Dz (by omega) (vs:=[a,v]) (ks:=[2,5]) (E0 ha hv) (by grind) rfl).and (A2 (K+1))).imp fun N ⟨⟨h1,h2⟩,hN⟩=> ?_;obtain⟨e1,e2,e3,_⟩:=D7 (ks:=[2,5]) (E0 ha hv);have hlen:(A5 32 [] a.text).length<=K+1:=ZT L1 (by omega);have s1:=xAd (N:=N) (s:=a.text) (by omega);have s2:=xCj (N:=N) (s:=a.text) ht (by omega) hN;cases g1:(AW [2,5] [a,v]).2.1
 ·have htag:=Fz g1;obtain⟨g2,g3⟩:=Bn g1;have hrows:=HA (g2 v (by simp)) (kb2 g3).2;have hat:(∀s∈A5 32 [] a.text,Bb v.columns s=true)->∀r∈v.rows,∀s∈A5 32 [] a.text,0<=AN v.columns s 0/\AN v.columns s 0<(r.cells.length:Int):=fun h r hr s hs=>by
   rw [hrows r hr];exact PD (h s hs)
  have hfr:∀r∈v.rows,r.frm.length<=K+1:=fun r hr=>ZT (h7.2 r hr).2.1 (by omega)
  have l1:=xIe (N:=N) (K:=K+1) (v:=v) (z:=Val.mk 0 0 0 [] [] [] []) (cs:=A5 32 [] a.text) hlen (by omega) (by omega) hN (fun at_ e h=>xIf (K:=K+1) (by omega) (by grind) (by omega) hN hfr (fun r hr k hk=>by
   grind))
  have l2:=xMX (N:=N) (K:=K+1) (v:=v) (z:=Val.mk 0 0 0 [] [] [] []) (cs:=A5 32 [] a.text) SN hlen (by omega) (by omega) hN (fun h=>xMY (K:=K+1) (by omega) hlen (by omega) (by omega) hN hfr (hat h))
  grind [Jl,Val.re_eq,Fy,Kt]
 grind [Jl,Val.re_eq,CD,Fy,Kt]
theorem JW{v:Val}(hv:AP v=true)(hk:v.kind=5):B8 v.columns=true/\v.rows.length<=12:=by
 grind [BH,Ar]
theorem Jc{s:Str}:∀ {xs:List Str} {j:Nat},0<=AN xs s j->s∈xs
 | [],j,h=>by grind [AN]
 |x::r,j,h=>by
  simp only [AN] at h;cases hx:x==s
  ·rw [hx] at h;exact Zr _ (Jc h)
  grind
theorem Oe(a b:Org):F6 a b=olt a b:=by
 grind [F6,olt]
def SO(l:List Org):Prop:=l.Pairwise fun x y=>olt x y=true
theorem Q3{x y z:Org}(h:olt x y=true)(g:olt y z=true):olt x z=true:=EG.trans _ _ _ h g
theorem Q1{x y:Org}(h:olt x y=true):olt y x=false:=by
 grind [olt]
theorem xKU{x y:Org}(h:olt x y=true):x≠y:=by rintro rfl;rw [EG.irrefl] at h;cases h
def xB3:∀ {l m:List Org},SO l->SO m->(∀x,x∈l↔x∈m)->l=m
 | [],[],_,_,_=>rfl
 | [],y::m,_,_,h=>absurd ((h y).2 Zp) (by simp)
 |x::l,[],_,_,h=>absurd ((h x).1 Zp) (by simp)
 |x::l,y::m,hl,hm,h=>by
  unfold SO at hl hm;rw [Z7] at hl hm;have e:x=y:=by
   grind [List.mem_cons_self,Q1]
  subst e;refine Zl (x:: ·) (xB3 hl.2 hm.2 fun z=>⟨fun hz=> ?_,fun hz=> ?_⟩)
  all_goals grind [xKU]
theorem Rh{xs:List Org}(h:C0 xs=true):SO xs:=by
 have adj:∀i (hi:i+1<xs.length),olt xs[i] xs[i+1]=true:=fun i hi=>by
  have:=F3 h (i+1) xs[i+1] (Zv hi)
  grind [F5,Oe]
 have far:∀(m i:Nat) (hi:i+1+m<xs.length),olt (xs[i]'(by omega)) xs[i+1+m]=true:=by
  intro m
  induction m with
  |zero=>grind
  |succ m ih=>grind [Q3]
 unfold SO;rw [Yw];intro i j hi hj hij;have:=far (j - i - 1) i (by omega)
 grind
theorem Ol:∀(os acc:List Org),acc.Nodup->(os.foldl tY acc).Nodup/\∀x,x∈os.foldl tY acc↔x∈acc\/x∈os
 | [],acc,h=>⟨h,fun x=>by simp⟩
 |o::os,acc,h=>by
  rw [List.foldl_cons];have hs:(tY acc o).Nodup/\∀x,x∈tY acc o↔x∈acc\/x=o:=by
   grind [tY]
  obtain⟨i1,i2⟩:=Ol os (tY acc o) hs.1
  grind
theorem N6{a b:List Org}{x:Org}:x∈rM a b↔x∈a\/x∈b:=by
 grind [rM,List.mem_mergeSort,ded,Ol]
theorem RZ(a b:List Org):SO (rM a b):=by
 have hs:(rM a b).Pairwise fun x y=>(!olt y x)=true:=YN (fun x y z h1 h2=>by
  simp only [ZF] at h1 h2 ⊢;exact EG.ntrans _ _ _ h2 h1) (fun x y=>by
  grind [Q1]) _
 have hn:(rM a b).Nodup:=(Y4 _ _).nodup_iff.2 (Ol (a++b) [] YS).1;refine(hs.and hn).imp fun {x y} h=> ?_
 grind [Q0]
theorem xOB(a b:List Org):(rM a b).length<=a.length+b.length:=by
 unfold rM;rw [Y7];have:∀(os acc:List Org),(os.foldl tY acc).length<=acc.length+os.length:=by
  intro os
  induction os with
  |nil=>grind
  |cons o os ih=>
   grind [tY]
 grind [ded]
def mrg:List Org->List Org->List Org
 | [],y=>y
 |a::x,[]=>a::x
 |a::x,b::y=>bif olt a b then a::mrg x (b::y) else bif olt b a then b::mrg (a::x) y else a::mrg x y
termination_by x y=>x.length+y.length
theorem xKI(x:List Org):mrg x []=x:=by cases x <;>simp [mrg]
def xKH:∀(n:Nat) (x y:List Org),x.length+y.length<=n->SO x->SO y->SO (mrg x y)/\∀z,z∈mrg x y↔z∈x\/z∈y:=by
 intro n
 induction n with
 |zero=>
  grind [List.length_eq_zero_iff,mrg]
 |succ n ih=>
  intro x y h hx hy;cases x with
  |nil=>grind [mrg]
  |cons a x=>
   cases y with
   |nil=>grind [mrg]
   |cons b y=>
    have hx' :SO x:=(Z7.1 hx).2;have hy' :SO y:=(Z7.1 hy).2;have hax:=(Z7.1 hx).1;have hby:=(Z7.1 hy).1;simp only [jC] at h;rw [mrg];cases h1:olt a b with
    |true=>
     obtain⟨i1,i2⟩:=ih x (b::y) (by grind) hx' hy;rw [jT];refine⟨Z7.2 ⟨fun z hz=> ?_,i1⟩,fun z=> ?_⟩
     all_goals grind [Q3]
    |false=>
     rw [jF];cases h2:olt b a with
     |true=>
      obtain⟨i1,i2⟩:=ih (a::x) y (by grind) hx hy';rw [jT];refine⟨Z7.2 ⟨fun z hz=> ?_,i1⟩,fun z=> ?_⟩
      all_goals grind [Q3]
     |false=>
      have e:=Q0 a b h1 h2;subst e;obtain⟨i1,i2⟩:=ih x y (by omega) hx' hy';rw [jF];refine⟨Z7.2 ⟨fun z hz=> ?_,i1⟩,fun z=> ?_⟩
      all_goals grind
def xBj{x y:List Org}(hx:SO x)(hy:SO y):mrg x y=rM x y:=by
 obtain⟨h1,h2⟩:=xKH _ x y (Zn _) hx hy;exact xB3 h1 (RZ x y) fun z=>(h2 z).trans N6.symm
def xIX{N:Nat}{x y:List Org}(hl:x.length+y.length<=137438953472):∀(n i j:Nat) (acc:List Org),i<=x.length->j<=y.length->(x.length - i)+(y.length - j)<n->acc.length<=i+j->
 B0 N n x y acc (i:Int) (j:Int)=some (acc++mrg (x.drop i) (y.drop j)):=by
 intro n
 induction n with
 |zero=>grind
 |succ n ih=>
  intro i j acc hi hj hn hacc;have lim:∀(o:Org),length acc+length [o]<=Lim:=fun o=>by grind [Lim]
  have sx:∀a,x.drop i=a::x.drop (i+1)->i<x.length->B0 N n x y (acc++ [a]) (IntKind.i64.wrap ((i:Int)+1)) (j:Int)=some (acc++a::mrg (x.drop (i+1)) (y.drop j)):=by
   intro a _ hlt;rw [wn (i+1) (by omega) (by omega),ih (i+1) j (acc++ [a]) hlt hj (by omega) (by grind)];simp
  have sy:∀b,y.drop j=b::y.drop (j+1)->j<y.length->B0 N n x y (acc++ [b]) (i:Int) (IntKind.i64.wrap ((j:Int)+1))=some (acc++b::mrg (x.drop i) (y.drop (j+1))):=by
   intro b _ hlt;rw [wn (j+1) (by omega) (by omega),ih i (j+1) (acc++ [b]) hi hlt (by omega) (by grind)];simp
  by_cases h1:i<x.length
  ·have d1:(decide ((i:Int)<(x.length:Int)))=true:=Zz (by omega);have ex:x.drop i=x[i]::x.drop (i+1):=ZH h1;have gx:x.getD (toNat (i:Int)) Do=x[i]:=by grind [jI]
   by_cases h2:j<y.length
   ·have ey:y.drop j=y[j]::y.drop (j+1):=ZH h2;have gy:y.getD (toNat (j:Int)) Do=y[j]:=by grind [jI]
    have e2:((j:Int)==(y.length:Int))=false:=ZR.2 (by omega);have e3:((i:Int)==(x.length:Int))=false:=ZR.2 (by omega);have n1:(0:Int)<=i/\(i:Int)<(x.length:Int):=by omega
    have n2:(0:Int)<=j/\(j:Int)<(y.length:Int):=by omega
    simp only [B0,d1,e2,e3,jT,jF,Zt n1,Zt n2,gx,gy,RN,jS,Oe,Zt (lim _)];rw [ex,ey,mrg];cases h3:olt x[i] y[j] with
    |true=>grind
    |false=>
     rw [jF,jF];cases h4:olt y[j] x[i] with
     |true=>grind
     |false=>
      rw [jF,jF,wn (i+1) (by omega) (by omega),wn (j+1) (by omega) (by omega),ih (i+1) (j+1) (acc++ [x[i]]) (by omega) (by omega) (by omega) (by grind)];simp
   ·have ej:j=y.length:=by omega
    have e2:((j:Int)==(y.length:Int))=true:=by grind
    have n1:(0:Int)<=i/\(i:Int)<(x.length:Int):=by omega
    grind [B0,xKI]
  ·have ei:i=x.length:=by omega
   have d1:(decide ((i:Int)<(x.length:Int)))=false:=Zw (by omega);by_cases h2:j<y.length
   ·have ey:y.drop j=y[j]::y.drop (j+1):=ZH h2;have gy:y.getD (toNat (j:Int)) Do=y[j]:=by grind [jI]
    have d2:(decide ((j:Int)<(y.length:Int)))=true:=Zz (by omega);have e2:((j:Int)==(y.length:Int))=false:=ZR.2 (by omega);have e3:((i:Int)==(x.length:Int))=true:=by grind
    have n2:(0:Int)<=j/\(j:Int)<(y.length:Int):=by omega
    grind [B0,mrg]
   grind [B0,mrg]
def xCK{N:Nat}{x y:List Org}(hx:SO x)(hy:SO y)(hl:x.length+y.length<=137438953472)(hN:x.length+y.length<N):LF N x y=some (rM x y):=by
 unfold LF;rw [<-xBj hx hy];exact xIX hl N 0 0 [] (Zg _) (Zg _) (by omega) (Zg _)
theorem xHP{N:Nat}{x y:List Org}(hl:x.length+y.length<=1000000000000):MH N x y=some (rM x y):=by
 grind [MH,AH]
def EH(k:Nat)(r t:Rowd):Rowd:=⟨(r.cells++t.cells.take k)++t.cells.drop (k+1),rM r.frm t.frm⟩
def jr(i k:Nat)(r:Rowd):List Rowd->List Rowd
 | []=> []
 |t::ts=>bif r.cells.getD i Di==t.cells.getD k Di then EH k r t::jr i k r ts else jr i k r ts
def jrs(i k:Nat)(ts:List Rowd):List Rowd->List Rowd
 | []=> []
 |r::rs=>jr i k r ts++jrs i k ts rs
theorem P2{i k:Nat}{r:Rowd}:∀ {ts:List Rowd},(jr i k r ts).length<=ts.length
 | []=>Zn _
 |t::ts=>by
  have:=P2 (i:=i) (k:=k) (r:=r) (ts:=ts)
  grind [jr]
def E6(K k:Nat)(ts:List Rowd):Prop:=∀t∈ts,k<t.cells.length/\t.cells.length<=K/\t.frm.length<=K
def xId{N K:Nat}{k13:Int->Int->List Rowd->Int->Int->Val->Val->Val->Option (Val×Bool)}{i k:Nat}{X:List Rowd}{a1 a2:Int}{ts:List Rowd}{v z:Val}{cs:List Str}{r:Rowd}(hK:K<=4294967296)(hN:K<N)(hl:ts.length<=K)
 (hr:i<r.cells.length/\r.cells.length<=K/\r.frm.length<=K) (ht:E6 K k ts):∀(n j:Nat) (q:List Rowd),q.length+(ts.length - j)<=8589934592->j<=ts.length->ts.length<n+j->
 Fj N k13 n (i:Int) (k:Int) X a1 a2 ts (ts.length:Int) (j:Int) v z (.mk 5 0 0 [] [] cs q) r=k13 (i:Int) (k:Int) X a1 (V.wrap (a2+1)) v z (.mk 5 0 0 [] [] cs (q++jr i k r (ts.drop j))):=by
 intro n
 induction n with
 |zero=>grind
 |succ n ih=>
  intro j q hq hj hn;cases hd:ts.drop j with
  |nil=>
   grind [Fj,jr]
  |cons t l=>
   obtain⟨h1,h2,h3⟩:=B9 hd;have hj' :(j:Int)<(ts.length:Int):=by omega
   obtain⟨t1,t2,t3⟩:=ht t (Zy h2);have w:V.wrap ((k:Int)+1)=((k+1:Nat):Int):=wn _ (by omega) (by omega);have g:(List.getD r.cells i Di != List.getD t.cells k Di)= !(List.getD r.cells i Di==List.getD t.cells k Di):=rfl;simp only [Fj,Zz hj',jT,jI,AS h2,AM h1 (by omega:ts.length<=_),w,jr,jM,Zc,g,vk,vn,vs,vt,vl,vc,vr];rw [Zt (by omega),Zt (by omega),Zt (by omega)];cases (List.getD r.cells i Di==List.getD t.cells k Di) with
   |false=>
    grind
   |true=>
    have:=ih (j+1) (q++ [EH k r t]) (by grind) (by omega) (by omega)
    grind [xHP,Lim,EH]
def Dw(cs:List Str)(rows:List Rowd):Val:=bif decide ((rows.length:Int)>12) then AO 6 else .mk 5 0 0 [] [] cs rows
def xIc{N K:Nat}{i k:Nat}{rs:List Rowd}{v z:Val}{cs:List Str}(hK:K<=4294967296)(hN:K<N)(hK24:24<=K)(hrs:rs.length<=12)(hts:v.rows.length<=12)(hr:E6 K i rs)(ht:E6 K k v.rows):
 Dc N N (i:Int) (k:Int) rs (rs.length:Int) 0 v z (.mk 5 0 0 [] [] cs [])=some (Dw cs (jrs i k v.rows rs),false):=
 A3 (L:=fun m j q=>Dc N m (i:Int) (k:Int) rs (rs.length:Int) j v z (.mk 5 0 0 [] [] cs q)) rs (fun l q=>(Dw cs (q++jrs i k v.rows l),false)) (fun j q=>q.length<=12*j)
  (fun m q _=>by
    simp only [Dc,Zd,Z9,jF,jrs,Z8,Dw,AJ,jS];show(bif decide ((q.length:Int)>12) then some (AO 6,false) else some (Val.mk 5 0 0 [] [] cs q,false))=some (bif decide ((q.length:Int)>12) then AO 6 else Val.mk 5 0 0 [] [] cs q,false)
    grind)
  (fun j x l q hd hj hx hq=>by
    have hq:q.length<=12*j:=hq;have hj' :(j:Int)<(rs.length:Int):=by omega
    have inner:=fun m=>xId (N:=N) (k13:=fun z0 z1 z2 z3 z4 z5 z6 z7=>Dc N m z0 z1 z2 z3 z4 z5 z6 z7) (i:=i) (k:=k) (X:=rs) (a1:=rs.length) (a2:=(j:Nat)) (ts:=v.rows) (v:=v) (z:=z) (cs:=cs) (r:=x) hK hN (by omega) (hr x (Zy hx)) ht N 0 q (by omega) (Zg _) (by omega);refine .inl ⟨q++jr i k x v.rows,by grind [P2],by simp [jrs],fun m=> ?_⟩
    grind [Dc,jI,AM]) N 0 [] (by simp) (by omega) (by omega)
theorem xNE{N K k:Nat}{r t:Rowd}(hK:K<=4294967296)(hN:2*K<N)(hr:r.cells.length<=K/\r.frm.length<=K)(ht:k<t.cells.length/\t.cells.length<=K/\t.frm.length<=K)(h1:SO r.frm)(h2:SO t.frm):
 OV N r t (k:Int)=some (EH k r t):=by
 have w:V.wrap ((k:Int)+1)=((k+1:Nat):Int):=wn _ (by omega) (by omega);simp only [OV,w,jI,jM,Zc,xCK (N:=N) h1 h2 (by omega) (by omega),jS];rw [Zt (by grind [Lim]),Zt (by omega),Zt (by grind [Lim]),Zt (by omega),Zt (by grind [Lim])]
 rfl
def xMW{N K:Nat}{k15:Int->Int->Int->Val->Val->Val->Val->Option Val}{i k:Nat}{j0:Nat}{u v z:Val}{cs:List Str}{r:Rowd}(hK:K<=4294967296)(hN:2*K<N)(hl:v.rows.length<=K)(hj0:u.rows[j0]? =some r)
 (hr:i<r.cells.length/\r.cells.length<=K/\r.frm.length<=K) (ht:E6 K k v.rows) (s1:SO r.frm) (s2:∀t∈v.rows,SO t.frm):∀(n j:Nat) (q:List Rowd),q.length+(v.rows.length - j)<=8589934592->j<=v.rows.length->v.rows.length<n+j->
 Gd N k15 n (i:Int) (k:Int) (j0:Int) (j:Int) u v z (.mk 5 0 0 [] [] cs q)=k15 (i:Int) (k:Int) (V.wrap ((j0:Int)+1)) u v z (.mk 5 0 0 [] [] cs (q++jr i k r (v.rows.drop j))):=by
 have hj0l:=(Zs.1 hj0).1;intro n
 induction n with
 |zero=>grind
 |succ n ih=>
  intro j q hq hj hn;cases hd:v.rows.drop j with
  |nil=>
   grind [Gd,jr]
  |cons t l=>
   obtain⟨h1,h2,h3⟩:=B9 hd;have hj' :(j:Int)<(v.rows.length:Int):=by omega
   have hm:=Zy h2;obtain⟨t1,t2,t3⟩:=ht t hm;simp only [Gd,Zz hj',jT,jI,AS h2,AS hj0,AM h1 (by omega:v.rows.length<=_),jr,vk,vn,vs,vt,vl,vc,vr];rw [Zt (by omega),Zt (by omega),Zt (by omega),Zt (by omega)];cases (List.getD r.cells i Di==List.getD t.cells k Di) with
   |false=>
    grind
   |true=>
    have:=ih (j+1) (q++ [EH k r t]) (by grind) (by omega) (by omega)
    grind [xNE,Lim]
def xMV{N K:Nat}{i k:Nat}{u v z:Val}{cs:List Str}(hK:K<=4294967296)(hN:2*K<N)(hK24:24<=K)(hrs:u.rows.length<=12)(hts:v.rows.length<=12)(hr:E6 K i u.rows)(ht:E6 K k v.rows)(s1:∀t∈u.rows,SO t.frm)(s2:∀t∈v.rows,SO t.frm):
 FL N N (i:Int) (k:Int) 0 u v z (.mk 5 0 0 [] [] cs [])=some (Dw cs (jrs i k v.rows u.rows)):=
 A3 (L:=fun m j q=>FL N m (i:Int) (k:Int) j u v z (.mk 5 0 0 [] [] cs q)) u.rows (fun l q=>Dw cs (q++jrs i k v.rows l)) (fun j q=>q.length<=12*j)
  (fun m q _=>by
    simp only [FL,Zd,Z9,jF,jrs,Z8,Dw,AL,jS];show(bif decide ((q.length:Int)>12) then some (AO 6) else some (Val.mk 5 0 0 [] [] cs q))=some (bif decide ((q.length:Int)>12) then AO 6 else Val.mk 5 0 0 [] [] cs q)
    grind)
  (fun j x l q hd hj hx hq=>by
    have hq:q.length<=12*j:=hq;have hj' :(j:Int)<(u.rows.length:Int):=by omega
    have hm:=Zy hx;have inner:=fun m=>xMW (N:=N) (k15:=fun z0 z1 z2 z3 z4 z5 z6=>FL N m z0 z1 z2 z3 z4 z5 z6) (i:=i) (k:=k) (j0:=j) (u:=u) (v:=v) (z:=z) (cs:=cs) (r:=x) hK hN (by omega) hx (hr x hm) ht (s1 x hm) s2 N 0 q (by omega) (Zg _) (by omega);refine .inl ⟨q++jr i k x v.rows,by grind [P2],by simp [jrs],fun m=> ?_⟩
    grind [FL,AM]) N 0 [] (by simp) (by omega) (by omega)
def Je{s:Str}:∀ {xs:List Str} {j:Nat},(AN xs s j= -1/\s ∉ xs)\/∃k,k<xs.length/\AN xs s j=((j+k:Nat):Int)/\xs[k]? =some s/\s ∉ xs.take k
 | [],j=> .inl ⟨rfl,by simp⟩
 |x::r,j=>by
  simp only [AN];cases hx:x==s
  ·have hne:s≠x:=by grind
   rcases Je (s:=s) (xs:=r) (j:=j+1) with ⟨h1,h2⟩|⟨k,h1,h2,h3,h4⟩
   ·grind
   ·refine .inr ⟨k+1,by grind,by grind,by grind,by grind⟩
  grind
def xFY{xs:List Str}(h:Bu xs=true):xs.Nodup:=by
 rw [YR,Yw];intro i j hi hj hij e;have:=F3 h j xs[j] (Zv hj)
 grind [Ec,List.mem_take_iff_getElem]
def xOR{xs:List Str}{s:Str}{k:Nat}(hd:xs.Nodup)(hk:xs[k]? =some s):xs.filter (fun x=>x != s)=xs.take k++xs.drop (k+1):=by
 obtain⟨hlt,e⟩:=Zs.1 hk;have hsplit:xs=xs.take k++s::xs.drop (k+1):=by
  grind [List.take_append_drop,List.drop_eq_getElem_cons]
 have hn:=hd;rw [hsplit,Yz] at hn
 grind [List.filter_eq_self]
def xHT{N K:Nat}{cols:List Str}{s:Str}(hl:cols.length<=K)(hK:K<=4294967296)(hN:K<N)(hK1:1<=K):Js N cols [s]=some (cols.filter fun x=>x != s):=by
 have:=A3 (L:=fun m i q=>Ej N m [s] q cols (cols.length:Int) i) cols (fun l q=>q++l.filter fun x=>x != s) (fun i q=>q.length<=i) (fun m q _=>by simp [Ej])
  (fun i x l q hd hi hx hq=>by
    have hq:q.length<=i:=hq;have hi' :(i:Int)<(cols.length:Int):=by omega
    have e:AN [s] x 0=bif s==x then 0 else -1:=by grind [AN]
    cases h1:s==x
    ·refine .inl ⟨q++ [x],by grind,?_,fun m=> ?_⟩
     ·grind
     ·simp only [Ej,Zz hi',jT,jI,AS hx,Ls (N:=N) (xs:=[s]) (s:=x) (by simp) (by grind),jS,e,h1,jF,AM hi (by omega:cols.length<=_)]
      grind [Lim]
    grind [Ej,jI,Ls,AM]) N 0 [] (Zn _) (Zg _) (by omega)
 grind [Js]
def Dy(i k:Int)(u v:Val):Val:=bif decide (i<0) then AO 7 else bif decide (k<0) then AO 7 else
 bif !Bu (u.columns++(v.columns.take k.toNat++v.columns.drop (k.toNat+1))) then AO 7 else
 bif decide (((u.columns++(v.columns.take k.toNat++v.columns.drop (k.toNat+1))).length:Int)>4) then AO 6 else
 Dw (u.columns++(v.columns.take k.toNat++v.columns.drop (k.toNat+1))) (jrs i.toNat k.toNat v.rows u.rows)
def C6(a u v:Val):Val×Bool:=bif(AW [2,5,5] [a,u,v]).2.1 then((AW [2,5,5] [a,u,v]).1,(AW [2,5,5] [a,u,v]).2.2) else(Dy (AN u.columns a.text 0) (AN v.columns a.text 0) u v,false)
def RY{v:Val}(hv:AP v=true)(hk:v.kind=5):∀r∈v.rows,SO r.frm:=by
 grind [BH,Ar,List.getElem?_of_mem,F3,DT,Rh]
def xFR{v:Val}(hv:AP v=true)(hk:v.kind=5):Bu v.columns=true:=by
 grind [JW,B8]
def xIQ{K:Nat}(hK:24<=K/\K<=1073741824){a u v:Val}(ha:a.Fit K)(hu:u.Fit K)(hv:v.Fit K):Big fun N=>Fi N a u v=some (C6 a u v)/\Gc N a u v=some (C6 a u v).1:=by
 obtain⟨_,_,_,_,_,u6,u7⟩:=Val.fit_iff.1 hu;obtain⟨_,_,_,_,_,v6,v7⟩:=Val.fit_iff.1 hv;have huc:u.columns.length<=K:=u6.1;have hvc:v.columns.length<=K:=v6.1;refine((Dz (by omega) (vs:=[a,u,v]) (ks:=[2,5,5]) (JX ha hu hv) (by grind) rfl).and (A2 (2*K))).imp fun N ⟨⟨h1,h2⟩,hN⟩=> ?_;obtain⟨e1,e2,e3,_⟩:=D7 (ks:=[2,5,5]) (JX ha hu hv);have i1:=D9 (N:=N) (v:=u) (s:=a.text) (by omega) (by omega);have i2:=D9 (N:=N) (v:=v) (s:=a.text) (by omega) (by omega);have j1:=Cs (N:=N) (v:=u) (s:=a.text) (by omega) (by omega);have j2:=Cs (N:=N) (v:=v) (s:=a.text) (by omega) (by omega);have w1:=xHT (N:=N) (K:=K) (cols:=v.columns) (s:=a.text) hvc (by omega) (by omega) (by omega);have hfl:(v.columns.filter fun x=>x != a.text).length<=K:=ZT (List.length_filter_le _ _) hvc;cases g1:(AW [2,5,5] [a,u,v]).2.1
 ·obtain⟨g2,g3⟩:=Bn g1;obtain⟨_,hk1,hk2⟩:=kb3 g3;have htag:=Fz g1;have ou:=JW (g2 u (by simp)) hk1;have ov:=JW (g2 v (by simp)) hk2;have ru:=HA (g2 u (by simp)) hk1;have rv:=HA (g2 v (by simp)) hk2;have su:=RY (g2 u (by simp)) hk1;have sv:=RY (g2 v (by simp)) hk2;have dv:=xFY (xFR (g2 v (by simp)) hk2);have il:0+u.columns.length<=Lim:=by grind [Lim]
  have il2:([]++u.columns).length+(v.columns.filter fun x=>x != a.text).length<=Lim:=by grind [Lim]
  rcases Je (s:=a.text) (xs:=u.columns) (j:=0) with ⟨hi,_⟩|⟨i,hi1,hi,_,_⟩
  ·have hneg:AN u.columns a.text 0<0:=by omega
   refine⟨?_,?_⟩
   ·simp only [Fi,Val.re_eq,h1,jS,g1,htag,jF,i1,i2,w1,Zt il,Zt il2,Zz hneg,jT,AJ,C6,Dy];rfl
   ·simp only [Gc,Val.re_eq,h2,jS,g1,jF,j1,j2,Zz hneg,jT,AL,C6,Dy];rfl
  ·rw [Zc] at hi;have hni:¬(i:Int)<0:=by omega
   rcases Je (s:=a.text) (xs:=v.columns) (j:=0) with ⟨hk,_⟩|⟨k,hk1',hk,hks,_⟩
   ·have hneg:AN v.columns a.text 0<0:=by omega
    refine⟨?_,?_⟩
    ·simp only [Fi,Val.re_eq,h1,jS,g1,htag,jF,i1,i2,w1,Zt il,Zt il2,hi,Zw hni,Zz hneg,jT,AJ,C6,Dy];rfl
    ·simp only [Gc,Val.re_eq,h2,jS,g1,jF,j1,j2,hi,Zw hni,Zz hneg,jT,AL,C6,Dy];rfl
   ·rw [Zc] at hk;have hnk:¬(k:Int)<0:=by omega
    have hwo:=xOR dv hks;rw [hwo] at w1 il2;have il3:u.columns.length+(v.columns.take k++v.columns.drop (k+1)).length<=Lim:=by grind
    have w:V.wrap ((k:Int)+1)=((k+1:Nat):Int):=wn _ (by omega) (by omega);have c1:(0:Int)<=(k:Int)/\(k:Int)<=(v.columns.length:Int):=by omega
    have c2:u.columns.length+(v.columns.take k).length<=Lim:=by grind
    have c3:(0:Int)<=((k+1:Nat):Int)/\((k+1:Nat):Int)<=(v.columns.length:Int):=by omega
    have c4:(u.columns++v.columns.take k).length+(v.columns.drop (k+1)).length<=Lim:=by grind
    generalize hcs:u.columns++(v.columns.take k++v.columns.drop (k+1))=cs;have hcs2:(u.columns++v.columns.take k)++v.columns.drop (k+1)=cs:=by grind
    have hcl:cs.length<=2*K:=by grind
    have hRu:E6 K i u.rows:=fun t ht=>by
     have:=u7.2 t ht;have e:=ru t ht;exact⟨by omega,by omega,this.2.1⟩
    have hRv:E6 K k v.rows:=fun t ht=>by
     have:=v7.2 t ht;have e:=rv t ht;exact⟨by omega,by omega,this.2.1⟩
    have l1:=xIc (N:=N) (K:=K) (i:=i) (k:=k) (rs:=u.rows) (v:=v) (z:=Val.mk 0 0 0 [] [] [] []) (cs:=cs) (by omega) (by omega) hK.1 ou.2 ov.2 hRu hRv;have l2:=xMV (N:=N) (K:=K) (i:=i) (k:=k) (u:=u) (v:=v) (z:=Val.mk 0 0 0 [] [] [] []) (cs:=cs) (by omega) hN hK.1 ou.2 ov.2 hRu hRv su sv;have d1:=PE (N:=N) (xs:=cs) (by omega) (by omega);have d2:=Nq (N:=N) (xs:=cs) (by omega) (by omega);refine⟨?_,?_⟩
    ·simp only [Fi,Val.re_eq,h1,jS,g1,htag,jF,i1,i2,w1,Zt il,hi,hk,Zw hni,Zw hnk,AJ,C6,Dy,jM,Zt il3,jI,hcs,d1,l1];cases Bu cs
     ·rfl
     ·simp only [jU,jF];rcases Yj 4 cs.length with h|h
      ·simp only [show ∀inst:Decidable ((cs.length:Int)>4),@decide _ inst=true from fun inst=>Zz (by omega),jT];rfl
      grind
    ·simp only [Gc,Val.re_eq,h2,jS,g1,jF,j1,j2,Zt il,hi,hk,Zw hni,Zw hnk,AL,C6,Dy,jM,jI,w,Zt c1,Zt c2,Zt c3,Zt c4,hcs,hcs2,d2,l2];cases Bu cs
     ·rfl
     ·simp only [jU,jF];rcases Yj 4 cs.length with h|h
      ·simp only [show ∀inst:Decidable ((cs.length:Int)>4),@decide _ inst=true from fun inst=>Zz (by omega),jT];rfl
      grind
 grind [Fi,Val.re_eq,CD,C6,Gc]
def SI(l:List Int):Prop:=l.Pairwise fun x y=>x<y
def Ck(x:Int):List Int->List Int
 | []=> [x]
 |y::l=>if y=x then y::l else if x<y then x::y::l else y::Ck x l
theorem QS{x z:Int}:∀ {l:List Int},z∈Ck x l↔z=x\/z∈l
 | []=>by simp [Ck]
 |y::l=>by
  unfold Ck;split
  ·grind
  ·split
   ·simp
   ·rw [Zh,QS,Zh]
    grind
theorem xBZ{x:Int}:∀ {l:List Int},SI l->SI (Ck x l)
 | [],_=>by simp [Ck,SI]
 |y::l,h=>by
  have h' :=Z7.1 h;unfold Ck;split
  ·exact h
  ·rename_i hne;split
   ·rename_i hlt;refine Z7.2 ⟨fun z hz=> ?_,h⟩
    grind
   ·rename_i hge;refine Z7.2 ⟨fun z hz=> ?_,xBZ h'.2⟩
    grind [QS]
theorem xB0:∀ {l m:List Int},SI l->SI m->(∀x,x∈l↔x∈m)->l=m
 | [],[],_,_,_=>rfl
 | [],y::m,_,_,h=>absurd ((h y).2 Zp) (by simp)
 |x::l,[],_,_,h=>absurd ((h x).1 Zp) (by simp)
 |x::l,y::m,hl,hm,h=>by
  have hl' :=Z7.1 hl;have hm' :=Z7.1 hm;have e:x=y:=by
   grind [List.mem_cons_self]
  subst e;refine Zl (x:: ·) (xB0 hl'.2 hm'.2 fun z=>⟨fun hz=> ?_,fun hz=> ?_⟩)
  all_goals grind
theorem Na(i:Nat)(rs:List Rowd)(r:Rowd):vF i (rs++ [r])=if hD i r∈vF i rs then vF i rs else vF i rs++ [hD i r]:=by
 grind [vF]
theorem Q9(i k:Nat)(rs:List Rowd)(r:Rowd)(y:Int):pA i k (rs++ [r]) y=if hD i r=y then IntKind.i64.wrap (pA i k rs y+hD k r) else pA i k rs y:=by
 grind [pA]
theorem I6(i:Nat)(rs:List Rowd)(r:Rowd)(y:Int):vE i (rs++ [r]) y=if hD i r=y then rM (vE i rs y) r.frm else vE i rs y:=by
 grind [vE]
def GQ{α:Type}{p:List α->Prop}(h0:p [])(h1:∀l a,p l->p (l++ [a])):∀(n:Nat) (l:List α),l.length=n->p l:=by
 intro n
 induction n with
 |zero=>grind
 |succ n ih=>
  intro l h;have e:l=l.take n++ [l[n]'(by omega)]:=by rw [<-YX (by omega)];grind
  grind
def xLe(i:Nat)(rs:List Rowd):(vF i rs).Nodup:=by
 refine GQ (p:=fun rs=>(vF i rs).Nodup) YS (fun l r h=> ?_) _ rs rfl
 grind [Na]
def xLf{i:Nat}{x:Int}(k:Nat)(rs:List Rowd):x ∉ vF i rs->pA i k rs x=0/\vE i rs x=[]:=by
 refine GQ (p:=fun rs=>x ∉ vF i rs->pA i k rs x=0/\vE i rs x=[]) (fun _=>⟨rfl,rfl⟩) (fun l r h hx=> ?_) _ rs rfl
 grind [vF,Q9,I6]
theorem Q8(i:Nat)(rs:List Rowd):SI (o9 i rs):=by
 have h1:(o9 i rs).Pairwise fun x y=>decide (x<=y)=true:=YN (fun x y z h1 h2=>by grind) (fun x y=>by grind) _;have h2:(o9 i rs).Nodup:=(Y4 _ _).nodup_iff.2 (xLe i rs);refine(h1.and h2).imp fun {x y} h=> ?_
 grind
theorem QT{i:Nat}{rs:List Rowd}{x:Int}:x∈o9 i rs↔x∈vF i rs:=YZ
def xLh(i:Nat)(rs:List Rowd)(r:Rowd):o9 i (rs++ [r])=Ck (hD i r) (o9 i rs):=by
 grind [xB0,Q8,xBZ,QT,Na,QS]
def Q7(i:Nat)(rs:List Rowd):(o9 i rs).length<=rs.length:=by
 have h0:(o9 i rs).length=(vF i rs).length:=Y7 _;rw [h0];refine GQ (p:=fun rs=>(vF i rs).length<=rs.length) (Zn _) (fun l r h=> ?_) _ rs rfl
 grind [Na]
def xLc{i L:Nat}{x:Int}(rs:List Rowd)(h:∀r∈rs,r.frm.length<=L):(vE i rs x).length<=rs.length*L:=by
 refine GQ (p:=fun rs=>(∀r∈rs,r.frm.length<=L)->(vE i rs x).length<=rs.length*L) (fun _=>by simp [vE]) (fun l r ih h=> ?_) _ rs rfl h
 grind [xOB,I6,Nat.add_mul]
def xBL{i:Nat}{x:Int}(rs:List Rowd):SO (vE i rs x):=by
 refine GQ (p:=fun rs=>SO (vE i rs x)) List.Pairwise.nil (fun l r ih=> ?_) _ rs rfl
 grind [I6,RZ]
def A9(s:Int->Int)(g:Int->List Org)(y:Int):Rowd:=⟨[y,s y],g y⟩
def DS(s:Int->Int)(g:Int->List Org)(x v:Int)(f:List Org):List Int->List Rowd
 | []=> [⟨[x,v],f⟩]
 |y::l=>if y=x then⟨[x,IntKind.i64.wrap (s x+v)],rM (g x) f⟩::l.map (A9 s g) else if x<y then⟨[x,v],f⟩::A9 s g y::l.map (A9 s g) else A9 s g y::DS s g x v f l
def xBJ{s s' :Int->Int}{g g' :Int->List Org}{x v:Int}{f:List Org}(hs:∀y,s' y=if x=y then IntKind.i64.wrap (s y+v) else s y)(hg:∀y,g' y=if x=y then rM (g y) f else g y):
 ∀ {l:List Int},SI l->(x ∉ l->s' x=v/\g' x=f)->DS s g x v f l=(Ck x l).map (A9 s' g')
 | [],_,h=>by
   grind [DS,Ck,A9]
 |y::l,hl,h=>by
  have hl' :=Z7.1 hl;have same:∀z,z≠x->A9 s' g' z=A9 s g z:=fun z hz=>by grind [A9]
  unfold DS Ck;by_cases e:y=x
  ·grind [A9,List.map_congr_left]
  ·rw [Za e,Za e];by_cases hlt:x<y
   ·grind [A9,List.map_congr_left]
   ·rw [Za hlt,Za hlt,ZX,same y e]
    congr 1
    exact xBJ hs hg hl'.2 fun hx=>h fun hm=>(Zh.1 hm).elim (fun e2=>e e2.symm) hx
def xLg{i k:Nat}{rs:List Rowd}{r:Rowd}(h1: -1000000000<=hD k r/\hD k r<=1000000000)(h2:SO r.frm):
 DS (pA i k rs) (vE i rs) (hD i r) (hD k r) r.frm (o9 i rs)=vG i k (rs++ [r]):=by
 unfold vG;rw [xLh];refine xBJ (fun y=>Q9 i k rs r y) (fun y=>I6 i rs r y) (Q8 i rs) fun hx=> ?_;obtain⟨a,b⟩:=xLf k rs (fun h=>hx (QT.2 h));rw [Q9,I6,Zt rfl,Zt rfl,a,b];refine⟨?_,?_⟩
 ·grind [AU]
 ·rw [<-xBj List.Pairwise.nil h2,mrg]
def xBI{N K:Nat}{s:Int->Int}{g:Int->List Org}{x v:Int}{f:List Org}{xs:List Int}(hl:xs.length<=1000):∀(n j:Nat) (acc:List Rowd),j<=xs.length->xs.length<n+j->acc.length<=20000+j->(∀y∈xs.drop j,x<y)->
 CA N n (xs.map (A9 s g)) x v f acc true (j:Int)=some (acc++(xs.drop j).map (A9 s g)):=by
 intro n
 induction n with
 |zero=>grind
 |succ n ih=>
  intro j acc hj hn hacc hgt;have hml:(xs.map (A9 s g)).length=xs.length:=Zm _;cases hd:xs.drop j with
  |nil=>
   grind [CA]
  |cons y l=>
   obtain⟨h1,h2,h3⟩:=B9 hd;have hj' :(j:Int)<(xs.length:Int):=by omega
   have hy:x<y:=hgt y (by grind);have hg:(xs.map (A9 s g))[j]? =some (A9 s g y):=by grind
   have e1:(y==x)=false:=ZR.2 (by omega);have e2:decide (y>x)=true:=Zz (by omega);have:=ih (j+1) (acc++ [A9 s g y]) (by omega) (by omega) (by grind) (fun z hz=>hgt z (by grind));rw [h3] at this;simp only [CA,hml,Zz hj',jT,jI,AS hg,A9,jC,jN,Int.toNat_zero,ZD,e1,jF,e2,jU,AM h1 (by omega:xs.length<=_)]
   grind [Lim,A9]
def xLb{N K:Nat}{s:Int->Int}{g:Int->List Org}{x v:Int}{f:List Org}{xs:List Int}(hl:xs.length<=1000)(hsi:SI xs)(hf:SO f)(hg:SO (g x))(hfl:f.length<=10000000000)(hgl:(g x).length<=10000000000)(hN:(g x).length+f.length<N):∀(n j:Nat) (acc:List Rowd),j<=xs.length->xs.length<n+j->acc.length<=10000+j->
 CA N n (xs.map (A9 s g)) x v f acc false (j:Int)=some (acc++DS s g x v f (xs.drop j)):=by
 intro n
 induction n with
 |zero=>grind
 |succ n ih=>
  intro j acc hj hn hacc;have hml:(xs.map (A9 s g)).length=xs.length:=Zm _;cases hd:xs.drop j with
  |nil=>
   grind [CA,DS,jN,Lim]
  |cons y l=>
   obtain⟨h1,h2,h3⟩:=B9 hd;have hj' :(j:Int)<(xs.length:Int):=by omega
   have hg' :(xs.map (A9 s g))[j]? =some (A9 s g y):=by grind
   have hsd:SI (y::l):=by rw [<-hd];exact List.Pairwise.sublist (List.drop_sublist _ _) hsi
   have hyl:=(Z7.1 hsd).1;by_cases e:y=x
   ·subst e;have:=xBI (N:=N) (K:=K) (s:=s) (g:=g) (x:=y) (v:=v) (f:=f) hl n (j+1) (acc++ [⟨[y,IntKind.i64.wrap (s y+v)],rM (g y) f⟩]) (by omega) (by omega) (by grind) (fun z hz=>by grind);rw [h3] at this;have e2:decide (y>y)=false:=Zw (by omega);simp only [CA,hml,Zz hj',jT,jI,AS hg',A9,jC,jN,Int.toNat_zero,ZD,Yc,show toNat 1=1 from rfl,Y3,xCK (N:=N) hg hf (by omega) (by omega),jS,e2,jF,AM h1 (by omega:xs.length<=_)]
    grind [Lim,DS]
   ·have e1:(y==x)=false:=ZR.2 e;by_cases hlt:x<y
    ·have:=xBI (N:=N) (K:=K) (s:=s) (g:=g) (x:=x) (v:=v) (f:=f) hl n (j+1) ((acc++ [⟨[x,v],f⟩])++ [A9 s g y]) (by omega) (by omega) (by grind) (fun z hz=>by grind);rw [h3] at this;have e2:decide (y>x)=true:=Zz (by omega);simp only [CA,hml,Zz hj',jT,jI,AS hg',A9,jC,jN,Int.toNat_zero,ZD,e1,jF,e2,jV,jM,jA,AM h1 (by omega:xs.length<=_)]
     grind [Lim,A9,DS]
    ·have:=ih (j+1) (acc++ [A9 s g y]) (by omega) (by omega) (by grind);rw [h3] at this;have e2:decide (y>x)=false:=Zw (by omega);simp only [CA,hml,Zz hj',jT,jI,AS hg',A9,jC,jN,Int.toNat_zero,ZD,e1,jF,e2,AM h1 (by omega:xs.length<=_)]
     grind [Lim,A9,DS]
structure GRowOk (K i k:Nat) (t:Rowd):Prop where
 hi:i<t.cells.length
 hk:k<t.cells.length
 f:t.frm.length<=K
 so:SO t.frm
 num: -1000000000<=hD k t/\hD k t<=1000000000
def xNz{N K i k:Nat}{rs:List Rowd}{r:Rowd}(hK:K<=100000000)(hN:20*K<N)(hK2:1000<=K)(hl:rs.length<=12)(h:∀t∈rs,GRowOk K i k t)(hr:GRowOk K i k r):
 RU N (vG i k rs) (hD i r) (hD k r) r.frm=some (vG i k (rs++ [r])):=by
 have h1:=Q7 i rs;have h2:=xLc (i:=i) (x:=hD i r) (L:=K) rs fun t ht=>(h t ht).f;have h3:rs.length*K<=12*K:=Yh hl (Zn _);have h4:=hr.f;have:=xLb (N:=N) (K:=K) (s:=pA i k rs) (g:=vE i rs) (x:=hD i r) (v:=hD k r) (f:=r.frm) (xs:=o9 i rs) (by omega) (Q8 i rs) hr.so (xBL rs) (by omega) (by omega) (by omega) N 0 [] (Zg _) (by omega) (by simp);rw [Yr,jM,xLg hr.num hr.so] at this;exact this
def xGA{i:Nat}{t:Rowd}:List.getD t.cells i Di=hD i t:=rfl
def xMS{N:Nat}{a b:Str}{z:Val}{xs:List Int}{s:Int->Int}{g:Int->List Org}(hl:xs.length<=1000)(hN:1000<N):
 FI N N 0 z (.mk 5 0 0 [] [] [a,b] (xs.map (A9 s g)))=some (if xs.all (fun x=>xO (s x))=true then .mk 5 0 0 [] [] [a,b] (xs.map (A9 s g)) else AO 5):=by
 have:=A3 (L:=fun m j (_:Unit)=>FI N m j z (.mk 5 0 0 [] [] [a,b] (xs.map (A9 s g)))) xs (fun l _=>if l.all (fun x=>xO (s x))=true then .mk 5 0 0 [] [] [a,b] (xs.map (A9 s g)) else AO 5) (fun _ _=>True)
  (fun n q _=>by
    grind [FI,vr])
  (fun j x l q hd hj hx _=>by
    have hj' :(j:Int)<(xs.length:Int):=by omega
    have hg:(xs.map (A9 s g))[j]? =some (A9 s g x):=by grind
    cases hnum:xO (s x) with
    |true=>
     refine .inl ⟨(),trivial,by grind,fun n=> ?_⟩;simp only [FI,vr,Zm,Zz hj',jT,jI,AS hg,A9,jC,jN,show toNat 1=1 from rfl,Y3,ZD,Cx,jS,show AZ (s x)=true from hnum,jU,jF,AM hj (by omega:xs.length<=_)]
     grind
    |false=>
     refine .inr fun n=> ?_;simp only [FI,vr,Zm,Zz hj',jT,jI,AS hg,A9,jC,jN,show toNat 1=1 from rfl,Y3,ZD,Cx,jS,show AZ (s x)=false from hnum,jV,AL]
     grind [AO]) N 0 () trivial (Zg _) (by omega)
 grind
def xMT{N K i k:Nat}{t z:Val}{a b:Str}(hK:K<=100000000)(hN:20*K<N)(hK2:1000<=K)(hl:t.rows.length<=12)(h:∀r∈t.rows,GRowOk K i k r):
 Gb N N (i:Int) (k:Int) 0 t z (.mk 5 0 0 [] [] [a,b] [])=some (if(o9 i t.rows).all (fun x=>xO (pA i k t.rows x))=true then .mk 5 0 0 [] [] [a,b] (vG i k t.rows) else AO 5):=by
 have hlk:=Q7 i t.rows
 exact A3 (L:=fun m j q=>Gb N m (i:Int) (k:Int) j t z (.mk 5 0 0 [] [] [a,b] q)) t.rows (fun _ _=>if(o9 i t.rows).all (fun x=>xO (pA i k t.rows x))=true then Val.mk 5 0 0 [] [] [a,b] (vG i k t.rows) else AO 5) (fun j q=>q=vG i k (t.rows.take j))
  (fun n q hq=>by
    have hq:q=vG i k (t.rows.take t.rows.length):=hq;rw [YV] at hq;subst hq;simp only [Gb,Zd,Z9,jF];exact xMS (by omega) (by omega))
  (fun j x l q hd hj hx hq=>by
    have hj' :(j:Int)<(t.rows.length:Int):=by omega
    have hm:=h x (Zy hx);have hti:t.rows.take (j+1)=t.rows.take j++ [x]:=by
     grind
    refine .inl ⟨vG i k (t.rows.take (j+1)),rfl,rfl,fun n=> ?_⟩;have hp:=xNz (N:=N) (K:=K) (i:=i) (k:=k) (rs:=t.rows.take j) (r:=x) hK hN hK2 (by grind) (fun r hr=>h r (ZM hr)) hm;have hq:q=vG i k (t.rows.take j):=hq;rw [<-hq,<-hti] at hp;have hi:=hm.hi;have hk:=hm.hk;simp only [Gb,Zz hj',jT,jI,AS hx,xGA,vk,vn,vs,vt,vl,vc,vr,hp,jS,AM hj (by omega:t.rows.length<=_)]
    grind) N 0 [] (by simp [vG,o9,vF]) (Zg _) (by omega)
def Cg(i k:Int)(a b t:Val):Val:=bif decide (i<0) then AO 7 else bif decide (k<0) then AO 7 else bif i==k then AO 7 else
 if(o9 i.toNat t.rows).all (fun x=>xO (pA i.toNat k.toNat t.rows x))=true then .mk 5 0 0 [] [] [a.text,b.text] (vG i.toNat k.toNat t.rows) else AO 5
def CE(a b t:Val):Val×Bool:=bif(AW [2,2,5] [a,b,t]).2.1 then((AW [2,2,5] [a,b,t]).1,(AW [2,2,5] [a,b,t]).2.2) else(Cg (AN t.columns a.text 0) (AN t.columns b.text 0) a b t,false)
def xOd{v:Val}(hv:AP v=true)(hk:v.kind=5):∀r∈v.rows,∀k,k<r.cells.length-> -1000000000<=hD k r/\hD k r<=1000000000:=by
 grind [BH,Ar,List.getElem?_of_mem,F3,DT,AZ,hD]
def xGY{K:Nat}(hK:1000<=K/\K<=100000000){a b t:Val}(ha:a.Fit K)(hb:b.Fit K)(ht:t.Fit K):Big fun N=>Eg N a b t=some (CE a b t)/\FH N a b t=some (CE a b t).1:=by
 obtain⟨_,_,_,_,_,t6,t7⟩:=Val.fit_iff.1 ht;have htc:t.columns.length<=K:=t6.1;refine((Dz (by omega) (vs:=[a,b,t]) (ks:=[2,2,5]) (JX ha hb ht) (by grind) rfl).and (A2 (20*K))).imp fun N ⟨⟨h1,h2⟩,hN⟩=> ?_;obtain⟨e1,e2,e3,_⟩:=D7 (ks:=[2,2,5]) (JX ha hb ht);have i1:=D9 (N:=N) (v:=t) (s:=a.text) (by omega) (by omega);have i2:=D9 (N:=N) (v:=t) (s:=b.text) (by omega) (by omega);have j1:=Cs (N:=N) (v:=t) (s:=a.text) (by omega) (by omega);have j2:=Cs (N:=N) (v:=t) (s:=b.text) (by omega) (by omega);cases g1:(AW [2,2,5] [a,b,t]).2.1
 ·obtain⟨g2,g3⟩:=Bn g1;obtain⟨_,_,hk2⟩:=kb3 g3;have htag:=Fz g1;have ot:=JW (g2 t (by simp)) hk2;have rt:=HA (g2 t (by simp)) hk2;have st:=RY (g2 t (by simp)) hk2;have nt:=xOd (g2 t (by simp)) hk2;rcases Je (s:=a.text) (xs:=t.columns) (j:=0) with ⟨hi,_⟩|⟨i,hi1,hi,hia,_⟩
  ·have hneg:AN t.columns a.text 0<0:=by omega
   refine⟨?_,?_⟩
   ·simp only [Eg,Val.re_eq,h1,jS,g1,htag,jF,i1,i2,Zz hneg,jT,AJ,CE,Cg];rfl
   ·simp only [FH,Val.re_eq,h2,jS,g1,jF,j1,j2,Zz hneg,jT,AL,CE,Cg];rfl
  ·rw [Zc] at hi;have hni:¬(i:Int)<0:=by omega
   rcases Je (s:=b.text) (xs:=t.columns) (j:=0) with ⟨hk,_⟩|⟨k,hk1',hk,hks,_⟩
   ·have hneg:AN t.columns b.text 0<0:=by omega
    refine⟨?_,?_⟩
    ·simp only [Eg,Val.re_eq,h1,jS,g1,htag,jF,i1,i2,hi,Zw hni,Zz hneg,jT,AJ,CE,Cg];rfl
    ·simp only [FH,Val.re_eq,h2,jS,g1,jF,j1,j2,hi,Zw hni,Zz hneg,jT,AL,CE,Cg];rfl
   ·rw [Zc] at hk;have hnk:¬(k:Int)<0:=by omega
    have heq:(a.text==b.text)=((i:Int)==(k:Int)):=by
     grind
    by_cases hik:(i:Int)=(k:Int)
    ·have b1:((i:Int)==(k:Int))=true:=beq_iff_eq.2 hik;refine⟨?_,?_⟩
     ·simp only [Eg,Val.re_eq,h1,jS,g1,htag,jF,i1,i2,hi,hk,Zw hni,Zw hnk,heq,b1,jT,AJ,CE,Cg];rfl
     ·simp only [FH,Val.re_eq,h2,jS,g1,jF,j1,j2,hi,hk,Zw hni,Zw hnk,b1,jT,AL,CE,Cg];rfl
    ·have b1:((i:Int)==(k:Int))=false:=ZR.2 hik;have hR:∀r∈t.rows,GRowOk K i k r:=fun r hr=>by
      have e:=rt r hr;exact⟨by omega,by omega,(t7.2 r hr).2.1,st r hr,nt r hr k (by omega)⟩
     have l2:=xMT (N:=N) (K:=K) (i:=i) (k:=k) (t:=t) (z:=Val.mk 0 0 0 [] [] [] []) (a:=a.text) (b:=b.text) hK.2 hN hK.1 ot.2 hR;have l1:zX (i:Int) (k:Int) a b t=some (if(o9 i t.rows).all (fun x=>xO (pA i k t.rows x))=true then Val.mk 5 0 0 [] [] [a.text,b.text] (vG i k t.rows) else Val.mk 6 5 0 [] [] [] [],false):=by
      have hall:t.rows.all (yL (i:Int).toNat (k:Int).toNat)=true:=by
       rw [Zx];intro r hr;have:=hR r hr;have h1:=this.hi;have h2:=this.hk;have h3:=this.f
       grind [yL]
      grind [zX]
     refine⟨?_,?_⟩
     ·simp only [Eg,Lr,Val.re_eq,h1,jS,g1,htag,jF,i1,i2,hi,hk,Zw hni,Zw hnk,heq,b1,l1,CE,Cg,jI];rfl
     grind [FH,Val.re_eq,CE,Cg]
 grind [Eg,Val.re_eq,CD,CE,FH]
def xLd{i:Nat}{x:Int}(rs:List Rowd):x∈vF i rs->∃r∈rs,hD i r=x:=by
 refine GQ (p:=fun rs=>x∈vF i rs->∃r∈rs,hD i r=x) (fun h=>by cases h) (fun l r ih h=> ?_) _ rs rfl
 grind [Na]
def xBK{i:Nat}{x:Int}{o:Org}(rs:List Rowd):o∈vE i rs x->∃r∈rs,hD i r=x/\o∈r.frm:=by
 refine GQ (p:=fun rs=>o∈vE i rs x->∃r∈rs,hD i r=x/\o∈r.frm) (fun h=>by cases h) (fun l r ih h=> ?_) _ rs rfl
 grind [I6,N6]
def Re{α ρ:Type}{L:Nat->Int->Option ρ}{x0:List α}{p:α->Bool}{e b:Option ρ}(hend:∀n,L (n+1) (x0.length:Nat)=e)
 (hcons:∀(i:Nat) x n,i<x0.length->x0[i]? =some x->x∈x0->L (n+1) (i:Nat)=bif p x then L n ((i+1:Nat):Int) else b) {n:Nat} (hn:x0.length<n):
 L n 0=bif x0.all p then e else b:=by
 have key:∀(m i:Nat),i<=x0.length->x0.length<m+i->L m (i:Nat)=bif(x0.drop i).all p then e else b:=by
  intro m
  induction m with
  |zero=>grind
  |succ m ih=>
   intro i h1 h2;cases hd:x0.drop i with
   |nil=>
    have:=HI hd
    grind
   |cons x l=>
    grind [B9]
 exact key n 0 (by omega) (by omega)
def LV{K:Nat}(hK:24<=K/\K<=137438953472){l:List Val}(h:LFit K (Val.Fit K) l):Big fun N=>HP N l=some (BS l)/\GZ N l=some (BS l):=by
 have hl:l.length<=K:=h.1;have hv:(Val.mk 3 0 0 [] l [] []).Fit K:=xKp h;have hof:(opG l).1.Fit K:=(Jb h.2).fit K;refine((I3 (by omega) h.2 hl).and ((Jv h (by omega)).and ((Big.list fun x hx=>Cv (h.2 x hx) (by omega)).and ((SR (by omega) hv).and ((Ek hof (by omega)).and ((Cv hof (by omega)).and (A2 K))))))).imp fun N ⟨⟨h1,h2⟩,h3,h4,h5,h6,h7,hN⟩=> ?_;have hsl:=Qx (N:=N) (by omega:l.length<=_) (by omega) h4;have hil:DJ N l=some (.mk 3 0 0 [] l [] []):=by grind [DJ]
 cases g1:(opG l).2.1
 ·have hok:=Ev g1;obtain⟨d1,d2⟩:=h5 hok;have htag:=I2 g1;have hi1:DH N N l l l.length 0 (Val.mk 0 0 0 [] [] [] [])=some (BS l):=by
   have:=Re (L:=fun m i=>DH N m l l l.length i (Val.mk 0 0 0 [] [] [] [])) (x0:=l) (p:=BJ) (e:=some (bif decide ((l.length:Int)>8) then AO 6 else bif decide ((Val.mk 3 0 0 [] l [] []).dep>3) then AO 6 else .mk 3 0 0 [] l [] [])) (b:=some (AO 4)) (n:=N)
    (fun n=>by
      simp only [DH,Zd,Z9,jF,hil,jS,d1,AJ];cases decide ((l.length:Int)>8) <;>cases decide ((Val.mk 3 0 0 [] l [] []).dep>3) <;>rfl)
    (fun i x n hi hx hm=>by
      have hi' :(i:Int)<(l.length:Int):=by omega
      simp only [DH,Zz hi',jT,jI,AS hx,AM hi (by omega:l.length<=_),AJ,jS,bne,BJ];rw [Zt (by omega)];cases (x.kind==1) <;>cases (x.kind==2) <;>cases (x.kind==3) <;>rfl) (by omega)
   grind [BS]
  have hi2:G0 N N l 0 (Val.mk 0 0 0 [] [] [] [])=some (BS l):=by
   have:=Re (L:=fun m i=>G0 N m l i (Val.mk 0 0 0 [] [] [] [])) (x0:=l) (p:=BJ) (e:=some (bif decide ((l.length:Int)>8) then AO 6 else bif decide ((Val.mk 3 0 0 [] l [] []).dep>3) then AO 6 else .mk 3 0 0 [] l [] [])) (b:=some (AO 4)) (n:=N)
    (fun n=>by
      simp only [G0,Zd,Z9,jF,hsl,jS,d2,AL];cases decide ((l.length:Int)>8) <;>cases decide ((Val.mk 3 0 0 [] l [] []).dep>3) <;>rfl)
    (fun i x n hi hx hm=>by
      have hi' :(i:Int)<(l.length:Int):=by omega
      simp only [G0,LC,Zz hi',jT,jI,AS hx,AM hi (by omega:l.length<=_),AL,jS,BJ];rw [Zt (by omega)];cases (x.kind==1) <;>cases (x.kind==2) <;>cases (x.kind==3) <;>rfl) (by omega)
   grind [BS]
  grind [HP,GZ]
 grind [HP,BS,GZ]
def xBh{K:Nat}(hK:K<=137438953472){l:List Val}(h:LFit K (Val.Fit K) l):
 Big fun N=>∀k:Int,0<=k->k+((l.map Val.cnt).sum:Nat)<=137438953472->∃ys,ys.length=l.length/\ED N l k=some (k+((l.map Val.cnt).sum:Nat),ys):=by
 have hb:Big2 fun N d=>∀x∈l,HC N d x.list:=Big2.list fun x hx=>QO hK x (h.2 x hx);have key:Big2 fun N d=>HC N d l:=Big2.succ ((hb.and (A2 274877906944).two).imp fun N d ⟨hx,hN⟩=>xBg hN (fun x hxm=>by have:=(Val.fit_iff.1 (h.2 x hxm)).2.2.2.2.2.2.1;omega) hx);exact key.diag.imp fun N hm k h0 h1=>by
  obtain⟨ys,a1,a2,_⟩:=hm k h0 h1;exact⟨ys,a1,a2⟩
theorem P3{i k:Nat}{r x:Rowd}:∀ {ts:List Rowd},x∈jr i k r ts->∃t∈ts,x=EH k r t/\r.cells.getD i Di=t.cells.getD k Di
 | [],h=>by cases h
 |t::ts,h=>by
  unfold jr at h;cases hc:(r.cells.getD i Di==t.cells.getD k Di)
  ·rw [hc,jF] at h;obtain⟨t',h1,h2⟩:=P3 h
   grind
  ·rw [hc,jT] at h;rcases Zh.1 h with e|h
   ·grind
   ·obtain⟨t',h1,h2⟩:=P3 h
    grind
def xAD{i k:Nat}{ts:List Rowd}{x:Rowd}:∀ {rs:List Rowd},x∈jrs i k ts rs->∃r∈rs,∃t∈ts,x=EH k r t/\r.cells.getD i Di=t.cells.getD k Di
 | [],h=>by cases h
 |r::rs,h=>by
  rcases Zf.1 h with h|h
  ·grind [P3]
  ·obtain⟨r',h1,h2⟩:=xAD h
   grind
def CO(n:Int):Val:=bif AZ n then AY n else AO 5
theorem xKP {n:Int}(h:AZ n=true):I64 n:=by
 unfold AZ at h;simp only [Zu,ZU] at h;exact⟨by omega,by omega⟩
def xGs(n:Int):Flat (CO n):=by
 grind [CO,HL,BV,Lf,xKP]
theorem xAm(N:Nat)(n:Int):Ed N n=some (CO n):=by
 simp only [Ed,DN,jS,AJ,At,CO];cases AZ n <;>rfl
theorem RA(N:Nat)(n:Int):DY N n=some (CO n):=by
 simp only [DY,Cx,jS,AL,As,CO];cases AZ n <;>rfl
def Ib(n v:Val):Bool:=(n.kind != 1)||((v.kind != 3)&&(v.kind != 4))
def Ai(n v:Val):Val×Bool×Bool:=bif(opG [n,v]).2.1 then opG [n,v] else(AO 4,Ib n v,false)
def Cr(n v:Val):Val×Bool:=bif(Ai n v).2.1 then((Ai n v).1,true) else(C8,false)
def PB{K:Nat}{n v:Val}(hn:n.Fit K)(hv:v.Fit K):Flat (Ai n v).1:=by
 unfold Ai;cases (opG [n,v]).2.1
 ·grind [HL,BV]
 ·exact Jb (E0 hn hv)
theorem GP{n v:Val}(h:(Ai n v).2.1=false):(Ai n v).2.2=false/\AP v=true/\n.kind=1/\(v.kind=3\/v.kind=4)/\AP n=true:=by
 grind [Ai,Ev,Ib]
def xKq{v:Val}(hv:AP v=true)(hk:v.kind=3):v.list.length<=8/\∀x∈v.list,(x.kind==6)=false:=by
 grind [BH,FU,BJ]
def Qd{K:Nat}(hK:24<=K/\K<=4611686018427387903){n v:Val}(hn:n.Fit K)(hv:v.Fit K):Big fun N=>Hc N n v=some (Ai n v)/\JT N n v=some (Cr n v):=by
 refine(I3 hK (l:=[n,v]) (E0 hn hv) (by grind)).imp fun N ⟨h1,h2⟩=> ?_;obtain⟨e1,e2,e3,e4,e5⟩:=Eu (l:=[n,v]);constructor
 ·simp only [Hc,Val.re_eq,h1,jS,e1,e2,e3,jE,Ys,CD e1 e2 e3,AJ,Ai,Ib];cases g:(opG [n,v]).2.1
  ·rw [I2 g];cases (n.kind != 1) <;>cases (v.kind != 3) <;>cases (v.kind != 4) <;>rfl
  grind
 ·simp only [JT,Val.re_eq,h2,jS,AL,Cr,Ai,Ib];cases g:(opG [n,v]).2.1
  ·cases (n.kind != 1) <;>cases (v.kind != 3) <;>cases (v.kind != 4) <;>rfl
  grind
def Au(n v:Val):Val:=bif decide (n.n<0)||((v.kind==3)&&decide (n.n>=(v.list.length:Int))) then AO 5 else bif v.kind==3 then v.list.getD n.n.toNat Dv else CO (IntKind.i64.wrap (v.n+IntKind.i64.wrap (n.n*v.step)))
def Bp(n v:Val):Val×Bool:=bif(Ai n v).2.1 then((Ai n v).1,(Ai n v).2.2) else(Au n v,false)
def QY{K:Nat}(hK:24<=K/\K<=137438953472){n v:Val}(hn:n.Fit K)(hv:v.Fit K):Big fun N=>CF N n v=some (Bp n v)/\Bz N n v=some (Bp n v).1:=by
 obtain⟨_,_,_,_,h5,_,_⟩:=Val.fit_iff.1 hv;have hk:K<=137438953472:=hK.2;refine((Qd (by omega) hn hv).and (((Big.list fun x hx=>Cv (h5.2 x hx) hk)).and (Big.list fun x hx=>Ek (h5.2 x hx) hk))).imp fun N ⟨⟨h1,h2⟩,c1,c2⟩=> ?_;obtain⟨e1,e2,e3,_⟩:=PB (K:=K) hn hv;cases g:(Ai n v).2.1
 ·obtain⟨gt,_,_,gk,_⟩:=GP g;have hget:∀h:0<=n.n/\n.n<(v.list.length:Int),v.list.getD n.n.toNat Dv∈v.list:=fun h=>by
   grind
  have hs:Cr n v=(C8,false):=by grind [Cr]
  rw [hs] at h2;by_cases a:n.n<0
  ·simp only [CF,Bz,h1,h2,jS,g,gt,jF,Zz a,jT,AJ,AL,Bp,Au,YJ]
   first |exact⟨rfl,rfl⟩|exact⟨trivial,trivial⟩
  ·cases b:(v.kind==3)
   ·grind [CF,Bz,Bp,Au,xAm,RA]
   ·by_cases c:n.n>=(v.list.length:Int)
    ·simp only [CF,Bz,h1,h2,jS,g,gt,jF,Zw a,Zz c,jT,AJ,AL,Bp,Au,Bool.false_or,b,ZV]
     first |exact⟨rfl,rfl⟩|exact⟨trivial,trivial⟩
    grind [CF,Bz,Bp,Au]
 grind [Cr,CF,Bp,Bz]
def EF(n:Int)(l:Nat):Int:=if(l:Int)<n then(l:Int) else n
def skB(n v:Val):Val:=bif decide (n.n<0) then AO 5 else bif v.kind==3 then .mk 3 0 0 [] (v.list.drop (EF n.n v.list.length).toNat) [] [] else bif(Au n v).kind==6 then Au n v else .mk 4 (Au n v).n v.step [] [] [] []
def skG(n v:Val):Val×Bool:=bif(Ai n v).2.1 then((Ai n v).1,(Ai n v).2.2) else(skB n v,false)
def xKm{α:Type}{K:Nat}{p:α->Prop}{l:List α}(h:LFit K p l)(k:Nat):LFit K p (l.drop k):=
 ⟨by have:=h.1;grind,fun x hx=>h.2 x (List.mem_of_mem_drop hx)⟩
def xLO{K:Nat}(hK:24<=K/\K<=137438953472){n v:Val}(hn:n.Fit K)(hv:v.Fit K):Big fun N=>Fn N n v=some (skG n v)/\Gg N n v=some (skG n v).1:=by
 obtain⟨_,_,_,_,h5,_,_⟩:=Val.fit_iff.1 hv;have hk:K<=137438953472:=hK.2;have hd:=xKm h5 (EF n.n v.list.length).toNat;have hlen:v.list.length<=K:=h5.1;refine(((Qd (by omega) hn hv).and (QY hK hn hv)).and ((Jv hd hk).and ((Big.list fun x hx=>Cv (hd.2 x hx) hk).and (A2 K)))).imp fun N ⟨⟨⟨h1,h2⟩,n1,n2⟩,c1,c2,hN⟩=> ?_;obtain⟨e1,e2,e3,_⟩:=PB (K:=K) hn hv;cases g:(Ai n v).2.1
 ·obtain⟨gt,_,_,gk,_⟩:=GP g;have hs:Cr n v=(C8,false):=by grind [Cr]
  rw [hs] at h2;have hnt:Bp n v=(Au n v,false):=by grind [Bp]
  rw [hnt] at n1 n2;by_cases a:n.n<0
  ·simp only [Fn,Gg,h1,h2,jS,g,gt,jF,Zz a,jT,AJ,AL,skG,skB]
   first |exact⟨rfl,rfl⟩|exact⟨trivial,trivial⟩
  ·cases b:(v.kind==3)
   ·grind [Fn,Gg,Eh,Kx,skG,skB]
   grind [EF,RJ,Qx,Fn,Gg,skG,skB,DJ]
 grind [Cr,Fn,skG,Gg]
def xKQ{i:Int}(h0:0<=i)(h1:i<=8):AP (AY i)=true:=by
 grind [AZ,BH,AY,vk,vn,vs,vt,vl,vc,vr,emp]
theorem xLD{n v:Val}(g:(Ai n v).2.1=false){i:Int}(h0:0<=i)(h1:i<=8):(Ai (AY i) v).2.1=false:=by
 obtain⟨_,hv,_,hk,_⟩:=GP g;have h6:(v.kind==6)=false:=by grind
 have ho:opG [AY i,v]=(C8,false,false):=by
  simp only [opG,xKQ h0 h1,hv,h6,jU,jF,show((AY i).kind==6)=false from rfl]
 unfold Ai;rw [ho];show Ib (AY i) v=false;unfold Ib;have e:((AY i).kind != 1)=false:=rfl
 grind
def Cz(v:Val):Nat->Int->List Val->Val
 |0,_,acc=> .mk 3 0 0 [] acc [] []
 |m+1,i,acc=>bif(Au (AY i) v).kind==6 then Au (AY i) v else Cz v m (i+1) (acc++ [Au (AY i) v])
def LH(n v:Val):Val:=bif !(decide (0<=n.n)&&decide (n.n<=8)) then AO 5 else bif v.kind==3 then .mk 3 0 0 [] (v.list.take n.n.toNat) [] [] else Cz v n.n.toNat 0 []
def EX(n v:Val):Val×Bool:=bif(Ai n v).2.1 then((Ai n v).1,(Ai n v).2.2) else(LH n v,false)
theorem xIy{N:Nat}{n v z:Val}(hn:n.n<=8)(hnth:∀i:Int,0<=i->i<=8->CF N (AY i) v=some (Au (AY i) v,false)):
 ∀(m:Nat) (i:Int) (acc:List Val) (f:Nat),0<=i->i+m=n.n->acc.length<=1000 - m->m<=8->m<f->H0 N f i n v z (.mk 3 0 0 [] acc [] [])=some (Cz v m i acc,false):=by
 intro m
 induction m with
 |zero=>
  intro i acc f h0 h1 h2 h3 h4;obtain⟨f,rfl⟩:∃g,f=g+1:=⟨f - 1,by omega⟩
  grind [H0,Cz]
 |succ m ih=>
  intro i acc f h0 h1 h2 h3 h4;obtain⟨f,rfl⟩:∃g,f=g+1:=⟨f - 1,by omega⟩;have hnum:At N i=some (AY i):=rfl;simp only [H0,Zz (by omega:i<n.n),jT,hnum,hnth i h0 (by omega),jS,jF,Val.re_eq,vk,vn,vs,vt,vl,vc,vr,Cz]
  grind [Lim,AU]
theorem xNH{N:Nat}{n v z:Val}(hn:n.n<=8)(hk:(v.kind==3)=false)(hnth:∀i:Int,0<=i->i<=8->Bz N (AY i) v=some (Au (AY i) v)):
 ∀(m:Nat) (i:Int) (acc:List Val) (f:Nat),0<=i->i+m=n.n->acc.length<=1000 - m->m<=8->m<f->Cu N f i n v z (.mk 3 0 0 [] acc [] [])=some (Cz v m i acc):=by
 intro m
 induction m with
 |zero=>
  intro i acc f h0 h1 h2 h3 h4;obtain⟨f,rfl⟩:∃g,f=g+1:=⟨f - 1,by omega⟩
  grind [Cu,Cz]
 |succ m ih=>
  intro i acc f h0 h1 h2 h3 h4;obtain⟨f,rfl⟩:∃g,f=g+1:=⟨f - 1,by omega⟩;have hnum:As N i=some (AY i):=rfl;simp only [Cu,Zz (by omega:i<n.n),hk,jT,hnum,hnth i h0 (by omega),jS,jF,Val.re_eq,vk,vn,vs,vt,vl,vc,vr,Cz]
  grind [Lim,AU]
def xNG{N:Nat}{n v z:Val}(hn:n.n<=8)(hk:(v.kind==3)=true)(hl:v.list.length<=8)(h6:∀x∈v.list,(x.kind==6)=false)(hnth:∀i:Int,0<=i->i<=8->Bz N (AY i) v=some (Au (AY i) v)):
 ∀(m i:Nat) (acc:List Val) (f:Nat),(i:Int)+m=n.n->i<=v.list.length->acc.length<=1000 - m->m<=8->m<f->Cu N f i n v z (.mk 3 0 0 [] acc [] [])=some (.mk 3 0 0 [] (acc++(v.list.drop i).take m) [] []):=by
 intro m
 induction m with
 |zero=>
  intro i acc f h1 hi h2 h3 h4;obtain⟨f,rfl⟩:∃g,f=g+1:=⟨f - 1,by omega⟩
  grind [Cu]
 |succ m ih=>
  intro i acc f h1 hi h2 h3 h4;obtain⟨f,rfl⟩:∃g,f=g+1:=⟨f - 1,by omega⟩;have hnum:As N i=some (AY i):=rfl;by_cases he:i=v.list.length
  ·have hb:((i:Int)==(v.list.length:Int))=true:=by grind
   simp only [Cu,Zz (by omega:(i:Int)<n.n),hk,jT,vl,hb]
   grind
  ·have hlt:i<v.list.length:=by omega
   have hb:((i:Int)==(v.list.length:Int))=false:=by grind
   have hnb:Au (AY (i:Int)) v=v.list[i]:=by
    unfold Au;have en:(AY (i:Int)).n=i:=rfl;rw [en,Zw (by omega:¬(i:Int)<0),hk,Zw (by omega:¬(i:Int)>=(v.list.length:Int))]
    simp_all
   have hx:=h6 v.list[i] (ZN hlt);simp only [Cu,Zz (by omega:(i:Int)<n.n),hk,jT,hb,jF,hnum,hnth i (by omega) (by omega),jS,hnb,hx,Val.re_eq,vk,vn,vs,vt,vl,vc,vr];rw [Zt (by grind [Lim]),AU (x:=(i:Int)+1) (by omega) (by omega)];have e1:((i:Int)+1)=((i+1:Nat):Int):=by omega
   rw [e1,ih (i+1) (acc++ [v.list[i]]) f (by omega) (by omega) (by grind [jN]) (by omega) (by omega)]
   grind [List.drop_eq_getElem_cons]
def xKn{α:Type}{K:Nat}{p:α->Prop}{l:List α}(h:LFit K p l)(k:Nat):LFit K p (l.take k):=
 ⟨by have:=h.1;grind,fun x hx=>h.2 x (ZM hx)⟩
def xOg{K:Nat}(hK:24<=K/\K<=137438953472){n v:Val}(hn:n.Fit K)(hv:v.Fit K):Big fun N=>Fp N n v=some (EX n v)/\Gh N n v=some (EX n v).1:=by
 obtain⟨_,_,_,_,h5,_,_⟩:=Val.fit_iff.1 hv;have hk:K<=137438953472:=hK.2;have hd:=xKn h5 (EF n.n v.list.length).toNat;have hnum:∀i:Nat,i∈List.range 9->Big fun N=>CF N (AY (i:Int)) v=some (Bp (AY i) v)/\Bz N (AY (i:Int)) v=some (Bp (AY i) v).1:=fun i hi=>by
  rw [ZI] at hi;exact QY hK ((Lf (BV (by omega) (by omega))).fit K) hv
 refine(((Qd (by omega) hn hv).and (Big.list hnum)).and ((Jv hd hk).and (A2 24))).imp fun N ⟨⟨⟨h1,h2⟩,hnth⟩,c1,hN⟩=> ?_;obtain⟨e1,e2,e3,_⟩:=PB (K:=K) hn hv;cases g:(Ai n v).2.1
 ·obtain⟨gt,gv,_,gk,_⟩:=GP g;have hs:Cr n v=(C8,false):=by grind [Cr]
  rw [hs] at h2;have hg:∀i:Int,0<=i->i<=8->Bp (AY i) v=(Au (AY i) v,false):=fun i h0 h1=>by grind [Bp,xLD]
  have ni:∀i:Int,0<=i->i<=8->CF N (AY i) v=some (Au (AY i) v,false):=fun i h0 h1=>by
   have:=(hnth i.toNat (ZI.2 (by omega))).1
   grind
  have ns:∀i:Int,0<=i->i<=8->Bz N (AY i) v=some (Au (AY i) v):=fun i h0 h1=>by
   have:=(hnth i.toNat (ZI.2 (by omega))).2
   grind
  by_cases a:0<=n.n/\n.n<=8
  ·have ha:(decide (0<=n.n)&&decide (n.n<=8))=true:=by grind
   cases b:(v.kind==3)
   ·grind [xIy,xNH,Fp,Gh,Dq,FN,EX,LH]
   ·obtain⟨q1,q2⟩:=xKq gv (eq_of_beq b);have l2:=xNG (N:=N) (n:=n) (v:=v) (z:=Val.mk 0 0 0 [] [] [] []) a.2 b q1 q2 ns n.n.toNat 0 [] N (by omega) (by omega) (by simp) (by omega) (by omega);have hm:0<=EF n.n v.list.length/\EF n.n v.list.length<=(v.list.length:Int):=by grind [EF]
    have him:(if(v.list.length:Int)<n.n then(v.list.length:Int) else n.n)=EF n.n v.list.length:=rfl;have ht:v.list.take (EF n.n v.list.length).toNat=v.list.take n.n.toNat:=by
     grind
    grind [Fp,Gh,Dq,FN,DJ,EX,LH]
  ·have ha:(decide (0<=n.n)&&decide (n.n<=8))=false:=by
    grind
   simp only [Fp,Gh,h1,h2,jS,g,gt,jF,jT,Dq,FN,ha,jV,AJ,AL,EX,LH]
   first |exact⟨rfl,rfl⟩|exact⟨trivial,trivial⟩
 grind [Cr,Fp,EX,Gh]
def xCQ(i k:Int)(r:Rowd):Int:=V.wrap (r.cells.getD i.toNat Di+r.cells.getD k.toNat Di)
def EW(i k:Int)(r:Rowd):Bool:=AZ (xCQ i k r)
def CL(i k:Int)(r:Rowd):Rowd:=⟨r.cells++ [xCQ i k r],r.frm⟩
def J7(i k:Int)(nm:Str)(t:Val):Val:=bif t.rows.all (EW i k) then .mk t.kind t.n t.step t.text t.list (t.columns++ [nm]) (t.rows.map (CL i k)) else AO 5
def Rd{i k:Int}{rows q:List Rowd}{j:Nat}{x:Rowd}{l:List Rowd}(hd:rows.drop j=x::l)(hq:q=(rows.take j).map (CL i k)++rows.drop j):
 q[j]? =some x/\q.length=rows.length/\q.set j (CL i k x)=(rows.take (j+1)).map (CL i k)++rows.drop (j+1):=by
 grind [B9,List.take_add_one]
theorem xMO{N:Nat}{x11 x12:Int}{v z:Val}{k n s:Int}{t:Str}{li:List Val}{cs:List Str}(hl:v.rows.length<=1048576)(hN:1048576<N)
 (h1:∀r∈v.rows,(0<=x11/\x11<(r.cells.length:Int))/\(0<=x12/\x12<(r.cells.length:Int))/\r.cells.length<=1048576):
 FG N N x11 x12 0 v z (.mk k n s t li cs v.rows)=some (bif v.rows.all (EW x11 x12) then .mk k n s t li cs (v.rows.map (CL x11 x12)) else AO 5):=by
 refine A3 (L:=fun m i q=>FG N m x11 x12 i v z (.mk k n s t li cs q)) v.rows (fun l q=>bif l.all (EW x11 x12) then .mk k n s t li cs (v.rows.map (CL x11 x12)) else AO 5)
  (fun i q=>q=(v.rows.take i).map (CL x11 x12)++v.rows.drop i) (fun m q hq=> ?_) (fun i x l q hd hi hx hq=> ?_) N 0 v.rows (by simp) (by omega) (by omega)
 ·grind [FG,vr]
 ·obtain⟨c1,c2,c3⟩:=Rd (i:=x11) (k:=x12) hd hq;have hm:=Zy hx;obtain⟨b1,b2,b3⟩:=h1 x hm;have hi' :(i:Int)<(v.rows.length:Int):=by omega
  cases ho:EW x11 x12 x
  ·refine .inr fun m=> ?_;simp only [FG,vr,c2,Zz hi',jT,jI,AS hx,Cx,jS,show AZ (V.wrap (x.cells.getD x11.toNat Di+x.cells.getD x12.toNat Di))=false from ho,jV,AL,List.all_cons,ho,ZY,jF];rw [Zt (by omega),Zt b1,Zt b2];rfl
  ·refine .inl ⟨_,c3,by grind,fun m=> ?_⟩;simp only [FG,vk,vn,vs,vt,vl,vc,vr,c2,Zz hi',jT,jI,AS hx,AS c1,Cx,jS,show AZ (V.wrap (x.cells.getD x11.toNat Di+x.cells.getD x12.toNat Di))=true from ho,jU,jF,AM hi (by omega:v.rows.length<=_)];rw [Zt (by omega),Zt b1,Zt b2,Zt (by omega),Zt (by grind [Lim])];rfl
theorem xHU{N:Nat}{x11 x12:Int}{v z:Val}{k n s:Int}{t:Str}{li:List Val}{cs:List Str}(hl:v.rows.length<=1048576)(hN:1048576<N)
 (h1:∀r∈v.rows,(0<=x11/\x11<(r.cells.length:Int))/\(0<=x12/\x12<(r.cells.length:Int))/\r.cells.length<=1048576):
 D8 N N x11 x12 v.rows v.rows.length 0 z (.mk k n s t li cs v.rows)=some ((bif v.rows.all (EW x11 x12) then .mk k n s t li cs (v.rows.map (CL x11 x12)) else AO 5),false):=by
 refine A3 (L:=fun m i q=>D8 N m x11 x12 v.rows v.rows.length i z (.mk k n s t li cs q)) v.rows (fun l q=>((bif l.all (EW x11 x12) then .mk k n s t li cs (v.rows.map (CL x11 x12)) else AO 5),false))
  (fun i q=>q=(v.rows.take i).map (CL x11 x12)++v.rows.drop i) (fun m q hq=> ?_) (fun i x l q hd hi hx hq=> ?_) N 0 v.rows (by simp) (by omega) (by omega)
 ·grind [D8]
 ·obtain⟨c1,c2,c3⟩:=Rd (i:=x11) (k:=x12) hd hq;have hm:=Zy hx;obtain⟨b1,b2,b3⟩:=h1 x hm;have hi' :(i:Int)<(v.rows.length:Int):=by omega
  cases ho:EW x11 x12 x
  ·refine .inr fun m=> ?_;simp only [D8,vr,c2,Zz hi',jT,jI,AS hx,DN,jS,show AZ (V.wrap (x.cells.getD x11.toNat Di+x.cells.getD x12.toNat Di))=false from ho,jV,AJ,List.all_cons,ho,ZY,jF];rw [Zt (by omega),Zt b1,Zt b2];rfl
  ·refine .inl ⟨_,c3,by grind,fun m=> ?_⟩;simp only [D8,vk,vn,vs,vt,vl,vc,vr,c2,Zz hi',jT,jI,AS hx,AS c1,DN,jS,show AZ (V.wrap (x.cells.getD x11.toNat Di+x.cells.getD x12.toNat Di))=true from ho,jU,jF,AM hi (by omega:v.rows.length<=_)];rw [Zt (by omega),Zt b1,Zt b2,Zt (by omega),Zt (by grind [Lim])];rfl
def BB(m a b t:Val):Val×Bool:=bif(AW [2,2,2,5] [m,a,b,t]).2.1 then((AW [2,2,2,5] [m,a,b,t]).1,(AW [2,2,2,5] [m,a,b,t]).2.2) else
 (bif !CY m.text then AO 7 else bif decide (AN t.columns m.text 0>=0) then AO 7 else bif decide (AN t.columns a.text 0<0) then AO 7 else bif decide (AN t.columns b.text 0<0) then AO 7 else
   bif decide ((t.columns.length:Int)>=4) then AO 6 else J7 (AN t.columns a.text 0) (AN t.columns b.text 0) m.text t,false)
def kb4{a b c d:Val}{x y z w:Int}(h:kb [a,b,c,d] [x,y,z,w]=false):a.kind=x/\b.kind=y/\c.kind=z/\d.kind=w:=by
 grind [kb]
def U2{K:Nat}{a b c d:Val}(ha:a.Fit K)(hb:b.Fit K)(hc:c.Fit K)(hd:d.Fit K):∀x∈ [a,b,c,d],x.Fit K:=fun x hx=>by
 grind
def xFQ{c:List Str}(h:B8 c=true):c.length<=4:=by
 grind [B8]
theorem Jf{cols:List Str}{s:Str}(h:¬AN cols s 0<0):0<=AN cols s 0/\AN cols s 0<(cols.length:Int):=by
 grind [Jd]
def xDc{K:Nat}(hK:24<=K/\K<=1048576){m a b v:Val}(hm:m.Fit K)(ha:a.Fit K)(hb:b.Fit K)(hv:v.Fit K):Big fun N=>DF N m a b v=some (BB m a b v)/\DV N m a b v=some (BB m a b v).1:=by
 obtain⟨_,_,_,_,_,h6,h7⟩:=Val.fit_iff.1 hv;obtain⟨_,_,_,hmt,_,_,_⟩:=Val.fit_iff.1 hm;have hc:v.columns.length<=K:=h6.1;have hrl:v.rows.length<=K:=h7.1;have hmt:m.text.length<=K:=hmt;refine(((Dz (by omega) (vs:=[m,a,b,v]) (ks:=[2,2,2,5]) (U2 hm ha hb hv) (by grind) rfl).and (A2 1048576)).and ((xCn (by omega:K<=_) v hv).diag.and (PT (by omega:K<=_) v hv).diag)).imp fun N ⟨⟨⟨h1,h2⟩,hN⟩,cp1,cp2⟩=> ?_;have cp1:Bg N v=some v:=cp1;have cp2:Ba N v=some v:=cp2;obtain⟨e1,e2,e3,_⟩:=D7 (ks:=[2,2,2,5]) (U2 hm ha hb hv);have i1:=fun s=>D9 (N:=N) (v:=v) (s:=s) (by omega) (by omega);have i2:=fun s=>Cs (N:=N) (v:=v) (s:=s) (by omega) (by omega);have n1:=PL (N:=N) (s:=m.text) (by omega) (by omega);have n2:=Qu (N:=N) (s:=m.text) (by omega) (by omega) (by omega);cases g1:(AW [2,2,2,5] [m,a,b,v]).2.1
 ·have htag:=Fz g1;obtain⟨g2,g3⟩:=Bn g1;have hk5:=(kb4 g3).2.2.2;have hrows:=HA (g2 v (by simp)) hk5;obtain⟨hco,hr12⟩:=JW (g2 v (by simp)) hk5;have hc4:=xFQ hco;cases hnm:CY m.text
  ·exact⟨by simp only [DF,Val.re_eq,h1,jS,g1,htag,jF,i1,n1,hnm,jV,jT,AJ,BB];rfl,by simp only [DV,Val.re_eq,h2,jS,g1,jF,i2,n2,hnm,jV,jT,AL,BB];rfl⟩
  by_cases d1:AN v.columns m.text 0>=0
  ·exact⟨by simp only [DF,Val.re_eq,h1,jS,g1,htag,jF,i1,n1,hnm,jU,Zz d1,jT,AJ,BB];rfl,by simp only [DV,Val.re_eq,h2,jS,g1,jF,i2,n2,hnm,jU,Zz d1,jT,AL,BB];rfl⟩
  by_cases d2:AN v.columns a.text 0<0
  ·exact⟨by simp only [DF,Val.re_eq,h1,jS,g1,htag,jF,i1,n1,hnm,jU,Zw d1,Zz d2,jT,AJ,BB];rfl,by simp only [DV,Val.re_eq,h2,jS,g1,jF,i2,n2,hnm,jU,Zw d1,Zz d2,jT,AL,BB];rfl⟩
  by_cases d3:AN v.columns b.text 0<0
  ·exact⟨by simp only [DF,Val.re_eq,h1,jS,g1,htag,jF,i1,n1,hnm,jU,Zw d1,Zw d2,Zz d3,jT,AJ,BB];rfl,by simp only [DV,Val.re_eq,h2,jS,g1,jF,i2,n2,hnm,jU,Zw d1,Zw d2,Zz d3,jT,AL,BB];rfl⟩
  have q1:=Jf d2;have q2:=Jf d3;have hat:∀r∈v.rows,(0<=AN v.columns a.text 0/\AN v.columns a.text 0<(r.cells.length:Int))/\(0<=AN v.columns b.text 0/\AN v.columns b.text 0<(r.cells.length:Int))/\r.cells.length<=1048576:=fun r hr=>by
   grind
  by_cases d4:v.columns.length=4
  ·have e4:((v.columns.length:Int)==4)=true:=by grind
   have e5:decide ((v.columns.length:Int)>=4)=true:=Zz (by omega);exact⟨by simp only [DF,Val.re_eq,h1,jS,g1,htag,jF,i1,n1,hnm,jU,Zw d1,Zw d2,Zw d3,e5,jT,AJ,BB];rfl,by simp only [DV,Val.re_eq,h2,jS,g1,jF,i2,n2,hnm,jU,Zw d1,Zw d2,Zw d3,e4,e5,jT,AL,BB];rfl⟩
  ·have e4:((v.columns.length:Int)==4)=false:=ZR.2 (by omega);have e5:decide ((v.columns.length:Int)>=4)=false:=Zw (by omega)
   grind [Lim,jN,xHU,xMO,DF,Val.re_eq,BB,J7,DV]
 grind [DF,Val.re_eq,CD,BB,DV]
mutual
def Exp.cnt:Exp->Nat
 | .mk _ _ _ a=>1+Exp.cnts a
def Exp.cnts:List Exp->Nat
 | []=>0
 |x::r=>Exp.cnt x+Exp.cnts r
end
theorem Exp.cnts_eq(l:List Exp):Exp.cnts l=(l.map Exp.cnt).sum:=by
 induction l with
 |nil=>rfl
 |cons x l ih=>grind [Exp.cnts]
def Exp.cnt_eq(e:Exp):e.cnt=1+(e.args.map Exp.cnt).sum:=by
 cases e;grind [Exp.cnt,Exp.cnts_eq,Exp.args]
mutual
def Exp.nest:Exp->Nat
 | .mk _ _ _ a=>Exp.nests a+1
def Exp.nests:List Exp->Nat
 | []=>0
 |x::r=>max (Exp.nest x) (Exp.nests r)
end
def Exp.nest_eq(e:Exp):e.nest=Exp.nests e.args+1:=by cases e;rfl
def xCT{f g:Exp->Nat}:∀ {a:List Exp},(∀x∈a,f x<=g x+1)->(a.map f).sum<=a.length+(a.map g).sum
 | [],_=>Zn _
 |x::l,ih=>by
  have h1:=ih x Zp;have h2:=xCT fun y hy=>ih y (Zr _ hy)
  grind
def Exp.cnt_le:∀e:Exp,e.cnt<=e.size+1:=by
 refine Exp.ind fun k n t a ih=> ?_;rw [Exp.cnt_eq,Exp.size_eq];have:=xCT ih;show 1+(a.map Exp.cnt).sum<=t.length+(a.length+(a.map Exp.size).sum)+1;omega
def xBk:∀ {a:List Exp},(∀x∈a,x.nest<=x.cnt)->Exp.nests a<=(a.map Exp.cnt).sum
 | [],_=>Zn _
 |x::l,ih=>by
  have h1:=ih x Zp;have h2:=xBk fun y hy=>ih y (Zr _ hy)
  grind [Exp.nests]
def Exp.nest_le:∀e:Exp,e.nest<=e.cnt:=by
 refine Exp.ind fun k n t a ih=> ?_;rw [Exp.nest_eq,Exp.cnt_eq];have:=xBk ih;show Exp.nests a+1<=1+(a.map Exp.cnt).sum;omega
def K8(vT vN:Str->Bool)(ac:Str->Int)(k n:Int)(t:Str)(l:Nat):Bool:=
 bif k==1 then(decide (0<=n)&&decide (n<=1000000000))&&((t== [])&&(l==0))
 else bif k==2 then(n==0)&&(vT t&&(l==0))
 else bif k==3 then(n==0)&&(vN t&&(l==0))
 else bif k==4 then(n==0)&&((t== [])&&decide (l<=8))
 else bif k==5 then(n==0)&&((l:Int)==ac t)
 else bif k==6 then(decide (1<=n)&&decide (n<=5))&&((t== [])&&(l==2))
 else bif k==7 then(n==0)&&(vN t&&(l==2))
 else bif k==9 then(n==0)&&(vN t&&(l==2))
 else bif k==8 then(n==0)&&((t== [])&&(l==3)) else false
def Og{α:Type}{b:Bool}{x y:Option α}(h1:∃r,x=some r)(h2:∃r,y=some r):∃r,(bif b then x else y)=some r:=by grind
def Ay(s:Str):Int:=(DW 0 s).getD 0
def Ql(N:Nat)(s:Str):DW N s=some (Ay s):=by
 have key:∃r,DW 0 s=some r:=by
  unfold DW
  repeat (first |exact⟨_,rfl⟩|refine Og ⟨_,rfl⟩ ?_)
 grind [DW,Ay]
def Ue(N:Nat)(s:Str):Fd N s=some (Ay s):=(show Fd N s=DW N s from rfl).trans (Ql N s)
def Et(e:Exp):Bool:=K8 EY CY Ay e.kind e.n e.text e.args.length
def xA8(l:Nat):((l:Int)==0)=(l==0):=by
 grind
def xA9(l:Nat):((l:Int)==2)=(l==2):=by
 grind
def xBa(l:Nat):((l:Int)==3)=(l==3):=by
 grind
def xBb(l:Nat):decide ((l:Int)<=8)=decide (l<=8):=by
 grind
theorem xH5{N:Nat}{e:Exp}(ht:e.text.length<=9223372036854775807)(hn:e.text.length<N):MM N e=some (Et e):=by
 simp only [MM,Et,K8,Dq,Um ht hn,PL (N:=N) ht hn,Ue,jS,xA8,xA9,xBa,xBb]
 grind
theorem xM4{N:Nat}{e:Exp}(ht:e.text.length<=9223372036854775807)(hn:e.text.length<N)(h24:24<N):OF N e=some (Et e):=by
 simp only [OF,Et,K8,FN,Qv ht hn,Qu (N:=N) (s:=e.text) ht hn h24,Ql,jS,xA8,xA9,xBa,xBb]
 grind
mutual
def okE:Exp->Bool
 | .mk k n t a=>N7 a&&Et (.mk k n t a)
def N7:List Exp->Bool
 | []=>true
 |x::r=>okE x&&N7 r
end
def xKT(l:List Exp):N7 l=l.all okE:=by
 induction l with
 |nil=>rfl
 |cons x l ih=>grind [N7]
def QZ(e:Exp):okE e=(e.args.all okE&&Et e):=by
 cases e;simp only [okE,xKT];rfl
def xDe{K:Nat}(hK:K<=1048576):∀e:Exp,e.Fit K->Big2 fun N d=>Ju N d e=some (okE e)/\LA N d e=some (okE e):=by
 refine Exp.ind fun k n t a ih h=> ?_;obtain⟨h1,h2,h3,h4⟩:=Exp.fit_iff.1 h;refine Big2.succ ?_;refine((Big2.list fun x hx=>ih x hx (h4.2 x hx)).and (A2 (K+30)).two).imp fun N d ⟨hx,hn⟩=> ?_;have hl:a.length<=K:=h4.1;have ht:(Exp.mk k n t a).text.length<=K:=h3;rw [QZ];refine⟨?_,?_⟩
 ·exact A3 (σ:=Unit) (L:=fun m i _=>Fq N (Ju N d) m a a.length i (.mk k n t a)) a (fun l _=>l.all okE&&Et (.mk k n t a)) (fun _ _=>True) (fun m _ _=>by grind [Fq,xH5])
   (fun i x l _ hd hi hxi _=>by
     have hi' :(i:Int)<(a.length:Int):=by omega
     have hm:=Zy hxi;cases ho:okE x
     ·grind [Fq,jI]
     ·refine .inl ⟨(),trivial,by grind,fun m=> ?_⟩
      grind [Fq,jI,AM]) N 0 () trivial (by omega) (by omega)
 ·exact A3 (σ:=Unit) (L:=fun m i _=>Gi N (LA N d) m i (.mk k n t a)) a (fun l _=>l.all okE&&Et (.mk k n t a)) (fun _ _=>True) (fun m _ _=>by grind [Gi,ea,xM4])
   (fun i x l _ hd hi hxi _=>by
     have hi' :(i:Int)<((Exp.mk k n t a).args.length:Int):=by show(i:Int)<(a.length:Int);omega
     have hi2:(0:Int)<=(i:Int)/\(i:Int)<((Exp.mk k n t a).args.length:Int):=⟨by omega,hi'⟩;have hm:=Zy hxi;have hxi2:(Exp.mk k n t a).args[i]? =some x:=hxi;cases ho:okE x
     ·grind [Gi,jI]
     ·refine .inl ⟨(),trivial,by grind,fun m=> ?_⟩
      grind [Gi,jI,AM]) N 0 () trivial (by omega) (by omega)
def GH(v:Val):Val×Bool:=bif(opG [v]).2.1 then((opG [v]).1,(opG [v]).2.2) else(bif v.kind==3 then AY v.list.length else bif v.kind==2 then AY v.text.length else AO 4,false)
def xKk{K:Nat}(hK:24<=K/\K<=4611686018427387903){v:Val}(h:v.Fit K):Big fun N=>Lz N v=some (GH v)/\Nz N v=some (GH v).1:=by
 refine(I3 hK (l:=[v]) (Q4 h) (by grind)).imp fun N ⟨h1,h2⟩=> ?_;obtain⟨e1,e2,e3,_⟩:=Eu (l:=[v]);have hz:∀n:Int,Val.mk 1 n 0 [] [] [] []=AY n:=fun _=>rfl;refine⟨?_,?_⟩
 ·simp only [Lz,Val.re_eq,h1,jS,e1,e2,e3,jE,Ys,CD e1 e2 e3,At,AJ,hz,GH];cases g1:(opG [v]).2.1
  ·rw [I2 g1];cases v.kind==3 <;>cases v.kind==2 <;>rfl
  grind
 ·simp only [Nz,Val.re_eq,h2,jS,As,AL,hz,GH];cases g1:(opG [v]).2.1
  ·cases v.kind==3 <;>cases v.kind==2 <;>rfl
  ·rfl
def Kb(a b:Val):Val×Bool:=bif(AW [1,1] [a,b]).2.1 then((AW [1,1] [a,b]).1,(AW [1,1] [a,b]).2.2) else(.mk 4 a.n b.n [] [] [] [],false)
def DC(s:Str):Bool:=(Dh 0 s).getD true
def cas(s:Str)(l:List Val):Val×Bool:=
 let g:=fun i=>l.getD i Dv
 bif s== [108,101,110] then GH (g 0) else bif s== [115,117,109] then Gx (g 0) else bif s== [114,111,119,115] then HG (g 0) else
 bif s== [116,97,107,101] then EX (g 0) (g 1) else bif s== [115,107,105,112] then skG (g 0) (g 1) else bif s== [110,116,104] then Bp (g 0) (g 1) else
 bif s== [107,101,101,112] then Fy (g 0) (g 1) else bif s== [99,111,108,117,109,110] then DA (g 0) (g 1) else bif s== [116,97,98,108,101] then FSq (g 0) (g 1) else
 bif s== [119,104,101,114,101] then whG (g 0) (g 1) (g 2) else bif s== [103,114,111,117,112] then CE (g 0) (g 1) (g 2) else bif s== [106,111,105,110] then C6 (g 0) (g 1) (g 2) else
 bif s== [97,100,100] then BB (g 0) (g 1) (g 2) (g 3) else bif s== [114,97,110,103,101] then Kb (g 0) (g 1) else(AO 4,false)
def BP(s:Str)(l:List Val):Val×Bool:=bif(l.length:Int) != Ay s then(AO 4,false) else cas s l
def xCW(r:Val×Bool):Option (Val×Bool):=bif r.2 then some (r.1,true) else some (r.1,false)
theorem xOe(r:Val×Bool):xCW r=some r:=by obtain⟨x,b⟩:=r;cases b <;>rfl
def CN{s:Str}{l:List Val}{r:Val×Bool}{f:Nat->Option (Val×Bool)}{g:Nat->Option Val}(h:Big fun N=>f N=some r/\g N=some r.1)(e:BP s l=r)
 (h1:∀N,DI N s l=Option.bind (f N) xCW) (h2:∀N,DX N s l=Option.bind (g N) some):Big fun N=>DI N s l=some (BP s l)/\DX N s l=some (BP s l).1:=
 h.imp fun N ⟨a,b⟩=>⟨by grind [xOe],by grind⟩
def xFI{s:Str}{l:List Val}(h:((l.length:Int) != Ay s)=true)(N:Nat):DI N s l=some (BP s l)/\DX N s l=some (BP s l).1:=by
 have he:∃b,Dh N s=some b:=by
  unfold Dh;exact Og ⟨_,rfl⟩ (Og ⟨_,rfl⟩ ⟨_,rfl⟩)
 obtain⟨b,hb⟩:=he;refine⟨?_,?_⟩
 ·simp only [DI,hb,Ue,jS,h,jT,AJ,BP];cases b <;>rfl
 ·simp only [DX,Ql,jS,h,jT,AL,BP]
  rfl
def xKJ(s:Str):Ay s= -1\/s∈([[99,108,111,99,107],[108,101,110],[115,117,109],[114,111,119,115],[99,104,97,110,99,101],[102,105,108,101],[116,97,107,101],[115,107,105,112],[114,97,110,103,101],[110,116,104],[107,101,101,112],[99,111,108,117,109,110],[116,97,98,108,101],[119,104,101,114,101],[103,114,111,117,112],[106,111,105,110],[97,100,100]]:List Str):=by
 by_cases h:s∈([[99,108,111,99,107],[108,101,110],[115,117,109],[114,111,119,115],[99,104,97,110,99,101],[102,105,108,101],[116,97,107,101],[115,107,105,112],[114,97,110,103,101],[110,116,104],[107,101,101,112],[99,111,108,117,109,110],[116,97,98,108,101],[119,104,101,114,101],[103,114,111,117,112],[106,111,105,110],[97,100,100]]:List Str)
 ·grind
 ·refine .inl ?_;simp only [Zh,Z6,or_false,not_or,<-ZR] at h
  grind [Ay,DW]
theorem GF{l:List Val}(h:l.length=1):∃a,l=[a]:=by
 match l,h with
 | [a],_=>grind
def GG{l:List Val}(h:l.length=2):∃a b,l=[a,b]:=by
 match l,h with
 | [a,b],_=>grind
def QL{l:List Val}(h:l.length=3):∃a b c,l=[a,b,c]:=by
 match l,h with
 | [a,b,c],_=>grind
def xKf{l:List Val}(h:l.length=4):∃a b c d,l=[a,b,c,d]:=by
 match l,h with
 | [a,b,c,d],_=>grind
def xDl{s:Str}{l:List Val}{P:Str->List Val->Prop}(h:((l.length:Int) != Ay s)=false)(z:P [99,108,111,99,107] [])
 (o1:∀a,l=[a]->∀s∈([[108,101,110],[115,117,109],[114,111,119,115],[99,104,97,110,99,101],[102,105,108,101]]:List Str),P s [a])
 (o2:∀a b,l=[a,b]->∀s∈([[116,97,107,101],[115,107,105,112],[114,97,110,103,101],[110,116,104],[107,101,101,112],[99,111,108,117,109,110],[116,97,98,108,101]]:List Str),P s [a,b])
 (o3:∀a b c,l=[a,b,c]->∀s∈([[119,104,101,114,101],[103,114,111,117,112],[106,111,105,110]]:List Str),P s [a,b,c])
 (o4:∀a b c d,l=[a,b,c,d]->P [97,100,100] [a,b,c,d]):P s l:=by
 have h:(l.length:Int)=Ay s:=by grind
 rcases xKJ s with e|hs
 ·grind
 ·simp only [Zh,Z6,or_false] at hs;have f:∀(k:Nat) (t:Str),s=t->Ay t=(k:Int)->l.length=k:=fun k t e1 e2=>by grind
  rcases hs with e|e|e|e|e|e|e|e|e|e|e|e|e|e|e|e|e
  ·obtain rfl:l=[]:=Z3.1 (f 0 _ e (by kernel_rfl))
   grind
  ·obtain⟨a,q⟩:=GF (f 1 _ e (by kernel_rfl));grind
  ·obtain⟨a,q⟩:=GF (f 1 _ e (by kernel_rfl));grind
  ·obtain⟨a,q⟩:=GF (f 1 _ e (by kernel_rfl));grind
  ·obtain⟨a,q⟩:=GF (f 1 _ e (by kernel_rfl));grind
  ·obtain⟨a,q⟩:=GF (f 1 _ e (by kernel_rfl));grind
  ·obtain⟨a,b,q⟩:=GG (f 2 _ e (by kernel_rfl));grind
  ·obtain⟨a,b,q⟩:=GG (f 2 _ e (by kernel_rfl));grind
  ·obtain⟨a,b,q⟩:=GG (f 2 _ e (by kernel_rfl));grind
  ·obtain⟨a,b,q⟩:=GG (f 2 _ e (by kernel_rfl));grind
  ·obtain⟨a,b,q⟩:=GG (f 2 _ e (by kernel_rfl));grind
  ·obtain⟨a,b,q⟩:=GG (f 2 _ e (by kernel_rfl));grind
  ·obtain⟨a,b,q⟩:=GG (f 2 _ e (by kernel_rfl));grind
  ·obtain⟨a,b,c,q⟩:=QL (f 3 _ e (by kernel_rfl));grind
  ·obtain⟨a,b,c,q⟩:=QL (f 3 _ e (by kernel_rfl));grind
  ·obtain⟨a,b,c,q⟩:=QL (f 3 _ e (by kernel_rfl));grind
  ·obtain⟨a,b,c,d,q⟩:=xKf (f 4 _ e (by kernel_rfl));grind
def SK{s:Str}{l:List Val}(h:LFit 1048576 (Val.Fit 1048576) l):Big fun N=>DI N s l=some (BP s l)/\DX N s l=some (BP s l).1:=by
 cases hn:((l.length:Int) != Ay s)
 ·refine xDl (P:=fun s l=>Big fun N=>DI N s l=some (BP s l)/\DX N s l=some (BP s l).1) hn (Big.of fun N=>⟨by kernel_rfl,by kernel_rfl⟩) (fun a e s hs=> ?_) (fun a b e s hs=> ?_) (fun a b c e s hs=> ?_) (fun a b c d e=> ?_)
  ·have fa:a.Fit 1048576:=h.2 a (by grind);simp only [Zh,Z6,or_false] at hs;rcases hs with rfl|rfl|rfl|rfl|rfl
   ·exact CN (xKk (by omega) fa) (by kernel_rfl) (fun N=>by kernel_rfl) (fun N=>by kernel_rfl)
   ·exact CN (xNS (by omega) fa) (by kernel_rfl) (fun N=>by kernel_rfl) (fun N=>by kernel_rfl)
   ·exact CN (cnt_eq (by omega) fa) (by kernel_rfl) (fun N=>by kernel_rfl) (fun N=>by kernel_rfl)
   ·exact Big.of fun N=>⟨by kernel_rfl,by kernel_rfl⟩
   ·exact Big.of fun N=>⟨by kernel_rfl,by kernel_rfl⟩
  ·have fa:a.Fit 1048576:=h.2 a (by grind);have fb:b.Fit 1048576:=h.2 b (by grind);simp only [Zh,Z6,or_false] at hs;rcases hs with rfl|rfl|rfl|rfl|rfl|rfl|rfl
   ·exact CN (xOg (by omega) fa fb) (by kernel_rfl) (fun N=>by kernel_rfl) (fun N=>by kernel_rfl)
   ·exact CN (xLO (by omega) fa fb) (by kernel_rfl) (fun N=>by kernel_rfl) (fun N=>by kernel_rfl)
   ·refine(Dz (K:=1048576) (by omega) (vs:=[a,b]) (ks:=[1,1]) (fun x hx=>by grind) (by simp) rfl).imp fun N ⟨h1,h2⟩=> ?_;obtain⟨e1,e2,e3,_⟩:=D7 (ks:=[1,1]) (l:=[a,b]) (K:=1048576) fun x hx=>by grind
    have i1:DI N [114,97,110,103,101] [a,b]=Option.bind (CS N [1,1] [a,b]) fun r=>bif r.2.2 then(if List.isEmpty r.1.list=true then if List.isEmpty r.1.columns=true then if List.isEmpty r.1.rows=true then(bif r.2.1 then some (.mk r.1.kind r.1.n r.1.step r.1.text [] [] [],true) else some (.mk 4 a.n b.n [] [] [] [],false)) else none else none else none) else bif r.2.1 then some (r.1,false) else some (.mk 4 a.n b.n [] [] [] [],false):=by kernel_rfl
    have i2:DX N [114,97,110,103,101] [a,b]=Option.bind (OG N a b) some:=by kernel_rfl
    have i3:BP [114,97,110,103,101] [a,b]=Kb a b:=by kernel_rfl
    grind [Kb,OG,Kx,Val.re_eq,CD]
   ·exact CN (QY (by omega) fa fb) (by kernel_rfl) (fun N=>by kernel_rfl) (fun N=>by kernel_rfl)
   ·exact CN (xIV (by omega) fa fb) (by kernel_rfl) (fun N=>by kernel_rfl) (fun N=>by kernel_rfl)
   ·exact CN (xFP (by omega) fa fb) (by kernel_rfl) (fun N=>by kernel_rfl) (fun N=>by kernel_rfl)
   ·exact CN (xOi (by omega) fa fb) (by kernel_rfl) (fun N=>by kernel_rfl) (fun N=>by kernel_rfl)
  ·have fa:a.Fit 1048576:=h.2 a (by grind);have fb:b.Fit 1048576:=h.2 b (by grind);have fc:c.Fit 1048576:=h.2 c (by grind);simp only [Zh,Z6,or_false] at hs;rcases hs with rfl|rfl|rfl
   ·exact CN (xOO (by omega) fa fb fc) (by kernel_rfl) (fun N=>by kernel_rfl) (fun N=>by kernel_rfl)
   ·exact CN (xGY (by omega) fa fb fc) (by kernel_rfl) (fun N=>by kernel_rfl) (fun N=>by kernel_rfl)
   ·exact CN (xIQ (by omega) fa fb fc) (by kernel_rfl) (fun N=>by kernel_rfl) (fun N=>by kernel_rfl)
  ·have fa:a.Fit 1048576:=h.2 a (by grind);have fb:b.Fit 1048576:=h.2 b (by grind);have fc:c.Fit 1048576:=h.2 c (by grind);have fd:d.Fit 1048576:=h.2 d (by grind);exact CN (xDc (by omega) fa fb fc fd) (by kernel_rfl) (fun N=>by kernel_rfl) (fun N=>by kernel_rfl)
 ·exact Big.of fun N=>xFI hn N
def eqI{α:Type}(p:Nat->α->Bool)(xs:List α)(n:Nat):Bool:=bif((xs.length:Int) != (n:Int)) then false else Ah p xs 0
def xNJ{N:Nat}{xs ys:List Str}(hl:xs.length<=137438953472)(hn:xs.length<N):OS N xs ys=some (eqI (fun i x=>x==ys.getD i Ds) xs ys.length):=by
 unfold OS eqI;cases h:((xs.length:Int) != (ys.length:Int))
 ·have hlen:(xs.length:Int)=(ys.length:Int):=by grind
  rw [jF,jF];refine(BI (x0:=xs) (L:=fun n i=>JQ N n xs ys i) (p:=fun i x=>x==ys.getD i Ds) (e:=some true) (fun n=>by simp [JQ]) (fun i x n hi hx _=> ?_) hn).trans (by grind)
  grind [JQ,AM]
 ·rfl
def xIA{N:Nat}{xs ys:List Str}(hl:xs.length<=137438953472)(hn:xs.length<N):MS N xs ys=some (eqI (fun i x=>x==ys.getD i Ds) xs ys.length):=by
 unfold MS eqI;cases h:((xs.length:Int) != (ys.length:Int))
 ·have hlen:(xs.length:Int)=(ys.length:Int):=by grind
  rw [jF,jF];refine(BI (x0:=xs) (L:=fun n i=>Hb N n xs ys xs.length i) (p:=fun i x=>x==ys.getD i Ds) (e:=some true) (fun n=>by simp [Hb]) (fun i x n hi hx _=> ?_) hn).trans (by grind)
  grind [Hb,AM]
 ·rfl
def xMU{N:Nat}{xs ys:List Int}(hl:xs.length<=137438953472)(hn:xs.length<N):OM N xs ys=some (eqI (fun i x=>x==ys.getD i Di) xs ys.length):=by
 unfold OM eqI;cases h:((xs.length:Int) != (ys.length:Int))
 ·have hlen:(xs.length:Int)=(ys.length:Int):=by grind
  rw [jF,jF];refine(BI (x0:=xs) (L:=fun n i=>JL N n xs ys i) (p:=fun i x=>x==ys.getD i Di) (e:=some true) (fun n=>by simp [JL]) (fun i x n hi hx _=> ?_) hn).trans (by grind)
  grind [JL,AM]
 ·rfl
def xH4{N:Nat}{xs ys:List Int}(hl:xs.length<=137438953472)(hn:xs.length<N):MR N xs ys=some (eqI (fun i x=>x==ys.getD i Di) xs ys.length):=by
 unfold MR eqI;cases h:((xs.length:Int) != (ys.length:Int))
 ·have hlen:(xs.length:Int)=(ys.length:Int):=by grind
  rw [jF,jF];refine(BI (x0:=xs) (L:=fun n i=>Ha N n xs ys xs.length i) (p:=fun i x=>x==ys.getD i Di) (e:=some true) (fun n=>by simp [Ha]) (fun i x n hi hx _=> ?_) hn).trans (by grind)
  grind [Ha,AM]
 ·rfl
def Ia(ys:List Rowd)(i:Nat)(x:Rowd):Bool:=eqI (fun j z=>z==(ys.getD i Dr).cells.getD j Di) x.cells (ys.getD i Dr).cells.length
mutual
def BZ:Val->Val->Bool
 | .mk k n s t l c r,b=>(k==b.kind)&&((n==b.n)&&((s==b.step)&&((t==b.text)&&(eqI (fun i x=>x==b.columns.getD i Ds) c b.columns.length&&(((l.length:Int)==(b.list.length:Int))&&(((r.length:Int)==(b.rows.length:Int))&&(Nb l b.list 0&&Ah (Ia b.rows) r 0)))))))
def Nb:List Val->List Val->Nat->Bool
 | [],_,_=>true
 |x::r,ys,i=>BZ x (ys.getD i Dv)&&Nb r ys (i+1)
end
theorem xBS(ys:List Val):∀(l:List Val) (i:Nat),Nb l ys i=Ah (fun i x=>BZ x (ys.getD i Dv)) l i
 | [],_=>rfl
 |x::r,i=>by simp only [Nb,Ah,xBS ys r (i+1)]
def xBR(a b:Val):BZ a b=((a.kind==b.kind)&&((a.n==b.n)&&((a.step==b.step)&&((a.text==b.text)&&(eqI (fun i x=>x==b.columns.getD i Ds) a.columns b.columns.length&&(((a.list.length:Int)==(b.list.length:Int))&&(((a.rows.length:Int)==(b.rows.length:Int))&&(Ah (fun i x=>BZ x (b.list.getD i Dv)) a.list 0&&Ah (Ia b.rows) a.rows 0)))))))):=by
 cases a
 grind [BZ,xBS,vk,vn,vs,vt,vl,vc,vr]
def xNF{N d K:Nat}{a b:Val}(ha:a.Fit K)(hb:b.Fit K)(hK:K<=137438953472)(hN:K<N)
 (hx:∀x∈a.list,∀y∈b.list,Cb N d x y false=some (BZ x y)):Cb N (d+1) a b false=some (BZ a b):=by
 obtain⟨_,_,_,_,h5,h6,h7⟩:=Val.fit_iff.1 ha;have l5:a.list.length<=K:=h5.1;have l6:a.columns.length<=K:=h6.1;have l7:a.rows.length<=K:=h7.1;rw [xBR];show OQ N (Cb N d) a b false=_;unfold OQ;rw [xNJ (by omega) (by omega),jS];simp only [bne];cases (a.kind==b.kind)
 ·rfl
 cases (a.n==b.n)
 ·rfl
 cases (a.step==b.step)
 ·rfl
 cases (a.text==b.text)
 ·rfl
 simp only [jU,jF,ZV];cases hl:((a.list.length:Int)==(b.list.length:Int))
 ·grind
 ·simp only [jU,jF,ZV];cases eqI (fun i x=>x==b.columns.getD i Ds) a.columns b.columns.length
  ·rfl
  ·simp only [jU,jF,ZV];cases hr:((a.rows.length:Int)==(b.rows.length:Int))
   ·rfl
   ·simp only [jU,jF,ZV];have el:(a.list.length:Int)=b.list.length:=eq_of_beq hl;have er:(a.rows.length:Int)=b.rows.length:=eq_of_beq hr;have r9:ES N (Cb N d) N false 0 a b=bif Ah (Ia b.rows) a.rows 0 then some true else some false:=by
     refine BI (x0:=a.rows) (L:=fun n i=>ES N (Cb N d) n false i a b) (fun n=>by simp [ES]) (fun i x n hi hxi hm=> ?_) (by omega);have hi' :(i:Int)<(a.rows.length:Int):=by omega
     have hc:x.cells.length<=K:=(h7.2 x hm).1.1;simp only [ES,Zz hi',jT,jF,jI,AS hxi,AM hi (by omega:a.rows.length<=_),xMU (N:=N) (xs:=x.cells) (by omega) (by omega),jS]
     grind [Ia]
    have r4:Gu N (Cb N d) N false 0 a b=bif Ah (fun i x=>BZ x (b.list.getD i Dv)) a.list 0 then ES N (Cb N d) N false 0 a b else some false:=by
     refine BI (x0:=a.list) (L:=fun n i=>Gu N (Cb N d) n false i a b) (fun n=>by simp [Gu]) (fun i x n hi hxi hm=> ?_) (by omega)
     grind [Gu,jI,AM]
    grind
def xIv{N d K:Nat}{a b:Val}(ha:a.Fit K)(hb:b.Fit K)(hK:K<=137438953472)(hN:K<N)
 (hx:∀x∈a.list,∀y∈b.list,C4 N d x y false=some (BZ x y)):C4 N (d+1) a b false=some (BZ a b):=by
 obtain⟨_,_,_,_,h5,h6,h7⟩:=Val.fit_iff.1 ha;have l5:a.list.length<=K:=h5.1;have l6:a.columns.length<=K:=h6.1;have l7:a.rows.length<=K:=h7.1;rw [xBR];show ML N (C4 N d) a b false=_;unfold ML;rw [xIA (by omega) (by omega),jS];simp only [bne];cases (a.kind==b.kind)
 ·rfl
 cases (a.n==b.n)
 ·rfl
 cases (a.step==b.step)
 ·rfl
 cases (a.text==b.text)
 ·rfl
 simp only [jU,jF,ZV];cases eqI (fun i x=>x==b.columns.getD i Ds) a.columns b.columns.length
 ·rfl
 ·simp only [jU,jF,ZV];cases hl:((a.list.length:Int)==(b.list.length:Int))
  ·rfl
  ·simp only [jU,jF,ZV];cases hr:((a.rows.length:Int)==(b.rows.length:Int))
   ·rfl
   ·simp only [jU,jF,ZV];have el:(a.list.length:Int)=b.list.length:=eq_of_beq hl;have er:(a.rows.length:Int)=b.rows.length:=eq_of_beq hr;have r9:Dg N (C4 N d) N false a.rows.length 0 a b=bif Ah (Ia b.rows) a.rows 0 then some true else some false:=by
     refine BI (x0:=a.rows) (L:=fun n i=>Dg N (C4 N d) n false a.rows.length i a b) (fun n=>by simp [Dg]) (fun i x n hi hxi hm=> ?_) (by omega);have hi' :(i:Int)<(a.rows.length:Int):=by omega
     have hc:x.cells.length<=K:=(h7.2 x hm).1.1;simp only [Dg,Zz hi',jT,jF,jI,AS hxi,AM hi (by omega:a.rows.length<=_),xH4 (N:=N) (xs:=x.cells) (by omega) (by omega),jS]
     grind [Ia]
    have r4:Ft N (C4 N d) N false a.list.length 0 a b=bif Ah (fun i x=>BZ x (b.list.getD i Dv)) a.list 0 then Dg N (C4 N d) N false a.rows.length 0 a b else some false:=by
     refine BI (x0:=a.list) (L:=fun n i=>Ft N (C4 N d) n false a.list.length i a b) (fun n=>by simp [Ft]) (fun i x n hi hxi hm=> ?_) (by omega)
     grind [Ft,jI,AM]
    grind
def xLy{K:Nat}(hK:K<=137438953472):∀a:Val,a.Fit K->∀b:Val,b.Fit K->Big2 fun N d=>Cb N d a b false=some (BZ a b)/\C4 N d a b false=some (BZ a b):=by
 refine Val.ind fun k n s t l c r ih ha b hb=> ?_;obtain⟨_,_,_,_,h5,_,_⟩:=Val.fit_iff.1 ha;obtain⟨_,_,_,_,g5,_,_⟩:=Val.fit_iff.1 hb;refine Big2.succ ?_;refine((Big2.list fun x hx=>Big2.list fun y hy=>ih x hx (h5.2 x hx) y (g5.2 y hy)).and (A2 K).two).imp fun N d ⟨hx,hN⟩=>⟨?_,?_⟩
 ·exact xNF ha hb hK hN fun x hm y hy=>(hx x hm y hy).1
 ·exact xIv ha hb hK hN fun x hm y hy=>(hx x hm y hy).2
def xLG{K:Nat}(hK:K<=137438953472){a b:Val}(ha:a.Fit K)(hb:b.Fit K):Big fun N=>JA N a b=some (BZ a b)/\Ji N a b=some (BZ a b):=
 (xLy hK a ha b hb).diag.imp fun N h=>by
   grind [RQ,PU,JA,Ji]
def HE(a b:Val):Val:=
 bif a.kind==1 then(bif b.kind==1 then CO (V.wrap (a.n+b.n)) else AO 4)
 else bif a.kind==2 then(bif b.kind==2 then(bif decide (V.wrap ((a.text.length:Int)+(b.text.length:Int))>20) then AO 6 else .mk 2 0 0 (a.text++b.text) [] [] []) else AO 4)
 else bif a.kind==3 then(bif b.kind==3 then(bif decide (V.wrap ((a.list.length:Int)+(b.list.length:Int))>8) then AO 6 else .mk 3 0 0 [] (a.list++b.list) [] []) else AO 4)
 else AO 4
def JY(t:Bool):Val:=bif t then AY 1 else AY 0
def KZ(a b:Val):Val:=
 bif a.kind==1 then(bif b.kind==1 then JY (decide (a.n<b.n)) else AO 4)
 else bif a.kind==2 then(bif b.kind==2 then JY (Op.bytesLess a.text b.text) else AO 4)
 else AO 4
def opV(op:Int)(a b:Val):Val:=
 bif op==1 then HE a b else bif op==4 then KZ a b else bif op==5 then JY (BZ a b)
 else bif op==2 then(bif a.kind==1 then(bif b.kind==1 then CO (V.wrap (a.n - b.n)) else AO 4) else AO 4)
 else bif op==3 then(bif a.kind==1 then(bif b.kind==1 then CO (V.wrap (a.n*b.n)) else AO 4) else AO 4)
 else AO 4
def Bh(op:Int)(a b:Val):Val×Bool:=bif(opG [a,b]).2.1 then((opG [a,b]).1,(opG [a,b]).2.2) else(opV op a b,false)
def xMN{N:Nat}{a b:Val}(h1:a.text.length<=137438953472)(h2:b.text.length<=137438953472)(h3:a.list.length+b.list.length<=137438953472)(hn:a.list.length+b.list.length<N)(hc:∀x∈a.list++b.list,Bg N x=some x):JR N a b=some (HE a b):=by
 have hl:=Qx (N:=N) (l:=a.list++b.list) (by grind) (by grind) hc;unfold JR HE;cases (a.kind==1)
 ·cases (a.kind==2)
  ·cases (a.kind==3)
   ·rfl
   ·cases (b.kind==3)
    ·rfl
    ·simp only [jT,jF,jM,hl,AL,jS];cases decide (V.wrap ((a.list.length:Int)+(b.list.length:Int))>8)
     ·grind [Lim]
     ·rfl
  ·cases (b.kind==2)
   ·rfl
   ·simp only [jT,jF,Kz,AL,jS];cases decide (V.wrap ((a.text.length:Int)+(b.text.length:Int))>20)
    ·grind [Lim]
    ·rfl
 ·cases (b.kind==1)
  ·rfl
  grind [RA]
def xCN(N:Nat)(t:Bool):JF N t=some (JY t):=by cases t <;>rfl
def xIB(N:Nat)(t:Bool):Jr N t=some (JY t):=by cases t <;>rfl
def xNB(N:Nat)(a b:Val):LE N a b=some (KZ a b):=by
 unfold LE KZ;simp only [xCN,jS];cases (a.kind==1)
 ·cases (a.kind==2)
  ·rfl
  ·cases (b.kind==2) <;>rfl
 ·cases (b.kind==1) <;>rfl
def xND{N:Nat}{op:Int}{a b:Val}(ha:JR N a b=some (HE a b))(hs:JA N a b=some (BZ a b))(h5:ET N [a,b]=some ((opG [a,b]).1,(opG [a,b]).2.1)):
 Kk N op a b=some (Bh op a b).1:=by
 unfold Kk;simp only [Val.re_eq,h5,jS,ha,hs,xNB,xCN,RA,AL,Bh,opV];cases (opG [a,b]).2.1
 ·cases (a.kind==1) <;>cases (op==1) <;>cases (op==4) <;>cases (op==5) <;>cases (op==2) <;>cases (op==3) <;>cases (b.kind==1) <;>rfl
 ·rfl
def xIo{N:Nat}{op:Int}{a b:Val}(h1:a.text.length+b.text.length<=137438953472)(h3:a.list.length+b.list.length<=137438953472)(hs:Ji N a b=some (BZ a b))(h5:Dp N [a,b]=some (opG [a,b]))
 (ca:Fs N a.list=some a.list) (cb:Fs N b.list=some b.list):Jg N op a b=some (Bh op a b):=by
 obtain⟨e1,e2,e3,e4,e5⟩:=Eu (l:=[a,b]);have hT:a.text.length+b.text.length<=Lim:=by unfold Lim;omega
 have hL:a.list.length+b.list.length<=Lim:=by unfold Lim;omega
 unfold Jg;simp only [DG,Lk,Ll,Val.re_eq,h5,jS,e1,e2,e3,jE,Ys,CD e1 e2 e3,hs,xIB,xAm,AJ,Jq,ca,cb,Zt hT,Zt hL,Bh,opV,HE,KZ];cases g:(opG [a,b]).2.1
 ·rw [I2 g];simp only [jF]
  rcases xAE op with ⟨o1,o2,o3,o4,o5,_⟩|⟨o1,o2,o3,o4,o5,_⟩|⟨o1,o2,o3,o4,o5,_⟩|⟨o1,o2,o3,o4,o5,_⟩|⟨o1,o2,o3,o4,o5,_⟩|⟨o1,o2,o3,o4,o5,_⟩|⟨o1,o2,o3,o4,o5,_⟩ <;>simp only [o1,o2,o3,o4,o5,jT,jF] <;>
   cases (a.kind==1) <;>cases (a.kind==2) <;>cases (a.kind==3) <;>cases (b.kind==1) <;>cases (b.kind==2) <;>cases (b.kind==3) <;>cases (decide (V.wrap ((a.list.length:Int)+(b.list.length:Int))>8)) <;>cases (decide (V.wrap ((a.text.length:Int)+(b.text.length:Int))>20)) <;>rfl
 ·cases (opG [a,b]).2.2 <;>rfl
def Rf{op:Int}{a b:Val}(ha:a.Fit 1048576)(hb:b.Fit 1048576):Big fun N=>Jg N op a b=some (Bh op a b)/\Kk N op a b=some (Bh op a b).1:=by
 obtain⟨_,_,_,a4,a5,_,_⟩:=Val.fit_iff.1 ha;obtain⟨_,_,_,b4,b5,_,_⟩:=Val.fit_iff.1 hb;have a4:a.text.length<=1048576:=a4;have b4:b.text.length<=1048576:=b4;have:=a5.1;have:=b5.1;have hk:(1048576:Nat)<=137438953472:=by omega
 refine(((I3 (K:=1048576) (by omega) (l:=[a,b]) (E0 ha hb) (by simp)).and (xLG hk ha hb)).and (((Jv a5 hk).and (Jv b5 hk)).and ((Big.list (l:=a.list++b.list) fun x hx=>Cv ((Zf.1 hx).elim (a5.2 x) (b5.2 x)) hk).and (A2 2097153)))).imp
  fun N ⟨⟨⟨h1,h2⟩,s1,s2⟩,⟨c1,c2⟩,c3,hN⟩=>⟨?_,?_⟩
 ·exact xIo (by omega) (by omega) s2 h1 c1 c2
 ·exact xND (xMN (by omega) (by omega) (by omega) (by omega) c3) s1 h2
def xOk(x:Int): -2147483647<x.tmod 2147483647/\x.tmod 2147483647<2147483647:=by
 grind
def Ew(x:Int):Int:=if x.tmod 2147483647<0 then x.tmod 2147483647+2147483647 else x.tmod 2147483647
def xBM(x:Int):0<=Ew x/\Ew x<2147483647:=by
 grind [Ew]
theorem xM6(N:Nat)(x:Int):LB N x=some (Ew x):=by
 grind [LB,Ew,AU]
def Cp(a b c d:Int):Int:=Ew (16807*Ew (V.wrap ((V.wrap ((V.wrap ((V.wrap (48271*a))+(V.wrap (7919*b))))+(V.wrap (104729*c))))+(V.wrap (1299709*d)))))
def xMC(N:Nat)(a b c d:Int):OB N a b c d=some (Cp a b c d):=by
 have:=xBM (V.wrap ((V.wrap ((V.wrap ((V.wrap (48271*a))+(V.wrap (7919*b))))+(V.wrap (104729*c))))+(V.wrap (1299709*d))))
 grind [OB,xM6,Cp,AU]
def xHC(N:Nat)(a b c d:Int):MB N a b c d=some (Cp a b c d):=by
 unfold MB Cp;generalize (V.wrap ((V.wrap ((V.wrap ((V.wrap (48271*a))+(V.wrap (7919*b))))+(V.wrap (104729*c))))+(V.wrap (1299709*d))))=x;have:=xOk x
 grind [Ew,AU]
def Rea.size(b:Rea):Nat:=b.text.length+b.result.size
def xN4{b:Rea}(h:b.Fit maxLen):Big fun N=>∀l,0<=l->l<=1048576->Mz N b l=some (left b.size l):=
 (xCU h.2.2.2.2).imp fun N hv l h0 h1=>Cy h.2.2.2.1 h0 h1 rfl fun m m0 m1=>IZ (hv m m0 m1)
def xN3{x0:List Rea}(h:LFit maxLen (Rea.Fit maxLen) x0):Big fun N=>∀l,0<=l->l<=1048576->QC N x0 l=some (left (x0.length+(x0.map Rea.size).sum) l):=
 ((Big.list fun x hx=>xN4 (h.2 x hx)).and (A2 x0.length)).imp fun N ⟨hx,hn⟩ l h0 h1=>
   Cy h.1 h0 h1 rfl fun m hm0 hm1=>JV (L:=fun n x0 x1 x5=>NA N n x0 x1 x5) (d:=De) (sz:=Mz N) (fun _ _ _=>rfl) h.1 (fun x hxm l h0 h1=>hx x hxm l h0 h1) hn hm0 hm1
def Rea.fit_size{K M:Nat}{r:Rea}(h:r.Fit M)(hs:r.size<=K):r.Fit K:=by
 unfold Rea.size at hs;exact⟨h.1,h.2.1,h.2.2.1,show length _<=K by omega,Val.fit_size _ h.2.2.2.2 (by omega)⟩
def xOt{b:Rea}(h:b.Fit 1048576):Big fun N=>KX N b=some b:=(xC1 h.2.2.2.2).imp fun N hv=>by simp [KX,hv]
def xOs{x0:List Rea}(h:LFit 1048576 (Rea.Fit 1048576) x0):Big fun N=>GC N x0=some x0:=
 ((Big.list fun x hx=>xOt (h.2 x hx)).and (A2 x0.length)).imp fun N ⟨hx,hn⟩=>by
   have hl:x0.length<=1048576:=h.1;unfold GC;rw [Zt ⟨by omega,rfl,by grind [Lim]⟩];exact EZ (L:=fun n x0 x3 x4=>NS N n x0 x3 x4) (to:=KX N) (re:=fun r=>Rea.mk (Rea.kind r) (Rea.n r) (Rea.time r) (Rea.text r) (Val.re (Rea.result r))) (fun _ _ _=>rfl) (by omega) (fun x hxm=>⟨x,hx x hxm,by simp [Val.re_eq]⟩) hn
def xGe{b:Rea}{K:Nat}(h:b.Fit K)(hK:K<=9223372036854775807):Big fun N=>M2 N b b=some true:=(Ov h.2.2.2.2 hK).imp fun N hv=>by grind [M2]
def SW{x0:List Rea}{K:Nat}(h:LFit K (Rea.Fit K) x0)(hK:K<=9223372036854775807):Big fun N=>Jz N x0 x0=some true:=
 ((Big.list fun x hx=>xGe (h.2 x hx) hK).and (A2 x0.length)).imp fun N ⟨hx,hn⟩=>by
   have hl:x0.length<=K:=h.1;unfold Jz;rw [Ye,jF]
   exact D5 (x0:=x0) (L:=fun n i=>Hl N n x0 x0 i) (fun n=>by simp [Hl]) (fun i x n hi hxi hm=>by
    grind [Hl,AM]) hn
def DD(w:Wld)(c v:Int)(r:Rea):Val:=
 bif r.kind==1 then(bif AZ w.clock then AY w.clock else AO 4)
 else bif r.kind==2 then(bif decide (1<=r.n)&&decide (r.n<=1000000000) then AY (Int.tmod (Cp w.seed c v r.time) r.n) else AO 5)
 else bif r.kind==3 then(bif(Bj w.files r.text).2 then(bif AZ (Bj w.files r.text).1 then AY (Bj w.files r.text).1 else AO 4) else AO 1)
 else AO 4
def xKG(a b c d:Int):0<=Cp a b c d/\Cp a b c d<2147483647:=xBM _
def xF2{N:Nat}{w:Wld}{c v:Int}{r:Rea}(hl:w.files.length<=1048576)(hn:w.files.length<N):Ff N w c v r=some (DD w c v r)/\G7 N w c v r=some (DD w c v r):=by
 have f1:=xMi (N:=N) (w:=w) (s:=r.text) (by omega) hn;have f2:=xHl (N:=N) (w:=w) (s:=r.text) (by omega) hn;have hm:=xKG w.seed c v r.time;cases h1:(r.kind==1)
 ·cases h2:(r.kind==2)
  ·cases h3:(r.kind==3)
   ·simp only [Ff,G7,h1,h2,h3,jF,AJ,AL,jS,DD];exact⟨rfl,rfl⟩
   ·simp only [Ff,G7,h1,h2,h3,jF,jT,f1,f2,AJ,AL,At,As,DN,Cx,jS,DD];cases (Bj w.files r.text).2 <;>cases AZ (Bj w.files r.text).1 <;>exact⟨rfl,rfl⟩
  ·simp only [Ff,G7,h1,h2,jF,jT,Dq,FN,xHC,xMC,AJ,AL,At,As,DN,jS,DD];cases h4:decide (1<=r.n)&&decide (r.n<=1000000000)
   ·exact⟨rfl,rfl⟩
   ·simp only [Zu,ZU] at h4;have hne:r.n≠(0:Int):=by omega
    have hr1:=Int.tmod_nonneg r.n hm.1;have hr2:=Int.tmod_lt_of_pos (Cp w.seed c v r.time) (show 0<r.n by omega);have hno:AZ (Int.tmod (Cp w.seed c v r.time) r.n)=true:=by
     grind [AZ]
    simp only [jU,jF,jT,Zt hne,hno];exact⟨rfl,rfl⟩
 ·simp only [Ff,G7,h1,jT,AJ,AL,At,As,DN,Cx,jS,DD];cases AZ w.clock <;>exact⟨rfl,rfl⟩
def xKw{N:Nat}(hN:274877906944<N){xs:List Fil}{k:Int}(h0:0<=k)(h1:k+((xs.map Eb).sum:Nat)<=137438953472):
 ∃ys,ys.length=xs.length/\Mj N xs k=some (k+((xs.map Eb).sum:Nat),ys):=by
 have hlen:xs.length<=137438953472:=by
  grind [SG]
 have key:∃ys,ys.length=xs.length/\Mj N xs k=some (k+((xs.map Eb).sum:Nat),ys)/\(fun(_:Nat) (ys:List Fil) (k i:Int)=>some (k+2*((ys.length:Int) - i))) N ys k 0=some (k+((xs.map Eb).sum:Nat)):=by
  refine GK (Lm:=fun n xs k i=>IB N n xs k i) (Lh:=fun(_:Nat) (ys:List Fil) (k i:Int)=>some (k+2*((ys.length:Int) - i))) (c:=Eb) (fun n xs k hl=>by simp [IB]) (fun n ys k hl=>by grind)
   (fun x hx k hk hB=> ?_) h1 (by omega)
  have hc:Eb x=2:=rfl;rw [hc] at hB ⊢;obtain⟨t,ht⟩:=DR hN (k:=k) (by omega) (by omega);refine⟨⟨t,k+1⟩,fun n xs' i hl hxi=> ?_,fun n ys i hl hyi=> ?_⟩
  all_goals grind [IB,List.set_set,AU]
 grind
inductive OIn (P:Org->Prop):Val->Prop
 |mk {v:Val} (l:∀x∈v.list,OIn P x) (r:∀r∈v.rows,∀o∈r.frm,P o):OIn P v
def OIn.el{P:Org->Prop}{v x:Val}(h:OIn P v)(hx:x∈v.list):OIn P x:=by cases h;exact ‹∀x∈v.list,OIn P x› x hx
def OIn.row{P:Org->Prop}{v:Val}(h:OIn P v):∀r∈v.rows,∀o∈r.frm,P o:=by cases h;assumption
theorem xBv:∀ {l:List Val},(opG l).2.1=true->(opG l).1.kind=6
 | [],h=>by cases h
 |v::r,h=>by
  simp only [opG] at h ⊢;cases hv:AP v
  ·rfl
  ·rw [hv] at h;cases hk:(v.kind==6)
   ·rw [hk] at h;simp only [jU,jF] at h ⊢;exact xBv h
   grind
theorem I0{v:Val}(hv:AP v=true)(hk:v.kind=3):(v= .mk 3 0 0 [] v.list [] [])/\v.list.length<=8/\v.dep<=3/\∀x∈v.list,(BJ x&&AP x)=true:=by
 grind [BH,FU,Val.eta,BU]
theorem xCP{v:Val}(hv:AP v=true)(hk:v.kind=3){l:List Val}(hs:∀x∈l,x∈v.list)(hl:l.length<=8):AP (.mk 3 0 0 [] l [] [])=true:=by
 obtain⟨_,_,h8,h1⟩:=I0 hv hk;rw [DB] at h8;have h0:=(HH (l:=v.list) (m:=0)).1;have hd:Val.dep (.mk 3 0 0 [] l [] [])<=3:=by
  rw [DB];have:=L2 (B:=Ao v.list 0) (l:=l) (m:=0) h0 fun x hx=>(HH (l:=v.list) (m:=0)).2 x (hs x hx);show Ao l 0+1<=3;omega
 rw [BH]
 grind [vk,vn,vs,vt,vl,vc,vr,FU,emp]
theorem LT{α:Type}{p:Nat->α->Bool}:∀ {l:List α} {i:Nat},Ah p l i=true↔∀(j:Nat) (x:α),l[j]? =some x->p (i+j) x=true
 | [],i=>by simp [Ah]
 |y::r,i=>by
  simp only [Ah,Zu,LT (l:=r)];constructor
  ·grind
  ·intro h;refine⟨h 0 y rfl,fun j x hj=> ?_⟩;have:=h (j+1) x (by grind)
   grind
def Oc{α:Type}{p:α->Bool}{l:List α}{i:Nat}:Ah (fun _=>p) l i=true↔∀x∈l,p x=true:=by
 grind [LT,List.getElem?_of_mem]
def xKK{xs:List Str}(h:xs.Nodup){i j:Nat}(hi:i<xs.length)(hj:j<xs.length)(e:xs[i]=xs[j]):i=j:=by
 grind [List.pairwise_iff_getElem]
theorem Oq{xs:List Str}:Bu xs=true↔xs.Nodup:=by
 unfold Bu;rw [LT];constructor
 ·intro h;rw [YR,Yw];intro i j hi hj hij e;have:=h j xs[j] (Zv hj)
  grind [Ec,List.mem_take_iff_getElem]
 ·intro h j x hj;rw [Zc];unfold Ec;rw [ZF,List.any_eq_false];intro y hy he;rw [List.mem_take_iff_getElem] at hy;obtain⟨i,hi,rfl⟩:=hy;obtain⟨hjl,rfl⟩:=Zs.1 hj;have:=xKK h (i:=i) (j:=j) (by omega) hjl (by grind);omega
theorem xG7{s:Str}{xs:List Str}:s ∉ xs↔AN xs s 0<0:=by
 constructor
 ·grind [Jc]
 ·intro h hm;obtain⟨i,hi⟩:=List.getElem?_of_mem hm;have key:∀ {xs:List Str} {j:Nat},s∈xs->0<=AN xs s j:=by
   intro xs
   induction xs with
   |nil=>grind
   |cons x r ih=>
    grind [AN]
  grind
theorem JZ{c:List Str}{rs:List Rowd}:AP (.mk 5 0 0 [] [] c rs)=Ar c rs:=by
 grind [BH,vk,vn,vs,vt,vl,vc,vr,emp]
def xOc{v:Val}(hv:AP v=true)(hk:v.kind=5):v= .mk 5 0 0 [] [] v.columns v.rows/\Ar v.columns v.rows=true:=by
 grind [BH,emp,Val.eta]
theorem Ce{c:List Str}{rs:List Rowd}:Ar c rs=true↔(((∀s∈c,CY s=true)/\(1<=c.length/\c.length<=4))/\c.Nodup)/\rs.length<=12/\∀r∈rs,r.cells.length=c.length/\(∀z∈r.cells,AZ z=true)/\C0 r.frm=true:=by
 unfold Ar B8;simp only [Zu,Oc,Oq,ZU];have e:Ah (DT c.length) rs 0=true↔∀r∈rs,r.cells.length=c.length/\(∀z∈r.cells,AZ z=true)/\C0 r.frm=true:=by
  have:DT c.length=fun _ r=>(r.cells.length==c.length)&&(Ah (fun _=>AZ) r.cells 0&&C0 r.frm):=rfl;rw [this,Oc];simp only [Zu,beq_iff_eq,Oc]
 grind
theorem xDd{m a b t:Val}(hk:(BB m a b t).1.kind=5):(BB m a b t).2=false/\∃c rs i k,t= .mk 5 0 0 [] [] c rs/\Ar c rs=true/\(BB m a b t).1= .mk 5 0 0 [] [] (c++ [m.text]) (rs.map (CL i k))/\Ar (c++ [m.text]) (rs.map (CL i k))=true:=by
 unfold BB at hk ⊢;cases g1:(AW [2,2,2,5] [m,a,b,t]).2.1
 ·rw [g1] at hk;obtain⟨g2,g3⟩:=Bn g1;have hk5:=(kb4 g3).2.2.2;have hvt:=g2 t (by simp);obtain⟨et,ht⟩:=xOc hvt hk5;obtain⟨⟨⟨h1,h2,h3⟩,h4⟩,h5,h6⟩:=Ce.1 ht;simp only [jF] at hk ⊢;have err:∀ {c:Int} {P:Prop},(AO c).kind=5->P:=fun h=>by cases h
  cases d0: !CY m.text
  case true=>rw [d0] at hk;exact err hk
  rw [d0] at hk;cases d1:decide (AN t.columns m.text 0>=0)
  case true=>rw [d1] at hk;exact err hk
  rw [d1] at hk;cases d2:decide (AN t.columns a.text 0<0)
  case true=>rw [d2] at hk;exact err hk
  rw [d2] at hk;cases d3:decide (AN t.columns b.text 0<0)
  case true=>rw [d3] at hk;exact err hk
  rw [d3] at hk;cases d4:decide ((t.columns.length:Int)>=4)
  case true=>rw [d4] at hk;exact err hk
  rw [d4] at hk;simp only [jF] at hk ⊢;unfold J7 at hk ⊢;cases d5:t.rows.all (EW (AN t.columns a.text 0) (AN t.columns b.text 0))
  case false=>rw [d5] at hk;exact err hk
  simp only [jT];refine⟨trivial,t.columns,t.rows,AN t.columns a.text 0,AN t.columns b.text 0,et,ht,?_,?_⟩
  ·grind [Val.n,Val.step,Val.text,Val.list]
  ·simp only [decide_eq_false_iff_not] at d1 d4;simp only [Bool.not_eq_false'] at d0;refine Ce.2 ⟨⟨⟨fun s hs=> ?_,by grind,by grind⟩,?_⟩,by grind,fun r hr=> ?_⟩
   ·grind
   ·grind [xG7]
   ·obtain⟨x,hx,rfl⟩:=Zk.1 hr;obtain⟨x1,x2,x3⟩:=h6 x hx;refine⟨by grind [CL],fun z hz=> ?_,x3⟩;rcases Zf.1 hz with hz|hz
    ·grind
    ·rw [Zo.1 hz];exact Zx.1 d5 x hx
 ·exfalso;rw [g1] at hk;simp only [jT] at hk;have:(AW [2,2,2,5] [m,a,b,t]).1.kind=6:=by
   unfold AW at g1 ⊢;cases ho:(opG [m,a,b,t]).2.1
   ·rw [ho] at g1;simp only [jF] at g1 ⊢;cases hb:kb [m,a,b,t] [2,2,2,5]
    ·grind
    ·rfl
   grind [xBv]
  grind
def xB2{l:List Org}(h:SO l)(h0:∀o∈l,0<=o.cell/\0<=o.row):C0 l=true:=by
 unfold C0;rw [LT];intro j x hj;have hm:=Zy hj;obtain⟨h1,h2⟩:=h0 x hm;unfold F5;rw [Zc,Zw (by omega),Zw (by omega)];simp only [jV,ZV,Yv,ZU];rcases Nat.eq_zero_or_pos j with h' |h'
 ·grind
 ·right
  rw [Oe];obtain⟨hj',rfl⟩:=Zs.1 hj;have:l.getD (j - 1) Do=l[j - 1]:=by grind
  rw [this];exact Yw.1 h (j - 1) j (by omega) hj' (by omega)
def Od{l:List Org}(h:C0 l=true):∀o∈l,0<=o.cell/\0<=o.row:=by
 intro o ho;obtain⟨i,hi⟩:=List.getElem?_of_mem ho;have:=F3 h i o hi
 grind [F5]
theorem xOb{c:List Str}{rs:List Rowd}{p:Rowd->Bool}(h:Ar c rs=true):Ar c (rs.filter p)=true:=by
 grind [Ce]
def Gz{v:Val}(h:AP v=true)(hk:v.kind=5):Ar v.columns v.rows=true:=by
 grind [BH]
def Fx(k:Nat)(u v:Val):List Str:=u.columns++(v.columns.take k++v.columns.drop (k+1))
theorem xIR{i k:Nat}{u v:Val}(tu:Ar u.columns u.rows=true)(tv:Ar v.columns v.rows=true)(hk:k<v.columns.length)(hd:(Fx k u v).Nodup)(h4:(Fx k u v).length<=4)(h12:(jrs i k v.rows u.rows).length<=12):
 Ar (Fx k u v) (jrs i k v.rows u.rows)=true:=by
 rw [Ce] at tu tv ⊢;obtain⟨⟨⟨u1,u2,u3⟩,u4⟩,u5,u6⟩:=tu;obtain⟨⟨⟨v1,v2,v3⟩,v4⟩,v5,v6⟩:=tv;have hlen:(Fx k u v).length=u.columns.length+(min k v.columns.length+(v.columns.length - (k+1))):=by
  grind [Fx]
 refine⟨⟨⟨fun s hs=> ?_,by omega,h4⟩,hd⟩,h12,fun x hx=> ?_⟩
 ·grind [Fx]
 ·obtain⟨r,hr,t,ht,rfl,_⟩:=xAD hx;obtain⟨r1,r2,r3⟩:=u6 r hr;obtain⟨t1,t2,t3⟩:=v6 t ht;refine⟨?_,fun z hz=> ?_,?_⟩
  ·grind [EH]
  ·grind [EH]
  ·refine xB2 (RZ _ _) fun o ho=> ?_;rcases N6.1 ho with h|h
   ·exact Od r3 o h
   ·exact Od t3 o h
theorem Ae{c:Int}(h:1<=c/\c<=8):AP (AO c)=true:=by
 grind [BH,AO,vk,vn,vs,vt,vl,vc,vr,emp]
theorem K9{n:Int}(h:AZ n=true):AP (AY n)=true:=by
 grind [BH,AY,vk,vn,vs,vt,vl,vc,vr,emp]
theorem xBs{n s:Int}(h:AZ n=true)(h' :AZ s=true):AP (.mk 4 n s [] [] [] [])=true:=by
 grind [BH,vk,vn,vs,vt,vl,vc,vr,emp]
theorem xBr{n:Int}(h0: -1000000000<=n)(h1:n<=1000000000):AZ n=true:=by grind [AZ]
theorem xBm{v:Val}(h:AP v=true)(hk:v.kind=1):AZ v.n=true:=by
 grind [BH]
def xKR{v:Val}(h:AP v=true)(hk:v.kind=4):AZ v.step=true:=by
 grind [BH]
theorem xKS{v:Val}(h:AP v=true)(hk:v.kind=2):v.text.length<=20:=by
 grind [BH,EY]
theorem Ka:∀ {l:List Val},(opG l).2.1=true->AP (opG l).1=true
 | [],h=>by cases h
 |v::r,h=>by
  simp only [opG] at h ⊢;cases hv:AP v
  ·grind [Ae]
  ·cases hk:(v.kind==6)
   ·rw [hv,hk] at h;exact Ka (l:=r) h
   grind
theorem EB{ks:List Int}{l:List Val}(h:(AW ks l).2.1=true):AP (AW ks l).1=true:=by
 grind [AW,Ae,Ka]
def xKg(v:Val):AP (GH v).1=true:=by
 grind [GH,Ev,Ae,xKS,K9,xBr,I0,Ka]
def xCS:∀ {l:List Val} {s:Int},AZ s=true->AP (Bs l s)=true
 | [],s,h=>K9 h
 |x::r,s,h=>by
  simp only [Bs];cases (x.kind != 1)
  ·cases h2:AZ (IntKind.i64.wrap (s+x.n))
   ·grind [Ae]
   ·exact xCS h2
  grind [Ae]
def xNR(v:Val):AP (Gx v).1=true:=by
 unfold Gx;cases h1:(opG [v]).2.1
 ·cases (v.kind != 3)
  ·exact xCS rfl
  grind [Ae]
 grind [Ka]
def xFM(v:Val):AP (HG v).1=true:=by
 unfold HG;cases g1:(AW [5] [v]).2.1
 ·obtain⟨g2,g3⟩:=Bn g1;have hk:v.kind=5:=by grind [kb]
  have:=(JW (g2 v (by simp)) hk).2
  grind [K9,xBr]
 grind [EB]
theorem Qc{n v:Val}(h:(Ai n v).2.1=true):AP (Ai n v).1=true:=by
 grind [Ai,Ae,Ka]
theorem QW{x v:Val}(hk:(v.kind==3)=false):Au x v=AO 5\/∃n,AZ n=true/\Au x v=AY n:=by
 grind [Au,CO]
theorem xKN{n v:Val}(hv:AP v=true):AP (Au n v)=true:=by
 grind [QW,Ae,K9,Au,I0]
def xKO(n v:Val):AP (Bp n v).1=true:=by
 grind [Bp,xKN,GP,Qc]
def xLN(n v:Val):AP (skG n v).1=true:=by
 unfold skG;cases h:(Ai n v).2.1
 ·obtain⟨_,hv,_,h34,_⟩:=GP h;rw [jF];unfold skB;cases decide (n.n<0)
  ·cases hk:v.kind==3
   ·have hs:=xKR hv (by grind);rcases QW (x:=n) hk with e|⟨m,h,e⟩ <;>rw [e]
    ·exact Ae (by omega)
    ·exact xBs h hs
   grind [I0,xCP]
  grind [Ae]
 grind [Qc]
def xBq{l:List Val}(h:∀x∈l,∃n,AZ n=true/\x=AY n)(hl:l.length<=8):AP (.mk 3 0 0 [] l [] [])=true:=by
 have hd:Val.dep (.mk 3 0 0 [] l [] [])<=3:=by
  rw [DB];have:=L2 (B:=1) (l:=l) (m:=0) (by omega) fun x hx=>by
   grind [AY,Val.dep,Val.deps]
  show Ao l 0+1<=3;omega
 rw [BH];simp only [vk,vn,vs,vt,vl,vc,vr,show((3:Int)==1)=false from rfl,show((3:Int)==2)=false from rfl,show((3:Int)==4)=false from rfl,show((3:Int)==6)=false from rfl,show((3:Int)==5)=false from rfl,show((3:Int)==3)=true from rfl,jT,jF,Zu,ZU,FU,Zx,Yc,true_and,and_true];refine⟨fun x hx=> ?_,by grind [emp]⟩;obtain⟨n,h1,rfl⟩:=h x hx;exact⟨rfl,K9 h1⟩
theorem xCY{v:Val}(hk:(v.kind==3)=false):∀(m:Nat) (i:Int) (acc:List Val),(∀x∈acc,∃n,AZ n=true/\x=AY n)->acc.length+m<=8->AP (Cz v m i acc)=true
 |0,i,acc,h,hl=>xBq h (by omega)
 |m+1,i,acc,h,hl=>by
  unfold Cz;rcases QW (x:=AY i) hk with e|⟨n,h1,e⟩ <;>rw [e]
  ·exact Ae (by omega)
  ·refine xCY hk m (i+1) _ (fun x hx=> ?_) (by grind)
   grind
def xOf(n v:Val):AP (EX n v).1=true:=by
 unfold EX;cases h:(Ai n v).2.1
 ·grind [GP,LH,xCY,xCP,Ae]
 grind [Qc]
def xLm(a b:Val):AP (Kb a b).1=true:=by
 grind [Kb,Bn,kb2,xBs,xBm,EB]
def QV{α:Type} [DecidableEq α]:∀ {l m:List α},l.Nodup->(∀x∈l,x∈m)->l.length<=m.length
 | [],m,_,_=>Zg _
 |x::l,m,h,hs=>by
  obtain⟨h1,h2⟩:=ZG.1 h;have hx:=hs x Zp;have:=QV (l:=l) (m:=m.erase x) h2 fun y hy=>(List.mem_erase_of_ne (fun e=>h1 (by rw [<-e];exact hy))).2 (hs y (Zr _ hy));rw [List.length_erase_of_mem hx] at this;have:=List.length_pos_of_mem hx;simp only [jC];omega
def SM{c:List Str}{rs:List Rowd}(t:Ar c rs=true){r:Rowd}(hr:r∈rs){k:Nat}(hk:k<c.length):AZ (r.cells.getD k Di)=true:=by
 grind [Ce]
def xIT(a v:Val):AP (Fy a v).1=true:=by
 unfold Fy;cases g1:(AW [2,5] [a,v]).2.1
 ·obtain⟨g2,g3⟩:=Bn g1;have t:=Gz (g2 v (by simp)) (kb2 g3).2;have hne:A5 32 [] a.text≠ []:=SN;rw [jF];generalize A5 32 [] a.text=cs at*;unfold Cl;cases h1:cs.all (Bb v.columns)
  ·grind [Ae]
  ·cases h2:Bu cs
   ·grind [Ae]
   ·have t0:=t;obtain⟨⟨⟨c1,c2,c3⟩,c4⟩,r1,r2⟩:=Ce.1 t;have hin:∀s∈cs,s∈v.columns:=fun s hs=>Jc (PD (Zx.1 h1 s hs)).1;have hnd:=Oq.1 h2;have hle:=QV hnd hin
    show AP (.mk 5 0 0 [] [] cs _)=true;rw [JZ,Ce];refine⟨⟨⟨fun s hs=>c1 s (hin s hs),List.length_pos_iff.2 hne,by omega⟩,hnd⟩,by grind,fun x hx=> ?_⟩;obtain⟨r,hr,rfl⟩:=Zk.1 hx;refine⟨by simp [atR],fun z hz=> ?_,(r2 r hr).2.2⟩;obtain⟨k,hk,rfl⟩:=Zk.1 hz;obtain⟨s,hs,rfl⟩:=Zk.1 hk;have:=PD (Zx.1 h1 s hs)
    grind
 grind [EB]
def xFO(a v:Val):AP (DA a v).1=true:=by
 unfold DA;cases g1:(AW [2,5] [a,v]).2.1
 ·obtain⟨g2,g3⟩:=Bn g1;have t:=Gz (g2 v (by simp)) (kb2 g3).2;rw [jF];by_cases h1:AN v.columns a.text 0<0
  ·grind [Ae]
  ·rw [Zw h1];by_cases h2:(v.rows.length:Int)>8
   ·grind [Ae]
   ·rw [Zw h2];refine xBq (fun x hx=> ?_) (by grind);obtain⟨r,hr,rfl⟩:=Zk.1 hx;exact⟨_,SM t hr (by grind [Jf]),rfl⟩
 grind [EB]
def xN9{c:List Str}{rs:List Rowd}(hc:B8 c=true)(hl:rs.length<=12)(hr:∀r∈rs,r.cells.length=c.length/\(∀z∈r.cells,AZ z=true)/\C0 r.frm=true):Ar c rs=true:=by
 have h0:Ar c []=true:=by
  unfold Ar;rw [hc];rfl
 grind [Ce]
def xOh(a v:Val):AP (FSq a v).1=true:=by
 unfold FSq;cases g1:(AW [2,3] [a,v]).2.1
 ·obtain⟨g2,g3⟩:=Bn g1;obtain⟨_,hl,_,hx⟩:=I0 (g2 v (by simp)) (kb2 g3).2;rw [jF];generalize A5 32 [] a.text=cs at*;cases hc:B8 cs
  ·grind [Ae]
  ·unfold CC;cases h1:v.list.all (Br cs.length)
   ·grind [Ae]
   ·show AP (.mk 5 0 0 [] [] cs ([]++v.list.map Kc))=true;rw [JZ,jM];refine xN9 hc (by grind) fun r hr=> ?_;obtain⟨x,hm,rfl⟩:=Zk.1 hr;have h2:=Zx.1 h1 x hm;simp only [Br,Zu,beq_iff_eq,Zx,BT] at h2;obtain⟨k1,k2,k3⟩:=h2;have h3:=hx x hm;rw [Zu] at h3;refine⟨by grind [Kc],fun z hz=> ?_,rfl⟩;obtain⟨y,hy,rfl⟩:=Zk.1 hz
    grind [I0,xBm]
 grind [EB]
def xON(a b v:Val):AP (whG a b v).1=true:=by
 unfold whG;cases g1:(AW [2,1,5] [a,b,v]).2.1
 ·obtain⟨g2,g3⟩:=Bn g1;have t:=Gz (g2 v (by simp)) (kb3 g3).2.2
  grind [pick,JZ,xOb,Ae]
 grind [EB]
def xGX(a b t:Val):AP (CE a b t).1=true:=by
 unfold CE;cases g1:(AW [2,2,5] [a,b,t]).2.1
 ·obtain⟨g2,g3⟩:=Bn g1;obtain⟨_,_,hk2⟩:=kb3 g3;have tt:=Gz (g2 t (by simp)) hk2;obtain⟨⟨⟨c1,c2,c3⟩,c4⟩,r1,r2⟩:=Ce.1 tt;rw [jF];unfold Cg;by_cases hi:AN t.columns a.text 0<0
  ·grind [Ae]
  ·rw [Zw hi,jF];by_cases hk:AN t.columns b.text 0<0
   ·grind [Ae]
   ·rw [Zw hk,jF];have hin:=Jf hi;cases he:(AN t.columns a.text 0==AN t.columns b.text 0)
    ·rw [jF];split
     ·rename_i hall;rw [JZ,Ce];have ma:=Jc (s:=a.text) (xs:=t.columns) (j:=0) (by omega);have mb:=Jc (s:=b.text) (xs:=t.columns) (j:=0) (by omega);have hne:a.text≠b.text:=fun e=>by grind
      have hl:=Q7 (AN t.columns a.text 0).toNat t.rows;refine⟨⟨⟨fun s hs=> ?_,by simp,by simp⟩,by grind⟩,by grind [vG],fun x hx=> ?_⟩
      ·grind
      ·obtain⟨y,hy,rfl⟩:=Zk.1 hx;obtain⟨r,hr,e⟩:=xLd t.rows (QT.1 hy);have h2:=Zx.1 hall y hy;refine⟨rfl,fun z hz=> ?_,xB2 (xBL t.rows) fun o ho=> ?_⟩
       ·simp only [Zh,Z6,or_false] at hz;rcases hz with rfl|rfl
        ·rw [<-e];exact SM tt hr (by omega)
        ·exact h2
       ·obtain⟨q,hq,_,hm⟩:=xBK t.rows ho;exact Od (r2 q hq).2.2 o hm
     grind [Ae]
    grind [Ae]
 grind [EB]
def xIP(a u v:Val):AP (C6 a u v).1=true:=by
 unfold C6;cases g1:(AW [2,5,5] [a,u,v]).2.1
 ·obtain⟨g2,g3⟩:=Bn g1;obtain⟨_,hk1,hk2⟩:=kb3 g3;have tu:=Gz (g2 u (by simp)) hk1;have tv:=Gz (g2 v (by simp)) hk2;rw [jF];unfold Dy;by_cases hi:AN u.columns a.text 0<0
  ·grind [Ae]
  ·rw [Zw hi,jF];by_cases hk:AN v.columns a.text 0<0
   ·grind [Ae]
   ·rw [Zw hk,jF];have hin:=Jf hk;have ec:u.columns++(v.columns.take (AN v.columns a.text 0).toNat++v.columns.drop ((AN v.columns a.text 0).toNat+1))=Fx (AN v.columns a.text 0).toNat u v:=rfl
    grind [Ae,Dw,JZ,xIR,Oq]
 grind [EB]
def xDb(m a b t:Val):AP (BB m a b t).1=true:=by
 by_cases h5:(BB m a b t).1.kind=5
 ·grind [xDd,JZ]
 ·unfold BB at h5 ⊢;cases g1:(AW [2,2,2,5] [m,a,b,t]).2.1
  ·rw [g1,jF] at h5;obtain⟨g2,g3⟩:=Bn g1;have hk:=(kb4 g3).2.2.2;rw [jF];cases h1: !CY m.text
   ·cases h2:decide (AN t.columns m.text 0>=0)
    ·cases h3:decide (AN t.columns a.text 0<0)
     ·cases h4:decide (AN t.columns b.text 0<0)
      ·cases h6:decide ((t.columns.length:Int)>=4)
       ·rw [h1,h2,h3,h4,h6] at h5;simp only [jF,J7] at h5 ⊢;cases h7:t.rows.all (EW (AN t.columns a.text 0) (AN t.columns b.text 0))
        ·grind [Ae]
        ·rw [h7] at h5;exact absurd hk h5
       grind [Ae]
      grind [Ae]
     grind [Ae]
    grind [Ae]
   grind [Ae]
  grind [EB]
def xFF(s:Str)(l:List Val):AP (BP s l).1=true:=by
 have er:AP (AO 4)=true:=Ae (by omega);unfold BP;cases ((l.length:Int) != Ay s)
 ·rw [jF];unfold cas;have c:∀ {b:Bool} {x y:Val×Bool},AP x.1=true->AP y.1=true->AP (bif b then x else y).1=true:=fun {b} _ _ h1 h2=>by grind
  exact c (xKg _) (c (xNR _) (c (xFM _) (c (xOf _ _) (c (xLN _ _) (c (xKO _ _) (c (xIT _ _) (c (xFO _ _) (c (xOh _ _) (c (xON _ _ _) (c (xGX _ _ _) (c (xIP _ _ _) (c (xDb _ _ _ _) (c (xLm _ _) er)))))))))))))
 grind
def Cd(l:List Exp):Nat:=(l.map Exp.cnt).sum
theorem RV(x:Exp)(l:List Exp):Cd (x::l)=x.cnt+Cd l:=by grind [Cd]
theorem xKd(c s:Nat){l:Int}(h:0<=l):left (c+s) l=if left c l<0 then left c l else left s (left c l):=by
 grind [CG,xKe]
def xFS{K:Nat}(hK:K<=1048576):∀e:Exp,e.Fit K->e.cnt<=2000000->Big2 fun N d=>HY N d e=some (e.cnt:Int)/\∀l:Int,0<=l->l<=1000->JI N d e l=some (left e.cnt l):=by
 refine Exp.ind fun k n t a ih h hc=> ?_;obtain⟨h1,h2,h3,h4⟩:=Exp.fit_iff.1 h;rw [Exp.cnt_eq] at hc;have hc:1+Cd a<=2000000:=hc;have hmem:∀x∈a,x.cnt<=Cd a:=fun x hx=>Ie (f:=Exp.cnt) hx;refine Big2.succ ?_;refine((Big2.list fun x hx=>ih x hx (h4.2 x hx) (by grind)).and (A2 (K+30)).two).imp fun N d ⟨hx,hn⟩=> ?_;have hl:a.length<=K:=h4.1;rw [Exp.cnt_eq];refine⟨?_,fun l hl0 hl1=> ?_⟩
 ·have:=A3 (L:=fun m i s=>Fm N (HY N d) m s a a.length i) a (fun l s=>s+(Cd l:Int)) (fun i s=>0<=s/\s+(Cd (a.drop i):Int)<=2000000) (fun m s _=>by simp [Fm,Cd])
   (fun i x l s hd hi hxi hs=>by
     have hi' :(i:Int)<(a.length:Int):=by omega
     have hm:=Zy hxi;rw [hd,RV] at hs;have hw:V.wrap (s+(x.cnt:Int))=s+(x.cnt:Int):=AU (by omega) (by omega);refine .inl ⟨s+(x.cnt:Int),⟨by omega,by grind [B9]⟩,by grind [RV],fun m=> ?_⟩
     grind [Fm,jI,AM]) N 0 1 ⟨by omega,by grind⟩ (by omega) (by omega)
  rw [Yr] at this;show Fm N (HY N d) N 1 a a.length 0=some ((1+Cd a:Nat):Int)
  grind
 ·have:=A3 (L:=fun m i s=>FM N (JI N d) m s i (.mk k n t a)) a (fun l s=>if s<0 then s else left (Cd l) s) (fun i s=> -1<=s/\s<=1000) (fun m s hs=>by
   grind [FM,ea,Cd,CG])
   (fun i x l s hd hi hxi hs=>by
     have hi' :(i:Int)<((Exp.mk k n t a).args.length:Int):=by show(i:Int)<(a.length:Int);omega
     have hi2:(0:Int)<=(i:Int)/\(i:Int)<((Exp.mk k n t a).args.length:Int):=⟨by omega,hi'⟩;have hm:=Zy hxi;have hxi2:(Exp.mk k n t a).args[i]? =some x:=hxi;by_cases hneg:s<0
     ·grind [FM]
     ·have h2:s>=0:=by omega
      refine .inl ⟨left x.cnt s,?_,?_,fun m=> ?_⟩
      ·grind [left]
      ·rw [if_neg hneg,RV,xKd _ _ (by omega)]
      ·simp only [FM,decide_eq_true hi',cond_true,decide_eq_true h2,if_pos hi2,jI,AS hxi2,(hx x hm).2 s (by omega) (by omega),Option.bind_some,AM hi (by omega:a.length<=_)]) N 0 (l - 1) ⟨by omega,by omega⟩ (by omega) (by omega)
  rw [Yr] at this;show FM N (JI N d) N (V.wrap (l - 1)) 0 (.mk k n t a)=some (left (1+Cd a) l)
  grind [AU,left]
def GL{x:Exp}:∀ {a:List Exp},x∈a->x.nest<=Exp.nests a
 |y::l,h=>by
  rcases Zh.1 h with rfl|h
  ·grind [Exp.nests]
  ·have:=GL h;grind [Exp.nests]
def nest_eq{K:Nat}(hK:K<=1048576):∀e:Exp,e.Fit K->e.nest<=2000000->Big2 fun N d=>Jo N d e=some (e.nest:Int)/\Kv N d e=some (e.nest:Int):=by
 refine Exp.ind fun k n t a ih h hc=> ?_;obtain⟨h1,h2,h3,h4⟩:=Exp.fit_iff.1 h;rw [Exp.nest_eq] at hc;have hc:Exp.nests a+1<=2000000:=hc;have hmem:∀x∈a,x.nest<=Exp.nests a:=fun x hx=>GL hx;refine Big2.succ ?_;refine((Big2.list fun x hx=>ih x hx (h4.2 x hx) (by grind)).and (A2 (K+30)).two).imp fun N d ⟨hx,hn⟩=> ?_;have hl:a.length<=K:=h4.1;rw [Exp.nest_eq];refine⟨?_,?_⟩
 ·have:=A3 (L:=fun m i (s:Nat)=>HX N (Jo N d) m (s:Int) a a.length i) a (fun l s=>((max s (Exp.nests l)+1:Nat):Int)) (fun i s=>s<=2000000) (fun m s hs=>by
   have hw:V.wrap ((s:Int)+1)=((max s 0+1:Nat):Int):=by grind [AU]
   grind [HX,Exp.nests])
   (fun i x l s hd hi hxi hs=>by
     have hi' :(i:Int)<(a.length:Int):=by omega
     have hm:=Zy hxi;have:=hmem x hm;refine .inl ⟨max s x.nest,by omega,by grind [Exp.nests],fun m=> ?_⟩
     grind [HX,jI,AS,AM]) N 0 0 (by omega) (by omega) (by omega)
  rw [Yr] at this;refine Eq.trans this ?_;simp;rfl
 ·have:=A3 (L:=fun m i (s:Nat)=>JE N (Kv N d) m (s:Int) i (.mk k n t a)) a (fun l s=>((max s (Exp.nests l)+1:Nat):Int)) (fun i s=>s<=2000000) (fun m s hs=>by
   have hw:V.wrap ((s:Int)+1)=((max s 0+1:Nat):Int):=by grind [AU]
   grind [JE,ea,Exp.nests])
   (fun i x l s hd hi hxi hs=>by
     have hi' :(i:Int)<((Exp.mk k n t a).args.length:Int):=by show(i:Int)<(a.length:Int);omega
     have hi2:(0:Int)<=(i:Int)/\(i:Int)<((Exp.mk k n t a).args.length:Int):=⟨by omega,hi'⟩;have hm:=Zy hxi;have hxi2:(Exp.mk k n t a).args[i]? =some x:=hxi;have:=hmem x hm;have hmax:Gn N (s:Int) (x.nest:Int)=some ((max s x.nest:Nat):Int):=by
      grind [Gn]
     refine .inl ⟨max s x.nest,by omega,by grind [Exp.nests],fun m=> ?_⟩
     grind [JE,jI,AM]) N 0 0 (by omega) (by omega) (by omega)
  rw [Yr] at this;refine Eq.trans this ?_;simp;rfl
def HB(e:Exp):Bool:=(decide (e.cnt<=40)&&decide (e.nest<=8))&&okE e
def xOF{K:Nat}(hK:K<=1048576){e:Exp}(h:e.Fit K)(hs:e.size<=1048576):Big fun N=>Lv N e=some (HB e)/\Nw N e=some (HB e):=by
 have h1:=Exp.cnt_le e;have h2:=Exp.nest_le e;refine(((xFS hK e h (by omega)).diag.and (nest_eq hK e h (by omega)).diag).and (xDe hK e h).diag).imp fun N ⟨⟨⟨c1,c2⟩,n1,n2⟩,a1,a2⟩=> ?_
 grind [PO,RC,left,PN,Qz,PR,RB,Lv,HB,Nw]
end Go.Ab
end
