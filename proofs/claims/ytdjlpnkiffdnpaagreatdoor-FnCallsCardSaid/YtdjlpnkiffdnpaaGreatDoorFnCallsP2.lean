/- The statement FnCalls holds: plain functions, certificates, laws. Conditions: none. -/
import Derived.Test.YtdjlpnkiffdnpaaGreatDoorL2
import Derived.Test.YtdjlpnkiffdnpaaGreatDoorFnCallsP1
set_option linter.all false
section
open Go.Proofs
namespace Go.Ab.T
set_option maxRecDepth 100000
variable [Inhabited Lb]
theorem HE:FnOk Tryz.prog 43 Tryz.f43 (mI Tryz.f43 128 [.cell 6 30] [0,2,4,6,8,10,12,14,16,18,20,22,24,28,32,34,54,122,132,138,140,142,144,152,154,156,158,184,250,7,9,11,13,15,25,29,33] [(13,[10,12,18,20,24,138,140,142,11,13,25]),(16,[10,12,18,20,24,28,138,140,142,152,154,156,11,13,25,29])] [(1,[(5,.take,true),(6,.take,false)]),(2,[(0,.take,false)]),(3,[(0,.take,false)]),(7,[(4,.take,false)]),(8,[(2,.take,false),(6,.take,false)]),(20,[(1,.take,false),(2,.take,false),(10,.take,false)]),(21,[(1,.take,false)]),(22,[(1,.take,false)]),(25,[(0,.take,false)])]):=fO Tryz.func43
def LF(x9 x10:Int)(x69:List Rowd)(x70 x71:Int)(b5 b6 b12:Val):St:=[(10,(vP 5)),(12,(vP 6)),(18,(vI x9)),(20,(vI x10)),(24,(vP 12)),(138,(vS .ro .row x69)),(140,(vI x70)),(142,(vI x71)),(11,(vV .ro b5)),(13,(vV .own b6)),(25,(vV .own b12))]
def xCa(x9 x10:Int)(x69:List Rowd)(x70 x71:Int)(x76:List Rowd)(x77 x78:Int)(b5 b6 b12:Val)(b14:Rowd):St:=[(10,(vP 5)),(12,(vP 6)),(18,(vI x9)),(20,(vI x10)),(24,(vP 12)),(28,(vP 14)),(138,(vS .ro .row x69)),(140,(vI x70)),(142,(vI x71)),(152,(vS .ro .row x76)),(154,(vI x77)),(156,(vI x78)),(11,(vV .ro b5)),(13,(vV .own b6)),(25,(vV .own b12)),(29,.v true [.sl .ro .int b14.cells,.sl .ro .org b14.frm])]
theorem xDH{N}{k13}(hk13:∀z0 z1 z2 z3 z4 z5 z6 z7 r,k13 z0 z1 z2 z3 z4 z5 z6 z7=some r->RS HE 13 (LF z0 z1 z2 z3 z4 z5 z6 z7) (HV r)):∀n x9 x10 x69 x70 x71 x76 x77 x78 b5 b6 b12 b14 r,DR N k13 n x9 x10 x69 x70 x71 x76 x77 x78 b5 b6 b12 b14=some r->RS HE 16 (xCa x9 x10 x69 x70 x71 x76 x77 x78 b5 b6 b12 b14) (HV r):=
 nI (fun _ _ _ _ _ _ _ _ _ _ _ _ _ h=>nE h) fun n ih x9 x10 x69 x70 x71 x76 x77 x78 b5 b6 b12 b14 r h=>cE (oA h) (fun h=>cE (iE (iE (iE h))) (fun h=>tS h (ih _ _ _ _ _ _ _ _ _ _ _ _ _ h.2)) fun h=>bE (iE (iE (iE (iE (iE h))))) xHU fun r1 h=>tS (iE h) (ih _ _ _ _ _ _ _ _ _ _ _ _ _ (iE h).2)) fun h=>tS h (hk13 _ _ _ _ _ _ _ _ _ h.2)
theorem L4{N}:∀n x9 x10 x69 x70 x71 b5 b6 b12 r,Bx N n x9 x10 x69 x70 x71 b5 b6 b12=some r->RS HE 13 (LF x9 x10 x69 x70 x71 b5 b6 b12) (HV r):=
 nI (fun _ _ _ _ _ _ _ _ _ h=>nE h) fun n ih x9 x10 x69 x70 x71 b5 b6 b12 r h=>cE (oA h) (fun h=>tS (iE h) (xDH ih _ _ _ _ _ _ _ _ _ _ _ _ _ _ (iE h).2)) fun h=>cE h (fun h=>bE h y7 fun r1 h=>dS h) fun h=>dS h
theorem xHb{N a0 a1 a2 r}(h:DQ N a0 a1 a2=some r):AbC 43 (xHa a0 a1 a2) (HV r):=
 oK HE <| bK (oA h) CC fun r1 k h=>cN k h (CD k) (fun h=>cE h (fun h=>dE h) fun h=>bE h AW fun r2 h=>bE h AW fun r3 h=>bE h NN fun r4 h=>cE (iE (iE h)) (fun h=>bE (cb Y (cb Y h)) y7 fun r5 h=>dE h) fun h=>cE h (fun h=>bE (cb Y h) y7 fun r5 h=>dE h) fun h=>bE h HM fun r5 h=>cE h (fun h=>bE h y7 fun r6 h=>dE h) fun h=>cE h (fun h=>bE h y7 fun r6 h=>dE h) fun h=>tE h (L4 _ _ _ _ _ _ _ _ _ _ h.2)) fun h=>cE h (fun h=>dE h) fun h=>bE h AW fun r2 h=>bE h AW fun r3 h=>bE h NN fun r4 h=>cE (iE (iE h)) (fun h=>bE (cb Y (cb Y h)) y7 fun r5 h=>dE h) fun h=>cE h (fun h=>bE (cb Y h) y7 fun r5 h=>dE h) fun h=>bE h HM fun r5 h=>cE h (fun h=>bE h y7 fun r6 h=>dE h) fun h=>cE h (fun h=>bE h y7 fun r6 h=>dE h) fun h=>tE h (L4 _ _ _ _ _ _ _ _ _ _ h.2)
theorem MZ:FnOk Tryz.prog 44 Tryz.f44 (mI Tryz.f44 110 [.cell 8 30] [0,2,4,6,8,10,12,14,16,18,20,22,24,26,28,30,32,54,110,120,144,146,148,150,184,9,11,13,15,17,19,27,31] [(13,[16,22,24,26,144,146,148,17,27])] [(1,[(6,.take,true),(7,.take,false)]),(2,[(0,.take,false)]),(3,[(0,.take,false)]),(6,[(4,.take,false),(11,.take,false),(15,.take,false)]),(11,[(1,.take,false)]),(18,[(1,.ref,false),(4,.ref,false),(8,.ref,false)]),(19,[(1,.take,false)]),(20,[(0,.take,false)])]):=fO Tryz.func44
def xCb(x11 x12:Int)(x72:List Rowd)(x73 x74:Int)(b8 b13:Val):St:=[(16,(vP 8)),(22,(vI x11)),(24,(vI x12)),(26,(vP 13)),(144,(vS .ro .row x72)),(146,(vI x73)),(148,(vI x74)),(17,(vV .own b8)),(27,(vV .own b13))]
theorem L5{N}:∀n x11 x12 x72 x73 x74 b8 b13 r,Bv N n x11 x12 x72 x73 x74 b8 b13=some r->RS MZ 13 (xCb x11 x12 x72 x73 x74 b8 b13) (Mw r):=
 nI (fun _ _ _ _ _ _ _ _ h=>nE h) fun n ih x11 x12 x72 x73 x74 b8 b13 r h=>cE (oA h) (fun h=>bE (iE (iE (iE h))) D0 fun r1 h=>cE h (fun h=>bE h y7 fun r2 h=>dS h) fun h=>tS (ap (show(27:Nat)=27/\(6:Nat)=6/\([(x74.toNat,0)]:List (Nat×Nat))=[(x74.toNat,0)] from⟨rfl,rfl,rfl⟩) (rp 1 (iE (iE h)))) (ih _ _ _ _ _ _ _ _ (ap (show(27:Nat)=27/\(6:Nat)=6/\([(x74.toNat,0)]:List (Nat×Nat))=[(x74.toNat,0)] from⟨rfl,rfl,rfl⟩) (rp 1 (iE (iE h)))).2)) fun h=>dS h
theorem xGq{N a0 a1 a2 a3 r}(h:Ba N a0 a1 a2 a3=some r):AbC 44 (xGp a0 a1 a2 a3) (Mw r):=
 oK MZ <| bK (oA h) CC fun r1 k h=>cN k h (CD k) (fun h=>cE h (fun h=>dE h) fun h=>bE h AW fun r2 h=>bE h AW fun r3 h=>bE h J2 fun r4 h=>cE h (fun h=>bE (cb Y (cb Y (cb Y h))) y7 fun r5 h=>dE h) fun h=>bE h AW fun r5 h=>cE h (fun h=>bE (cb Y (cb Y h)) y7 fun r6 h=>dE h) fun h=>cE h (fun h=>bE (cb Y h) y7 fun r6 h=>dE h) fun h=>cE h (fun h=>bE h y7 fun r6 h=>dE h) fun h=>cE h (fun h=>bE h y7 fun r6 h=>dE h) fun h=>bE h H8 fun r6 h=>tE (iE h) (L5 _ _ _ _ _ _ _ _ _ (iE h).2)) fun h=>cE h (fun h=>dE h) fun h=>bE h AW fun r2 h=>bE h AW fun r3 h=>bE h J2 fun r4 h=>cE h (fun h=>bE (cb Y (cb Y (cb Y h))) y7 fun r5 h=>dE h) fun h=>bE h AW fun r5 h=>cE h (fun h=>bE (cb Y (cb Y h)) y7 fun r6 h=>dE h) fun h=>cE h (fun h=>bE (cb Y h) y7 fun r6 h=>dE h) fun h=>cE h (fun h=>bE h y7 fun r6 h=>dE h) fun h=>cE h (fun h=>bE h y7 fun r6 h=>dE h) fun h=>bE h H8 fun r6 h=>tE (iE h) (L5 _ _ _ _ _ _ _ _ _ (iE h).2)
theorem xGA{P:Program}{f:FuncId}{ags:List Arg}{r:Val×Bool}(h:AbsCalls P f ags (HN r))(ht:r.2=true):AbsCalls P f ags (JW r):=by
 unfold HN at h;rw [ht] at h;exact h
theorem JX{P:Program}{f:FuncId}{ags:List Arg}{r:Val×Bool}(h:AbsCalls P f ags (HN r))(ht:r.2=true)(e0:List.isEmpty (Val.list r.1)=true)(e1:List.isEmpty (Val.columns r.1)=true)(e2:List.isEmpty (Val.rows r.1)=true):AbsCalls P f ags (xGy r):=by
 have h:=xGA h ht;unfold JW at h;rw [Yw.1 e0,Yw.1 e1,Yw.1 e2] at h;exact h
theorem fk7:FnOk Tryz.prog 7 Tryz.f7 (mI Tryz.f7 158 [.cell 4 30] [0,2,8,10,12,30,34,36,48,60,72,90,108,126,144,162,180,204,228,252,294,9,11] [] [(1,[(2,.take,false)]),(30,[(2,.take,true),(3,.take,false)]),(31,[(0,.take,false)]),(32,[(0,.take,false)])]):=fO Tryz.func7
theorem JV{N a0 a1 r}(h:BV N a0 a1=some r):AbC 7 (xGx a0 a1) (HN r):=
 oK fk7 <| bE (oA h) xIf fun r1 h=>cE h (fun h=>bE (cb Y h) y7 fun r2 h=>dE h) fun h=>bE h My fun r2 h=>cE h (fun h=>bE h y7 fun r3 h=>dE h) fun h=>cE h (fun h=>bK (iE h) xHj fun r3 k h=>cM k h (fun h=>dE h) fun h=>dE h) fun h=>cE h (fun h=>bK (iE h) xHG fun r3 k h=>cM k h (fun h=>dE h) fun h=>dE h) fun h=>cE h (fun h=>bK (iE h) xGK fun r3 k h=>cM k h (fun h=>dE h) fun h=>dE h) fun h=>cE h (fun h=>bK (iE (iE h)) xHO fun r3 k h=>cM k h (fun h=>dE h) fun h=>dE h) fun h=>cE h (fun h=>bK (iE (iE h)) xHx fun r3 k h=>cM k h (fun h=>dE h) fun h=>dE h) fun h=>cE h (fun h=>bK (iE (iE h)) HY fun r3 k h=>cM k h (fun h=>dE h) fun h=>dE h) fun h=>cE h (fun h=>bK (iE (iE h)) xHf fun r3 k h=>cM k h (fun h=>dE h) fun h=>dE h) fun h=>cE h (fun h=>bK (iE (iE h)) xGG fun r3 k h=>cM k h (fun h=>dE h) fun h=>dE h) fun h=>cE h (fun h=>bK (iE (iE h)) xHK fun r3 k h=>cM k h (fun h=>dE h) fun h=>dE h) fun h=>cE h (fun h=>bK (iE (iE (iE h))) xHX fun r3 k h=>cM k h (fun h=>dE h) fun h=>dE h) fun h=>cE h (fun h=>bK (iE (iE (iE h))) xGU fun r3 k h=>cM k h (fun h=>dE h) fun h=>dE h) fun h=>cE h (fun h=>bK (iE (iE (iE h))) xHb fun r3 k h=>cM k h (fun h=>dE h) fun h=>dE h) fun h=>cE h (fun h=>bK (iE (iE (iE (iE h)))) xGq fun r3 k h=>cM k h (fun h=>dE h) fun h=>dE h) fun h=>bK h CC fun r3 k h=>cN k h (CD k) (fun h=>cE h (fun h=>dE h) fun h=>bE (iE (iE h)) Ec fun r4 h=>dE h) fun h=>cE h (fun h=>dE h) fun h=>bE (iE (iE h)) Ec fun r4 h=>dE h
theorem Mb:FnOk Tryz.prog 71 Tryz.f71 (mI Tryz.f71 20 [.tmp 2] [0,4,6,10,14] [(4,[0,6])] []):=fO Tryz.func71
def xCw(x0:Int)(x3:Str):St:=[(0,(vI x0)),(6,(vT x3))]
theorem xD3{N}:∀n x0 x3 r,Jp N n x0 x3=some r->RS Mb 4 (xCw x0 x3) (Nj r):=
 nI (fun _ _ _ h=>nE h) fun n ih x0 x3 r h=>cE (oA h) (fun h=>tS (rp 1 (iE (ap (show 10≠(0:Int) by decide) h))) (ih _ _ _ (rp 1 (iE (ap (show 10≠(0:Int) by decide) h))).2)) fun h=>dS (iE h)
theorem Ni{N a0 r}(h:Jo N a0=some r):AbC 71 (xJC a0) (Nj r):=
 oK Mb <| cE (oA h) (fun h=>dE h) fun h=>tE h (xD3 _ _ _ _ h.2)
theorem Mc:FnOk Tryz.prog 72 Tryz.f72 (mI Tryz.f72 20 [.tmp 4] [0,2,8,10,18] [(2,[0,2,10])] [(4,[(0,.ref,false)])] (lnt:=[(0,0)])):=fO Tryz.func72
def xCx(x0:List Str)(x1 x5:Int):St:=[(0,(vS (.lnt 0) .str x0)),(2,(vI x1)),(10,(vI x5))]
theorem xD4{N}:∀n x0 x1 x5 r,Jn N n x0 x1 x5=some r->RS Mc 2 (xCx x0 x1 x5) (Nh r):=
 nI (fun _ _ _ _ h=>nE h) fun n ih x0 x1 x5 r h=>cE (oA h) (fun h=>bE h Ni fun r1 h=>tS (iE h) (ih _ _ _ _ (iE h).2)) fun h=>dS h
theorem xJB{N a0 a1 r}(h:Ng N a0 a1=some r):AbC 72 (xJA a0 a1) (Nh r):=
 oK Mc <| tE (oA h) (xD4 _ _ _ _ _ h)
theorem MF:FnOk Tryz.prog 130 Tryz.f130 (mI Tryz.f130 19 [.tmp 4] [0,2,8,10,18] [(2,[0,2,10])] [(4,[(0,.ref,false)])] (lnt:=[(0,0)])):=fO Tryz.func130
def xBD(x0:List Int)(x1 x5:Int):St:=[(0,(vS (.lnt 0) .int x0)),(2,(vI x1)),(10,(vI x5))]
theorem xDf{N}:∀n x0 x1 x5 r,Jk N n x0 x1 x5=some r->RS MF 2 (xBD x0 x1 x5) (Na r):=
 nI (fun _ _ _ _ h=>nE h) fun n ih x0 x1 x5 r h=>cE (oA h) (fun h=>tS (iE h) (ih _ _ _ _ (iE h).2)) fun h=>dS h
theorem xJv{N a0 a1 r}(h:N9 N a0 a1=some r):AbC 130 (xJu a0 a1) (Na r):=
 oK MF <| tE (oA h) (xDf _ _ _ _ _ h)
theorem MG:FnOk Tryz.prog 131 Tryz.f131 (mI Tryz.f131 27 [.tmp 4] [0,2,8,10,18] [(2,[0,2,10])] [(4,[(0,.ref,false)]),(6,[(0,.ref,false)])] (lnt:=[(0,0)])):=fO Tryz.func131
def xBE(x0:List Org)(x1 x5:Int):St:=[(0,(vS (.lnt 0) .org x0)),(2,(vI x1)),(10,(vI x5))]
theorem xDg{N}:∀n x0 x1 x5 r,Jl N n x0 x1 x5=some r->RS MG 2 (xBE x0 x1 x5) (Nc r):=
 nI (fun _ _ _ _ h=>nE h) fun n ih x0 x1 x5 r h=>cE (oA h) (fun h=>tS (iE (iE h)) (ih _ _ _ _ (iE (iE h)).2)) fun h=>dS h
theorem xJx{N a0 a1 r}(h:Nb N a0 a1=some r):AbC 131 (xJw a0 a1) (Nc r):=
 oK MG <| tE (oA h) (xDg _ _ _ _ _ h)
theorem Me:FnOk Tryz.prog 73 Tryz.f73 (mI Tryz.f73 27 [.tmp 4] [0,2,8,10,18] [(2,[0,2,10])] [(4,[(0,.ref,false),(4,.ref,false),(6,.ref,false)]),(5,[(0,.ref,false),(4,.ref,false),(6,.ref,false)])] (lnt:=[(0,0)])):=fO Tryz.func73
def xCy(x0:List Rowd)(x1 x5:Int):St:=[(0,(vS (.lnt 0) .row x0)),(2,(vI x1)),(10,(vI x5))]
theorem xD5{N}:∀n x0 x1 x5 r,Jm N n x0 x1 x5=some r->RS Me 2 (xCy x0 x1 x5) (Nf r):=
 nI (fun _ _ _ _ h=>nE h) fun n ih x0 x1 x5 r h=>cE (oA h) (fun h=>bE (iE h) xJv fun r1 h=>bE (iE (iE (ap (show x5.toNat=x5.toNat from rfl) h))) xJx fun r2 h=>tS (iE (ap (show x5.toNat=x5.toNat from rfl) h)) (ih _ _ _ _ (iE (ap (show x5.toNat=x5.toNat from rfl) h)).2)) fun h=>dS h
theorem xJz{N a0 a1 r}(h:Nd N a0 a1=some r):AbC 73 (xJy a0 a1) (Nf r):=
 oK Me <| tE (oA h) (xD5 _ _ _ _ _ h)
def G17(q:(List Val)->Int->Option (Int×(List Val))):Prop:=∀a0 a1 r,q a0 a1=some r->AbC 17 (Nk a0 a1) (Jr r)
theorem MS:FnOk Tryz.prog 17 Tryz.f17 (mI Tryz.f17 63 [.tmp 4] [0,2,8,10,18] [(2,[0,2,10])] [(4,[(0,.ref,false)]),(6,[(0,.ref,false)]),(8,[(0,.ref,false)]),(10,[(0,.ref,false)]),(12,[(0,.ref,false),(4,.ref,false),(6,.ref,false)]),(13,[(0,.ref,false),(4,.ref,false),(6,.ref,false)]),(14,[(0,.ref,false),(4,.ref,false),(6,.ref,false)])] (lnt:=[(0,0)])):=fO Tryz.func17
def xBS(x0:List Val)(x1 x5:Int):St:=[(0,(vS (.lnt 0) .val x0)),(2,(vI x1)),(10,(vI x5))]
theorem xDu{N}{q0}(g0:G17 q0):∀n x0 x1 x5 r,Jq N q0 n x0 x1 x5=some r->RS MS 2 (xBS x0 x1 x5) (Jr r):=
 nI (fun _ _ _ _ h=>nE h) fun n ih x0 x1 x5 r h=>cE (oA h) (fun h=>bE (iE (iE (iE h))) Ni fun r1 h=>bE (iE (iE h)) (g0 _ _ _) fun r2 h=>bE (iE (iE (ap (show x5.toNat=x5.toNat from rfl) h))) xJB fun r3 h=>bE (iE (iE (ap (show x5.toNat=x5.toNat from rfl) h))) xJz fun r4 h=>tS (iE (ap (show x5.toNat=x5.toNat from rfl) h)) (ih _ _ _ _ (iE (ap (show x5.toNat=x5.toNat from rfl) h)).2)) fun h=>dS h
theorem xJD{N}{q0}(g0:G17 q0){a0 a1 r}(h:Nl N q0 a0 a1=some r):AbC 17 (Nk a0 a1) (Jr r):=
 oK MS <| tE (oA h) (xDu g0 _ _ _ _ _ h)
theorem xJE{N:Nat}:∀d,G17 (Nm N d)
 |0=>fun _ _ _ h=>nE h
 |d+1=>fun _ _ _ h=>xJD (N:=N) (xJE d) h
theorem fk5:FnOk Tryz.prog 5 Tryz.f5 (mI Tryz.f5 6 [.tmp 2] [0,4] [] []):=fO Tryz.func5
theorem xJs{N a0 r}(h:GG N a0=some r):AbC 5 (xJr a0) (xJt r):=
 oK fk5 <| dE (oA h)
theorem MT:FnOk Tryz.prog 20 Tryz.f20 (mI Tryz.f20 32 [.tmp 2] [0,4,6,8,30,63] [(3,[0,6,8])] [(3,[(4,.take,false)])]):=fO Tryz.func20
def xBX(x0:List Int)(x3 x4:Int):St:=[(0,(vS .ro .byte x0)),(6,(vI x3)),(8,(vI x4))]
theorem xDw{N}:∀n x0 x3 x4 r,FU N n x0 x3 x4=some r->RS MT 3 (xBX x0 x3 x4) (xAw r):=
 nI (fun _ _ _ _ h=>nE h) fun n ih x0 x3 x4 r h=>cE (oA h) (fun h=>cE h (fun h=>tS (iE h) (ih _ _ _ _ (iE h).2)) fun h=>dS h) fun h=>dS (cb F h)
theorem xAv{N a0 r}(h:FT N a0=some r):AbC 20 (xNr a0) (xAw r):=
 oK MT <| tE (oA h) (xDw _ _ _ _ _ h)
theorem xFx:FnOk Tryz.prog 78 Tryz.f78 (mI Tryz.f78 58 [.tmp 2] [0,4,6,68,1] [] [] (ext:=[0])):=fO Tryz.func78
theorem G7{N a0 r}(h:Cy N a0=some r):AbC 78 (xNe a0) (xNf r):=
 oK xFx <| cE (ap (show(0:Int)<=45/\(45:Int)<64 by decide) (ap (show(0:Int)<=33/\(33:Int)<64 by decide) (oA h))) (fun h=>dE (iE h)) fun h=>dE h
theorem xFc:FnOk Tryz.prog 24 Tryz.f24 (mI Tryz.f24 37 [.tmp 4] [0,2,8,10,12,14,16,20,24,1] [] [(9,[(0,.take,false),(2,.take,false),(5,.take,false),(8,.take,false)])] (ext:=[0])):=fO Tryz.func24
theorem AS{N a0 a1 r}(h:zU N a0 a1=some r):AbC 24 (xNc a0 a1) (xNd r):=
 oK xFc <| cE (oA h) (fun h=>dE h) fun h=>cE h (fun h=>bE h G7 fun r1 h=>dE (iE h)) fun h=>bE h G7 fun r1 h=>bE h G7 fun r2 h=>bE h G7 fun r3 h=>bE h G7 fun r4 h=>dE (iE h)
theorem xFw:FnOk Tryz.prog 77 Tryz.f77 (mI Tryz.f77 12 [.tmp 4] [0,2,8,1] [] [] (ext:=[0])):=fO Tryz.func77
theorem G8{N a0 a1 r}(h:CT N a0 a1=some r):AbC 77 (xNw a0 a1) (xNx r):=
 oK xFw <| bE (oA h) AS fun r1 h=>dE (iE h)
theorem xE7:FnOk Tryz.prog 21 Tryz.f21 (mI Tryz.f21 7 [.tmp 2] [0,4,9] [] []):=fO Tryz.func21
theorem xL5{N a0 r}(h:KX N a0=some r):AbC 21 (xL4 a0) (xL6 r):=
 oK xE7 <| bE (oA h) xAv fun r1 h=>bE h G8 fun r2 h=>dE h
theorem xFb:FnOk Tryz.prog 23 Tryz.f23 (mI Tryz.f23 9 [.tmp 4] [0,2,8,1] [] [] (ext:=[0])):=fO Tryz.func23
theorem BF{N a0 a1 r}(h:AY N a0 a1=some r):AbC 23 (xNs a0 a1) (xNt r):=
 oK xFb <| bE (oA h) AS fun r1 h=>dE h
theorem MH:FnOk Tryz.prog 134 Tryz.f134 (mI Tryz.f134 31 [.tmp 2] [0,4,6,8,10,12,24,1] [(5,[0,6,8,10,12,1])] [(5,[(1,.take,false)]),(7,[(0,.take,false)]),(9,[(0,.take,false)])] (ext:=[0])):=fO Tryz.func134
def xBF(x3:List Org)(x4 x5 x6:Int)(b0:Cur):St:=[(0,(vP 0)),(6,(vS .own .org x3)),(8,(vI x4)),(10,(vI x5)),(12,(vI x6)),(1,.v true (Cu .ro b0))]
theorem xDh{N}:∀n x3 x4 x5 x6 b0 r,F3 N n x3 x4 x5 x6 b0=some r->RS MH 5 (xBF x3 x4 x5 x6 b0) (xAK r):=
 nI (fun _ _ _ _ _ _ h=>nE h) fun n ih x3 x4 x5 x6 b0 r h=>cE (oA h) (fun h=>bE h AS fun r1 h=>bE (iE h) AS fun r2 h=>tS h (ih _ _ _ _ _ _ h.2)) fun h=>dS h
theorem xN3{N a0 r}(h:Kj N a0=some r):AbC 134 (xN2 a0) (xAK r):=
 oK MH <| bE (oA h) AS fun r1 h=>tE h (xDh _ _ _ _ _ _ _ h.2)
theorem xEV:FnOk Tryz.prog 137 Tryz.f137 (mI Tryz.f137 12 [.tmp 4] [0,2,8,1] [] [] (ext:=[0])):=fO Tryz.func137
theorem xAx{N a0 a1 r}(h:FV N a0 a1=some r):AbC 137 (xNu a0 a1) (xNv r):=
 oK xEV <| bE (oA h) AS fun r1 h=>dE (iE h)
theorem xFA:FnOk Tryz.prog 84 Tryz.f84 (mI Tryz.f84 11 [.tmp 2] [0,4,8,1] [] [(2,[(1,.cp,true)])] (ext:=[0])):=fO Tryz.func84
theorem B0{N a0 r}(h:Ah N a0=some r):AbC 84 (xN5 a0) (xN6 r):=
 oK xFA <| bE (oA h) BF fun r1 h=>cE h (fun h=>bE h xAx fun r2 h=>dE h) fun h=>bE h AS fun r2 h=>dE h
theorem HH:FnOk Tryz.prog 79 Tryz.f79 (mI Tryz.f79 58 [.cell 2 30] [0,4,6,8,10,12,14,16,18,42,66,82,1,5,11,17] [(10,[0,4,8,10,12,14,1,5,11]),(14,[0,4,8,10,12,14,16,18,1,5,11,17])] [(3,[(1,.take,false)]),(5,[(1,.ref,false)]),(6,[(1,.take,false),(2,.take,false)]),(10,[(1,.take,false)]),(16,[(1,.take,false)]),(17,[(1,.take,false),(2,.take,false),(4,.take,false)]),(18,[(0,.take,false)])] (ext:=[0])):=fO Tryz.func79
def LJ(x4 x6 x7:Int)(b0:Cur)(b2 b5:Val):St:=[(0,(vP 0)),(4,(vP 2)),(8,(vI x4)),(10,(vP 5)),(12,(vI x6)),(14,(vI x7)),(1,.v true (Cu .ro b0)),(5,(vV .own b2)),(11,(vV .own b5))]
def xCz(x4 x6 x7 x9:Int)(b0:Cur)(b2 b5:Val)(b8:Rowd):St:=[(0,(vP 0)),(4,(vP 2)),(8,(vI x4)),(10,(vP 5)),(12,(vI x6)),(14,(vI x7)),(16,(vP 8)),(18,(vI x9)),(1,.v true (Cu .ro b0)),(5,(vV .own b2)),(11,(vV .own b5)),(17,.v true [.sl .own .int b8.cells,.sl .own .org b8.frm])]
theorem xD6{N}{k10}(hk10:∀z0 z1 z2 z3 z4 z5 r,k10 z0 z1 z2 z3 z4 z5=some r->RS HH 10 (LJ z0 z1 z2 z3 z4 z5) (I3 r)):∀n x4 x6 x7 x9 b0 b2 b5 b8 r,FZ N k10 n x4 x6 x7 x9 b0 b2 b5 b8=some r->RS HH 14 (xCz x4 x6 x7 x9 b0 b2 b5 b8) (I3 r):=
 nI (fun _ _ _ _ _ _ _ _ _ h=>nE h) fun n ih x4 x6 x7 x9 b0 b2 b5 b8 r h=>cE (oA h) (fun h=>bE h B0 fun r1 h=>tS (iE h) (ih _ _ _ _ _ _ _ _ _ (iE h).2)) fun h=>tS (iE h) (hk10 _ _ _ _ _ _ _ (iE h).2)
theorem L7{N}:∀n x4 x6 x7 b0 b2 b5 r,CU N n x4 x6 x7 b0 b2 b5=some r->RS HH 10 (LJ x4 x6 x7 b0 b2 b5) (I3 r):=
 nI (fun _ _ _ _ _ _ _ h=>nE h) fun n ih x4 x6 x7 b0 b2 b5 r h=>cE (oA h) (fun h=>bE h xN3 fun r1 h=>tS h (xD6 ih _ _ _ _ _ _ _ _ _ _ h.2)) fun h=>dS h
theorem xAG{N a0 r}(h:Gb N a0=some r):AbC 79 (xNV a0) (I3 r):=
 oK HH <| bE (oA h) AS fun r1 h=>bE (iE (iE h)) BF fun r2 h=>cE h (fun h=>bE (iE (iE h)) AS fun r3 h=>tE h (L7 _ _ _ _ _ _ _ _ h.2)) fun h=>bE h AS fun r3 h=>tE h (L7 _ _ _ _ _ _ _ _ h.2)
theorem xE4:FnOk Tryz.prog 160 Tryz.f160 (mI Tryz.f160 6 [.tmp 2] [0,4,1] [] [(1,[(1,.cp,true)])] (ext:=[0])):=fO Tryz.func160
theorem Kn{N a0 r}(h:F8 N a0=some r):AbC 160 (xOk a0) (xOl r):=
 oK xE4 <| bE (oA h) G8 fun r1 h=>dE h
theorem xFB:FnOk Tryz.prog 85 Tryz.f85 (mI Tryz.f85 5 [.cell 2 30] [0,4,5] [] []):=fO Tryz.func85
theorem IP{N a0 r}(h:EC N a0=some r):AbC 85 (xMS a0) (xMT r):=
 oK xFB <| dE (oA h)
def G82(q:Cur->Int->Option (Val×Cur)):Prop:=∀a0 a1 r,q a0 a1=some r->AbC 82 (Kh a0 a1) (I2 r)
def Gq(q:Cur->Int->Option (Val×Cur)):Prop:=∀a0 a1 r,q a0 a1=some r->AbC 138 (xAI a0 a1) (xAJ r)
theorem Mg:FnOk Tryz.prog 82 Tryz.f82 (mI Tryz.f82 26 [.cell 4 30] [0,2,8,10,12,14,28,1,9,11] [(4,[0,2,8,10,12,14,1,9,11])] [(2,[(1,.cp,true)]),(4,[(1,.take,false)]),(6,[(1,.take,false),(6,.take,false)]),(7,[(0,.take,false)])] (ext:=[0])):=fO Tryz.func82
def xCG(x1 x6 x7:Int)(b0:Cur)(b4 b5:Val):St:=[(0,(vP 0)),(2,(vI x1)),(8,(vP 4)),(10,(vP 5)),(12,(vI x6)),(14,(vI x7)),(1,.v true (Cu .ro b0)),(9,(vV .own b4)),(11,(vV .own b5))]
theorem xEc{N}{q0}(g0:G82 q0){q1}(g1:Gq q1):∀n x1 x6 x7 b0 b4 b5 r,FY N q0 q1 n x1 x6 x7 b0 b4 b5=some r->RS Mg 4 (xCG x1 x6 x7 b0 b4 b5) (I2 r):=
 nI (fun _ _ _ _ _ _ _ h=>nE h) fun n ih x1 x6 x7 b0 b4 b5 r h=>cE (oA h) (fun h=>bE h (g1 _ _ _) fun r1 h=>tS (iE h) (ih _ _ _ _ _ _ _ (iE h).2)) fun h=>dS h
theorem xNT{N}{q0}(g0:G82 q0){q1}(g1:Gq q1){a0 a1 r}(h:I1 N q0 q1 a0 a1=some r):AbC 82 (Kh a0 a1) (I2 r):=
 oK Mg <| bE (oA h) xAx fun r1 h=>tE h (xEc g0 g1 _ _ _ _ _ _ _ _ h.2)
theorem xEW:FnOk Tryz.prog 138 Tryz.f138 (mI Tryz.f138 23 [.cell 4 30] [0,2,8,20,32,1,9] [] [(1,[(2,.take,false)])] (ext:=[0])):=fO Tryz.func138
theorem xNY{N}{q0}(g0:G82 q0){q1}(g1:Gq q1){a0 a1 r}(h:I4 N q0 q1 a0 a1=some r):AbC 138 (xAI a0 a1) (xAJ r):=
 oK xEW <| cE (oA h) (fun h=>bE h BF fun r1 h=>cE h (fun h=>bE h (g0 _ _ _) fun r2 h=>dE h) fun h=>bE h BF fun r2 h=>cE h (fun h=>bE h Kn fun r3 h=>bE h IP fun r4 h=>dE h) fun h=>bE h B0 fun r3 h=>bE h zW fun r4 h=>dE h) fun h=>bE (cb F h) BF fun r1 h=>cE h (fun h=>bE h Kn fun r2 h=>bE h IP fun r3 h=>dE h) fun h=>bE h B0 fun r2 h=>bE h zW fun r3 h=>dE h
theorem xNU{N:Nat}:∀d,G82 (AZ N d).c_spec_l3DrawList/\Gq (AZ N d).c_spec_l3Element2:=by
 intro d
 induction d with
 |zero=>exact⟨fun _ _ _ h=>nE h,fun _ _ _ h=>nE h⟩
 |succ d ih=>
  obtain⟨ih0,ih1⟩:=ih;exact⟨fun _ _ _ h=>xNT (N:=N) ih0 ih1 h,fun _ _ _ h=>xNY (N:=N) ih0 ih1 h⟩
theorem xAF{N:Nat}{a0:Cur}{a1:Int}{r:Val×Cur}(h:I0 N a0 a1=some r):AbC 82 (Kh a0 a1) (I2 r):=(xNU N).1 _ _ r h
theorem Mf:FnOk Tryz.prog 81 Tryz.f81 (mI Tryz.f81 23 [.cell 2 30] [0,4,6,8,10,22,1,5,7] [(4,[0,4,6,8,10,1,5,7])] [(4,[(1,.take,false)]),(6,[(1,.take,false),(6,.take,false)]),(7,[(0,.take,false)])] (ext:=[0])):=fO Tryz.func81
def xCF(x4 x5:Int)(b0:Cur)(b2 b3:Val):St:=[(0,(vP 0)),(4,(vP 2)),(6,(vP 3)),(8,(vI x4)),(10,(vI x5)),(1,.v true (Cu .ro b0)),(5,(vV .own b2)),(7,(vV .own b3))]
theorem xEb{N}:∀n x4 x5 b0 b2 b3 r,F5 N n x4 x5 b0 b2 b3=some r->RS Mf 4 (xCF x4 x5 b0 b2 b3) (xAO r):=
 nI (fun _ _ _ _ _ _ h=>nE h) fun n ih x4 x5 b0 b2 b3 r h=>cE (oA h) (fun h=>bE h B0 fun r1 h=>bE h zW fun r2 h=>tS (iE h) (ih _ _ _ _ _ _ (iE h).2)) fun h=>dS h
theorem xAN{N a0 r}(h:I5 N a0=some r):AbC 81 (xN9 a0) (xAO r):=
 oK Mf <| bE (oA h) AS fun r1 h=>tE h (xEb _ _ _ _ _ _ _ h.2)
theorem xET:FnOk Tryz.prog 135 Tryz.f135 (mI Tryz.f135 40 [.cell 2 30] [0,4,8,10,24,34,42,50,64,1,5] [] [] (ext:=[0])):=fO Tryz.func135
theorem xAH{N a0 r}(h:Ga N a0=some r):AbC 135 (xNW a0) (xNX r):=
 oK xET <| bE (oA h) AS fun r1 h=>cE h (fun h=>bE (rb Y 0 h) B0 fun r2 h=>bE h zW fun r3 h=>dE h) fun h=>cE h (fun h=>bE (rb Y 0 h) B0 fun r2 h=>bE h zW fun r3 h=>dE h) fun h=>cE h (fun h=>bE h B0 fun r2 h=>bE h zW fun r3 h=>dE h) fun h=>cE h (fun h=>bE h Kn fun r2 h=>bE h IP fun r3 h=>dE h) fun h=>cE h (fun h=>bE h xAF fun r2 h=>dE h) fun h=>cE h (fun h=>bE h xAN fun r2 h=>dE h) fun h=>cE h (fun h=>bE h B0 fun r2 h=>bE h B0 fun r3 h=>bE h IM fun r4 h=>dE h) fun h=>cE h (fun h=>bE h AS fun r2 h=>bE h zE fun r3 h=>dE h) fun h=>bE h xAG fun r2 h=>dE h
theorem xE5:FnOk Tryz.prog 161 Tryz.f161 (mI Tryz.f161 6 [.tmp 2] [0,4,1] [] [(1,[(1,.cp,true)])] (ext:=[0])):=fO Tryz.func161
theorem xNC{N a0 r}(h:xAy N a0=some r):AbC 161 (xNB a0) (xND r):=
 oK xE5 <| bE (oA h) G8 fun r1 h=>dE h
theorem xEU:FnOk Tryz.prog 136 Tryz.f136 (mI Tryz.f136 10 [.tmp 2] [0,4,8,1] [] [(3,[(1,.cp,true)])] (ext:=[0])):=fO Tryz.func136
theorem xNz{N a0 r}(h:Ka N a0=some r):AbC 136 (xNy a0) (xNA r):=
 oK xEU <| bE (oA h) BF fun r1 h=>cE h (fun h=>bE h xNC fun r2 h=>dE h) fun h=>bE h G8 fun r2 h=>dE h
theorem xFy:FnOk Tryz.prog 80 Tryz.f80 (mI Tryz.f80 59 [.cell 2 30] [0,4,6,14,16,28,40,50,68,92,110,1,5,7] [] [(10,[(1,.take,false),(5,.take,false)]),(12,[(1,.take,false),(8,.take,false)]),(14,[(1,.take,false)]),(17,[(0,.take,false)])] (ext:=[0])):=fO Tryz.func80
theorem IX{N a0 r}(h:EG N a0=some r):AbC 80 (xNP a0) (xNQ r):=
 oK xFy <| bE (oA h) xAH fun r1 h=>bE h AS fun r2 h=>cE h (fun h=>dE h) fun h=>cE h (fun h=>dE (iE h)) fun h=>cE h (fun h=>bE h AS fun r3 h=>dE h) fun h=>cE h (fun h=>bE h xAH fun r3 h=>dE (iE h)) fun h=>cE h (fun h=>dE (iE h)) fun h=>cE h (fun h=>bE h xNz fun r3 h=>dE (iE h)) fun h=>cE h (fun h=>dE h) fun h=>dE h
theorem HB:FnOk Tryz.prog 25 Tryz.f25 (mI Tryz.f25 44 [.cell 2 30] [0,4,6,8,10,24,46,56,80,1,5,7] [(3,[0,4,6,8,1,5,7]),(6,[0,4,6,8,10,1,5,7])] [(9,[(1,.ref,false),(5,.ref,false)]),(12,[(0,.take,false)])] (ext:=[0])):=fO Tryz.func25
def LB(x4:Int)(b0:Cur)(b2 b3:Val):St:=[(0,(vP 0)),(4,(vP 2)),(6,(vP 3)),(8,(vI x4)),(1,.v true (Cu .ro b0)),(5,(vV .own b2)),(7,(vV .own b3))]
def xBY(x4 x5:Int)(b0:Cur)(b2 b3:Val):St:=[(0,(vP 0)),(4,(vP 2)),(6,(vP 3)),(8,(vI x4)),(10,(vI x5)),(1,.v true (Cu .ro b0)),(5,(vV .own b2)),(7,(vV .own b3))]
theorem xDy{N}{k3}(hk3:∀z0 z1 z2 z3 r,k3 z0 z1 z2 z3=some r->RS HB 3 (LB z0 z1 z2 z3) (Ig r)):∀n x4 x5 b0 b2 b3 r,EP N k3 n x4 x5 b0 b2 b3=some r->RS HB 6 (xBY x4 x5 b0 b2 b3) (Ig r):=
 nI (fun _ _ _ _ _ _ h=>nE h) fun n ih x4 x5 b0 b2 b3 r h=>cE (iE (oA h)) (fun h=>bE h BF fun r1 h=>cE h (fun h=>bE (rp 3 h) AS fun r2 h=>tS (iE h) (ih _ _ _ _ _ _ (iE h).2)) fun h=>tS h (ih _ _ _ _ _ _ h.2)) fun h=>tS h (hk3 _ _ _ _ _ h.2)
theorem xDx{N}:∀n x4 b0 b2 b3 r,EO N n x4 b0 b2 b3=some r->RS HB 3 (LB x4 b0 b2 b3) (Ig r):=
 nI (fun _ _ _ _ _ h=>nE h) fun n ih x4 b0 b2 b3 r h=>cE (oA h) (fun h=>tS h (xDy ih _ _ _ _ _ _ _ h.2)) fun h=>bE h BF fun r1 h=>cE h (fun h=>bE h IX fun r2 h=>dS h) fun h=>dS h
theorem xOK{N a0 r}(h:Gi N a0=some r):AbC 25 (xOJ a0) (Ig r):=
 oK HB <| bE (oA h) xAG fun r1 h=>tE h (xDx _ _ _ _ _ _ h.2)
theorem xFd:FnOk Tryz.prog 26 Tryz.f26 (mI Tryz.f26 22 [.cell 2 30] [0,4,8,10,18,26,1,5] [] [] (ext:=[0])):=fO Tryz.func26
theorem xOt{N a0 r}(h:Gg N a0=some r):AbC 26 (xOs a0) (xOu r):=
 oK xFd <| bE (oA h) AS fun r1 h=>cE h (fun h=>bE h xAN fun r2 h=>dE h) fun h=>cE h (fun h=>bE h xAF fun r2 h=>dE h) fun h=>cE h (fun h=>bE h B0 fun r2 h=>bE h B0 fun r3 h=>bE h IM fun r4 h=>dE h) fun h=>bE h IX fun r2 h=>dE h
theorem xFe:FnOk Tryz.prog 27 Tryz.f27 (mI Tryz.f27 11 [.cell 2 30] [0,4,8,1,5] [] [(3,[(1,.cp,true)])] (ext:=[0])):=fO Tryz.func27
theorem xOz{N a0 r}(h:Gh N a0=some r):AbC 27 (xOy a0) (xOA r):=
 oK xFe <| bE (oA h) BF fun r1 h=>cE h (fun h=>bE h IX fun r2 h=>dE h) fun h=>bE h G8 fun r2 h=>bE h IP fun r3 h=>dE h
theorem xFf:FnOk Tryz.prog 28 Tryz.f28 (mI Tryz.f28 11 [.cell 2 30] [0,4,8,1,5] [] [] (ext:=[0])):=fO Tryz.func28
theorem xOq{N a0 r}(h:Gf N a0=some r):AbC 28 (xOp a0) (xOr r):=
 oK xFf <| bE (oA h) BF fun r1 h=>cE h (fun h=>bE h IX fun r2 h=>dE h) fun h=>bE h AS fun r2 h=>bE h zW fun r3 h=>dE h
theorem fk6:FnOk Tryz.prog 6 Tryz.f6 (mI Tryz.f6 68 [.tmp 2,.tmp 3] [0,4,6,8,10,12,14,16,42,52,68,96,116,21] [(8,[8,10,12,14,16,21])] [(5,[(2,.take,false)]),(10,[(0,.take,false),(4,.take,false)]),(11,[(4,.take,false)]),(12,[(0,.take,false),(4,.take,false)]),(14,[(0,.take,false),(4,.take,false)]),(16,[(0,.take,false),(4,.take,false)]),(17,[(1,.take,false)])]):=fO Tryz.func6
def xCu(x5:Str)(x6:List Val)(x7 x8:Int)(b10:Cur):St:=[(8,(vP 10)),(10,(vT x5)),(12,(vS .own .val x6)),(14,(vI x7)),(16,(vI x8)),(21,.v true (Cu .ro b10))]
theorem JC{N}:∀n x5 x6 x7 x8 b10 r,A3 N n x5 x6 x7 x8 b10=some r->RS fk6 8 (xCu x5 x6 x7 x8 b10) (xAb r):=
 nI (fun _ _ _ _ _ _ h=>nE h) fun n ih x5 x6 x7 x8 b10 r h=>cE (oA h) (fun h=>cE h (fun h=>bE h BF fun r1 h=>cE h (fun h=>bE h xOK fun r2 h=>tS (iE h) (ih _ _ _ _ _ _ (iE h).2)) fun h=>bE (rb Y 2 h) xOt fun r2 h=>tS (iE h) (ih _ _ _ _ _ _ (iE h).2)) fun h=>bE (rb F 1 (cb F h)) BF fun r1 h=>cE h (fun h=>bE h xOz fun r2 h=>tS (iE h) (ih _ _ _ _ _ _ (iE h).2)) fun h=>bE h xOq fun r2 h=>tS (iE h) (ih _ _ _ _ _ _ (iE h).2)) fun h=>dS h
theorem xL8{N a0 r}(h:IG N a0=some r):AbC 6 (xL7 a0) (xAb r):=
 oK fk6 <| bE (oA h) xAv fun r1 h=>bE h xL5 fun r2 h=>bE h Ok fun r3 h=>cE h (fun h=>bE (cb Y h) AS fun r4 h=>tE h (JC _ _ _ _ _ _ _ h.2)) fun h=>bE h BF fun r4 h=>cE h (fun h=>bE h AS fun r5 h=>tE h (JC _ _ _ _ _ _ _ h.2)) fun h=>tE h (JC _ _ _ _ _ _ _ h.2)
theorem Lq:FnOk Tryz.prog 103 Tryz.f103 (mI Tryz.f103 26 [.tmp 4] [0,2,8,10,20,28,50] [(4,[0,2,10])] []):=fO Tryz.func103
def xBk(x0 x1:List Str)(x5:Int):St:=[(0,(vS .ro .str x0)),(2,(vS .ro .str x1)),(10,(vI x5))]
theorem xCY{N}:∀n x0 x1 x5 r,F9 N n x0 x1 x5=some r->RS Lq 4 (xBk x0 x1 x5) (xAS r):=
 nI (fun _ _ _ _ h=>nE h) fun n ih x0 x1 x5 r h=>cE (oA h) (fun h=>cE (iE (iE h)) (fun h=>dS h) fun h=>tS h (ih _ _ _ _ h.2)) fun h=>dS h
theorem xOn{N a0 a1 r}(h:Ib N a0 a1=some r):AbC 103 (xOm a0 a1) (xAS r):=
 oK Lq <| cE (oA h) (fun h=>dE h) fun h=>tE h (xCY _ _ _ _ _ h.2)
theorem Lr:FnOk Tryz.prog 104 Tryz.f104 (mI Tryz.f104 26 [.tmp 4] [0,2,8,10,20,28,50] [(4,[0,2,10])] []):=fO Tryz.func104
def xBl(x0 x1:List Int)(x5:Int):St:=[(0,(vS .ro .int x0)),(2,(vS .ro .int x1)),(10,(vI x5))]
theorem xCZ{N}:∀n x0 x1 x5 r,FSq N n x0 x1 x5=some r->RS Lr 4 (xBl x0 x1 x5) (xAu r):=
 nI (fun _ _ _ _ h=>nE h) fun n ih x0 x1 x5 r h=>cE (oA h) (fun h=>cE (iE (iE h)) (fun h=>dS h) fun h=>tS h (ih _ _ _ _ h.2)) fun h=>dS h
theorem xNk{N a0 a1 r}(h:IT N a0 a1=some r):AbC 104 (xNj a0 a1) (xAu r):=
 oK Lr <| cE (oA h) (fun h=>dE h) fun h=>tE h (xCZ _ _ _ _ _ h.2)
theorem Ls:FnOk Tryz.prog 105 Tryz.f105 (mI Tryz.f105 26 [.tmp 4] [0,2,8,10,20,28,50] [(4,[0,2,10])] []):=fO Tryz.func105
def xBm(x0 x1:List Org)(x5:Int):St:=[(0,(vS .ro .org x0)),(2,(vS .ro .org x1)),(10,(vI x5))]
theorem xC0{N}:∀n x0 x1 x5 r,F6 N n x0 x1 x5=some r->RS Ls 4 (xBm x0 x1 x5) (xAP r):=
 nI (fun _ _ _ _ h=>nE h) fun n ih x0 x1 x5 r h=>cE (oA h) (fun h=>cE (iE (iE h)) (fun h=>dS h) fun h=>tS h (ih _ _ _ _ h.2)) fun h=>dS h
theorem xOb{N a0 a1 r}(h:I6 N a0 a1=some r):AbC 105 (xOa a0 a1) (xAP r):=
 oK Ls <| cE (oA h) (fun h=>dE h) fun h=>tE h (xC0 _ _ _ _ _ h.2)
def G47(q:Val->Val->Bool->Option (Bool)):Prop:=∀a0 a1 a2 r,q a0 a1 a2=some r->AbC 47 (Km a0 a1 a2) (Gd r)
theorem JN:FnOk Tryz.prog 47 Tryz.f47 (mI Tryz.f47 121 [.tmp 6] [0,2,4,6,8,12,14,16,120,130,160,170,240,7,9] [(4,[4,6,8,14,7,9]),(9,[4,6,8,16,7,9])] [(1,[(5,.take,false),(12,.take,false),(19,.take,false),(26,.take,false),(35,.take,false),(43,.take,false)]),(11,[(14,.take,false),(16,.take,false)])]):=fO Tryz.func47
def xCd(x2:Bool)(x7:Int)(b3 b4:Val):St:=[(4,(vB x2)),(6,(vP 3)),(8,(vP 4)),(14,(vI x7)),(7,(vV .ro b3)),(9,(vV .ro b4))]
def xCe(x2:Bool)(x8:Int)(b3 b4:Val):St:=[(4,(vB x2)),(6,(vP 3)),(8,(vP 4)),(16,(vI x8)),(7,(vV .ro b3)),(9,(vV .ro b4))]
theorem xDJ{N}{q0}(g0:G47 q0):∀n x2 x8 b3 b4 r,DB N q0 n x2 x8 b3 b4=some r->RS JN 9 (xCe x2 x8 b3 b4) (Gd r):=
 nI (fun _ _ _ _ _ h=>nE h) fun n ih x2 x8 b3 b4 r h=>cE (oA h) (fun h=>bE (iE (iE h)) xNk fun r1 h=>cE h (fun h=>dS (cb Y h)) fun h=>cE h (fun h=>bE (rp 4 (rp 4 h)) xOb fun r2 h=>cE h (fun h=>dS h) fun h=>tS h (ih _ _ _ _ _ h.2)) fun h=>tS (cb F h) (ih _ _ _ _ _ (cb F h).2)) fun h=>dS h
theorem xDI{N}{q0}(g0:G47 q0):∀n x2 x7 b3 b4 r,F7 N q0 n x2 x7 b3 b4=some r->RS JN 4 (xCd x2 x7 b3 b4) (Gd r):=
 nI (fun _ _ _ _ _ h=>nE h) fun n ih x2 x7 b3 b4 r h=>cE (oA h) (fun h=>bE (iE (iE h)) (g0 _ _ _ _) fun r1 h=>cE h (fun h=>dS h) fun h=>tS h (ih _ _ _ _ _ h.2)) fun h=>tS h (xDJ g0 _ _ _ _ _ _ h.2)
theorem xOe{N}{q0}(g0:G47 q0){a0 a1 a2 r}(h:I8 N q0 a0 a1 a2=some r):AbC 47 (Km a0 a1 a2) (Gd r):=
 oK JN <| cE (oA h) (fun h=>dE (cb Y (cb Y (cb Y (cb Y (cb Y (cb Y h))))))) fun h=>cE h (fun h=>dE (cb Y (cb Y (cb Y (cb Y (cb Y h)))))) fun h=>cE h (fun h=>dE (cb Y (cb Y (cb Y (cb Y h))))) fun h=>cE h (fun h=>dE (cb Y (cb Y (cb Y h)))) fun h=>cE h (fun h=>dE (cb Y (cb Y h))) fun h=>bE h xOn fun r1 h=>cE h (fun h=>dE (cb Y h)) fun h=>cE h (fun h=>dE h) fun h=>tE h (xDI g0 _ _ _ _ _ _ h.2)
theorem xAR{N:Nat}:∀d,G47 (Bn N d)
 |0=>fun _ _ _ _ h=>nE h
 |d+1=>fun _ _ _ _ h=>xOe (N:=N) (xAR d) h
theorem xOf{N:Nat}{a0:Val}{a1:Val}{a2:Bool}{r:Bool}(h:I7 N a0 a1 a2=some r):AbC 47 (Km a0 a1 a2) (Gd r):=xAR N _ _ _ r h
theorem fk8:FnOk Tryz.prog 8 Tryz.f8 (mI Tryz.f8 8 [.tmp 4] [0,2,4,6,8,5,7] [] []):=fO Tryz.func8
theorem FO{N a0 a1 r}(h:BS N a0 a1=some r):AbC 8 (xL9 a0 a1) (xMa r):=
 oK fk8 <| bE (oA h) xOf fun r1 h=>dE h
theorem fk3:FnOk Tryz.prog 3 Tryz.f3 (mI Tryz.f3 43 [.tmp 2] [0,4,6,8,10,12,16,54,11] [] [(3,[(2,.take,false)]),(4,[(2,.take,true)]),(5,[(6,.take,false)]),(7,[(1,.take,false),(2,.take,false),(9,.take,false)]),(8,[(1,.take,false),(2,.take,true)])]):=fO Tryz.func3
theorem laws_FnCalls_ok{N a0 r}(h:GF N a0=some r):AbC 3 (xJo a0) (xJp r):=
 oK fk3 <| bE (oA h) xJs fun r1 h=>cE h (fun h=>dE h) fun h=>bE h xL8 fun r2 h=>bK h JV fun r3 k h=>cN k h (JX k) (fun h=>bE h Ol fun r4 h=>bE h FO fun r5 h=>cE h (fun h=>dE (cb Y h)) fun h=>bE h K7 fun r6 h=>cE h (fun h=>dE h) fun h=>bE (iE h) zW fun r7 h=>bE h zW fun r8 h=>bE h zW fun r9 h=>bE h zW fun r10 h=>bE h zW fun r11 h=>bK (iE h) JV fun r12 k h=>cN k h (JX k) (fun h=>bE h zE fun r13 h=>bE h FO fun r14 h=>dE h) fun h=>bE h zE fun r13 h=>bE h FO fun r14 h=>dE h) fun h=>bE h Ol fun r4 h=>bE h FO fun r5 h=>cE h (fun h=>dE (cb Y h)) fun h=>bE h K7 fun r6 h=>cE h (fun h=>dE h) fun h=>bE (iE h) zW fun r7 h=>bE h zW fun r8 h=>bE h zW fun r9 h=>bE h zW fun r10 h=>bE h zW fun r11 h=>bK (iE h) JV fun r12 k h=>cN k h (JX k) (fun h=>bE h zE fun r13 h=>bE h FO fun r14 h=>dE h) fun h=>bE h zE fun r13 h=>bE h FO fun r14 h=>dE h
end Go.Ab.T
end
section
namespace Go.Ab
inductive DK (K:Nat):D->Prop where
 |int {k n} (h:(Lit.int k n).wf=true):DK K (.int k n)
 |bool (b):DK K (.bool b)
 |str {s:Str} (h:s.length<=K):DK K (.str s)
 |sl {sz rows} (h:rows.length<=K) (hr:∀r∈rows,∀x∈r,DK K x):DK K (.sl sz rows)
theorem DK.mono{K M:Nat}(hKM:K<=M){d:D}(h:DK K d):DK M d:=by
 induction h with
 |int h=>exact .int h
 |bool b=>exact .bool b
 |str h=>exact .str (by omega)
 |sl h _ ih=>exact .sl (by omega) ih
theorem xBd{n:Int}:(Lit.int .i64 n).wf=true↔I64 n:=by
 show(decide (_<=n)&&decide (n<=_))=true↔_;rw [Zv,Z1,Z1];exact Iff.rfl
theorem DK.i64{K:Nat}{n:Int}:DK K (.int .i64 n)↔I64 n:=⟨fun h=>by cases h with |int h=>exact xBd.1 h,fun h=> .int (xBd.2 h)⟩
theorem DK.str_iff{K:Nat}{s:Str}:DK K (.str s)↔s.length<=K:=⟨fun h=>by cases h;assumption,.str⟩
theorem DK.sl_iff{K sz:Nat}{α:Type}{f:α->List D}{xs:List α}:DK K (.sl sz (xs.map f))↔xs.length<=K/\∀x∈xs,∀d∈f x,DK K d:=by
 constructor
 ·intro h;cases h with
  |sl h hr=>exact⟨by simpa using h,fun x hx=>hr _ (List.mem_map_of_mem hx)⟩
 ·rintro ⟨h,hr⟩;refine .sl (by simpa using h) fun r hr' => ?_;obtain⟨x,hx,rfl⟩:=Zk.1 hr';exact hr x hx
def zO{α:Type}(K:Nat)(p:α->Prop)(l:List α):Prop:=l.length<=K/\∀x∈l,p x
def Ty.Fit(K:Nat)(T:Ty)(x:T.den):Prop:=∀d∈T.toD x,DK K d
def Org.Fit(o:Org):Prop:=I64 o.cell/\I64 o.row
def Rowd.Fit(K:Nat)(r:Rowd):Prop:=zO K I64 r.cells/\zO K Org.Fit r.frm
def Str.Fit(K:Nat)(s:Str):Prop:=s.length<=K
def Val.Fit(K:Nat)(v:Val):Prop:=∀d∈Val.toD v,DK K d
def Fil.Fit(K:Nat)(v:Fil):Prop:=Str.Fit K v.name/\I64 v.n
theorem xKK{K:Nat}{r:Rowd}:(∀d∈Rowd.toD r,DK K d)↔r.Fit K:=by
 simp only [Rowd.toD,Zo,Z2,or_false,forall_eq_or_imp,forall_eq,DK.sl_iff,DK.i64,Rowd.Fit,zO,Org.Fit]
theorem xPB{K:Nat}{r:Fil}:Ty.Fit K .fil r↔r.Fit K:=by
 simp only [Ty.Fit,Ty.toD,Zo,Z2,or_false,forall_eq_or_imp,forall_eq,DK.str_iff,DK.i64,Fil.Fit,Str.Fit]
theorem Val.fit_iff{K:Nat}{v:Val}:v.Fit K↔I64 v.kind/\I64 v.n/\I64 v.step/\Str.Fit K v.text/\zO K (Val.Fit K) v.list/\zO K (Str.Fit K) v.columns/\zO K (Rowd.Fit K) v.rows:=by
 cases v;simp only [Val.Fit,Val.toD,Val.toDs_eq,Zo,Z2,or_false,forall_eq_or_imp,forall_eq,DK.sl_iff,DK.i64,DK.str_iff,Str.Fit,zO,Val.kind,Val.n,Val.step,Val.text,Val.list,Val.columns,Val.rows,xKK]
theorem xK2{l:List Val}{x:Val}(h:x∈l)(k n s:Int)(t:Str)(c:List Str)(r:List Rowd):SizeOf.sizeOf x<SizeOf.sizeOf (Val.mk k n s t l c r):=by
 have:=List.sizeOf_lt_of_mem h;simp only [Val.mk.sizeOf_spec];omega
theorem Val.ind{p:Val->Prop}(h:∀k n s t l c r,(∀x∈l,p x)->p (.mk k n s t l c r)):∀v,p v
 | .mk k n s t l c r=>h k n s t l c r fun x hx=>Val.ind h x
termination_by v=>SizeOf.sizeOf v
decreasing_by exact xK2 hx k n s t c r
end Go.Ab
end
section
namespace Go.Ab
theorem zN{α σ ρ:Type}{L:Nat->Int->σ->Option ρ}(x0:List α)(g:List α->σ->ρ)(Inv:Nat->σ->Prop)
 (hnil:∀n s,Inv x0.length s->L (n+1) (x0.length:Nat) s=some (g [] s))
 (hcons:∀i x l s,x0.drop i=x::l->i<x0.length->x0[i]? =some x->Inv i s->
   (∃s',Inv (i+1) s' /\g (x::l) s=g l s' /\∀n,L (n+1) (i:Nat) s=L n ((i+1:Nat):Int) s')\/(∀n,L (n+1) (i:Nat) s=some (g (x::l) s))):
 ∀n i s,Inv i s->i<=x0.length->x0.length<n+i->L n (i:Nat) s=some (g (x0.drop i) s):=by
 intro n
 induction n with
 |zero=>intro i s _ h1 h2;omega
 |succ n ih=>
  intro i s hs hi hn;cases hd:x0.drop i with
  |nil=>
   have:=BI hd;obtain rfl:i=x0.length:=by omega
   exact hnil n s hs
  |cons x l=>
   obtain⟨h1,h2,h3⟩:=Ak hd;rcases hcons i x l s hd h1 h2 hs with ⟨s',h4,h5,h6⟩|h
   ·rw [h6,ih (i+1) s' h4 (by omega) (by omega),h3,h5]
   ·exact h n
theorem yU{α:Type}{xs:List α}{i:Nat}{x:α}(h:xs[i]? =some x)(d:α):xs.getD i d=x:=by simp [List.getD,h]
theorem y4{i:Nat}{len:Nat}(h:i<len)(hl:len<=9223372036854775807):IntKind.i64.wrap ((i:Int)+1)=((i+1:Nat):Int):=by
 rw [zX (by omega) (by omega)];omega
section
variable {α:Type} {d:α}
theorem Fp{L:Nat->Int->Option Bool}{x0:List α}(hend:∀n,L (n+1) (x0.length:Nat)=some true)
 (hcons:∀(i:Nat) x n,i<x0.length->x0[i]? =some x->x∈x0->L (n+1) (i:Nat)=L n ((i+1:Nat):Int)) {n:Nat} (hn:x0.length<n):L n 0=some true:=by
 have key:=zN (σ:=Unit) (L:=fun n i _=>L n i) x0 (fun _ _=>true) (fun _ _=>True) (fun n _ _=>hend n)
  (fun i x r s hd hi hx _=> .inl ⟨(),trivial,rfl,fun n=>hcons i x n hi hx (Zs hx)⟩) n 0 () trivial (by omega) (by omega)
 exact key
end
end Go.Ab
end
section
namespace Go.Ab
theorem vk(a b c:Int)(t:Str)(l:List Val)(k:List Str)(r:List Rowd):(Val.mk a b c t l k r).kind=a:=rfl
theorem vn(a b c:Int)(t:Str)(l:List Val)(k:List Str)(r:List Rowd):(Val.mk a b c t l k r).n=b:=rfl
theorem vs(a b c:Int)(t:Str)(l:List Val)(k:List Str)(r:List Rowd):(Val.mk a b c t l k r).step=c:=rfl
theorem vt(a b c:Int)(t:Str)(l:List Val)(k:List Str)(r:List Rowd):(Val.mk a b c t l k r).text=t:=rfl
theorem vl(a b c:Int)(t:Str)(l:List Val)(k:List Str)(r:List Rowd):(Val.mk a b c t l k r).list=l:=rfl
theorem vc(a b c:Int)(t:Str)(l:List Val)(k:List Str)(r:List Rowd):(Val.mk a b c t l k r).columns=k:=rfl
theorem vr(a b c:Int)(t:Str)(l:List Val)(k:List Str)(r:List Rowd):(Val.mk a b c t l k r).rows=r:=rfl
theorem ek(a b:Int)(t:Str)(l:List Exp):(Exp.mk a b t l).kind=a:=rfl
theorem en(a b:Int)(t:Str)(l:List Exp):(Exp.mk a b t l).n=b:=rfl
theorem et(a b:Int)(t:Str)(l:List Exp):(Exp.mk a b t l).text=t:=rfl
theorem ea(a b:Int)(t:Str)(l:List Exp):(Exp.mk a b t l).args=l:=rfl
theorem xK3{α:Type}{f:α->Nat}{l:List α}{x:α}(h:x∈l):f x<=(l.map f).sum:=by
 induction l with
 |nil=>cases h
 |cons a l ih=>
  simp only [ZX,List.sum_cons];rcases Zo.1 h with rfl|h
  ·omega
  ·have:=ih h;omega
theorem AT(n:Nat):Big fun N=>n<N:=⟨n+1,fun N h=>by omega⟩
end Go.Ab
end
section
namespace Go.Ab
theorem xO3{α:Type}{f g:α->Nat}{l:List α}{a:Nat}(h:∀x∈l,f x<=a+a*g x):(l.map f).sum<=a*(l.length+(l.map g).sum):=by
 induction l with
 |nil=>simp
 |cons x l ih=>
  have h1:=h x Zp;have h2:=ih fun y hy=>h y (Zq _ hy);simp only [ZX,List.sum_cons,jC,Nat.mul_add] at h2 ⊢;omega
theorem xFR{α:Type}{xs:List α}{i:Nat}(h:i<xs.length)(y d:α):(xs.set i y).getD i d=y:=by simp [List.getD,h]
end Go.Ab
end
section
namespace Go.Ab
def D6(c:UInt8):Bool:=decide ((c.toNat:Int)>=97)&&decide ((c.toNat:Int)<=122)
def DI(c:UInt8):Bool:=decide ((c.toNat:Int)>=48)&&decide ((c.toNat:Int)<=57)
def Av:List UInt8->Bool->Bool
 | [],_=>true
 |x::r,f=>(D6 x||(!f&&DI x))&&Av r false
theorem xNI{N:Nat}{s:Str}(hl:s.length<=9223372036854775807)(hn:s.length<N):Kc N s=some (Av s true&&decide ((s.length:Int)>0)):=
 zN (L:=fun n i _=>Bl N n s i) s (fun l f=>Av l f&&decide ((s.length:Int)>0)) (fun i f=>f=(i==0)) (fun n _ _=>by simp [Bl,Av])
  (fun i x l f hd hi hx hf=>by
    have hi' :(i:Int)<(s.length:Int):=by omega
    have hi0:((i:Int)==0)=f:=by rw [hf];cases i <;>simp <;>omega
    by_cases h1:(D6 x||(!f&&DI x))=true
    ·refine .inl ⟨false,by simp,by simp [Av,h1],fun n=> ?_⟩;simp only [Bl,Zz hi',jT,jI,yU hx,y4 hi hl,hi0];rw [Zw (by omega)];unfold D6 DI at h1
     by_cases c1:(x.toNat:Int)>=97 <;>by_cases c2:(x.toNat:Int)<=122 <;>by_cases c3:(x.toNat:Int)>=48 <;>by_cases c4:(x.toNat:Int)<=57 <;>cases f <;>
      simp only [c1,c2,c3,c4,decide_true,Z6,jT,jF,jU,jV,Y9,YQ,Xz,Ya,ZQ,ZN,ZE,Yg] at h1 ⊢
    ·refine .inr fun n=> ?_;have h1:=Bool.eq_false_iff.2 h1;simp only [Bl,Zz hi',jT,jI,yU hx,y4 hi hl,hi0,Av,h1,ZQ];rw [Zw (by omega)];unfold D6 DI at h1
     by_cases c1:(x.toNat:Int)>=97 <;>by_cases c2:(x.toNat:Int)<=122 <;>by_cases c3:(x.toNat:Int)>=48 <;>by_cases c4:(x.toNat:Int)<=57 <;>cases f <;>
      simp only [c1,c2,c3,c4,decide_true,Z6,jT,jF,jU,jV,Y9,YQ,Xz,Ya,ZQ,ZN,ZE,Bool.true_eq_false] at h1 ⊢) N 0 true rfl (by omega) (by omega)
theorem D3(N:Nat)(a b c:Int):CE N a b c=some (decide (b<=a)&&decide (a<=c)):=by
 unfold CE;cases h:decide (b<=a) <;>simp
theorem FR(N:Nat)(a b c:Int):EE N a b c=some (decide (b<=a)&&decide (a<=c)):=by
 unfold EE;cases h:decide (b<=a)
 ·rfl
 ·rfl
theorem xIo{N:Nat}{s:Str}(hl:s.length<=9223372036854775807)(hn:s.length<N):Jc N s=some (Av s true&&(decide ((1:Int)<=s.length)&&decide ((s.length:Int)<=8))):=
 zN (L:=fun n i _=>CA N n s i) s (fun l f=>Av l f&&(decide ((1:Int)<=s.length)&&decide ((s.length:Int)<=8))) (fun i f=>f=(i==0)) (fun n _ _=>by simp [CA,Av,D3])
  (fun i x l f hd hi hx hf=>by
    have hi' :(i:Int)<(s.length:Int):=by omega
    have hi0:((i:Int)==0)=f:=by rw [hf];cases i <;>simp <;>omega
    have e1:decide ((x.toNat:Int)<48)= !decide ((x.toNat:Int)>=48):=by by_cases c:(x.toNat:Int)>=48 <;>simp [c] <;>omega
    have e2:decide ((x.toNat:Int)>57)= !decide ((x.toNat:Int)<=57):=by by_cases c:(x.toNat:Int)<=57 <;>simp [c] <;>omega
    by_cases h1:(D6 x||(!f&&DI x))=true
    ·refine .inl ⟨false,by simp,by simp [Av,h1],fun n=> ?_⟩;simp only [CA,Zz hi',jT,jI,yU hx,y4 hi hl,hi0,e1,e2];rw [Zw (by omega)];unfold D6 DI at h1
     by_cases c1:(x.toNat:Int)>=97 <;>by_cases c2:(x.toNat:Int)<=122 <;>by_cases c3:(x.toNat:Int)>=48 <;>by_cases c4:(x.toNat:Int)<=57 <;>cases f <;>
      simp only [c1,c2,c3,c4,decide_true,Z6,jT,jF,jU,jV,Y9,YQ,Xz,Ya,ZQ,ZN,ZE,Yg] at h1 ⊢
    ·refine .inr fun n=> ?_;have h1:=Bool.eq_false_iff.2 h1;simp only [CA,Zz hi',jT,jI,yU hx,y4 hi hl,hi0,e1,e2,Av,h1,ZQ];rw [Zw (by omega)];unfold D6 DI at h1
     by_cases c1:(x.toNat:Int)>=97 <;>by_cases c2:(x.toNat:Int)<=122 <;>by_cases c3:(x.toNat:Int)>=48 <;>by_cases c4:(x.toNat:Int)<=57 <;>cases f <;>
      simp only [c1,c2,c3,c4,decide_true,Z6,jT,jF,jU,jV,Y9,YQ,Xz,Ya,ZQ,ZN,ZE,Bool.true_eq_false] at h1 ⊢) N 0 true rfl (by omega) (by omega)
def Eu:List Str:=[[108,101,116],[105,110],[105,102],[116,104,101,110],[101,108,115,101],[102,111,114],[100,111],[108,101,110],[115,117,109],[116,97,107,101],[115,107,105,112],[114,97,110,103,101],[110,116,104],[119,104,101,114,101],[107,101,101,112],[97,100,100],[103,114,111,117,112],[106,111,105,110],[99,111,108,117,109,110],[114,111,119,115],[99,108,111,99,107],[99,104,97,110,99,101],[102,105,108,101],[116,97,98,108,101]]
theorem xAr{N:Nat}{xs:List Str}{s:Str}(hl:xs.length<=9223372036854775807)(hn:xs.length<N):IR N xs s=some (xs.any (· ==s)):=
 zN (σ:=Unit) (L:=fun n i _=>ED N n xs s i) xs (fun l _=>l.any (· ==s)) (fun _ _=>True) (fun n _ _=>by simp [ED])
  (fun i x l _ hd hi hx _=>by
    have hi' :(i:Int)<(xs.length:Int):=by omega
    cases h1:x==s
    ·refine .inl ⟨(),trivial,by simp [h1],fun n=> ?_⟩;simp only [ED,Zz hi',jT,jI,yU hx,h1,jF,y4 hi hl];rw [Zw (by omega)]
    ·refine .inr fun n=> ?_;simp only [ED,Zz hi',jT,jI,yU hx,h1];rw [Zw (by omega)];simp [h1]) N 0 () trivial (by omega) (by omega)
def Et(s:Str):Bool:=Eu.any (· ==s)
theorem xMj{N:Nat}{s:Str}(hn:24<N):IH N s=some (Et s):=by
 unfold IH Kb;rw [jS,show([[108,101,116],[105,110],[105,102],[116,104,101,110],[101,108,115,101],[102,111,114],[100,111],[108,101,110],[115,117,109],[116,97,107,101],[115,107,105,112],[114,97,110,103,101],[110,116,104],[119,104,101,114,101],[107,101,101,112],[97,100,100],[103,114,111,117,112],[106,111,105,110],[99,111,108,117,109,110],[114,111,119,115],[99,108,111,99,107],[99,104,97,110,99,101],[102,105,108,101],[116,97,98,108,101]]:List Str)=Eu from rfl,xAr (by decide) hn]
 rfl
theorem xGZ(N:Nat)(s:Str):HS N s=some (Et s):=by
 by_cases h:s∈Eu
 ·have h' :Et s=true:=Y8.2 ⟨s,h,by simp⟩;rw [h'];simp only [Eu,Zo,Z2,or_false] at h;rcases h with h|h|h|h|h|h|h|h|h|h|h|h|h|h|h|h|h|h|h|h|h|h|h|h <;>subst h <;>rfl
 ·have h' :Et s=false:=by
   unfold Et;rw [Xo];intro x hx hxs;exact h (by rw [<-eq_of_beq hxs];exact hx)
  rw [h'];have hne:∀x∈Eu,(s==x)=false:=by
   intro x hx;cases hb:s==x
   ·rfl
   ·exact absurd (by rw [eq_of_beq hb];exact hx) h
  simp only [Eu,Zo,Z2,or_false,forall_eq_or_imp,forall_eq] at hne;simp only [HS,E8,hne,jF,jS]
  rfl
def Az(s:Str):Bool:=Av s true&&(decide ((1:Int)<=s.length)&&decide ((s.length:Int)<=8))&& !Et s
theorem NE{N:Nat}{s:Str}(hl:s.length<=9223372036854775807)(hn:s.length<N):Eb N s=some (Az s):=by
 unfold Eb Az;rw [xIo hl hn,jS];cases (Av s true&&(decide ((1:Int)<=s.length)&&decide ((s.length:Int)<=8)))
 ·rfl
 ·rw [xGZ];rfl
theorem xAd{N:Nat}{s:Str}(hl:s.length<=9223372036854775807)(hn:s.length<N)(hn2:24<N):GX N s=some (Az s):=by
 unfold GX Az;rw [xNI hl hn,jS,xMj hn2];have:decide ((s.length:Int)>0)=decide ((1:Int)<=s.length):=by by_cases c:(s.length:Int)>0 <;>simp [c] <;>omega
 rw [this];cases Av s true <;>cases decide ((1:Int)<=s.length) <;>cases decide ((s.length:Int)<=8) <;>rfl
end Go.Ab
end
section
namespace Go.Ab
def zB(n:Int):Bool:=decide ((-1000000000:Int)<=n)&&decide (n<=1000000000)
theorem CX(N:Nat)(n:Int):Bm N n=some (zB n):=by simp [Bm,FR,zB]
theorem DZ(N:Nat)(n:Int):Be N n=some (zB n):=by simp [Be,D3,zB]
theorem xPA{i len:Nat}(h0:i≠0)(h:i<len)(hl:len<=9223372036854775807):IntKind.i64.wrap ((i:Int) - 1)=((i - 1:Nat):Int):=by
 rw [zX (by omega) (by omega)];omega
end Go.Ab
end
section
namespace Go.Ab
def Fm{α:Type}(_:α):Nat:=1
def Fn(_:Org):Nat:=2
def BB(r:Rowd):Nat:=(r.cells.map Fm).sum+(r.frm.map Fn).sum
theorem DG{α:Type}(xs:List α):(xs.map Fm).sum=xs.length:=by
 induction xs with
 |nil=>rfl
 |cons x l ih=>simp only [ZX,List.sum_cons,ih,jC,Fm];omega
mutual
def Val.cnt:Val->Nat
 | .mk _ _ _ _ l c r=>4+Val.cnts l+(c.map Fm).sum+(r.map BB).sum
def Val.cnts:List Val->Nat
 | []=>0
 |x::r=>Val.cnt x+Val.cnts r
end
theorem Val.cnts_eq(l:List Val):Val.cnts l=(l.map Val.cnt).sum:=by
 induction l with
 |nil=>rfl
 |cons x l ih=>simp [Val.cnts,ih]
end Go.Ab
end
section
namespace Go.Ab
theorem Kl{N K:Nat}{r:Rowd}(h:r.Fit K)(hK:K<=137438953472):Gc N r=some r:=by
 have h1:r.cells.length<=K:=h.1.1;have h2:r.frm.length<=K:=h.2.1;unfold Gc;rw [Zw (by unfold Lim;omega),Zw (by unfold Lim;omega)];rfl
theorem NT{N K:Nat}{r:Rowd}(h:r.Fit K)(hK:K<=137438953472):H6 N r=some r:=Kl (N:=N) h hK
theorem xM0{N K:Nat}{rc:Val->Option Val}{v z:Val}{k n s:Int}{t:Str}{l:List Val}{c:List Str}(h:zO K (Rowd.Fit K) v.rows)(hK:K<=137438953472)(hN:K<N):
 EI N rc N 0 v z (Val.mk k n s t l c [])=some (Val.mk k n s t l c v.rows):=by
 have hl:v.rows.length<=K:=h.1
 exact zN (L:=fun m i q=>EI N rc m i v z (Val.mk k n s t l c q)) v.rows (fun r q=>Val.mk k n s t l c (q++r)) (fun i q=>q.length=i) (fun m q hq=>by simp [EI])
  (fun i x r q hd hi hx hq=>by
    have hq:q.length=i:=hq;have hi' :(i:Int)<(v.rows.length:Int):=by omega
    refine .inl ⟨q++ [x],by simp [hq],by simp,fun m=> ?_⟩;simp only [EI,Zz hi',jT,jI,yU hx,Kl (h.2 x (Zs hx)) hK,jS,y4 hi (by omega:v.rows.length<=_),vk,vn,vs,vt,vl,vc,vr];rw [Zw (by omega),Zw (by simp only [jC,jN];unfold Lim;omega)]) N 0 [] rfl (by omega) (by omega)
theorem xM1{N d K:Nat}{v:Val}(h:v.Fit K)(hK:K<=137438953472)(hN:K<N)(hx:∀x∈v.list,EJ N d x=some x):IZ N (EJ N d) v=some v:=by
 obtain⟨h1,h2,h3,h4,h5,h6,h7⟩:=Val.fit_iff.1 h;have hl:v.list.length<=K:=h5.1;have hc:v.columns.length<=K:=h6.1;unfold IZ;rw [Zw (by unfold Lim;omega)]
 have key:=zN (L:=fun m i q=>FX N (EJ N d) m i v (Val.mk 0 0 0 [] [] [] []) (Val.mk v.kind v.n v.step v.text q ([]++v.columns) [])) v.list (fun l q=>Val.mk v.kind v.n v.step v.text (q++l) v.columns v.rows) (fun i q=>q.length=i)
  (fun m q hq=>by
    simp only [FX,Z5,Z6,jF,Zb,jM];exact xM0 h7 hK hN)
  (fun i x l q hd hi hxi hq=>by
    have hq:q.length=i:=hq;have hi' :(i:Int)<(v.list.length:Int):=by omega
    refine .inl ⟨q++ [x],by simp [hq],by simp,fun m=> ?_⟩;simp only [FX,Zz hi',jT,jI,yU hxi,hx x (Zs hxi),jS,Val.re_eq,y4 hi (by omega:v.list.length<=_),vk,vn,vs,vt,vl,vc,vr];rw [Zw (by omega),Zw (by simp only [jC,jN];unfold Lim;omega)]) N 0 [] rfl (by omega) (by omega)
 rw [Xw,jM,jM,Val.eta] at key;exact key
theorem xAp{K:Nat}(hK:K<=137438953472):∀v:Val,v.Fit K->Big2 fun N d=>EJ N d v=some v:=by
 refine Val.ind fun k n s t a c r ih h=> ?_;have h5:=(Val.fit_iff.1 h).2.2.2.2.1;refine Big2.succ ?_;exact((Big2.list fun x hx=>ih x hx (h5.2 x hx)).and (AT K).two).imp fun N d ⟨hx,hN⟩=>xM1 h hK hN hx
theorem xAq {K:Nat}{v:Val}(h:v.Fit K)(hK:K<=137438953472):Big fun N=>EH N v=some v:=(xAp hK v h).diag
theorem xIb{N K:Nat}{rc:Val->Option Val}{rd:List Val->Option (List Val)}{z:Val}{k n s:Int}{t:Str}{l:List Val}{c:List Str}{rs:List Rowd}(h:zO K (Rowd.Fit K) rs)(hK:K<=137438953472)(hN:K<N):
 DY N rc rd N rs rs.length 0 z (Val.mk k n s t l c [])=some (Val.mk k n s t l c rs):=by
 have hl:rs.length<=K:=h.1
 exact zN (L:=fun m i q=>DY N rc rd m rs rs.length i z (Val.mk k n s t l c q)) rs (fun r q=>Val.mk k n s t l c (q++r)) (fun i q=>q.length=i) (fun m q hq=>by simp [DY])
  (fun i x r q hd hi hx hq=>by
    have hq:q.length=i:=hq;have hi' :(i:Int)<(rs.length:Int):=by omega
    refine .inl ⟨q++ [x],by simp [hq],by simp,fun m=> ?_⟩;simp only [DY,Zz hi',jT,jI,yU hx,NT (h.2 x (Zs hx)) hK,jS,y4 hi (by omega:rs.length<=_),vk,vn,vs,vt,vl,vc,vr];rw [Zw (by omega),Zw (by simp only [jC,jN];unfold Lim;omega)]) N 0 [] rfl (by omega) (by omega)
theorem NS{N d:Nat}{a:List Val}(hl:a.length<=137438953472)(hn:a.length<N)(hx:∀x∈a,(AQ N d).c_impl_copyValue x=some x):(AQ N (d+1)).c_impl_copyValues a=some a:=by
 show Ha N (AQ N d).c_impl_copyValue (AQ N d).c_impl_copyValues a=_;unfold Ha
 exact zN (L:=fun m i q=>Eh N (AQ N d).c_impl_copyValue (AQ N d).c_impl_copyValues m q a a.length i) a (fun l q=>q++l) (fun i q=>q.length=i) (fun m q hq=>by simp [Eh])
  (fun i x l q hd hi hxi hq=>by
    have hq:q.length=i:=hq;have hi' :(i:Int)<(a.length:Int):=by omega
    refine .inl ⟨q++ [x],by simp [hq],by simp,fun m=> ?_⟩;simp only [Eh,Zz hi',jT,jI,yU hxi,hx x (Zs hxi),jS,Val.re_eq,y4 hi (by omega:a.length<=_)];rw [Zw (by omega),Zw (by simp only [jC,jN];unfold Lim;omega)]) N 0 [] rfl (by omega) (by omega)
theorem xId{N d K:Nat}{v:Val}(h:v.Fit K)(hK:K<=137438953472)(hN:K<N)(hx:(AQ N d).c_impl_copyValues v.list=some v.list):(AQ N (d+1)).c_impl_copyValue v=some v:=by
 obtain⟨h1,h2,h3,h4,h5,h6,h7⟩:=Val.fit_iff.1 h;have hc:v.columns.length<=K:=h6.1;show H7 N (AQ N d).c_impl_copyValue (AQ N d).c_impl_copyValues v=_;unfold H7;rw [hx,jS,Zw (by unfold Lim;omega),xIb h7 hK hN,jM,Val.eta]
theorem Jb{K:Nat}(hK:K<=137438953472):∀v:Val,v.Fit K->Big2 fun N d=>(AQ N d).c_impl_copyValue v=some v:=by
 refine Val.ind fun k n s t a c r ih h=> ?_;have h5:=(Val.fit_iff.1 h).2.2.2.2.1;have hl:a.length<=K:=h5.1;refine Big2.succ (Big2.succ ?_);exact((Big2.list fun x hx=>ih x hx (h5.2 x hx)).and (AT K).two).imp fun N d ⟨hx,hN⟩=>xId h hK hN (NS (a:=a) (by omega) (by omega) hx)
theorem xIc {K:Nat}{v:Val}(h:v.Fit K)(hK:K<=137438953472):Big fun N=>DX N v=some v:=(Jb hK v h).diag
theorem NR{K:Nat}{a:List Val}(h:zO K (Val.Fit K) a)(hK:K<=137438953472):Big fun N=>J9 N a=some a:=by
 have hl:a.length<=K:=h.1
 have key:Big2 fun N d=>(AQ N d).c_impl_copyValues a=some a:=
  Big2.succ (((Big2.list fun x hx=>Jb hK x (h.2 x hx)).and (AT K).two).imp fun N d ⟨hx,hN⟩=>NS (by omega) (by omega) hx)
 exact key.diag
theorem Im(v:Val):v.cnt=4+((v.list.map Val.cnt).sum+(v.columns.map Fm).sum+(v.rows.map BB).sum):=by
 cases v;simp only [Val.cnt,Val.cnts_eq,vl,vc,vr];omega
theorem yX{x:Int}(h1: -1000000<=x)(h2:x<=1000000):I64 x:=⟨by omega,by omega⟩
theorem A2{α:Type}{K:Nat}{p:α->Prop}:zO K p []:=⟨Z9 _,fun x hx=>by cases hx⟩
theorem HI{K:Nat}{a b c:Int}{t:Str}(h1:I64 a)(h2:I64 b)(h3:I64 c)(h4:t.length<=K):(Val.mk a b c t [] [] []).Fit K:=Val.fit_iff.2 ⟨h1,h2,h3,h4,A2,A2,A2⟩
end Go.Ab
end
section
namespace Go.Ab
theorem Val.fit_mono{K M:Nat}(h:K<=M){v:Val}(hv:v.Fit K):v.Fit M:=fun d hd=>(hv d hd).mono h
end Go.Ab
end
section
open Go.IntKind (i64)
namespace Go.Ab
def zY{α:Type}(p:Nat->α->Bool):List α->Nat->Bool
 | [],_=>true
 |x::r,i=>p i x&&zY p r (i+1)
theorem Bp{α:Type}{p:Nat->α->Bool}:∀ {l:List α} {i:Nat},zY p l i=true->∀(j:Nat) (x:α),l[j]? =some x->p (i+j) x=true
 | [],i,_,j,x,hj=>by simp at hj
 |y::r,i,h,j,x,hj=>by
  simp only [zY,Zv] at h;cases j with
  |zero=>simp at hj;subst hj;exact h.1
  |succ j=>
   have:=Bp h.2 j x (by simpa using hj);rw [show i+(j+1)=i+1+j from by omega];exact this
theorem BA{α:Type}{L:Nat->Int->Option Bool}{x0:List α}{p:Nat->α->Bool}{e:Option Bool}(hend:∀n,L (n+1) (x0.length:Nat)=e)
 (hcons:∀(i:Nat) x n,i<x0.length->x0[i]? =some x->x∈x0->L (n+1) (i:Nat)=bif p i x then L n ((i+1:Nat):Int) else some false) {n:Nat} (hn:x0.length<n):
 L n 0=bif zY p x0 0 then e else some false:=by
 have key:∀(m i:Nat),i<=x0.length->x0.length<m+i->L m (i:Nat)=bif zY p (x0.drop i) i then e else some false:=by
  intro m
  induction m with
  |zero=>intro i h1 h2;omega
  |succ m ih=>
   intro i h1 h2;cases hd:x0.drop i with
   |nil=>
    have:=BI hd;obtain rfl:i=x0.length:=by omega
    rw [hend];rfl
   |cons x l=>
    obtain⟨g1,g2,g3⟩:=Ak hd;rw [hcons i x m g1 g2 (Zs g2),ih (i+1) (by omega) (by omega),g3];simp only [zY];cases p i x <;>rfl
 exact key n 0 (by omega) (by omega)
def xA8(c:UInt8):Bool:= !(decide ((c.toNat:Int)<32))&&(!(decide ((c.toNat:Int)>126))&& !((c.toNat:Int)==34))
def Fe(s:Str):Bool:=zY (fun _=>xA8) s 0&&decide ((s.length:Int)<=20)
theorem B7{a b:Bool}:(bif a then some b else some false)=some (a&&b):=by cases a <;>rfl
theorem xAf{N:Nat}{s:Str}(hl:s.length<=9223372036854775807)(hn:s.length<N):K0 N s=some (Fe s):=by
 rw [Fe,<-B7]
 exact BA (L:=fun n i=>Cw N n s i) (fun n=>by simp [Cw]) (fun i x n hi hx hm=>by
  have hi' :(i:Int)<(s.length:Int):=by omega
  simp only [Cw,Zz hi',jT,jI,yU hx,y4 hi hl,xA8];rw [Zw (by omega)];cases decide ((x.toNat:Int)<32) <;>cases decide ((x.toNat:Int)>126) <;>cases ((x.toNat:Int)==34) <;>rfl) hn
theorem xG5(N n:Nat)(s:Str)(i:Int):Fw N n s i=Cw N n s i:=by
 induction n generalizing i with
 |zero=>rfl
 |succ n ih=>simp only [Fw,Cw,ih]
theorem xG6{N:Nat}{s:Str}(hl:s.length<=9223372036854775807)(hn:s.length<N):J3 N s=some (Fe s):=(xG5 N N s 0).trans (xAf hl hn)
def yT:List Str->Str->Nat->Int
 | [],_,_=> -1
 |x::r,s,i=>bif x==s then(i:Int) else yT r s (i+1)
theorem HR{N:Nat}{xs:List Str}{s:Str}(hl:xs.length<=9223372036854775807)(hn:xs.length<N):Fv N xs s=some (yT xs s 0):=
 zN (L:=fun n i _=>DP N n s xs xs.length i) xs (fun l q=>yT l s q) (fun i q=>q=i) (fun n q _=>by simp [DP,yT])
  (fun i x l q hd hi hx hq=>by
    have hi' :(i:Int)<(xs.length:Int):=by omega
    have hq:q=i:=hq;subst hq;cases h1:x==s
    ·refine .inl ⟨q+1,rfl,by simp only [yT,h1,jF],fun n=> ?_⟩;simp only [DP,Zz hi',jT,jI,yU hx,h1,jF,y4 hi hl];rw [Zw (by omega)]
    ·refine .inr fun n=> ?_;simp only [DP,Zz hi',jT,jI,yU hx,h1];rw [Zw (by omega)];simp only [yT,h1,jT]) N 0 0 rfl (by omega) (by omega)
theorem Mv{s:Str}:∀ {xs:List Str} {j i:Nat},xs[i]? =some s->(yT xs s j==((j+i:Nat):Int))= !(xs.take i).any (· ==s)
 | [],j,i,h=>by simp at h
 |x::r,j,0,h=>by
  simp at h;subst h;simp [yT]
 |x::r,j,i+1,h=>by
  have h' :r[i]? =some s:=by simpa using h
  have ih:=Mv (j:=j+1) h';simp only [yT,List.take_succ_cons,List.any_cons];cases hx:x==s
  ·simp only [jF,ZE];rw [<-ih,show j+(i+1)=j+1+i from by omega]
  ·simp only [jT,XZ,jU];simp;omega
def Ca(xs:List Str)(i:Nat)(x:Str):Bool:= !(xs.take i).any (· ==x)
def AP(xs:List Str):Bool:=zY (Ca xs) xs 0
theorem IC{N:Nat}{xs:List Str}(hl:xs.length<=9223372036854775807)(hn:xs.length<N):GW N xs=some (AP xs):=by
 have:=BA (L:=fun n i=>Dm N n xs i) (x0:=xs) (p:=Ca xs) (e:=some true) (fun n=>by simp [Dm]) (fun i x n hi hx hm=>by
  have hi' :(i:Int)<(xs.length:Int):=by omega
  simp only [Dm,Zz hi',jT,jI,yU hx,y4 hi hl,xAr (N:=N) (xs:=xs.take i) (by simp;omega) (by simp;omega),jS,Ca];rw [Zw (by omega),Zw (by omega)];cases (List.take i xs).any (· ==x) <;>rfl) hn
 show Dm N N xs 0=_;rw [this,B7,Y9];rfl
theorem JU{N:Nat}{xs:List Str}(hl:xs.length<=9223372036854775807)(hn:xs.length<N):E7 N xs=some (AP xs):=by
 have:=BA (L:=fun n i=>DN N n xs xs xs.length i) (x0:=xs) (p:=Ca xs) (e:=some true) (fun n=>by simp [DN]) (fun i x n hi hx hm=>by
  have hi' :(i:Int)<(xs.length:Int):=by omega
  have e:=Mv (j:=0) hx;rw [Zj] at e;simp only [DN,Zz hi',jT,jI,yU hx,y4 hi hl,HR (N:=N) (xs:=xs) hl hn,jS,bne,e,Ca];rw [Zw (by omega)];cases (List.take i xs).any (· ==x) <;>rfl) hn
 show DN N N xs xs xs.length 0=_;rw [this,B7,Y9];rfl
def AI(c:List Str):Bool:=zY (fun _=>Az) c 0&&((decide ((1:Int)<=c.length)&&decide ((c.length:Int)<=4))&&AP c)
theorem xAB{N K:Nat}{c:List Str}(h:zO K (Str.Fit K) c)(hK:24<=K/\K<=4611686018427387904)(hN:K<N):IY N c=some (AI c):=by
 have hl:c.length<=K:=h.1;rw [AI,<-B7]
 exact BA (L:=fun n i=>FW N n c i) (fun n=>by
  simp only [FW,Z5,Z6,jF,FR,jS,IC (N:=N) (xs:=c) (by omega) (by omega)];rw [<-B7]) (fun i x n hi hx hm=>by
  have hi' :(i:Int)<(c.length:Int):=by omega
  have hxl:x.length<=K:=h.2 x hm;simp only [FW,Zz hi',jT,jI,yU hx,y4 hi (by omega:c.length<=_),xAd (N:=N) (s:=x) (by omega) (by omega) (by omega),jS];rw [Zw (by omega)];cases Az x <;>rfl) (by omega)
theorem NP{N K:Nat}{c:List Str}(h:zO K (Str.Fit K) c)(hK:24<=K/\K<=4611686018427387904)(hN:K<N):GB N c=some (AI c):=by
 have hl:c.length<=K:=h.1;rw [AI,<-B7]
 exact BA (L:=fun n i=>Eg N n c c c.length i) (fun n=>by
  simp only [Eg,Z5,Z6,jF,D3,jS,JU (N:=N) (xs:=c) (by omega) (by omega)];rw [<-B7]) (fun i x n hi hx hm=>by
  have hi' :(i:Int)<(c.length:Int):=by omega
  have hxl:x.length<=K:=h.2 x hm;simp only [Eg,Zz hi',jT,jI,yU hx,y4 hi (by omega:c.length<=_),NE (N:=N) (s:=x) (by omega) (by omega),jS];rw [Zw (by omega)];cases Az x <;>rfl) (by omega)
def C8(a b:Org):Bool:=decide (a.cell<b.cell)||((a.cell==b.cell)&&decide (a.row<b.row))
theorem Ke(N:Nat)(a b:Org):EF N a b=some (C8 a b):=by
 unfold EF C8;cases decide (a.cell<b.cell) <;>cases (a.cell==b.cell) <;>rfl
theorem xIE(N:Nat)(a b:Org):Ek N a b=some (C8 a b):=Ke N a b
def DF(xs:List Org)(i:Nat)(x:Org):Bool:= !(decide (x.cell<0))&&(!(decide (x.row<0))&&(decide (i=0)||C8 (xs.getD (i - 1) Do) x))
def Ap(xs:List Org):Bool:=zY (DF xs) xs 0
theorem LN{xs:List Org}{i:Nat}{x:Org}{hi:i<xs.length}(hl:xs.length<=9223372036854775807){F:Option Bool}:
 (bif decide (x.cell<0) then some false else bif decide (x.row<0) then some false else bif decide ((i:Int)>0) then
   (if(0:Int)<=i64.wrap ((i:Int) - 1)/\i64.wrap ((i:Int) - 1)<(xs.length:Int) then(bif !(C8 (xs.getD (Int.toNat (i64.wrap ((i:Int) - 1))) Do) x) then some false else F) else none) else F)=
 bif DF xs i x then F else some false:=by
 unfold DF;cases decide (x.cell<0)
 ·cases decide (x.row<0)
  ·by_cases h0:i=0
   ·subst h0;rfl
   ·rw [xPA h0 hi hl,jI,Zz (show(i:Int)>0 by omega),Zy h0];simp only [jT,jF,jV,ZN,ZE];rw [Zw (by omega)];cases C8 (xs.getD (i - 1) Do) x <;>rfl
  ·rfl
 ·rfl
theorem xNL{N:Nat}{xs:List Org}(hl:xs.length<=9223372036854775807)(hn:xs.length<N):Kd N xs=some (Ap xs):=by
 have:=BA (L:=fun n i=>Cz N n xs i) (x0:=xs) (p:=DF xs) (e:=some true) (fun n=>by simp [Cz]) (fun i x n hi hx hm=>by
  have hi' :(i:Int)<(xs.length:Int):=by omega
  rw [<-LN (hi:=hi) hl];simp only [Cz,Zz hi',jT,jI,yU hx,y4 hi hl,Ke,jS];rw [Zw (by omega)]) hn
 show Cz N N xs 0=_;rw [this,B7,Y9];rfl
def Bh(n:Nat)(_:Nat)(r:Rowd):Bool:=(r.cells.length==n)&&(zY (fun _=>zB) r.cells 0&&Ap r.frm)
def zS(c:List Str)(rs:List Rowd):Bool:=AI c&&(decide (rs.length<=12)&&zY (Bh c.length) rs 0)
theorem Nq(a b:Nat):(((a:Nat):Int) != ((b:Nat):Int))= !(a==b):=by
 by_cases h:a=b
 ·subst h;simp
 ·have:¬((a:Int)=(b:Int)):=by omega
  rw [bne,show((a:Int)==(b:Int))=false from ZV.2 this,show(a==b)=false from ZV.2 h]
theorem xOh{N:Nat}{k4:Int->Val->Option Bool}{x3:Int}{v:Val}{r:Rowd}(hl:r.cells.length<=9223372036854775807)(hn:r.cells.length<N):
 EL N k4 N x3 0 v r=bif zY (fun _=>zB) r.cells 0 then k4 (i64.wrap (x3+1)) v else some false:=
 BA (L:=fun n i=>EL N k4 n x3 i v r) (fun n=>by simp [EL]) (fun i x n hi hx hm=>by
  have hi' :(i:Int)<(r.cells.length:Int):=by omega
  simp only [EL,Zz hi',jT,jI,yU hx,y4 hi hl,CX,jS];rw [Zw (by omega)];cases zB x <;>rfl) hn
theorem xOi{N K:Nat}{v:Val}(h:v.Fit K)(hK:24<=K/\K<=4611686018427387904)(hN:K<N):I9 N v=some (zS v.columns v.rows):=by
 obtain⟨_,_,_,_,_,h6,h7⟩:=Val.fit_iff.1 h;have hl:v.rows.length<=K:=h7.1;unfold I9;rw [xAB h6 hK hN,jS,zS];cases hc:AI v.columns
 ·rfl
 ·by_cases hr:v.rows.length<=12
  ·rw [Zy (by omega),Zz hr];simp only [jU,jF,ZN]
   have:=BA (L:=fun n i=>EM N n i v) (x0:=v.rows) (p:=Bh v.columns.length) (e:=some true) (n:=N) (fun n=>by simp [EM]) (fun i x n hi hx hm=>by
    have hi' :(i:Int)<(v.rows.length:Int):=by omega
    obtain⟨⟨g1,_⟩,⟨g2,_⟩⟩:=h7.2 x hm;simp only [EM,Zz hi',jT,jI,yU hx,Nq,xNL (N:=N) (xs:=x.frm) (by omega) (by omega),jS,xOh (N:=N) (r:=x) (by omega) (by omega),y4 hi (by omega:v.rows.length<=_),Bh];rw [Zw (by omega)];cases (x.cells.length==v.columns.length) <;>cases Ap x.frm <;>cases zY (fun _=>zB) x.cells 0 <;>rfl) (by omega)
   have this:EM N N 0 v=_:=this;rw [this,B7,Y9]
  ·rw [Zz (by omega),Zy hr];rfl
theorem xIk{N:Nat}{k4:List Rowd->Int->Int->Val->Option Bool}{x20:List Rowd}{x21 x22:Int}{v:Val}{r:Rowd}(hl:r.frm.length<=9223372036854775807)(hn:r.frm.length<N):
 Ch N k4 N x20 x21 x22 r.frm r.frm.length 0 v r=bif Ap r.frm then k4 x20 x21 (i64.wrap (x22+1)) v else some false:=
 BA (L:=fun n i=>Ch N k4 n x20 x21 x22 r.frm r.frm.length i v r) (fun n=>by simp [Ch]) (fun i x n hi hx hm=>by
  have hi' :(i:Int)<(r.frm.length:Int):=by omega
  rw [<-LN (hi:=hi) hl];simp only [Ch,Zz hi',jT,jI,yU hx,y4 hi hl,xIE,jS];rw [Zw (by omega)]) hn
theorem xIl{N:Nat}{k4:List Rowd->Int->Int->Val->Option Bool}{x20:List Rowd}{x21 x22:Int}{v:Val}{r:Rowd}(hl:r.cells.length<=9223372036854775807)(hn:r.cells.length<N)(hl2:r.frm.length<=9223372036854775807)(hn2:r.frm.length<N):
 D2 N k4 N x20 x21 x22 r.cells r.cells.length 0 v r=bif zY (fun _=>zB) r.cells 0 then(bif Ap r.frm then k4 x20 x21 (i64.wrap (x22+1)) v else some false) else some false:=
 BA (L:=fun n i=>D2 N k4 n x20 x21 x22 r.cells r.cells.length i v r) (fun n=>by simp only [D2,Z5,Z6,jF];exact xIk hl2 hn2) (fun i x n hi hx hm=>by
  have hi' :(i:Int)<(r.cells.length:Int):=by omega
  simp only [D2,Zz hi',jT,jI,yU hx,y4 hi hl,DZ,jS];rw [Zw (by omega)];cases zB x <;>rfl) hn
theorem xIm{N K:Nat}{v:Val}(h:v.Fit K)(hK:24<=K/\K<=4611686018427387904)(hN:K<N):GC N v=some (zS v.columns v.rows):=by
 obtain⟨_,_,_,_,_,h6,h7⟩:=Val.fit_iff.1 h;have hl:v.rows.length<=K:=h7.1;unfold GC;rw [NP h6 hK hN,jS,zS];cases hc:AI v.columns
 ·rfl
 ·by_cases hr:v.rows.length<=12
  ·rw [Zy (by omega),Zz hr];simp only [jU,jF,ZN]
   have:=BA (L:=fun n i=>D1 N n v.rows v.rows.length i v) (x0:=v.rows) (p:=Bh v.columns.length) (e:=some true) (n:=N) (fun n=>by simp [D1]) (fun i x n hi hx hm=>by
    have hi' :(i:Int)<(v.rows.length:Int):=by omega
    obtain⟨⟨g1,_⟩,⟨g2,_⟩⟩:=h7.2 x hm;simp only [D1,Zz hi',jT,jI,yU hx,Nq,xIl (N:=N) (r:=x) (by omega) (by omega) (by omega) (by omega),y4 hi (by omega:v.rows.length<=_),Bh];rw [Zw (by omega)];cases (x.cells.length==v.columns.length) <;>cases Ap x.frm <;>cases zY (fun _=>zB) x.cells 0 <;>rfl) (by omega)
   have this:D1 N N v.rows v.rows.length 0 v=_:=this;rw [this,B7,Y9]
  ·rw [Zz (by omega),Zy hr];rfl
end Go.Ab
end
section
namespace Go.Ab
mutual
def Val.dep:Val->Int
 | .mk _ _ _ _ l _ _=>Val.deps l 0+1
def Val.deps:List Val->Int->Int
 | [],m=>m
 |x::r,m=>Val.deps r (if x.dep>m then x.dep else m)
end
def zP:List Val->Int->Int
 | [],m=>m
 |x::r,m=>zP r (if x.dep>m then x.dep else m)
theorem JK:∀(l:List Val) (m:Int),Val.deps l m=zP l m
 | [],m=>rfl
 |x::r,m=>by rw [Val.deps,JK r];rfl
theorem C9(v:Val):v.dep=zP v.list 0+1:=by cases v;simp only [Val.dep,JK,vl]
theorem EX:∀ {l:List Val} {m:Int},m<=zP l m/\∀x∈l,x.dep<=zP l m
 | [],m=>⟨XT m,fun x hx=>by cases hx⟩
 |x::r,m=>by
  obtain⟨h1,h2⟩:=EX (l:=r) (m:=if x.dep>m then x.dep else m);show m<=zP r (if x.dep>m then x.dep else m)/\∀y∈x::r,y.dep<=zP r (if x.dep>m then x.dep else m);have h3:m<=(if x.dep>m then x.dep else m)/\x.dep<=(if x.dep>m then x.dep else m):=by split <;>omega
  refine⟨Int.le_trans h3.1 h1,fun y hy=> ?_⟩;rcases Zo.1 hy with rfl|hy
  ·exact Int.le_trans h3.2 h1
  ·exact h2 y hy
theorem Gy{B:Int}:∀ {l:List Val} {m:Int},m<=B->(∀x∈l,x.dep<=B)->zP l m<=B
 | [],m,h,_=>h
 |x::r,m,h,hx=>by
  show zP r (if x.dep>m then x.dep else m)<=B;refine Gy ?_ fun y hy=>hx y (Zq _ hy);have:=hx x Zp;split <;>omega
theorem xGQ{N d:Nat}{v:Val}(hn:v.list.length<N)(hl:v.list.length<=9223372036854775807)(hB:v.dep<=1000000000)(hx:∀x∈v.list,DO N d x=some x.dep):DO N (d+1) v=some v.dep:=by
 have hd:=C9 v;have h0:=(EX (l:=v.list) (m:=0)).1;rw [hd]
 exact zN (L:=fun m i q=>Ea N (DO N d) m q v.list v.list.length i) v.list (fun l q=>zP l q+1) (fun i q=>zP (v.list.drop i) q=zP v.list 0)
  (fun m q hq=>by
    have hq:zP (v.list.drop v.list.length) q=zP v.list 0:=hq;rw [Yh] at hq;have hq:q=zP v.list 0:=hq;simp only [Ea,Z5,Z6,jF];rw [zX (by omega) (by omega)];rfl)
  (fun i x l q hd' hi hxi hq=>by
    have hi' :(i:Int)<(v.list.length:Int):=by omega
    have hq:zP (v.list.drop i) q=zP v.list 0:=hq;refine .inl ⟨if x.dep>q then x.dep else q,?_,rfl,fun m=> ?_⟩
    ·show zP (v.list.drop (i+1)) _=_;rw [hd'] at hq;rw [(Ak hd').2.2,<-hq];rfl
    ·simp only [Ea,Zz hi',jT,jI,yU hxi,hx x (Zs hxi),jS,y4 hi hl];rw [Zw (by omega)]) N 0 0 rfl (by omega) (by omega)
theorem xL3{N d:Nat}{v:Val}(hn:v.list.length<N)(hl:v.list.length<=9223372036854775807)(hB:v.dep<=1000000000)(hx:∀x∈v.list,Dq N d x=some x.dep):Dq N (d+1) v=some v.dep:=by
 have hd:=C9 v;have h0:=(EX (l:=v.list) (m:=0)).1;rw [hd]
 exact zN (L:=fun m i q=>FN N (Dq N d) m q i v) v.list (fun l q=>zP l q+1) (fun i q=>zP (v.list.drop i) q=zP v.list 0)
  (fun m q hq=>by
    have hq:zP (v.list.drop v.list.length) q=zP v.list 0:=hq;rw [Yh] at hq;have hq:q=zP v.list 0:=hq;simp only [FN,Z5,Z6,jF];rw [zX (by omega) (by omega)];rfl)
  (fun i x l q hd' hi hxi hq=>by
    have hi' :(i:Int)<(v.list.length:Int):=by omega
    have hq:zP (v.list.drop i) q=zP v.list 0:=hq;have hm:IU N q x.dep=some (if x.dep>q then x.dep else q):=by
     unfold IU;by_cases h:q>x.dep
     ·rw [Zz h,Zf (by omega)];rfl
     ·rw [Zy h];by_cases h' :x.dep>q
      ·rw [Zw h'];rfl
      ·rw [Zf h',show x.dep=q by omega];rfl
    refine .inl ⟨if x.dep>q then x.dep else q,?_,rfl,fun m=> ?_⟩
    ·show zP (v.list.drop (i+1)) _=_;rw [hd'] at hq;rw [(Ak hd').2.2,<-hq];rfl
    ·simp only [FN,Zz hi',jT,jI,yU hxi,hx x (Zs hxi),jS,hm,y4 hi hl];rw [Zw (by omega)]) N 0 0 rfl (by omega) (by omega)
theorem xEv{K:Nat}(hK:K<=4611686018427387904):∀v:Val,v.Fit K->v.dep<=1000000000->Big2 fun N d=>DO N d v=some v.dep/\Dq N d v=some v.dep:=by
 refine Val.ind fun k n s t a c r ih h hB=> ?_;have h5:=(Val.fit_iff.1 h).2.2.2.2.1;have hl:a.length<=K:=h5.1;refine Big2.succ ?_;have hx:∀x∈a,x.dep<=1000000000:=fun x hx=>by
  have:=(EX (l:=a) (m:=0)).2 x hx;have h2:=C9 (.mk k n s t a c r);rw [vl] at h2;omega
 refine((Big2.list fun x hxm=>ih x hxm (h5.2 x hxm) (hx x hxm)).and (AT K).two).imp fun N d ⟨hx,hN⟩=>⟨?_,?_⟩
 ·exact xGQ (v:= .mk k n s t a c r) (by show a.length<N;omega) (by show a.length<=_;omega) hB fun x hxm=>(hx x hxm).1
 ·exact xL3 (v:= .mk k n s t a c r) (by show a.length<N;omega) (by show a.length<=_;omega) hB fun x hxm=>(hx x hxm).2
def B8(v:Val):Bool:=(v.kind==1)||((v.kind==2)||(v.kind==3))
def emp{α:Type}(l:List α):Bool:=decide (l.length=0)
mutual
def yW:Val->Bool
 | .mk k n s t l c r=>
   bif k==1 then emp l&&(emp c&&(emp r&&((s==0)&&((t== [])&&zB n))))
   else bif k==2 then emp l&&(emp c&&(emp r&&((n==0)&&((s==0)&&Fe t))))
   else bif k==4 then emp l&&(emp c&&(emp r&&((t== [])&&(zB n&&zB s))))
   else bif k==6 then emp l&&(emp c&&(emp r&&((s==0)&&((t== [])&&(decide (1<=n)&&decide (n<=8))))))
   else bif k==5 then emp l&&((n==0)&&((s==0)&&((t== [])&&zS c r)))
   else bif k==3 then C4 l&&((n==0)&&((s==0)&&((t== [])&&(emp c&&(emp r&&(decide (l.length<=8)&&decide (Val.deps l 0+1<=3)))))))
   else false
def C4:List Val->Bool
 | []=>true
 |x::r=>(B8 x&&yW x)&&C4 r
end
theorem ES:∀l:List Val,C4 l=l.all fun x=>B8 x&&yW x
 | []=>rfl
 |x::r=>by simp only [C4,List.all_cons,ES r]
theorem Iv{α:Type}{f:α->Bool}:∀(l:List α) (i:Nat),zY (fun _=>f) l i=l.all f
 | [],_=>rfl
 |x::r,i=>by simp only [zY,List.all_cons,Iv r (i+1)]
theorem xPm:∀v:Val,yW v=true->v.dep<=3:=by
 intro v;cases v with
 |mk k n s t l c r=>
  intro h;rw [C9,vl];have hnil:emp l=true->zP l 0+1<=3:=fun h=>by
   have h:l.length=0:=of_decide_eq_true h;rw [Z0.1 h];show(0:Int)+1<=3;omega
  simp only [yW] at h;cases h1:(k==1)
  ·cases h2:(k==2)
   ·cases h3:(k==4)
    ·cases h4:(k==6)
     ·cases h5:(k==5)
      ·cases h6:(k==3)
       ·rw [h1,h2,h3,h4,h5,h6] at h;cases h
       ·rw [h1,h2,h3,h4,h5,h6] at h;simp only [jT,jF,Zv,Z1,JK] at h;exact h.2.2.2.2.2.2.2
      ·rw [h1,h2,h3,h4,h5] at h;simp only [jT,jF,Zv] at h;exact hnil h.1
     ·rw [h1,h2,h3,h4] at h;simp only [jT,jF,Zv] at h;exact hnil h.1
    ·rw [h1,h2,h3] at h;simp only [jT,jF,Zv] at h;exact hnil h.1
   ·rw [h1,h2] at h;simp only [jT,jF,Zv] at h;exact hnil h.1
  ·rw [h1] at h;simp only [jT,jF,Zv] at h;exact hnil h.1
theorem Jt{α:Type}(l:List α):(((l.length:Nat):Int)==0)=emp l:=by
 unfold emp;by_cases h:l.length=0
 ·rw [h];rfl
 ·rw [Zy h];exact ZV.2 (by omega)
theorem xJT{α:Type}(l:List α):decide (((l.length:Nat):Int)>0)= !emp l:=by
 unfold emp;by_cases h:l.length=0
 ·rw [h];rfl
 ·rw [Zy h,Zz (by omega)];rfl
theorem xJU{α β:Type}{l:List α}{r:List β}(h1:l.length<=4611686018427387903)(h2:r.length<=4611686018427387903):decide (IntKind.i64.wrap (((l.length:Nat):Int)+((r.length:Nat):Int))>0)= !(emp l&&emp r):=by
 unfold emp;rw [zX (by omega) (by omega)];by_cases h:l.length=0 <;>by_cases h' :r.length=0
 ·rw [Zy (by omega),Zz h,Zz h'];rfl
 ·rw [Zz (by omega),Zz h,Zy h'];rfl
 ·rw [Zz (by omega),Zy h];rfl
 ·rw [Zz (by omega),Zy h];rfl
theorem xIN{N d:Nat}{v:Val}(hl:v.list.length<=9223372036854775807)(hn:v.list.length<N)(hd:(∀x∈v.list,yW x=true)->Fu N v=some v.dep)(hx:∀x∈v.list,BM N d x=some (yW x)):
 BL N (BM N d) N v.list v.list.length 0 v=some (C4 v.list&&((v.n==0)&&((v.step==0)&&((v.text== [])&&(emp v.columns&&(emp v.rows&&(decide (v.list.length<=8)&&decide (v.dep<=3)))))))):=by
 have h:=BA (L:=fun n i=>BL N (BM N d) n v.list v.list.length i v) (x0:=v.list) (p:=fun _ x=>B8 x&&yW x) (fun n=>by simp only [BL,Z5,Z6,jF];rfl) (fun i x n hi hxi hm=>by
  have hi' :(i:Int)<(v.list.length:Int):=by omega
  simp only [BL,Zz hi',jT,jI,yU hxi,y4 hi hl,hx x hm,jS,B8,bne];rw [Zw (by omega)];cases (x.kind==1) <;>cases (x.kind==2) <;>cases (x.kind==3) <;>cases yW x <;>rfl) hn
 have h:BL N (BM N d) N v.list v.list.length 0 v=_:=h;rw [h,Iv,ES];cases hv:v.list.all fun x=>B8 x&&yW x
 ·rfl
 ·rw [jT,Jt,Jt,show decide (((v.list.length:Nat):Int)<=8)=decide (v.list.length<=8) from by
   by_cases h:v.list.length<=8
   ·rw [Zz h,Zz (by omega)]
   ·rw [Zy h,Zy (by omega)]]
  rw [hd fun x hx=>by have:=Zu.1 hv x hx;rw [Zv] at this;exact this.2];simp only [jS,ZN];cases (v.n==0) <;>cases (v.step==0) <;>cases (v.text== []) <;>cases emp v.columns <;>cases emp v.rows <;>cases decide (v.list.length<=8) <;>rfl
theorem xOR{N d:Nat}{v:Val}(hl:v.list.length<=9223372036854775807)(hn:v.list.length<N)(hd:(∀x∈v.list,yW x=true)->IE N v=some v.dep)(hx:∀x∈v.list,(AN N d).c_spec_IsValidValue x=some (yW x)):
 (AN N (d+1)).c_spec_l3List v=some (C4 v.list&&(decide (v.list.length<=8)&&decide (v.dep<=3))):=by
 show DA N (AN N d).c_spec_IsValidValue (AN N d).c_spec_l3List N 0 v=_
 have h:=BA (L:=fun n i=>DA N (AN N d).c_spec_IsValidValue (AN N d).c_spec_l3List n i v) (x0:=v.list) (p:=fun _ x=>B8 x&&yW x) (fun n=>by simp only [DA,Z5,Z6,jF];rfl) (fun i x n hi hxi hm=>by
  have hi' :(i:Int)<(v.list.length:Int):=by omega
  simp only [DA,Ki,Zz hi',jT,jI,yU hxi,y4 hi hl,hx x hm,jS,B8];rw [Zw (by omega)];cases (x.kind==1) <;>cases (x.kind==2) <;>cases (x.kind==3) <;>cases yW x <;>rfl) hn
 have h:DA N (AN N d).c_spec_IsValidValue (AN N d).c_spec_l3List N 0 v=_:=h;rw [h,Iv,ES];cases hv:v.list.all fun x=>B8 x&&yW x
 ·rfl
 ·rw [jT,show decide (((v.list.length:Nat):Int)<=8)=decide (v.list.length<=8) from by
   by_cases h:v.list.length<=8
   ·rw [Zz h,Zz (by omega)]
   ·rw [Zy h,Zy (by omega)]]
  rw [hd fun x hx=>by have:=Zu.1 hv x hx;rw [Zv] at this;exact this.2];simp only [jS,ZN];cases decide (v.list.length<=8) <;>rfl
theorem AH(v:Val):yW v=
 bif v.kind==1 then emp v.list&&(emp v.columns&&(emp v.rows&&((v.step==0)&&((v.text== [])&&zB v.n))))
 else bif v.kind==2 then emp v.list&&(emp v.columns&&(emp v.rows&&((v.n==0)&&((v.step==0)&&Fe v.text))))
 else bif v.kind==4 then emp v.list&&(emp v.columns&&(emp v.rows&&((v.text== [])&&(zB v.n&&zB v.step))))
 else bif v.kind==6 then emp v.list&&(emp v.columns&&(emp v.rows&&((v.step==0)&&((v.text== [])&&(decide (1<=v.n)&&decide (v.n<=8))))))
 else bif v.kind==5 then emp v.list&&((v.n==0)&&((v.step==0)&&((v.text== [])&&zS v.columns v.rows)))
 else bif v.kind==3 then C4 v.list&&((v.n==0)&&((v.step==0)&&((v.text== [])&&(emp v.columns&&(emp v.rows&&(decide (v.list.length<=8)&&decide (v.dep<=3)))))))
 else false:=by
 cases v;simp only [yW,vk,vn,vs,vt,vl,vc,vr,Val.dep]
 rfl
theorem xPo{v:Val}(h:∀x∈v.list,yW x=true):v.dep<=1000000000:=by
 rw [C9];have:=Gy (B:=3) (l:=v.list) (m:=0) (by omega) fun x hx=>xPm x (h x hx);omega
theorem N0(k:Int):(k==1)=true/\(k==2)=false/\(k==3)=false/\(k==4)=false/\(k==5)=false/\(k==6)=false\/
 (k==1)=false/\(k==2)=true/\(k==3)=false/\(k==4)=false/\(k==5)=false/\(k==6)=false\/
 (k==1)=false/\(k==2)=false/\(k==3)=true/\(k==4)=false/\(k==5)=false/\(k==6)=false\/
 (k==1)=false/\(k==2)=false/\(k==3)=false/\(k==4)=true/\(k==5)=false/\(k==6)=false\/
 (k==1)=false/\(k==2)=false/\(k==3)=false/\(k==4)=false/\(k==5)=true/\(k==6)=false\/
 (k==1)=false/\(k==2)=false/\(k==3)=false/\(k==4)=false/\(k==5)=false/\(k==6)=true\/
 (k==1)=false/\(k==2)=false/\(k==3)=false/\(k==4)=false/\(k==5)=false/\(k==6)=false:=by
 simp only [beq_iff_eq,ZV,ne_eq];omega
theorem xHV{N d K:Nat}{v:Val}(h:v.Fit K)(hK:24<=K/\K<=4611686018427387903)(hN:K<N)(hd:(∀x∈v.list,yW x=true)->Fu N v=some v.dep)(hx:∀x∈v.list,BM N d x=some (yW x)):
 BM N (d+1) v=some (yW v):=by
 obtain⟨h1,h2,h3,h4,h5,h6,h7⟩:=Val.fit_iff.1 h;have hl:v.list.length<=K:=h5.1;have ht:v.text.length<=K:=h4;have hb:=xIN (d:=d) (by omega:v.list.length<=9223372036854775807) (by omega) hd hx;show HT N (BM N d) v=_;rw [AH];simp only [HT,Jt,DZ,D3,xG6 (N:=N) (s:=v.text) (by omega) (by omega),xIm h (by omega) hN,hb,jS]
 rcases N0 v.kind with ⟨a1,a2,a3,a4,a5,a6⟩|⟨a1,a2,a3,a4,a5,a6⟩|⟨a1,a2,a3,a4,a5,a6⟩|⟨a1,a2,a3,a4,a5,a6⟩|⟨a1,a2,a3,a4,a5,a6⟩|⟨a1,a2,a3,a4,a5,a6⟩|⟨a1,a2,a3,a4,a5,a6⟩ <;>
  simp only [a1,a2,a3,a4,a5,a6,jT,jF]
 ·cases emp v.list <;>cases emp v.columns <;>cases emp v.rows <;>cases (v.step==0) <;>cases (v.text== []) <;>rfl
 ·cases emp v.list <;>cases emp v.columns <;>cases emp v.rows <;>cases (v.n==0) <;>cases (v.step==0) <;>rfl
 ·cases emp v.list <;>cases emp v.columns <;>rfl
 ·cases emp v.list <;>cases emp v.columns <;>cases emp v.rows <;>cases (v.text== []) <;>cases zB v.n <;>rfl
 ·cases emp v.list <;>cases emp v.columns <;>cases (v.n==0) <;>cases (v.step==0) <;>cases (v.text== []) <;>rfl
 ·cases emp v.list <;>cases emp v.columns <;>cases emp v.rows <;>cases (v.step==0) <;>cases (v.text== []) <;>rfl
 ·cases emp v.list <;>cases emp v.columns <;>rfl
theorem xMU{N d K:Nat}{v:Val}(h:v.Fit K)(hK:24<=K/\K<=4611686018427387903)(hN:K<N)(hb:(AN N d).c_spec_l3List v=some (C4 v.list&&(decide (v.list.length<=8)&&decide (v.dep<=3)))):
 (AN N (d+1)).c_spec_IsValidValue v=some (yW v):=by
 obtain⟨h1,h2,h3,h4,h5,h6,h7⟩:=Val.fit_iff.1 h;have hc:v.columns.length<=K:=h6.1;have hr:v.rows.length<=K:=h7.1;have ht:v.text.length<=K:=h4;show II N (AN N d).c_spec_IsValidValue (AN N d).c_spec_l3List v=_;rw [AH];simp only [II,xJT,xJU (l:=v.columns) (r:=v.rows) (by omega) (by omega),CX,FR,xAf (N:=N) (s:=v.text) (by omega) (by omega),xOi h (by omega) hN,hb,jS,bne]
 rcases N0 v.kind with ⟨a1,a2,a3,a4,a5,a6⟩|⟨a1,a2,a3,a4,a5,a6⟩|⟨a1,a2,a3,a4,a5,a6⟩|⟨a1,a2,a3,a4,a5,a6⟩|⟨a1,a2,a3,a4,a5,a6⟩|⟨a1,a2,a3,a4,a5,a6⟩|⟨a1,a2,a3,a4,a5,a6⟩ <;>
  simp only [a1,a2,a3,a4,a5,a6,jT,jF,jU,jV]
 ·cases emp v.list <;>cases emp v.columns <;>cases emp v.rows <;>cases (v.step==0) <;>cases (v.text== []) <;>rfl
 ·cases emp v.list <;>cases emp v.columns <;>cases emp v.rows <;>cases (v.n==0) <;>cases (v.step==0) <;>rfl
 ·cases emp v.columns <;>cases emp v.rows <;>cases (v.n==0) <;>cases (v.step==0) <;>cases (v.text== []) <;>cases C4 v.list <;>rfl
 ·cases emp v.list <;>cases emp v.columns <;>cases emp v.rows <;>cases (v.text== []) <;>cases zB v.n <;>rfl
 ·cases emp v.list <;>cases (v.n==0) <;>cases (v.step==0) <;>cases (v.text== []) <;>rfl
 ·cases emp v.list <;>cases emp v.columns <;>cases emp v.rows <;>cases (v.step==0) <;>cases (v.text== []) <;>rfl
 ·cases emp v.list <;>cases emp v.columns <;>cases emp v.rows <;>cases (v.step==0) <;>cases (v.text== []) <;>rfl
theorem xEw{K:Nat}(hK:K<=4611686018427387904){v:Val}(h:v.Fit K):Big fun N=>(∀x∈v.list,yW x=true)->Fu N v=some v.dep/\IE N v=some v.dep:=by
 by_cases hv:∀x∈v.list,yW x=true
 ·exact(xEv hK v h (xPo hv)).diag.imp fun N h _=>h
 ·exact .of fun N h=>absurd h hv
theorem Big2.up{p:Nat->Nat->Prop}(h:Big2 p):Big2 fun N d=>p N (d+1):=h.elim fun k hk=>⟨k,fun N d h1 h2=>hk N (d+1) h1 (by omega)⟩
theorem xPn{K:Nat}(hK:24<=K/\K<=4611686018427387903):∀v:Val,v.Fit K->Big2 fun N d=>BM N d v=some (yW v)/\(AN N d).c_spec_IsValidValue v=some (yW v):=by
 refine Val.ind fun k n s t a c r ih h=> ?_;have h5:=(Val.fit_iff.1 h).2.2.2.2.1;have hl:a.length<=K:=h5.1;have hb:Big2 fun N d=>∀x∈a,BM N d x=some (yW x)/\(AN N d).c_spec_IsValidValue x=some (yW x):=Big2.list fun x hx=>ih x hx (h5.2 x hx);refine Big2.succ (Big2.succ ?_);refine(hb.and (hb.up.and ((xEw (by omega) h).and (AT K)).two)).imp fun N d ⟨hx,hy,hd,hN⟩=>⟨?_,?_⟩
 ·exact xHV h hK hN (fun hv=>(hd hv).1) fun x hxm=>(hy x hxm).1
 ·exact xMU h hK hN (xOR (v:= .mk k n s t a c r) (by show a.length<=_;omega) (by show a.length<_;omega) (fun hv=>(hd hv).2) fun x hxm=>(hx x hxm).2)
theorem xBc{K:Nat}(hK:24<=K/\K<=4611686018427387903){v:Val}(h:v.Fit K):Big fun N=>J4 N v=some (yW v)/\GY N v=some (yW v):=(xPn hK v h).diag
end Go.Ab
end
section
open Go.IntKind (i64)
namespace Go.Ab
def y6(c:Int):Val:= .mk 6 c 0 [] [] [] []
def y5(c:Int):Val:= .mk 1 c 0 [] [] [] []
def At:Val:= .mk 0 0 0 [] [] [] []
def opG:List Val->Val×Bool×Bool
 | []=>(At,false,false)
 |v::r=>bif !yW v then(y6 4,true,false) else bif v.kind==6 then(v,true,true) else opG r
theorem Fo{α:Type}{l:List α}(h:emp l=true):l=[]:=Z0.1 (of_decide_eq_true h)
theorem Lj{v:Val}(h:yW v=true)(hk:(v.kind==6)=true):v=y6 v.n:=by
 rw [AH] at h;have hk' :=eq_of_beq hk;rw [hk'] at h;simp only [show((6:Int)==1)=false from rfl,show((6:Int)==2)=false from rfl,show((6:Int)==4)=false from rfl,show((6:Int)==6)=true from rfl,jT,jF,Zv] at h;obtain⟨h1,h2,h3,h4,h5,_⟩:=h;have e:=Val.eta v;rw [Fo h1,Fo h2,Fo h3,eq_of_beq h4,eq_of_beq h5,hk'] at e;exact e.symm
theorem GL:∀ {l:List Val},(opG l).1.list=[]/\(opG l).1.columns=[]/\(opG l).1.rows=[]/\(opG l).1.text=[]/\(opG l).1.step=0
 | []=>⟨rfl,rfl,rfl,rfl,rfl⟩
 |v::r=>by
  simp only [opG];cases hv:yW v
  ·exact⟨rfl,rfl,rfl,rfl,rfl⟩
  ·cases hk:(v.kind==6)
   ·exact GL (l:=r)
   ·simp only [jU,jF,jT];rw [Lj hv hk];exact⟨rfl,rfl,rfl,rfl,rfl⟩
theorem OI{K:Nat}:∀ {l:List Val},(∀x∈l,x.Fit K)->I64 (opG l).1.kind/\I64 (opG l).1.n
 | [],_=>⟨yX (by show(-1000000:Int)<=0;omega) (by show(0:Int)<=1000000;omega),yX (by show(-1000000:Int)<=0;omega) (by show(0:Int)<=1000000;omega)⟩
 |v::r,h=>by
  simp only [opG];cases hv:yW v
  ·exact⟨yX (by show(-1000000:Int)<=6;omega) (by show(6:Int)<=1000000;omega),yX (by show(-1000000:Int)<=4;omega) (by show(4:Int)<=1000000;omega)⟩
  ·cases hk:(v.kind==6)
   ·exact OI fun x hx=>h x (Zq _ hx)
   ·have:=Val.fit_iff.1 (h v Zp);exact⟨this.1,this.2.1⟩
theorem Aq{v:Val}(h1:v.list=[])(h2:v.columns=[])(h3:v.rows=[]):Val.mk v.kind v.n v.step v.text [] [] []=v:=by
 have e:=Val.eta v;rw [h1,h2,h3] at e;exact e
theorem Hj{K:Nat}(hK:24<=K/\K<=4611686018427387903){l:List Val}(h:∀x∈l,x.Fit K)(hl:l.length<=K):Big fun N=>Ej N l=some (opG l)/\Fa N l=some ((opG l).1,(opG l).2.1):=by
 refine((Big.list fun x hx=>xBc hK (h x hx)).and (AT K)).imp fun N ⟨hv,hN⟩=>⟨?_,?_⟩
 ·exact zN (σ:=Unit) (L:=fun m i _=>Ci N m l l.length i (Val.mk 0 0 0 [] [] [] [])) l (fun r _=>opG r) (fun _ _=>True) (fun m _ _=>by simp only [Ci,Z5,Z6,jF];rfl)
   (fun i x r _ hd hi hx _=>by
     have hi' :(i:Int)<(l.length:Int):=by omega
     have hm:=Zs hx;cases h1:yW x
     ·refine .inr fun m=> ?_;simp only [Ci,Zz hi',jT,jI,yU hx,(hv x hm).1,h1,jS,jV,yV,opG];rw [Zw (by omega)];rfl
     ·cases h2:(x.kind==6)
      ·refine .inl ⟨(),trivial,by simp only [opG,h1,h2,jU,jF],fun m=> ?_⟩;simp only [Ci,Zz hi',jT,jI,yU hx,(hv x hm).1,h1,h2,jS,jU,jF,y4 hi (by omega:l.length<=_)];rw [Zw (by omega)]
      ·refine .inr fun m=> ?_;simp only [Ci,Zz hi',jT,jI,yU hx,(hv x hm).1,h1,h2,jS,jU,jF,opG];rw [Zw (by omega)]) N 0 () trivial (by omega) (by omega)
 ·exact zN (σ:=Unit) (L:=fun m i _=>DC N m l i (Val.mk 0 0 0 [] [] [] [])) l (fun r _=>((opG r).1,(opG r).2.1)) (fun _ _=>True) (fun m _ _=>by simp only [DC,Z5,Z6,jF];rfl)
   (fun i x r _ hd hi hx _=>by
     have hi' :(i:Int)<(l.length:Int):=by omega
     have hm:=Zs hx;cases h1:yW x
     ·refine .inr fun m=> ?_;simp only [DC,Zz hi',jT,jI,yU hx,(hv x hm).2,h1,jS,jV,yZ,opG];rw [Zw (by omega)];rfl
     ·cases h2:(x.kind==6)
      ·refine .inl ⟨(),trivial,by simp only [opG,h1,h2,jU,jF],fun m=> ?_⟩;simp only [DC,Zz hi',jT,jI,yU hx,(hv x hm).2,h1,h2,jS,jU,jF,y4 hi (by omega:l.length<=_)];rw [Zw (by omega)]
      ·refine .inr fun m=> ?_;simp only [DC,Zz hi',jT,jI,yU hx,(hv x hm).2,h1,h2,jS,jU,jF,opG,yZ];rw [Zw (by omega),Lj h1 h2];rfl) N 0 () trivial (by omega) (by omega)
def Flat(v:Val):Prop:=v.list=[]/\v.columns=[]/\v.rows=[]/\v.text=[]/\I64 v.kind/\I64 v.n/\I64 v.step
theorem Flat.fit{v:Val}(h:Flat v)(K:Nat):v.Fit K:=by
 obtain⟨h1,h2,h3,h4,h5,h6,h7⟩:=h;refine Val.fit_iff.2 ⟨h5,h6,h7,?_,?_,?_,?_⟩
 ·rw [h4];exact Z9 _
 ·rw [h1];exact A2
 ·rw [h2];exact A2
 ·rw [h3];exact A2
theorem Flat.cnt{v:Val}(h:Flat v):v.cnt=4:=by
 rw [Im,h.1,h.2.1,h.2.2.1];rfl
theorem HK{K:Nat}{l:List Val}(h:∀x∈l,x.Fit K):Flat (opG l).1:=by
 obtain⟨h1,h2,h3,h4,h5⟩:=GL (l:=l);obtain⟨i1,i2⟩:=OI h;exact⟨h1,h2,h3,h4,i1,i2,by rw [h5];exact yX (by omega) (by omega)⟩
theorem HJ{k n s:Int}(h1:I64 k)(h2:I64 n)(h3:I64 s):Flat (.mk k n s [] [] [] []):=⟨rfl,rfl,rfl,rfl,h1,h2,h3⟩
theorem zV{c:Int}(h:I64 c):Flat (y6 c):=HJ (yX (by omega) (by omega)) h (yX (by omega) (by omega))
theorem DJ{c:Int}(h:I64 c):Flat (y5 c):=HJ (yX (by omega) (by omega)) h (yX (by omega) (by omega))
def Ai:List Val->Int->Val
 | [],s=>y5 s
 |x::r,s=>bif x.kind != 1 then y6 4 else bif !zB (i64.wrap (s+x.n)) then y6 5 else Ai r (i64.wrap (s+x.n))
theorem xA2:∀ {l:List Val} {s:Int},I64 s->Flat (Ai l s)
 | [],s,h=>DJ h
 |x::r,s,h=>by
  simp only [Ai];cases (x.kind != 1)
  ·cases zB (i64.wrap (s+x.n))
   ·exact zV (yX (by omega) (by omega))
   ·exact xA2 (DL _)
  ·exact zV (yX (by omega) (by omega))
def CZ(v:Val):Val×Bool:=bif(opG [v]).2.1 then((opG [v]).1,(opG [v]).2.2) else bif v.kind != 3 then(y6 4,false) else(Ai v.list 0,false)
theorem GM:∀ {l:List Val},(opG l).2.1=false->(opG l).2.2=false
 | [],_=>rfl
 |v::r,h=>by
  simp only [opG] at h ⊢;cases hv:yW v
  ·rfl
  ·cases hk:(v.kind==6)
   ·rw [hv,hk] at h;exact GM (l:=r) h
   ·rw [hv,hk] at h;cases h
theorem xO2{K:Nat}(hK:24<=K/\K<=4611686018427387903){v:Val}(h:v.Fit K):Big fun N=>H1 N v=some (CZ v)/\IN N v=some (CZ v).1:=by
 have hl:v.list.length<=K:=(Val.fit_iff.1 h).2.2.2.2.1.1;refine((Hj hK (l:=[v]) (fun x hx=>by rw [Zh] at hx;subst hx;exact h) (by simp;omega)).and (AT K)).imp fun N ⟨⟨ho1,ho2⟩,hN⟩=> ?_;obtain⟨e1,e2,e3,e4,e5⟩:=GL (l:=[v])
 have i1:Bc N N 0 v.list v.list.length 0 (Val.mk 0 0 0 [] [] [] [])=some (Ai v.list 0,false):=
  zN (L:=fun m i q=>Bc N m q v.list v.list.length i (Val.mk 0 0 0 [] [] [] [])) v.list (fun r q=>(Ai r q,false)) (fun _ _=>True) (fun m q _=>by simp only [Bc,Z5,Z6,jF];rfl)
   (fun i x r q hd hi hx _=>by
     have hi' :(i:Int)<(v.list.length:Int):=by omega
     cases h1:(x.kind != 1)
     ·cases h2:zB (i64.wrap (q+x.n))
      ·refine .inr fun m=> ?_;simp only [Bc,Zz hi',jT,jF,jI,yU hx,h1,h2,DZ,jS,jV,yV,Ai];rw [Zw (by omega)];rfl
      ·refine .inl ⟨i64.wrap (q+x.n),trivial,by simp only [Ai,h1,h2,jU,jF],fun m=> ?_⟩;simp only [Bc,Zz hi',jT,jF,jI,yU hx,h1,h2,DZ,jS,jU,y4 hi (by omega:v.list.length<=_)];rw [Zw (by omega)]
     ·refine .inr fun m=> ?_;simp only [Bc,Zz hi',jT,jI,yU hx,h1,jS,yV,Ai];rw [Zw (by omega)];rfl) N 0 0 trivial (by omega) (by omega)
 have i2:CQ N N 0 v (Val.mk 0 0 0 [] [] [] []) (y5 0)=some (Ai v.list 0):=
  zN (L:=fun m i q=>CQ N m i v (Val.mk 0 0 0 [] [] [] []) (y5 q)) v.list (fun r q=>Ai r q) (fun _ _=>True) (fun m q _=>by simp only [CQ,Z5,Z6,jF];rfl)
   (fun i x r q hd hi hx _=>by
     have hi' :(i:Int)<(v.list.length:Int):=by omega
     have hn:(y5 q).n=q:=rfl;cases h1:(x.kind != 1)
     ·cases h2:zB (i64.wrap (q+x.n))
      ·refine .inr fun m=> ?_;simp only [CQ,hn,Zz hi',jT,jF,jI,yU hx,h1,h2,Dn,CX,jS,jV,yZ,Ai];rw [Zw (by omega)];rfl
      ·refine .inl ⟨i64.wrap (q+x.n),trivial,by simp only [Ai,h1,h2,jU,jF],fun m=> ?_⟩;simp only [CQ,hn,Zz hi',jT,jF,jI,yU hx,h1,h2,Dn,CX,zK,jS,jU,y4 hi (by omega:v.list.length<=_)];rw [Zw (by omega)];rfl
     ·refine .inr fun m=> ?_;simp only [CQ,Zz hi',jT,jI,yU hx,h1,jS,yZ,Ai];rw [Zw (by omega)];rfl) N 0 0 trivial (by omega) (by omega)
 have hz:Val.mk 1 0 0 [] [] [] []=y5 0:=rfl;refine⟨?_,?_⟩
 ·simp only [H1,Val.re_eq,ho1,jS,e1,e2,e3,jE,ZB,Aq e1 e2 e3,i1,yV,CZ];cases h1:(opG [v]).2.1
  ·rw [GM h1];cases (v.kind != 3) <;>rfl
  ·cases (opG [v]).2.2 <;>rfl
 ·simp only [IN,Val.re_eq,ho2,jS,yZ,zK,hz,i2,CZ];cases h1:(opG [v]).2.1
  ·cases (v.kind != 3) <;>rfl
  ·rfl
theorem xO0{K:Nat}{v:Val}(h:v.Fit K):Flat (CZ v).1:=by
 unfold CZ;cases (opG [v]).2.1
 ·cases (v.kind != 3)
  ·exact xA2 (yX (by omega) (by omega))
  ·exact zV (yX (by omega) (by omega))
 ·exact HK (K:=K) (l:=[v]) fun x hx=>by rw [Zh] at hx;subst hx;exact h
end Go.Ab
end
section
namespace Go.Ab
def kb:List Val->List Int->Bool
 | [],_=>false
 |_::_,[]=>false
 |x::r,k::ks=>(x.kind != k)||kb r ks
def yY(ks:List Int)(vs:List Val):Val×Bool×Bool:=bif(opG vs).2.1 then opG vs else bif kb vs ks then(y6 4,true,false) else(At,false,false)
theorem xFM:Flat At:=HJ (yX (by omega) (by omega)) (yX (by omega) (by omega)) (yX (by omega) (by omega))
theorem BU{K:Nat}{ks:List Int}{l:List Val}(h:∀x∈l,x.Fit K):Flat (yY ks l).1:=by
 unfold yY;cases (opG l).2.1
 ·cases kb l ks
  ·exact xFM
  ·exact zV (yX (by omega) (by omega))
 ·exact HK h
theorem CI{K:Nat}(hK:24<=K/\K<=4611686018427387903){vs:List Val}{ks:List Int}(h:∀x∈vs,x.Fit K)(hl:vs.length<=K)(hks:ks.length=vs.length):Big fun N=>BE N ks vs=some (yY ks vs)/\BT N vs ks=some ((yY ks vs).1,(yY ks vs).2.1):=by
 refine((Hj hK h hl).and (AT K)).imp fun N ⟨⟨ho1,ho2⟩,hN⟩=> ?_
 have i1:CB N N ks vs vs.length 0 (Val.mk 0 0 0 [] [] [] [])=some (bif kb vs ks then(y6 4,true,false) else(At,false,false)):=
  zN (L:=fun m i q=>CB N m ks vs vs.length i (Val.mk 0 0 0 [] [] [] [])) vs (fun r q=>bif kb r (ks.drop q) then(y6 4,true,false) else(At,false,false)) (fun i q=>q=i) (fun m q _=>by simp only [CB,Z5,Z6,jF];rfl)
   (fun i x r q hd hi hx hq=>by
     have hq:q=i:=hq;subst hq;have hi' :(q:Int)<(vs.length:Int):=by omega
     have hk:ks[q]? =some ks[q]:=by simp [hks,hi]
     have hdk:ks.drop q=ks[q]::ks.drop (q+1):=Yy (by omega);cases h1:(x.kind != ks[q])
     ·refine .inl ⟨q+1,rfl,by rw [hdk];simp only [kb,h1,ZE],fun m=> ?_⟩;simp only [CB,Zz hi',jT,jF,jI,yU hx,yU hk,h1,y4 hi (by omega:vs.length<=_)];rw [Zw (by omega),Zw (by omega)]
     ·refine .inr fun m=> ?_;rw [hdk];simp only [CB,Zz hi',jT,jI,yU hx,yU hk,h1,yV,jS,kb,XZ];rw [Zw (by omega),Zw (by omega)];rfl) N 0 0 rfl (by omega) (by omega)
 have i2:DD N N vs ks 0 (Val.mk 0 0 0 [] [] [] [])=some (bif kb vs ks then(y6 4,true) else(At,false)):=
  zN (L:=fun m i q=>DD N m vs ks i (Val.mk 0 0 0 [] [] [] [])) vs (fun r q=>bif kb r (ks.drop q) then(y6 4,true) else(At,false)) (fun i q=>q=i) (fun m q _=>by simp only [DD,Z5,Z6,jF];rfl)
   (fun i x r q hd hi hx hq=>by
     have hq:q=i:=hq;subst hq;have hi' :(q:Int)<(vs.length:Int):=by omega
     have hk:ks[q]? =some ks[q]:=by simp [hks,hi]
     have hdk:ks.drop q=ks[q]::ks.drop (q+1):=Yy (by omega);cases h1:(x.kind != ks[q])
     ·refine .inl ⟨q+1,rfl,by rw [hdk];simp only [kb,h1,ZE],fun m=> ?_⟩;simp only [DD,Zz hi',jT,jF,jI,yU hx,yU hk,h1,y4 hi (by omega:vs.length<=_)];rw [Zw (by omega),Zw (by omega)]
     ·refine .inr fun m=> ?_;rw [hdk];simp only [DD,Zz hi',jT,jI,yU hx,yU hk,h1,yZ,jS,kb,XZ];rw [Zw (by omega),Zw (by omega)];rfl) N 0 0 rfl (by omega) (by omega)
 refine⟨?_,?_⟩
 ·simp only [BE,ho1,jS,i1,yY];cases h1:(opG vs).2.1
  ·rw [GM h1];rfl
  ·have e:opG vs=((opG vs).1,true,(opG vs).2.2):=by rw [<-h1]
   cases h2:(opG vs).2.2
   ·rw [h2] at e;simp only [jT,jF];rw [<-e]
   ·rw [h2] at e;simp only [jT];rw [<-e]
 ·simp only [BT,ho2,jS,i2,yY];cases h1:(opG vs).2.1
  ·cases kb vs ks <;>rfl
  ·simp [h1]
def Br(v:Val):Val×Bool:=bif(yY [5] [v]).2.1 then((yY [5] [v]).1,(yY [5] [v]).2.2) else(y5 v.rows.length,false)
theorem CJ{ks:List Int}{l:List Val}(h:(yY ks l).2.1=false):(yY ks l).2.2=false:=by
 unfold yY at h ⊢;cases h1:(opG l).2.1
 ·rw [h1] at h;cases h2:kb l ks
  ·rfl
  ·rfl
 ·rw [h1] at h;simp only [jT] at h;rw [h1] at h;cases h
theorem GK{K:Nat}{v:Val}(h:v.Fit K):∀x∈ [v],x.Fit K:=fun x hx=>by rw [Zh] at hx;subst hx;exact h
theorem xEo{K:Nat}(hK:24<=K/\K<=4611686018427387903){v:Val}(h:v.Fit K):Big fun N=>HO N v=some (Br v)/\ID N v=some (Br v).1:=by
 refine(CI hK (vs:=[v]) (ks:=[5]) (GK h) (by simp;omega) rfl).imp fun N ⟨h1,h2⟩=> ?_;obtain⟨e1,e2,e3,_⟩:=BU (ks:=[5]) (GK h);have hz:∀n:Int,Val.mk 1 n 0 [] [] [] []=y5 n:=fun _=>rfl;refine⟨?_,?_⟩
 ·simp only [HO,Val.re_eq,h1,jS,e1,e2,e3,jE,ZB,Aq e1 e2 e3,Ae,hz,Br];cases g1:(yY [5] [v]).2.1
  ·rw [CJ g1];rfl
  ·cases (yY [5] [v]).2.2 <;>rfl
 ·simp only [ID,Val.re_eq,h2,jS,zK,hz,Br];cases g1:(yY [5] [v]).2.1 <;>rfl
theorem xEm{K:Nat}(hK:K<=4611686018427387903){v:Val}(h:v.Fit K):Flat (Br v).1:=by
 have hr:v.rows.length<=K:=(Val.fit_iff.1 h).2.2.2.2.2.2.1;unfold Br;cases (yY [5] [v]).2.1
 ·exact DJ ⟨by omega,by omega⟩
 ·exact BU (GK h)
end Go.Ab
end
section
namespace Go.Ab
theorem Hi:∀ {l:List Val},(opG l).2.1=false->∀x∈l,yW x=true
 | [],_,x,hx=>by cases hx
 |v::r,h,x,hx=>by
  simp only [opG] at h;cases hv:yW v
  ·rw [hv] at h;cases h
  ·cases hk:(v.kind==6)
   ·rw [hv,hk] at h;rcases Zo.1 hx with rfl|hx
    ·exact hv
    ·exact Hi (l:=r) h x hx
   ·rw [hv,hk] at h;cases h
theorem AR{ks:List Int}{l:List Val}(h:(yY ks l).2.1=false):(∀x∈l,yW x=true)/\kb l ks=false:=by
 unfold yY at h;cases h1:(opG l).2.1
 ·rw [h1] at h;cases h2:kb l ks
  ·exact⟨Hi h1,rfl⟩
  ·rw [h2] at h;cases h
 ·rw [h1] at h;simp only [jT] at h;rw [h1] at h;cases h
theorem Cj{K:Nat}{ks:List Int}{l:List Val}(h:∀x∈l,x.Fit K):Flat (yY ks l).1:=BU h
theorem C2{v:Val}(hv:yW v=true)(hk:v.kind=5):∀r∈v.rows,r.cells.length=v.columns.length:=by
 rw [AH,hk] at hv;simp only [show((5:Int)==1)=false from rfl,show((5:Int)==2)=false from rfl,show((5:Int)==4)=false from rfl,show((5:Int)==6)=false from rfl,show((5:Int)==5)=true from rfl,jT,jF,Zv,zS] at hv;obtain⟨_,_,_,_,_,_,h⟩:=hv;intro r hr;obtain⟨i,hi⟩:=Yc hr;have:=Bp h i r hi;simp only [Bh,Zv,beq_iff_eq] at this;exact this.1
theorem Fs{s:Str}:∀ {xs:List Str} {j:Nat},yT xs s j= -1\/((j:Int)<=yT xs s j/\yT xs s j<(j:Int)+xs.length)
 | [],j=> .inl rfl
 |x::r,j=>by
  simp only [yT,jC];cases (x==s)
  ·simp only [jF];rcases Fs (s:=s) (xs:=r) (j:=j+1) with h|⟨h1,h2⟩
   ·exact .inl h
   ·exact .inr ⟨by omega,by omega⟩
  ·simp only [jT];exact .inr ⟨by omega,by omega⟩
theorem xMg{N:Nat}{xs:List Str}{s:Str}(hl:xs.length<=9223372036854775807)(hn:xs.length<N):KZ N xs s=some (yT xs s 0):=
 zN (L:=fun n i _=>Du N n xs s i) xs (fun l q=>yT l s q) (fun i q=>q=i) (fun n q _=>by simp [Du,yT])
  (fun i x l q hd hi hx hq=>by
    have hi' :(i:Int)<(xs.length:Int):=by omega
    have hq:q=i:=hq;subst hq;cases h1:x==s
    ·refine .inl ⟨q+1,rfl,by simp only [yT,h1,jF],fun n=> ?_⟩;simp only [Du,Zz hi',jT,jI,yU hx,h1,jF,y4 hi hl];rw [Zw (by omega)]
    ·refine .inr fun n=> ?_;simp only [Du,Zz hi',jT,jI,yU hx,h1];rw [Zw (by omega)];simp only [yT,h1,jT]) N 0 0 rfl (by omega) (by omega)
theorem Bw{N:Nat}{v:Val}{s:Str}(hl:v.columns.length<=9223372036854775807)(hn:v.columns.length<N):AG N v s=some (yT v.columns s 0):=by
 simp only [AG,HR hl hn,jS]
theorem BX{N:Nat}{v:Val}{s:Str}(hl:v.columns.length<=9223372036854775807)(hn:v.columns.length<N):Aw N v s=some (yT v.columns s 0):=by
 simp only [Aw,xMg hl hn,jS]
def pick(k:Int)(n:Int)(rs:List Rowd):List Rowd:=rs.filter fun r=>r.cells.getD k.toNat Di==n
theorem Hk{k n:Int}{r:Rowd}{rs:List Rowd}:pick k n (r::rs)=bif r.cells.getD k.toNat Di==n then r::pick k n rs else pick k n rs:=by
 unfold pick;rw [Xl];cases (r.cells.getD k.toNat Di==n) <;>rfl
theorem xIO{N K:Nat}{k:Int}{a v z:Val}(h:zO K (Rowd.Fit K) v.rows)(hK:K<=137438953472)(hN:K<N)(hk:0<=k)(hr:∀r∈v.rows,k<(r.cells.length:Int)):
 Bd N N k v.rows v.rows.length 0 a z (.mk 5 0 0 [] [] v.columns [])=some (.mk 5 0 0 [] [] v.columns (pick k a.n v.rows),false):=by
 have hl:v.rows.length<=K:=h.1
 exact zN (L:=fun m i q=>Bd N m k v.rows v.rows.length i a z (.mk 5 0 0 [] [] v.columns q)) v.rows (fun l q=>(Val.mk 5 0 0 [] [] v.columns (q++pick k a.n l),false)) (fun i q=>q.length<=i) (fun m q _=>by simp [Bd,pick])
  (fun i x l q hd hi hx hq=>by
    have hq:q.length<=i:=hq;have hi' :(i:Int)<(v.rows.length:Int):=by omega
    have hm:=Zs hx;have hkx:=hr x hm;cases h1:(x.cells.getD k.toNat Di==a.n)
    ·refine .inl ⟨q,by show q.length<=i+1;omega,by rw [Hk,h1];rfl,fun m=> ?_⟩;simp only [Bd,Zz hi',jT,jF,jI,yU hx,h1,y4 hi (by omega:v.rows.length<=_)];rw [Zw (by omega),Zw (by omega)]
    ·refine .inl ⟨q++ [x],by show(q++ [x]).length<=i+1;simp;omega,by rw [Hk,h1];simp,fun m=> ?_⟩;simp only [Bd,Zz hi',jT,jI,yU hx,h1,NT (h.2 x hm) hK,jS,vk,vn,vs,vt,vl,vc,vr,y4 hi (by omega:v.rows.length<=_)];rw [Zw (by omega),Zw (by omega),Zw (by simp only [jC,jN];unfold Lim;omega)]) N 0 [] (by simp) (by omega) (by omega)
theorem xOS{N K:Nat}{k:Int}{a v z:Val}(h:zO K (Rowd.Fit K) v.rows)(hK:K<=137438953472)(hN:K<N)(hk:0<=k)(hr:∀r∈v.rows,k<(r.cells.length:Int)):
 CS N N k 0 a v z (.mk 5 0 0 [] [] v.columns [])=some (.mk 5 0 0 [] [] v.columns (pick k a.n v.rows)):=by
 have hl:v.rows.length<=K:=h.1
 exact zN (L:=fun m i q=>CS N m k i a v z (.mk 5 0 0 [] [] v.columns q)) v.rows (fun l q=>Val.mk 5 0 0 [] [] v.columns (q++pick k a.n l)) (fun i q=>q.length<=i) (fun m q _=>by simp [CS,pick])
  (fun i x l q hd hi hx hq=>by
    have hq:q.length<=i:=hq;have hi' :(i:Int)<(v.rows.length:Int):=by omega
    have hm:=Zs hx;have hkx:=hr x hm;cases h1:(x.cells.getD k.toNat Di==a.n)
    ·refine .inl ⟨q,by show q.length<=i+1;omega,by rw [Hk,h1];rfl,fun m=> ?_⟩;simp only [CS,Zz hi',jT,jF,jI,yU hx,h1,y4 hi (by omega:v.rows.length<=_)];rw [Zw (by omega),Zw (by omega)]
    ·refine .inl ⟨q++ [x],by show(q++ [x]).length<=i+1;simp;omega,by rw [Hk,h1];simp,fun m=> ?_⟩;simp only [CS,Zz hi',jT,jI,yU hx,h1,Kl (h.2 x hm) hK,jS,vk,vn,vs,vt,vl,vc,vr,y4 hi (by omega:v.rows.length<=_)];rw [Zw (by omega),Zw (by omega),Zw (by simp only [jC,jN];unfold Lim;omega)]) N 0 [] (by simp) (by omega) (by omega)
def whG(a b v:Val):Val×Bool:=bif(yY [2,1,5] [a,b,v]).2.1 then((yY [2,1,5] [a,b,v]).1,(yY [2,1,5] [a,b,v]).2.2) else
 bif decide (yT v.columns a.text 0<0) then(y6 7,false) else(.mk 5 0 0 [] [] v.columns (pick (yT v.columns a.text 0) b.n v.rows),false)
theorem kb3{a b c:Val}{x y z:Int}(h:kb [a,b,c] [x,y,z]=false):a.kind=x/\b.kind=y/\c.kind=z:=by
 simp only [kb,ZR,bne_eq_false_iff_eq] at h;exact⟨h.1,h.2.1,h.2.2.1⟩
theorem C3{K:Nat}{a b c:Val}(ha:a.Fit K)(hb:b.Fit K)(hc:c.Fit K):∀x∈ [a,b,c],x.Fit K:=fun x hx=>by
 simp only [Zo,Z2,or_false] at hx;rcases hx with rfl|rfl|rfl
 ·exact ha
 ·exact hb
 ·exact hc
theorem xPu{K:Nat}(hK:24<=K/\K<=137438953472){a b v:Val}(ha:a.Fit K)(hb:b.Fit K)(hv:v.Fit K):Big fun N=>Ee N a b v=some (whG a b v)/\FQ N a b v=some (whG a b v).1:=by
 obtain⟨_,_,_,_,_,h6,h7⟩:=Val.fit_iff.1 hv;have hc:v.columns.length<=K:=h6.1;refine((CI (by omega) (vs:=[a,b,v]) (ks:=[2,1,5]) (C3 ha hb hv) (by simp;omega) rfl).and (AT K)).imp fun N ⟨⟨h1,h2⟩,hN⟩=> ?_;obtain⟨e1,e2,e3,_⟩:=BU (ks:=[2,1,5]) (C3 ha hb hv);have hlim:0+v.columns.length<=Lim:=by unfold Lim;omega
 have i1:=Bw (N:=N) (v:=v) (s:=a.text) (by omega) (by omega);have i2:=BX (N:=N) (v:=v) (s:=a.text) (by omega) (by omega);cases g1:(yY [2,1,5] [a,b,v]).2.1
 ·obtain⟨g2,g3⟩:=AR g1;have hk5:=(kb3 g3).2.2;have hrows:=C2 (g2 v (by simp)) hk5;have htag:=CJ g1;by_cases hneg:yT v.columns a.text 0<0
  ·refine⟨?_,?_⟩
   ·simp only [Ee,Val.re_eq,h1,jS,g1,htag,jF,i1,Zz hneg,jT,yV,whG];rfl
   ·simp only [FQ,Val.re_eq,h2,jS,g1,jF,i2,Zz hneg,jT,yZ,whG];rfl
  ·have hr:∀r∈v.rows,yT v.columns a.text 0<(r.cells.length:Int):=fun r hr=>by
    rw [hrows r hr];rcases Fs (s:=a.text) (xs:=v.columns) (j:=0) with h|⟨_,h⟩ <;>omega
   have l1:=xIO (a:=b) (z:=Val.mk 0 0 0 [] [] [] []) h7 hK.2 hN (by omega) hr;have l2:=xOS (a:=b) (z:=Val.mk 0 0 0 [] [] [] []) h7 hK.2 hN (by omega) hr;refine⟨?_,?_⟩
   ·simp only [Ee,Val.re_eq,h1,jS,g1,htag,jF,i1,Zy hneg,Zw hlim,jM,l1,whG]
   ·simp only [FQ,Val.re_eq,h2,jS,g1,jF,i2,Zy hneg,Zw hlim,jM,l2,whG]
 ·refine⟨?_,?_⟩
  ·simp only [Ee,Val.re_eq,h1,jS,e1,e2,e3,jE,ZB,Aq e1 e2 e3,g1,jT,whG];cases (yY [2,1,5] [a,b,v]).2.2 <;>rfl
  ·simp only [FQ,Val.re_eq,h2,jS,g1,jT,whG]
theorem xKu{k n:Int}{l:List Rowd}:(pick k n l).length<=l.length:=Xf _ _
def Good1(K:Nat)(r:Val×Bool):Prop:=r.1.Fit K/\r.1.cnt<=100000000000/\(r.2=true->Flat r.1)
theorem Flat.good{r:Val×Bool}(h:Flat r.1):Good1 1048576 r:=⟨h.fit _,by rw [h.cnt];omega,fun _=>h⟩
end Go.Ab
end
section
namespace Go.Ab
def Bs(k:Int)(r:Rowd):Val:=y5 (r.cells.getD k.toNat Di)
theorem xH5{N K:Nat}{k:Int}{v z:Val}(hl:v.rows.length<=K)(hK:K<=137438953472)(hN:K<N)(hk:0<=k)(hr:∀r∈v.rows,k<(r.cells.length:Int)):
 Cc N N k v.rows v.rows.length 0 z (.mk 3 0 0 [] [] [] [])=some (.mk 3 0 0 [] (v.rows.map (Bs k)) [] [],false):=
 zN (L:=fun m i q=>Cc N m k v.rows v.rows.length i z (.mk 3 0 0 [] q [] [])) v.rows (fun l q=>(Val.mk 3 0 0 [] (q++l.map (Bs k)) [] [],false)) (fun i q=>q.length=i) (fun m q _=>by simp [Cc])
  (fun i x l q hd hi hx hq=>by
    have hq:q.length=i:=hq;have hi' :(i:Int)<(v.rows.length:Int):=by omega
    have hkx:=hr x (Zs hx);refine .inl ⟨q++ [Bs k x],by simp [hq],by simp,fun m=> ?_⟩;simp only [Cc,Zz hi',jT,jI,yU hx,Ae,jS,Val.re_eq,vk,vn,vs,vt,vl,vc,vr,y4 hi (by omega:v.rows.length<=_)];rw [Zw (by omega),Zw (by omega),Zw (by simp only [jC,jN];unfold Lim;omega)];rfl) N 0 [] rfl (by omega) (by omega)
theorem xMZ{N K:Nat}{k:Int}{v z:Val}(hl:v.rows.length<=K)(hK:K<=137438953472)(hN:K<N)(hk:0<=k)(hr:∀r∈v.rows,k<(r.cells.length:Int)):
 Dp N N k 0 v z (.mk 3 0 0 [] [] [] [])=some (.mk 3 0 0 [] (v.rows.map (Bs k)) [] []):=
 zN (L:=fun m i q=>Dp N m k i v z (.mk 3 0 0 [] q [] [])) v.rows (fun l q=>Val.mk 3 0 0 [] (q++l.map (Bs k)) [] []) (fun i q=>q.length=i) (fun m q _=>by simp [Dp])
  (fun i x l q hd hi hx hq=>by
    have hq:q.length=i:=hq;have hi' :(i:Int)<(v.rows.length:Int):=by omega
    have hkx:=hr x (Zs hx);refine .inl ⟨q++ [Bs k x],by simp [hq],by simp,fun m=> ?_⟩;simp only [Dp,Zz hi',jT,jI,yU hx,zK,jS,Val.re_eq,vk,vn,vs,vt,vl,vc,vr,y4 hi (by omega:v.rows.length<=_)];rw [Zw (by omega),Zw (by omega),Zw (by simp only [jC,jN];unfold Lim;omega)];rfl) N 0 [] rfl (by omega) (by omega)
def BD(a v:Val):Val×Bool:=bif(yY [2,5] [a,v]).2.1 then((yY [2,5] [a,v]).1,(yY [2,5] [a,v]).2.2) else
 bif decide (yT v.columns a.text 0<0) then(y6 7,false) else bif decide ((v.rows.length:Int)>8) then(y6 6,false) else(.mk 3 0 0 [] (v.rows.map (Bs (yT v.columns a.text 0))) [] [],false)
theorem kb2{a b:Val}{x y:Int}(h:kb [a,b] [x,y]=false):a.kind=x/\b.kind=y:=by
 simp only [kb,ZR,bne_eq_false_iff_eq] at h;exact⟨h.1,h.2.1⟩
theorem B2{K:Nat}{a b:Val}(ha:a.Fit K)(hb:b.Fit K):∀x∈ [a,b],x.Fit K:=fun x hx=>by
 simp only [Zo,Z2,or_false] at hx;rcases hx with rfl|rfl
 ·exact ha
 ·exact hb
theorem xEr{K:Nat}(hK:24<=K/\K<=137438953472){a v:Val}(ha:a.Fit K)(hv:v.Fit K):Big fun N=>E9 N a v=some (BD a v)/\FM N a v=some (BD a v).1:=by
 obtain⟨_,_,_,_,_,h6,h7⟩:=Val.fit_iff.1 hv;have hc:v.columns.length<=K:=h6.1;refine((CI (by omega) (vs:=[a,v]) (ks:=[2,5]) (B2 ha hv) (by simp;omega) rfl).and (AT K)).imp fun N ⟨⟨h1,h2⟩,hN⟩=> ?_;obtain⟨e1,e2,e3,_⟩:=BU (ks:=[2,5]) (B2 ha hv);have i1:=Bw (N:=N) (v:=v) (s:=a.text) (by omega) (by omega);have i2:=BX (N:=N) (v:=v) (s:=a.text) (by omega) (by omega);cases g1:(yY [2,5] [a,v]).2.1
 ·obtain⟨g2,g3⟩:=AR g1;have hrows:=C2 (g2 v (by simp)) (kb2 g3).2;have htag:=CJ g1;by_cases hneg:yT v.columns a.text 0<0
  ·refine⟨?_,?_⟩
   ·simp only [E9,Val.re_eq,h1,jS,g1,htag,jF,i1,Zz hneg,jT,yV,BD];rfl
   ·simp only [FM,Val.re_eq,h2,jS,g1,jF,i2,Zz hneg,jT,yZ,BD];rfl
  ·have hr:∀r∈v.rows,yT v.columns a.text 0<(r.cells.length:Int):=fun r hr=>by
    rw [hrows r hr];rcases Fs (s:=a.text) (xs:=v.columns) (j:=0) with h|⟨_,h⟩ <;>omega
   have l1:=xH5 (z:=Val.mk 0 0 0 [] [] [] []) h7.1 hK.2 hN (by omega) hr;have l2:=xMZ (z:=Val.mk 0 0 0 [] [] [] []) h7.1 hK.2 hN (by omega) hr;refine⟨?_,?_⟩
   ·simp only [E9,Val.re_eq,h1,jS,g1,htag,jF,i1,Zy hneg,yV,l1,BD];cases decide ((v.rows.length:Int)>8) <;>rfl
   ·simp only [FM,Val.re_eq,h2,jS,g1,jF,i2,Zy hneg,yZ,l2,BD];cases decide ((v.rows.length:Int)>8) <;>rfl
 ·refine⟨?_,?_⟩
  ·simp only [E9,Val.re_eq,h1,jS,e1,e2,e3,jE,ZB,Aq e1 e2 e3,g1,jT,BD];cases (yY [2,5] [a,v]).2.2 <;>rfl
  ·simp only [FM,Val.re_eq,h2,jS,g1,jT,BD]
theorem Ld{k:Int}{r:Rowd}{K:Nat}(h:r.Fit K):Flat (Bs k r):=by
 refine DJ ?_;rcases ZG k.toNat r.cells.length with hk|hk
 ·have:r.cells.getD k.toNat Di=r.cells[k.toNat]:=by simp [List.getD,hk]
  rw [this];exact h.1.2 _ (Z4 hk)
 ·have:r.cells.getD k.toNat Di=0:=by simp [List.getD,ZP hk];rfl
  rw [this];exact yX (by omega) (by omega)
theorem JF:∀ {l:List Val},(∀x∈l,x.cnt=4)->(l.map Val.cnt).sum=4*l.length
 | [],_=>rfl
 |x::l,h=>by
  have:=JF fun y hy=>h y (Zq x hy);simp only [ZX,List.sum_cons,jC,h x Zp,this];omega
theorem Nu{K:Nat}{l:List Val}(h:zO K (Val.Fit K) l):(Val.mk 3 0 0 [] l [] []).Fit K:=
 Val.fit_iff.2 ⟨yX (by show(-1000000:Int)<=3;omega) (by show(3:Int)<=1000000;omega),yX (by show(-1000000:Int)<=0;omega) (by show(0:Int)<=1000000;omega),yX (by show(-1000000:Int)<=0;omega) (by show(0:Int)<=1000000;omega),Z9 _,h,A2,A2⟩
theorem Nt(l:List Val):(Val.mk 3 0 0 [] l [] []).cnt=4+(l.map Val.cnt).sum:=by
 rw [Im,vl,vc,vr];simp only [Ys,List.sum_nil];omega
theorem xEp{a v:Val}(ha:a.Fit 1048576)(hv:v.Fit 1048576):Good1 1048576 (BD a v):=by
 obtain⟨_,_,_,_,_,h6,h7⟩:=Val.fit_iff.1 hv;have hr:v.rows.length<=1048576:=h7.1;unfold BD;cases (yY [2,5] [a,v]).2.1
 ·cases decide (yT v.columns a.text 0<0)
  ·cases decide ((v.rows.length:Int)>8)
   ·refine⟨Nu ⟨by simpa using hr,fun x hx=> ?_⟩,?_,fun h=>by cases h⟩
    ·obtain⟨r,hr,rfl⟩:=Zk.1 hx;exact(Ld (h7.2 r hr)).fit _
    ·show(Val.mk 3 0 0 [] (v.rows.map (Bs (yT v.columns a.text 0))) [] []).cnt<=_;rw [Nt,JF (fun x hx=>by obtain⟨r,hr,rfl⟩:=Zk.1 hx;exact(Ld (h7.2 r hr)).cnt),Zr];omega
   ·exact Flat.good (zV (yX (by omega) (by omega)))
  ·exact Flat.good (zV (yX (by omega) (by omega)))
 ·exact Flat.good (Cj (B2 ha hv))
theorem xMA{N:Nat}{l:List Val}(hl:l.length<=137438953472)(hn:l.length<N)(hc:∀x∈l,EH N x=some x):K9 N l=some (.mk 3 0 0 [] l [] []):=
 zN (L:=fun m i q=>FP N m l i (Val.mk 0 0 0 [] [] [] []) (Val.mk 3 0 0 [] q [] [])) l (fun r q=>Val.mk 3 0 0 [] (q++r) [] []) (fun i q=>q.length=i) (fun m q _=>by simp [FP])
  (fun i x r q hd hi hx hq=>by
    have hq:q.length=i:=hq;have hi' :(i:Int)<(l.length:Int):=by omega
    refine .inl ⟨q++ [x],by simp [hq],by simp,fun m=> ?_⟩;simp only [FP,Zz hi',jT,jI,yU hx,hc x (Zs hx),jS,Val.re_eq,vk,vn,vs,vt,vl,vc,vr,y4 hi (by omega:l.length<=_)];rw [Zw (by omega),Zw (by simp only [jC,jN];unfold Lim;omega)]) N 0 [] rfl (by omega) (by omega)
end Go.Ab
end
section
namespace Go.Ab
def zC(c:UInt8):Str->Str->List Str
 |pre,[]=> [pre]
 |pre,b::l=>bif b==c then pre::zC c [] l else zC c (pre++ [b]) l
def Fj(b:UInt8):List Str->List Str
 |h::t=>(b::h)::t
 | []=> []
theorem Lg(c:UInt8):∀(l pre:Str),∃h t,zC c [] l=h::t/\zC c pre l=(pre++h)::t:=by
 intro l
 induction l with
 |nil=>intro pre;exact⟨[],[],rfl,by simp [zC]⟩
 |cons b l ih=>
  intro pre;cases hb:b==c
  ·obtain⟨h1,t1,e1,e2⟩:=ih (pre++ [b]);obtain⟨h2,t2,e3,e4⟩:=ih [b];rw [e1] at e3;obtain⟨rfl,rfl⟩:=List.cons.inj e3;refine⟨b::h1,t1,?_,?_⟩
   ·simp only [zC,hb,jF,jM,e4];rfl
   ·simp only [zC,hb,jF,e2];simp
  ·exact⟨[],zC c [] l,by simp [zC,hb],by simp [zC,hb]⟩
theorem xEu{c b:UInt8}(h:(b==c)=false)(l:Str):zC c [] (b::l)=Fj b (zC c [] l):=by
 obtain⟨h1,t1,e1,e2⟩:=Lg c l [b];simp only [zC,h,jF,jM,e2,e1,Fj];rfl
theorem xIR(c:UInt8)(l:Str):Lib.index (c::l) [c]=0:=by simp [Lib.index,List.isPrefixOf]
theorem xIS{b c:UInt8}(h:(b==c)=false)(l:Str):Lib.index (b::l) [c]=if Lib.index l [c]== -1 then -1 else Lib.index l [c]+1:=by
 have h2:(c==b)=false:=by simp at h ⊢;exact fun e=>h e.symm
 simp [Lib.index,List.isPrefixOf,h2]
theorem xOT{b c:UInt8}(h:(b==c)=false)(l:Str):∀k,Lib.splitK [c] 0 k (b::l)=Fj b (Lib.splitK [c] 0 k l)
 |0=>rfl
 |k+1=>by
  have h0:=Lib.index_ge l [c];unfold Lib.splitK;rw [xIS h];by_cases hi:Lib.index l [c]= -1
  ·simp [hi,Fj]
  ·have e1:(Lib.index l [c]== -1)=false:=by simp [hi]
   have e2:(Lib.index l [c]+1== -1)=false:=by simp;omega
   have e3:(Lib.index l [c]+1).toNat=(Lib.index l [c]).toNat+1:=by omega
   simp only [e1,e2,e3,Yg,if_false,Nat.add_zero,List.length_singleton,Fj,List.take_succ_cons];rw [show(Lib.index l [c]).toNat+1+1=((Lib.index l [c]).toNat+1)+1 from rfl,List.drop_succ_cons]
theorem xOU(c:UInt8):∀s:Str,Lib.split s [c]=zC c [] s:=by
 intro s;unfold Lib.split;rw [Lib.count_one]
 induction s with
 |nil=>rfl
 |cons b l ih=>
  cases hb:b==c
  ·rw [List.count_cons_of_ne (by simpa using hb),xOT hb,ih,xEu hb]
  ·obtain rfl:b=c:=by simpa using hb
   rw [List.count_cons_self];unfold Lib.splitK;rw [xIR];simp [zC,ih]
theorem Gw{c:UInt8}:∀ {l pre:Str},(zC c pre l).length<=l.length+1
 | [],pre=>by simp [zC]
 |b::l,pre=>by
  simp only [zC];cases b==c
  ·simp only [jF];have:=Gw (c:=c) (l:=l) (pre:=pre++ [b]);simp only [jC];omega
  ·simp only [jT,jC];have:=Gw (c:=c) (l:=l) (pre:=[]);omega
theorem Gx{c:UInt8}:∀ {l pre:Str},((zC c pre l).map List.length).sum<=pre.length+l.length
 | [],pre=>by simp [zC]
 |b::l,pre=>by
  simp only [zC];cases b==c
  ·simp only [jF];have:=Gx (c:=c) (l:=l) (pre:=pre++ [b]);simp only [jA,jC,jN] at this ⊢;omega
  ·simp only [jT,jC,ZX,List.sum_cons];have:=Gx (c:=c) (l:=l) (pre:=[]);simp only [jN] at this;omega
theorem JG{c:UInt8}{l pre x:Str}(h:x∈zC c pre l):x.length<=pre.length+l.length:=
 ZF (xK3 (f:=List.length) h) Gx
theorem JH{c:UInt8}{l:Str}:zC c [] l≠ []:=by
 obtain⟨h,t,e,_⟩:=Lg c l [];rw [e];exact XV _ _
end Go.Ab
end
section
open Go.IntKind (i64)
namespace Go.Ab
theorem xOX{N:Nat}{s:Str}{c:UInt8}(h:s.length<4294967281):Ih N s [c]=some (zC c [] s):=by
 unfold Ih qL;have e: [c].length=1:=rfl;rw [Zw e,Zw h,xOU]
theorem NH{N:Nat}{s:Str}(h:s.length<4294967281):DV N s 32=some (zC 32 [] s):=by
 have e:List.map (fun n:Int=>UInt8.ofNat (Int.toNat n)) [32]=[32]:=rfl;unfold DV;rw [e,xOX h];rfl
theorem xAi{N K:Nat}{s:Str}(hl:s.length<=K)(hK:K<=137438953472)(hN:K+1<N):G3 N s 32=some (zC 32 [] s):=by
 have key:∀(l pre:Str) (q:List Str) (n i:Nat),s.drop i=l->i<=s.length->pre.length<=i->s.drop (i - pre.length)=pre++l->q.length<=i->l.length+1<n->
  CP N n s 32 q ((i - pre.length:Nat):Int) (i:Nat)=some (q++zC 32 pre l):=by
  intro l
  induction l with
  |nil=>
   intro pre q n i hd hi hp hs hq hn;obtain⟨n,rfl⟩:∃m,n=m+1+1:=⟨n - 2,by simp at hn;omega⟩;have hi2:i=s.length:=by have:=BI hd;omega
   subst hi2;have e1:¬((s.length+1:Nat):Int)<=(s.length:Int):=by omega
   have e2:List.drop (s.length - pre.length) (List.take s.length s)=pre:=by rw [ZK,hs];simp
   have e3:i64.wrap ((s.length:Int)+1)=((s.length+1:Nat):Int):=by rw [zX (by omega) (by omega)];omega
   have e4:(0:Int)<=((s.length - pre.length:Nat):Int)/\((s.length - pre.length:Nat):Int)<=(s.length:Int)/\(s.length:Int)<=(s.length:Int):=by omega
   have e5:List.length q+List.length [pre]<=Lim:=by simp only [jC,jN];unfold Lim;omega
   simp only [CP,XT,decide_true,jT,Ym,jI,e2,e3,Zy e1,jF,Zw e5,zC];rw [Zw ⟨by omega,by omega,trivial⟩]
  |cons b l ih=>
   intro pre q n i hd hi hp hs hq hn;obtain⟨n,rfl⟩:∃m,n=m+1:=⟨n - 1,by simp at hn;omega⟩;obtain⟨h1,h2,h3⟩:=Ak hd;simp only [jC] at hn;have e0:(i:Int)<=(s.length:Int):=by omega
   have e1:((i:Int)==(s.length:Int))=false:=by simp;omega
   have e2:(0:Int)<=(i:Int)/\(i:Int)<(s.length:Int):=by omega
   have e3:i64.wrap ((i:Int)+1)=((i+1:Nat):Int):=y4 h1 (by omega);have eb:((b.toNat:Int)==32)=(b==32):=by
    rcases Decidable.em (b=32) with rfl|hne
    ·rfl
    ·have h8:¬(b.toNat:Int)=32:=fun e=>hne (UInt8.toNat_inj.1 (by simpa using(by omega:b.toNat=32)));rw [ZV.2 h8,ZV.2 hne]
   have hdr:s.drop (i+1)=l:=h3;cases hb:b==32
   ·have:=ih (pre++ [b]) q n (i+1) hdr (by omega) (by simp;omega) (by simp only [jA,jC,jN,Zc,jO,jM];rw [show i+1 - (pre.length+(0+1))=i - pre.length from by omega];exact hs) (by omega) (by omega);simp only [jA,jC,jN] at this;rw [show i+1 - (pre.length+(0+1))=i - pre.length from by omega] at this;simp only [CP,Zz e0,jT,e1,jF,Zw e2,jI,yU h2,eb,hb,e3,this,zC]
   ·have:=ih [] (q++ [pre]) n (i+1) hdr (by omega) (by simp) (by simp [hdr]) (by simp;omega) (by omega);have e6:List.drop (i - pre.length) (List.take i s)=pre:=by
     rw [List.drop_take,hs,show i - (i - pre.length)=pre.length from by omega];simp
    have e4:(0:Int)<=((i - pre.length:Nat):Int)/\((i - pre.length:Nat):Int)<=(i:Int)/\(i:Int)<=(s.length:Int):=by omega
    have e5:List.length q+List.length [pre]<=Lim:=by simp only [jC,jN];unfold Lim;omega
    simp only [jN,Nat.sub_zero] at this;simp only [CP,Zz e0,jT,e1,jF,Zw e2,jI,yU h2,eb,hb,e3,e6,Zw e4,Zw e5,this,zC,Zc,jO,jM]
 have:=key s [] [] N 0 rfl (Z9 _) (Zi _) rfl (Zi _) (by omega);simpa [G3] using this
def AU(y:Val):Bool:=y.kind==1
def AX(n:Nat)(x:Val):Bool:=x.kind==3&&(x.list.length==n&&x.list.all AU)
def Ck(x:Val):Rowd:=⟨x.list.map Val.n,[]⟩
def Aj(cs:List Str)(q:List Rowd)(l:List Val):Val:=bif l.all (AX cs.length) then .mk 5 0 0 [] [] cs (q++l.map Ck) else y6 4
theorem xOM{N K:Nat}{x:Val}(hx:x.list.length<=K)(hK:K<=137438953472)(hN:K<N):
 ∃q,Ie N x=some (q,x.list.all AU&&(x.kind==3))/\(x.list.all AU=true->q=x.list.map Val.n):=by
 have:=zN (L:=fun m i q=>EN N m q i x) x.list (fun l q=>(q++(l.takeWhile AU).map Val.n,l.all AU&&(x.kind==3))) (fun i q=>q.length=i) (fun m q _=>by simp [EN])
  (fun i y l q hd hi hy hq=>by
    have hq:q.length=i:=hq;have hi' :(i:Int)<(x.list.length:Int):=by omega
    cases hk:AU y
    ·refine .inr fun m=> ?_;have hk' :(y.kind != 1)=true:=by unfold AU at hk;simp only [bne,hk];rfl
     simp only [EN,Zz hi',jT,jI,yU hy,hk',Xd,hk,List.all_cons,ZQ,Yg,if_false,Ys,Zb];rw [Zw (by omega)]
    ·have hk' :(y.kind != 1)=false:=by unfold AU at hk;simp only [bne,hk];rfl
     refine .inl ⟨q++ [y.n],by simp [hq],by simp [Xd,hk],fun m=> ?_⟩;simp only [EN,Zz hi',jT,jI,yU hy,hk',jF,y4 hi (by omega:x.list.length<=_)];rw [Zw (by omega),Zw (by simp only [jC,jN];unfold Lim;omega)]) N 0 [] rfl (by omega) (by omega)
 refine⟨(x.list.takeWhile AU).map Val.n,by simpa [Ie] using this,fun h=> ?_⟩;have tw:∀l:List Val,l.all AU=true->l.takeWhile AU=l:=by
  intro l
  induction l with
  |nil=>intro _;rfl
  |cons y l ih=>
   intro h;simp only [List.all_cons,Zv] at h;rw [Xd,h.1,Zw rfl,ih h.2]
 rw [tw _ h]
theorem xOQ{N K:Nat}{v z:Val}{cs:List Str}(hl:v.list.length<=K)(hv:∀x∈v.list,x.list.length<=K)(hK:K<=137438953472)(hN:K<N):
 CR N N 0 v z (.mk 5 0 0 [] [] cs [])=some (Aj cs [] v.list):=
 zN (L:=fun m i q=>CR N m i v z (.mk 5 0 0 [] [] cs q)) v.list (fun l q=>Aj cs q l) (fun i q=>q.length=i) (fun m q _=>by simp [CR,Aj])
  (fun i x l q hd hi hx hq=>by
    have hq:q.length=i:=hq;have hi' :(i:Int)<(v.list.length:Int):=by omega
    obtain⟨qs,n1,n2⟩:=xOM (N:=N) (hv x (Zs hx)) hK hN;cases hk:(x.list.all AU&&(x.kind==3))
    ·rw [hk] at n1;refine .inr fun m=> ?_;have hr:AX cs.length x=false:=by
      unfold AX;cases h1:x.kind==3
      ·rfl
      ·rw [h1,Y9] at hk;rw [hk];simp
     simp only [CR,Zz hi',jT,jI,yU hx,n1,jS,jV,yZ,Aj,List.all_cons,hr,ZQ,jF];rw [Zw (by omega)];rfl
    ·rw [hk] at n1;simp only [Zv] at hk;have hqs:=n2 hk.1;have hlen:qs.length=x.list.length:=by rw [hqs,Zr]
     cases hc:(x.list.length==cs.length)
     ·refine .inr fun m=> ?_;have hr:AX cs.length x=false:=by unfold AX;rw [hc];simp
      have hc' :((qs.length:Int) != (cs.length:Int))=true:=by rw [hlen];simp at hc ⊢;omega
      simp only [CR,Zz hi',jT,jI,yU hx,n1,jS,jU,jF,vc,hc',yZ,Aj,List.all_cons,hr,ZQ];rw [Zw (by omega)];rfl
     ·have hr:AX cs.length x=true:=by unfold AX;rw [hc,hk.1,hk.2];rfl
      have hc' :((qs.length:Int) != (cs.length:Int))=false:=by rw [hlen];simp at hc ⊢;omega
      refine .inl ⟨q++ [Ck x],by simp [hq],by simp [Aj,hr],fun m=> ?_⟩;simp only [CR,Zz hi',jT,jI,yU hx,n1,jS,jU,jF,vk,vn,vs,vt,vl,vc,vr,hc',y4 hi (by omega:v.list.length<=_)];rw [Zw (by omega),Zw (by simp only [jC,jN];unfold Lim;omega),hqs];rfl) N 0 [] rfl (by omega) (by omega)
theorem xIG{N K:Nat}{k8:List Val->Int->Int->Val->Val->Option (Val×Bool)}{X:List Val}{L0 j:Int}{z b:Val}{l:List Val}(hl:l.length<=K)(hK:K<=137438953472)(hN:K<N)(hb:b.rows.length<=K):
 Cf N k8 N X L0 j l l.length 0 z b (Rowd.mk [] [])=bif l.all AU then k8 X L0 (i64.wrap (j+1)) z (.mk b.kind b.n b.step b.text b.list b.columns (b.rows++ [⟨l.map Val.n,[]⟩])) else some (y6 4,false):=by
 have key:∀(n i:Nat) (q:List Int),q.length=i->i<=l.length->l.length<n+i->Cf N k8 n X L0 j l l.length (i:Nat) z b (Rowd.mk q [])=bif(l.drop i).all AU then k8 X L0 (i64.wrap (j+1)) z (.mk b.kind b.n b.step b.text b.list b.columns (b.rows++ [⟨q++(l.drop i).map Val.n,[]⟩])) else some (y6 4,false):=by
  intro n
  induction n with
  |zero=>intro i q _ h1 h2;omega
  |succ n ih=>
   intro i q hq hi hn;cases hd:l.drop i with
   |nil=>
    have hi2:i=l.length:=by have:=BI hd;omega
    subst hi2;simp only [Cf,Z5,Z6,jF,List.all_nil,jT,Ys,Zb];rw [Zw (by simp only [jC,jN];unfold Lim;omega)]
   |cons y r=>
    obtain⟨h1,h2,h3⟩:=Ak hd;have hi' :(i:Int)<(l.length:Int):=by omega
    have:=ih (i+1) (q++ [y.n]) (by simp [hq]) (by omega) (by omega);rw [h3] at this;cases hk:AU y
    ·have hk' :(y.kind != 1)=true:=by unfold AU at hk;simp only [bne,hk];rfl
     simp only [Cf,Zz hi',jT,jI,yU h2,hk',yV,jS,List.all_cons,hk,ZQ,jF];rw [Zw (by omega)];rfl
    ·have hk' :(y.kind != 1)=false:=by unfold AU at hk;simp only [bne,hk];rfl
     simp only [Cf,Zz hi',jT,jI,yU h2,hk',jF,y4 h1 (by omega:l.length<=_),List.all_cons,hk,ZN];rw [Zw (by omega),Zw (by simp only [jC,jN];unfold Lim;omega),this];simp
 have:=key N 0 [] rfl (Z9 _) (by omega);simpa using this
theorem xIM{N K:Nat}{l:List Val}{z:Val}{cs:List Str}(hl:l.length<=K)(hv:∀x∈l,x.list.length<=K)(hK:K<=137438953472)(hN:K<N):
 BN N N l l.length 0 z (.mk 5 0 0 [] [] cs [])=some (Aj cs [] l,false):=
 zN (L:=fun m i q=>BN N m l l.length i z (.mk 5 0 0 [] [] cs q)) l (fun r q=>(Aj cs q r,false)) (fun i q=>q.length=i) (fun m q _=>by simp [BN,Aj])
  (fun i x r q hd hi hx hq=>by
    have hq:q.length=i:=hq;have hi' :(i:Int)<(l.length:Int):=by omega
    have inner:=fun m=>xIG (N:=N) (k8:=fun z0 z1 z2 z3 z4=>BN N m z0 z1 z2 z3 z4) (X:=l) (L0:=l.length) (j:=(i:Nat)) (z:=z) (b:= .mk 5 0 0 [] [] cs q) (hv x (Zs hx)) hK hN (by rw [vr];omega);simp only [vk,vn,vs,vt,vl,vc,vr] at inner;cases h1:(x.kind==3)
    ·refine .inr fun m=> ?_;have h1' :(x.kind != 3)=true:=by simp only [bne,h1];rfl
     have hr:AX cs.length x=false:=by unfold AX;rw [h1];rfl
     simp only [BN,Zz hi',jT,jI,yU hx,h1',yV,jS,Aj,List.all_cons,hr,ZQ,jF];rw [Zw (by omega)];rfl
    ·have h1' :(x.kind != 3)=false:=by simp only [bne,h1];rfl
     cases h2:(x.list.length==cs.length)
     ·refine .inr fun m=> ?_;have h2' :((x.list.length:Int) != (cs.length:Int))=true:=by simp at h2 ⊢;omega
      have hr:AX cs.length x=false:=by unfold AX;rw [h2];simp
      simp only [BN,Zz hi',jT,jI,yU hx,h1',jF,vc,h2',yV,jS,Aj,List.all_cons,hr,ZQ];rw [Zw (by omega)];rfl
     ·have h2' :((x.list.length:Int) != (cs.length:Int))=false:=by simp at h2 ⊢;omega
      cases h3:x.list.all AU
      ·refine .inr fun m=> ?_;have hr:AX cs.length x=false:=by unfold AX;rw [h3];simp
       simp only [BN,Zz hi',jT,jI,yU hx,h1',jF,vc,h2',inner,h3,Aj,List.all_cons,hr,ZQ];rw [Zw (by omega)]
      ·have hr:AX cs.length x=true:=by unfold AX;rw [h1,h2,h3];rfl
       refine .inl ⟨q++ [Ck x],by simp [hq],by simp [Aj,hr],fun m=> ?_⟩;simp only [BN,Zz hi',jT,jI,yU hx,h1',jF,vc,h2',inner,h3,y4 hi (by omega:l.length<=_)];rw [Zw (by omega)];rfl) N 0 [] rfl (by omega) (by omega)
def B1(a v:Val):Val×Bool:=bif(yY [2,3] [a,v]).2.1 then((yY [2,3] [a,v]).1,(yY [2,3] [a,v]).2.2) else
 (bif !AI (zC 32 [] a.text) then y6 7 else Aj (zC 32 [] a.text) [] v.list,false)
theorem xPg{K:Nat}(hK:24<=K/\K<=4294967000){a v:Val}(ha:a.Fit K)(hv:v.Fit K):Big fun N=>Fz N a v=some (B1 a v)/\G6 N a v=some (B1 a v).1:=by
 obtain⟨_,_,_,h5,_,_,_⟩:=Val.fit_iff.1 ha;obtain⟨_,_,_,_,h6,_,_⟩:=Val.fit_iff.1 hv;have ht:a.text.length<=K:=h5;refine((CI (by omega) (vs:=[a,v]) (ks:=[2,3]) (B2 ha hv) (by simp;omega) rfl).and (AT (K+1))).imp fun N ⟨⟨h1,h2⟩,hN⟩=> ?_;obtain⟨e1,e2,e3,_⟩:=BU (ks:=[2,3]) (B2 ha hv);have hfit:zO (K+1) (Str.Fit (K+1)) (zC 32 [] a.text):=⟨ZF Gw (by omega),fun x hx=>by have:=JG hx;simp only [jN] at this;show x.length<=_;omega⟩;have c1:=NP (N:=N) hfit (by omega) hN;have c2:=xAB (N:=N) hfit (by omega) hN;have s1:=NH (N:=N) (s:=a.text) (by omega);have s2:=xAi (N:=N) (s:=a.text) ht (by omega) hN;have hvl:∀x∈v.list,x.list.length<=K:=fun x hx=>(Val.fit_iff.1 (h6.2 x hx)).2.2.2.2.1.1;have l1:=xIM (N:=N) (z:=Val.mk 0 0 0 [] [] [] []) (cs:=zC 32 [] a.text) h6.1 hvl (by omega) (by omega);have l2:=xOQ (N:=N) (v:=v) (z:=Val.mk 0 0 0 [] [] [] []) (cs:=zC 32 [] a.text) h6.1 hvl (by omega) (by omega);cases g1:(yY [2,3] [a,v]).2.1
 ·have htag:=CJ g1;refine⟨?_,?_⟩
  ·simp only [Fz,Val.re_eq,h1,jS,g1,htag,jF,s1,c1,yV,l1,B1];cases AI (zC 32 [] a.text) <;>rfl
  ·simp only [G6,Val.re_eq,h2,jS,g1,jF,s2,c2,yZ,l2,B1];cases AI (zC 32 [] a.text) <;>rfl
 ·refine⟨?_,?_⟩
  ·simp only [Fz,Val.re_eq,h1,jS,e1,e2,e3,jE,ZB,Aq e1 e2 e3,g1,jT,B1];cases (yY [2,3] [a,v]).2.2 <;>rfl
  ·simp only [G6,Val.re_eq,h2,jS,g1,jT,B1]
theorem C0{α:Type}{f:α->Nat}{l:List α}{a:Nat}(h:∀x∈l,f x<=a):(l.map f).sum<=a*l.length:=by
 have:=xO3 (f:=f) (g:=fun _=>0) (l:=l) (a:=a) (fun x hx=>by have:=h x hx;omega);have z:∀l:List α,(l.map fun _=>0).sum=0:=by
  intro l
  induction l with
  |nil=>rfl
  |cons x l ih=>simp only [ZX,List.sum_cons,ih]
 rw [z,Nat.add_zero] at this;exact this
theorem xEs{c:List Str}(h:AI c=true):c.length<=4:=by
 unfold AI at h;simp only [Zv,Z1] at h;omega
theorem Ij{K:Nat}{cs:List Str}{rs:List Rowd}(hc:zO K (Str.Fit K) cs)(hr:zO K (Rowd.Fit K) rs):(Val.mk 5 0 0 [] [] cs rs).Fit K:=
 Val.fit_iff.2 ⟨yX (by show(-1000000:Int)<=5;omega) (by show(5:Int)<=1000000;omega),yX (by show(-1000000:Int)<=0;omega) (by show(0:Int)<=1000000;omega),yX (by show(-1000000:Int)<=0;omega) (by show(0:Int)<=1000000;omega),Z9 _,A2,hc,hr⟩
theorem Ii(cs:List Str)(rs:List Rowd):(Val.mk 5 0 0 [] [] cs rs).cnt=4+(cs.length+(rs.map BB).sum):=by
 rw [Im,vl,vc,vr,DG];simp only [Ys,List.sum_nil];omega
theorem xPe{a v:Val}(ha:a.Fit 1048576)(hv:v.Fit 1048576):Good1 1048576 (B1 a v):=by
 obtain⟨_,_,_,h5,_,_,_⟩:=Val.fit_iff.1 ha;obtain⟨_,_,_,_,h6,_,_⟩:=Val.fit_iff.1 hv;have ht:a.text.length<=1048576:=h5;have hl:v.list.length<=1048576:=h6.1;unfold B1;cases (yY [2,3] [a,v]).2.1
 ·cases hc:AI (zC 32 [] a.text)
  ·exact Flat.good (zV (yX (by omega) (by omega)))
  ·simp only [jF,jU];unfold Aj;cases hr:v.list.all (AX (zC 32 [] a.text).length)
   ·exact Flat.good (zV (yX (by omega) (by omega)))
   ·have h4:=xEs hc;have hrow:∀x∈v.list,x.list.length<=4:=fun x hx=>by
     have:=Zu.1 hr x hx;unfold AX at this;simp only [Zv,beq_iff_eq] at this;omega
    simp only [jT,jM];refine⟨Ij ⟨by omega,fun x hx=>by have:=JG hx;simp only [jN] at this;show x.length<=_;omega⟩ ⟨by simpa using hl,fun r hm=> ?_⟩,?_,fun h=>by cases h⟩
    ·obtain⟨x,hx,rfl⟩:=Zk.1 hm;have h7:=Val.fit_iff.1 (h6.2 x hx);refine⟨⟨by have:=hrow x hx;simp only [Ck,Zr];omega,fun n hn=> ?_⟩,A2⟩;obtain⟨y,hy,rfl⟩:=Zk.1 hn;exact(Val.fit_iff.1 (h7.2.2.2.2.1.2 y hy)).2.1
    ·show(Val.mk 5 0 0 [] [] _ _).cnt<=_;rw [Ii,Yb]
     have:=C0 (f:=BB ∘ Ck) (l:=v.list) (a:=4) (fun x hx=>by
      have:=hrow x hx;simp only [Function.comp,Ck,BB,DG,Zr,Ys,List.sum_nil];omega)
     omega
 ·exact Flat.good (Cj (B2 ha hv))
end Go.Ab
end
section
open Go.IntKind (i64)
namespace Go.Ab
def atR(at_:List Int)(r:Rowd):Rowd:=⟨at_.map fun k=>r.cells.getD k.toNat Di,r.frm⟩
theorem xIu{N K:Nat}{k17:List Int->List Rowd->Int->Int->Val->Val->Option (Val×Bool)}{at_ x8:List Int}{X:List Rowd}{a1 a2:Int}{z b:Val}{r:Rowd}{f:List Org}(hl:at_.length<=K)(hK:K<=137438953472)(hN:K<N)(hb:b.rows.length<=K)
 (hr:∀k∈at_,0<=k/\k<(r.cells.length:Int)):
 DS N k17 N x8 X a1 a2 at_ at_.length 0 z b r (Rowd.mk [] f)=k17 x8 X a1 (i64.wrap (a2+1)) z (.mk b.kind b.n b.step b.text b.list b.columns (b.rows++ [⟨at_.map fun k=>r.cells.getD k.toNat Di,f⟩])):=by
 have key:∀(n i:Nat) (q:List Int),q.length=i->i<=at_.length->at_.length<n+i->DS N k17 n x8 X a1 a2 at_ at_.length (i:Nat) z b r (Rowd.mk q f)=
  k17 x8 X a1 (i64.wrap (a2+1)) z (.mk b.kind b.n b.step b.text b.list b.columns (b.rows++ [⟨q++(at_.drop i).map fun k=>r.cells.getD k.toNat Di,f⟩])):=by
  intro n
  induction n with
  |zero=>intro i q _ h1 h2;omega
  |succ n ih=>
   intro i q hq hi hn;cases hd:at_.drop i with
   |nil=>
    have hi2:i=at_.length:=by have:=BI hd;omega
    subst hi2;simp only [DS,Z5,Z6,jF,Ys,Zb];rw [Zw (by simp only [jC,jN];unfold Lim;omega)]
   |cons y l=>
    obtain⟨h1,h2,h3⟩:=Ak hd;have hi' :(i:Int)<(at_.length:Int):=by omega
    have hy:=hr y (Zs h2);have:=ih (i+1) (q++ [r.cells.getD y.toNat Di]) (by simp [hq]) (by omega) (by omega);rw [h3] at this;simp only [DS,Zz hi',jT,jI,yU h2,y4 h1 (by omega:at_.length<=_)];rw [Zw (by omega),Zw hy,Zw (by simp only [jC,jN];unfold Lim;omega),this];simp
 have:=key N 0 [] rfl (Z9 _) (by omega);simpa using this
theorem xM8{N K:Nat}{k12:List Str->Int->Val->Val->Val->Option Val}{cs:List Str}{j:Nat}{v z b:Val}{r:Rowd}{f:List Org}(hl:cs.length<=K)(hK:K<=137438953472)(hN:K<N)(hb:b.rows.length<=K)(hc:v.columns.length<=K)
 (hj:v.rows[j]? =some r) (hr:∀s∈cs,0<=yT v.columns s 0/\yT v.columns s 0<(r.cells.length:Int)):
 Dy N k12 N cs (j:Nat) 0 v z b (Rowd.mk [] f)=k12 cs (i64.wrap ((j:Nat)+1)) v z (.mk b.kind b.n b.step b.text b.list b.columns (b.rows++ [⟨cs.map fun s=>r.cells.getD (yT v.columns s 0).toNat Di,f⟩])):=by
 have hjl:=(Zt.1 hj).1
 have key:∀(n i:Nat) (q:List Int),q.length=i->i<=cs.length->cs.length<n+i->Dy N k12 n cs (j:Nat) (i:Nat) v z b (Rowd.mk q f)=
  k12 cs (i64.wrap ((j:Nat)+1)) v z (.mk b.kind b.n b.step b.text b.list b.columns (b.rows++ [⟨q++(cs.drop i).map fun s=>r.cells.getD (yT v.columns s 0).toNat Di,f⟩])):=by
  intro n
  induction n with
  |zero=>intro i q _ h1 h2;omega
  |succ n ih=>
   intro i q hq hi hn;cases hd:cs.drop i with
   |nil=>
    have hi2:i=cs.length:=by have:=BI hd;omega
    subst hi2;simp only [Dy,Z5,Z6,jF,Ys,Zb];rw [Zw (by simp only [jC,jN];unfold Lim;omega)]
   |cons y l=>
    obtain⟨h1,h2,h3⟩:=Ak hd;have hi' :(i:Int)<(cs.length:Int):=by omega
    have hy:=hr y (Zs h2);have:=ih (i+1) (q++ [r.cells.getD (yT v.columns y 0).toNat Di]) (by simp [hq]) (by omega) (by omega);rw [h3] at this;simp only [Dy,Zz hi',jT,jI,yU h2,yU hj,y4 h1 (by omega:cs.length<=_),BX (N:=N) (v:=v) (s:=y) (by omega) (by omega),jS];rw [Zw (by omega),Zw (by omega),Zw hy,Zw (by simp only [jC,jN];unfold Lim;omega),this];simp
 have:=key N 0 [] rfl (Z9 _) (by omega);simpa using this
theorem xIt{N K:Nat}{rs:List Rowd}{at_:List Int}{z:Val}{cs:List Str}(hl:rs.length<=K)(ha:at_.length<=K)(hK:K<=137438953472)(hN:K<N)(hf:∀r∈rs,r.frm.length<=K)(hr:∀r∈rs,∀k∈at_,0<=k/\k<(r.cells.length:Int)):
 By N N at_ rs rs.length 0 z (.mk 5 0 0 [] [] cs [])=some (.mk 5 0 0 [] [] cs (rs.map (atR at_)),false):=
 zN (L:=fun m i q=>By N m at_ rs rs.length i z (.mk 5 0 0 [] [] cs q)) rs (fun l q=>(Val.mk 5 0 0 [] [] cs (q++l.map (atR at_)),false)) (fun i q=>q.length=i) (fun m q _=>by simp [By])
  (fun i x l q hd hi hx hq=>by
    have hq:q.length=i:=hq;have hi' :(i:Int)<(rs.length:Int):=by omega
    have hm:=Zs hx;have hfx:=hf x hm;have inner:=fun m=>xIu (N:=N) (k17:=fun z0 z1 z2 z3 z4 z5=>By N m z0 z1 z2 z3 z4 z5) (at_:=at_) (x8:=at_) (X:=rs) (a1:=rs.length) (a2:=(i:Nat)) (z:=z) (b:= .mk 5 0 0 [] [] cs q) (r:=x) (f:=[]++x.frm) ha hK hN (by rw [vr];omega) (hr x hm);simp only [vk,vn,vs,vt,vl,vc,vr] at inner;refine .inl ⟨q++ [atR at_ x],by simp [hq],by simp,fun m=> ?_⟩;simp only [By,Zz hi',jT,jI,yU hx,inner,y4 hi (by omega:rs.length<=_)];rw [Zw (by omega),Zw (by unfold Lim;omega)];rfl) N 0 [] rfl (by omega) (by omega)
theorem xM7{N K:Nat}{v z:Val}{cs:List Str}(hl:v.rows.length<=K)(ha:cs.length<=K)(hc:v.columns.length<=K)(hK:K<=137438953472)(hN:K<N)(hf:∀r∈v.rows,r.frm.length<=K)
 (hr:∀r∈v.rows,∀s∈cs,0<=yT v.columns s 0/\yT v.columns s 0<(r.cells.length:Int)):
 CN N N cs 0 v z (.mk 5 0 0 [] [] cs [])=some (.mk 5 0 0 [] [] cs (v.rows.map (atR (cs.map fun s=>yT v.columns s 0)))):=
 zN (L:=fun m i q=>CN N m cs i v z (.mk 5 0 0 [] [] cs q)) v.rows (fun l q=>Val.mk 5 0 0 [] [] cs (q++l.map (atR (cs.map fun s=>yT v.columns s 0)))) (fun i q=>q.length=i) (fun m q _=>by simp [CN])
  (fun i x l q hd hi hx hq=>by
    have hq:q.length=i:=hq;have hi' :(i:Int)<(v.rows.length:Int):=by omega
    have hm:=Zs hx;have hfx:=hf x hm;have inner:=fun m=>xM8 (N:=N) (k12:=fun z0 z1 z2 z3 z4=>CN N m z0 z1 z2 z3 z4) (cs:=cs) (j:=i) (v:=v) (z:=z) (b:= .mk 5 0 0 [] [] cs q) (r:=x) (f:=[]++x.frm) ha hK hN (by rw [vr];omega) hc hx (hr x hm);simp only [vk,vn,vs,vt,vl,vc,vr] at inner;refine .inl ⟨q++ [atR (cs.map fun s=>yT v.columns s 0) x],by simp [hq],by simp,fun m=> ?_⟩;simp only [CN,Zz hi',jT,jI,yU hx,inner,y4 hi (by omega:v.rows.length<=_)];rw [Zw (by omega),Zw (by unfold Lim;omega)];simp only [atR,Yb,jM];rfl) N 0 [] rfl (by omega) (by omega)
def zZ(cols:List Str)(s:Str):Bool:= !decide (yT cols s 0<0)
def Aa(cs:List Str)(v:Val):Val:=bif cs.all (zZ v.columns)&&AP cs then .mk 5 0 0 [] [] cs (v.rows.map (atR (cs.map fun s=>yT v.columns s 0))) else y6 7
theorem xIs{N K:Nat}{v z:Val}{cs:List Str}(hl:cs.length<=K)(hc:v.columns.length<=K)(hK:K<=137438953472)(hN:K<N)
 (hb:∀at_,at_=cs.map (fun s=>yT v.columns s 0)->(∀s∈cs,zZ v.columns s=true)->By N N at_ v.rows v.rows.length 0 z (.mk 5 0 0 [] [] cs [])=some (.mk 5 0 0 [] [] cs (v.rows.map (atR at_)),false)):
 Bz N N [] cs cs.length 0 v z (.mk 5 0 0 [] [] cs [])=some (Aa cs v,false):=by
 have key:∀(n i:Nat) (q:List Int),q=(cs.take i).map (fun s=>yT v.columns s 0)->(∀s∈cs.take i,zZ v.columns s=true)->i<=cs.length->cs.length<n+i->
  Bz N n q cs cs.length (i:Nat) v z (.mk 5 0 0 [] [] cs [])=some (Aa cs v,false):=by
  intro n
  induction n with
  |zero=>intro i q _ _ h1 h2;omega
  |succ n ih=>
   intro i q hq hok hi hn;cases hd:cs.drop i with
   |nil=>
    have hi2:i=cs.length:=by have:=BI hd;omega
    subst hi2;rw [ZK] at hq hok;have hall:cs.all (zZ v.columns)=true:=Zu.2 hok;simp only [Bz,Z5,Z6,jF,vc,JU (N:=N) (xs:=cs) (by omega) (by omega),jS,yV,hb q hq hok,Aa,hall,ZN];subst hq;cases AP cs <;>rfl
   |cons y l=>
    obtain⟨h1,h2,h3⟩:=Ak hd;have hi' :(i:Int)<(cs.length:Int):=by omega
    have htk:cs.take (i+1)=cs.take i++ [y]:=by rw [X3,h2];rfl
    have hql:q.length<=K:=by rw [hq,Zr,ZT];omega
    by_cases hneg:yT v.columns y 0<0
    ·have hall:cs.all (zZ v.columns)=false:=by
      rw [X0];exact⟨y,Zs h2,by simp [zZ,hneg]⟩
     simp only [Bz,Zz hi',jT,jI,yU h2,Bw (N:=N) (v:=v) (s:=y) (by omega) (by omega),jS,Zz hneg,yV,Aa,hall,ZQ,jF];rw [Zw (by omega)];rfl
    ·have hok' :∀s∈cs.take (i+1),zZ v.columns s=true:=by
      rw [htk];intro s hs;rcases Za.1 hs with hs|hs
      ·exact hok s hs
      ·obtain rfl:=Zh.1 hs;simp [zZ,hneg]
     have:=ih (i+1) (q++ [yT v.columns y 0]) (by rw [htk,hq];simp) hok' (by omega) (by omega);simp only [Bz,Zz hi',jT,jI,yU h2,Bw (N:=N) (v:=v) (s:=y) (by omega) (by omega),jS,Zy hneg,jF,y4 h1 (by omega:cs.length<=_)];rw [Zw (by omega),Zw (by simp only [jC,jN];unfold Lim;omega),this]
 exact key N 0 [] rfl (fun s hs=>by simp at hs) (Z9 _) (by omega)
theorem xM6{N K:Nat}{v z:Val}{cs:List Str}(hne:cs≠ [])(hl:cs.length<=K)(hc:v.columns.length<=K)(hK:K<=137438953472)(hN:K<N)
 (hb:(∀s∈cs,zZ v.columns s=true)->CN N N cs 0 v z (.mk 5 0 0 [] [] cs [])=some (.mk 5 0 0 [] [] cs (v.rows.map (atR (cs.map fun s=>yT v.columns s 0))))):
 CO N N cs 0 v z (.mk 5 0 0 [] [] cs [])=some (Aa cs v):=by
 have key:∀(n i:Nat),(∀s∈cs.take i,zZ v.columns s=true)->(i=0\/AP cs=true)->i<=cs.length->cs.length<n+i->
  CO N n cs (i:Nat) v z (.mk 5 0 0 [] [] cs [])=some (Aa cs v):=by
  intro n
  induction n with
  |zero=>intro i _ _ h1 h2;omega
  |succ n ih=>
   intro i hok hdi hi hn;cases hd:cs.drop i with
   |nil=>
    have hi2:i=cs.length:=by have:=BI hd;omega
    subst hi2;rw [ZK] at hok;have hall:cs.all (zZ v.columns)=true:=Zu.2 hok;have hdd:AP cs=true:=by
     rcases hdi with h|h
     ·exact absurd (Z0.1 h) hne
     ·exact h
    simp only [CO,Z5,Z6,jF,hb hok,Aa,hall,hdd,ZN,jT]
   |cons y l=>
    obtain⟨h1,h2,h3⟩:=Ak hd;have hi' :(i:Int)<(cs.length:Int):=by omega
    have htk:cs.take (i+1)=cs.take i++ [y]:=by rw [X3,h2];rfl
    by_cases hneg:yT v.columns y 0<0
    ·have hall:cs.all (zZ v.columns)=false:=by
      rw [X0];exact⟨y,Zs h2,by simp [zZ,hneg]⟩
     simp only [CO,Zz hi',jT,jI,yU h2,BX (N:=N) (v:=v) (s:=y) (by omega) (by omega),jS,Zz hneg,yZ,Aa,hall,ZQ,jF];rw [Zw (by omega)];rfl
    ·cases hdd:AP cs
     ·simp only [CO,Zz hi',jT,jI,yU h2,BX (N:=N) (v:=v) (s:=y) (by omega) (by omega),jS,Zy hneg,jF,IC (N:=N) (xs:=cs) (by omega) (by omega),hdd,jV,yZ,Aa,YQ];rw [Zw (by omega)];rfl
     ·have hok' :∀s∈cs.take (i+1),zZ v.columns s=true:=by
       rw [htk];intro s hs;rcases Za.1 hs with hs|hs
       ·exact hok s hs
       ·obtain rfl:=Zh.1 hs;simp [zZ,hneg]
      have:=ih (i+1) hok' (.inr hdd) (by omega) (by omega);simp only [CO,Zz hi',jT,jI,yU h2,BX (N:=N) (v:=v) (s:=y) (by omega) (by omega),jS,Zy hneg,jF,IC (N:=N) (xs:=cs) (by omega) (by omega),hdd,jU,y4 h1 (by omega:cs.length<=_),this];rw [Zw (by omega)]
 exact key N 0 (fun s hs=>by simp at hs) (.inl rfl) (Z9 _) (by omega)
def AK(a v:Val):Val×Bool:=bif(yY [2,5] [a,v]).2.1 then((yY [2,5] [a,v]).1,(yY [2,5] [a,v]).2.2) else(Aa (zC 32 [] a.text) v,false)
theorem HL{cols:List Str}{s:Str}(h:zZ cols s=true):0<=yT cols s 0/\yT cols s 0<(cols.length:Int):=by
 have h0:¬yT cols s 0<0:=by simpa [zZ] using h
 rcases Fs (s:=s) (xs:=cols) (j:=0) with h|⟨_,h⟩ <;>omega
theorem xI9{K:Nat}(hK:24<=K/\K<=4294967000){a v:Val}(ha:a.Fit K)(hv:v.Fit K):Big fun N=>Fx N a v=some (AK a v)/\GZ N a v=some (AK a v).1:=by
 obtain⟨_,_,_,h5,_,_,_⟩:=Val.fit_iff.1 ha;obtain⟨_,_,_,_,_,h6,h7⟩:=Val.fit_iff.1 hv;have ht:a.text.length<=K:=h5;have hcl:v.columns.length<=K:=h6.1;have hrl:v.rows.length<=K:=h7.1;refine((CI (by omega) (vs:=[a,v]) (ks:=[2,5]) (B2 ha hv) (by simp;omega) rfl).and (AT (K+1))).imp fun N ⟨⟨h1,h2⟩,hN⟩=> ?_;obtain⟨e1,e2,e3,_⟩:=BU (ks:=[2,5]) (B2 ha hv);have hlen:(zC 32 [] a.text).length<=K+1:=ZF Gw (by omega);have s1:=NH (N:=N) (s:=a.text) (by omega);have s2:=xAi (N:=N) (s:=a.text) ht (by omega) hN;cases g1:(yY [2,5] [a,v]).2.1
 ·have htag:=CJ g1;obtain⟨g2,g3⟩:=AR g1;have hrows:=C2 (g2 v (by simp)) (kb2 g3).2;have hat:(∀s∈zC 32 [] a.text,zZ v.columns s=true)->∀r∈v.rows,∀s∈zC 32 [] a.text,0<=yT v.columns s 0/\yT v.columns s 0<(r.cells.length:Int):=fun h r hr s hs=>by
   rw [hrows r hr];exact HL (h s hs)
  have hfr:∀r∈v.rows,r.frm.length<=K+1:=fun r hr=>ZF (h7.2 r hr).2.1 (by omega)
  have l1:=xIs (N:=N) (K:=K+1) (v:=v) (z:=Val.mk 0 0 0 [] [] [] []) (cs:=zC 32 [] a.text) hlen (by omega) (by omega) hN (fun at_ e h=>xIt (K:=K+1) (by omega) (by rw [e,Zr];exact hlen) (by omega) hN hfr (fun r hr k hk=>by
   subst e;obtain⟨s,hs,rfl⟩:=Zk.1 hk;exact hat h r hr s hs))
  have l2:=xM6 (N:=N) (K:=K+1) (v:=v) (z:=Val.mk 0 0 0 [] [] [] []) (cs:=zC 32 [] a.text) JH hlen (by omega) (by omega) hN (fun h=>xM7 (K:=K+1) (by omega) hlen (by omega) (by omega) hN hfr (hat h));refine⟨?_,?_⟩
  ·simp only [Fx,Val.re_eq,h1,jS,g1,htag,jF,s1,l1,AK]
  ·simp only [GZ,Val.re_eq,h2,jS,g1,jF,s2,l2,AK]
 ·refine⟨?_,?_⟩
  ·simp only [Fx,Val.re_eq,h1,jS,e1,e2,e3,jE,ZB,Aq e1 e2 e3,g1,jT,AK];cases (yY [2,5] [a,v]).2.2 <;>rfl
  ·simp only [GZ,Val.re_eq,h2,jS,g1,jT,AK]
theorem C1{v:Val}(hv:yW v=true)(hk:v.kind=5):AI v.columns=true/\v.rows.length<=12:=by
 rw [AH,hk] at hv;simp only [show((5:Int)==1)=false from rfl,show((5:Int)==2)=false from rfl,show((5:Int)==4)=false from rfl,show((5:Int)==6)=false from rfl,show((5:Int)==5)=true from rfl,jT,jF,Zv,zS,Z1] at hv;obtain⟨_,_,_,_,h1,h2,_⟩:=hv;exact⟨h1,h2⟩
theorem DM{s:Str}:∀ {xs:List Str} {j:Nat},0<=yT xs s j->s∈xs
 | [],j,h=>by simp [yT] at h
 |x::r,j,h=>by
  simp only [yT] at h;cases hx:x==s
  ·rw [hx] at h;exact Zq _ (DM h)
  ·rw [beq_iff_eq] at hx;subst hx;exact Zp
theorem xJW{l:List Str}(h:∀s∈l,1<=s.length):l.length<=(l.map List.length).sum:=by
 induction l with
 |nil=>exact Zi _
 |cons x l ih=>
  have h1:=h x Zp;have h2:=ih fun s hs=>h s (Zq _ hs);simp only [jC,ZX,List.sum_cons];omega
theorem xI7{a v:Val}(ha:a.Fit 1048576)(hv:v.Fit 1048576):Good1 1048576 (AK a v):=by
 obtain⟨_,_,_,h5,_,_,_⟩:=Val.fit_iff.1 ha;obtain⟨_,_,_,_,_,h6,h7⟩:=Val.fit_iff.1 hv;have ht:a.text.length<=1048576:=h5;unfold AK;cases g1:(yY [2,5] [a,v]).2.1
 ·obtain⟨g2,g3⟩:=AR g1;obtain⟨hc,hr⟩:=C1 (g2 v (by simp)) (kb2 g3).2;simp only [jF];unfold Aa;cases hk:((zC 32 [] a.text).all (zZ v.columns)&&AP (zC 32 [] a.text))
  ·exact Flat.good (zV (yX (by omega) (by omega)))
  ·simp only [Zv] at hk;have hin:=Zu.1 hk.1;have hne:∀s∈zC 32 [] a.text,1<=s.length:=fun s hs=>by
    have hm:=DM (HL (hin s hs)).1;obtain⟨j,hj⟩:=Yc hm;unfold AI at hc;simp only [Zv] at hc;have:=Bp hc.1 j s hj;unfold Az at this;simp only [Zv,Z1] at this;omega
   have hl:(zC 32 [] a.text).length<=1048576:=by
    have e1:=xJW hne;have e2:=Gx (c:=32) (l:=a.text) (pre:=[]);simp only [jN] at e2;omega
   simp only [jT];refine⟨Ij ⟨hl,fun x hx=>by have:=JG hx;simp only [jN] at this;show x.length<=_;omega⟩ ⟨by simp only [Zr];omega,fun r hm=> ?_⟩,?_,fun h=>by cases h⟩
   ·obtain⟨x,hx,rfl⟩:=Zk.1 hm;have hx7:=h7.2 x hx;refine⟨⟨by simp only [atR,Zr];omega,fun n hn=> ?_⟩,hx7.2⟩;simp only [atR] at hn;obtain⟨k,_,rfl⟩:=Zk.1 hn;rcases ZG k.toNat x.cells.length with hk|hk
    ·have:x.cells.getD k.toNat Di=x.cells[k.toNat]:=by simp [List.getD,hk]
     rw [this];exact hx7.1.2 _ (Z4 hk)
    ·have:x.cells.getD k.toNat Di=0:=by simp [List.getD,ZP hk];rfl
     rw [this];exact yX (by omega) (by omega)
   ·show(Val.mk 5 0 0 [] [] _ _).cnt<=_;rw [Ii,Yb]
    have:=C0 (f:=BB ∘ atR ((zC 32 [] a.text).map fun s=>yT v.columns s 0)) (l:=v.rows) (a:=4000000) (fun x hx=>by
     have e1:x.frm.length<=1048576:=(h7.2 x hx).2.1;have e2:=C0 (f:=Fn) (l:=x.frm) (a:=2) (fun _ _=>Zi _);simp only [Function.comp,atR,BB,DG,Zr];omega)
    omega
 ·exact Flat.good (Cj (B2 ha hv))
end Go.Ab
end
section
namespace Go.Ab
theorem Iy(a b:Org):C8 a b=olt a b:=by
 unfold C8 olt;cases decide (a.cell<b.cell) <;>cases (a.cell==b.cell) <;>rfl
def SO(l:List Org):Prop:=l.Pairwise fun x y=>olt x y=true
theorem Hh{x y z:Org}(h:olt x y=true)(g:olt y z=true):olt x z=true:=Bf.trans _ _ _ h g
theorem OE{x y:Org}(h:olt x y=true):olt y x=false:=by
 cases g:olt y x with
 |false=>rfl
 |true=>have:=Hh h g;rw [Bf.irrefl] at this;cases this
theorem OG{x y:Org}(h:olt x y=true):x≠y:=by rintro rfl;rw [Bf.irrefl] at h;cases h
theorem Oa:∀ {l m:List Org},SO l->SO m->(∀x,x∈l↔x∈m)->l=m
 | [],[],_,_,_=>rfl
 | [],y::m,_,_,h=>absurd ((h y).2 Zp) (by simp)
 |x::l,[],_,_,h=>absurd ((h x).1 Zp) (by simp)
 |x::l,y::m,hl,hm,h=>by
  unfold SO at hl hm;rw [ZS] at hl hm;have e:x=y:=by
   rcases Zo.1 ((h x).1 Zp) with e|h1
   ·exact e
   ·rcases Zo.1 ((h y).2 Zp) with e|h2
    ·exact e.symm
    ·have:=OE (hl.1 y h2);rw [hm.1 x h1] at this;cases this
  subst e;refine Zd (x:: ·) (Oa hl.2 hm.2 fun z=>⟨fun hz=> ?_,fun hz=> ?_⟩)
  ·rcases Zo.1 ((h z).1 (Zq _ hz)) with e|h1
   ·exact absurd e.symm (OG (hl.1 z hz))
   ·exact h1
  ·rcases Zo.1 ((h z).2 (Zq _ hz)) with e|h1
   ·exact absurd e.symm (OG (hm.1 z hz))
   ·exact h1
theorem xCQ{xs:List Org}(h:Ap xs=true):SO xs:=by
 have adj:∀i (hi:i+1<xs.length),olt xs[i] xs[i+1]=true:=fun i hi=>by
  have:=Bp h (i+1) xs[i+1] (Zx hi);simp only [DF,Zj,Zv,YW,Z1,X9] at this;rcases this.2.2 with h0|h0
  ·omega
  ·rw [Iy,ZW,Zx (by omega)] at h0;exact h0
 have far:∀(m i:Nat) (hi:i+1+m<xs.length),olt (xs[i]'(by omega)) xs[i+1+m]=true:=by
  intro m
  induction m with
  |zero=>intro i hi;exact adj i hi
  |succ m ih=>intro i hi;exact Hh (ih i (by omega)) (adj (i+1+m) (by omega))
 unfold SO;rw [Yk];intro i j hi hj hij;have:=far (j - i - 1) i (by omega);simpa [show i+1+(j - i - 1)=j by omega] using this
theorem JI:∀(os acc:List Org),acc.Nodup->(os.foldl tH acc).Nodup/\∀x,x∈os.foldl tH acc↔x∈acc\/x∈os
 | [],acc,h=>⟨h,fun x=>by simp⟩
 |o::os,acc,h=>by
  rw [List.foldl_cons];have hs:(tH acc o).Nodup/\∀x,x∈tH acc o↔x∈acc\/x=o:=by
   unfold tH;by_cases hc:acc.contains o=true
   ·rw [Zw hc];have hm:o∈acc:=by simpa using hc
    exact⟨h,fun x=>⟨.inl,fun g=>g.elim id fun e=>e ▸ hm⟩⟩
   ·rw [Zf hc];have hm:o ∉ acc:=by simpa using hc
    refine⟨?_,fun x=>by simp⟩;rw [Yq];exact⟨h,by simp,fun a ha b hb=>by simp at hb;subst hb;rintro rfl;exact hm ha⟩
  obtain⟨i1,i2⟩:=JI os (tH acc o) hs.1;refine⟨i1,fun x=> ?_⟩;rw [i2,hs.2];simp only [Zo];constructor
  ·rintro ((h|h) |h)
   ·exact .inl h
   ·exact .inr (.inl h)
   ·exact .inr (.inr h)
  ·rintro (h|h|h)
   ·exact .inl (.inl h)
   ·exact .inl (.inr h)
   ·exact .inr h
theorem Hg{a b:List Org}{x:Org}:x∈qX a b↔x∈a\/x∈b:=by
 unfold qX;rw [Xx];unfold ded;rw [(JI (a++b) [] Xe).2 x];simp
theorem Kt(a b:List Org):SO (qX a b):=by
 have hs:(qX a b).Pairwise fun x y=>(!olt y x)=true:=XJ (fun x y z h1 h2=>by
  simp only [ZD] at h1 h2 ⊢;exact Bf.ntrans _ _ _ h2 h1) (fun x y=>by
  cases h1:olt y x with
  |false=>rfl
  |true=>rw [OE h1];rfl) _
 have hn:(qX a b).Nodup:=(Xc _ _).nodup_iff.2 (JI (a++b) [] Xe).1;refine(hs.and hn).imp fun {x y} h=> ?_;cases h1:olt x y with
 |true=>rfl
 |false=>exact absurd (KD x y h1 (by simpa using h.1)) h.2
theorem xBa(a b:List Org):(qX a b).length<=a.length+b.length:=by
 unfold qX;rw [YG];have:∀(os acc:List Org),(os.foldl tH acc).length<=acc.length+os.length:=by
  intro os
  induction os with
  |nil=>intro acc;simp
  |cons o os ih=>
   intro acc;rw [List.foldl_cons];refine ZF (ih _) ?_;unfold tH;split <;>simp <;>omega
 have:=this (a++b) [];simpa [ded] using this
def mrg:List Org->List Org->List Org
 | [],y=>y
 |a::x,[]=>a::x
 |a::x,b::y=>bif olt a b then a::mrg x (b::y) else bif olt b a then b::mrg (a::x) y else a::mrg x y
termination_by x y=>x.length+y.length
theorem Nw(x:List Org):mrg x []=x:=by cases x <;>simp [mrg]
theorem xJ3:∀(n:Nat) (x y:List Org),x.length+y.length<=n->SO x->SO y->SO (mrg x y)/\∀z,z∈mrg x y↔z∈x\/z∈y:=by
 intro n
 induction n with
 |zero=>
  intro x y h _ _;have e1:x=[]:=Z0.1 (by omega);have e2:y=[]:=Z0.1 (by omega);subst e1 e2;simp [mrg,SO]
 |succ n ih=>
  intro x y h hx hy;cases x with
  |nil=>rw [mrg];exact⟨hy,fun z=>by simp⟩
  |cons a x=>
   cases y with
   |nil=>rw [mrg];exact⟨hx,fun z=>by simp⟩
   |cons b y=>
    have hx' :SO x:=(ZS.1 hx).2;have hy' :SO y:=(ZS.1 hy).2;have hax:=(ZS.1 hx).1;have hby:=(ZS.1 hy).1;simp only [jC] at h;rw [mrg];cases h1:olt a b with
    |true=>
     obtain⟨i1,i2⟩:=ih x (b::y) (by simp;omega) hx' hy;rw [jT];refine⟨ZS.2 ⟨fun z hz=> ?_,i1⟩,fun z=> ?_⟩
     ·rcases(i2 z).1 hz with g|g
      ·exact hax z g
      ·rcases Zo.1 g with rfl|g
       ·exact h1
       ·exact Hh h1 (hby z g)
     ·rw [Zo,i2,Zo,Zo,or_assoc]
    |false=>
     rw [jF];cases h2:olt b a with
     |true=>
      obtain⟨i1,i2⟩:=ih (a::x) y (by simp;omega) hx hy';rw [jT];refine⟨ZS.2 ⟨fun z hz=> ?_,i1⟩,fun z=> ?_⟩
      ·rcases(i2 z).1 hz with g|g
       ·rcases Zo.1 g with rfl|g
        ·exact h2
        ·exact Hh h2 (hax z g)
       ·exact hby z g
      ·rw [Zo,i2,Zo (a:=z) (b:=b)];constructor
       ·rintro (h|h|h)
        ·exact .inr (.inl h)
        ·exact .inl h
        ·exact .inr (.inr h)
       ·rintro (h|h|h)
        ·exact .inr (.inl h)
        ·exact .inl h
        ·exact .inr (.inr h)
     |false=>
      have e:=KD a b h1 h2;subst e;obtain⟨i1,i2⟩:=ih x y (by omega) hx' hy';rw [jF];refine⟨ZS.2 ⟨fun z hz=> ?_,i1⟩,fun z=> ?_⟩
      ·rcases(i2 z).1 hz with g|g
       ·exact hax z g
       ·exact hby z g
      ·rw [Zo,i2,Zo,Zo];constructor
       ·rintro (h|h|h)
        ·exact .inl (.inl h)
        ·exact .inl (.inr h)
        ·exact .inr (.inr h)
       ·rintro ((h|h) |h|h)
        ·exact .inl h
        ·exact .inr (.inl h)
        ·exact .inl h
        ·exact .inr (.inr h)
theorem Nx{x y:List Org}(hx:SO x)(hy:SO y):mrg x y=qX x y:=by
 obtain⟨h1,h2⟩:=xJ3 _ x y (Zi _) hx hy;exact Oa h1 (Kt x y) fun z=>(h2 z).trans Hg.symm
theorem xJm{N:Nat}{x y:List Org}(hl:x.length+y.length<=137438953472):∀(n i j:Nat) (acc:List Org),i<=x.length->j<=y.length->(x.length - i)+(y.length - j)<n->acc.length<=i+j->
 A4 N n x y acc (i:Int) (j:Int)=some (acc++mrg (x.drop i) (y.drop j)):=by
 intro n
 induction n with
 |zero=>intro i j acc _ _ h;omega
 |succ n ih=>
  intro i j acc hi hj hn hacc;have lim:∀(o:Org),List.length acc+List.length [o]<=Lim:=fun o=>by simp only [jC,jN];unfold Lim;omega
  have sx:∀a,x.drop i=a::x.drop (i+1)->i<x.length->A4 N n x y (acc++ [a]) (IntKind.i64.wrap ((i:Int)+1)) (j:Int)=some (acc++a::mrg (x.drop (i+1)) (y.drop j)):=by
   intro a _ hlt;rw [wn (i+1) (by omega) (by omega),ih (i+1) j (acc++ [a]) hlt hj (by omega) (by simp;omega)];simp
  have sy:∀b,y.drop j=b::y.drop (j+1)->j<y.length->A4 N n x y (acc++ [b]) (i:Int) (IntKind.i64.wrap ((j:Int)+1))=some (acc++b::mrg (x.drop i) (y.drop (j+1))):=by
   intro b _ hlt;rw [wn (j+1) (by omega) (by omega),ih i (j+1) (acc++ [b]) hi hlt (by omega) (by simp;omega)];simp
  by_cases h1:i<x.length
  ·have d1:(decide ((i:Int)<(x.length:Int)))=true:=Zz (by omega);have ex:x.drop i=x[i]::x.drop (i+1):=Yy h1;have gx:x.getD (Int.toNat (i:Int)) Do=x[i]:=by rw [jI];exact yU (Zx h1) _
   by_cases h2:j<y.length
   ·have ey:y.drop j=y[j]::y.drop (j+1):=Yy h2;have gy:y.getD (Int.toNat (j:Int)) Do=y[j]:=by rw [jI];exact yU (Zx h2) _
    have e2:((j:Int)==(y.length:Int))=false:=ZV.2 (by omega);have e3:((i:Int)==(x.length:Int))=false:=ZV.2 (by omega);have n1:(0:Int)<=i/\(i:Int)<(x.length:Int):=by omega
    have n2:(0:Int)<=j/\(j:Int)<(y.length:Int):=by omega
    simp only [A4,d1,e2,e3,jT,jF,Zw n1,Zw n2,gx,gy,Ke,jS,Iy,Zw (lim _)];rw [ex,ey,mrg];cases h3:olt x[i] y[j] with
    |true=>rw [jT,jT,sx _ ex h1,ey]
    |false=>
     rw [jF,jF];cases h4:olt y[j] x[i] with
     |true=>rw [jT,jT,sy _ ey h2,ex]
     |false=>
      rw [jF,jF,wn (i+1) (by omega) (by omega),wn (j+1) (by omega) (by omega),ih (i+1) (j+1) (acc++ [x[i]]) (by omega) (by omega) (by omega) (by simp;omega)];simp
   ·have ej:j=y.length:=by omega
    have e2:((j:Int)==(y.length:Int))=true:=by rw [ej];simp
    have n1:(0:Int)<=i/\(i:Int)<(x.length:Int):=by omega
    simp only [A4,d1,e2,jT,Zw n1,gx,Zw (lim _)];rw [sx _ ex h1,ej,Yh,Nw,Nw,ex]
  ·have ei:i=x.length:=by omega
   have d1:(decide ((i:Int)<(x.length:Int)))=false:=Zy (by omega);by_cases h2:j<y.length
   ·have ey:y.drop j=y[j]::y.drop (j+1):=Yy h2;have gy:y.getD (Int.toNat (j:Int)) Do=y[j]:=by rw [jI];exact yU (Zx h2) _
    have d2:(decide ((j:Int)<(y.length:Int)))=true:=Zz (by omega);have e2:((j:Int)==(y.length:Int))=false:=ZV.2 (by omega);have e3:((i:Int)==(x.length:Int))=true:=by rw [ei];simp
    have n2:(0:Int)<=j/\(j:Int)<(y.length:Int):=by omega
    simp only [A4,d1,d2,e2,e3,jT,jF,Zw n2,gy,Zw (lim _)];rw [sy _ ey h2,ei,Yh,mrg,mrg,ey]
   ·have ej:j=y.length:=by omega
    have d2:(decide ((j:Int)<(y.length:Int)))=false:=Zy (by omega);simp only [A4,d1,d2,jF];rw [ei,ej,Yh,Yh,mrg];simp
theorem xAX{N:Nat}{x y:List Org}(hx:SO x)(hy:SO y)(hl:x.length+y.length<=137438953472)(hN:x.length+y.length<N):Gj N x y=some (qX x y):=by
 unfold Gj;rw [<-Nx hx hy];exact xJm hl N 0 0 [] (Z9 _) (Z9 _) (by omega) (Z9 _)
theorem xHT{N:Nat}{x y:List Org}(hl:x.length+y.length<=1000000000000):H5 N x y=some (qX x y):=by
 unfold H5 zAt;rw [Zw hl]
end Go.Ab
end
section
open Go.IntKind (i64)
namespace Go.Ab
def Am(k:Nat)(r t:Rowd):Rowd:=⟨(r.cells++t.cells.take k)++t.cells.drop (k+1),qX r.frm t.frm⟩
def jr(i k:Nat)(r:Rowd):List Rowd->List Rowd
 | []=> []
 |t::ts=>bif r.cells.getD i Di==t.cells.getD k Di then Am k r t::jr i k r ts else jr i k r ts
def jrs(i k:Nat)(ts:List Rowd):List Rowd->List Rowd
 | []=> []
 |r::rs=>jr i k r ts++jrs i k ts rs
theorem Jh{i k:Nat}{r:Rowd}:∀ {ts:List Rowd},(jr i k r ts).length<=ts.length
 | []=>Zi _
 |t::ts=>by
  have:=Jh (i:=i) (k:=k) (r:=r) (ts:=ts);unfold jr;cases (r.cells.getD i Di==t.cells.getD k Di) <;>simp <;>omega
def C7(K k:Nat)(ts:List Rowd):Prop:=∀t∈ts,k<t.cells.length/\t.cells.length<=K/\t.frm.length<=K
theorem xIr{N K:Nat}{k13:Int->Int->List Rowd->Int->Int->Val->Val->Val->Option (Val×Bool)}{i k:Nat}{X:List Rowd}{a1 a2:Int}{ts:List Rowd}{v z:Val}{cs:List Str}{r:Rowd}(hK:K<=4294967296)(hN:K<N)(hl:ts.length<=K)
 (hr:i<r.cells.length/\r.cells.length<=K/\r.frm.length<=K) (ht:C7 K k ts):∀(n j:Nat) (q:List Rowd),q.length+(ts.length - j)<=8589934592->j<=ts.length->ts.length<n+j->
 DR N k13 n (i:Int) (k:Int) X a1 a2 ts (ts.length:Int) (j:Int) v z (.mk 5 0 0 [] [] cs q) r=k13 (i:Int) (k:Int) X a1 (i64.wrap (a2+1)) v z (.mk 5 0 0 [] [] cs (q++jr i k r (ts.drop j))):=by
 intro n
 induction n with
 |zero=>intro j q _ h1 h2;omega
 |succ n ih=>
  intro j q hq hj hn;cases hd:ts.drop j with
  |nil=>
   have hj2:j=ts.length:=by have:=BI hd;omega
   subst hj2;simp only [DR,Z5,Z6,jF,jr,Zb]
  |cons t l=>
   obtain⟨h1,h2,h3⟩:=Ak hd;have hj' :(j:Int)<(ts.length:Int):=by omega
   obtain⟨t1,t2,t3⟩:=ht t (Zs h2);have w:i64.wrap ((k:Int)+1)=((k+1:Nat):Int):=wn _ (by omega) (by omega);have g:(List.getD r.cells i Di != List.getD t.cells k Di)= !(List.getD r.cells i Di==List.getD t.cells k Di):=rfl;simp only [DR,Zz hj',jT,jI,yU h2,y4 h1 (by omega:ts.length<=_),w,jr,jM,Zj,g,vk,vn,vs,vt,vl,vc,vr];rw [Zw (by omega),Zw (by omega),Zw (by omega)];cases (List.getD r.cells i Di==List.getD t.cells k Di) with
   |false=>
    have:=ih (j+1) q (by omega) (by omega) (by omega);rw [h3] at this;simp only [jV,jT,jF];exact this
   |true=>
    have:=ih (j+1) (q++ [Am k r t]) (by simp;omega) (by omega) (by omega);rw [h3] at this;simp only [jU,jF,jT,xHT (N:=N) (x:=r.frm) (y:=t.frm) (by omega),jS];rw [Zw (by unfold Lim;omega),Zw (by omega),Zw (by simp only [ZT];unfold Lim;omega),Zw (by omega),Zw (by simp only [jA,ZT,Yx];unfold Lim;omega),Zw (by simp only [jC,jN];unfold Lim;omega)];rw [show(q++Am k r t::jr i k r l)=(q++ [Am k r t])++jr i k r l by simp];exact this
def CG(cs:List Str)(rows:List Rowd):Val:=bif decide ((rows.length:Int)>12) then y6 6 else .mk 5 0 0 [] [] cs rows
theorem xIq{N K:Nat}{i k:Nat}{rs:List Rowd}{v z:Val}{cs:List Str}(hK:K<=4294967296)(hN:K<N)(hK24:24<=K)(hrs:rs.length<=12)(hts:v.rows.length<=12)(hr:C7 K i rs)(ht:C7 K k v.rows):
 Bx N N (i:Int) (k:Int) rs (rs.length:Int) 0 v z (.mk 5 0 0 [] [] cs [])=some (CG cs (jrs i k v.rows rs),false):=
 zN (L:=fun m j q=>Bx N m (i:Int) (k:Int) rs (rs.length:Int) j v z (.mk 5 0 0 [] [] cs q)) rs (fun l q=>(CG cs (q++jrs i k v.rows l),false)) (fun j q=>q.length<=12*j)
  (fun m q _=>by
    simp only [Bx,Z5,Z6,jF,jrs,Zb,CG,yV,jS];show(bif decide ((q.length:Int)>12) then some (y6 6,false) else some (Val.mk 5 0 0 [] [] cs q,false))=some (bif decide ((q.length:Int)>12) then y6 6 else Val.mk 5 0 0 [] [] cs q,false);rcases ZG 12 q.length with h|h
    ·simp only [show ∀inst:Decidable ((q.length:Int)>12),@decide _ inst=true from fun inst=>Zz (by omega),jT]
    ·simp only [show ∀inst:Decidable ((q.length:Int)>12),@decide _ inst=false from fun inst=>Zy (by omega),jF])
  (fun j x l q hd hj hx hq=>by
    have hq:q.length<=12*j:=hq;have hj' :(j:Int)<(rs.length:Int):=by omega
    have inner:=fun m=>xIr (N:=N) (k13:=fun z0 z1 z2 z3 z4 z5 z6 z7=>Bx N m z0 z1 z2 z3 z4 z5 z6 z7) (i:=i) (k:=k) (X:=rs) (a1:=rs.length) (a2:=(j:Nat)) (ts:=v.rows) (v:=v) (z:=z) (cs:=cs) (r:=x) hK hN (by omega) (hr x (Zs hx)) ht N 0 q (by omega) (Z9 _) (by omega);refine .inl ⟨q++jr i k x v.rows,by have:=Jh (i:=i) (k:=k) (r:=x) (ts:=v.rows);simp only [jA];omega,by simp [jrs],fun m=> ?_⟩;have:=inner m;simp only [Bx,Zz hj',jT,jI,yU hx];rw [Zw (by omega)];rw [show((0:Nat):Int)=0 from rfl,Xw] at this;rw [this,y4 hj (by omega:rs.length<=_)]) N 0 [] (by simp) (by omega) (by omega)
theorem xON{N K k:Nat}{r t:Rowd}(hK:K<=4294967296)(hN:2*K<N)(hr:r.cells.length<=K/\r.frm.length<=K)(ht:k<t.cells.length/\t.cells.length<=K/\t.frm.length<=K)(h1:SO r.frm)(h2:SO t.frm):
 If N r t (k:Int)=some (Am k r t):=by
 have w:i64.wrap ((k:Int)+1)=((k+1:Nat):Int):=wn _ (by omega) (by omega);simp only [If,w,jI,jM,Zj,xAX (N:=N) h1 h2 (by omega) (by omega),jS];rw [Zw (by unfold Lim;omega),Zw (by omega),Zw (by simp only [ZT];unfold Lim;omega),Zw (by omega),Zw (by simp only [jA,ZT,Yx];unfold Lim;omega)]
 rfl
theorem xM5{N K:Nat}{k15:Int->Int->Int->Val->Val->Val->Val->Option Val}{i k:Nat}{j0:Nat}{u v z:Val}{cs:List Str}{r:Rowd}(hK:K<=4294967296)(hN:2*K<N)(hl:v.rows.length<=K)(hj0:u.rows[j0]? =some r)
 (hr:i<r.cells.length/\r.cells.length<=K/\r.frm.length<=K) (ht:C7 K k v.rows) (s1:SO r.frm) (s2:∀t∈v.rows,SO t.frm):∀(n j:Nat) (q:List Rowd),q.length+(v.rows.length - j)<=8589934592->j<=v.rows.length->v.rows.length<n+j->
 Dx N k15 n (i:Int) (k:Int) (j0:Int) (j:Int) u v z (.mk 5 0 0 [] [] cs q)=k15 (i:Int) (k:Int) (i64.wrap ((j0:Int)+1)) u v z (.mk 5 0 0 [] [] cs (q++jr i k r (v.rows.drop j))):=by
 have hj0l:=(Zt.1 hj0).1;intro n
 induction n with
 |zero=>intro j q _ h1 h2;omega
 |succ n ih=>
  intro j q hq hj hn;cases hd:v.rows.drop j with
  |nil=>
   have hj2:j=v.rows.length:=by have:=BI hd;omega
   subst hj2;simp only [Dx,Z5,Z6,jF,jr,Zb]
  |cons t l=>
   obtain⟨h1,h2,h3⟩:=Ak hd;have hj' :(j:Int)<(v.rows.length:Int):=by omega
   have hm:=Zs h2;obtain⟨t1,t2,t3⟩:=ht t hm;simp only [Dx,Zz hj',jT,jI,yU h2,yU hj0,y4 h1 (by omega:v.rows.length<=_),jr,vk,vn,vs,vt,vl,vc,vr];rw [Zw (by omega),Zw (by omega),Zw (by omega),Zw (by omega)];cases (List.getD r.cells i Di==List.getD t.cells k Di) with
   |false=>
    have:=ih (j+1) q (by omega) (by omega) (by omega);rw [h3] at this;simp only [jF];exact this
   |true=>
    have:=ih (j+1) (q++ [Am k r t]) (by simp;omega) (by omega) (by omega);rw [h3] at this;simp only [jT,xON (N:=N) (k:=k) hK hN ⟨hr.2.1,hr.2.2⟩ ⟨t1,t2,t3⟩ s1 (s2 t hm),jS];rw [Zw (by simp only [jC,jN];unfold Lim;omega)];rw [show(q++Am k r t::jr i k r l)=(q++ [Am k r t])++jr i k r l by simp];exact this
theorem xM4{N K:Nat}{i k:Nat}{u v z:Val}{cs:List Str}(hK:K<=4294967296)(hN:2*K<N)(hK24:24<=K)(hrs:u.rows.length<=12)(hts:v.rows.length<=12)(hr:C7 K i u.rows)(ht:C7 K k v.rows)(s1:∀t∈u.rows,SO t.frm)(s2:∀t∈v.rows,SO t.frm):
 Cx N N (i:Int) (k:Int) 0 u v z (.mk 5 0 0 [] [] cs [])=some (CG cs (jrs i k v.rows u.rows)):=
 zN (L:=fun m j q=>Cx N m (i:Int) (k:Int) j u v z (.mk 5 0 0 [] [] cs q)) u.rows (fun l q=>CG cs (q++jrs i k v.rows l)) (fun j q=>q.length<=12*j)
  (fun m q _=>by
    simp only [Cx,Z5,Z6,jF,jrs,Zb,CG,yZ,jS];show(bif decide ((q.length:Int)>12) then some (y6 6) else some (Val.mk 5 0 0 [] [] cs q))=some (bif decide ((q.length:Int)>12) then y6 6 else Val.mk 5 0 0 [] [] cs q);rcases ZG 12 q.length with h|h
    ·simp only [show ∀inst:Decidable ((q.length:Int)>12),@decide _ inst=true from fun inst=>Zz (by omega),jT]
    ·simp only [show ∀inst:Decidable ((q.length:Int)>12),@decide _ inst=false from fun inst=>Zy (by omega),jF])
  (fun j x l q hd hj hx hq=>by
    have hq:q.length<=12*j:=hq;have hj' :(j:Int)<(u.rows.length:Int):=by omega
    have hm:=Zs hx;have inner:=fun m=>xM5 (N:=N) (k15:=fun z0 z1 z2 z3 z4 z5 z6=>Cx N m z0 z1 z2 z3 z4 z5 z6) (i:=i) (k:=k) (j0:=j) (u:=u) (v:=v) (z:=z) (cs:=cs) (r:=x) hK hN (by omega) hx (hr x hm) ht (s1 x hm) s2 N 0 q (by omega) (Z9 _) (by omega);refine .inl ⟨q++jr i k x v.rows,by have:=Jh (i:=i) (k:=k) (r:=x) (ts:=v.rows);simp only [jA];omega,by simp [jrs],fun m=> ?_⟩;have:=inner m;simp only [Cx,Zz hj',jT];rw [show((0:Nat):Int)=0 from rfl,Xw] at this;rw [this,y4 hj (by omega:u.rows.length<=_)]) N 0 [] (by simp) (by omega) (by omega)
theorem E5{s:Str}:∀ {xs:List Str} {j:Nat},(yT xs s j= -1/\s ∉ xs)\/∃k,k<xs.length/\yT xs s j=((j+k:Nat):Int)/\xs[k]? =some s/\s ∉ xs.take k
 | [],j=> .inl ⟨rfl,by simp⟩
 |x::r,j=>by
  simp only [yT];cases hx:x==s
  ·have hne:s≠x:=by intro e;subst e;simp at hx
   rcases E5 (s:=s) (xs:=r) (j:=j+1) with ⟨h1,h2⟩|⟨k,h1,h2,h3,h4⟩
   ·exact .inl ⟨h1,by simp [hne,h2]⟩
   ·refine .inr ⟨k+1,by simp;omega,by simp only [jF,h2];omega,by simpa using h3,by simp [hne,h4]⟩
  ·rw [beq_iff_eq] at hx;subst hx;exact .inr ⟨0,by simp,by simp,by simp,by simp⟩
theorem xEy{xs:List Str}(h:AP xs=true):xs.Nodup:=by
 rw [Xy,Yk];intro i j hi hj hij e;have:=Bp h j xs[j] (Zx hj);simp only [Ca,Zj,ZD,Xo,beq_iff_eq] at this;refine this xs[i] ?_ e;rw [Xu];exact⟨i,by omega,rfl⟩
theorem xPw{xs:List Str}{s:Str}{k:Nat}(hd:xs.Nodup)(hk:xs[k]? =some s):xs.filter (fun x=>x != s)=xs.take k++xs.drop (k+1):=by
 obtain⟨hlt,e⟩:=Zt.1 hk;have hsplit:xs=xs.take k++s::xs.drop (k+1):=by
  conv=>lhs;rw [<-List.take_append_drop k xs,Yy hlt,e]
 have hn:=hd;rw [hsplit,Yq] at hn;obtain⟨_,h2,h3⟩:=hn;rw [Yn] at h2;have f1:(xs.take k).filter (fun x=>x != s)=xs.take k:=List.filter_eq_self.2 fun a ha=>by
  have:=h3 a ha s Zp;simpa using this
 have f2:(xs.drop (k+1)).filter (fun x=>x != s)=xs.drop (k+1):=List.filter_eq_self.2 fun a ha=>by
  have:a≠s:=by rintro rfl;exact h2.1 ha
  simpa using this
 conv=>lhs;rw [hsplit]
 rw [List.filter_append,f1,Xl,f2];simp
theorem xH1{N K:Nat}{cols:List Str}{s:Str}(hl:cols.length<=K)(hK:K<=4294967296)(hN:K<N)(hK1:1<=K):GA N cols [s]=some (cols.filter fun x=>x != s):=by
 have:=zN (L:=fun m i q=>Cg N m [s] q cols (cols.length:Int) i) cols (fun l q=>q++l.filter fun x=>x != s) (fun i q=>q.length<=i) (fun m q _=>by simp [Cg])
  (fun i x l q hd hi hx hq=>by
    have hq:q.length<=i:=hq;have hi' :(i:Int)<(cols.length:Int):=by omega
    have e:yT [s] x 0=bif s==x then 0 else -1:=by simp only [yT];cases (s==x) <;>rfl
    cases h1:s==x
    ·refine .inl ⟨q++ [x],by simp;omega,?_,fun m=> ?_⟩
     ·have:(x != s)=true:=by rw [bne,ZD];rw [ZV] at h1 ⊢;exact fun e=>h1 e.symm
      rw [Xl,this];simp
     ·simp only [Cg,Zz hi',jT,jI,yU hx,HR (N:=N) (xs:=[s]) (s:=x) (by simp) (by simp;omega),jS,e,h1,jF,y4 hi (by omega:cols.length<=_)];rw [Zw (by omega),Zw (by simp only [jC,jN];unfold Lim;omega)];rfl
    ·refine .inl ⟨q,by show q.length<=i+1;omega,?_,fun m=> ?_⟩
     ·have:(x != s)=false:=by rw [beq_iff_eq] at h1;subst h1;simp
      rw [Xl,this];simp
     ·simp only [Cg,Zz hi',jT,jI,yU hx,HR (N:=N) (xs:=[s]) (s:=x) (by simp) (by simp;omega),jS,e,h1,y4 hi (by omega:cols.length<=_)];rw [Zw (by omega)];rfl) N 0 [] (Zi _) (Z9 _) (by omega)
 simpa [GA] using this
def CH(i k:Int)(u v:Val):Val:=bif decide (i<0) then y6 7 else bif decide (k<0) then y6 7 else
 bif !AP (u.columns++(v.columns.take k.toNat++v.columns.drop (k.toNat+1))) then y6 7 else
 bif decide (((u.columns++(v.columns.take k.toNat++v.columns.drop (k.toNat+1))).length:Int)>4) then y6 6 else
 CG (u.columns++(v.columns.take k.toNat++v.columns.drop (k.toNat+1))) (jrs i.toNat k.toNat v.rows u.rows)
def Al(a u v:Val):Val×Bool:=bif(yY [2,5,5] [a,u,v]).2.1 then((yY [2,5,5] [a,u,v]).1,(yY [2,5,5] [a,u,v]).2.2) else(CH (yT u.columns a.text 0) (yT v.columns a.text 0) u v,false)
theorem Kr{v:Val}(hv:yW v=true)(hk:v.kind=5):∀r∈v.rows,SO r.frm:=by
 rw [AH,hk] at hv;simp only [show((5:Int)==1)=false from rfl,show((5:Int)==2)=false from rfl,show((5:Int)==4)=false from rfl,show((5:Int)==6)=false from rfl,show((5:Int)==5)=true from rfl,jT,jF,Zv,zS] at hv;obtain⟨_,_,_,_,_,_,h⟩:=hv;intro r hr;obtain⟨i,hi⟩:=Yc hr;have:=Bp h i r hi;simp only [Bh,Zv,beq_iff_eq] at this;exact xCQ this.2.2
theorem xEt{v:Val}(hv:yW v=true)(hk:v.kind=5):AP v.columns=true:=by
 have:=(C1 hv hk).1;unfold AI at this;simp only [Zv] at this;exact this.2.2
theorem xI5{K:Nat}(hK:24<=K/\K<=1073741824){a u v:Val}(ha:a.Fit K)(hu:u.Fit K)(hv:v.Fit K):Big fun N=>DQ N a u v=some (Al a u v)/\Dw N a u v=some (Al a u v).1:=by
 obtain⟨_,_,_,_,_,u6,u7⟩:=Val.fit_iff.1 hu;obtain⟨_,_,_,_,_,v6,v7⟩:=Val.fit_iff.1 hv;have huc:u.columns.length<=K:=u6.1;have hvc:v.columns.length<=K:=v6.1;refine((CI (by omega) (vs:=[a,u,v]) (ks:=[2,5,5]) (C3 ha hu hv) (by simp;omega) rfl).and (AT (2*K))).imp fun N ⟨⟨h1,h2⟩,hN⟩=> ?_;obtain⟨e1,e2,e3,_⟩:=BU (ks:=[2,5,5]) (C3 ha hu hv);have i1:=Bw (N:=N) (v:=u) (s:=a.text) (by omega) (by omega);have i2:=Bw (N:=N) (v:=v) (s:=a.text) (by omega) (by omega);have j1:=BX (N:=N) (v:=u) (s:=a.text) (by omega) (by omega);have j2:=BX (N:=N) (v:=v) (s:=a.text) (by omega) (by omega);have w1:=xH1 (N:=N) (K:=K) (cols:=v.columns) (s:=a.text) hvc (by omega) (by omega) (by omega);have hfl:(v.columns.filter fun x=>x != a.text).length<=K:=ZF (Xf _ _) hvc;cases g1:(yY [2,5,5] [a,u,v]).2.1
 ·obtain⟨g2,g3⟩:=AR g1;obtain⟨_,hk1,hk2⟩:=kb3 g3;have htag:=CJ g1;have ou:=C1 (g2 u (by simp)) hk1;have ov:=C1 (g2 v (by simp)) hk2;have ru:=C2 (g2 u (by simp)) hk1;have rv:=C2 (g2 v (by simp)) hk2;have su:=Kr (g2 u (by simp)) hk1;have sv:=Kr (g2 v (by simp)) hk2;have dv:=xEy (xEt (g2 v (by simp)) hk2);have il:0+u.columns.length<=Lim:=by unfold Lim;omega
  have il2:([]++u.columns).length+(v.columns.filter fun x=>x != a.text).length<=Lim:=by simp only [jM];unfold Lim;omega
  rcases E5 (s:=a.text) (xs:=u.columns) (j:=0) with ⟨hi,_⟩|⟨i,hi1,hi,_,_⟩
  ·have hneg:yT u.columns a.text 0<0:=by omega
   refine⟨?_,?_⟩
   ·simp only [DQ,Val.re_eq,h1,jS,g1,htag,jF,i1,i2,w1,Zw il,Zw il2,Zz hneg,jT,yV,Al,CH];rfl
   ·simp only [Dw,Val.re_eq,h2,jS,g1,jF,j1,j2,Zz hneg,jT,yZ,Al,CH];rfl
  ·rw [Zj] at hi;have hni:¬(i:Int)<0:=by omega
   rcases E5 (s:=a.text) (xs:=v.columns) (j:=0) with ⟨hk,_⟩|⟨k,hk1',hk,hks,_⟩
   ·have hneg:yT v.columns a.text 0<0:=by omega
    refine⟨?_,?_⟩
    ·simp only [DQ,Val.re_eq,h1,jS,g1,htag,jF,i1,i2,w1,Zw il,Zw il2,hi,Zy hni,Zz hneg,jT,yV,Al,CH];rfl
    ·simp only [Dw,Val.re_eq,h2,jS,g1,jF,j1,j2,hi,Zy hni,Zz hneg,jT,yZ,Al,CH];rfl
   ·rw [Zj] at hk;have hnk:¬(k:Int)<0:=by omega
    have hwo:=xPw dv hks;rw [hwo] at w1 il2;have il3:u.columns.length+(v.columns.take k++v.columns.drop (k+1)).length<=Lim:=by simpa using il2
    have w:i64.wrap ((k:Int)+1)=((k+1:Nat):Int):=wn _ (by omega) (by omega);have c1:(0:Int)<=(k:Int)/\(k:Int)<=(v.columns.length:Int):=by omega
    have c2:u.columns.length+(v.columns.take k).length<=Lim:=by simp only [ZT];unfold Lim;omega
    have c3:(0:Int)<=((k+1:Nat):Int)/\((k+1:Nat):Int)<=(v.columns.length:Int):=by omega
    have c4:(u.columns++v.columns.take k).length+(v.columns.drop (k+1)).length<=Lim:=by simp only [jA,ZT,Yx];unfold Lim;omega
    generalize hcs:u.columns++(v.columns.take k++v.columns.drop (k+1))=cs;have hcs2:(u.columns++v.columns.take k)++v.columns.drop (k+1)=cs:=by rw [<-hcs,Zc]
    have hcl:cs.length<=2*K:=by rw [<-hcs];simp only [jA,ZT,Yx];omega
    have hRu:C7 K i u.rows:=fun t ht=>by
     have:=u7.2 t ht;have e:=ru t ht;exact⟨by omega,by omega,this.2.1⟩
    have hRv:C7 K k v.rows:=fun t ht=>by
     have:=v7.2 t ht;have e:=rv t ht;exact⟨by omega,by omega,this.2.1⟩
    have l1:=xIq (N:=N) (K:=K) (i:=i) (k:=k) (rs:=u.rows) (v:=v) (z:=Val.mk 0 0 0 [] [] [] []) (cs:=cs) (by omega) (by omega) hK.1 ou.2 ov.2 hRu hRv;have l2:=xM4 (N:=N) (K:=K) (i:=i) (k:=k) (u:=u) (v:=v) (z:=Val.mk 0 0 0 [] [] [] []) (cs:=cs) (by omega) hN hK.1 ou.2 ov.2 hRu hRv su sv;have d1:=JU (N:=N) (xs:=cs) (by omega) (by omega);have d2:=IC (N:=N) (xs:=cs) (by omega) (by omega);refine⟨?_,?_⟩
    ·simp only [DQ,Val.re_eq,h1,jS,g1,htag,jF,i1,i2,w1,Zw il,hi,hk,Zy hni,Zy hnk,yV,Al,CH,jM,Zw il3,jI,hcs,d1,l1];cases AP cs
     ·rfl
     ·simp only [jU,jF];rcases ZG 4 cs.length with h|h
      ·simp only [show ∀inst:Decidable ((cs.length:Int)>4),@decide _ inst=true from fun inst=>Zz (by omega),jT];rfl
      ·simp only [show ∀inst:Decidable ((cs.length:Int)>4),@decide _ inst=false from fun inst=>Zy (by omega),jF]
    ·simp only [Dw,Val.re_eq,h2,jS,g1,jF,j1,j2,Zw il,hi,hk,Zy hni,Zy hnk,yZ,Al,CH,jM,jI,w,Zw c1,Zw c2,Zw c3,Zw c4,hcs,hcs2,d2,l2];cases AP cs
     ·rfl
     ·simp only [jU,jF];rcases ZG 4 cs.length with h|h
      ·simp only [show ∀inst:Decidable ((cs.length:Int)>4),@decide _ inst=true from fun inst=>Zz (by omega),jT];rfl
      ·simp only [show ∀inst:Decidable ((cs.length:Int)>4),@decide _ inst=false from fun inst=>Zy (by omega),jF]
 ·refine⟨?_,?_⟩
  ·simp only [DQ,Val.re_eq,h1,jS,e1,e2,e3,jE,ZB,Aq e1 e2 e3,g1,jT,Al];cases (yY [2,5,5] [a,u,v]).2.2 <;>rfl
  ·simp only [Dw,Val.re_eq,h2,jS,g1,jT,Al]
end Go.Ab
end
section
namespace Go.Ab
def SI(l:List Int):Prop:=l.Pairwise fun x y=>x<y
def BW(x:Int):List Int->List Int
 | []=> [x]
 |y::l=>if y=x then y::l else if x<y then x::y::l else y::BW x l
theorem Jx{x z:Int}:∀ {l:List Int},z∈BW x l↔z=x\/z∈l
 | []=>by simp [BW]
 |y::l=>by
  unfold BW;split
  ·rename_i h;subst h;simp
  ·split
   ·simp
   ·rw [Zo,Jx,Zo];constructor
    ·rintro (h|h|h)
     ·exact .inr (.inl h)
     ·exact .inl h
     ·exact .inr (.inr h)
    ·rintro (h|h|h)
     ·exact .inr (.inl h)
     ·exact .inl h
     ·exact .inr (.inr h)
theorem O6{x:Int}:∀ {l:List Int},SI l->SI (BW x l)
 | [],_=>by simp [BW,SI]
 |y::l,h=>by
  have h' :=ZS.1 h;unfold BW;split
  ·exact h
  ·rename_i hne;split
   ·rename_i hlt;refine ZS.2 ⟨fun z hz=> ?_,h⟩;rcases Zo.1 hz with rfl|hz
    ·exact hlt
    ·exact Int.lt_trans hlt (h'.1 z hz)
   ·rename_i hge;refine ZS.2 ⟨fun z hz=> ?_,O6 h'.2⟩;rcases Jx.1 hz with rfl|hz
    ·omega
    ·exact h'.1 z hz
theorem O7:∀ {l m:List Int},SI l->SI m->(∀x,x∈l↔x∈m)->l=m
 | [],[],_,_,_=>rfl
 | [],y::m,_,_,h=>absurd ((h y).2 Zp) (by simp)
 |x::l,[],_,_,h=>absurd ((h x).1 Zp) (by simp)
 |x::l,y::m,hl,hm,h=>by
  have hl' :=ZS.1 hl;have hm' :=ZS.1 hm;have e:x=y:=by
   rcases Zo.1 ((h x).1 Zp) with e|h1
   ·exact e
   ·rcases Zo.1 ((h y).2 Zp) with e|h2
    ·exact e.symm
    ·have:=hl'.1 y h2;have:=hm'.1 x h1;omega
  subst e;refine Zd (x:: ·) (O7 hl'.2 hm'.2 fun z=>⟨fun hz=> ?_,fun hz=> ?_⟩)
  ·rcases Zo.1 ((h z).1 (Zq _ hz)) with e|h1
   ·have:=hl'.1 z hz;omega
   ·exact h1
  ·rcases Zo.1 ((h z).2 (Zq _ hz)) with e|h1
   ·have:=hm'.1 z hz;omega
   ·exact h1
theorem GP(i:Nat)(rs:List Rowd)(r:Rowd):uM i (rs++ [r])=if gQ i r∈uM i rs then uM i rs else uM i rs++ [gQ i r]:=by
 unfold uM;rw [Y5]
 rfl
theorem KI(i k:Nat)(rs:List Rowd)(r:Rowd)(y:Int):oP i k (rs++ [r]) y=if gQ i r=y then IntKind.i64.wrap (oP i k rs y+gQ k r) else oP i k rs y:=by
 simp only [oP,Y5,List.foldl_cons,List.foldl_nil]
theorem Er(i:Nat)(rs:List Rowd)(r:Rowd)(y:Int):uL i (rs++ [r]) y=if gQ i r=y then qX (uL i rs y) r.frm else uL i rs y:=by
 simp only [uL,Y5,List.foldl_cons,List.foldl_nil]
theorem De{α:Type}{p:List α->Prop}(h0:p [])(h1:∀l a,p l->p (l++ [a])):∀(n:Nat) (l:List α),l.length=n->p l:=by
 intro n
 induction n with
 |zero=>intro l h;rw [Z0.1 h];exact h0
 |succ n ih=>
  intro l h;have e:l=l.take n++ [l[n]'(by omega)]:=by rw [<-Yl (by omega)];exact(Xj (by omega)).symm
  rw [e];exact h1 _ _ (ih _ (by rw [ZT];omega))
theorem xKz(i:Nat)(rs:List Rowd):(uM i rs).Nodup:=by
 refine De (p:=fun rs=>(uM i rs).Nodup) Xe (fun l r h=> ?_) _ rs rfl;rw [GP];split
 ·exact h
 ·rename_i hn;rw [Yq];exact⟨h,by simp,fun a ha b hb=>by simp at hb;subst hb;rintro rfl;exact hn ha⟩
theorem xKA{i:Nat}{x:Int}(k:Nat)(rs:List Rowd):x ∉ uM i rs->oP i k rs x=0/\uL i rs x=[]:=by
 refine De (p:=fun rs=>x ∉ uM i rs->oP i k rs x=0/\uL i rs x=[]) (fun _=>⟨rfl,rfl⟩) (fun l r h hx=> ?_) _ rs rfl;rw [GP] at hx;have hx2:x ∉ uM i l/\gQ i r≠x:=by
  split at hx
  ·rename_i hm;exact⟨hx,fun e=>hx (e ▸ hm)⟩
  ·rw [Za] at hx;exact⟨fun h=>hx (.inl h),fun e=>hx (.inr (by simp [e]))⟩
 rw [KI,Er,Zf hx2.2,Zf hx2.2];exact h hx2.1
theorem Hm(i:Nat)(rs:List Rowd):SI (oO i rs):=by
 have h1:(oO i rs).Pairwise fun x y=>decide (x<=y)=true:=XJ (fun x y z h1 h2=>by simp at h1 h2 ⊢;omega) (fun x y=>by simp;omega) _;have h2:(oO i rs).Nodup:=(Xc _ _).nodup_iff.2 (xKz i rs);refine(h1.and h2).imp fun {x y} h=> ?_;have:=h.1;have:=h.2;simp at*;omega
theorem GI{i:Nat}{rs:List Rowd}{x:Int}:x∈oO i rs↔x∈uM i rs:=Xx
theorem xKC(i:Nat)(rs:List Rowd)(r:Rowd):oO i (rs++ [r])=BW (gQ i r) (oO i rs):=by
 refine O7 (Hm _ _) (O6 (Hm _ _)) fun x=> ?_;rw [GI,GP,Jx,GI];split
 ·rename_i hm;exact⟨.inr,fun h=>h.elim (fun e=>e ▸ hm) id⟩
 ·rw [Za];simp [or_comm]
theorem Hl(i:Nat)(rs:List Rowd):(oO i rs).length<=rs.length:=by
 have h0:(oO i rs).length=(uM i rs).length:=YG _;rw [h0];refine De (p:=fun rs=>(uM i rs).length<=rs.length) (Zi _) (fun l r h=> ?_) _ rs rfl;rw [GP];split <;>simp <;>omega
theorem OX{i L:Nat}{x:Int}(rs:List Rowd)(h:∀r∈rs,r.frm.length<=L):(uL i rs x).length<=rs.length*L:=by
 refine De (p:=fun rs=>(∀r∈rs,r.frm.length<=L)->(uL i rs x).length<=rs.length*L) (fun _=>by simp [uL]) (fun l r ih h=> ?_) _ rs rfl h;have h1:=ih fun q hq=>h q (ZH _ hq);have h2:=h r (by simp);have h3:=xBa (uL i l x) r.frm;rw [Er,jA,jC,jN,ZM];split <;>omega
theorem OZ{i:Nat}{x:Int}(rs:List Rowd):SO (uL i rs x):=by
 refine De (p:=fun rs=>SO (uL i rs x)) List.Pairwise.nil (fun l r ih=> ?_) _ rs rfl;rw [Er];split
 ·exact Kt _ _
 ·exact ih
def zF(s:Int->Int)(g:Int->List Org)(y:Int):Rowd:=⟨[y,s y],g y⟩
def Bg(s:Int->Int)(g:Int->List Org)(x v:Int)(f:List Org):List Int->List Rowd
 | []=> [⟨[x,v],f⟩]
 |y::l=>if y=x then⟨[x,IntKind.i64.wrap (s x+v)],qX (g x) f⟩::l.map (zF s g) else if x<y then⟨[x,v],f⟩::zF s g y::l.map (zF s g) else zF s g y::Bg s g x v f l
theorem OW{s s' :Int->Int}{g g' :Int->List Org}{x v:Int}{f:List Org}(hs:∀y,s' y=if x=y then IntKind.i64.wrap (s y+v) else s y)(hg:∀y,g' y=if x=y then qX (g y) f else g y):
 ∀ {l:List Int},SI l->(x ∉ l->s' x=v/\g' x=f)->Bg s g x v f l=(BW x l).map (zF s' g')
 | [],_,h=>by
   obtain⟨h1,h2⟩:=h (by simp);simp [Bg,BW,zF,h1,h2]
 |y::l,hl,h=>by
  have hl' :=ZS.1 hl;have same:∀z,z≠x->zF s' g' z=zF s g z:=fun z hz=>by simp [zF,hs,hg,Ne.symm hz]
  unfold Bg BW;by_cases e:y=x
  ·subst e;rw [Zw rfl,Zw rfl,ZX]
   congr 1
   ·simp [zF,hs,hg]
   ·exact(ZO fun z hz=>same z (by have:=hl'.1 z hz;omega)).symm
  ·rw [Zf e,Zf e];by_cases hlt:x<y
   ·rw [Zw hlt,Zw hlt,ZX,ZX]
    obtain⟨h1,h2⟩:=h (by
     rw [Zo];rintro (e2|e2)
     ·exact e e2.symm
     ·have:=hl'.1 x e2;omega)
    congr 1
    ·simp [zF,h1,h2]
    ·congr 1
     ·exact(same y e).symm
     ·exact(ZO fun z hz=>same z (by have:=hl'.1 z hz;omega)).symm
   ·rw [Zf hlt,Zf hlt,ZX,same y e]
    congr 1
    exact OW hs hg hl'.2 fun hx=>h fun hm=>(Zo.1 hm).elim (fun e2=>e e2.symm) hx
theorem xKB{i k:Nat}{rs:List Rowd}{r:Rowd}(h1: -1000000000<=gQ k r/\gQ k r<=1000000000)(h2:SO r.frm):
 Bg (oP i k rs) (uL i rs) (gQ i r) (gQ k r) r.frm (oO i rs)=uN i k (rs++ [r]):=by
 unfold uN;rw [xKC];refine OW (fun y=>KI i k rs r y) (fun y=>Er i rs r y) (Hm i rs) fun hx=> ?_;obtain⟨a,b⟩:=xKA k rs (fun h=>hx (GI.2 h));rw [KI,Er,Zw rfl,Zw rfl,a,b];refine⟨?_,?_⟩
 ·rw [Int.zero_add];exact zX (by omega) (by omega)
 ·rw [<-Nx List.Pairwise.nil h2,mrg]
end Go.Ab
end
section
namespace Go.Ab
theorem OV{N K:Nat}{s:Int->Int}{g:Int->List Org}{x v:Int}{f:List Org}{xs:List Int}(hl:xs.length<=1000):∀(n j:Nat) (acc:List Rowd),j<=xs.length->xs.length<n+j->acc.length<=20000+j->(∀y∈xs.drop j,x<y)->
 Ao N n (xs.map (zF s g)) x v f acc true (j:Int)=some (acc++(xs.drop j).map (zF s g)):=by
 intro n
 induction n with
 |zero=>intro j acc h1 h2;omega
 |succ n ih=>
  intro j acc hj hn hacc hgt;have hml:(xs.map (zF s g)).length=xs.length:=Zr _;cases hd:xs.drop j with
  |nil=>
   have hj2:j=xs.length:=by have:=BI hd;omega
   subst hj2;simp only [Ao,hml,Z5,Z6,jF,jU,Ys,Zb]
  |cons y l=>
   obtain⟨h1,h2,h3⟩:=Ak hd;have hj' :(j:Int)<(xs.length:Int):=by omega
   have hy:x<y:=hgt y (by rw [hd];exact Zp);have hg:(xs.map (zF s g))[j]? =some (zF s g y):=by rw [Zn,h2];rfl
   have e1:(y==x)=false:=ZV.2 (by omega);have e2:decide (y>x)=true:=Zz (by omega);have:=ih (j+1) (acc++ [zF s g y]) (by omega) (by omega) (by simp;omega) (fun z hz=>hgt z (by rw [hd];rw [h3] at hz;exact Zq _ hz));rw [h3] at this;simp only [Ao,hml,Zz hj',jT,jI,yU hg,zF,jC,jN,Int.toNat_zero,Y0,e1,jF,e2,jU,y4 h1 (by omega:xs.length<=_)];rw [Zw (by omega),Zw (by omega),Zw (by unfold Lim;omega)];simp only [zF] at this;rw [this];simp [zF]
theorem xKy{N K:Nat}{s:Int->Int}{g:Int->List Org}{x v:Int}{f:List Org}{xs:List Int}(hl:xs.length<=1000)(hsi:SI xs)(hf:SO f)(hg:SO (g x))(hfl:f.length<=10000000000)(hgl:(g x).length<=10000000000)(hN:(g x).length+f.length<N):∀(n j:Nat) (acc:List Rowd),j<=xs.length->xs.length<n+j->acc.length<=10000+j->
 Ao N n (xs.map (zF s g)) x v f acc false (j:Int)=some (acc++Bg s g x v f (xs.drop j)):=by
 intro n
 induction n with
 |zero=>intro j acc h1 h2;omega
 |succ n ih=>
  intro j acc hj hn hacc;have hml:(xs.map (zF s g)).length=xs.length:=Zr _;cases hd:xs.drop j with
  |nil=>
   have hj2:j=xs.length:=by have:=BI hd;omega
   subst hj2;simp only [Ao,hml,Z5,Z6,jF,jV,jT,Bg,jM,jC,jN];rw [Zw (by unfold Lim;omega),Zw (by unfold Lim;omega)]
  |cons y l=>
   obtain⟨h1,h2,h3⟩:=Ak hd;have hj' :(j:Int)<(xs.length:Int):=by omega
   have hg' :(xs.map (zF s g))[j]? =some (zF s g y):=by rw [Zn,h2];rfl
   have hsd:SI (y::l):=by rw [<-hd];exact List.Pairwise.sublist (List.drop_sublist _ _) hsi
   have hyl:=(ZS.1 hsd).1;by_cases e:y=x
   ·subst e;have:=OV (N:=N) (K:=K) (s:=s) (g:=g) (x:=y) (v:=v) (f:=f) hl n (j+1) (acc++ [⟨[y,IntKind.i64.wrap (s y+v)],qX (g y) f⟩]) (by omega) (by omega) (by simp;omega) (fun z hz=>by rw [h3] at hz;exact hyl z hz);rw [h3] at this;have e2:decide (y>y)=false:=Zy (by omega);simp only [Ao,hml,Zz hj',jT,jI,yU hg',zF,jC,jN,Int.toNat_zero,Y0,Ym,show Int.toNat 1=1 from rfl,Xa,xAX (N:=N) hg hf (by omega) (by omega),jS,e2,jF,y4 h1 (by omega:xs.length<=_)];rw [Zw (by omega),Zw (by omega),Zw (by omega),Zw (by omega),Zw (by unfold Lim;omega)];rw [this];simp [Bg,zF]
   ·have e1:(y==x)=false:=ZV.2 e;by_cases hlt:x<y
    ·have:=OV (N:=N) (K:=K) (s:=s) (g:=g) (x:=x) (v:=v) (f:=f) hl n (j+1) ((acc++ [⟨[x,v],f⟩])++ [zF s g y]) (by omega) (by omega) (by simp;omega) (fun z hz=>by rw [h3] at hz;have:y<z:=hyl z hz;omega);rw [h3] at this;have e2:decide (y>x)=true:=Zz (by omega);simp only [Ao,hml,Zz hj',jT,jI,yU hg',zF,jC,jN,Int.toNat_zero,Y0,e1,jF,e2,jV,jM,jA,y4 h1 (by omega:xs.length<=_)];rw [Zw (by omega),Zw (by omega),Zw (by unfold Lim;omega),Zw (by unfold Lim;omega),Zw (by unfold Lim;omega)];simp only [zF] at this;rw [this];simp [Bg,zF,e,hlt]
    ·have:=ih (j+1) (acc++ [zF s g y]) (by omega) (by omega) (by simp;omega);rw [h3] at this;have e2:decide (y>x)=false:=Zy (by omega);simp only [Ao,hml,Zz hj',jT,jI,yU hg',zF,jC,jN,Int.toNat_zero,Y0,e1,jF,e2,y4 h1 (by omega:xs.length<=_)];rw [Zw (by omega),Zw (by omega),Zw (by unfold Lim;omega)];simp only [zF] at this;rw [this];simp [Bg,zF,e,hlt]
structure GRowOk (K i k:Nat) (t:Rowd):Prop where
 hi:i<t.cells.length
 hk:k<t.cells.length
 f:t.frm.length<=K
 so:SO t.frm
 num: -1000000000<=gQ k t/\gQ k t<=1000000000
theorem xOH{N K i k:Nat}{rs:List Rowd}{r:Rowd}(hK:K<=100000000)(hN:20*K<N)(hK2:1000<=K)(hl:rs.length<=12)(h:∀t∈rs,GRowOk K i k t)(hr:GRowOk K i k r):
 Kq N (uN i k rs) (gQ i r) (gQ k r) r.frm=some (uN i k (rs++ [r])):=by
 have h1:=Hl i rs;have h2:=OX (i:=i) (x:=gQ i r) (L:=K) rs fun t ht=>(h t ht).f;have h3:rs.length*K<=12*K:=YH hl (Zi _);have h4:=hr.f;have:=xKy (N:=N) (K:=K) (s:=oP i k rs) (g:=uL i rs) (x:=gQ i r) (v:=gQ k r) (f:=r.frm) (xs:=oO i rs) (by omega) (Hm i rs) hr.so (OZ rs) (by omega) (by omega) (by omega) N 0 [] (Z9 _) (by omega) (by simp);rw [Xw,jM,xKB hr.num hr.so] at this;exact this
theorem xFQ{i:Nat}{t:Rowd}:List.getD t.cells i Di=gQ i t:=rfl
theorem xM2{N:Nat}{a b:Str}{z:Val}{xs:List Int}{s:Int->Int}{g:Int->List Org}(hl:xs.length<=1000)(hN:1000<N):
 Cv N N 0 z (.mk 5 0 0 [] [] [a,b] (xs.map (zF s g)))=some (if xs.all (fun x=>wR (s x))=true then .mk 5 0 0 [] [] [a,b] (xs.map (zF s g)) else y6 5):=by
 have:=zN (L:=fun m j (_:Unit)=>Cv N m j z (.mk 5 0 0 [] [] [a,b] (xs.map (zF s g)))) xs (fun l _=>if l.all (fun x=>wR (s x))=true then .mk 5 0 0 [] [] [a,b] (xs.map (zF s g)) else y6 5) (fun _ _=>True)
  (fun n q _=>by
    simp only [Cv,vr,Zr,Z5,Z6,jF,List.all_nil,ZB])
  (fun j x l q hd hj hx _=>by
    have hj' :(j:Int)<(xs.length:Int):=by omega
    have hg:(xs.map (zF s g))[j]? =some (zF s g x):=by rw [Zn,hx];rfl
    cases hnum:wR (s x) with
    |true=>
     refine .inl ⟨(),trivial,by simp [hnum],fun n=> ?_⟩;simp only [Cv,vr,Zr,Zz hj',jT,jI,yU hg,zF,jC,jN,show Int.toNat 1=1 from rfl,Xa,Y0,CX,jS,show zB (s x)=true from hnum,jU,jF,y4 hj (by omega:xs.length<=_)];rw [Zw (by omega),Zw (by omega)]
    |false=>
     refine .inr fun n=> ?_;simp only [Cv,vr,Zr,Zz hj',jT,jI,yU hg,zF,jC,jN,show Int.toNat 1=1 from rfl,Xa,Y0,CX,jS,show zB (s x)=false from hnum,jV,yZ];rw [Zw (by omega),Zw (by omega)];simp [hnum,y6]) N 0 () trivial (Z9 _) (by omega)
 simpa using this
theorem xM3{N K i k:Nat}{t z:Val}{a b:Str}(hK:K<=100000000)(hN:20*K<N)(hK2:1000<=K)(hl:t.rows.length<=12)(h:∀r∈t.rows,GRowOk K i k r):
 Dt N N (i:Int) (k:Int) 0 t z (.mk 5 0 0 [] [] [a,b] [])=some (if(oO i t.rows).all (fun x=>wR (oP i k t.rows x))=true then .mk 5 0 0 [] [] [a,b] (uN i k t.rows) else y6 5):=by
 have hlk:=Hl i t.rows
 exact zN (L:=fun m j q=>Dt N m (i:Int) (k:Int) j t z (.mk 5 0 0 [] [] [a,b] q)) t.rows (fun _ _=>if(oO i t.rows).all (fun x=>wR (oP i k t.rows x))=true then Val.mk 5 0 0 [] [] [a,b] (uN i k t.rows) else y6 5) (fun j q=>q=uN i k (t.rows.take j))
  (fun n q hq=>by
    have hq:q=uN i k (t.rows.take t.rows.length):=hq;rw [ZK] at hq;subst hq;simp only [Dt,Z5,Z6,jF];exact xM2 (by omega) (by omega))
  (fun j x l q hd hj hx hq=>by
    have hj' :(j:Int)<(t.rows.length:Int):=by omega
    have hm:=h x (Zs hx);have hti:t.rows.take (j+1)=t.rows.take j++ [x]:=by
     rw [Yl hj];rw [Zx hj] at hx;cases hx
     rfl
    refine .inl ⟨uN i k (t.rows.take (j+1)),rfl,rfl,fun n=> ?_⟩;have hp:=xOH (N:=N) (K:=K) (i:=i) (k:=k) (rs:=t.rows.take j) (r:=x) hK hN hK2 (by rw [ZT];omega) (fun r hr=>h r (ZI hr)) hm;have hq:q=uN i k (t.rows.take j):=hq;rw [<-hq,<-hti] at hp;have hi:=hm.hi;have hk:=hm.hk;simp only [Dt,Zz hj',jT,jI,yU hx,xFQ,vk,vn,vs,vt,vl,vc,vr,hp,jS,y4 hj (by omega:t.rows.length<=_)];rw [Zw (by omega),Zw (by omega),Zw (by omega)]) N 0 [] (by simp [uN,oO,uM]) (Z9 _) (by omega)
def BK(i k:Int)(a b t:Val):Val:=bif decide (i<0) then y6 7 else bif decide (k<0) then y6 7 else bif i==k then y6 7 else
 if(oO i.toNat t.rows).all (fun x=>wR (oP i.toNat k.toNat t.rows x))=true then .mk 5 0 0 [] [] [a.text,b.text] (uN i.toNat k.toNat t.rows) else y6 5
def A9(a b t:Val):Val×Bool:=bif(yY [2,2,5] [a,b,t]).2.1 then((yY [2,2,5] [a,b,t]).1,(yY [2,2,5] [a,b,t]).2.2) else(BK (yT t.columns a.text 0) (yT t.columns b.text 0) a b t,false)
theorem xA5{v:Val}(hv:yW v=true)(hk:v.kind=5):∀r∈v.rows,∀k,k<r.cells.length-> -1000000000<=gQ k r/\gQ k r<=1000000000:=by
 rw [AH,hk] at hv;simp only [show((5:Int)==1)=false from rfl,show((5:Int)==2)=false from rfl,show((5:Int)==4)=false from rfl,show((5:Int)==6)=false from rfl,show((5:Int)==5)=true from rfl,jT,jF,Zv,zS] at hv;obtain⟨_,_,_,_,_,_,h⟩:=hv;intro r hr k hlt;obtain⟨i,hi⟩:=Yc hr;have:=Bp h i r hi;simp only [Bh,Zv,beq_iff_eq] at this;have h2:=Bp this.2.1 k r.cells[k] (Zx hlt);simp only [zB,Zv,Z1] at h2;unfold gQ;rw [ZW,Zx hlt];exact h2
theorem xGg{K:Nat}(hK:1000<=K/\K<=100000000){a b t:Val}(ha:a.Fit K)(hb:b.Fit K)(ht:t.Fit K):Big fun N=>Cd N a b t=some (A9 a b t)/\Ct N a b t=some (A9 a b t).1:=by
 obtain⟨_,_,_,_,_,t6,t7⟩:=Val.fit_iff.1 ht;have htc:t.columns.length<=K:=t6.1;refine((CI (by omega) (vs:=[a,b,t]) (ks:=[2,2,5]) (C3 ha hb ht) (by simp;omega) rfl).and (AT (20*K))).imp fun N ⟨⟨h1,h2⟩,hN⟩=> ?_;obtain⟨e1,e2,e3,_⟩:=BU (ks:=[2,2,5]) (C3 ha hb ht);have i1:=Bw (N:=N) (v:=t) (s:=a.text) (by omega) (by omega);have i2:=Bw (N:=N) (v:=t) (s:=b.text) (by omega) (by omega);have j1:=BX (N:=N) (v:=t) (s:=a.text) (by omega) (by omega);have j2:=BX (N:=N) (v:=t) (s:=b.text) (by omega) (by omega);cases g1:(yY [2,2,5] [a,b,t]).2.1
 ·obtain⟨g2,g3⟩:=AR g1;obtain⟨_,_,hk2⟩:=kb3 g3;have htag:=CJ g1;have ot:=C1 (g2 t (by simp)) hk2;have rt:=C2 (g2 t (by simp)) hk2;have st:=Kr (g2 t (by simp)) hk2;have nt:=xA5 (g2 t (by simp)) hk2;rcases E5 (s:=a.text) (xs:=t.columns) (j:=0) with ⟨hi,_⟩|⟨i,hi1,hi,hia,_⟩
  ·have hneg:yT t.columns a.text 0<0:=by omega
   refine⟨?_,?_⟩
   ·simp only [Cd,Val.re_eq,h1,jS,g1,htag,jF,i1,i2,Zz hneg,jT,yV,A9,BK];rfl
   ·simp only [Ct,Val.re_eq,h2,jS,g1,jF,j1,j2,Zz hneg,jT,yZ,A9,BK];rfl
  ·rw [Zj] at hi;have hni:¬(i:Int)<0:=by omega
   rcases E5 (s:=b.text) (xs:=t.columns) (j:=0) with ⟨hk,_⟩|⟨k,hk1',hk,hks,_⟩
   ·have hneg:yT t.columns b.text 0<0:=by omega
    refine⟨?_,?_⟩
    ·simp only [Cd,Val.re_eq,h1,jS,g1,htag,jF,i1,i2,hi,Zy hni,Zz hneg,jT,yV,A9,BK];rfl
    ·simp only [Ct,Val.re_eq,h2,jS,g1,jF,j1,j2,hi,Zy hni,Zz hneg,jT,yZ,A9,BK];rfl
   ·rw [Zj] at hk;have hnk:¬(k:Int)<0:=by omega
    have heq:(a.text==b.text)=((i:Int)==(k:Int)):=by
     rw [YV,beq_iff_eq,beq_iff_eq];constructor
     ·intro e;rw [e,hk] at hi;exact hi.symm
     ·intro e;have e:i=k:=by omega
      subst e;rw [hia] at hks;exact Yz hks
    by_cases hik:(i:Int)=(k:Int)
    ·have b1:((i:Int)==(k:Int))=true:=beq_iff_eq.2 hik;refine⟨?_,?_⟩
     ·simp only [Cd,Val.re_eq,h1,jS,g1,htag,jF,i1,i2,hi,hk,Zy hni,Zy hnk,heq,b1,jT,yV,A9,BK];rfl
     ·simp only [Ct,Val.re_eq,h2,jS,g1,jF,j1,j2,hi,hk,Zy hni,Zy hnk,b1,jT,yZ,A9,BK];rfl
    ·have b1:((i:Int)==(k:Int))=false:=ZV.2 hik;have hR:∀r∈t.rows,GRowOk K i k r:=fun r hr=>by
      have e:=rt r hr;exact⟨by omega,by omega,(t7.2 r hr).2.1,st r hr,nt r hr k (by omega)⟩
     have l2:=xM3 (N:=N) (K:=K) (i:=i) (k:=k) (t:=t) (z:=Val.mk 0 0 0 [] [] [] []) (a:=a.text) (b:=b.text) hK.2 hN hK.1 ot.2 hR;have l1:zAj (i:Int) (k:Int) a b t=some (if(oO i t.rows).all (fun x=>wR (oP i k t.rows x))=true then Val.mk 5 0 0 [] [] [a.text,b.text] (uN i k t.rows) else Val.mk 6 5 0 [] [] [] [],false):=by
      have hall:t.rows.all (xP (i:Int).toNat (k:Int).toNat)=true:=by
       rw [Zu];intro r hr;have:=hR r hr;have h1:=this.hi;have h2:=this.hk;have h3:=this.f;simp only [xP,jI,Zv,Z1];omega
      unfold zAj;refine(Zw ⟨by omega,by omega,hall,by have:=ot.2;omega⟩).trans ?_;simp only [jI]
     refine⟨?_,?_⟩
     ·simp only [Cd,HQ,Val.re_eq,h1,jS,g1,htag,jF,i1,i2,hi,hk,Zy hni,Zy hnk,heq,b1,l1,A9,BK,jI];rfl
     ·simp only [Ct,Val.re_eq,h2,jS,g1,jF,j1,j2,hi,hk,Zy hni,Zy hnk,b1,l2,A9,BK,jI]
 ·refine⟨?_,?_⟩
  ·simp only [Cd,Val.re_eq,h1,jS,e1,e2,e3,jE,ZB,Aq e1 e2 e3,g1,jT,A9];cases (yY [2,2,5] [a,b,t]).2.2 <;>rfl
  ·simp only [Ct,Val.re_eq,h2,jS,g1,jT,A9]
end Go.Ab
end
section
namespace Go.Ab
theorem O0{i:Nat}{x:Int}(rs:List Rowd):x∈uM i rs->∃r∈rs,gQ i r=x:=by
 refine De (p:=fun rs=>x∈uM i rs->∃r∈rs,gQ i r=x) (fun h=>by cases h) (fun l r ih h=> ?_) _ rs rfl;rw [GP] at h;split at h
 ·obtain⟨q,hq,e⟩:=ih h;exact⟨q,ZH _ hq,e⟩
 ·rcases Za.1 h with h|h
  ·obtain⟨q,hq,e⟩:=ih h;exact⟨q,ZH _ hq,e⟩
  ·simp at h;exact⟨r,by simp,h.symm⟩
theorem OY{i:Nat}{x:Int}{o:Org}(rs:List Rowd):o∈uL i rs x->∃r∈rs,gQ i r=x/\o∈r.frm:=by
 refine De (p:=fun rs=>o∈uL i rs x->∃r∈rs,gQ i r=x/\o∈r.frm) (fun h=>by cases h) (fun l r ih h=> ?_) _ rs rfl;rw [Er] at h;split at h
 ·rename_i hk;rcases Hg.1 h with h|h
  ·obtain⟨q,hq,e⟩:=ih h;exact⟨q,ZH _ hq,e⟩
  ·exact⟨r,by simp,hk,h⟩
 ·obtain⟨q,hq,e⟩:=ih h;exact⟨q,ZH _ hq,e⟩
theorem xGe{a b t:Val}(ha:a.Fit 1048576)(hb:b.Fit 1048576)(ht:t.Fit 1048576):Good1 16777216 (A9 a b t):=by
 obtain⟨_,_,_,a4,_,_,_⟩:=Val.fit_iff.1 ha;obtain⟨_,_,_,b4,_,_,_⟩:=Val.fit_iff.1 hb;obtain⟨_,_,_,_,_,t6,t7⟩:=Val.fit_iff.1 ht;have htc:t.columns.length<=1048576:=t6.1;have fl:∀ {r:Val×Bool},Flat r.1->Good1 16777216 r:=fun {r} h=>⟨h.fit _,by rw [h.cnt];omega,fun _=>h⟩;have er:∀n:Int, -1000000<=n->n<=1000000->Good1 16777216 (y6 n,false):=fun n h1 h2=>fl (zV (yX h1 h2));unfold A9;cases g1:(yY [2,2,5] [a,b,t]).2.1
 ·rw [jF];obtain⟨g2,g3⟩:=AR g1;obtain⟨_,_,hk2⟩:=kb3 g3;have ot:=C1 (g2 t (by simp)) hk2;have rt:=C2 (g2 t (by simp)) hk2;have nt:=xA5 (g2 t (by simp)) hk2;rcases E5 (s:=a.text) (xs:=t.columns) (j:=0) with ⟨hi,_⟩|⟨i,hi1,hi,_,_⟩
  ·unfold BK;rw [Zz (by omega:yT t.columns a.text 0<0)];exact er 7 (by omega) (by omega)
  ·rw [Zj] at hi;rw [hi];generalize yT t.columns b.text 0=k;unfold BK;rw [Zy (by omega:¬(i:Int)<0),jF,jI];cases decide (k<0)
   ·rw [jF];cases ((i:Int)==k)
    ·rw [jF];split
     ·rename_i hall;have hl:=Hl i t.rows;have hfit:∀x∈uN i k.toNat t.rows,x.Fit 16777216:=fun x hx=>by
       obtain⟨y,hy,rfl⟩:=Zk.1 hx;obtain⟨r,hr,e⟩:=O0 t.rows (GI.1 hy);have h1:=nt r hr i (by have:=rt r hr;omega);have h2:=Zu.1 hall y hy;simp only [wR,Zv,Z1] at h2;have h3:=OX (i:=i) (x:=y) (L:=1048576) t.rows fun q hq=>(t7.2 q hq).2.1;have h4:t.rows.length*1048576<=12*1048576:=YH ot.2 (Zi _);refine⟨⟨by show 2<=_;omega,fun n hn=> ?_⟩,by show(uL i t.rows y).length<=_;omega,fun o ho=> ?_⟩
       ·simp only [Zo,Z2,or_false] at hn;unfold I64;rcases hn with rfl|rfl <;>omega
       ·obtain⟨q,hq,_,hm⟩:=OY t.rows ho;exact(t7.2 q hq).2.2 o hm
      have hgl:(uN i k.toNat t.rows).length<=12:=by
       rw [uN,Zr];have:=ot.2;omega
      refine⟨Ij ⟨by show 2<=_;omega,fun s hs=> ?_⟩ ⟨by omega,hfit⟩,?_,fun h=>by cases h⟩
      ·simp only [Zo,Z2,or_false] at hs;show s.length<=_;rcases hs with rfl|rfl
       ·have:a.text.length<=1048576:=a4;omega
       ·have:b.text.length<=1048576:=b4;omega
      ·show(Val.mk 5 0 0 [] [] _ _).cnt<=_;rw [Ii]
       have:=C0 (f:=BB) (l:=uN i k.toNat t.rows) (a:=100000000) (fun x hx=>by
        have f:=hfit x hx;have e1:x.frm.length<=16777216:=f.2.1;have e0:x.cells.length<=16777216:=f.1.1;have e2:=C0 (f:=Fn) (l:=x.frm) (a:=2) (fun _ _=>Zi _);simp only [BB,DG];omega)
       simp only [jC,jN];omega
     ·exact er 5 (by omega) (by omega)
    ·exact er 7 (by omega) (by omega)
   ·exact er 7 (by omega) (by omega)
 ·exact fl (Cj (C3 ha hb ht))
end Go.Ab
end
section
namespace Go.Ab
theorem Ji{i k:Nat}{r x:Rowd}:∀ {ts:List Rowd},x∈jr i k r ts->∃t∈ts,x=Am k r t/\r.cells.getD i Di=t.cells.getD k Di
 | [],h=>by cases h
 |t::ts,h=>by
  unfold jr at h;cases hc:(r.cells.getD i Di==t.cells.getD k Di)
  ·rw [hc,jF] at h;obtain⟨t',h1,h2⟩:=Ji h;exact⟨t',Zq _ h1,h2⟩
  ·rw [hc,jT] at h;rcases Zo.1 h with e|h
   ·exact⟨t,Zp,e,by simpa using hc⟩
   ·obtain⟨t',h1,h2⟩:=Ji h;exact⟨t',Zq _ h1,h2⟩
theorem Jj{i k:Nat}{ts:List Rowd}{x:Rowd}:∀ {rs:List Rowd},x∈jrs i k ts rs->∃r∈rs,∃t∈ts,x=Am k r t/\r.cells.getD i Di=t.cells.getD k Di
 | [],h=>by cases h
 |r::rs,h=>by
  rcases Za.1 h with h|h
  ·obtain⟨t,h1,h2⟩:=Ji h;exact⟨r,Zp,t,h1,h2⟩
  ·obtain⟨r',h1,h2⟩:=Jj h;exact⟨r',Zq _ h1,h2⟩
theorem xKk{K k:Nat}{r t:Rowd}(hr:r.Fit K)(ht:t.Fit K):(Am k r t).Fit (2*K):=by
 obtain⟨⟨a1,a2⟩,a3,a4⟩:=hr;obtain⟨⟨b1,b2⟩,b3,b4⟩:=ht;refine⟨⟨?_,fun n hn=> ?_⟩,?_,fun o ho=> ?_⟩
 ·simp only [Am,jA,ZT,Yx];omega
 ·simp only [Am,Za] at hn;rcases hn with (hn|hn) |hn
  ·exact a2 n hn
  ·exact b2 n (ZI hn)
  ·exact b2 n (Ye hn)
 ·have:=xBa r.frm t.frm;show(qX r.frm t.frm).length<=_;omega
 ·rcases Hg.1 ho with h|h
  ·exact a4 o h
  ·exact b4 o h
theorem xI3{a u v:Val}(ha:a.Fit 1048576)(hu:u.Fit 1048576)(hv:v.Fit 1048576):Good1 2097152 (Al a u v):=by
 obtain⟨_,_,_,_,_,u6,u7⟩:=Val.fit_iff.1 hu;obtain⟨_,_,_,_,_,v6,v7⟩:=Val.fit_iff.1 hv;have fl:∀ {r:Val×Bool},Flat r.1->Good1 2097152 r:=fun {r} h=>⟨h.fit _,by rw [h.cnt];omega,fun _=>h⟩;have er:∀n:Int, -1000000<=n->n<=1000000->Good1 2097152 (y6 n,false):=fun n h1 h2=>fl (zV (yX h1 h2));unfold Al;cases g1:(yY [2,5,5] [a,u,v]).2.1
 ·rw [jF];generalize yT u.columns a.text 0=i;generalize yT v.columns a.text 0=k;unfold CH;cases decide (i<0)
  ·cases decide (k<0)
   ·simp only [jF];generalize hcs:u.columns++(v.columns.take k.toNat++v.columns.drop (k.toNat+1))=cs;cases AP cs
    ·exact er 7 (by omega) (by omega)
    ·simp only [jU,jF];by_cases h4:(cs.length:Int)>4
     ·rw [Zz h4];exact er 6 (by omega) (by omega)
     ·rw [Zy h4,jF];unfold CG;by_cases h12:((jrs i.toNat k.toNat v.rows u.rows).length:Int)>12
      ·rw [Zz h12];exact er 6 (by omega) (by omega)
      ·rw [Zy h12,jF];have hfit:∀x∈jrs i.toNat k.toNat v.rows u.rows,x.Fit 2097152:=fun x hx=>by
        obtain⟨r,hr,t,ht,rfl,_⟩:=Jj hx;exact xKk (u7.2 r hr) (v7.2 t ht)
       refine⟨Ij ⟨by omega,fun s hs=> ?_⟩ ⟨by omega,hfit⟩,?_,fun h=>by cases h⟩
       ·show s.length<=_;rw [<-hcs] at hs;simp only [Za] at hs;rcases hs with hs|hs|hs
        ·have:s.length<=1048576:=u6.2 s hs;omega
        ·have:s.length<=1048576:=v6.2 s (ZI hs);omega
        ·have:s.length<=1048576:=v6.2 s (Ye hs);omega
       ·show(Val.mk 5 0 0 [] [] _ _).cnt<=_;rw [Ii]
        have:=C0 (f:=BB) (l:=jrs i.toNat k.toNat v.rows u.rows) (a:=8000000) (fun x hx=>by
         have f:=hfit x hx;have e1:x.frm.length<=2097152:=f.2.1;have e0:x.cells.length<=2097152:=f.1.1;have e2:=C0 (f:=Fn) (l:=x.frm) (a:=2) (fun _ _=>Zi _);simp only [BB,DG];omega)
        omega
   ·exact er 7 (by omega) (by omega)
  ·exact er 7 (by omega) (by omega)
 ·exact fl (Cj (C3 ha hu hv))
end Go.Ab
end
section
namespace Go.Ab
def Bq(n:Int):Val:=bif zB n then y5 n else y6 5
theorem xKa {n:Int}(h:zB n=true):I64 n:=by
 unfold zB at h;simp only [Zv,Z1] at h;exact⟨by omega,by omega⟩
theorem JP(n:Int):Flat (Bq n):=by
 unfold Bq;cases h:zB n
 ·exact zV (yX (by omega) (by omega))
 ·exact DJ (xKa h)
theorem xH4(N:Nat)(n:Int):Ft N n=some (Bq n):=by
 simp only [Ft,DZ,jS,yV,Ae,Bq];cases zB n <;>rfl
theorem xMY(N:Nat)(n:Int):Dn N n=some (Bq n):=by
 simp only [Dn,CX,jS,yZ,zK,Bq];cases zB n <;>rfl
def Ev(n v:Val):Bool:=(n.kind != 1)||((v.kind != 3)&&(v.kind != 4))
def zG(n v:Val):Val×Bool×Bool:=bif(opG [n,v]).2.1 then opG [n,v] else(y6 4,Ev n v,false)
def Au(n v:Val):Val×Bool:=bif(zG n v).2.1 then((zG n v).1,true) else(At,false)
theorem Bu{K:Nat}{n v:Val}(hn:n.Fit K)(hv:v.Fit K):Flat (zG n v).1:=by
 unfold zG;cases (opG [n,v]).2.1
 ·exact zV (yX (by omega) (by omega))
 ·exact HK (B2 hn hv)
theorem Dd{n v:Val}(h:(zG n v).2.1=false):(zG n v).2.2=false/\yW v=true/\n.kind=1/\(v.kind=3\/v.kind=4)/\yW n=true:=by
 unfold zG at h ⊢;cases h1:(opG [n,v]).2.1
 ·rw [h1] at h;simp only [jF] at h ⊢;have ho:=Hi h1;refine⟨by simp,ho v (by simp),?_⟩;simp only [Ev,ZR,bne_eq_false_iff_eq,Bool.and_eq_false_iff] at h;exact⟨h.1,h.2,ho n (by simp)⟩
 ·rw [h1] at h;simp only [jT] at h;rw [h1] at h;cases h
theorem xJZ{v:Val}(hv:yW v=true)(hk:v.kind=3):v.list.length<=8/\∀x∈v.list,(x.kind==6)=false:=by
 rw [AH,hk] at hv;simp only [show((3:Int)==1)=false from rfl,show((3:Int)==2)=false from rfl,show((3:Int)==4)=false from rfl,show((3:Int)==6)=false from rfl,show((3:Int)==5)=false from rfl,show((3:Int)==3)=true from rfl,jT,jF,Zv,Z1,ES,Zu] at hv;obtain⟨h1,_,_,_,_,_,h2,_⟩:=hv;refine⟨h2,fun x hx=> ?_⟩;have he:=(h1 x hx).1;unfold B8 at he;cases h6:(x.kind==6)
 ·rfl
 ·rw [eq_of_beq h6] at he;cases he
theorem KM{K:Nat}(hK:24<=K/\K<=4611686018427387903){n v:Val}(hn:n.Fit K)(hv:v.Fit K):Big fun N=>El N n v=some (zG n v)/\Fb N n v=some (Au n v):=by
 refine(Hj hK (l:=[n,v]) (B2 hn hv) (by simp;omega)).imp fun N ⟨h1,h2⟩=> ?_;obtain⟨e1,e2,e3,e4,e5⟩:=GL (l:=[n,v]);constructor
 ·simp only [El,Val.re_eq,h1,jS,e1,e2,e3,jE,ZB,Aq e1 e2 e3,yV,zG,Ev];cases g:(opG [n,v]).2.1
  ·rw [GM g];cases (n.kind != 1) <;>cases (v.kind != 3) <;>cases (v.kind != 4) <;>rfl
  ·cases h:(opG [n,v]).2.2 <;>simp only [jT,jF] <;>(congr 1;exact XS rfl (XS g.symm h.symm))
 ·simp only [Fb,Val.re_eq,h2,jS,yZ,Au,zG,Ev];cases g:(opG [n,v]).2.1
  ·cases (n.kind != 1) <;>cases (v.kind != 3) <;>cases (v.kind != 4) <;>rfl
  ·simp only [jT,g]
def zH(n v:Val):Val:=bif decide (n.n<0)||((v.kind==3)&&decide (n.n>=(v.list.length:Int))) then y6 5 else bif v.kind==3 then v.list.getD n.n.toNat Dv else Bq (IntKind.i64.wrap (v.n+IntKind.i64.wrap (n.n*v.step)))
def AL(n v:Val):Val×Bool:=bif(zG n v).2.1 then((zG n v).1,(zG n v).2.2) else(zH n v,false)
theorem KA{K:Nat}(hK:24<=K/\K<=137438953472){n v:Val}(hn:n.Fit K)(hv:v.Fit K):Big fun N=>Ar N n v=some (AL n v)/\An N n v=some (AL n v).1:=by
 obtain⟨_,_,_,_,h5,_,_⟩:=Val.fit_iff.1 hv;have hk:K<=137438953472:=hK.2;refine((KM (by omega) hn hv).and (((Big.list fun x hx=>xAq (h5.2 x hx) hk)).and (Big.list fun x hx=>xIc (h5.2 x hx) hk))).imp fun N ⟨⟨h1,h2⟩,c1,c2⟩=> ?_;obtain⟨e1,e2,e3,_⟩:=Bu (K:=K) hn hv;cases g:(zG n v).2.1
 ·obtain⟨gt,_,_,gk,_⟩:=Dd g;have hget:∀h:0<=n.n/\n.n<(v.list.length:Int),v.list.getD n.n.toNat Dv∈v.list:=fun h=>by
   have hl:n.n.toNat<v.list.length:=by omega
   have:v.list.getD n.n.toNat Dv=v.list[n.n.toNat]:=by simp [List.getD,hl]
   rw [this];exact Z4 hl
  have hs:Au n v=(At,false):=by unfold Au;rw [g];rfl
  rw [hs] at h2;by_cases a:n.n<0
  ·simp only [Ar,An,h1,h2,jS,g,gt,jF,Zz a,jT,yV,yZ,AL,zH,XZ]
   first |exact⟨rfl,rfl⟩|exact⟨trivial,trivial⟩
  ·cases b:(v.kind==3)
   ·simp only [Ar,An,h1,h2,jS,g,gt,jF,Zy a,jT,yV,yZ,AL,zH,ZE,b,ZQ,xH4,xMY]
    first |exact⟨rfl,rfl⟩|exact⟨trivial,trivial⟩
   ·by_cases c:n.n>=(v.list.length:Int)
    ·simp only [Ar,An,h1,h2,jS,g,gt,jF,Zy a,Zz c,jT,yV,yZ,AL,zH,ZE,b,ZN]
     first |exact⟨rfl,rfl⟩|exact⟨trivial,trivial⟩
    ·have hm:=hget ⟨by omega,by omega⟩;simp only [Ar,An,h1,h2,jS,g,gt,jF,Zy a,Zy c,jT,yV,yZ,AL,zH,ZE,b,ZN,Zw (show(0:Int)<=n.n/\n.n<(v.list.length:Int) by omega),c1 _ hm,c2 _ hm]
     first |exact⟨rfl,rfl⟩|first |exact⟨rfl,rfl⟩|exact⟨trivial,trivial⟩
 ·have hs:Au n v=((zG n v).1,true):=by unfold Au;rw [g];rfl
  rw [hs] at h2;refine⟨?_,?_⟩
  ·simp only [Ar,h1,jS,e1,e2,e3,jE,ZB,Aq e1 e2 e3,g,jT,AL];cases (zG n v).2.2 <;>rfl
  ·simp only [An,h2,jS,g,jT,AL]
def Ag(n:Int)(l:Nat):Int:=if(l:Int)<n then(l:Int) else n
def skB(n v:Val):Val:=bif decide (n.n<0) then y6 5 else bif v.kind==3 then .mk 3 0 0 [] (v.list.drop (Ag n.n v.list.length).toNat) [] [] else bif(zH n v).kind==6 then zH n v else .mk 4 (zH n v).n v.step [] [] [] []
def skG(n v:Val):Val×Bool:=bif(zG n v).2.1 then((zG n v).1,(zG n v).2.2) else(skB n v,false)
theorem Nr{α:Type}{K:Nat}{p:α->Prop}{l:List α}(h:zO K p l)(k:Nat):zO K p (l.drop k):=
 ⟨by have:=h.1;rw [Yx];omega,fun x hx=>h.2 x (Ye hx)⟩
theorem xK5{K:Nat}(hK:24<=K/\K<=137438953472){n v:Val}(hn:n.Fit K)(hv:v.Fit K):Big fun N=>DU N n v=some (skG n v)/\Dz N n v=some (skG n v).1:=by
 obtain⟨_,_,_,_,h5,_,_⟩:=Val.fit_iff.1 hv;have hk:K<=137438953472:=hK.2;have hd:=Nr h5 (Ag n.n v.list.length).toNat;have hlen:v.list.length<=K:=h5.1;refine(((KM (by omega) hn hv).and (KA hK hn hv)).and ((NR hd hk).and ((Big.list fun x hx=>xAq (hd.2 x hx) hk).and (AT K)))).imp fun N ⟨⟨⟨h1,h2⟩,n1,n2⟩,c1,c2,hN⟩=> ?_;obtain⟨e1,e2,e3,_⟩:=Bu (K:=K) hn hv;cases g:(zG n v).2.1
 ·obtain⟨gt,_,_,gk,_⟩:=Dd g;have hs:Au n v=(At,false):=by unfold Au;rw [g];rfl
  rw [hs] at h2;have hnt:AL n v=(zH n v,false):=by unfold AL;rw [g];rfl
  rw [hnt] at n1 n2;by_cases a:n.n<0
  ·simp only [DU,Dz,h1,h2,jS,g,gt,jF,Zz a,jT,yV,yZ,skG,skB]
   first |exact⟨rfl,rfl⟩|exact⟨trivial,trivial⟩
  ·cases b:(v.kind==3)
   ·simp only [DU,Dz,h1,h2,n1,n2,jS,g,gt,jF,Zy a,jT,Ce,EA,skG,skB,b];cases ((zH n v).kind==6) <;>first |exact⟨rfl,rfl⟩|exact⟨trivial,trivial⟩
   ·have hm:0<=Ag n.n v.list.length/\Ag n.n v.list.length<=(v.list.length:Int):=by unfold Ag;split <;>omega
    have hsp:IV N n.n (v.list.length:Int)=some (Ag n.n v.list.length):=by
     unfold IV Ag;by_cases h:n.n<(v.list.length:Int)
     ·rw [Zz h,jT,Zf (by omega)]
     ·rw [Zy h,jF]
      congr 1
      split <;>omega
    have hsl:=xMA (N:=N) (l:=v.list.drop (Ag n.n v.list.length).toNat) (by have:=hd.1;omega) (by have:=hd.1;omega) c2;have him:(if(v.list.length:Int)<n.n then(v.list.length:Int) else n.n)=Ag n.n v.list.length:=rfl;simp only [DU,Dz,h1,h2,jS,g,gt,jF,Zy a,jT,skG,skB,b,him,hsp,Zw hm,DT,c1,hsl]
    first |exact⟨rfl,rfl⟩|exact⟨trivial,trivial⟩
 ·have hs:Au n v=((zG n v).1,true):=by unfold Au;rw [g];rfl
  rw [hs] at h2;refine⟨?_,?_⟩
  ·simp only [DU,h1,jS,g,jT,skG];cases (zG n v).2.2 <;>rfl
  ·simp only [Dz,h2,jS,g,jT,skG]
end Go.Ab
end
section
namespace Go.Ab
theorem xKb{i:Int}(h0:0<=i)(h1:i<=8):yW (y5 i)=true:=by
 have:zB i=true:=by unfold zB;rw [Zz (by omega),Zz (by omega)];rfl
 rw [AH];simp only [y5,vk,vn,vs,vt,vl,vc,vr,this,show((1:Int)==1)=true from rfl,jT,emp]
 rfl
theorem xKX{n v:Val}(g:(zG n v).2.1=false){i:Int}(h0:0<=i)(h1:i<=8):(zG (y5 i) v).2.1=false:=by
 obtain⟨_,hv,_,hk,_⟩:=Dd g;have h6:(v.kind==6)=false:=by rcases hk with h|h <;>rw [h] <;>rfl
 have ho:opG [y5 i,v]=(At,false,false):=by
  simp only [opG,xKb h0 h1,hv,h6,jU,jF,show((y5 i).kind==6)=false from rfl]
 unfold zG;rw [ho];show Ev (y5 i) v=false;unfold Ev;have e:((y5 i).kind != 1)=false:=rfl;rw [e];rcases hk with h|h <;>rw [h] <;>rfl
def BG(v:Val):Nat->Int->List Val->Val
 |0,_,acc=> .mk 3 0 0 [] acc [] []
 |m+1,i,acc=>bif(zH (y5 i) v).kind==6 then zH (y5 i) v else BG v m (i+1) (acc++ [zH (y5 i) v])
def Fd(n v:Val):Val:=bif !(decide (0<=n.n)&&decide (n.n<=8)) then y6 5 else bif v.kind==3 then .mk 3 0 0 [] (v.list.take n.n.toNat) [] [] else BG v n.n.toNat 0 []
def Ay(n v:Val):Val×Bool:=bif(zG n v).2.1 then((zG n v).1,(zG n v).2.2) else(Fd n v,false)
theorem xIL{N:Nat}{n v z:Val}(hn:n.n<=8)(hnth:∀i:Int,0<=i->i<=8->Ar N (y5 i) v=some (zH (y5 i) v,false)):
 ∀(m:Nat) (i:Int) (acc:List Val) (f:Nat),0<=i->i+m=n.n->acc.length<=1000 - m->m<=8->m<f->Ed N f i n v z (.mk 3 0 0 [] acc [] [])=some (BG v m i acc,false):=by
 intro m
 induction m with
 |zero=>
  intro i acc f h0 h1 h2 h3 h4;obtain⟨f,rfl⟩:∃g,f=g+1:=⟨f - 1,by omega⟩;simp only [Ed,Zy (by omega:¬i<n.n),jF,BG]
 |succ m ih=>
  intro i acc f h0 h1 h2 h3 h4;obtain⟨f,rfl⟩:∃g,f=g+1:=⟨f - 1,by omega⟩;have hnum:Ae N i=some (y5 i):=rfl;simp only [Ed,Zz (by omega:i<n.n),jT,hnum,hnth i h0 (by omega),jS,jF,Val.re_eq,vk,vn,vs,vt,vl,vc,vr,BG];cases ((zH (y5 i) v).kind==6)
  ·simp only [jF];rw [Zw (by simp only [jC,jN];unfold Lim;omega),zX (x:=i+1) (by omega) (by omega)];exact ih (i+1) (acc++ [zH (y5 i) v]) f (by omega) (by omega) (by simp only [jA,jC,jN];omega) (by omega) (by omega)
  ·rfl
theorem xOP{N:Nat}{n v z:Val}(hn:n.n<=8)(hk:(v.kind==3)=false)(hnth:∀i:Int,0<=i->i<=8->An N (y5 i) v=some (zH (y5 i) v)):
 ∀(m:Nat) (i:Int) (acc:List Val) (f:Nat),0<=i->i+m=n.n->acc.length<=1000 - m->m<=8->m<f->BZ N f i n v z (.mk 3 0 0 [] acc [] [])=some (BG v m i acc):=by
 intro m
 induction m with
 |zero=>
  intro i acc f h0 h1 h2 h3 h4;obtain⟨f,rfl⟩:∃g,f=g+1:=⟨f - 1,by omega⟩;simp only [BZ,Zy (by omega:¬i<n.n),jF,BG]
 |succ m ih=>
  intro i acc f h0 h1 h2 h3 h4;obtain⟨f,rfl⟩:∃g,f=g+1:=⟨f - 1,by omega⟩;have hnum:zK N i=some (y5 i):=rfl;simp only [BZ,Zz (by omega:i<n.n),hk,jT,hnum,hnth i h0 (by omega),jS,jF,Val.re_eq,vk,vn,vs,vt,vl,vc,vr,BG];cases ((zH (y5 i) v).kind==6)
  ·simp only [jF];rw [Zw (by simp only [jC,jN];unfold Lim;omega),zX (x:=i+1) (by omega) (by omega)];exact ih (i+1) (acc++ [zH (y5 i) v]) f (by omega) (by omega) (by simp only [jA,jC,jN];omega) (by omega) (by omega)
  ·rfl
theorem xOO{N:Nat}{n v z:Val}(hn:n.n<=8)(hk:(v.kind==3)=true)(hl:v.list.length<=8)(h6:∀x∈v.list,(x.kind==6)=false)(hnth:∀i:Int,0<=i->i<=8->An N (y5 i) v=some (zH (y5 i) v)):
 ∀(m i:Nat) (acc:List Val) (f:Nat),(i:Int)+m=n.n->i<=v.list.length->acc.length<=1000 - m->m<=8->m<f->BZ N f i n v z (.mk 3 0 0 [] acc [] [])=some (.mk 3 0 0 [] (acc++(v.list.drop i).take m) [] []):=by
 intro m
 induction m with
 |zero=>
  intro i acc f h1 hi h2 h3 h4;obtain⟨f,rfl⟩:∃g,f=g+1:=⟨f - 1,by omega⟩;simp only [BZ,Zy (by omega:¬(i:Int)<n.n),jF,List.take_zero,Zb]
 |succ m ih=>
  intro i acc f h1 hi h2 h3 h4;obtain⟨f,rfl⟩:∃g,f=g+1:=⟨f - 1,by omega⟩;have hnum:zK N i=some (y5 i):=rfl;by_cases he:i=v.list.length
  ·have hb:((i:Int)==(v.list.length:Int))=true:=by rw [he];exact Ym _
   simp only [BZ,Zz (by omega:(i:Int)<n.n),hk,jT,vl,hb];rw [he,Yh,List.take_nil,Zb]
  ·have hlt:i<v.list.length:=by omega
   have hb:((i:Int)==(v.list.length:Int))=false:=by rw [ZV];omega
   have hnb:zH (y5 (i:Int)) v=v.list[i]:=by
    unfold zH;have en:(y5 (i:Int)).n=i:=rfl;rw [en,Zy (by omega:¬(i:Int)<0),hk,Zy (by omega:¬(i:Int)>=(v.list.length:Int))];simp only [YQ,Bool.or_self,jF,jT,jI];simp [List.getD,hlt]
   have hx:=h6 v.list[i] (Z4 hlt);simp only [BZ,Zz (by omega:(i:Int)<n.n),hk,jT,hb,jF,hnum,hnth i (by omega) (by omega),jS,hnb,hx,Val.re_eq,vk,vn,vs,vt,vl,vc,vr];rw [Zw (by simp only [jC,jN];unfold Lim;omega),zX (x:=(i:Int)+1) (by omega) (by omega)];have e1:((i:Int)+1)=((i+1:Nat):Int):=by omega
   rw [e1,ih (i+1) (acc++ [v.list[i]]) f (by omega) (by omega) (by simp only [jA,jC,jN];omega) (by omega) (by omega)];rw [Yy hlt,List.take_succ_cons,Zc]
   rfl
theorem Ns{α:Type}{K:Nat}{p:α->Prop}{l:List α}(h:zO K p l)(k:Nat):zO K p (l.take k):=
 ⟨by have:=h.1;rw [ZT];omega,fun x hx=>h.2 x (ZI hx)⟩
theorem xPc{K:Nat}(hK:24<=K/\K<=137438953472){n v:Val}(hn:n.Fit K)(hv:v.Fit K):Big fun N=>DW N n v=some (Ay n v)/\EB N n v=some (Ay n v).1:=by
 obtain⟨_,_,_,_,h5,_,_⟩:=Val.fit_iff.1 hv;have hk:K<=137438953472:=hK.2;have hd:=Ns h5 (Ag n.n v.list.length).toNat;have hnum:∀i:Nat,i∈List.range 9->Big fun N=>Ar N (y5 (i:Int)) v=some (AL (y5 i) v)/\An N (y5 (i:Int)) v=some (AL (y5 i) v).1:=fun i hi=>by
  rw [Yf] at hi;exact KA hK ((DJ (yX (by omega) (by omega))).fit K) hv
 refine(((KM (by omega) hn hv).and (Big.list hnum)).and ((NR hd hk).and (AT 24))).imp fun N ⟨⟨⟨h1,h2⟩,hnth⟩,c1,hN⟩=> ?_;obtain⟨e1,e2,e3,_⟩:=Bu (K:=K) hn hv;cases g:(zG n v).2.1
 ·obtain⟨gt,gv,_,gk,_⟩:=Dd g;have hs:Au n v=(At,false):=by unfold Au;rw [g];rfl
  rw [hs] at h2;have hg:∀i:Int,0<=i->i<=8->AL (y5 i) v=(zH (y5 i) v,false):=fun i h0 h1=>by unfold AL;rw [xKX g h0 h1];rfl
  have ni:∀i:Int,0<=i->i<=8->Ar N (y5 i) v=some (zH (y5 i) v,false):=fun i h0 h1=>by
   have:=(hnth i.toNat (Yf.2 (by omega))).1;rw [ZA h0,hg i h0 h1] at this;exact this
  have ns:∀i:Int,0<=i->i<=8->An N (y5 i) v=some (zH (y5 i) v):=fun i h0 h1=>by
   have:=(hnth i.toNat (Yf.2 (by omega))).2;rw [ZA h0,hg i h0 h1] at this;exact this
  by_cases a:0<=n.n/\n.n<=8
  ·have ha:(decide (0<=n.n)&&decide (n.n<=8))=true:=by rw [Zz a.1,Zz a.2];rfl
   cases b:(v.kind==3)
   ·have l1:=xIL (N:=N) (n:=n) (v:=v) (z:=Val.mk 0 0 0 [] [] [] []) a.2 ni n.n.toNat 0 [] N (by omega) (by omega) (by simp) (by omega) (by omega);have l2:=xOP (N:=N) (n:=n) (v:=v) (z:=Val.mk 0 0 0 [] [] [] []) a.2 b ns n.n.toNat 0 [] N (by omega) (by omega) (by simp) (by omega) (by omega);simp only [DW,EB,h1,h2,jS,g,gt,jF,D3,FR,ha,jU,b,l1,l2,Ay,Fd]
    first |exact⟨rfl,rfl⟩|exact⟨trivial,trivial⟩
   ·obtain⟨q1,q2⟩:=xJZ gv (eq_of_beq b);have l2:=xOO (N:=N) (n:=n) (v:=v) (z:=Val.mk 0 0 0 [] [] [] []) a.2 b q1 q2 ns n.n.toNat 0 [] N (by omega) (by omega) (by simp) (by omega) (by omega);have hm:0<=Ag n.n v.list.length/\Ag n.n v.list.length<=(v.list.length:Int):=by unfold Ag;split <;>omega
    have him:(if(v.list.length:Int)<n.n then(v.list.length:Int) else n.n)=Ag n.n v.list.length:=rfl;have ht:v.list.take (Ag n.n v.list.length).toNat=v.list.take n.n.toNat:=by
     unfold Ag;split
     ·rw [jI,ZK,Xj (by omega)]
     ·rfl
    rw [ht] at c1;simp only [Int.ofNat_zero,Xw,jM] at l2;simp only [DW,EB,h1,h2,jS,g,gt,jF,jT,D3,FR,ha,jU,b,him,Zw hm,ht,DT,c1,Ay,Fd]
    first |exact⟨rfl,l2⟩|exact⟨trivial,l2⟩
  ·have ha:(decide (0<=n.n)&&decide (n.n<=8))=false:=by
    by_cases a0:0<=n.n
    ·rw [Zy (by omega:¬n.n<=8),YQ]
    ·rw [Zy a0,ZQ]
   simp only [DW,EB,h1,h2,jS,g,gt,jF,jT,D3,FR,ha,jV,yV,yZ,Ay,Fd]
   first |exact⟨rfl,rfl⟩|exact⟨trivial,trivial⟩
 ·have hs:Au n v=((zG n v).1,true):=by unfold Au;rw [g];rfl
  rw [hs] at h2;refine⟨?_,?_⟩
  ·simp only [DW,h1,jS,g,jT,Ay];cases (zG n v).2.2 <;>rfl
  ·simp only [EB,h2,jS,g,jT,Ay]
theorem xJ6{i:Int}{v:Val}(hk:(v.kind==3)=false):Flat (zH (y5 i) v):=by
 unfold zH;rw [hk];cases decide ((y5 i).n<0)
 ·exact JP _
 ·exact zV (yX (by omega) (by omega))
theorem xPb{v:Val}(hk:(v.kind==3)=false):∀(m:Nat) (i:Int) (acc:List Val),(∀x∈acc,Flat x)->acc.length<=100 - m->m<=8->(BG v m i acc).Fit 1048576/\(BG v m i acc).cnt<=100000000000:=by
 intro m
 induction m with
 |zero=>
  intro i acc h hl hm;refine⟨Nu ⟨by omega,fun x hx=>(h x hx).fit _⟩,?_⟩;show(Val.mk 3 0 0 [] acc [] []).cnt<=_;rw [Nt,JF fun x hx=>(h x hx).cnt];omega
 |succ m ih=>
  intro i acc h hl hm;have hf:=xJ6 (i:=i) hk;unfold BG;cases ((zH (y5 i) v).kind==6)
  ·exact ih (i+1) (acc++ [zH (y5 i) v]) (fun x hx=>by
    rcases Za.1 hx with hx|hx
    ·exact h x hx
    ·rw [Zh] at hx;rw [hx];exact hf) (by simp only [jA,jC,jN];omega) (by omega)
  ·exact⟨hf.fit _,by show(zH (y5 i) v).cnt<=_;rw [hf.cnt];omega⟩
end Go.Ab
end
section
open Go.IntKind (i64)
namespace Go.Ab
def xA1(i k:Int)(r:Rowd):Int:=i64.wrap (r.cells.getD i.toNat Di+r.cells.getD k.toNat Di)
def Bo(i k:Int)(r:Rowd):Bool:=zB (xA1 i k r)
def A1(i k:Int)(r:Rowd):Rowd:=⟨r.cells++ [xA1 i k r],r.frm⟩
def EW(i k:Int)(nm:Str)(t:Val):Val:=bif t.rows.all (Bo i k) then .mk t.kind t.n t.step t.text t.list (t.columns++ [nm]) (t.rows.map (A1 i k)) else y6 5
theorem LK{i k:Int}{rows q:List Rowd}{j:Nat}{x:Rowd}{l:List Rowd}(hd:rows.drop j=x::l)(hq:q=(rows.take j).map (A1 i k)++rows.drop j):
 q[j]? =some x/\q.length=rows.length/\q.set j (A1 i k x)=(rows.take (j+1)).map (A1 i k)++rows.drop (j+1):=by
 obtain⟨h1,h2,h3⟩:=Ak hd;have hl:((rows.take j).map (A1 i k)).length=j:=by rw [Zr,ZT];omega
 subst hq;refine⟨?_,?_,?_⟩
 ·rw [Z3 (by omega),hl,XH,hd];rfl
 ·rw [jA,hl,Yx];omega
 ·rw [List.set_append_right _ _ (by omega),hl,XH,hd,List.set_cons_zero,X3,h2,h3];simp
theorem xMX{N:Nat}{x11 x12:Int}{v z:Val}{k n s:Int}{t:Str}{li:List Val}{cs:List Str}(hl:v.rows.length<=1048576)(hN:1048576<N)
 (h1:∀r∈v.rows,(0<=x11/\x11<(r.cells.length:Int))/\(0<=x12/\x12<(r.cells.length:Int))/\r.cells.length<=1048576):
 Cs N N x11 x12 0 v z (.mk k n s t li cs v.rows)=some (bif v.rows.all (Bo x11 x12) then .mk k n s t li cs (v.rows.map (A1 x11 x12)) else y6 5):=by
 refine zN (L:=fun m i q=>Cs N m x11 x12 i v z (.mk k n s t li cs q)) v.rows (fun l q=>bif l.all (Bo x11 x12) then .mk k n s t li cs (v.rows.map (A1 x11 x12)) else y6 5)
  (fun i q=>q=(v.rows.take i).map (A1 x11 x12)++v.rows.drop i) (fun m q hq=> ?_) (fun i x l q hd hi hx hq=> ?_) N 0 v.rows (by simp) (by omega) (by omega)
 ·rw [ZK,Yh,Zb] at hq;subst hq;simp only [Cs,vr,Zr,Z5,Z6,jF,List.all_nil,jT]
 ·obtain⟨c1,c2,c3⟩:=LK (i:=x11) (k:=x12) hd hq;have hm:=Zs hx;obtain⟨b1,b2,b3⟩:=h1 x hm;have hi' :(i:Int)<(v.rows.length:Int):=by omega
  cases ho:Bo x11 x12 x
  ·refine .inr fun m=> ?_;simp only [Cs,vr,c2,Zz hi',jT,jI,yU hx,CX,jS,show zB (i64.wrap (x.cells.getD x11.toNat Di+x.cells.getD x12.toNat Di))=false from ho,jV,yZ,List.all_cons,ho,ZQ,jF];rw [Zw (by omega),Zw b1,Zw b2];rfl
  ·refine .inl ⟨_,c3,by simp [ho],fun m=> ?_⟩;simp only [Cs,vk,vn,vs,vt,vl,vc,vr,c2,Zz hi',jT,jI,yU hx,yU c1,CX,jS,show zB (i64.wrap (x.cells.getD x11.toNat Di+x.cells.getD x12.toNat Di))=true from ho,jU,jF,y4 hi (by omega:v.rows.length<=_)];rw [Zw (by omega),Zw b1,Zw b2,Zw (by omega),Zw (by simp only [jC,jN];unfold Lim;omega)];rfl
theorem xH2{N:Nat}{x11 x12:Int}{v z:Val}{k n s:Int}{t:Str}{li:List Val}{cs:List Str}(hl:v.rows.length<=1048576)(hN:1048576<N)
 (h1:∀r∈v.rows,(0<=x11/\x11<(r.cells.length:Int))/\(0<=x12/\x12<(r.cells.length:Int))/\r.cells.length<=1048576):
 Bv N N x11 x12 v.rows v.rows.length 0 z (.mk k n s t li cs v.rows)=some ((bif v.rows.all (Bo x11 x12) then .mk k n s t li cs (v.rows.map (A1 x11 x12)) else y6 5),false):=by
 refine zN (L:=fun m i q=>Bv N m x11 x12 v.rows v.rows.length i z (.mk k n s t li cs q)) v.rows (fun l q=>((bif l.all (Bo x11 x12) then .mk k n s t li cs (v.rows.map (A1 x11 x12)) else y6 5),false))
  (fun i q=>q=(v.rows.take i).map (A1 x11 x12)++v.rows.drop i) (fun m q hq=> ?_) (fun i x l q hd hi hx hq=> ?_) N 0 v.rows (by simp) (by omega) (by omega)
 ·rw [ZK,Yh,Zb] at hq;subst hq;simp only [Bv,vr,Z5,Z6,jF,List.all_nil,jT]
 ·obtain⟨c1,c2,c3⟩:=LK (i:=x11) (k:=x12) hd hq;have hm:=Zs hx;obtain⟨b1,b2,b3⟩:=h1 x hm;have hi' :(i:Int)<(v.rows.length:Int):=by omega
  cases ho:Bo x11 x12 x
  ·refine .inr fun m=> ?_;simp only [Bv,vr,c2,Zz hi',jT,jI,yU hx,DZ,jS,show zB (i64.wrap (x.cells.getD x11.toNat Di+x.cells.getD x12.toNat Di))=false from ho,jV,yV,List.all_cons,ho,ZQ,jF];rw [Zw (by omega),Zw b1,Zw b2];rfl
  ·refine .inl ⟨_,c3,by simp [ho],fun m=> ?_⟩;simp only [Bv,vk,vn,vs,vt,vl,vc,vr,c2,Zz hi',jT,jI,yU hx,yU c1,DZ,jS,show zB (i64.wrap (x.cells.getD x11.toNat Di+x.cells.getD x12.toNat Di))=true from ho,jU,jF,y4 hi (by omega:v.rows.length<=_)];rw [Zw (by omega),Zw b1,Zw b2,Zw (by omega),Zw (by simp only [jC,jN];unfold Lim;omega)];rfl
def zT(m a b t:Val):Val×Bool:=bif(yY [2,2,2,5] [m,a,b,t]).2.1 then((yY [2,2,2,5] [m,a,b,t]).1,(yY [2,2,2,5] [m,a,b,t]).2.2) else
 (bif !Az m.text then y6 7 else bif decide (yT t.columns m.text 0>=0) then y6 7 else bif decide (yT t.columns a.text 0<0) then y6 7 else bif decide (yT t.columns b.text 0<0) then y6 7 else
   bif decide ((t.columns.length:Int)>=4) then y6 6 else EW (yT t.columns a.text 0) (yT t.columns b.text 0) m.text t,false)
theorem kb4{a b c d:Val}{x y z w:Int}(h:kb [a,b,c,d] [x,y,z,w]=false):a.kind=x/\b.kind=y/\c.kind=z/\d.kind=w:=by
 simp only [kb,ZR,bne_eq_false_iff_eq] at h;exact⟨h.1,h.2.1,h.2.2.1,h.2.2.2.1⟩
theorem JR{K:Nat}{a b c d:Val}(ha:a.Fit K)(hb:b.Fit K)(hc:c.Fit K)(hd:d.Fit K):∀x∈ [a,b,c,d],x.Fit K:=fun x hx=>by
 simp only [Zo,Z2,or_false] at hx;rcases hx with rfl|rfl|rfl|rfl
 ·exact ha
 ·exact hb
 ·exact hc
 ·exact hd
theorem Lf{c:List Str}(h:AI c=true):c.length<=4:=by
 unfold AI at h;simp only [Zv,Z1] at h;omega
theorem E6{cols:List Str}{s:Str}(h:¬yT cols s 0<0):0<=yT cols s 0/\yT cols s 0<(cols.length:Int):=by
 rcases Fs (s:=s) (xs:=cols) (j:=0) with h|⟨_,h⟩ <;>omega
theorem xCN{K:Nat}(hK:24<=K/\K<=1048576){m a b v:Val}(hm:m.Fit K)(ha:a.Fit K)(hb:b.Fit K)(hv:v.Fit K):Big fun N=>Ba N m a b v=some (zT m a b v)/\Bj N m a b v=some (zT m a b v).1:=by
 obtain⟨_,_,_,_,_,h6,h7⟩:=Val.fit_iff.1 hv;obtain⟨_,_,_,hmt,_,_,_⟩:=Val.fit_iff.1 hm;have hc:v.columns.length<=K:=h6.1;have hrl:v.rows.length<=K:=h7.1;have hmt:m.text.length<=K:=hmt;refine(((CI (by omega) (vs:=[m,a,b,v]) (ks:=[2,2,2,5]) (JR hm ha hb hv) (by simp;omega) rfl).and (AT 1048576)).and ((xAp (by omega:K<=_) v hv).diag.and (Jb (by omega:K<=_) v hv).diag)).imp fun N ⟨⟨⟨h1,h2⟩,hN⟩,cp1,cp2⟩=> ?_;have cp1:EH N v=some v:=cp1;have cp2:DX N v=some v:=cp2;obtain⟨e1,e2,e3,_⟩:=BU (ks:=[2,2,2,5]) (JR hm ha hb hv);have i1:=fun s=>Bw (N:=N) (v:=v) (s:=s) (by omega) (by omega);have i2:=fun s=>BX (N:=N) (v:=v) (s:=s) (by omega) (by omega);have n1:=NE (N:=N) (s:=m.text) (by omega) (by omega);have n2:=xAd (N:=N) (s:=m.text) (by omega) (by omega) (by omega);cases g1:(yY [2,2,2,5] [m,a,b,v]).2.1
 ·have htag:=CJ g1;obtain⟨g2,g3⟩:=AR g1;have hk5:=(kb4 g3).2.2.2;have hrows:=C2 (g2 v (by simp)) hk5;obtain⟨hco,hr12⟩:=C1 (g2 v (by simp)) hk5;have hc4:=Lf hco;cases hnm:Az m.text
  ·exact⟨by simp only [Ba,Val.re_eq,h1,jS,g1,htag,jF,i1,n1,hnm,jV,jT,yV,zT];rfl,by simp only [Bj,Val.re_eq,h2,jS,g1,jF,i2,n2,hnm,jV,jT,yZ,zT];rfl⟩
  by_cases d1:yT v.columns m.text 0>=0
  ·exact⟨by simp only [Ba,Val.re_eq,h1,jS,g1,htag,jF,i1,n1,hnm,jU,Zz d1,jT,yV,zT];rfl,by simp only [Bj,Val.re_eq,h2,jS,g1,jF,i2,n2,hnm,jU,Zz d1,jT,yZ,zT];rfl⟩
  by_cases d2:yT v.columns a.text 0<0
  ·exact⟨by simp only [Ba,Val.re_eq,h1,jS,g1,htag,jF,i1,n1,hnm,jU,Zy d1,Zz d2,jT,yV,zT];rfl,by simp only [Bj,Val.re_eq,h2,jS,g1,jF,i2,n2,hnm,jU,Zy d1,Zz d2,jT,yZ,zT];rfl⟩
  by_cases d3:yT v.columns b.text 0<0
  ·exact⟨by simp only [Ba,Val.re_eq,h1,jS,g1,htag,jF,i1,n1,hnm,jU,Zy d1,Zy d2,Zz d3,jT,yV,zT];rfl,by simp only [Bj,Val.re_eq,h2,jS,g1,jF,i2,n2,hnm,jU,Zy d1,Zy d2,Zz d3,jT,yZ,zT];rfl⟩
  have q1:=E6 d2;have q2:=E6 d3;have hat:∀r∈v.rows,(0<=yT v.columns a.text 0/\yT v.columns a.text 0<(r.cells.length:Int))/\(0<=yT v.columns b.text 0/\yT v.columns b.text 0<(r.cells.length:Int))/\r.cells.length<=1048576:=fun r hr=>by
   rw [hrows r hr];exact⟨q1,q2,by omega⟩
  by_cases d4:v.columns.length=4
  ·have e4:((v.columns.length:Int)==4)=true:=by rw [d4];rfl
   have e5:decide ((v.columns.length:Int)>=4)=true:=Zz (by omega);exact⟨by simp only [Ba,Val.re_eq,h1,jS,g1,htag,jF,i1,n1,hnm,jU,Zy d1,Zy d2,Zy d3,e5,jT,yV,zT];rfl,by simp only [Bj,Val.re_eq,h2,jS,g1,jF,i2,n2,hnm,jU,Zy d1,Zy d2,Zy d3,e4,e5,jT,yZ,zT];rfl⟩
  ·have e4:((v.columns.length:Int)==4)=false:=ZV.2 (by omega);have e5:decide ((v.columns.length:Int)>=4)=false:=Zy (by omega);have hlim:v.columns.length+List.length [m.text]<=Lim:=by simp only [jC,jN];unfold Lim;omega
   have l1:=xH2 (N:=N) (v:=v) (z:=Val.mk 0 0 0 [] [] [] []) (k:=v.kind) (n:=v.n) (s:=v.step) (t:=v.text) (li:=v.list) (cs:=v.columns++ [m.text]) (by omega) hN hat;have l2:=xMX (N:=N) (v:=v) (z:=Val.mk 0 0 0 [] [] [] []) (k:=v.kind) (n:=v.n) (s:=v.step) (t:=v.text) (li:=v.list) (cs:=v.columns++ [m.text]) (by omega) hN hat;refine⟨?_,?_⟩
   ·simp only [Ba,Val.re_eq,h1,jS,g1,htag,jF,i1,n1,hnm,jU,Zy d1,Zy d2,Zy d3,e5,cp2,Zw hlim,l1,zT,EW]
   ·simp only [Bj,Val.re_eq,h2,jS,g1,jF,i2,n2,hnm,jU,Zy d1,Zy d2,Zy d3,e4,e5,cp1,Zw hlim,l2,zT,EW]
 ·refine⟨?_,?_⟩
  ·simp only [Ba,Val.re_eq,h1,jS,e1,e2,e3,jE,ZB,Aq e1 e2 e3,g1,jT,zT];cases (yY [2,2,2,5] [m,a,b,v]).2.2 <;>rfl
  ·simp only [Bj,Val.re_eq,h2,jS,g1,jT,zT]
theorem xO8{v:Val}(hv:yW v=true)(hk:v.kind=5):v.list=[]:=by
 rw [AH,hk] at hv;simp only [show((5:Int)==1)=false from rfl,show((5:Int)==2)=false from rfl,show((5:Int)==4)=false from rfl,show((5:Int)==6)=false from rfl,show((5:Int)==5)=true from rfl,jT,jF,Zv,emp,Z1] at hv;exact Z0.1 hv.1
theorem xCL{m a b v:Val}(hm:m.Fit 1048576)(ha:a.Fit 1048576)(hb:b.Fit 1048576)(hv:v.Fit 1048576):Good1 1048576 (zT m a b v):=by
 obtain⟨v1,v2,v3,v4,v5,h6,h7⟩:=Val.fit_iff.1 hv;obtain⟨_,_,_,hmt,_,_,_⟩:=Val.fit_iff.1 hm;have err:∀c:Int,(0<=c/\c<=10)->Good1 1048576 (y6 c,false):=fun c hc=>Flat.good (r:=(y6 c,false)) (zV (yX (by omega) (by omega)));unfold zT;cases g1:(yY [2,2,2,5] [m,a,b,v]).2.1
 ·obtain⟨g2,g3⟩:=AR g1;have hk5:=(kb4 g3).2.2.2;obtain⟨hco,hr12⟩:=C1 (g2 v (by simp)) hk5;have hc4:=Lf hco;have hrows:=C2 (g2 v (by simp)) hk5;have hnl:=xO8 (g2 v (by simp)) hk5;simp only [jF];cases !Az m.text
  case true=>exact err 7 (by omega)
  cases decide (yT v.columns m.text 0>=0)
  case true=>exact err 7 (by omega)
  cases decide (yT v.columns a.text 0<0)
  case true=>exact err 7 (by omega)
  cases decide (yT v.columns b.text 0<0)
  case true=>exact err 7 (by omega)
  cases decide ((v.columns.length:Int)>=4)
  case true=>exact err 6 (by omega)
  simp only [jF];unfold EW;cases v.rows.all (Bo (yT v.columns a.text 0) (yT v.columns b.text 0))
  case false=>exact err 5 (by omega)
  simp only [jT];refine⟨Val.fit_iff.2 ⟨v1,v2,v3,v4,v5,⟨?_,fun x hx=> ?_⟩,⟨?_,fun r hr=> ?_⟩⟩,?_,fun h=>by cases h⟩
  ·show(v.columns++ [m.text]).length<=_;simp only [jA,jC,jN];omega
  ·rcases Za.1 hx with hx|hx
   ·exact h6.2 x hx
   ·obtain rfl:=Zh.1 hx;exact hmt
  ·show(v.rows.map _).length<=_;rw [Zr];omega
  ·obtain⟨x,hx,rfl⟩:=Zk.1 hr;have hx7:=h7.2 x hx;refine⟨⟨?_,fun z hz=> ?_⟩,hx7.2⟩
   ·simp only [A1,jA,jC,jN,hrows x hx];omega
   ·simp only [A1] at hz;rcases Za.1 hz with hz|hz
    ·exact hx7.1.2 z hz
    ·obtain rfl:=Zh.1 hz;exact DL _
  ·show(Val.mk v.kind v.n v.step v.text v.list _ _).cnt<=_;rw [Im,vl,vc,vr,hnl,DG,Yb]
   have:=C0 (f:=BB ∘ A1 (yT v.columns a.text 0) (yT v.columns b.text 0)) (l:=v.rows) (a:=4000000) (fun x hx=>by
    have e1:x.frm.length<=1048576:=(h7.2 x hx).2.1;have e2:=C0 (f:=Fn) (l:=x.frm) (a:=2) (fun _ _=>Zi _);simp only [Function.comp,A1,BB,DG,jA,jC,jN,hrows x hx];omega)
   simp only [Ys,List.sum_nil,jA,jC,jN];omega
 ·exact Flat.good (Cj (JR hm ha hb hv))
end Go.Ab
end
section
namespace Go.Ab
def dd(n:Nat):Str:=if n=0 then [] else Lib.decDigits n
end Go.Ab
end
section
namespace Go.Ab
theorem JA{α:Type}{b:Bool}{x y:Option α}(h1:∃r,x=some r)(h2:∃r,y=some r):∃r,(bif b then x else y)=some r:=by cases b <;>assumption
def A7(s:Str):Int:=(BR 0 s).getD 0
theorem KV(N:Nat)(s:Str):BR N s=some (A7 s):=by
 have key:∃r,BR 0 s=some r:=by
  unfold BR
  repeat (first |exact⟨_,rfl⟩|refine JA ⟨_,rfl⟩ ?_)
 obtain⟨r,hr⟩:=key;show BR 0 s=_;rw [A7,hr];rfl
theorem xGv(N:Nat)(s:Str):E8 N s=some (A7 s):=(show E8 N s=BR N s from rfl).trans (KV N s)
end Go.Ab
end
section
namespace Go.Ab
def CM(v:Val):Val×Bool:=bif(opG [v]).2.1 then((opG [v]).1,(opG [v]).2.2) else(bif v.kind==3 then y5 v.list.length else bif v.kind==2 then y5 v.text.length else y6 4,false)
theorem xJV{K:Nat}(hK:24<=K/\K<=4611686018427387903){v:Val}(h:v.Fit K):Big fun N=>HW N v=some (CM v)/\IK N v=some (CM v).1:=by
 refine(Hj hK (l:=[v]) (GK h) (by simp;omega)).imp fun N ⟨h1,h2⟩=> ?_;obtain⟨e1,e2,e3,_⟩:=GL (l:=[v]);have hz:∀n:Int,Val.mk 1 n 0 [] [] [] []=y5 n:=fun _=>rfl;refine⟨?_,?_⟩
 ·simp only [HW,Val.re_eq,h1,jS,e1,e2,e3,jE,ZB,Aq e1 e2 e3,Ae,yV,hz,CM];cases g1:(opG [v]).2.1
  ·rw [GM g1];cases v.kind==3 <;>cases v.kind==2 <;>rfl
  ·cases (opG [v]).2.2 <;>rfl
 ·simp only [IK,Val.re_eq,h2,jS,zK,yZ,hz,CM];cases g1:(opG [v]).2.1
  ·cases v.kind==3 <;>cases v.kind==2 <;>rfl
  ·rfl
theorem xJR{K:Nat}(hK:K<=4611686018427387903){v:Val}(h:v.Fit K):Flat (CM v).1:=by
 obtain⟨_,_,_,h4,h5,_⟩:=Val.fit_iff.1 h;have h4:v.text.length<=K:=h4;have h5:v.list.length<=K:=h5.1;unfold CM;cases (opG [v]).2.1
 ·cases v.kind==3
  ·cases v.kind==2
   ·exact zV (yX (by omega) (by omega))
   ·exact DJ ⟨by omega,by omega⟩
  ·exact DJ ⟨by omega,by omega⟩
 ·exact HK (GK h)
def Db(a b:Val):Val×Bool:=bif(yY [1,1] [a,b]).2.1 then((yY [1,1] [a,b]).1,(yY [1,1] [a,b]).2.2) else(.mk 4 a.n b.n [] [] [] [],false)
theorem xKF{K:Nat}{a b:Val}(ha:a.Fit K)(hb:b.Fit K):Flat (Db a b).1:=by
 have h:=Cj (ks:=[1,1]) (l:=[a,b]) (K:=K) fun x hx=>by simp at hx;rcases hx with rfl|rfl <;>assumption
 unfold Db;cases (yY [1,1] [a,b]).2.1
 ·exact HJ (yX (by omega) (by omega)) (Val.fit_iff.1 ha).2.1 (Val.fit_iff.1 hb).2.1
 ·exact h
def cas(s:Str)(l:List Val):Val×Bool:=
 let g:=fun i=>l.getD i Dv
 bif s== [108,101,110] then CM (g 0) else bif s== [115,117,109] then CZ (g 0) else bif s== [114,111,119,115] then Br (g 0) else
 bif s== [116,97,107,101] then Ay (g 0) (g 1) else bif s== [115,107,105,112] then skG (g 0) (g 1) else bif s== [110,116,104] then AL (g 0) (g 1) else
 bif s== [107,101,101,112] then AK (g 0) (g 1) else bif s== [99,111,108,117,109,110] then BD (g 0) (g 1) else bif s== [116,97,98,108,101] then B1 (g 0) (g 1) else
 bif s== [119,104,101,114,101] then whG (g 0) (g 1) (g 2) else bif s== [103,114,111,117,112] then A9 (g 0) (g 1) (g 2) else bif s== [106,111,105,110] then Al (g 0) (g 1) (g 2) else
 bif s== [97,100,100] then zT (g 0) (g 1) (g 2) (g 3) else bif s== [114,97,110,103,101] then Db (g 0) (g 1) else(y6 4,false)
def AO(s:Str)(l:List Val):Val×Bool:=bif(l.length:Int) != A7 s then(y6 4,false) else cas s l
def xA6(r:Val×Bool):Option (Val×Bool):=bif r.2 then some (r.1,true) else some (r.1,false)
theorem xO9(r:Val×Bool):xA6 r=some r:=by obtain⟨x,b⟩:=r;cases b <;>rfl
theorem BC{s:Str}{l:List Val}{r:Val×Bool}{f:Nat->Option (Val×Bool)}{g:Nat->Option Val}(h:Big fun N=>f N=some r/\g N=some r.1)(e:AO s l=r)
 (h1:∀N,BV N s l=Option.bind (f N) xA6) (h2:∀N,Bk N s l=Option.bind (g N) some):Big fun N=>BV N s l=some (AO s l)/\Bk N s l=some (AO s l).1:=
 h.imp fun N ⟨a,b⟩=>⟨by rw [h1,a,e];exact xO9 r,by rw [h2,b,e];rfl⟩
theorem La{s:Str}{l:List Val}(h:((l.length:Int) != A7 s)=true)(N:Nat):BV N s l=some (AO s l)/\Bk N s l=some (AO s l).1:=by
 have he:∃b,Hc N s=some b:=by
  unfold Hc;exact JA ⟨_,rfl⟩ (JA ⟨_,rfl⟩ ⟨_,rfl⟩)
 obtain⟨b,hb⟩:=he;refine⟨?_,?_⟩
 ·simp only [BV,hb,xGv,jS,h,jT,yV,AO];cases b <;>rfl
 ·simp only [Bk,KV,jS,h,jT,yZ,AO]
  rfl
theorem xJ4(s:Str):A7 s= -1\/s∈([[99,108,111,99,107],[108,101,110],[115,117,109],[114,111,119,115],[99,104,97,110,99,101],[102,105,108,101],[116,97,107,101],[115,107,105,112],[114,97,110,103,101],[110,116,104],[107,101,101,112],[99,111,108,117,109,110],[116,97,98,108,101],[119,104,101,114,101],[103,114,111,117,112],[106,111,105,110],[97,100,100]]:List Str):=by
 by_cases h:s∈([[99,108,111,99,107],[108,101,110],[115,117,109],[114,111,119,115],[99,104,97,110,99,101],[102,105,108,101],[116,97,107,101],[115,107,105,112],[114,97,110,103,101],[110,116,104],[107,101,101,112],[99,111,108,117,109,110],[116,97,98,108,101],[119,104,101,114,101],[103,114,111,117,112],[106,111,105,110],[97,100,100]]:List Str)
 ·exact .inr h
 ·refine .inl ?_;simp only [Zo,Z2,or_false,not_or,<-ZV] at h;simp only [A7,BR,h,jF]
  rfl
theorem GH{l:List Val}(h:l.length=1):∃a,l=[a]:=by
 match l,h with
 | [a],_=>exact⟨a,rfl⟩
theorem D5{l:List Val}(h:l.length=2):∃a b,l=[a,b]:=by
 match l,h with
 | [a,b],_=>exact⟨a,b,rfl⟩
theorem Js{l:List Val}(h:l.length=3):∃a b c,l=[a,b,c]:=by
 match l,h with
 | [a,b,c],_=>exact⟨a,b,c,rfl⟩
theorem xJQ{l:List Val}(h:l.length=4):∃a b c d,l=[a,b,c,d]:=by
 match l,h with
 | [a,b,c,d],_=>exact⟨a,b,c,d,rfl⟩
theorem LP{s:Str}{l:List Val}{P:Str->List Val->Prop}(h:((l.length:Int) != A7 s)=false)(z:P [99,108,111,99,107] [])
 (o1:∀a,l=[a]->∀s∈([[108,101,110],[115,117,109],[114,111,119,115],[99,104,97,110,99,101],[102,105,108,101]]:List Str),P s [a])
 (o2:∀a b,l=[a,b]->∀s∈([[116,97,107,101],[115,107,105,112],[114,97,110,103,101],[110,116,104],[107,101,101,112],[99,111,108,117,109,110],[116,97,98,108,101]]:List Str),P s [a,b])
 (o3:∀a b c,l=[a,b,c]->∀s∈([[119,104,101,114,101],[103,114,111,117,112],[106,111,105,110]]:List Str),P s [a,b,c])
 (o4:∀a b c d,l=[a,b,c,d]->P [97,100,100] [a,b,c,d]):P s l:=by
 have h:(l.length:Int)=A7 s:=by simpa using h
 rcases xJ4 s with e|hs
 ·rw [e] at h;omega
 ·simp only [Zo,Z2,or_false] at hs;have f:∀(k:Nat) (t:Str),s=t->A7 t=(k:Int)->l.length=k:=fun k t e1 e2=>by rw [e1,e2] at h;omega
  rcases hs with e|e|e|e|e|e|e|e|e|e|e|e|e|e|e|e|e
  ·obtain rfl:l=[]:=Z0.1 (f 0 _ e (by kernel_rfl));rw [e];exact z
  ·obtain⟨a,q⟩:=GH (f 1 _ e (by kernel_rfl));rw [e,q];exact o1 a q _ (by simp)
  ·obtain⟨a,q⟩:=GH (f 1 _ e (by kernel_rfl));rw [e,q];exact o1 a q _ (by simp)
  ·obtain⟨a,q⟩:=GH (f 1 _ e (by kernel_rfl));rw [e,q];exact o1 a q _ (by simp)
  ·obtain⟨a,q⟩:=GH (f 1 _ e (by kernel_rfl));rw [e,q];exact o1 a q _ (by simp)
  ·obtain⟨a,q⟩:=GH (f 1 _ e (by kernel_rfl));rw [e,q];exact o1 a q _ (by simp)
  ·obtain⟨a,b,q⟩:=D5 (f 2 _ e (by kernel_rfl));rw [e,q];exact o2 a b q _ (by simp)
  ·obtain⟨a,b,q⟩:=D5 (f 2 _ e (by kernel_rfl));rw [e,q];exact o2 a b q _ (by simp)
  ·obtain⟨a,b,q⟩:=D5 (f 2 _ e (by kernel_rfl));rw [e,q];exact o2 a b q _ (by simp)
  ·obtain⟨a,b,q⟩:=D5 (f 2 _ e (by kernel_rfl));rw [e,q];exact o2 a b q _ (by simp)
  ·obtain⟨a,b,q⟩:=D5 (f 2 _ e (by kernel_rfl));rw [e,q];exact o2 a b q _ (by simp)
  ·obtain⟨a,b,q⟩:=D5 (f 2 _ e (by kernel_rfl));rw [e,q];exact o2 a b q _ (by simp)
  ·obtain⟨a,b,q⟩:=D5 (f 2 _ e (by kernel_rfl));rw [e,q];exact o2 a b q _ (by simp)
  ·obtain⟨a,b,c,q⟩:=Js (f 3 _ e (by kernel_rfl));rw [e,q];exact o3 a b c q _ (by simp)
  ·obtain⟨a,b,c,q⟩:=Js (f 3 _ e (by kernel_rfl));rw [e,q];exact o3 a b c q _ (by simp)
  ·obtain⟨a,b,c,q⟩:=Js (f 3 _ e (by kernel_rfl));rw [e,q];exact o3 a b c q _ (by simp)
  ·obtain⟨a,b,c,d,q⟩:=xJQ (f 4 _ e (by kernel_rfl));rw [e,q];exact o4 a b c d q
theorem xEj{s:Str}{l:List Val}(h:zO 1048576 (Val.Fit 1048576) l):Big fun N=>BV N s l=some (AO s l)/\Bk N s l=some (AO s l).1:=by
 cases hn:((l.length:Int) != A7 s)
 ·refine LP (P:=fun s l=>Big fun N=>BV N s l=some (AO s l)/\Bk N s l=some (AO s l).1) hn (Big.of fun N=>⟨by kernel_rfl,by kernel_rfl⟩) (fun a e s hs=> ?_) (fun a b e s hs=> ?_) (fun a b c e s hs=> ?_) (fun a b c d e=> ?_)
  ·have fa:a.Fit 1048576:=h.2 a (by simp [e]);simp only [Zo,Z2,or_false] at hs;rcases hs with rfl|rfl|rfl|rfl|rfl
   ·exact BC (xJV (by omega) fa) (by kernel_rfl) (fun N=>by kernel_rfl) (fun N=>by kernel_rfl)
   ·exact BC (xO2 (by omega) fa) (by kernel_rfl) (fun N=>by kernel_rfl) (fun N=>by kernel_rfl)
   ·exact BC (xEo (by omega) fa) (by kernel_rfl) (fun N=>by kernel_rfl) (fun N=>by kernel_rfl)
   ·exact Big.of fun N=>⟨by kernel_rfl,by kernel_rfl⟩
   ·exact Big.of fun N=>⟨by kernel_rfl,by kernel_rfl⟩
  ·have fa:a.Fit 1048576:=h.2 a (by simp [e]);have fb:b.Fit 1048576:=h.2 b (by simp [e]);simp only [Zo,Z2,or_false] at hs;rcases hs with rfl|rfl|rfl|rfl|rfl|rfl|rfl
   ·exact BC (xPc (by omega) fa fb) (by kernel_rfl) (fun N=>by kernel_rfl) (fun N=>by kernel_rfl)
   ·exact BC (xK5 (by omega) fa fb) (by kernel_rfl) (fun N=>by kernel_rfl) (fun N=>by kernel_rfl)
   ·refine(CI (K:=1048576) (by omega) (vs:=[a,b]) (ks:=[1,1]) (fun x hx=>by simp at hx;rcases hx with rfl|rfl <;>assumption) (by simp) rfl).imp fun N ⟨h1,h2⟩=> ?_;obtain⟨e1,e2,e3,_⟩:=BU (ks:=[1,1]) (l:=[a,b]) (K:=1048576) fun x hx=>by simp at hx;rcases hx with rfl|rfl <;>assumption
    have i1:BV N [114,97,110,103,101] [a,b]=Option.bind (BE N [1,1] [a,b]) fun r=>bif r.2.2 then(if List.isEmpty r.1.list=true then if List.isEmpty r.1.columns=true then if List.isEmpty r.1.rows=true then(bif r.2.1 then some (.mk r.1.kind r.1.n r.1.step r.1.text [] [] [],true) else some (.mk 4 a.n b.n [] [] [] [],false)) else none else none else none) else bif r.2.1 then some (r.1,false) else some (.mk 4 a.n b.n [] [] [] [],false):=by kernel_rfl
    have i2:Bk N [114,97,110,103,101] [a,b]=Option.bind (IQ N a b) some:=by kernel_rfl
    have i3:AO [114,97,110,103,101] [a,b]=Db a b:=by kernel_rfl
    rw [i1,i2,i3,h1,jS,Db];simp only [IQ,EA,Val.re_eq,h2,jS,e1,e2,e3,jE,ZB,Aq e1 e2 e3];cases g1:(yY [1,1] [a,b]).2.1
    ·rw [CJ g1];exact⟨rfl,rfl⟩
    ·cases (yY [1,1] [a,b]).2.2 <;>exact⟨rfl,rfl⟩
   ·exact BC (KA (by omega) fa fb) (by kernel_rfl) (fun N=>by kernel_rfl) (fun N=>by kernel_rfl)
   ·exact BC (xI9 (by omega) fa fb) (by kernel_rfl) (fun N=>by kernel_rfl) (fun N=>by kernel_rfl)
   ·exact BC (xEr (by omega) fa fb) (by kernel_rfl) (fun N=>by kernel_rfl) (fun N=>by kernel_rfl)
   ·exact BC (xPg (by omega) fa fb) (by kernel_rfl) (fun N=>by kernel_rfl) (fun N=>by kernel_rfl)
  ·have fa:a.Fit 1048576:=h.2 a (by simp [e]);have fb:b.Fit 1048576:=h.2 b (by simp [e]);have fc:c.Fit 1048576:=h.2 c (by simp [e]);simp only [Zo,Z2,or_false] at hs;rcases hs with rfl|rfl|rfl
   ·exact BC (xPu (by omega) fa fb fc) (by kernel_rfl) (fun N=>by kernel_rfl) (fun N=>by kernel_rfl)
   ·exact BC (xGg (by omega) fa fb fc) (by kernel_rfl) (fun N=>by kernel_rfl) (fun N=>by kernel_rfl)
   ·exact BC (xI5 (by omega) fa fb fc) (by kernel_rfl) (fun N=>by kernel_rfl) (fun N=>by kernel_rfl)
  ·have fa:a.Fit 1048576:=h.2 a (by simp [e]);have fb:b.Fit 1048576:=h.2 b (by simp [e]);have fc:c.Fit 1048576:=h.2 c (by simp [e]);have fd:d.Fit 1048576:=h.2 d (by simp [e]);exact BC (xCN (by omega) fa fb fc fd) (by kernel_rfl) (fun N=>by kernel_rfl) (fun N=>by kernel_rfl)
 ·exact Big.of fun N=>La hn N
end Go.Ab
end
section
open Go.IntKind (i64)
namespace Go.Ab
def Ret{α:Type}(o:Option α)(Q:α->Prop):Prop:=∃r,o=some r/\Q r
theorem Ret.mk' {α:Type}{a:α}{Q:α->Prop}(h:Q a):Ret (Option.some a) Q:=⟨a,rfl,h⟩
theorem Ret.bnd{α β:Type}{o:Option α}{f:α->Option β}{P:α->Prop}{Q:β->Prop}(h:Ret o P)(hf:∀a,P a->Ret (f a) Q):Ret (Option.bind o f) Q:=by
 obtain⟨a,rfl,ha⟩:=h;exact hf a ha
theorem Ret.cnd{α:Type}{b:Bool}{x y:Option α}{Q:α->Prop}(h1:b=true->Ret x Q)(h2:b=false->Ret y Q):Ret (bif b then x else y) Q:=by
 cases b
 ·exact h2 rfl
 ·exact h1 rfl
theorem Ret.chk{α:Type}{p:Prop} [Decidable p]{x:Option α}{Q:α->Prop}(hp:p)(h:Ret x Q):Ret (if p then x else none) Q:=by
 rw [Zw hp];exact h
theorem Ret.imp{α:Type}{o:Option α}{P Q:α->Prop}(h:Ret o P)(hi:∀a,P a->Q a):Ret o Q:=by
 obtain⟨a,e,ha⟩:=h;exact⟨a,e,hi a ha⟩
structure CurOk (c:Cur):Prop where
 lo:0<=c.i
 len:c.b.length<=1048576
def Dr{α:Type}(P:α->Prop):α×Cur->Prop:=fun r=>P r.1/\CurOk r.2
theorem LL(x:Int):0<=rT .i64 x 255/\rT .i64 x 255<=255:=by
 unfold rT;have h:(BitVec.ofInt IntKind.i64.bits x &&& BitVec.ofInt IntKind.i64.bits 255).toNat<=255:=by
  rw [BitVec.toNat_and];exact Nat.and_le_right
 rw [zX (by omega) (by omega)];omega
theorem Fk{N:Nat}{c:Cur}(h:CurOk c):Ret (Cy N c) (Dr fun v=>0<=v/\v<=255):=by
 unfold Cy;have h1:=h.lo;have h2:=h.len;refine .cnd (fun hc=> ?_) (fun _=> .mk' ⟨LL _,h1,h2⟩);have hc:=of_decide_eq_true hc;refine .chk ⟨h1,hc⟩ (.mk' ⟨LL _,?_,h2⟩);show 0<=i64.wrap (c.i+1);rw [zX (by omega) (by omega)];omega
theorem xA9{x n:Int}(hx:0<=x)(hn:0<n):0<=Int.tmod x n/\Int.tmod x n<n:=by
 rw [Int.tmod_eq_emod_of_nonneg hx];exact⟨Int.emod_nonneg _ (by omega),Int.emod_lt_of_pos _ hn⟩
theorem LO{N:Nat}{c:Cur}{n:Int}(h:CurOk c):Ret (zU N c n) (Dr fun v=>0<=v/\(v<n\/v=0)):=by
 unfold zU;refine .cnd (fun _=> .mk' ⟨⟨by omega,.inr rfl⟩,h⟩) (fun hc=> ?_);have hc:¬n<=0:=of_decide_eq_false hc;have hn:n≠0:=by omega
 refine .cnd (fun _=> .bnd (Fk h) fun a ha=> ?_) (fun _=> .bnd (Fk h) fun a ha=> .bnd (Fk ha.2) fun b hb=> .bnd (Fk hb.2) fun d hd=> .bnd (Fk hd.2) fun e he=> ?_)
 ·have:=xA9 ha.1.1 (by omega:0<n);exact .chk hn (.mk' ⟨⟨this.1,.inl this.2⟩,ha.2⟩)
 ·have a1:=ha.1;have b1:=hb.1;have d1:=hd.1;have e1:=he.1
  have key:∀x y z w:Int,(0<=x/\x<=255)->(0<=y/\y<=255)->(0<=z/\z<=255)->(0<=w/\w<=255)->
   0<=i64.wrap ((i64.wrap ((i64.wrap ((i64.wrap (x*16777216))+(i64.wrap (y*65536))))+(i64.wrap (z*256))))+w):=by
   intro x y z w hx hy hz hw
   rw [zX (x:=x*16777216) (by omega) (by omega),zX (x:=y*65536) (by omega) (by omega),zX (x:=z*256) (by omega) (by omega),zX (x:=x*16777216+y*65536) (by omega) (by omega),
    zX (x:=x*16777216+y*65536+z*256) (by omega) (by omega),zX (by omega) (by omega)]
   omega
  have:=xA9 (key _ _ _ _ a1 b1 d1 e1) (by omega:0<n);exact .chk hn (.mk' ⟨⟨this.1,.inl this.2⟩,he.2⟩)
theorem Gu{N:Nat}{c:Cur}{n:Int}(h:CurOk c)(hn:0<n):Ret (zU N c n) (Dr fun v=>0<=v/\v<n):=
 (LO h).imp fun a ha=>⟨⟨ha.1.1,by have:=ha.1.2;omega⟩,ha.2⟩
theorem OH{N:Nat}{c:Cur}{n:Int}(h:CurOk c):Ret (AY N c n) (Dr fun _=>True):=
 .bnd (LO h) fun a ha=> .mk' ⟨trivial,ha.2⟩
theorem xKt{N:Nat}{c:Cur}{l:List Str}(h:CurOk c)(hl:0<l.length):Ret (CT N c l) (Dr fun v=>v∈l):=by
 refine .bnd (Gu h (by omega)) fun a ha=> ?_;have h1:=ha.1;refine .chk h1 (.mk' ⟨?_,ha.2⟩);have hlt:a.1.toNat<l.length:=by omega
 show List.getD l a.1.toNat _∈l;rw [yU (Zx hlt)];exact Z4 hlt
theorem OS{N:Nat}{c:Cur}{l:List Int}(h:CurOk c)(hl:0<l.length):Ret (FV N c l) (Dr fun v=>v∈l):=by
 refine .bnd (Gu h (by omega)) fun a ha=> ?_;have h1:=ha.1;refine .chk h1 (.mk' ⟨?_,ha.2⟩);have hlt:a.1.toNat<l.length:=by omega
 show List.getD l a.1.toNat _∈l;rw [yU (Zx hlt)];exact Z4 hlt
theorem xJg{N:Nat}{c:Cur}(h:CurOk c):Ret (Ah N c) (Dr fun v=> -1000000000<=v/\v<=1000000000):=by
 refine .bnd (OH h) fun a ha=> .cnd (fun _=> .bnd (OS ha.2 (by decide)) fun b hb=> .mk' ⟨?_,hb.2⟩) (fun _=> .bnd (Gu ha.2 (by decide)) fun b hb=> .mk' ⟨?_,hb.2⟩)
 ·have:=hb.1;simp only [Zo,Z2,or_false] at this;show -1000000000<=b.1/\b.1<=1000000000;omega
 ·have:=hb.1;show -1000000000<=i64.wrap (b.1 - 3)/\i64.wrap (b.1 - 3)<=1000000000;rw [zX (by omega) (by omega)];omega
end Go.Ab
end
section
namespace Go.Ab
theorem xLI{N:Nat}{xs:List Org}(hl:xs.length<=137438953472)(hn:xs.length<N):I6 N xs xs=some true:=by
 unfold I6;rw [YI,jF]
 exact Fp (x0:=xs) (L:=fun n i=>F6 N n xs xs i) (fun n=>by simp [F6]) (fun i x n hi hxi hm=>by
  have hi' :(i:Int)<(xs.length:Int):=by omega
  simp only [F6,Zz hi',jT,jI,yU hxi,y4 hi (by omega:xs.length<=_),Ym,Bool.and_self,jU,jF];rw [Zw (by omega),Zw (by omega)]) hn
theorem xLH{N:Nat}{xs:List Int}(hl:xs.length<=137438953472)(hn:xs.length<N):IT N xs xs=some true:=by
 unfold IT;rw [YI,jF]
 exact Fp (x0:=xs) (L:=fun n i=>FSq N n xs xs i) (fun n=>by simp [FSq]) (fun i x n hi hxi hm=>by
  have hi' :(i:Int)<(xs.length:Int):=by omega
  simp only [FSq,Zz hi',jT,jI,yU hxi,y4 hi (by omega:xs.length<=_),YI,jF];rw [Zw (by omega),Zw (by omega)]) hn
theorem xLK{N:Nat}{xs:List Str}(hl:xs.length<=137438953472)(hn:xs.length<N):Ib N xs xs=some true:=by
 unfold Ib;rw [YI,jF]
 exact Fp (x0:=xs) (L:=fun n i=>F9 N n xs xs i) (fun n=>by simp [F9]) (fun i x n hi hxi hm=>by
  have hi' :(i:Int)<(xs.length:Int):=by omega
  simp only [F9,Zz hi',jT,jI,yU hxi,y4 hi (by omega:xs.length<=_),Ym,jU,jF];rw [Zw (by omega),Zw (by omega)]) hn
theorem Oh{N d K:Nat}{a:Val}(ha:a.Fit K)(hK:K<=137438953472)(hN:K<N)(hx:∀x∈a.list,∀f,Bn N d x x f=some true)(f:Bool):Bn N (d+1) a a f=some true:=by
 obtain⟨_,_,_,_,h5,h6,h7⟩:=Val.fit_iff.1 ha;have l5:a.list.length<=K:=h5.1;have l6:a.columns.length<=K:=h6.1;have l7:a.rows.length<=K:=h7.1;show I8 N (Bn N d) a a f=_;unfold I8;simp only [YI,jF,Ym,jU,xLK (N:=N) (xs:=a.columns) (by omega) (by omega),jS];have r9:DB N (Bn N d) N f 0 a a=some true:=by
  refine Fp (x0:=a.rows) (L:=fun m i=>DB N (Bn N d) m f i a a) (fun m=>by simp [DB]) (fun i x m hi hxi hm=> ?_) (by omega);have hi' :(i:Int)<(a.rows.length:Int):=by omega
  have g:=h7.2 x hm;have g1:x.cells.length<=K:=g.1.1;have g2:x.frm.length<=K:=g.2.1;simp only [DB,Zz hi',jT,jI,yU hxi,y4 hi (by omega:a.rows.length<=_),xLH (N:=N) (xs:=x.cells) (by omega) (by omega),xLI (N:=N) (xs:=x.frm) (by omega) (by omega),jS,jU,jF];rw [Zw (by omega),Zw (by omega)];cases f <;>rfl
 refine Fp (x0:=a.list) (L:=fun m i=>F7 N (Bn N d) m f i a a) (fun m=>by simp only [F7,Z5,Z6,jF];exact r9) (fun i x m hi hxi hm=> ?_) (by omega);have hi' :(i:Int)<(a.list.length:Int):=by omega
 simp only [F7,Zz hi',jT,jI,yU hxi,y4 hi (by omega:a.list.length<=_),hx x hm f,jS,jU,jF];rw [Zw (by omega),Zw (by omega)]
theorem xLJ{K:Nat}(hK:K<=137438953472):∀v:Val,v.Fit K->Big2 fun N d=>∀f,Bn N d v v f=some true:=by
 refine Val.ind fun k n s t l c r ih h=> ?_;obtain⟨_,_,_,_,h5,h6,h7⟩:=Val.fit_iff.1 h;refine Big2.succ ?_;exact((Big2.list fun x hx=>ih x hx (h5.2 x hx)).and (AT K).two).imp fun N d ⟨hx,hN⟩=>Oh h hK hN hx
theorem xLG{K:Nat}(hK:K<=137438953472){v:Val}(h:v.Fit K):Big fun N=>BS N v v=some true:=
 (xLJ hK v h).diag.imp fun N h=>by
   have h1:I7 N v v true=some true:=h true;simp only [BS,h1,jS]
theorem xFN{v:Val}(hv:Flat v){N:Nat}(hN:0<N):BS N v v=some true:=by
 obtain⟨M,rfl⟩:∃M,N=M+1:=⟨N - 1,by omega⟩;have hl:v.list=[]:=hv.1;have h0:v.Fit 0:=by
  obtain⟨h1,h2,h3,h4,h5,h6,h7⟩:=hv;refine Val.fit_iff.2 ⟨h5,h6,h7,by rw [h4];exact Zi _,by rw [h1];exact⟨Zi _,by simp⟩,by rw [h2];exact⟨Zi _,by simp⟩,by rw [h3];exact⟨Zi _,by simp⟩⟩
 have h1:I7 (M+1) v v true=some true:=Oh (N:=M+1) (d:=M) h0 (by omega) (by omega) (fun x hx=>by rw [hl] at hx;cases hx) true;simp only [BS,h1,jS]
end Go.Ab
end
section
namespace Go.Ab
def U{ι α:Type}(S:ι->Prop)(o:ι->Option α)(Q:α->Prop):Prop:=∃r,Q r/\∀x,S x->o x=some r
section
variable {ι α β:Type} {S:ι->Prop} {P:α->Prop} {Q:β->Prop}
theorem U.mk' {a:α}(h:P a):U S (fun _=>some a) P:=⟨a,h,fun _ _=>rfl⟩
theorem U.bnd{o:ι->Option α}{f:ι->α->Option β}(h:U S o P)(hf:∀a,P a->U S (fun x=>f x a) Q):U S (fun x=>Option.bind (o x) (f x)) Q:=by
 obtain⟨a,ha,e⟩:=h;obtain⟨b,hb,e'⟩:=hf a ha;exact⟨b,hb,fun x hx=>by show(o x).bind (f x)=_;rw [e x hx];exact e' x hx⟩
theorem U.cnd{b:Bool}{p q:ι->Option α}(h1:b=true->U S p P)(h2:b=false->U S q P):U S (fun x=>bif b then p x else q x) P:=by
 cases b
 ·exact h2 rfl
 ·exact h1 rfl
theorem U.chk{p:Prop} [Decidable p]{o:ι->Option α}(hp:p)(h:U S o P):U S (fun x=>if p then o x else none) P:=by
 obtain⟨a,ha,e⟩:=h;exact⟨a,ha,fun x hx=>by show(if p then o x else none)=_;rw [Zw hp];exact e x hx⟩
theorem U.imp{o:ι->Option α}{P' :α->Prop}(h:U S o P)(hi:∀a,P a->P' a):U S o P' :=by
 obtain⟨a,ha,e⟩:=h;exact⟨a,hi a ha,e⟩
theorem U.pre{κ:Type}{T:κ->Prop}{o:κ->Option α}(h:U T o P)(g:ι->κ)(hg:∀x,S x->T (g x)):U S (fun x=>o (g x)) P:=by
 obtain⟨a,ha,e⟩:=h;exact⟨a,ha,fun x hx=>e _ (hg x hx)⟩
theorem U.congr{o o' :ι->Option α}(h:U S o P)(he:∀x,S x->o' x=o x):U S o' P:=by
 obtain⟨a,ha,e⟩:=h;exact⟨a,ha,fun x hx=>(he x hx).trans (e x hx)⟩
theorem U.ret{o:Nat->Option α}(g:ι->Nat)(h:Ret (o 0) P)(hc:∀N,o N=o 0):U S (fun x=>o (g x)) P:=by
 obtain⟨a,e,ha⟩:=h;exact⟨a,ha,fun x _=>(hc _).trans e⟩
end
theorem E0{σ ρ:Type}{L:Nat->Nat->Int->σ->Option ρ}{Q:ρ->Prop}{B:Nat}(len:Nat)(Inv:Nat->σ->Prop)(hB:len<=B)
 (hend:∀st,Inv len st->U (fun x:Nat×Nat=>B<x.1) (fun x=>L x.1 (x.2+1) (len:Nat) st) Q)
 (hstep:∀i st,i<len->Inv i st->(∀st',Inv (i+1) st' ->U (fun x:Nat×Nat=>B<x.1/\len - (i+1)<x.2) (fun x=>L x.1 x.2 ((i+1:Nat):Int) st') Q)->U (fun x:Nat×Nat=>B<x.1/\len - (i+1)<x.2) (fun x=>L x.1 (x.2+1) (i:Nat) st) Q):
 ∀st,Inv 0 st->U (fun N:Nat=>B<N) (fun N=>L N N 0 st) Q:=by
 have key:∀k i st,len - i=k->i<=len->Inv i st->U (fun x:Nat×Nat=>B<x.1/\len - i<x.2) (fun x=>L x.1 x.2 (i:Nat) st) Q:=by
  intro k
  induction k with
  |zero=>
   intro i st hk hi hs;have:i=len:=by omega
   subst this;obtain⟨r,hr,e⟩:=hend st hs;refine⟨r,hr,fun x hx=> ?_⟩;obtain⟨N,n⟩:=x;obtain⟨m,rfl⟩:∃m,n=m+1:=⟨n - 1,by have:=hx.2;simp at this;omega⟩;exact e (N,m) hx.1
  |succ k ih=>
   intro i st hk hi hs;obtain⟨r,hr,e⟩:=hstep i st (by omega) hs fun st' h' =>ih (i+1) st' (by omega) (by omega) h';refine⟨r,hr,fun x hx=> ?_⟩;obtain⟨N,n⟩:=x;have h2:len - i<n:=hx.2;obtain⟨m,rfl⟩:∃m,n=m+1:=⟨n - 1,by omega⟩;exact e (N,m) ⟨hx.1,by show len - (i+1)<m;omega⟩
 intro st hs;exact(key len 0 st (by omega) (by omega) hs).pre (fun N=>(N,N)) fun N hN=>⟨hN,by have:B<N:=hN;show len - 0<N;omega⟩
section
variable {ι:Type} {S:ι->Prop} {c:Cur}
theorem Ad(g:ι->Nat){n:Int}(h:CurOk c)(hn:0<n):U S (fun x=>zU (g x) c n) (Dr fun v=>0<=v/\v<n):= .ret (o:=fun N=>zU N c n) g (Gu h hn) fun _=>rfl
theorem BO(g:ι->Nat){n:Int}(h:CurOk c):U S (fun x=>AY (g x) c n) (Dr fun _=>True):= .ret (o:=fun N=>AY N c n) g (OH h) fun _=>rfl
theorem GO(g:ι->Nat){l:List Str}(h:CurOk c)(hl:0<l.length):U S (fun x=>CT (g x) c l) (Dr fun v=>v∈l):= .ret (o:=fun N=>CT N c l) g (xKt h hl) fun _=>rfl
theorem xKs(g:ι->Nat){l:List Int}(h:CurOk c)(hl:0<l.length):U S (fun x=>FV (g x) c l) (Dr fun v=>v∈l):= .ret (o:=fun N=>FV N c l) g (OS h hl) fun _=>rfl
theorem D4(g:ι->Nat)(h:CurOk c):U S (fun x=>Ah (g x) c) (Dr fun v=> -1000000000<=v/\v<=1000000000):= .ret (o:=fun N=>Ah N c) g (xJg h) fun _=>rfl
theorem OA(g:ι->Nat){a:List Int}(h:a.length<=1048576)(hS:∀x,S x->1048576<g x):U S (fun x=>FT (g x) a) CurOk:=by
 have key:U (fun N:Nat=>1048576<N) (fun N=>FT N a) CurOk:=by
  unfold FT;refine E0 (σ:=Int) (L:=fun N m i st=>FU N m a st i) (B:=1048576) a.length (fun _ _=>True) h (fun st _=> ?_) (fun i st hi _ ih=> ?_) _ trivial
  ·simp only [FU,Z5,Z6,jF];exact .mk' ⟨by show(0:Int)<=0;omega,h⟩
  ·simp only [FU,Zz (show(i:Int)<(a.length:Int) by omega),jT,y4 hi (by omega:a.length<=_)];exact .cnd (fun _=> .chk ⟨by omega,by omega⟩ (ih _ trivial)) (fun _=> .mk' ⟨by show(0:Int)<=0;omega,h⟩)
 exact key.pre g hS
end
def VDr(v:Val):Prop:=v.Fit 64
theorem ET{k n s:Int}{t:Str}(h1:I64 k)(h2:I64 n)(h3:I64 s)(h4:t.length<=64):VDr (.mk k n s t [] [] []):=HI h1 h2 h3 h4
theorem Cb{x:Int}(h1: -1000000000<=x)(h2:x<=1000000000):I64 x:=⟨by omega,by omega⟩
theorem xJh{ι:Type}{S:ι->Prop}{c:Cur}(g:ι->Nat)(h:CurOk c):U S (fun x=>F8 (g x) c) (Dr fun v=>v.length<=64):=by
 refine .bnd (GO g h (by decide)) fun a ha=> .mk' ⟨?_,ha.2⟩;have:=ha.1;simp only [Zo,Z2,or_false] at this;show a.1.length<=64;rcases this with e|e|e|e|e|e|e <;>rw [e] <;>decide
theorem D9{v:Int}(h:0<=v):∃n:Nat,v=(n:Int):=⟨v.toNat,by omega⟩
theorem xJe{c:Cur}(h:CurOk c):U (fun N:Nat=>1000<N) (fun N=>Kj N c) (Dr fun v=>v.length<=64/\∀x∈v,Org.Fit x):=by
 refine .bnd (Ad id h (by decide)) fun a ha=> ?_;obtain⟨n,hn⟩:=D9 ha.1.1;have hn2:n<3:=by have:=ha.1.2;omega
 rw [hn];refine E0 (σ:=List Org×Int×Cur) (L:=fun N m i st=>F3 N m st.1 st.2.1 n i st.2.2) (B:=1000) n (fun i st=>(st.1.length<=i/\∀x∈st.1,Org.Fit x)/\I64 st.2.1/\CurOk st.2.2) (by omega) (fun st hs=> ?_) (fun i st hi hs ih=> ?_) ([],1,a.2) ⟨⟨Zi _,by simp⟩,(show I64 1 from yX (by omega) (by omega)),ha.2⟩
 ·simp only [F3,Z5,Z6,jF];exact .mk' ⟨⟨by have:=hs.1.1;show st.1.length<=64;omega,hs.1.2⟩,hs.2.2⟩
 ·simp only [F3,Zz (show(i:Int)<(n:Int) by omega),jT,y4 hi (by omega:n<=_)];refine .bnd (Ad _ hs.2.2 (by decide)) fun b hb=> .chk ?_ (.bnd (Ad _ hb.2 (by decide)) fun d hd=>ih (st.1++ [Org.mk st.2.1 _],_,d.2) ⟨⟨?_,fun x hx=> ?_⟩,DL _,hd.2⟩)
  ·have:=hs.1.1;simp only [jC,jN];unfold Lim;omega
  ·have:=hs.1.1;simp;omega
  ·rcases Za.1 hx with hx|hx
   ·exact hs.1.2 x hx
   ·simp at hx;subst hx;exact⟨hs.2.1,DL _⟩
theorem In{v:Val}(h1:I64 v.kind)(h2:I64 v.n)(h3:I64 v.step)(h4:v.text.length<=64)(h5:zO 64 (Val.Fit 64) v.list)(h6:zO 64 (Str.Fit 64) v.columns)(h7:zO 64 (Rowd.Fit 64) v.rows):VDr v:=Val.fit_iff.2 ⟨h1,h2,h3,h4,h5,h6,h7⟩
theorem D7{α:Type}{K:Nat}{p:α->Prop}{l:List α}{x:α}{i:Nat}(h:l.length<=i/\∀y∈l,p y)(hx:p x):(l++ [x]).length<=i+1/\∀y∈l++ [x],p y:=by
 refine⟨by simp;omega,fun y hy=> ?_⟩;rcases Za.1 hy with hy|hy
 ·exact h.2 y hy
 ·simp at hy;subst hy;exact hx
theorem N5{c:Cur}(h:CurOk c):U (fun N:Nat=>1000<N) (fun N=>I5 N c) (Dr VDr):=by
 refine .bnd (Ad id h (by decide)) fun a ha=> ?_;obtain⟨n,hn⟩:=D9 ha.1.1;have hn2:n<9:=by have:=ha.1.2;omega
 rw [hn];refine E0 (σ:=List Val×Cur) (L:=fun N m i st=>F5 N m n i st.2 (Val.mk 0 0 0 [] [] [] []) (Val.mk 3 0 0 [] st.1 [] [])) (B:=1000) n (fun i st=>(st.1.length<=i/\∀x∈st.1,Val.Fit 64 x)/\CurOk st.2) (by omega) (fun st hs=> ?_) (fun i st hi hs ih=> ?_) ([],a.2) ⟨⟨Zi _,by simp⟩,ha.2⟩
 ·simp only [F5,Z5,Z6,jF];exact .mk' ⟨In (show I64 3 from yX (by omega) (by omega)) (show I64 0 from yX (by omega) (by omega)) (show I64 0 from yX (by omega) (by omega)) (Z9 _) ⟨by have:=hs.1.1;show st.1.length<=64;omega,hs.1.2⟩ A2 A2,hs.2⟩
 ·simp only [F5,zK,Zz (show(i:Int)<(n:Int) by omega),jT,y4 hi (by omega:n<=_),jS,Val.re_eq,vk,vn,vs,vt,vl,vc,vr];refine .bnd (D4 _ hs.2) fun b hb=> .chk ?_ (ih (st.1++ [_],b.2) ⟨D7 (K:=64) hs.1 ?_,hb.2⟩)
  ·have:=hs.1.1;simp only [jC,jN];unfold Lim;omega
  ·have:=hb.1;exact HI (yX (by omega) (by omega)) (Cb (by omega) (by omega)) (yX (by omega) (by omega)) (Z9 _)
end Go.Ab
end
section
namespace Go.Ab
theorem JQ{κ σ ρ:Type}{T:κ->Prop}{L:κ->Nat->Int->σ->Option ρ}{Q:ρ->Prop}(len:Nat)(Inv:Nat->σ->Prop)
 (hend:∀st,Inv len st->U (fun x:κ×Nat=>T x.1) (fun x=>L x.1 (x.2+1) (len:Nat) st) Q)
 (hstep:∀i st,i<len->Inv i st->(∀st',Inv (i+1) st' ->U (fun x:κ×Nat=>T x.1/\len - (i+1)<x.2) (fun x=>L x.1 x.2 ((i+1:Nat):Int) st') Q)->U (fun x:κ×Nat=>T x.1/\len - (i+1)<x.2) (fun x=>L x.1 (x.2+1) (i:Nat) st) Q)
 (fuel:κ->Nat) (hf:∀x,T x->len<fuel x):∀st,Inv 0 st->U T (fun x=>L x (fuel x) 0 st) Q:=by
 have key:∀k i st,len - i=k->i<=len->Inv i st->U (fun x:κ×Nat=>T x.1/\len - i<x.2) (fun x=>L x.1 x.2 (i:Nat) st) Q:=by
  intro k
  induction k with
  |zero=>
   intro i st hk hi hs;have:i=len:=by omega
   subst this;obtain⟨r,hr,e⟩:=hend st hs;refine⟨r,hr,fun x hx=> ?_⟩;obtain⟨N,n⟩:=x;obtain⟨m,rfl⟩:∃m,n=m+1:=⟨n - 1,by have:=hx.2;simp at this;omega⟩;exact e (N,m) hx.1
  |succ k ih=>
   intro i st hk hi hs;obtain⟨r,hr,e⟩:=hstep i st (by omega) hs fun st' h' =>ih (i+1) st' (by omega) (by omega) h';refine⟨r,hr,fun x hx=> ?_⟩;obtain⟨N,n⟩:=x;have h2:len - i<n:=hx.2;obtain⟨m,rfl⟩:∃m,n=m+1:=⟨n - 1,by omega⟩;exact e (N,m) ⟨hx.1,by show len - (i+1)<m;omega⟩
 intro st hs;exact(key len 0 st (by omega) (by omega) hs).pre (fun x=>(x,fuel x)) fun x hx=>⟨hx,by have:=hf x hx;show len - 0<fuel x;omega⟩
theorem N6{w rows:Nat}{cols:List Str}{z:Val}{c:Cur}(hw:w<=3)(hr:rows<=5)(hc:zO 64 (Str.Fit 64) cols)(h:CurOk c):
 U (fun N:Nat=>1000<N) (fun N=>CU N N w rows 0 c z (Val.mk 5 0 0 [] [] cols [])) (Dr fun v=>VDr v/\v.list=[]):=by
 refine E0 (σ:=List Rowd×Cur) (L:=fun N m i st=>CU N m w rows i st.2 z (Val.mk 5 0 0 [] [] cols st.1)) (B:=1000) rows (fun i st=>(st.1.length<=i/\∀x∈st.1,Rowd.Fit 64 x)/\CurOk st.2) (by omega) (fun st hs=> ?_) (fun i st hi hs ih=> ?_) ([],c) ⟨⟨Zi _,by simp⟩,h⟩
 ·simp only [CU,Z5,Z6,jF];exact .mk' ⟨⟨In (show I64 5 from yX (by omega) (by omega)) (show I64 0 from yX (by omega) (by omega)) (show I64 0 from yX (by omega) (by omega)) (Z9 _) A2 hc ⟨by have:=hs.1.1;show st.1.length<=64;omega,hs.1.2⟩,rfl⟩,hs.2⟩
 ·simp only [CU,Zz (show(i:Int)<(rows:Int) by omega),jT];refine .bnd ((xJe hs.2).pre (fun x:Nat×Nat=>x.1) fun x hx=>hx.1) fun a ha=> ?_
  refine JQ (κ:=Nat×Nat) (σ:=List Int×Cur) (L:=fun x m j q=>FZ x.1 (fun z0 z1 z2 z3 z4 z5=>CU x.1 x.2 z0 z1 z2 z3 z4 z5) m w rows i j q.2 z (Val.mk 5 0 0 [] [] cols st.1) (Rowd.mk q.1 a.1)) w
   (fun j q=>(q.1.length<=j/\∀y∈q.1,I64 y)/\CurOk q.2) (fun q hq=> ?_) (fun j q hj hq ih2=> ?_) (fun x=>x.1) (fun x hx=>by have:=hx.1;omega) ([],a.2) ⟨⟨Zi _,by simp⟩,ha.2⟩
  ·simp only [FZ,Z5,Z6,jF,vk,vn,vs,vt,vl,vc,vr,y4 hi (by omega:rows<=_)];refine .chk ?_ ((ih (st.1++ [Rowd.mk q.1 a.1],q.2) ⟨D7 (K:=64) hs.1 ⟨⟨by have:=hq.1.1;show q.1.length<=64;omega,hq.1.2⟩,⟨ha.1.1,ha.1.2⟩⟩,hq.2⟩).pre (fun x:(Nat×Nat)×Nat=>x.1) fun x hx=>hx);have:=hs.1.1;simp only [jC,jN];unfold Lim;omega
  ·simp only [FZ,Zz (show(j:Int)<(w:Int) by omega),jT,y4 hj (by omega:w<=_)];refine .bnd (D4 _ hq.2) fun b hb=> .chk ?_ (ih2 (q.1++ [b.1],b.2) ⟨D7 (K:=64) hq.1 ?_,hb.2⟩)
   ·have:=hq.1.1;simp only [jC,jN];unfold Lim;omega
   ·have:=hb.1;exact Cb (by omega) (by omega)
theorem N7{c:Cur}(h:CurOk c):U (fun N:Nat=>1000<N) (fun N=>Gb N c) (Dr fun v=>VDr v/\v.list=[]):=by
 unfold Gb;refine .bnd (Ad id h (by decide)) fun a ha=> ?_;obtain⟨n,hn⟩:=D9 ha.1.1;have hn2:n<3:=by have:=ha.1.2;omega
 have hw:IntKind.i64.wrap (1+a.1)=((n+1:Nat):Int):=by rw [hn,zX (by omega) (by omega)];omega
 have hcols:∀x∈([[97],[98],[99],[120]]:List Str),x.length<=64:=by decide
 rw [hw];have hlen:(List.take (Int.toNat ((n+1:Nat):Int)) ([[97],[98],[99],[120]]:List Str)).length=n+1:=by
  rw [jI,ZT];show min (n+1) 4=n+1;omega
 have hmem:∀x∈List.take (Int.toNat ((n+1:Nat):Int)) ([[97],[98],[99],[120]]:List Str),x.length<=64:=fun x hx=>hcols x (ZI hx);have hset:(List.set (List.take (Int.toNat ((n+1:Nat):Int)) ([[97],[98],[99],[120]]:List Str)) (Int.toNat 0) [120]).length=n+1:=by rw [Xh];exact hlen
 refine .chk ⟨by omega,by show((n+1:Nat):Int)<=((4:Nat):Int);omega⟩ (.chk (ZF (XG ((Zj _).trans hlen)) (by unfold Lim;omega)) (.bnd (BO id ha.2) fun b hb=> .cnd (fun _=> .chk ⟨XT _,Int.ofNat_lt.2 (Nat.lt_of_lt_of_eq (Nat.succ_pos n) (show n+1=List.length _ from hlen.symm))⟩ (.chk ⟨by omega,Int.ofNat_le.2 (ZF (Nat.succ_le_succ (Z9 n)) (XG hset.symm))⟩ (.bnd (Ad id hb.2 (by decide)) fun d hd=> ?_))) (fun _=> .bnd (Ad id hb.2 (by decide)) fun d hd=> ?_)))
 ·obtain⟨m,hm⟩:=D9 hd.1.1;have hm2:m<6:=by have:=hd.1.2;omega
  rw [hm];refine N6 (w:=1) (rows:=m) (by omega) (by omega) ⟨ZF (List.length_take_le 1 _) (by omega),fun x hx=> ?_⟩ hd.2;have hx:=ZI hx;rcases Xt hx with hx|rfl
  ·exact hmem x hx
  ·show List.length [120]<=64;decide
 ·obtain⟨m,hm⟩:=D9 hd.1.1;have hm2:m<6:=by have:=hd.1.2;omega
  rw [hm];exact N6 (w:=n+1) (rows:=m) (by omega) (by omega) ⟨ZF (XG hlen) (by omega),fun x hx=>hmem x hx⟩ hd.2
theorem GJ{ι:Type}{S:ι->Prop}{c:Cur}(g:ι->Nat)(h:CurOk c):U S (fun x=>Option.bind (Ah (g x) c) fun r2=>Option.bind (zK (g x) r2.1) fun r3=>some (r3,r2.2)) (Dr VDr):=by
 refine .bnd (D4 g h) fun a ha=> .bnd (.mk' (P:=fun v=>VDr v) ?_) fun b hb=> .mk' ⟨hb,ha.2⟩;have:=ha.1;exact ET (yX (by omega) (by omega)) (Cb (by omega) (by omega)) (yX (by omega) (by omega)) (Z9 _)
theorem Ks{ι:Type}{S:ι->Prop}{c:Cur}(g:ι->Nat)(h:CurOk c):U S (fun x=>Option.bind (F8 (g x) c) fun r2=>Option.bind (EC (g x) r2.1) fun r3=>some (r3,r2.2)) (Dr VDr):=by
 refine .bnd (xJh g h) fun a ha=> .bnd (.mk' (P:=fun v=>VDr v) ?_) fun b hb=> .mk' ⟨hb,ha.2⟩;exact ET (yX (by omega) (by omega)) (yX (by omega) (by omega)) (yX (by omega) (by omega)) ha.1
theorem N2{k:Nat}(hk:k<=3)(hd:1<k->∀c,CurOk c->U (fun x:Nat×Nat=>1000<x.1/\2*k<=x.2) (fun x=>(AZ x.1 x.2).c_spec_l3DrawList c ((k - 1:Nat):Int)) (Dr VDr)):
 ∀c,CurOk c->U (fun x:Nat×Nat=>1000<x.1/\2*k+1<=x.2) (fun x=>(AZ x.1 x.2).c_spec_l3Element2 c k) (Dr VDr):=by
 intro c hc;have key:U (fun x:Nat×Nat=>1000<x.1/\2*k<=x.2) (fun x=>I4 x.1 (AZ x.1 x.2).c_spec_l3DrawList (AZ x.1 x.2).c_spec_l3Element2 c k) (Dr VDr):=by
  unfold I4;refine .cnd (fun h=> .bnd (BO _ hc) fun a ha=> .cnd (fun _=> ?_) (fun _=> .bnd (BO _ ha.2) fun b hb=> .cnd (fun _=>Ks _ hb.2) (fun _=>GJ _ hb.2))) (fun _=> .bnd (BO _ hc) fun a ha=> .cnd (fun _=>Ks _ ha.2) (fun _=>GJ _ ha.2));have h:(k:Int)>1:=of_decide_eq_true h;have e:IntKind.i64.wrap ((k:Int) - 1)=((k - 1:Nat):Int):=by rw [zX (by omega) (by omega)];omega
  rw [e];exact .bnd (hd (by omega) a.2 ha.2) fun b hb=> .mk' ⟨hb.1,hb.2⟩
 exact(key.pre (fun x:Nat×Nat=>(x.1,x.2 - 1)) fun x hx=>⟨hx.1,by have:=hx.2;show 2*k<=x.2 - 1;omega⟩).congr fun x hx=>by
  obtain⟨N,d⟩:=x;obtain⟨m,rfl⟩:∃m,d=m+1:=⟨d - 1,by have:2*k+1<=d:=hx.2;omega⟩
  rfl
theorem N3{k:Nat}(he:∀c,CurOk c->U (fun x:Nat×Nat=>1000<x.1/\2*k+1<=x.2) (fun x=>(AZ x.1 x.2).c_spec_l3Element2 c k) (Dr VDr)):
 ∀c,CurOk c->U (fun x:Nat×Nat=>1000<x.1/\2*k+2<=x.2) (fun x=>(AZ x.1 x.2).c_spec_l3DrawList c k) (Dr VDr):=by
 intro c hc;have key:U (fun x:Nat×Nat=>1000<x.1/\2*k+1<=x.2) (fun x=>I1 x.1 (AZ x.1 x.2).c_spec_l3DrawList (AZ x.1 x.2).c_spec_l3Element2 c k) (Dr VDr):=by
  unfold I1;refine .bnd (xKs _ hc (by decide)) fun a ha=> ?_;have hm:=ha.1;simp only [Zo,Z2,or_false] at hm;obtain⟨n,hn⟩:=D9 (v:=a.1) (by omega);have hn2:n<=8:=by omega
  rw [hn]
  refine JQ (κ:=Nat×Nat) (σ:=List Val×Cur) (L:=fun x m i st=>FY x.1 (AZ x.1 x.2).c_spec_l3DrawList (AZ x.1 x.2).c_spec_l3Element2 m k n i st.2 (Val.mk 0 0 0 [] [] [] []) (Val.mk 3 0 0 [] st.1 [] [])) n
   (fun i st=>(st.1.length<=i/\∀y∈st.1,Val.Fit 64 y)/\CurOk st.2) (fun st hs=> ?_) (fun i st hi hs ih=> ?_) (fun x=>x.1) (fun x hx=>by have:=hx.1;omega) ([],a.2) ⟨⟨Zi _,by simp⟩,ha.2⟩
  ·simp only [FY,Z5,Z6,jF];exact .mk' ⟨In (show I64 3 from yX (by omega) (by omega)) (show I64 0 from yX (by omega) (by omega)) (show I64 0 from yX (by omega) (by omega)) (Z9 _) ⟨by have:=hs.1.1;show st.1.length<=64;omega,hs.1.2⟩ A2 A2,hs.2⟩
  ·simp only [FY,Zz (show(i:Int)<(n:Int) by omega),jT,y4 hi (by omega:n<=_),Val.re_eq,vk,vn,vs,vt,vl,vc,vr];refine .bnd ((he st.2 hs.2).pre (fun x:(Nat×Nat)×Nat=>x.1) fun x hx=>hx.1) fun b hb=> .chk ?_ (ih (st.1++ [b.1],b.2) ⟨D7 (K:=64) hs.1 hb.1,hb.2⟩);have:=hs.1.1;simp only [jC,jN];unfold Lim;omega
 exact(key.pre (fun x:Nat×Nat=>(x.1,x.2 - 1)) fun x hx=>⟨hx.1,by have:=hx.2;show 2*k+1<=x.2 - 1;omega⟩).congr fun x hx=>by
  obtain⟨N,d⟩:=x;obtain⟨m,rfl⟩:∃m,d=m+1:=⟨d - 1,by have:2*k+2<=d:=hx.2;omega⟩
  rfl
theorem xJf:∀(k:Nat),k<=3->(∀c,CurOk c->U (fun x:Nat×Nat=>1000<x.1/\2*k+1<=x.2) (fun x=>(AZ x.1 x.2).c_spec_l3Element2 c k) (Dr VDr))/\
 ∀c,CurOk c->U (fun x:Nat×Nat=>1000<x.1/\2*k+2<=x.2) (fun x=>(AZ x.1 x.2).c_spec_l3DrawList c k) (Dr VDr):=by
 intro k
 induction k with
 |zero=>
  intro _;have e:=N2 (k:=0) (by omega) (fun h=>by omega);exact⟨e,N3 (k:=0) e⟩
 |succ k ih=>
  intro hk;have e:=N2 (k:=k+1) (by omega) (fun h c hc=>((ih (by omega)).2 c hc).pre id fun x hx=>⟨hx.1,by have:=hx.2;show 2*k+2<=x.2;omega⟩);exact⟨e,N3 e⟩
theorem N4{c:Cur}(h:CurOk c):U (fun N:Nat=>1000<N) (fun N=>I0 N c 3) (Dr VDr):=
 ((xJf 3 (by omega)).2 c h).pre (fun N:Nat=>(N,N)) fun N hN=>⟨hN,by have:1000<N:=hN;show 2*3+2<=N;omega⟩
theorem N1{c:Cur}(h:CurOk c):U (fun N:Nat=>1000<N) (fun N=>Ga N c) (Dr VDr):=by
 unfold Ga;refine .bnd (Ad id h (by decide)) fun a ha=> ?_;refine .cnd (fun _=>GJ id ha.2) fun _=> .cnd (fun _=>GJ id ha.2) fun _=> .cnd (fun _=>GJ id ha.2) fun _=> .cnd (fun _=>Ks id ha.2) fun _=> .cnd (fun _=> .bnd (N4 ha.2) fun b hb=> .mk' hb) fun _=> .cnd (fun _=> .bnd (N5 ha.2) fun b hb=> .mk' hb) fun _=> .cnd (fun _=> ?_) fun _=> .cnd (fun _=> ?_) fun _=> .bnd (N7 ha.2) fun b hb=> .mk' ⟨hb.1.1,hb.2⟩
 ·refine .bnd (D4 id ha.2) fun b hb=> .bnd (D4 id hb.2) fun d hd=> .bnd (.mk' (P:=fun v=>VDr v) ?_) fun e he=> .mk' ⟨he,hd.2⟩;have:=hb.1;have:=hd.1;exact ET (yX (by omega) (by omega)) (Cb (by omega) (by omega)) (Cb (by omega) (by omega)) (Z9 _)
 ·exact .bnd (Ad id ha.2 (by decide)) fun b hb=> .bnd (.mk' (P:=fun v=>VDr v) (ET (show I64 6 from yX (by omega) (by omega)) (DL _) (show I64 0 from yX (by omega) (by omega)) (Z9 _))) fun e he=> .mk' ⟨he,hb.2⟩
end Go.Ab
end
section
namespace Go.Ab
theorem xKM{rows:List Rowd}{r:Rowd}{i:Nat}(h:∀x∈rows,Rowd.Fit 64 x)(hr:Rowd.Fit 64 r):∀x∈rows.set i r,Rowd.Fit 64 x:=fun x hx=>by
 rcases Xt hx with hx|rfl
 ·exact h x hx
 ·exact hr
end Go.Ab
end
section
namespace Go.Ab
def A0(v:Val):Prop:=v.Fit 128
theorem VDr.up{v:Val}(h:VDr v):A0 v:=fun d hd=>(h d hd).mono (by omega)
theorem xJd{ι:Type}{S:ι->Prop}{c:Cur}(g:ι->Nat)(h:CurOk c):U S (fun x=>Ka (g x) c) (Dr fun v=>v.length<=128):=by
 have h1:∀s:Str,s∈([[97],[98],[99],[100],[120],[121],[116],[117]]:List Str)->s.length<=128:=by
  intro s hs;simp only [Zo,Z2,or_false] at hs;rcases hs with e|e|e|e|e|e|e|e <;>rw [e] <;>decide
 have h2:∀s:Str,s∈([[],[49,97],[97,49],[97,98,99,100,101,102,103,104],[97,98,99,100,101,102,103,104,105],[108,101,116],[116,97,98,108,101],[115,117,109],[115,117,109,115],[65],[97,95,98],[108,101,110]]:List Str)->s.length<=128:=by
  intro s hs;simp only [Zo,Z2,or_false] at hs;rcases hs with e|e|e|e|e|e|e|e|e|e|e|e <;>rw [e] <;>decide
 refine .bnd (BO g h) fun a ha=> .cnd (fun _=> .bnd (.bnd (GO g ha.2 (by decide)) fun b hb=> .mk' (P:=Dr fun v:Str=>v.length<=128) ⟨h1 _ hb.1,hb.2⟩) fun b hb=> .mk' hb) (fun _=> .bnd (GO g ha.2 (by decide)) fun b hb=> .mk' ⟨h2 _ hb.1,hb.2⟩)
theorem He{c:Cur}(h:CurOk c):U (fun N:Nat=>1000<N) (fun N=>EG N c) (Dr A0):=by
 unfold EG;refine .bnd (N1 h) fun a ha=> .bnd (Ad id ha.2 (by decide)) fun b hb=> ?_;obtain⟨h1,h2,h3,h4,h5,h6,h7⟩:=Val.fit_iff.1 ha.1;have h4:a.1.text.length<=64:=h4;have l5:a.1.list.length<=64:=h5.1;have l6:a.1.columns.length<=64:=h6.1;have l7:a.1.rows.length<=64:=h7.1;obtain⟨_,_,_,g4,g5,g6,g7⟩:=Val.fit_iff.1 ha.1.up
 have mk:∀ {k n s:Int} {t:Str} {l:List Val} {cs:List Str} {r:List Rowd},I64 k->I64 n->I64 s->t.length<=128->zO 128 (Val.Fit 128) l->zO 128 (Str.Fit 128) cs->zO 128 (Rowd.Fit 128) r->A0 (.mk k n s t l cs r):=
  fun h1 h2 h3 h4 h5 h6 h7=>Val.fit_iff.2 ⟨h1,h2,h3,h4,h5,h6,h7⟩
 refine .cnd (fun _=> .mk' ⟨mk h1 (DL _) h3 g4 g5 g6 g7,hb.2⟩) fun _=> .cnd (fun _=> .chk ?_ (.mk' ⟨mk h1 h2 h3 ?_ g5 g6 g7,hb.2⟩)) fun _=> .cnd (fun _=> .bnd (Ad id hb.2 (by decide)) fun d hd=> .mk' ⟨mk ?_ h2 h3 g4 g5 g6 g7,hd.2⟩) fun _=> .cnd (fun _=> .bnd (N1 hb.2) fun d hd=> .chk ?_ (.mk' ⟨mk h1 h2 h3 g4 ?_ g6 g7,hd.2⟩)) fun _=> .cnd (fun _=> .chk ?_ (.mk' ⟨mk h1 h2 h3 g4 g5 g6 ?_,hb.2⟩)) fun _=> .cnd (fun _=> .bnd (xJd id hb.2) fun d hd=> .chk ?_ (.mk' ⟨mk h1 h2 h3 g4 g5 ?_ g7,hd.2⟩)) fun _=> .cnd (fun _=> .mk' ⟨mk h1 h2 (show I64 7 from yX (by omega) (by omega)) g4 g5 g6 g7,hb.2⟩) fun _=> .mk' ⟨ha.1.up,hb.2⟩
 ·simp only [jC,jN];unfold Lim;omega
 ·simp only [jA,jC,jN];omega
 ·have:=hd.1;exact Cb (by omega) (by omega)
 ·simp only [jC,jN];unfold Lim;omega
 ·rw [Val.re_eq];exact⟨by simp only [jA,jC,jN];omega,(D7 (K:=0) (i:=64) ⟨l5,g5.2⟩ hd.1.up).2⟩
 ·simp only [jC,jN];unfold Lim;omega
 ·refine⟨by simp only [jA,jC,jN];omega,(D7 (K:=0) (i:=64) ⟨l7,g7.2⟩ ⟨⟨by decide,fun y hy=> ?_⟩,⟨by decide,fun o ho=> ?_⟩⟩).2⟩
  ·have hy:y∈ [(1:Int)]:=hy;rw [Zh] at hy;subst hy;exact yX (by omega) (by omega)
  ·have ho:o∈ [Org.mk 2 1,Org.mk 1 1]:=ho;simp only [Zo,Z2,or_false] at ho;rcases ho with rfl|rfl
   ·exact⟨show I64 2 from yX (by omega) (by omega),show I64 1 from yX (by omega) (by omega)⟩
   ·exact⟨show I64 1 from yX (by omega) (by omega),show I64 1 from yX (by omega) (by omega)⟩
 ·simp only [jC,jN];unfold Lim;omega
 ·exact⟨by simp only [jA,jC,jN];omega,(D7 (K:=0) (i:=64) ⟨l6,g6.2⟩ hd.1).2⟩
theorem xJi{c:Cur}(h:CurOk c):U (fun N:Nat=>1000<N) (fun N=>Gf N c) (Dr A0):=by
 unfold Gf;refine .bnd (BO id h) fun a ha=> .cnd (fun _=> .bnd (He ha.2) fun b hb=> .mk' hb) (fun _=> .bnd (Ad id ha.2 (by decide)) fun b hb=> .bnd (.mk' (P:=fun v=>A0 v) (VDr.up (ET (show I64 1 from yX (by omega) (by omega)) (DL _) (show I64 0 from yX (by omega) (by omega)) (Z9 _)))) fun d hd=> .mk' ⟨hd,hb.2⟩)
theorem xJj{c:Cur}(h:CurOk c):U (fun N:Nat=>1000<N) (fun N=>Gg N c) (Dr A0):=by
 unfold Gg;refine .bnd (Ad id h (by decide)) fun a ha=> .cnd (fun _=> .bnd (N5 ha.2) fun b hb=> .mk' ⟨hb.1.up,hb.2⟩) fun _=> .cnd (fun _=> .bnd (N4 ha.2) fun b hb=> .mk' ⟨hb.1.up,hb.2⟩) fun _=> .cnd (fun _=> .bnd (D4 id ha.2) fun b hb=> .bnd (D4 id hb.2) fun d hd=> .bnd (.mk' (P:=fun v=>A0 v) (VDr.up (ET (show I64 4 from yX (by omega) (by omega)) ?_ ?_ (Z9 _)))) fun e he=> .mk' ⟨he,hd.2⟩) fun _=> .bnd (He ha.2) fun b hb=> .mk' hb
 ·have:=hb.1;exact Cb (by omega) (by omega)
 ·have:=hd.1;exact Cb (by omega) (by omega)
theorem KF:∀ {l:List Val},(opG l).2.1=true->(opG l).1.kind=6
 | [],h=>by cases h
 |v::r,h=>by
  simp only [opG] at h ⊢;cases hv:yW v
  ·rfl
  ·rw [hv] at h;cases hk:(v.kind==6)
   ·rw [hk] at h;simp only [jU,jF] at h ⊢;exact KF h
   ·simp only [jU,jF,jT];exact eq_of_beq hk
theorem D8{v:Val}(hv:yW v=true)(hk:v.kind=3):(v= .mk 3 0 0 [] v.list [] [])/\v.list.length<=8/\v.dep<=3/\∀x∈v.list,(B8 x&&yW x)=true:=by
 have hv0:=hv;rw [AH,hk] at hv;simp only [show((3:Int)==1)=false from rfl,show((3:Int)==2)=false from rfl,show((3:Int)==4)=false from rfl,show((3:Int)==6)=false from rfl,show((3:Int)==5)=false from rfl,show((3:Int)==3)=true from rfl,jT,jF,Zv,Z1,ES,Zu] at hv;obtain⟨h1,h2,h3,h4,h5,h6,h7,h8⟩:=hv;have e:=Val.eta v;rw [eq_of_beq h2,eq_of_beq h3,eq_of_beq h4,Fo h5,Fo h6,hk] at e;exact⟨e.symm,h7,h8,fun x hx=>by rw [Zv];exact h1 x hx⟩
theorem xA0{v:Val}(hv:yW v=true)(hk:v.kind=3){l:List Val}(hs:∀x∈l,x∈v.list)(hl:l.length<=8):yW (.mk 3 0 0 [] l [] [])=true:=by
 obtain⟨_,_,h8,h1⟩:=D8 hv hk;rw [C9] at h8;have h0:=(EX (l:=v.list) (m:=0)).1;have hd:Val.dep (.mk 3 0 0 [] l [] [])<=3:=by
  rw [C9];have:=Gy (B:=zP v.list 0) (l:=l) (m:=0) h0 fun x hx=>(EX (l:=v.list) (m:=0)).2 x (hs x hx);show zP l 0+1<=3;omega
 rw [AH];simp only [vk,vn,vs,vt,vl,vc,vr,show((3:Int)==1)=false from rfl,show((3:Int)==2)=false from rfl,show((3:Int)==4)=false from rfl,show((3:Int)==6)=false from rfl,show((3:Int)==5)=false from rfl,show((3:Int)==3)=true from rfl,jT,jF,Zv,Z1,ES,Zu,Ym,true_and,and_true];refine⟨fun x hx=>by have:=h1 x (hs x hx);rw [Zv] at this;exact this,?_⟩;simp [emp,hl,hd]
end Go.Ab
end
section
namespace Go.Ab
theorem Gs{α:Type}{p:Nat->α->Bool}:∀ {l:List α} {i:Nat},zY p l i=true↔∀(j:Nat) (x:α),l[j]? =some x->p (i+j) x=true
 | [],i=>by simp [zY]
 |y::r,i=>by
  simp only [zY,Zv,Gs (l:=r)];constructor
  ·rintro ⟨h1,h2⟩ j x hj;cases j with
   |zero=>simp at hj;subst hj;exact h1
   |succ j=>have:=h2 j x (by simpa using hj);rwa [show i+(j+1)=i+1+j by omega]
  ·intro h;refine⟨h 0 y rfl,fun j x hj=> ?_⟩;have:=h (j+1) x (by simpa using hj)
   rwa [show i+1+j=i+(j+1) by omega]
theorem Iw{α:Type}{p:α->Bool}{l:List α}{i:Nat}:zY (fun _=>p) l i=true↔∀x∈l,p x=true:=by
 rw [Gs];constructor
 ·intro h x hx;obtain⟨j,hj⟩:=Yc hx;exact h j x hj
 ·intro h j x hj;exact h x (Zs hj)
theorem Ny{xs:List Str}(h:xs.Nodup){i j:Nat}(hi:i<xs.length)(hj:j<xs.length)(e:xs[i]=xs[j]):i=j:=by
 have hp:=Yk.1 (Xy.1 h);rcases X6 i j with h1|h1|h1
 ·exact absurd e (hp i j hi hj h1)
 ·exact h1
 ·exact absurd e.symm (hp j i hj hi h1)
theorem Nz:∀ {xs ys:List Str},xs.Nodup->(∀x∈xs,x∈ys)->xs.length<=ys.length
 | [],_,_,_=>Z9 _
 |x::xs,ys,h,hs=>by
  obtain⟨h1,h2⟩:=Yn.1 h;have hx:=hs x Zp;have:=Nz (ys:=ys.erase x) h2 fun y hy=>(List.mem_erase_of_ne (fun e:y=x=>h1 (by rw [<-e];exact hy))).2 (hs y (Zq _ hy));rw [XK hx] at this;have:=XF hx;simp only [jC];omega
theorem Gz{xs:List Str}:AP xs=true↔xs.Nodup:=by
 unfold AP;rw [Gs];constructor
 ·intro h;rw [Xy,Yk];intro i j hi hj hij e;have:=h j xs[j] (Zx hj);rw [Zj] at this;unfold Ca at this;rw [ZD,Xo] at this;refine this xs[i] ?_ (by simp [e]);rw [Xu];exact⟨i,by omega,rfl⟩
 ·intro h j x hj;rw [Zj];unfold Ca;rw [ZD,Xo];intro y hy he;rw [Xu] at hy;obtain⟨i,hi,rfl⟩:=hy;obtain⟨hjl,rfl⟩:=Zt.1 hj;have:=Ny h (i:=i) (j:=j) (by omega) hjl (by simpa using he);omega
theorem Mu{s:Str}:∀ {xs:List Str} {j i:Nat},xs[i]? =some s->(∀k,k<i->xs[k]? ≠some s)->yT xs s j=((j+i:Nat):Int)
 | [],j,i,h,_=>by simp at h
 |x::r,j,i,h,hn=>by
  cases i with
  |zero=>
   simp at h;subst h;simp [yT]
  |succ i=>
   have hx:(x==s)=false:=ZV.2 fun e=>hn 0 (by omega) (by simp [e]);rw [yT,hx,jF,Mu (i:=i) (by simpa using h) (fun k hk=>by simpa using hn (k+1) (by omega))]
   congr 1;omega
theorem xGo{xs ys:List Str}(h:xs.Nodup){i:Nat}(hi:i<xs.length):yT (xs++ys) xs[i] 0=(i:Int):=by
 have:=Mu (s:=xs[i]) (xs:=xs++ys) (j:=0) (i:=i) (by rw [Ze hi,Zx hi]) (fun k hk e=>by
  rw [Ze (by omega),Zx (by omega)] at e;have:=Ny h (i:=k) (j:=i) (by omega) hi (by simpa using e);omega)
 rw [this,Zj]
theorem JT{s:Str}{xs:List Str}:s ∉ xs↔yT xs s 0<0:=by
 constructor
 ·intro h;rcases Decidable.em (yT xs s 0<0) with h1|h1
  ·exact h1
  ·exact absurd (DM (by omega:0<=yT xs s 0)) h
 ·intro h hm;obtain⟨i,hi⟩:=Yc hm;have key:∀ {xs:List Str} {j:Nat},s∈xs->0<=yT xs s j:=by
   intro xs
   induction xs with
   |nil=>intro j h;cases h
   |cons x r ih=>
    intro j h;rw [yT];cases hx:x==s
    ·rcases Zo.1 h with rfl|h
     ·simp at hx
     ·exact ih h
    ·simp only [jT];omega
  have:=key (j:=0) hm;omega
theorem xCR{cs ys:List Str}(h:cs.Nodup){r:Rowd}(hr:cs.length<=r.cells.length):atR (cs.map fun s=>yT (cs++ys) s 0) r=⟨r.cells.take cs.length,r.frm⟩:=by
 unfold atR
 congr 1
 rw [Yb];refine List.ext_getElem (by simp;omega) fun i h1 h2=> ?_;have hi:i<cs.length:=by simpa using h1
 simp only [Z7,Function.comp,xGo h hi,jI,List.getElem_take];simp [List.getD,Zx (by omega:i<r.cells.length)]
theorem ER{c:List Str}{rs:List Rowd}:yW (.mk 5 0 0 [] [] c rs)=zS c rs:=by
 rw [AH];simp only [vk,vn,vs,vt,vl,vc,vr,show((5:Int)==1)=false from rfl,show((5:Int)==2)=false from rfl,show((5:Int)==4)=false from rfl,show((5:Int)==6)=false from rfl,Ym,jT,jF,emp,jN,decide_true,ZN]
theorem xA4{v:Val}(hv:yW v=true)(hk:v.kind=5):v= .mk 5 0 0 [] [] v.columns v.rows/\zS v.columns v.rows=true:=by
 have hv0:=hv;rw [AH,hk] at hv;simp only [show((5:Int)==1)=false from rfl,show((5:Int)==2)=false from rfl,show((5:Int)==4)=false from rfl,show((5:Int)==6)=false from rfl,show((5:Int)==5)=true from rfl,jT,jF,Zv,emp,Z1,beq_iff_eq] at hv;obtain⟨h1,h2,h3,h4,h5⟩:=hv;refine⟨?_,h5⟩;have e:=(Val.eta v).symm;rw [hk,h2,h3,h4,Z0.1 h1] at e;exact e
theorem Ax{c:List Str}{rs:List Rowd}:zS c rs=true↔(((∀s∈c,Az s=true)/\(1<=c.length/\c.length<=4))/\c.Nodup)/\rs.length<=12/\∀r∈rs,r.cells.length=c.length/\(∀z∈r.cells,zB z=true)/\Ap r.frm=true:=by
 unfold zS AI;simp only [Zv,Iw,Gz,Z1];have e:zY (Bh c.length) rs 0=true↔∀r∈rs,r.cells.length=c.length/\(∀z∈r.cells,zB z=true)/\Ap r.frm=true:=by
  have:Bh c.length=fun _ r=>(r.cells.length==c.length)&&(zY (fun _=>zB) r.cells 0&&Ap r.frm):=rfl;rw [this,Iw];simp only [Zv,beq_iff_eq,Iw]
 rw [e];constructor
 ·rintro ⟨⟨h1,⟨h2,h3⟩,h4⟩,h5,h6⟩;exact⟨⟨⟨h1,by omega,by omega⟩,h4⟩,h5,h6⟩
 ·rintro ⟨⟨⟨h1,h2,h3⟩,h4⟩,h5,h6⟩;exact⟨⟨h1,⟨by omega,by omega⟩,h4⟩,h5,h6⟩
theorem xJa{a v:Val}(ha:yW a=true)(hv:yW v=true)(ka:a.kind=2)(kv:v.kind=5):yY [2,5] [a,v]=(At,false,false):=by
 have e1:(a.kind==6)=false:=by rw [ka];rfl
 have e2:(v.kind==6)=false:=by rw [kv];rfl
 have ho:opG [a,v]=(At,false,false):=by simp only [opG,ha,hv,e1,e2,jU,jF]
 unfold yY;rw [ho];have hb:kb [a,v] [2,5]=false:=by simp only [kb,ka,kv];rfl
 rw [hb];rfl
theorem xPC{a v:Val}(hk:(AK a v).1.kind=5):(AK a v).2=false/\(AK a (AK a v).1)=((AK a v).1,false)/\(AK a v).1.rows.length=v.rows.length:=by
 cases g1:(yY [2,5] [a,v]).2.1
 ·obtain⟨g2,g3⟩:=AR g1;have hva:=g2 a (by simp);have hvv:=g2 v (by simp);obtain⟨ka,kv⟩:=kb2 g3;obtain⟨ev,ht⟩:=xA4 hvv kv;obtain⟨⟨⟨h1,h2,h3⟩,h4⟩,h5,h6⟩:=Ax.1 ht;have e1:AK a v=(Aa (zC 32 [] a.text) v,false):=by unfold AK;rw [g1];rfl
  rw [e1] at hk ⊢;generalize hcs:zC 32 [] a.text=cs at*;cases hc:cs.all (zZ v.columns)&&AP cs
  ·exfalso;unfold Aa at hk;rw [hc] at hk;cases hk
  ·have e2:Aa cs v= .mk 5 0 0 [] [] cs (v.rows.map (atR (cs.map fun s=>yT v.columns s 0))):=by unfold Aa;rw [hc];rfl
   rw [Zv] at hc;have hnd:=Gz.1 hc.2;have hsub:∀s∈cs,s∈v.columns:=fun s hs=>by
    have:=Zu.1 hc.1 s hs;unfold zZ at this;simp only [ZD,decide_eq_false_iff_not] at this;exact DM (j:=0) (by omega)
   have hne:cs≠ []:=by rw [<-hcs];exact JH
   have hlen:cs.length<=v.columns.length:=(Nz hnd hsub);have hw:zS cs (v.rows.map (atR (cs.map fun s=>yT v.columns s 0)))=true:=by
    refine Ax.2 ⟨⟨⟨fun s hs=>h1 s (hsub s hs),?_,by omega⟩,hnd⟩,by rw [Zr];exact h5,fun r hr=> ?_⟩
    ·exact Nat.pos_of_ne_zero fun e=>hne (Z0.1 e)
    ·obtain⟨x,hx,rfl⟩:=Zk.1 hr;obtain⟨x1,x2,x3⟩:=h6 x hx;refine⟨by simp [atR],fun z hz=> ?_,x3⟩;simp only [atR,Yb] at hz;obtain⟨s,hs,rfl⟩:=Zk.1 hz;obtain⟨q1,q2⟩:=E6 (cols:=v.columns) (s:=s) (fun h=>(JT.2 h) (hsub s hs));simp only [Function.comp];have hlt:(yT v.columns s 0).toNat<x.cells.length:=by omega
     rw [ZW,Zx hlt];exact x2 _ (Z4 hlt)
   have hv2:yW (.mk 5 0 0 [] [] cs (v.rows.map (atR (cs.map fun s=>yT v.columns s 0))))=true:=by rw [ER];exact hw
   refine⟨rfl,?_,by rw [e2,vr,Zr]⟩;rw [e2];unfold AK;rw [xJa hva hv2 ka rfl];simp only [jF];rw [hcs];unfold Aa;rw [vc,vr];have hin:cs.all (zZ cs)=true:=Zu.2 fun s hs=>by
    unfold zZ;rw [Zy (fun h=>(JT.2 h) hs)];rfl
   rw [hin,hc.2];simp only [Bool.and_self,jT]
   congr 2
   refine(ZO fun r hr=> ?_).trans (Xp _);have hrl:=((Ax.1 hw).2.2 r hr).1;have:=xCR (cs:=cs) (ys:=[]) hnd (r:=r) (by omega);rw [Zb] at this;rw [this,<-hrl,ZK]
   rfl
 ·exfalso;unfold AK at hk;rw [g1] at hk;simp only [jT] at hk;have:(yY [2,5] [a,v]).1.kind=6:=by
   unfold yY at g1 ⊢;cases ho:(opG [a,v]).2.1
   ·rw [ho] at g1;simp only [jF] at g1 ⊢;cases hb:kb [a,v] [2,5]
    ·rw [hb] at g1;cases g1
    ·rfl
   ·simp only [jT];exact KF ho
  rw [this] at hk;cases hk
theorem xCO{m a b t:Val}(hk:(zT m a b t).1.kind=5):(zT m a b t).2=false/\∃c rs i k,t= .mk 5 0 0 [] [] c rs/\zS c rs=true/\(zT m a b t).1= .mk 5 0 0 [] [] (c++ [m.text]) (rs.map (A1 i k))/\zS (c++ [m.text]) (rs.map (A1 i k))=true:=by
 unfold zT at hk ⊢;cases g1:(yY [2,2,2,5] [m,a,b,t]).2.1
 ·rw [g1] at hk;obtain⟨g2,g3⟩:=AR g1;have hk5:=(kb4 g3).2.2.2;have hvt:=g2 t (by simp);obtain⟨et,ht⟩:=xA4 hvt hk5;obtain⟨⟨⟨h1,h2,h3⟩,h4⟩,h5,h6⟩:=Ax.1 ht;simp only [jF] at hk ⊢;have err:∀ {c:Int} {P:Prop},(y6 c).kind=5->P:=fun h=>by cases h
  cases d0: !Az m.text
  case true=>rw [d0] at hk;exact err hk
  rw [d0] at hk;cases d1:decide (yT t.columns m.text 0>=0)
  case true=>rw [d1] at hk;exact err hk
  rw [d1] at hk;cases d2:decide (yT t.columns a.text 0<0)
  case true=>rw [d2] at hk;exact err hk
  rw [d2] at hk;cases d3:decide (yT t.columns b.text 0<0)
  case true=>rw [d3] at hk;exact err hk
  rw [d3] at hk;cases d4:decide ((t.columns.length:Int)>=4)
  case true=>rw [d4] at hk;exact err hk
  rw [d4] at hk;simp only [jF] at hk ⊢;unfold EW at hk ⊢;cases d5:t.rows.all (Bo (yT t.columns a.text 0) (yT t.columns b.text 0))
  case false=>rw [d5] at hk;exact err hk
  simp only [jT];refine⟨trivial,t.columns,t.rows,yT t.columns a.text 0,yT t.columns b.text 0,et,ht,?_,?_⟩
  ·have e1:=Zd Val.kind et;have e2:=Zd Val.n et;have e3:=Zd Val.step et;have e4:=Zd Val.text et;have e5:=Zd Val.list et;rw [e1,e2,e3,e4,e5];rfl
  ·simp only [decide_eq_false_iff_not] at d1 d4;simp only [Bool.not_eq_false'] at d0;refine Ax.2 ⟨⟨⟨fun s hs=> ?_,by rw [jA];omega,by rw [jA,List.length_singleton];omega⟩,?_⟩,by rw [Zr];exact h5,fun r hr=> ?_⟩
   ·rcases Za.1 hs with hs|hs
    ·exact h1 s hs
    ·rw [Zh.1 hs];exact d0
   ·rw [Yq];refine⟨h4,by simp,fun x hx y hy e=> ?_⟩;rw [Zh] at hy;subst hy e;exact(JT.2 (by omega)) hx
   ·obtain⟨x,hx,rfl⟩:=Zk.1 hr;obtain⟨x1,x2,x3⟩:=h6 x hx;refine⟨by simp only [A1,jA,List.length_singleton];omega,fun z hz=> ?_,x3⟩;rcases Za.1 hz with hz|hz
    ·exact x2 z hz
    ·rw [Zh.1 hz];exact Zu.1 d5 x hx
 ·exfalso;rw [g1] at hk;simp only [jT] at hk;have:(yY [2,2,2,5] [m,a,b,t]).1.kind=6:=by
   unfold yY at g1 ⊢;cases ho:(opG [m,a,b,t]).2.1
   ·rw [ho] at g1;simp only [jF] at g1 ⊢;cases hb:kb [m,a,b,t] [2,2,2,5]
    ·rw [hb] at g1;cases g1
    ·rfl
   ·simp only [jT];exact KF ho
  rw [this] at hk;cases hk
end Go.Ab
end
section
namespace Go.Ab
theorem xJl{c:Cur}(h:CurOk c):U (fun N:Nat=>1000<N) (fun N=>Gi N c) (Dr A0):=by
 unfold Gi;refine .bnd (N7 h) fun v hv=> ?_;obtain⟨v,c2⟩:=v;obtain⟨⟨hv,hl⟩,hc2⟩:=hv;obtain⟨h1,h2,h3,h4,h5,h6,h7⟩:=Val.fit_iff.1 hv;obtain⟨k,n,s,t,l,cs,r⟩:=v;have hrl:r.length<=64:=h7.1;refine E0 (σ:=List Rowd×Cur) (L:=fun N m i st=>EO N m i st.2 (Val.mk 0 0 0 [] [] [] []) (Val.mk k n s t l cs st.1)) (B:=1000) r.length (fun i st=>(st.1.length=r.length/\∀x∈st.1,Rowd.Fit 64 x)/\CurOk st.2) (by omega) (fun st hs=> ?_) (fun i st hi hs ih=> ?_) (r,c2) ⟨⟨rfl,h7.2⟩,hc2⟩
 ·simp only [EO,vr,hs.1.1,Z5,Z6,jF];have hv' :VDr (Val.mk k n s t l cs st.1):=In h1 h2 h3 h4 h5 h6 ⟨by show st.1.length<=64;rw [hs.1.1];exact hrl,hs.1.2⟩;exact .bnd (BO _ hs.2) fun b hb=> .cnd (fun _=> .bnd ((He hb.2).pre (fun x:Nat×Nat=>x.1) fun x hx=>hx) fun d hd=> .mk' hd) fun _=> .mk' ⟨hv'.up,hb.2⟩
 ·simp only [EO,vr,hs.1.1,Zz (show(i:Int)<(r.length:Int) by omega),jT];have hgd:∀q:List Rowd,q.length=r.length->q.getD i Ty.row.dflt∈q:=fun q hq=>by
   have hi' :i<q.length:=by omega
   have:q.getD i Ty.row.dflt=q[i]:=by simp [List.getD,hi']
   rw [this];exact Z4 hi'
  have hn2:(st.1.getD i Ty.row.dflt).cells.length<=64:=(hs.1.2 _ (hgd st.1 hs.1.1)).1.1
  refine JQ (κ:=Nat×Nat) (σ:=List Rowd×Cur) (L:=fun x m j q=>EP x.1 (fun z0 z1 z2 z3=>EO x.1 x.2 z0 z1 z2 z3) m i j q.2 (Val.mk 0 0 0 [] [] [] []) (Val.mk k n s t l cs q.1)) (st.1.getD i Ty.row.dflt).cells.length
   (fun j q=>((q.1.length=r.length/\∀x∈q.1,Rowd.Fit 64 x)/\(q.1.getD i Ty.row.dflt).cells.length=(st.1.getD i Ty.row.dflt).cells.length)/\CurOk q.2) (fun q hq=> ?_) (fun j q hj hq ih2=> ?_) (fun x=>x.1) (fun x hx=>by have:=hx.1;omega) st ⟨⟨hs.1,rfl⟩,hs.2⟩
  ·simp only [EP,vk,vn,vs,vt,vl,vc,vr,jI,hq.1.2,hq.1.1.1,Z5,Z6,jF,y4 hi (by omega:r.length<=_)];exact .chk ⟨by omega,by omega⟩ ((ih q ⟨hq.1.1,hq.2⟩).pre (fun x:(Nat×Nat)×Nat=>x.1) fun x hx=>hx)
  ·simp only [EP,vk,vn,vs,vt,vl,vc,vr,jI,hq.1.2,hq.1.1.1,Zz (show(j:Int)<((st.1.getD i Ty.row.dflt).cells.length:Int) by omega),jT,y4 hj (by omega:(st.1.getD i Ty.row.dflt).cells.length<=_)];have hf:=hq.1.1.2 _ (hgd q.1 hq.1.1.1);refine .chk ⟨by omega,by omega⟩ (.bnd (BO _ hq.2) fun a ha=> .cnd (fun _=> .bnd (Ad _ ha.2 (by decide)) fun b hb=> .chk ⟨by omega,by omega⟩ (ih2 (_,b.2) ⟨⟨⟨by rw [Xh];exact hq.1.1.1,xKM hq.1.1.2 ⟨⟨by show List.length (List.set _ _ _)<=64;rw [Xh];exact hf.1.1,fun y hy=> ?_⟩,hf.2⟩⟩,?_⟩,hb.2⟩)) fun _=>ih2 (q.1,a.2) ⟨hq.1,ha.2⟩)
   ·rcases Xt hy with hy|rfl
    ·exact hf.1.2 y hy
    ·have:=hb.1;exact⟨show _<=b.1 by omega,show b.1<=_ by omega⟩
   ·have hi' :i<q.1.length:=by have:=hq.1.1.1;omega
    show(List.getD (List.set q.1 i _) i Ty.row.dflt).cells.length=_;rw [xFR hi'];show List.length (List.set _ _ _)=_;rw [Xh];exact hq.1.2
theorem xPh{ι:Type}{S:ι->Prop}(g:ι->Nat){t:Str}(h:t.length<=64):U S (fun x=>EC (g x) t) A0:=
 .mk' (VDr.up (ET (show I64 2 from yX (by omega) (by omega)) (show I64 0 from yX (by omega) (by omega)) (show I64 0 from yX (by omega) (by omega)) h))
theorem xJk{c:Cur}(h:CurOk c):U (fun N:Nat=>1000<N) (fun N=>Gh N c) (Dr A0):=by
 unfold Gh;refine .bnd (BO id h) fun a ha=> .cnd (fun _=> .bnd (He ha.2) fun b hb=> .mk' hb) fun _=> .bnd (GO id ha.2 (by decide)) fun b hb=> .bnd (xPh id ?_) fun d hd=> .mk' ⟨hd,hb.2⟩;have:∀x∈([[97],[97],[97],[98],[98],[99],[120],[122],[]]:List Str),x.length<=64:=by decide
 exact this _ hb.1
theorem xEz{v:Val}(h:A0 v):v.Fit 1048576:=fun d hd=>(h d hd).mono (by omega)
end Go.Ab
end
section
namespace Go.Ab
theorem O9{l:List Org}(h:SO l)(h0:∀o∈l,0<=o.cell/\0<=o.row):Ap l=true:=by
 unfold Ap;rw [Gs];intro j x hj;have hm:=Zs hj;obtain⟨h1,h2⟩:=h0 x hm;unfold DF;rw [Zj,Zy (by omega),Zy (by omega)];simp only [jV,ZN,YW,Z1];rcases Nat.eq_zero_or_pos j with h' |h'
 ·exact .inl h'
 ·right
  rw [Iy];obtain⟨hj',rfl⟩:=Zt.1 hj;have:l.getD (j - 1) Do=l[j - 1]:=by simp [List.getD,show j - 1<l.length by omega]
  rw [this];exact Yk.1 h (j - 1) j (by omega) hj' (by omega)
theorem Ix{l:List Org}(h:Ap l=true):∀o∈l,0<=o.cell/\0<=o.row:=by
 intro o ho;obtain⟨i,hi⟩:=Yc ho;have:=Bp h i o hi;simp only [DF,Zv,ZD,decide_eq_false_iff_not] at this;omega
theorem xO7{c:List Str}{rs:List Rowd}{p:Rowd->Bool}(h:zS c rs=true):zS c (rs.filter p)=true:=by
 rw [Ax] at h ⊢;exact⟨h.1,ZF (Xf _ _) h.2.1,fun r hr=>h.2.2 r (YX.1 hr).1⟩
theorem Fc{v:Val}(h:yW v=true)(hk:v.kind=5):zS v.columns v.rows=true:=by
 rw [AH,hk] at h;simp only [show((5:Int)==1)=false from rfl,show((5:Int)==2)=false from rfl,show((5:Int)==4)=false from rfl,show((5:Int)==6)=false from rfl,show((5:Int)==5)=true from rfl,jT,jF,Zv] at h;exact h.2.2.2.2
end Go.Ab
end
section
namespace Go.Ab
def CF(k:Nat)(u v:Val):List Str:=u.columns++(v.columns.take k++v.columns.drop (k+1))
theorem xI6{i k:Nat}{u v:Val}(tu:zS u.columns u.rows=true)(tv:zS v.columns v.rows=true)(hk:k<v.columns.length)(hd:(CF k u v).Nodup)(h4:(CF k u v).length<=4)(h12:(jrs i k v.rows u.rows).length<=12):
 zS (CF k u v) (jrs i k v.rows u.rows)=true:=by
 rw [Ax] at tu tv ⊢;obtain⟨⟨⟨u1,u2,u3⟩,u4⟩,u5,u6⟩:=tu;obtain⟨⟨⟨v1,v2,v3⟩,v4⟩,v5,v6⟩:=tv;have hlen:(CF k u v).length=u.columns.length+(min k v.columns.length+(v.columns.length - (k+1))):=by
  unfold CF;simp only [jA,ZT,Yx]
 refine⟨⟨⟨fun s hs=> ?_,by omega,h4⟩,hd⟩,h12,fun x hx=> ?_⟩
 ·unfold CF at hs;simp only [Za] at hs;rcases hs with hs|hs|hs
  ·exact u1 s hs
  ·exact v1 s (ZI hs)
  ·exact v1 s (Ye hs)
 ·obtain⟨r,hr,t,ht,rfl,_⟩:=Jj hx;obtain⟨r1,r2,r3⟩:=u6 r hr;obtain⟨t1,t2,t3⟩:=v6 t ht;refine⟨?_,fun z hz=> ?_,?_⟩
  ·rw [hlen];unfold Am;simp only [jA,ZT,Yx];omega
  ·unfold Am at hz;simp only [Za] at hz;rcases hz with (hz|hz) |hz
   ·exact r2 z hz
   ·exact t2 z (ZI hz)
   ·exact t2 z (Ye hz)
  ·refine O9 (Kt _ _) fun o ho=> ?_;rcases Hg.1 ho with h|h
   ·exact Ix r3 o h
   ·exact Ix t3 o h
end Go.Ab
end
section
namespace Go.Ab
theorem zL{c:Int}(h:1<=c/\c<=8):yW (y6 c)=true:=by
 rw [AH];simp [y6,vk,vn,vs,vt,vl,vc,vr,emp,h.1,h.2]
theorem En{n:Int}(h:zB n=true):yW (y5 n)=true:=by
 rw [AH];simp [y5,vk,vn,vs,vt,vl,vc,vr,emp,h]
theorem OD{n s:Int}(h:zB n=true)(h' :zB s=true):yW (.mk 4 n s [] [] [] [])=true:=by
 rw [AH];simp [vk,vn,vs,vt,vl,vc,vr,emp,h,h']
theorem KC{n:Int}(h0: -1000000000<=n)(h1:n<=1000000000):zB n=true:=by simp [zB,h0,h1]
theorem KB{v:Val}(h:yW v=true)(hk:v.kind=1):zB v.n=true:=by
 rw [AH,hk] at h;simp only [show((1:Int)==1)=true from rfl,jT,Zv] at h;exact h.2.2.2.2.2
theorem xKc{v:Val}(h:yW v=true)(hk:v.kind=4):zB v.step=true:=by
 rw [AH,hk] at h;simp only [show((4:Int)==1)=false from rfl,show((4:Int)==2)=false from rfl,show((4:Int)==4)=true from rfl,jT,jF,Zv] at h;exact h.2.2.2.2.2
theorem xKd{v:Val}(h:yW v=true)(hk:v.kind=2):v.text.length<=20:=by
 rw [AH,hk] at h;simp only [show((2:Int)==1)=false from rfl,show((2:Int)==2)=true from rfl,jT,jF,Zv,Fe,Z1] at h;have:=h.2.2.2.2.2.2;omega
theorem GN:∀ {l:List Val},(opG l).2.1=true->yW (opG l).1=true
 | [],h=>by cases h
 |v::r,h=>by
  simp only [opG] at h ⊢;cases hv:yW v
  ·exact zL (by omega)
  ·cases hk:(v.kind==6)
   ·rw [hv,hk] at h;exact GN (l:=r) h
   ·exact hv
theorem CL{ks:List Int}{l:List Val}(h:(yY ks l).2.1=true):yW (yY ks l).1=true:=by
 unfold yY at h ⊢;cases h1:(opG l).2.1
 ·rw [h1] at h;cases h2:kb l ks
  ·rw [h2] at h;cases h
  ·exact zL (by omega)
 ·exact GN h1
theorem xJS(v:Val):yW (CM v).1=true:=by
 unfold CM;cases h1:(opG [v]).2.1
 ·have hv:=Hi h1 v (by simp);cases h3:v.kind==3
  ·cases h2:v.kind==2
   ·exact zL (by omega)
   ·have:=xKd hv (eq_of_beq h2);exact En (KC (by omega) (by omega))
  ·have:=(D8 hv (eq_of_beq h3)).2.1;exact En (KC (by omega) (by omega))
 ·exact GN h1
theorem xA3:∀ {l:List Val} {s:Int},zB s=true->yW (Ai l s)=true
 | [],s,h=>En h
 |x::r,s,h=>by
  simp only [Ai];cases (x.kind != 1)
  ·cases h2:zB (IntKind.i64.wrap (s+x.n))
   ·exact zL (by omega)
   ·exact xA3 h2
  ·exact zL (by omega)
theorem xO1(v:Val):yW (CZ v).1=true:=by
 unfold CZ;cases h1:(opG [v]).2.1
 ·cases (v.kind != 3)
  ·exact xA3 rfl
  ·exact zL (by omega)
 ·exact GN h1
theorem xEn(v:Val):yW (Br v).1=true:=by
 unfold Br;cases g1:(yY [5] [v]).2.1
 ·obtain⟨g2,g3⟩:=AR g1;have hk:v.kind=5:=by simpa [kb] using g3
  have:=(C1 (g2 v (by simp)) hk).2;exact En (KC (by omega) (by omega))
 ·exact CL g1
theorem KL{n v:Val}(h:(zG n v).2.1=true):yW (zG n v).1=true:=by
 unfold zG at h ⊢;cases h1:(opG [n,v]).2.1
 ·exact zL (by omega)
 ·exact GN h1
theorem Jz{x v:Val}(hk:(v.kind==3)=false):zH x v=y6 5\/∃n,zB n=true/\zH x v=y5 n:=by
 unfold zH;rw [hk,ZQ,Ya,jF];cases decide (x.n<0)
 ·unfold Bq;cases h:zB (IntKind.i64.wrap (v.n+IntKind.i64.wrap (x.n*v.step)))
  ·exact .inl rfl
  ·exact .inr ⟨_,h,rfl⟩
 ·exact .inl rfl
theorem xJ7{n v:Val}(hv:yW v=true):yW (zH n v)=true:=by
 cases hk:v.kind==3
 ·rcases Jz (x:=n) hk with e|⟨m,h,e⟩ <;>rw [e]
  ·exact zL (by omega)
  ·exact En h
 ·unfold zH;rw [hk,ZN,jT];by_cases h0:n.n<0
  ·rw [Zz h0];exact zL (by omega)
  ·by_cases h1:n.n>=(v.list.length:Int)
   ·rw [Zz h1,Xz];exact zL (by omega)
   ·rw [Zy h0,Zy h1,Ya,jF];have hl:n.n.toNat<v.list.length:=by omega
    have e:v.list.getD n.n.toNat Dv=v.list[n.n.toNat]:=by simp [List.getD,hl]
    have h2:=(D8 hv (eq_of_beq hk)).2.2.2 _ (Z4 hl);rw [Zv] at h2;rw [e];exact h2.2
theorem xJ8(n v:Val):yW (AL n v).1=true:=by
 unfold AL;cases h:(zG n v).2.1
 ·exact xJ7 (Dd h).2.1
 ·exact KL h
theorem xK4(n v:Val):yW (skG n v).1=true:=by
 unfold skG;cases h:(zG n v).2.1
 ·obtain⟨_,hv,_,h34,_⟩:=Dd h;rw [jF];unfold skB;cases decide (n.n<0)
  ·cases hk:v.kind==3
   ·have hs:=xKc hv (by rcases h34 with e|e;·rw [e] at hk;cases hk
                        ·exact e)
    rcases Jz (x:=n) hk with e|⟨m,h,e⟩ <;>rw [e]
    ·exact zL (by omega)
    ·exact OD h hs
   ·have hl:=(D8 hv (eq_of_beq hk)).2.1;exact xA0 hv (eq_of_beq hk) (fun x hx=>Ye hx) (by rw [Yx];omega)
  ·exact zL (by omega)
 ·exact KL h
theorem OC{l:List Val}(h:∀x∈l,∃n,zB n=true/\x=y5 n)(hl:l.length<=8):yW (.mk 3 0 0 [] l [] [])=true:=by
 have hd:Val.dep (.mk 3 0 0 [] l [] [])<=3:=by
  rw [C9];have:=Gy (B:=1) (l:=l) (m:=0) (by omega) fun x hx=>by
   obtain⟨n,_,rfl⟩:=h x hx;simp [y5,Val.dep,Val.deps]
  show zP l 0+1<=3;omega
 rw [AH];simp only [vk,vn,vs,vt,vl,vc,vr,show((3:Int)==1)=false from rfl,show((3:Int)==2)=false from rfl,show((3:Int)==4)=false from rfl,show((3:Int)==6)=false from rfl,show((3:Int)==5)=false from rfl,show((3:Int)==3)=true from rfl,jT,jF,Zv,Z1,ES,Zu,Ym,true_and,and_true];refine⟨fun x hx=> ?_,by simp [emp,hl,hd]⟩;obtain⟨n,h1,rfl⟩:=h x hx;exact⟨rfl,En h1⟩
theorem xA7{v:Val}(hk:(v.kind==3)=false):∀(m:Nat) (i:Int) (acc:List Val),(∀x∈acc,∃n,zB n=true/\x=y5 n)->acc.length+m<=8->yW (BG v m i acc)=true
 |0,i,acc,h,hl=>OC h (by omega)
 |m+1,i,acc,h,hl=>by
  unfold BG;rcases Jz (x:=y5 i) hk with e|⟨n,h1,e⟩ <;>rw [e]
  ·exact zL (by omega)
  ·refine xA7 hk m (i+1) _ (fun x hx=> ?_) (by simp only [jA,jC,jN];omega);rcases Za.1 hx with hx|hx
   ·exact h x hx
   ·rw [Zh] at hx;exact⟨n,h1,hx⟩
theorem xPa(n v:Val):yW (Ay n v).1=true:=by
 unfold Ay;cases h:(zG n v).2.1
 ·obtain⟨_,hv,_,h34,_⟩:=Dd h;rw [jF];unfold Fd;by_cases hn:0<=n.n/\n.n<=8
  ·rw [Zz hn.1,Zz hn.2];cases hk:v.kind==3
   ·exact xA7 hk _ _ _ (fun x hx=>by cases hx) (by simp only [jN];omega)
   ·have hl:=(D8 hv (eq_of_beq hk)).2.1;exact xA0 hv (eq_of_beq hk) (fun x hx=>ZI hx) (by rw [ZT];omega)
  ·have e:(!(decide (0<=n.n)&&decide (n.n<=8)))=true:=by
    rw [ZD,Bool.and_eq_false_iff];by_cases h0:0<=n.n
    ·exact .inr (Zy (by omega))
    ·exact .inl (Zy h0)
   rw [e];exact zL (by omega)
 ·exact KL h
theorem xKG(a b:Val):yW (Db a b).1=true:=by
 unfold Db;cases g1:(yY [1,1] [a,b]).2.1
 ·obtain⟨g2,g3⟩:=AR g1;obtain⟨h1,h2⟩:=kb2 g3;exact OD (KB (g2 a (by simp)) h1) (KB (g2 b (by simp)) h2)
 ·exact CL g1
theorem OB:∀ {l m:List Str},l.Nodup->(∀x∈l,x∈m)->l.length<=m.length
 | [],m,_,_=>Z9 _
 |x::l,m,h,hs=>by
  obtain⟨h1,h2⟩:=Yn.1 h;have hx:=hs x Zp;have:=OB (l:=l) (m:=m.erase x) h2 fun y hy=>(List.mem_erase_of_ne (fun e=>h1 (by rw [<-e];exact hy))).2 (hs y (Zq _ hy));rw [XK hx] at this;have:=XF hx;simp only [jC];omega
theorem JE{c:List Str}{rs:List Rowd}(t:zS c rs=true){r:Rowd}(hr:r∈rs){k:Nat}(hk:k<c.length):zB (r.cells.getD k Di)=true:=by
 obtain⟨_,_,h⟩:=Ax.1 t;obtain⟨h1,h2,_⟩:=h r hr;have hl:k<r.cells.length:=by omega
 have e:r.cells.getD k Di=r.cells[k]:=by simp [List.getD,hl]
 rw [e];exact h2 _ (Z4 hl)
theorem xI8(a v:Val):yW (AK a v).1=true:=by
 unfold AK;cases g1:(yY [2,5] [a,v]).2.1
 ·obtain⟨g2,g3⟩:=AR g1;have t:=Fc (g2 v (by simp)) (kb2 g3).2;have hne:zC 32 [] a.text≠ []:=JH;rw [jF];generalize zC 32 [] a.text=cs at*;unfold Aa;cases h1:cs.all (zZ v.columns)
  ·exact zL (by omega)
  ·cases h2:AP cs
   ·exact zL (by omega)
   ·have t0:=t;obtain⟨⟨⟨c1,c2,c3⟩,c4⟩,r1,r2⟩:=Ax.1 t;have hin:∀s∈cs,s∈v.columns:=fun s hs=>DM (HL (Zu.1 h1 s hs)).1;have hnd:=Gz.1 h2;have hle:=OB hnd hin
    show yW (.mk 5 0 0 [] [] cs _)=true;rw [ER,Ax];refine⟨⟨⟨fun s hs=>c1 s (hin s hs),List.length_pos_iff.2 hne,by omega⟩,hnd⟩,by rw [Zr];exact r1,fun x hx=> ?_⟩;obtain⟨r,hr,rfl⟩:=Zk.1 hx;refine⟨by simp [atR],fun z hz=> ?_,(r2 r hr).2.2⟩;obtain⟨k,hk,rfl⟩:=Zk.1 hz;obtain⟨s,hs,rfl⟩:=Zk.1 hk;have:=HL (Zu.1 h1 s hs);exact JE t0 hr (by omega)
 ·exact CL g1
theorem xEq(a v:Val):yW (BD a v).1=true:=by
 unfold BD;cases g1:(yY [2,5] [a,v]).2.1
 ·obtain⟨g2,g3⟩:=AR g1;have t:=Fc (g2 v (by simp)) (kb2 g3).2;rw [jF];by_cases h1:yT v.columns a.text 0<0
  ·rw [Zz h1];exact zL (by omega)
  ·rw [Zy h1];by_cases h2:(v.rows.length:Int)>8
   ·rw [Zz h2];exact zL (by omega)
   ·rw [Zy h2];refine OC (fun x hx=> ?_) (by rw [Zr];omega);obtain⟨r,hr,rfl⟩:=Zk.1 hx;exact⟨_,JE t hr (by have:=E6 h1;omega),rfl⟩
 ·exact CL g1
theorem xO5{c:List Str}{rs:List Rowd}(hc:AI c=true)(hl:rs.length<=12)(hr:∀r∈rs,r.cells.length=c.length/\(∀z∈r.cells,zB z=true)/\Ap r.frm=true):zS c rs=true:=by
 have h0:zS c []=true:=by
  unfold zS;rw [hc];rfl
 exact Ax.2 ⟨(Ax.1 h0).1,hl,hr⟩
theorem xPf(a v:Val):yW (B1 a v).1=true:=by
 unfold B1;cases g1:(yY [2,3] [a,v]).2.1
 ·obtain⟨g2,g3⟩:=AR g1;obtain⟨_,hl,_,hx⟩:=D8 (g2 v (by simp)) (kb2 g3).2;rw [jF];generalize zC 32 [] a.text=cs at*;cases hc:AI cs
  ·exact zL (by omega)
  ·unfold Aj;cases h1:v.list.all (AX cs.length)
   ·exact zL (by omega)
   ·show yW (.mk 5 0 0 [] [] cs ([]++v.list.map Ck))=true;rw [ER,jM];refine xO5 hc (by rw [Zr];omega) fun r hr=> ?_;obtain⟨x,hm,rfl⟩:=Zk.1 hr;have h2:=Zu.1 h1 x hm;simp only [AX,Zv,beq_iff_eq,Zu,AU] at h2;obtain⟨k1,k2,k3⟩:=h2;have h3:=hx x hm;rw [Zv] at h3;refine⟨by simp [Ck,k2],fun z hz=> ?_,rfl⟩;obtain⟨y,hy,rfl⟩:=Zk.1 hz;have h4:=(D8 h3.2 k1).2.2.2 y hy;rw [Zv] at h4;exact KB h4.2 (k3 y hy)
 ·exact CL g1
theorem xPt(a b v:Val):yW (whG a b v).1=true:=by
 unfold whG;cases g1:(yY [2,1,5] [a,b,v]).2.1
 ·obtain⟨g2,g3⟩:=AR g1;have t:=Fc (g2 v (by simp)) (kb3 g3).2.2;rw [jF];cases decide (yT v.columns a.text 0<0)
  ·show yW (.mk 5 0 0 [] [] v.columns (pick _ _ v.rows))=true;rw [ER];exact xO7 t
  ·exact zL (by omega)
 ·exact CL g1
theorem xGf(a b t:Val):yW (A9 a b t).1=true:=by
 unfold A9;cases g1:(yY [2,2,5] [a,b,t]).2.1
 ·obtain⟨g2,g3⟩:=AR g1;obtain⟨_,_,hk2⟩:=kb3 g3;have tt:=Fc (g2 t (by simp)) hk2;obtain⟨⟨⟨c1,c2,c3⟩,c4⟩,r1,r2⟩:=Ax.1 tt;rw [jF];unfold BK;by_cases hi:yT t.columns a.text 0<0
  ·rw [Zz hi];exact zL (by omega)
  ·rw [Zy hi,jF];by_cases hk:yT t.columns b.text 0<0
   ·rw [Zz hk];exact zL (by omega)
   ·rw [Zy hk,jF];have hin:=E6 hi;cases he:(yT t.columns a.text 0==yT t.columns b.text 0)
    ·rw [jF];split
     ·rename_i hall;rw [ER,Ax];have ma:=DM (s:=a.text) (xs:=t.columns) (j:=0) (by omega);have mb:=DM (s:=b.text) (xs:=t.columns) (j:=0) (by omega);have hne:a.text≠b.text:=fun e=>by rw [e,Ym] at he;cases he
      have hl:=Hl (yT t.columns a.text 0).toNat t.rows;refine⟨⟨⟨fun s hs=> ?_,by simp,by simp⟩,by simp [hne]⟩,by rw [uN,Zr];omega,fun x hx=> ?_⟩
      ·simp only [Zo,Z2,or_false] at hs;rcases hs with rfl|rfl
       ·exact c1 _ ma
       ·exact c1 _ mb
      ·obtain⟨y,hy,rfl⟩:=Zk.1 hx;obtain⟨r,hr,e⟩:=O0 t.rows (GI.1 hy);have h2:=Zu.1 hall y hy;refine⟨rfl,fun z hz=> ?_,O9 (OZ t.rows) fun o ho=> ?_⟩
       ·simp only [Zo,Z2,or_false] at hz;rcases hz with rfl|rfl
        ·rw [<-e];exact JE tt hr (by omega)
        ·exact h2
       ·obtain⟨q,hq,_,hm⟩:=OY t.rows ho;exact Ix (r2 q hq).2.2 o hm
     ·exact zL (by omega)
    ·exact zL (by omega)
 ·exact CL g1
theorem xI4(a u v:Val):yW (Al a u v).1=true:=by
 unfold Al;cases g1:(yY [2,5,5] [a,u,v]).2.1
 ·obtain⟨g2,g3⟩:=AR g1;obtain⟨_,hk1,hk2⟩:=kb3 g3;have tu:=Fc (g2 u (by simp)) hk1;have tv:=Fc (g2 v (by simp)) hk2;rw [jF];unfold CH;by_cases hi:yT u.columns a.text 0<0
  ·rw [Zz hi];exact zL (by omega)
  ·rw [Zy hi,jF];by_cases hk:yT v.columns a.text 0<0
   ·rw [Zz hk];exact zL (by omega)
   ·rw [Zy hk,jF];have hin:=E6 hk;have ec:u.columns++(v.columns.take (yT v.columns a.text 0).toNat++v.columns.drop ((yT v.columns a.text 0).toNat+1))=CF (yT v.columns a.text 0).toNat u v:=rfl;rw [ec];cases hd:AP (CF (yT v.columns a.text 0).toNat u v)
    ·exact zL (by omega)
    ·rw [jU,jF];by_cases h4:((CF (yT v.columns a.text 0).toNat u v).length:Int)>4
     ·rw [Zz h4];exact zL (by omega)
     ·rw [Zy h4,jF];unfold CG;by_cases h12:((jrs (yT u.columns a.text 0).toNat (yT v.columns a.text 0).toNat v.rows u.rows).length:Int)>12
      ·rw [Zz h12];exact zL (by omega)
      ·rw [Zy h12,jF];show yW (.mk 5 0 0 [] [] _ _)=true;rw [ER];exact xI6 tu tv (by omega) (Gz.1 hd) (by omega) (by omega)
 ·exact CL g1
theorem xCM(m a b t:Val):yW (zT m a b t).1=true:=by
 by_cases h5:(zT m a b t).1.kind=5
 ·obtain⟨_,c,rs,i,k,_,_,e,h⟩:=xCO h5;rw [e,ER];exact h
 ·unfold zT at h5 ⊢;cases g1:(yY [2,2,2,5] [m,a,b,t]).2.1
  ·rw [g1,jF] at h5;obtain⟨g2,g3⟩:=AR g1;have hk:=(kb4 g3).2.2.2;rw [jF];cases h1: !Az m.text
   ·cases h2:decide (yT t.columns m.text 0>=0)
    ·cases h3:decide (yT t.columns a.text 0<0)
     ·cases h4:decide (yT t.columns b.text 0<0)
      ·cases h6:decide ((t.columns.length:Int)>=4)
       ·rw [h1,h2,h3,h4,h6] at h5;simp only [jF,EW] at h5 ⊢;cases h7:t.rows.all (Bo (yT t.columns a.text 0) (yT t.columns b.text 0))
        ·exact zL (by omega)
        ·rw [h7] at h5;exact absurd hk h5
       ·exact zL (by omega)
      ·exact zL (by omega)
     ·exact zL (by omega)
    ·exact zL (by omega)
   ·exact zL (by omega)
  ·exact CL g1
theorem xEi(s:Str)(l:List Val):yW (AO s l).1=true:=by
 have er:yW (y6 4)=true:=zL (by omega);unfold AO;cases ((l.length:Int) != A7 s)
 ·rw [jF];unfold cas;have c:∀ {b:Bool} {x y:Val×Bool},yW x.1=true->yW y.1=true->yW (bif b then x else y).1=true:=fun {b} _ _ h1 h2=>by cases b <;>assumption
  exact c (xJS _) (c (xO1 _) (c (xEn _) (c (xPa _ _) (c (xK4 _ _) (c (xJ8 _ _) (c (xI8 _ _) (c (xEq _ _) (c (xPf _ _) (c (xPt _ _ _) (c (xGf _ _ _) (c (xI4 _ _ _) (c (xCM _ _ _ _) (c (xKG _ _) er)))))))))))))
 ·exact er
end Go.Ab
end
