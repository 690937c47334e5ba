/- The statement FnOrigins holds: plain functions, certificates, laws. Conditions: none. -/
import Derived.Test.YtchkdijelkdpaaaGreatDoorL2
import Derived.Test.YtchkdijelkdpaaaGreatDoorFnOriginsP0
set_option linter.all false
section
open Go.Proofs
namespace Go.Ab.T
set_option maxRecDepth 100000
variable [Inhabited Lb]
noncomputable def I4:Info:= { body:=(Tryz.f4.body).getD .skip,nt:=6,results:=[.tmp 2],keep:=[0,4],live:=[],modes:=[] }
theorem fk4:FnOk Tryz.prog 4 Tryz.f4 I4:=by refine⟨Tryz.func4,?_,?_,?_,?_⟩<;>kernel_rfl
def xSS(a0):rE I4 (xGY a0) [] []=dn (xCH (dc ((Ln a0:Int)>1048576))) []:=by kernel_rfl
theorem c4_e{N:Nat}:∀a0 r,xHq N a0=some r→RE Tryz.f4 I4 (xGY a0) (xCH r):=fun a0 r h=>dE h fk4 (xSS a0) on
theorem xDH{N:Nat}{a0:List Int}{r:Bool}(h:xHq N  a0=some r):AbC 4 (xGY a0) (xCH r):=
 AbsCalls.of_reach fk4 rfl rfl rfl (jL rfl) (c4_e a0 r h)
noncomputable def I17:Info:= { body:=(Tryz.f17.body).getD .skip,nt:=32,results:=[.tmp 2],keep:=[0,4,6,8,30,63],live:=[(3,[0,6,8])],modes:=[(3,[(4,.take,false)])] }
theorem fk17:FnOk Tryz.prog 17 Tryz.f17 I17:=by refine⟨Tryz.func17,?_,?_,?_,?_⟩<;>kernel_rfl
def xMG(x0:List Int)(x3 x4:Int):St:=[(0,.v false [.sl .ro .byte x0]),(6,.v false [.int .i64 x3]),(8,.v false [.int .i64 x4])]
abbrev xJm(v0:Int)(v1:List Int):Prop:=iY (dc (v0<(Ln v1:Int)))
abbrev xGP(v0:Int)(v1:List Int):Prop:=(0:Int)≤v0∧v0<(Ln v1)
def xP9(x0 x3 x4):rS 3 I17 (xMG x0 x3 x4) [Y,Y] []=st 3 I17 (xMG x0 (andI .i64 (W ((W ((W (x3*131))+(W ((gD x0 (tN x4) Ty.byte.dflt)))))+7)) 1073741823) (W (x4+1))) [xJm x4 x0,iY (dc (x4<4000)),xGP x4 x0]:=by kernel_rfl
def xQa(x0 x3 x4):rS 3 I17 (xMG x0 x3 x4) [Y,F] []=dn (xD4 (Cur.mk x0 0 x3)) [xJm x4 x0,iN (dc (x4<4000))]:=by kernel_rfl
def xQb(x0 x3 x4):rS 3 I17 (xMG x0 x3 x4) [F,F] []=dn (xD4 (Cur.mk x0 0 x3)) [iN (dc (x4<(Ln x0:Int))),iN false]:=by kernel_rfl
def xQc(a0):rE I17 (xF2 a0) [] []=st 3 I17 (xMG a0 (W (26583+(Ln a0:Int))) 0) []:=by kernel_rfl
theorem xTt{N:Nat}:∀n x0 x3 x4 r,xEB N n x0 x3 x4=some r→RS Tryz.f17 I17 3 (xMG x0 x3 x4) (xD4 r):=by
 intro n
 induction n with
 |zero=>exact fun _ _ _ _ h=>nE h
 |succ n ih=>
  exact fun x0 x3 x4 r h=>cE h (fun h0 h=>cE h (fun h1 h=>iE h fun h2 h=>tS fk17 (xP9 x0 x3 x4) (oc3 h0 h1 h2 on) (ih _ _ _ _ h)) fun h1 h=>dS h fk17 (xQa x0 x3 x4) (oc2 h0 h1 on)) fun h0 h=>dS h fk17 (xQb x0 x3 x4) (oc2 h0 rfl on)
theorem xTu{N:Nat}:∀a0 r,xF6 N a0=some r→RE Tryz.f17 I17 (xF2 a0) (xD4 r):=fun a0 r h=>tE fk17 (xQc a0) on (xTt _ _ _ _ _ h)
theorem xKL{N:Nat}{a0:List Int}{r:Cur}(h:xF6 N  a0=some r):AbC 17 (xF2 a0) (xD4 r):=
 AbsCalls.of_reach fk17 rfl rfl rfl (jL rfl) (xTu a0 r h)
noncomputable def I53:Info:= { body:=(Tryz.f53.body).getD .skip,nt:=58,results:=[.tmp 2],keep:=[0,4,6,68,1],live:=[],modes:=[],ext:=[0] }
theorem fk53:FnOk Tryz.prog 53 Tryz.f53 I53:=by refine⟨Tryz.func53,?_,?_,?_,?_⟩<;>kernel_rfl
abbrev xNB(v0:Cur):=andI .i64 (xorI .i64 (Int.fdiv (W ((W (v0.h*6364136223846793005))+1442695040888963407)) ((2:Int) ^ (tN 33))) (Int.fdiv (W ((W (v0.h*6364136223846793005))+1442695040888963407)) ((2:Int) ^ (tN 45)))) 255
abbrev xNA(v0:Cur):=W ((W (v0.h*6364136223846793005))+1442695040888963407)
def xRE(a0):rE I53 (xC1 a0) [Y] []=dn (xB3 ((andI .i64 (W ((xNB a0)+(W ((gD a0.b (tN a0.i) Ty.byte.dflt))))) 255),(Cur.mk a0.b (W (a0.i+1)) (xNA a0)))) [(0:Int)≤33∧(33:Int)<64,(0:Int)≤45∧(45:Int)<64,iY (dc (a0.i<(Ln a0.b:Int))),(0:Int)≤a0.i∧a0.i<(Ln a0.b)]:=by kernel_rfl
def xRF(a0):rE I53 (xC1 a0) [F] []=dn (xB3 ((xNB a0),(Cur.mk a0.b a0.i (xNA a0)))) [(0:Int)≤33∧(33:Int)<64,(0:Int)≤45∧(45:Int)<64,iN (dc (a0.i<(Ln a0.b:Int)))]:=by kernel_rfl
theorem xUc{N:Nat}:∀a0 r,xD3 N a0=some r→RE Tryz.f53 I53 (xC1 a0) (xB3 r):=fun a0 r h=>cE h (fun h2 h=>iE h fun h3 h=>dE h fk53 (xRE a0) (oc4 (by decide) (by decide) h2 h3 on)) fun h2 h=>dE h fk53 (xRF a0) (oc3 (by decide) (by decide) h2 on)
theorem xEP{N:Nat}{a0:Cur}{r:Int×Cur}(h:xD3 N  a0=some r):AbC 53 (xC1 a0) (xB3 r):=
 AbsCalls.of_reach fk53 rfl rfl rfl (jL rfl) (xUc a0 r h)
noncomputable def I33:Info:= { body:=(Tryz.f33.body).getD .skip,nt:=37,results:=[.tmp 4],keep:=[0,2,8,10,12,14,16,20,24,1],live:=[],modes:=[(9,[(0,.take,false),(2,.take,false),(5,.take,false),(8,.take,false)])],ext:=[0] }
theorem fk33:FnOk Tryz.prog 33 Tryz.f33 I33:=by refine⟨Tryz.func33,?_,?_,?_,?_⟩<;>kernel_rfl
def xQS(a0 a1):rE I33 (xC3 a0 a1) [Y] []=dn (xCe (0,a0)) [iY (dc (a1≤0))]:=by kernel_rfl
def xQT(a0 a1 r1):rE I33 (xC3 a0 a1) [F,Y] [xB3 r1]=dn (xCe ((Int.tmod r1.1 a1),r1.2)) [iN (dc (a1≤0)),iY (dc (a1≤256)),AbC 53 (xC1 a0) (xB3 r1),a1≠(0:Int)]:=by kernel_rfl
def xQU(a0 a1 r1 r2 r3 r4):rE I33 (xC3 a0 a1) [F,F] [xB3 r1,xB3 r2,xB3 r3,xB3 r4]=dn (xCe ((Int.tmod (W ((W ((W ((W (r1.1*16777216))+(W (r2.1*65536))))+(W (r3.1*256))))+r4.1)) a1),r4.2)) [iN (dc (a1≤0)),iN (dc (a1≤256)),AbC 53 (xC1 a0) (xB3 r1),AbC 53 (xC1 r1.2) (xB3 r2),AbC 53 (xC1 r2.2) (xB3 r3),AbC 53 (xC1 r3.2) (xB3 r4),a1≠(0:Int)]:=by kernel_rfl
theorem xTP{N:Nat}:∀a0 a1 r,xDf N a0 a1=some r→RE Tryz.f33 I33 (xC3 a0 a1) (xCe r):=fun a0 a1 r h=>cE h (fun h0 h=>dE h fk33 (xQS a0 a1) (oc h0 on)) fun h0 h=>cE h (fun h1 h=>bE h fun r1 h2 h=>iE h fun h3 h=>dE h fk33 (xQT a0 a1 r1) (oc4 h0 h1 (xEP h2) h3 on)) fun h1 h=>bE h fun r1 h2 h=>bE h fun r2 h3 h=>bE h fun r3 h4 h=>bE h fun r4 h5 h=>iE h fun h6 h=>dE h fk33 (xQU a0 a1 r1 r2 r3 r4) (oc7 h0 h1 (xEP h2) (xEP h3) (xEP h4) (xEP h5) h6 on)
theorem xGl{N:Nat}{a0:Cur}{a1:Int}{r:Int×Cur}(h:xDf N  a0 a1=some r):AbC 33 (xC3 a0 a1) (xCe r):=
 AbsCalls.of_reach fk33 rfl rfl rfl (jL rfl) (xTP a0 a1 r h)
noncomputable def I18:Info:= { body:=(Tryz.f18.body).getD .skip,nt:=23,results:=[.tmp 2],keep:=[0,4,6,8,10,22,1],live:=[(4,[0,6,8,10,1])],modes:=[(4,[(1,.take,false)]),(6,[(0,.take,false)]),(7,[(0,.take,false)])],ext:=[0] }
theorem fk18:FnOk Tryz.prog 18 Tryz.f18 I18:=by refine⟨Tryz.func18,?_,?_,?_,?_⟩<;>kernel_rfl
def xNf(x3:List Org)(x4 x5:Int)(b0:Cur):St:=[(0,.v false [.ptr 0 0]),(6,.v false [.sl .own .org x3]),(8,.v false [.int .i64 x4]),(10,.v false [.int .i64 x5]),(1,.v true (Cu .ro b0))]
def xQd(x3 x4 x5 b0 r1 r2):rS 4 I18 (xNf x3 x4 x5 b0) [Y] [xCe r1,xCe r2]=st 4 I18 (xNf (x3++ [(Org.mk r1.1 r2.1)]) x4 (W (x5+1)) r2.2) [xDm x5 x4,AbC 33 (xC3 b0 3) (xCe r1),AbC 33 (xC3 r1.2 4) (xCe r2),Ln x3+Ln [(Org.mk r1.1 r2.1)]≤Lim]:=by kernel_rfl
def xQe(x3 x4 x5 b0):rS 4 I18 (xNf x3 x4 x5 b0) [F] []=dn (xDh (x3,b0)) [xE1 x5 x4]:=by kernel_rfl
def xQf(a0 r1):rE I18 (xES a0) [] [xCe r1]=st 4 I18 (xNf [] r1.1 0 r1.2) [AbC 33 (xC3 a0 6) (xCe r1)]:=by kernel_rfl
theorem xTv{N:Nat}:∀n x3 x4 x5 b0 r,xEe N n x3 x4 x5 b0=some r→RS Tryz.f18 I18 4 (xNf x3 x4 x5 b0) (xDh r):=by
 intro n
 induction n with
 |zero=>exact fun _ _ _ _ _ h=>nE h
 |succ n ih=>
  exact fun x3 x4 x5 b0 r h=>cE h (fun h0 h=>bE h fun r1 h1 h=>bE h fun r2 h2 h=>iE h fun h3 h=>tS fk18 (xQd x3 x4 x5 b0 r1 r2) (oc4 h0 (xGl h1) (xGl h2) h3 on) (ih _ _ _ _ _ h)) fun h0 h=>dS h fk18 (xQe x3 x4 x5 b0) (oc h0 on)
theorem xTw{N:Nat}:∀a0 r,xFy N a0=some r→RE Tryz.f18 I18 (xES a0) (xDh r):=fun a0 r h=>bE h fun r1 h0 h=>tE fk18 (xQf a0 r1) (oc (xGl h0) on) (xTv _ _ _ _ _ _ h)
theorem xHA{N:Nat}{a0:Cur}{r:(List Org)×Cur}(h:xFy N  a0=some r):AbC 18 (xES a0) (xDh r):=
 AbsCalls.of_reach fk18 rfl rfl rfl (jL rfl) (xTw a0 r h)
noncomputable def I5:Info:= { body:=(Tryz.f5.body).getD .skip,nt:=11,results:=[.tmp 2,.tmp 3],keep:=[0,4,6,8,13],live:=[],modes:=[] }
theorem fk5:FnOk Tryz.prog 5 Tryz.f5 I5:=by refine⟨Tryz.func5,?_,?_,?_,?_⟩<;>kernel_rfl
def xST(a0 r1 r2 r3):rE I5 (xC7 a0) [] [xD4 r1,xDh r2,xDh r3]=dn (xAR (r2.1,r3.1)) [AbC 17 (xF2 a0) (xD4 r1),AbC 18 (xES r1) (xDh r2),AbC 18 (xES r2.2) (xDh r3)]:=by kernel_rfl
theorem c5_e{N:Nat}:∀a0 r,xCA N a0=some r→RE Tryz.f5 I5 (xC7 a0) (xAR r):=fun a0 r h=>bE h fun r1 h0 h=>bE h fun r2 h1 h=>bE h fun r3 h2 h=>dE h fk5 (xST a0 r1 r2 r3) (oc3 (xKL h0) (xHA h1) (xHA h2) on)
theorem xBv{N:Nat}{a0:List Int}{r:(List Org)×(List Org)}(h:xCA N  a0=some r):AbC 5 (xC7 a0) (xAR r):=
 AbsCalls.of_reach fk5 rfl rfl rfl (jL rfl) (c5_e a0 r h)
theorem xAs{N:Nat}{a0 a1 r:List Org}(h:xBY N a0 a1=some r):AbC 6 (xBp a0 a1) (xAk r):=xPv h
noncomputable def I40:Info:= { body:=(Tryz.f40.body).getD .skip,nt:=24,results:=[.tmp 4],keep:=[0,2,4,6,8,5,7],live:=[],modes:=[(1,[(5,.take,false),(11,.take,false)])] }
theorem fk40:FnOk Tryz.prog 40 Tryz.f40 I40:=by refine⟨Tryz.func40,?_,?_,?_,?_⟩<;>kernel_rfl
def xQ5(a0 a1):rE I40 (xDa a0 a1) [Y] []=dn (xCt true) [iY (dc (a0.cell<a1.cell))]:=by kernel_rfl
def xQ6(a0 a1):rE I40 (xDa a0 a1) [F,Y] []=dn (xCt (dc (a0.row<a1.row))) [iN (dc (a0.cell<a1.cell)),iY (a0.cell==a1.cell)]:=by kernel_rfl
def xQ7(a0 a1):rE I40 (xDa a0 a1) [F,F] []=dn (xCt false) [iN (dc (a0.cell<a1.cell)),iN (a0.cell==a1.cell)]:=by kernel_rfl
theorem xTT{N:Nat}:∀a0 a1 r,xFf N a0 a1=some r→RE Tryz.f40 I40 (xDa a0 a1) (xCt r):=fun a0 a1 r h=>cE h (fun h0 h=>dE h fk40 (xQ5 a0 a1) (oc h0 on)) fun h0 h=>cE h (fun h1 h=>dE h fk40 (xQ6 a0 a1) (oc2 h0 h1 on)) fun h1 h=>dE h fk40 (xQ7 a0 a1) (oc2 h0 h1 on)
theorem xG8{N:Nat}{a0:Org}{a1:Org}{r:Bool}(h:xFf N  a0 a1=some r):AbC 40 (xDa a0 a1) (xCt r):=
 AbsCalls.of_reach fk40 rfl rfl rfl (jL rfl) (xTT a0 a1 r h)
noncomputable def I24:Info:= { body:=(Tryz.f24.body).getD .skip,nt:=49,results:=[.tmp 4],keep:=[0,2,6,8,10,12,14,24,40,60,86,7],live:=[(4,[0,6,10,12,14,7])],modes:=[(8,[(2,.take,false)]),(9,[(0,.take,false)]),(11,[(0,.take,false)]),(13,[(0,.take,false)]),(14,[(0,.take,false)])] }
theorem fk24:FnOk Tryz.prog 24 Tryz.f24 I24:=by refine⟨Tryz.func24,?_,?_,?_,?_⟩<;>kernel_rfl
def xIf(x0 x5:List Org)(x6:Bool)(x7:Int)(b3:Org):St:=[(0,.v false [.sl .ro .org x0]),(6,.v false [.ptr 3 0]),(10,.v false [.sl .own .org x5]),(12,.v false [.bool x6]),(14,.v false [.int .i64 x7]),(7,.v true [.int .i64 b3.cell,.int .i64 b3.row])]
abbrev xIb(v0:Int)(v1:List Org):Prop:=iY (dc (v0<(Ln v1:Int)))
abbrev xNE(v0:List Org)(v1:Int)(v2:Org):=(((Org.cell (gD v0 (tN v1) Ty.org.dflt)):Int)==v2.cell)&&(((Org.row (gD v0 (tN v1) Ty.org.dflt)):Int)==v2.row)
abbrev xPy(v0:List Org)(v1:Int)(v2:Org):Prop:=iY (xNE v0 v1 v2)
def xQl(x0 x5 x6 x7 b3):rS 4 I24 (xIf x0 x5 x6 x7 b3) [Y,Y,F,F] []=st 4 I24 (xIf x0 (x5++ [(xEG x0 x7)]) true (W (x7+1)) b3) [xIb x7 x0,xFU x7 x0,xPy x0 x7 b3,iN (!true),iN false,xFU x7 x0,Ln x5+Ln [(xEG x0 x7)]≤Lim]:=by kernel_rfl
abbrev xMn(v0:List Org)(v1:Int)(v2:Org):Prop:=iN (xNE v0 v1 v2)
def xQm(x0 x5 x6 x7 b3 r1):rS 4 I24 (xIf x0 x5 x6 x7 b3) [Y,F,Y,Y] [xCt r1]=st 4 I24 (xIf x0 ((x5++ [b3])++ [(xEG x0 x7)]) true (W (x7+1)) b3) [xIb x7 x0,xFU x7 x0,xMn x0 x7 b3,iY (!x6),xFU x7 x0,AbC 40 (xDa b3 (xEG x0 x7)) (xCt r1),iY r1,Ln x5+Ln [b3]≤Lim,xFU x7 x0,Ln (x5++ [b3])+Ln [(xEG x0 x7)]≤Lim]:=by kernel_rfl
def xQn(x0 x5 x6 x7 b3 r1):rS 4 I24 (xIf x0 x5 x6 x7 b3) [Y,F,Y,F] [xCt r1]=st 4 I24 (xIf x0 (x5++ [(xEG x0 x7)]) x6 (W (x7+1)) b3) [xIb x7 x0,xFU x7 x0,xMn x0 x7 b3,iY (!x6),xFU x7 x0,AbC 40 (xDa b3 (xEG x0 x7)) (xCt r1),iN r1,xFU x7 x0,Ln x5+Ln [(xEG x0 x7)]≤Lim]:=by kernel_rfl
def xQo(x0 x5 x6 x7 b3):rS 4 I24 (xIf x0 x5 x6 x7 b3) [Y,F,F,F] []=st 4 I24 (xIf x0 (x5++ [(xEG x0 x7)]) x6 (W (x7+1)) b3) [xIb x7 x0,xFU x7 x0,xMn x0 x7 b3,iN (!x6),iN false,xFU x7 x0,Ln x5+Ln [(xEG x0 x7)]≤Lim]:=by kernel_rfl
abbrev xKU(v0:Int)(v1:List Org):Prop:=iN (dc (v0<(Ln v1:Int)))
def xQp(x0 x5 x6 x7 b3):rS 4 I24 (xIf x0 x5 x6 x7 b3) [F,Y] []=dn (xDd (x5++ [b3])) [xKU x7 x0,iY (!x6),Ln x5+Ln [b3]≤Lim]:=by kernel_rfl
def xQq(x0 x5 x6 x7 b3):rS 4 I24 (xIf x0 x5 x6 x7 b3) [F,F] []=dn (xDd x5) [xKU x7 x0,iN (!x6)]:=by kernel_rfl
def xQr(a0 a1):rE I24 (xFh a0 a1) [] []=st 4 I24 (xIf a0 [] false 0 a1) []:=by kernel_rfl
theorem xTA{N:Nat}:∀n x0 x5 x6 x7 b3 r,xCu N n x0 x5 x6 x7 b3=some r→RS Tryz.f24 I24 4 (xIf x0 x5 x6 x7 b3) (xDd r):=by
 intro n
 induction n with
 |zero=>exact fun _ _ _ _ _ _ h=>nE h
 |succ n ih=>
  exact fun x0 x5 x6 x7 b3 r h=>cE h (fun h0 h=>iE h fun h1 h=>cE h (fun h2 h=>iE h fun h6 h=>tS fk24 (xQl x0 x5 x6 x7 b3) (oc7 h0 h1 h2 rfl rfl h1 h6 on) (ih _ _ _ _ _ _ h)) fun h2 h=>cE h (fun h3 h=>bE h fun r1 h5 h=>cE h (fun h6 h=>iE h fun h7 h=>iE h fun h9 h=>tS fk24 (xQm x0 x5 x6 x7 b3 r1) (oc10 h0 h1 h2 h3 h1 (xG8 h5) h6 h7 h1 h9 on) (ih _ _ _ _ _ _ h)) fun h6 h=>iE h fun h8 h=>tS fk24 (xQn x0 x5 x6 x7 b3 r1) (oc9 h0 h1 h2 h3 h1 (xG8 h5) h6 h1 h8 on) (ih _ _ _ _ _ _ h)) fun h3 h=>iE h fun h6 h=>tS fk24 (xQo x0 x5 x6 x7 b3) (oc7 h0 h1 h2 h3 rfl h1 h6 on) (ih _ _ _ _ _ _ h)) fun h0 h=>cE h (fun h1 h=>iE h fun h2 h=>dS h fk24 (xQp x0 x5 x6 x7 b3) (oc3 h0 h1 h2 on)) fun h1 h=>dS h fk24 (xQq x0 x5 x6 x7 b3) (oc2 h0 h1 on)
theorem xTB{N:Nat}:∀a0 a1 r,xGT N a0 a1=some r→RE Tryz.f24 I24 (xFh a0 a1) (xDd r):=fun a0 a1 r h=>tE fk24 (xQr a0 a1) on (xTA _ _ _ _ _ _ _ h)
theorem xHX{N:Nat}{a0:List Org}{a1:Org}{r:(List Org)}(h:xGT N  a0 a1=some r):AbC 24 (xFh a0 a1) (xDd r):=
 AbsCalls.of_reach fk24 rfl rfl rfl (jL rfl) (xTB a0 a1 r h)
noncomputable def I8:Info:= { body:=(Tryz.f8.body).getD .skip,nt:=34,results:=[.tmp 4],keep:=[0,2,8,10,12,14,24,48],live:=[(3,[0,2,10,12]),(7,[2,10,14])],modes:=[(10,[(0,.take,false)])] }
theorem fk8:FnOk Tryz.prog 8 Tryz.f8 I8:=by refine⟨Tryz.func8,?_,?_,?_,?_⟩<;>kernel_rfl
def S8_3(x0 x1 x5:List Org)(x6:Int):St:=[(0,.v false [.sl .ro .org x0]),(2,.v false [.sl .ro .org x1]),(10,.v false [.sl .own .org x5]),(12,.v false [.int .i64 x6])]
def S8_7(x1 x5:List Org)(x7:Int):St:=[(2,.v false [.sl .ro .org x1]),(10,.v false [.sl .own .org x5]),(14,.v false [.int .i64 x7])]
def xSX(x1 x5 x7 r1):rS 7 I8 (S8_7 x1 x5 x7) [Y] [xDd r1]=st 7 I8 (S8_7 x1 r1 (W (x7+1))) [xIb x7 x1,xFU x7 x1,AbC 24 (xFh x5 (xEG x1 x7)) (xDd r1)]:=by kernel_rfl
def xSY(x1 x5 x7):rS 7 I8 (S8_7 x1 x5 x7) [F] []=dn (xA2 x5) [xKU x7 x1]:=by kernel_rfl
def xSV(x0 x1 x5 x6 r1):rS 3 I8 (S8_3 x0 x1 x5 x6) [Y] [xDd r1]=st 3 I8 (S8_3 x0 x1 r1 (W (x6+1))) [xIb x6 x0,xFU x6 x0,AbC 24 (xFh x5 (xEG x0 x6)) (xDd r1)]:=by kernel_rfl
def xSW(x0 x1 x5 x6):rS 3 I8 (S8_3 x0 x1 x5 x6) [F] []=st 7 I8 (S8_7 x1 x5 0) [xKU x6 x0]:=by kernel_rfl
def xSZ(a0 a1):rE I8 (xDM a0 a1) [] []=st 3 I8 (S8_3 a0 a1 [] 0) []:=by kernel_rfl
theorem c8_7{N:Nat}:∀n x1 x5 x7 r,xCL N n x1 x5 x7=some r→RS Tryz.f8 I8 7 (S8_7 x1 x5 x7) (xA2 r):=by
 intro n
 induction n with
 |zero=>exact fun _ _ _ _ h=>nE h
 |succ n ih=>
  exact fun x1 x5 x7 r h=>cE h (fun h0 h=>iE h fun h1 h=>bE h fun r1 h2 h=>tS fk8 (xSX x1 x5 x7 r1) (oc3 h0 h1 (xHX h2) on) (ih _ _ _ _ h)) fun h0 h=>dS h fk8 (xSY x1 x5 x7) (oc h0 on)
theorem c8_3{N:Nat}:∀n x0 x1 x5 x6 r,xCK N n x0 x1 x5 x6=some r→RS Tryz.f8 I8 3 (S8_3 x0 x1 x5 x6) (xA2 r):=by
 intro n
 induction n with
 |zero=>exact fun _ _ _ _ _ h=>nE h
 |succ n ih=>
  exact fun x0 x1 x5 x6 r h=>cE h (fun h0 h=>iE h fun h1 h=>bE h fun r1 h2 h=>tS fk8 (xSV x0 x1 x5 x6 r1) (oc3 h0 h1 (xHX h2) on) (ih _ _ _ _ _ h)) fun h0 h=>tS fk8 (xSW x0 x1 x5 x6) (oc h0 on) (c8_7 _ _ _ _ _ h)
theorem c8_e{N:Nat}:∀a0 a1 r,xDQ N a0 a1=some r→RE Tryz.f8 I8 (xDM a0 a1) (xA2 r):=fun a0 a1 r h=>tE fk8 (xSZ a0 a1) on (c8_3 _ _ _ _ _ _ h)
theorem xBW{N:Nat}{a0:List Org}{a1:List Org}{r:(List Org)}(h:xDQ N  a0 a1=some r):AbC 8 (xDM a0 a1) (xA2 r):=
 AbsCalls.of_reach fk8 rfl rfl rfl (jL rfl) (c8_e a0 a1 r h)
noncomputable def I23:Info:= { body:=(Tryz.f23.body).getD .skip,nt:=7,results:=[.cell 2 33],keep:=[0,4,5],live:=[],modes:=[] }
theorem fk23:FnOk Tryz.prog 23 Tryz.f23 I23:=by refine⟨Tryz.func23,?_,?_,?_,?_⟩<;>kernel_rfl
def xQk(a0):rE I23 (xFe a0) [] []=dn (xDZ (Val.mk 0 0 0 [] [] [] [(Rowd.mk [] a0)])) []:=by kernel_rfl
theorem xTz{N:Nat}:∀a0 r,xGO N a0=some r→RE Tryz.f23 I23 (xFe a0) (xDZ r):=fun a0 r h=>dE h fk23 (xQk a0) on
theorem xHO{N:Nat}{a0:List Org}{r:Val}(h:xGO N  a0=some r):AbC 23 (xFe a0) (xDZ r):=
 AbsCalls.of_reach fk23 rfl rfl rfl (jL rfl) (xTz a0 r h)
noncomputable def I73:Info:= { body:=(Tryz.f73.body).getD .skip,nt:=26,results:=[.tmp 4],keep:=[0,2,8,10,20,28,50],live:=[(4,[0,2,10])],modes:=[] }
theorem fk73:FnOk Tryz.prog 73 Tryz.f73 I73:=by refine⟨Tryz.func73,?_,?_,?_,?_⟩<;>kernel_rfl
def xML(x0 x1:List Str)(x5:Int):St:=[(0,.v false [.sl .ro .str x0]),(2,.v false [.sl .ro .str x1]),(10,.v false [.int .i64 x5])]
abbrev xHx(v0:Int)(v1:List Str):Prop:=(0:Int)≤v0∧v0<(Ln v1)
abbrev xGC(v0:List Str)(v1:Int):=gD v0 (tN v1) Ty.str.dflt
def xRG(x0 x1 x5):rS 4 I73 (xML x0 x1 x5) [Y,Y] []=dn (xB6 false) [iY (dc (x5<(Ln x0:Int))),xHx x5 x0,xHx x5 x1,iY (!(((xGC x0 x5):Str)==(xGC x1 x5)))]:=by kernel_rfl
def xRH(x0 x1 x5):rS 4 I73 (xML x0 x1 x5) [Y,F] []=st 4 I73 (xML x0 x1 (W (x5+1))) [iY (dc (x5<(Ln x0:Int))),xHx x5 x0,xHx x5 x1,iN (!(((xGC x0 x5):Str)==(xGC x1 x5)))]:=by kernel_rfl
def xRI(x0 x1 x5):rS 4 I73 (xML x0 x1 x5) [F] []=dn (xB6 true) [iN (dc (x5<(Ln x0:Int)))]:=by kernel_rfl
def xRJ(a0 a1):rE I73 (xDv a0 a1) [Y] []=dn (xB6 false) [iY ((Ln a0:Int) != (Ln a1:Int))]:=by kernel_rfl
def xRK(a0 a1):rE I73 (xDv a0 a1) [F] []=st 4 I73 (xML a0 a1 0) [iN ((Ln a0:Int) != (Ln a1:Int))]:=by kernel_rfl
theorem xUd{N:Nat}:∀n x0 x1 x5 r,xDR N n x0 x1 x5=some r→RS Tryz.f73 I73 4 (xML x0 x1 x5) (xB6 r):=by
 intro n
 induction n with
 |zero=>exact fun _ _ _ _ h=>nE h
 |succ n ih=>
  exact fun x0 x1 x5 r h=>cE h (fun h0 h=>iE h fun h1 h=>iE h fun h2 h=>cE h (fun h3 h=>dS h fk73 (xRG x0 x1 x5) (oc4 h0 h1 h2 h3 on)) fun h3 h=>tS fk73 (xRH x0 x1 x5) (oc4 h0 h1 h2 h3 on) (ih _ _ _ _ h)) fun h0 h=>dS h fk73 (xRI x0 x1 x5) (oc h0 on)
theorem xUe{N:Nat}:∀a0 a1 r,xFJ N a0 a1=some r→RE Tryz.f73 I73 (xDv a0 a1) (xB6 r):=fun a0 a1 r h=>cE h (fun h0 h=>dE h fk73 (xRJ a0 a1) (oc h0 on)) fun h0 h=>tE fk73 (xRK a0 a1) (oc h0 on) (xUd _ _ _ _ _ h)
theorem xGo{N:Nat}{a0:List Str}{a1:List Str}{r:Bool}(h:xFJ N  a0 a1=some r):AbC 73 (xDv a0 a1) (xB6 r):=
 AbsCalls.of_reach fk73 rfl rfl rfl (jL rfl) (xUe a0 a1 r h)
noncomputable def I74:Info:= { body:=(Tryz.f74.body).getD .skip,nt:=26,results:=[.tmp 4],keep:=[0,2,8,10,20,28,50],live:=[(4,[0,2,10])],modes:=[] }
theorem fk74:FnOk Tryz.prog 74 Tryz.f74 I74:=by refine⟨Tryz.func74,?_,?_,?_,?_⟩<;>kernel_rfl
def xMM(x0 x1:List Int)(x5:Int):St:=[(0,.v false [.sl .ro .int x0]),(2,.v false [.sl .ro .int x1]),(10,.v false [.int .i64 x5])]
abbrev xJI(v0:List Int)(v1:Int)(v2:List Int):=(gD v0 (tN v1) Ty.int.dflt) != (gD v2 (tN v1) Ty.int.dflt)
def xRL(x0 x1 x5):rS 4 I74 (xMM x0 x1 x5) [Y,Y] []=dn (xCo false) [xJm x5 x0,xGP x5 x0,xGP x5 x1,iY (xJI x0 x5 x1)]:=by kernel_rfl
def xRM(x0 x1 x5):rS 4 I74 (xMM x0 x1 x5) [Y,F] []=st 4 I74 (xMM x0 x1 (W (x5+1))) [xJm x5 x0,xGP x5 x0,xGP x5 x1,iN (xJI x0 x5 x1)]:=by kernel_rfl
def xRN(x0 x1 x5):rS 4 I74 (xMM x0 x1 x5) [F] []=dn (xCo true) [iN (dc (x5<(Ln x0:Int)))]:=by kernel_rfl
def xRO(a0 a1):rE I74 (xEQ a0 a1) [Y] []=dn (xCo false) [iY ((Ln a0:Int) != (Ln a1:Int))]:=by kernel_rfl
def xRP(a0 a1):rE I74 (xEQ a0 a1) [F] []=st 4 I74 (xMM a0 a1 0) [iN ((Ln a0:Int) != (Ln a1:Int))]:=by kernel_rfl
theorem xUf{N:Nat}:∀n x0 x1 x5 r,xEc N n x0 x1 x5=some r→RS Tryz.f74 I74 4 (xMM x0 x1 x5) (xCo r):=by
 intro n
 induction n with
 |zero=>exact fun _ _ _ _ h=>nE h
 |succ n ih=>
  exact fun x0 x1 x5 r h=>cE h (fun h0 h=>iE h fun h1 h=>iE h fun h2 h=>cE h (fun h3 h=>dS h fk74 (xRL x0 x1 x5) (oc4 h0 h1 h2 h3 on)) fun h3 h=>tS fk74 (xRM x0 x1 x5) (oc4 h0 h1 h2 h3 on) (ih _ _ _ _ h)) fun h0 h=>dS h fk74 (xRN x0 x1 x5) (oc h0 on)
theorem xUg{N:Nat}:∀a0 a1 r,xGm N a0 a1=some r→RE Tryz.f74 I74 (xEQ a0 a1) (xCo r):=fun a0 a1 r h=>cE h (fun h0 h=>dE h fk74 (xRO a0 a1) (oc h0 on)) fun h0 h=>tE fk74 (xRP a0 a1) (oc h0 on) (xUf _ _ _ _ _ h)
theorem xFC{N:Nat}{a0:List Int}{a1:List Int}{r:Bool}(h:xGm N  a0 a1=some r):AbC 74 (xEQ a0 a1) (xCo r):=
 AbsCalls.of_reach fk74 rfl rfl rfl (jL rfl) (xUg a0 a1 r h)
noncomputable def I75:Info:= { body:=(Tryz.f75.body).getD .skip,nt:=26,results:=[.tmp 4],keep:=[0,2,8,10,20,28,50],live:=[(4,[0,2,10])],modes:=[] }
theorem fk75:FnOk Tryz.prog 75 Tryz.f75 I75:=by refine⟨Tryz.func75,?_,?_,?_,?_⟩<;>kernel_rfl
def xMN(x0 x1:List Org)(x5:Int):St:=[(0,.v false [.sl .ro .org x0]),(2,.v false [.sl .ro .org x1]),(10,.v false [.int .i64 x5])]
abbrev xNF(v0:List Org)(v1:Int)(v2:List Org):=(((Org.cell (gD v0 (tN v1) Ty.org.dflt)):Int)==(Org.cell (gD v2 (tN v1) Ty.org.dflt)))&&(((Org.row (gD v0 (tN v1) Ty.org.dflt)):Int)==(Org.row (gD v2 (tN v1) Ty.org.dflt)))
def xRQ(x0 x1 x5):rS 4 I75 (xMN x0 x1 x5) [Y,Y] []=dn (xB9 false) [xIb x5 x0,xFU x5 x0,xFU x5 x1,iY (!(xNF x0 x5 x1))]:=by kernel_rfl
def xRR(x0 x1 x5):rS 4 I75 (xMN x0 x1 x5) [Y,F] []=st 4 I75 (xMN x0 x1 (W (x5+1))) [xIb x5 x0,xFU x5 x0,xFU x5 x1,iN (!(xNF x0 x5 x1))]:=by kernel_rfl
def xRS(x0 x1 x5):rS 4 I75 (xMN x0 x1 x5) [F] []=dn (xB9 true) [xKU x5 x0]:=by kernel_rfl
def xRT(a0 a1):rE I75 (xDo a0 a1) [Y] []=dn (xB9 false) [iY ((Ln a0:Int) != (Ln a1:Int))]:=by kernel_rfl
def xRU(a0 a1):rE I75 (xDo a0 a1) [F] []=st 4 I75 (xMN a0 a1 0) [iN ((Ln a0:Int) != (Ln a1:Int))]:=by kernel_rfl
theorem xUh{N:Nat}:∀n x0 x1 x5 r,xDp N n x0 x1 x5=some r→RS Tryz.f75 I75 4 (xMN x0 x1 x5) (xB9 r):=by
 intro n
 induction n with
 |zero=>exact fun _ _ _ _ h=>nE h
 |succ n ih=>
  exact fun x0 x1 x5 r h=>cE h (fun h0 h=>iE h fun h1 h=>iE h fun h2 h=>cE h (fun h3 h=>dS h fk75 (xRQ x0 x1 x5) (oc4 h0 h1 h2 h3 on)) fun h3 h=>tS fk75 (xRR x0 x1 x5) (oc4 h0 h1 h2 h3 on) (ih _ _ _ _ h)) fun h0 h=>dS h fk75 (xRS x0 x1 x5) (oc h0 on)
theorem xUi{N:Nat}:∀a0 a1 r,xER N a0 a1=some r→RE Tryz.f75 I75 (xDo a0 a1) (xB9 r):=fun a0 a1 r h=>cE h (fun h0 h=>dE h fk75 (xRT a0 a1) (oc h0 on)) fun h0 h=>tE fk75 (xRU a0 a1) (oc h0 on) (xUh _ _ _ _ _ h)
theorem xGS{N:Nat}{a0:List Org}{a1:List Org}{r:Bool}(h:xER N  a0 a1=some r):AbC 75 (xDo a0 a1) (xB9 r):=
 AbsCalls.of_reach fk75 rfl rfl rfl (jL rfl) (xUi a0 a1 r h)
def G39(q:Val→Val→Bool→Option (Bool)):Prop:=∀a0 a1 a2 r,q a0 a1 a2=some r→AbC 39 (xBU a0 a1 a2) (xA7 r)
noncomputable def I39:Info:= { body:=(Tryz.f39.body).getD .skip,nt:=121,results:=[.tmp 6],keep:=[0,2,4,6,8,12,14,16,120,130,160,170,240,7,9],live:=[(4,[4,6,8,14,7,9]),(9,[4,6,8,16,7,9])],modes:=[(1,[(5,.take,false),(12,.take,false),(19,.take,false),(26,.take,false),(35,.take,false),(43,.take,false)]),(11,[(14,.take,false),(16,.take,false)])] }
theorem fk39:FnOk Tryz.prog 39 Tryz.f39 I39:=by refine⟨Tryz.func39,?_,?_,?_,?_⟩<;>kernel_rfl
def xMI(x2:Bool)(x7:Int)(b3 b4:Val):St:=[(4,.v false [.bool x2]),(6,.v false [.ptr 3 0]),(8,.v false [.ptr 4 0]),(14,.v false [.int .i64 x7]),(7,.v true (Va .ro b3)),(9,.v true (Va .ro b4))]
def xJz(x2:Bool)(x8:Int)(b3 b4:Val):St:=[(4,.v false [.bool x2]),(6,.v false [.ptr 3 0]),(8,.v false [.ptr 4 0]),(16,.v false [.int .i64 x8]),(7,.v true (Va .ro b3)),(9,.v true (Va .ro b4))]
abbrev xD0(v0:Val):=(Ln v0.rows:Int)
abbrev xKV(v0:Int)(v1:Val):Prop:=iY (dc (v0<(xD0 v1)))
abbrev xGt(v0:Int)(v1:Val):Prop:=(0:Int)≤v0∧v0<(Ln v1.rows)
abbrev xJJ(v0:Val)(v1:Int):=gD v0.rows (tN v1) rd
abbrev xMo(v0:Val)(v1:Int)(v2:Val)(v3:Bool):Prop:=AbC 74 (xEQ (Rowd.cells (xJJ v0 v1)) (Rowd.cells (xJJ v2 v1))) (xCo v3)
def xQY(x2 x8 b3 b4 r1):rS 9 I39 (xJz x2 x8 b3 b4) [Y,Y,Y] [xCo r1]=dn (xA7 false) [xKV x8 b3,xGt x8 b3,xGt x8 b4,xMo b3 x8 b4 r1,iY (!r1),iY true]:=by kernel_rfl
abbrev xJK(v0:Val)(v1:Int):=Rowd.frm (gD v0.rows (tN v1) rd)
def xQZ(x2 x8 b3 b4 r1 r2):rS 9 I39 (xJz x2 x8 b3 b4) [Y,F,Y,Y] [xCo r1,xB9 r2]=dn (xA7 false) [xKV x8 b3,xGt x8 b3,xGt x8 b4,xMo b3 x8 b4 r1,iN (!r1),iY x2,xGt x8 b3,xGt x8 b4,AbC 75 (xDo (xJK b3 x8) (xJK b4 x8)) (xB9 r2),iY (!r2)]:=by kernel_rfl
def xQ0(x2 x8 b3 b4 r1 r2):rS 9 I39 (xJz x2 x8 b3 b4) [Y,F,Y,F] [xCo r1,xB9 r2]=st 9 I39 (xJz x2 (W (x8+1)) b3 b4) [xKV x8 b3,xGt x8 b3,xGt x8 b4,xMo b3 x8 b4 r1,iN (!r1),iY x2,xGt x8 b3,xGt x8 b4,AbC 75 (xDo (xJK b3 x8) (xJK b4 x8)) (xB9 r2),iN (!r2)]:=by kernel_rfl
def xQ1(x2 x8 b3 b4 r1):rS 9 I39 (xJz x2 x8 b3 b4) [Y,F,F,F] [xCo r1]=st 9 I39 (xJz x2 (W (x8+1)) b3 b4) [xKV x8 b3,xGt x8 b3,xGt x8 b4,xMo b3 x8 b4 r1,iN (!r1),iN x2,iN false]:=by kernel_rfl
def xQ2(x2 x8 b3 b4):rS 9 I39 (xJz x2 x8 b3 b4) [F] []=dn (xA7 true) [iN (dc (x8<(xD0 b3)))]:=by kernel_rfl
abbrev xKW(v0:Int)(v1:Val):Prop:=(0:Int)≤v0∧v0<(Ln v1.list)
abbrev xIC(v0:Int)(v1:Val):=dc (v0<(Ln v1.list:Int))
def xQV(x2 x7 b3 b4 r1):rS 4 I39 (xMI x2 x7 b3 b4) [Y,Y] [xA7 r1]=dn (xA7 false) [iY (xIC x7 b3),xKW x7 b3,xKW x7 b4,AbC 39 (xBU (gD b3.list (tN x7) vd) (gD b4.list (tN x7) vd) x2) (xA7 r1),iY (!r1)]:=by kernel_rfl
def xQW(x2 x7 b3 b4 r1):rS 4 I39 (xMI x2 x7 b3 b4) [Y,F] [xA7 r1]=st 4 I39 (xMI x2 (W (x7+1)) b3 b4) [iY (xIC x7 b3),xKW x7 b3,xKW x7 b4,AbC 39 (xBU (gD b3.list (tN x7) vd) (gD b4.list (tN x7) vd) x2) (xA7 r1),iN (!r1)]:=by kernel_rfl
def xQX(x2 x7 b3 b4):rS 4 I39 (xMI x2 x7 b3 b4) [F] []=st 9 I39 (xJz x2 0 b3 b4) [iN (xIC x7 b3)]:=by kernel_rfl
def xQ3(a0 a1 a2):rE I39 (xBU a0 a1 a2) [Y,Y,Y,Y,Y,Y,Y] []=dn (xA7 false) [iY (a0.kind != a1.kind),iY true,iY true,iY true,iY true,iY true,iY true]:=by kernel_rfl
abbrev xID(v0 v1:Val):Prop:=iN (v0.kind != v1.kind)
def xQ4(a0 a1 a2):rE I39 (xBU a0 a1 a2) [F,Y,Y,Y,Y,Y,Y] []=dn (xA7 false) [xID a0 a1,iY (a0.n != a1.n),iY true,iY true,iY true,iY true,iY true]:=by kernel_rfl
def xO1(a0 a1 a2):rE I39 (xBU a0 a1 a2) [F,F,Y,Y,Y,Y,Y] []=dn (xA7 false) [xID a0 a1,iN (a0.n != a1.n),iY (a0.step != a1.step),iY true,iY true,iY true,iY true]:=by kernel_rfl
def xO2(a0 a1 a2):rE I39 (xBU a0 a1 a2) [F,F,F,Y,Y,Y,Y] []=dn (xA7 false) [xID a0 a1,iN (a0.n != a1.n),iN (a0.step != a1.step),iY (!((a0.text:Str)==a1.text)),iY true,iY true,iY true]:=by kernel_rfl
abbrev xMp(v0 v1:Val):Prop:=iN (!((v0.text:Str)==v1.text))
abbrev xG0(v0:Val):=(Ln v0.list:Int)
def xO3(a0 a1 a2):rE I39 (xBU a0 a1 a2) [F,F,F,F,Y,Y,Y] []=dn (xA7 false) [xID a0 a1,iN (a0.n != a1.n),iN (a0.step != a1.step),xMp a0 a1,iY ((xG0 a0) != (xG0 a1)),iY true,iY true]:=by kernel_rfl
abbrev xNH(v0 v1:Val):Prop:=iN ((xG0 v0) != (xG0 v1))
def xO4(a0 a1 a2 r1):rE I39 (xBU a0 a1 a2) [F,F,F,F,F,Y,Y] [xB6 r1]=dn (xA7 false) [xID a0 a1,iN (a0.n != a1.n),iN (a0.step != a1.step),xMp a0 a1,xNH a0 a1,AbC 73 (xDv a0.columns a1.columns) (xB6 r1),iY (!r1),iY true]:=by kernel_rfl
def xO5(a0 a1 a2 r1):rE I39 (xBU a0 a1 a2) [F,F,F,F,F,F,Y] [xB6 r1]=dn (xA7 false) [xID a0 a1,iN (a0.n != a1.n),iN (a0.step != a1.step),xMp a0 a1,xNH a0 a1,AbC 73 (xDv a0.columns a1.columns) (xB6 r1),iN (!r1),iY ((xD0 a0) != (xD0 a1))]:=by kernel_rfl
def xO6(a0 a1 a2 r1):rE I39 (xBU a0 a1 a2) [F,F,F,F,F,F,F] [xB6 r1]=st 4 I39 (xMI a2 0 a0 a1) [xID a0 a1,iN (a0.n != a1.n),iN (a0.step != a1.step),xMp a0 a1,xNH a0 a1,AbC 73 (xDv a0.columns a1.columns) (xB6 r1),iN (!r1),iN ((xD0 a0) != (xD0 a1))]:=by kernel_rfl
theorem xTR{N q0}(g0:G39 q0):∀n x2 x8 b3 b4 r,xDg N q0 n x2 x8 b3 b4=some r→RS Tryz.f39 I39 9 (xJz x2 x8 b3 b4) (xA7 r):=by
 intro n
 induction n with
 |zero=>exact fun _ _ _ _ _ h=>nE h
 |succ n ih=>
  exact fun x2 x8 b3 b4 r h=>cE h (fun h0 h=>iE h fun h1 h=>iE h fun h2 h=>bE h fun r1 h3 h=>cE h (fun h4 h=>dS h fk39 (xQY x2 x8 b3 b4 r1) (oc6 h0 h1 h2 (xFC h3) h4 rfl on)) fun h4 h=>cE h (fun h5 h=>bE h fun r2 h8 h=>cE h (fun h9 h=>dS h fk39 (xQZ x2 x8 b3 b4 r1 r2) (oc10 h0 h1 h2 (xFC h3) h4 h5 h1 h2 (xGS h8) h9 on)) fun h9 h=>tS fk39 (xQ0 x2 x8 b3 b4 r1 r2) (oc10 h0 h1 h2 (xFC h3) h4 h5 h1 h2 (xGS h8) h9 on) (ih _ _ _ _ _ h)) fun h5 h=>tS fk39 (xQ1 x2 x8 b3 b4 r1) (oc7 h0 h1 h2 (xFC h3) h4 h5 rfl on) (ih _ _ _ _ _ h)) fun h0 h=>dS h fk39 (xQ2 x2 x8 b3 b4) (oc h0 on)
theorem xTQ{N q0}(g0:G39 q0):∀n x2 x7 b3 b4 r,xEd N q0 n x2 x7 b3 b4=some r→RS Tryz.f39 I39 4 (xMI x2 x7 b3 b4) (xA7 r):=by
 intro n
 induction n with
 |zero=>exact fun _ _ _ _ _ h=>nE h
 |succ n ih=>
  exact fun x2 x7 b3 b4 r h=>cE h (fun h0 h=>iE h fun h1 h=>iE h fun h2 h=>bE h fun r1 h3 h=>cE h (fun h4 h=>dS h fk39 (xQV x2 x7 b3 b4 r1) (oc5 h0 h1 h2 (g0 _ _ _ _ h3) h4 on)) fun h4 h=>tS fk39 (xQW x2 x7 b3 b4 r1) (oc5 h0 h1 h2 (g0 _ _ _ _ h3) h4 on) (ih _ _ _ _ _ h)) fun h0 h=>tS fk39 (xQX x2 x7 b3 b4) (oc h0 on) (xTR g0 _ _ _ _ _ _ h)
theorem xTS{N q0}(g0:G39 q0):∀a0 a1 a2 r,xD9 N q0 a0 a1 a2=some r→RE Tryz.f39 I39 (xBU a0 a1 a2) (xA7 r):=fun a0 a1 a2 r h=>cE h (fun h0 h=>dE h fk39 (xQ3 a0 a1 a2) (oc7 h0 rfl rfl rfl rfl rfl rfl on)) fun h0 h=>cE h (fun h1 h=>dE h fk39 (xQ4 a0 a1 a2) (oc7 h0 h1 rfl rfl rfl rfl rfl on)) fun h1 h=>cE h (fun h2 h=>dE h fk39 (xO1 a0 a1 a2) (oc7 h0 h1 h2 rfl rfl rfl rfl on)) fun h2 h=>cE h (fun h3 h=>dE h fk39 (xO2 a0 a1 a2) (oc7 h0 h1 h2 h3 rfl rfl rfl on)) fun h3 h=>cE h (fun h4 h=>dE h fk39 (xO3 a0 a1 a2) (oc7 h0 h1 h2 h3 h4 rfl rfl on)) fun h4 h=>bE h fun r1 h5 h=>cE h (fun h6 h=>dE h fk39 (xO4 a0 a1 a2 r1) (oc8 h0 h1 h2 h3 h4 (xGo h5) h6 rfl on)) fun h6 h=>cE h (fun h7 h=>dE h fk39 (xO5 a0 a1 a2 r1) (oc8 h0 h1 h2 h3 h4 (xGo h5) h6 h7 on)) fun h7 h=>tE fk39 (xO6 a0 a1 a2 r1) (oc8 h0 h1 h2 h3 h4 (xGo h5) h6 h7 on) (xTQ g0 _ _ _ _ _ _ h)
theorem xHJ{N q0}(g0:G39 q0){a0}{a1}{a2}{r}(h:xD9 N q0 a0 a1 a2=some r):AbC 39 (xBU a0 a1 a2) (xA7 r):=
 AbsCalls.of_reach fk39 rfl rfl rfl (jL rfl) (xTS g0 a0 a1 a2 r h)
theorem xGx{N:Nat}:∀d,G39 (xCq N d)
 |0=>fun _ _ _ _ h=>nE h
 |d+1=>fun _ _ _ _ h=>xHJ (N:=N) (xGx d) h
theorem xJg{N:Nat}{a0:Val}{a1:Val}{a2:Bool}{r:Bool}(h:xHI N a0 a1 a2=some r):AbC 39 (xBU a0 a1 a2) (xA7 r):=xGx N _ _ _ r h
noncomputable def I22:Info:= { body:=(Tryz.f22.body).getD .skip,nt:=8,results:=[.tmp 4],keep:=[0,2,4,6,8,5,7],live:=[],modes:=[] }
theorem fk22:FnOk Tryz.prog 22 Tryz.f22 I22:=by refine⟨Tryz.func22,?_,?_,?_,?_⟩<;>kernel_rfl
def xQj(a0 a1 r1):rE I22 (xEk a0 a1) [] [xA7 r1]=dn (xDG r1) [AbC 39 (xBU a0 a1 true) (xA7 r1)]:=by kernel_rfl
theorem xTy{N:Nat}:∀a0 a1 r,xEr N a0 a1=some r→RE Tryz.f22 I22 (xEk a0 a1) (xDG r):=fun a0 a1 r h=>bE h fun r1 h0 h=>dE h fk22 (xQj a0 a1 r1) (oc (xJg h0) on)
theorem xHV{N:Nat}{a0:Val}{a1:Val}{r:Bool}(h:xEr N  a0 a1=some r):AbC 22 (xEk a0 a1) (xDG r):=
 AbsCalls.of_reach fk22 rfl rfl rfl (jL rfl) (xTy a0 a1 r h)
noncomputable def I7:Info:= { body:=(Tryz.f7.body).getD .skip,nt:=10,results:=[.tmp 4],keep:=[0,2,8],live:=[],modes:=[] }
theorem fk7:FnOk Tryz.prog 7 Tryz.f7 I7:=by refine⟨Tryz.func7,?_,?_,?_,?_⟩<;>kernel_rfl
def xSU(a0 a1 r1 r2 r3):rE I7 (xDt a0 a1) [] [xDZ r1,xDZ r2,xDG r3]=dn (xAo r3) [AbC 23 (xFe a0) (xDZ r1),AbC 23 (xFe a1) (xDZ r2),AbC 22 (xEk r1 r2) (xDG r3)]:=by kernel_rfl
theorem c7_e{N:Nat}:∀a0 a1 r,xCs N a0 a1=some r→RE Tryz.f7 I7 (xDt a0 a1) (xAo r):=fun a0 a1 r h=>bE h fun r1 h0 h=>bE h fun r2 h1 h=>bE h fun r3 h2 h=>dE h fk7 (xSU a0 a1 r1 r2 r3) (oc3 (xHO h0) (xHO h1) (xHV h2) on)
theorem xAr{N:Nat}{a0:List Org}{a1:List Org}{r:Bool}(h:xCs N  a0 a1=some r):AbC 7 (xDt a0 a1) (xAo r):=
 AbsCalls.of_reach fk7 rfl rfl rfl (jL rfl) (c7_e a0 a1 r h)
noncomputable def I11:Info:= { body:=(Tryz.f11.body).getD .skip,nt:=5,results:=[.cell 2 33],keep:=[0,4,5],live:=[],modes:=[] }
theorem fk11:FnOk Tryz.prog 11 Tryz.f11 I11:=by refine⟨Tryz.func11,?_,?_,?_,?_⟩<;>kernel_rfl
def xPS(a0):rE I11 (xEA a0) [] []=dn (xB8 (Val.mk 2 0 0 a0 [] [] [])) []:=by kernel_rfl
theorem xTj{N:Nat}:∀a0 r,xGE N a0=some r→RE Tryz.f11 I11 (xEA a0) (xB8 r):=fun a0 r h=>dE h fk11 (xPS a0) on
theorem xDn{N:Nat}{a0:Str}{r:Val}(h:xGE N  a0=some r):AbC 11 (xEA a0) (xB8 r):=
 AbsCalls.of_reach fk11 rfl rfl rfl (jL rfl) (xTj a0 r h)
noncomputable def I13:Info:= { body:=(Tryz.f13.body).getD .skip,nt:=5,results:=[.cell 2 33],keep:=[0,4,5],live:=[],modes:=[] }
theorem fk13:FnOk Tryz.prog 13 Tryz.f13 I13:=by refine⟨Tryz.func13,?_,?_,?_,?_⟩<;>kernel_rfl
def xPW(a0):rE I13 (xD2 a0) [] []=dn (xBT (Val.mk 1 a0 0 [] [] [] [])) []:=by kernel_rfl
theorem xTm{N:Nat}:∀a0 r,xFV N a0=some r→RE Tryz.f13 I13 (xD2 a0) (xBT r):=fun a0 r h=>dE h fk13 (xPW a0) on
theorem xCW{N:Nat}{a0:Int}{r:Val}(h:xFV N  a0=some r):AbC 13 (xD2 a0) (xBT r):=
 AbsCalls.of_reach fk13 rfl rfl rfl (jL rfl) (xTm a0 r h)
noncomputable def I52:Info:= { body:=(Tryz.f52.body).getD .skip,nt:=12,results:=[.cell 2 58],keep:=[0,2,4,3,5],live:=[],modes:=[] }
theorem fk52:FnOk Tryz.prog 52 Tryz.f52 I52:=by refine⟨Tryz.func52,?_,?_,?_,?_⟩<;>kernel_rfl
def xRD(a0):rE I52 (xF3 a0) [] []=dn (xFg (Rowd.mk ([]++a0.cells) ([]++a0.frm))) [0+Ln a0.cells≤Lim,0+Ln a0.frm≤Lim]:=by kernel_rfl
theorem xUb{N:Nat}:∀a0 r,xH6 N a0=some r→RE Tryz.f52 I52 (xF3 a0) (xFg r):=fun a0 r h=>iE h fun h0 h=>iE h fun h1 h=>dE h fk52 (xRD a0) (oc2 h0 h1 on)
theorem xKM{N:Nat}{a0:Rowd}{r:Rowd}(h:xH6 N  a0=some r):AbC 52 (xF3 a0) (xFg r):=
 AbsCalls.of_reach fk52 rfl rfl rfl (jL rfl) (xUb a0 r h)
def G31(q:Val→Option (Val)):Prop:=∀a0 r,q a0=some r→AbC 31 (xDI a0) (xCp r)
noncomputable def I31:Info:= { body:=(Tryz.f31.body).getD .skip,nt:=56,results:=[.cell 2 33],keep:=[0,2,4,6,8,10,46,82,3,5,7],live:=[(3,[2,4,6,8,3,5,7]),(7,[2,4,6,10,3,5,7])],modes:=[(5,[(1,.take,false),(9,.take,false)]),(9,[(1,.take,false),(9,.take,false)]),(10,[(0,.take,false)])] }
theorem fk31:FnOk Tryz.prog 31 Tryz.f31 I31:=by refine⟨Tryz.func31,?_,?_,?_,?_⟩<;>kernel_rfl
def xNh(x4:Int)(b1 b2 b3:Val):St:=[(2,.v false [.ptr 1 0]),(4,.v false [.ptr 2 0]),(6,.v false [.ptr 3 0]),(8,.v false [.int .i64 x4]),(3,.v true (Va .ro b1)),(5,.v true (Va .own b2)),(7,.v true (Va .own b3))]
def xNi(x5:Int)(b1 b2 b3:Val):St:=[(2,.v false [.ptr 1 0]),(4,.v false [.ptr 2 0]),(6,.v false [.ptr 3 0]),(10,.v false [.int .i64 x5]),(3,.v true (Va .ro b1)),(5,.v true (Va .own b2)),(7,.v true (Va .own b3))]
def xQL(x5 b1 b2 b3 r1):rS 7 I31 (xNi x5 b1 b2 b3) [Y] [xFg r1]=st 7 I31 (xNi (W (x5+1)) b1 b2 (Val.mk b3.kind b3.n b3.step b3.text b3.list b3.columns (b3.rows++ [r1]))) [xKV x5 b1,xGt x5 b1,AbC 52 (xF3 (xJJ b1 x5)) (xFg r1),Ln b3.rows+Ln [r1]≤Lim]:=by kernel_rfl
def xQM(x5 b1 b2 b3):rS 7 I31 (xNi x5 b1 b2 b3) [F] []=dn (xCp b3) [iN (dc (x5<(xD0 b1)))]:=by kernel_rfl
def xQJ(x4 b1 b2 b3 r1):rS 3 I31 (xNh x4 b1 b2 b3) [Y] [xCp r1]=st 3 I31 (xNh (W (x4+1)) b1 b2 (Val.mk b3.kind b3.n b3.step b3.text (b3.list++ [r1.re]) b3.columns b3.rows)) [iY (xIC x4 b1),xKW x4 b1,AbC 31 (xDI (gD b1.list (tN x4) vd)) (xCp r1),Ln b3.list+Ln [r1.re]≤Lim]:=by kernel_rfl
def xQK(x4 b1 b2 b3):rS 3 I31 (xNh x4 b1 b2 b3) [F] []=st 7 I31 (xNi 0 b1 b2 b3) [iN (xIC x4 b1)]:=by kernel_rfl
def xQN(a0):rE I31 (xDI a0) [] []=st 3 I31 (xNh 0 a0 (Val.mk 0 0 0 [] [] [] []) (Val.mk a0.kind a0.n a0.step a0.text [] ([]++a0.columns) [])) [0+Ln a0.columns≤Lim]:=by kernel_rfl
theorem xTL{N q0}(g0:G31 q0):∀n x5 b1 b2 b3 r,xGG N q0 n x5 b1 b2 b3=some r→RS Tryz.f31 I31 7 (xNi x5 b1 b2 b3) (xCp r):=by
 intro n
 induction n with
 |zero=>exact fun _ _ _ _ _ h=>nE h
 |succ n ih=>
  exact fun x5 b1 b2 b3 r h=>cE h (fun h0 h=>iE h fun h1 h=>bE h fun r1 h2 h=>iE h fun h3 h=>tS fk31 (xQL x5 b1 b2 b3 r1) (oc4 h0 h1 (xKM h2) h3 on) (ih _ _ _ _ _ h)) fun h0 h=>dS h fk31 (xQM x5 b1 b2 b3) (oc h0 on)
theorem xTK{N q0}(g0:G31 q0):∀n x4 b1 b2 b3 r,xGF N q0 n x4 b1 b2 b3=some r→RS Tryz.f31 I31 3 (xNh x4 b1 b2 b3) (xCp r):=by
 intro n
 induction n with
 |zero=>exact fun _ _ _ _ _ h=>nE h
 |succ n ih=>
  exact fun x4 b1 b2 b3 r h=>cE h (fun h0 h=>iE h fun h1 h=>bE h fun r1 h2 h=>iE h fun h3 h=>tS fk31 (xQJ x4 b1 b2 b3 r1) (oc4 h0 h1 (g0 _ _ h2) h3 on) (ih _ _ _ _ _ h)) fun h0 h=>tS fk31 (xQK x4 b1 b2 b3) (oc h0 on) (xTL g0 _ _ _ _ _ _ h)
theorem xTM{N q0}(g0:G31 q0):∀a0 r,xFW N q0 a0=some r→RE Tryz.f31 I31 (xDI a0) (xCp r):=fun a0 r h=>iE h fun h0 h=>tE fk31 (xQN a0) (oc h0 on) (xTK g0 _ _ _ _ _ _ h)
theorem xHH{N q0}(g0:G31 q0){a0}{r}(h:xFW N q0 a0=some r):AbC 31 (xDI a0) (xCp r):=
 AbsCalls.of_reach fk31 rfl rfl rfl (jL rfl) (xTM g0 a0 r h)
theorem xGw{N:Nat}:∀d,G31 (xGn N d)
 |0=>fun _ _ h=>nE h
 |d+1=>fun _ _ h=>xHH (N:=N) (xGw d) h
theorem xJf{N:Nat}{a0:Val}{r:Val}(h:xIQ N a0=some r):AbC 31 (xDI a0) (xCp r):=xGw N _ r h
noncomputable def I12:Info:= { body:=(Tryz.f12.body).getD .skip,nt:=23,results:=[.cell 2 33],keep:=[0,4,6,8,18,5,7],live:=[(3,[0,4,6,8,5,7])],modes:=[(5,[(1,.take,false),(8,.take,false)]),(6,[(0,.take,false)])] }
theorem fk12:FnOk Tryz.prog 12 Tryz.f12 I12:=by refine⟨Tryz.func12,?_,?_,?_,?_⟩<;>kernel_rfl
def xNd(x0:List Val)(x4:Int)(b2 b3:Val):St:=[(0,.v false [.sl .ro .val x0]),(4,.v false [.ptr 2 0]),(6,.v false [.ptr 3 0]),(8,.v false [.int .i64 x4]),(5,.v true (Va .own b2)),(7,.v true (Va .own b3))]
abbrev xEZ(v0:Int)(v1:List Val):Prop:=(0:Int)≤v0∧v0<(Ln v1)
abbrev xGi(v0:List Val)(v1:Int):=gD v0 (tN v1) vd
def xPT(x0 x4 b2 b3 r1):rS 3 I12 (xNd x0 x4 b2 b3) [Y] [xCp r1]=st 3 I12 (xNd x0 (W (x4+1)) b2 (Val.mk b3.kind b3.n b3.step b3.text (b3.list++ [r1.re]) b3.columns b3.rows)) [iY (dc (x4<(Ln x0:Int))),xEZ x4 x0,AbC 31 (xDI (xGi x0 x4)) (xCp r1),Ln b3.list+Ln [r1.re]≤Lim]:=by kernel_rfl
def xPU(x0 x4 b2 b3):rS 3 I12 (xNd x0 x4 b2 b3) [F] []=dn (xBc b3) [iN (dc (x4<(Ln x0:Int)))]:=by kernel_rfl
def xPV(a0):rE I12 (xEz a0) [] []=st 3 I12 (xNd a0 0 (Val.mk 0 0 0 [] [] [] []) (Val.mk 3 0 0 [] [] [] [])) []:=by kernel_rfl
theorem xTk{N:Nat}:∀n x0 x4 b2 b3 r,xFx N n x0 x4 b2 b3=some r→RS Tryz.f12 I12 3 (xNd x0 x4 b2 b3) (xBc r):=by
 intro n
 induction n with
 |zero=>exact fun _ _ _ _ _ h=>nE h
 |succ n ih=>
  exact fun x0 x4 b2 b3 r h=>cE h (fun h0 h=>iE h fun h1 h=>bE h fun r1 h2 h=>iE h fun h3 h=>tS fk12 (xPT x0 x4 b2 b3 r1) (oc4 h0 h1 (xJf h2) h3 on) (ih _ _ _ _ _ h)) fun h0 h=>dS h fk12 (xPU x0 x4 b2 b3) (oc h0 on)
theorem xTl{N:Nat}:∀a0 r,xFB N a0=some r→RE Tryz.f12 I12 (xEz a0) (xBc r):=fun a0 r h=>tE fk12 (xPV a0) on (xTk _ _ _ _ _ _ h)
theorem xBP{N:Nat}{a0:List Val}{r:Val}(h:xFB N  a0=some r):AbC 12 (xEz a0) (xBc r):=
 AbsCalls.of_reach fk12 rfl rfl rfl (jL rfl) (xTl a0 r h)
noncomputable def I43:Info:= { body:=(Tryz.f43.body).getD .skip,nt:=15,results:=[.tmp 6],keep:=[0,2,4,12],live:=[],modes:=[(1,[(3,.take,false)])] }
theorem fk43:FnOk Tryz.prog 43 Tryz.f43 I43:=by refine⟨Tryz.func43,?_,?_,?_,?_⟩<;>kernel_rfl
def xRf(a0 a1 a2):rE I43 (xC0 a0 a1 a2) [Y] []=dn (xB2 (dc (a0≤a2))) [xHs a1 a0]:=by kernel_rfl
def xRg(a0 a1 a2):rE I43 (xC0 a0 a1 a2) [F] []=dn (xB2 false) [xIT a1 a0]:=by kernel_rfl
theorem xTX{N:Nat}:∀a0 a1 a2 r,xFv N a0 a1 a2=some r→RE Tryz.f43 I43 (xC0 a0 a1 a2) (xB2 r):=fun a0 a1 a2 r h=>cE h (fun h0 h=>dE h fk43 (xRf a0 a1 a2) (oc h0 on)) fun h0 h=>dE h fk43 (xRg a0 a1 a2) (oc h0 on)
theorem xEN{N:Nat}{a0:Int}{a1:Int}{a2:Int}{r:Bool}(h:xFv N  a0 a1 a2=some r):AbC 43 (xC0 a0 a1 a2) (xB2 r):=
 AbsCalls.of_reach fk43 rfl rfl rfl (jL rfl) (xTX a0 a1 a2 r h)
noncomputable def I41:Info:= { body:=(Tryz.f41.body).getD .skip,nt:=5,results:=[.tmp 2],keep:=[0,4],live:=[],modes:=[] }
theorem fk41:FnOk Tryz.prog 41 Tryz.f41 I41:=by refine⟨Tryz.func41,?_,?_,?_,?_⟩<;>kernel_rfl
def xQ8(a0 r1):rE I41 (xCr a0) [] [xB2 r1]=dn (xBw r1) [AbC 43 (xC0 a0 (-1000000000) 1000000000) (xB2 r1)]:=by kernel_rfl
theorem xTU{N:Nat}:∀a0 r,xEx N a0=some r→RE Tryz.f41 I41 (xCr a0) (xBw r):=fun a0 r h=>bE h fun r1 h0 h=>dE h fk41 (xQ8 a0 r1) (oc (xEN h0) on)
theorem xDz{N:Nat}{a0:Int}{r:Bool}(h:xEx N  a0=some r):AbC 41 (xCr a0) (xBw r):=
 AbsCalls.of_reach fk41 rfl rfl rfl (jL rfl) (xTU a0 r h)
noncomputable def I42:Info:= { body:=(Tryz.f42.body).getD .skip,nt:=29,results:=[.tmp 2],keep:=[0,4,6,14,50],live:=[(2,[0,6])],modes:=[(4,[(4,.take,false),(10,.take,false)])] }
theorem fk42:FnOk Tryz.prog 42 Tryz.f42 I42:=by refine⟨Tryz.func42,?_,?_,?_,?_⟩<;>kernel_rfl
def xKO(x0:Str)(x3:Int):St:=[(0,.v false [.str x0]),(6,.v false [.int .i64 x3])]
abbrev xGQ(v0:Int)(v1:Str):Prop:=iY (dc (v0<(Ln v1:Int)))
abbrev xDb(v0:Int)(v1:Str):Prop:=(0:Int)≤v0∧v0<(Ln v1)
abbrev xHj(v0:Str)(v1:Int):=(((gD v0 (tN v1) 0).toNat:Int):Int)
def xQ9(x0 x3):rS 2 I42 (xKO x0 x3) [Y,Y,Y,Y] []=dn (xB4 false) [xGQ x3 x0,xDb x3 x0,iY (dc ((xHj x0 x3)<32)),iY true,iY true]:=by kernel_rfl
abbrev xNI(v0:Str)(v1:Int):Prop:=iN (dc ((xHj v0 v1)<32))
abbrev xLV(v0:Str)(v1:Int):=dc ((((gD v0 (tN v1) 0).toNat:Int):Int)>126)
def xRa(x0 x3):rS 2 I42 (xKO x0 x3) [Y,F,Y,Y] []=dn (xB4 false) [xGQ x3 x0,xDb x3 x0,xNI x0 x3,xDb x3 x0,iY (xLV x0 x3),iY true]:=by kernel_rfl
def xRb(x0 x3):rS 2 I42 (xKO x0 x3) [Y,F,F,Y] []=dn (xB4 false) [xGQ x3 x0,xDb x3 x0,xNI x0 x3,xDb x3 x0,iN (xLV x0 x3),xDb x3 x0,iY ((xHj x0 x3)==34)]:=by kernel_rfl
def xRc(x0 x3):rS 2 I42 (xKO x0 x3) [Y,F,F,F] []=st 2 I42 (xKO x0 (W (x3+1))) [xGQ x3 x0,xDb x3 x0,xNI x0 x3,xDb x3 x0,iN (xLV x0 x3),xDb x3 x0,iN ((xHj x0 x3)==34)]:=by kernel_rfl
def xRd(x0 x3):rS 2 I42 (xKO x0 x3) [F] []=dn (xB4 (dc ((Ln x0:Int)≤20))) [iN (dc (x3<(Ln x0:Int)))]:=by kernel_rfl
def xRe(a0):rE I42 (xDX a0) [] []=st 2 I42 (xKO a0 0) []:=by kernel_rfl
theorem xTV{N:Nat}:∀n x0 x3 r,xEV N n x0 x3=some r→RS Tryz.f42 I42 2 (xKO x0 x3) (xB4 r):=by
 intro n
 induction n with
 |zero=>exact fun _ _ _ h=>nE h
 |succ n ih=>
  exact fun x0 x3 r h=>cE h (fun h0 h=>iE h fun h1 h=>cE h (fun h2 h=>dS h fk42 (xQ9 x0 x3) (oc5 h0 h1 h2 rfl rfl on)) fun h2 h=>cE h (fun h4 h=>dS h fk42 (xRa x0 x3) (oc6 h0 h1 h2 h1 h4 rfl on)) fun h4 h=>cE h (fun h6 h=>dS h fk42 (xRb x0 x3) (oc7 h0 h1 h2 h1 h4 h1 h6 on)) fun h6 h=>tS fk42 (xRc x0 x3) (oc7 h0 h1 h2 h1 h4 h1 h6 on) (ih _ _ _ h)) fun h0 h=>dS h fk42 (xRd x0 x3) (oc h0 on)
theorem xTW{N:Nat}:∀a0 r,xFN N a0=some r→RE Tryz.f42 I42 (xDX a0) (xB4 r):=fun a0 r h=>tE fk42 (xRe a0) on (xTV _ _ _ _ h)
theorem xHE{N:Nat}{a0:Str}{r:Bool}(h:xFN N  a0=some r):AbC 42 (xDX a0) (xB4 r):=
 AbsCalls.of_reach fk42 rfl rfl rfl (jL rfl) (xTW a0 r h)
noncomputable def I77:Info:= { body:=(Tryz.f77.body).getD .skip,nt:=42,results:=[.tmp 2],keep:=[0,4,6,8,16,76],live:=[(2,[0,6])],modes:=[(4,[(4,.take,false)]),(5,[(0,.take,false),(2,.take,false),(5,.take,false),(11,.take,false)])] }
theorem fk77:FnOk Tryz.prog 77 Tryz.f77 I77:=by refine⟨Tryz.func77,?_,?_,?_,?_⟩<;>kernel_rfl
def xHB(x0:Str)(x3:Int):St:=[(0,.v false [.str x0]),(6,.v false [.int .i64 x3])]
abbrev xKX(v0:Str)(v1:Int):Prop:=iY (dc ((xHj v0 v1)≥97))
abbrev xMq(v0:Str)(v1:Int):Prop:=iY (!(dc ((xHj v0 v1)≤122)))
def xRV(x0 x3):rS 2 I77 (xHB x0 x3) [Y,Y,Y,Y,Y,Y] []=dn (xB1 false) [xGQ x3 x0,xDb x3 x0,xKX x0 x3,xDb x3 x0,xMq x0 x3,iY (x3==0),iY true,iY true]:=by kernel_rfl
abbrev xLW(v0:Str)(v1:Int):=dc ((((gD v0 (tN v1) 0).toNat:Int):Int)<48)
def xRW(x0 x3):rS 2 I77 (xHB x0 x3) [Y,Y,Y,F,Y,Y] []=dn (xB1 false) [xGQ x3 x0,xDb x3 x0,xKX x0 x3,xDb x3 x0,xMq x0 x3,iN (x3==0),xDb x3 x0,iY (xLW x0 x3),iY true]:=by kernel_rfl
abbrev xMr(v0:Str)(v1:Int):Prop:=iN (xLW v0 v1)
abbrev xJL(v0:Str)(v1:Int):=dc ((((gD v0 (tN v1) 0).toNat:Int):Int)>57)
def xRX(x0 x3):rS 2 I77 (xHB x0 x3) [Y,Y,Y,F,F,Y] []=dn (xB1 false) [xGQ x3 x0,xDb x3 x0,xKX x0 x3,xDb x3 x0,xMq x0 x3,iN (x3==0),xDb x3 x0,xMr x0 x3,xDb x3 x0,iY (xJL x0 x3)]:=by kernel_rfl
def xRY(x0 x3):rS 2 I77 (xHB x0 x3) [Y,Y,Y,F,F,F] []=st 2 I77 (xHB x0 (W (x3+1))) [xGQ x3 x0,xDb x3 x0,xKX x0 x3,xDb x3 x0,xMq x0 x3,iN (x3==0),xDb x3 x0,xMr x0 x3,xDb x3 x0,iN (xJL x0 x3)]:=by kernel_rfl
def xRZ(x0 x3):rS 2 I77 (xHB x0 x3) [Y,Y,F,F] []=st 2 I77 (xHB x0 (W (x3+1))) [xGQ x3 x0,xDb x3 x0,xKX x0 x3,xDb x3 x0,iN (!(dc ((xHj x0 x3)≤122))),iN false]:=by kernel_rfl
abbrev xMs(v0:Str)(v1:Int):Prop:=iN (dc ((xHj v0 v1)≥97))
def xR0(x0 x3):rS 2 I77 (xHB x0 x3) [Y,F,Y,Y,Y,Y] []=dn (xB1 false) [xGQ x3 x0,xDb x3 x0,xMs x0 x3,iY (!false),iY (x3==0),iY true,iY true]:=by kernel_rfl
def xR1(x0 x3):rS 2 I77 (xHB x0 x3) [Y,F,Y,F,Y,Y] []=dn (xB1 false) [xGQ x3 x0,xDb x3 x0,xMs x0 x3,iY (!false),iN (x3==0),xDb x3 x0,iY (xLW x0 x3),iY true]:=by kernel_rfl
def xR2(x0 x3):rS 2 I77 (xHB x0 x3) [Y,F,Y,F,F,Y] []=dn (xB1 false) [xGQ x3 x0,xDb x3 x0,xMs x0 x3,iY (!false),iN (x3==0),xDb x3 x0,xMr x0 x3,xDb x3 x0,iY (xJL x0 x3)]:=by kernel_rfl
def xR3(x0 x3):rS 2 I77 (xHB x0 x3) [Y,F,Y,F,F,F] []=st 2 I77 (xHB x0 (W (x3+1))) [xGQ x3 x0,xDb x3 x0,xMs x0 x3,iY (!false),iN (x3==0),xDb x3 x0,xMr x0 x3,xDb x3 x0,iN (xJL x0 x3)]:=by kernel_rfl
def xR4(x0 x3 r1):rS 2 I77 (xHB x0 x3) [F] [xB2 r1]=dn (xB1 r1) [iN (dc (x3<(Ln x0:Int))),AbC 43 (xC0 (Ln x0:Int) 1 8) (xB2 r1)]:=by kernel_rfl
def xPi(a0):rE I77 (xEL a0) [] []=st 2 I77 (xHB a0 0) []:=by kernel_rfl
theorem xUj{N:Nat}:∀n x0 x3 r,xEM N n x0 x3=some r→RS Tryz.f77 I77 2 (xHB x0 x3) (xB1 r):=by
 intro n
 induction n with
 |zero=>exact fun _ _ _ h=>nE h
 |succ n ih=>
  exact fun x0 x3 r h=>cE h (fun h0 h=>iE h fun h1 h=>cE h (fun h2 h=>cE h (fun h4 h=>cE h (fun h5 h=>dS h fk77 (xRV x0 x3) (oc8 h0 h1 h2 h1 h4 h5 rfl rfl on)) fun h5 h=>cE h (fun h7 h=>dS h fk77 (xRW x0 x3) (oc9 h0 h1 h2 h1 h4 h5 h1 h7 rfl on)) fun h7 h=>cE h (fun h9 h=>dS h fk77 (xRX x0 x3) (oc10 h0 h1 h2 h1 h4 h5 h1 h7 h1 h9 on)) fun h9 h=>tS fk77 (xRY x0 x3) (oc10 h0 h1 h2 h1 h4 h5 h1 h7 h1 h9 on) (ih _ _ _ h)) fun h4 h=>tS fk77 (xRZ x0 x3) (oc6 h0 h1 h2 h1 h4 rfl on) (ih _ _ _ h)) fun h2 h=>cE h (fun h4 h=>dS h fk77 (xR0 x0 x3) (oc7 h0 h1 h2 rfl h4 rfl rfl on)) fun h4 h=>cE h (fun h6 h=>dS h fk77 (xR1 x0 x3) (oc8 h0 h1 h2 rfl h4 h1 h6 rfl on)) fun h6 h=>cE h (fun h8 h=>dS h fk77 (xR2 x0 x3) (oc9 h0 h1 h2 rfl h4 h1 h6 h1 h8 on)) fun h8 h=>tS fk77 (xR3 x0 x3) (oc9 h0 h1 h2 rfl h4 h1 h6 h1 h8 on) (ih _ _ _ h)) fun h0 h=>bE h fun r1 h1 h=>dS h fk77 (xR4 x0 x3 r1) (oc2 h0 (xEN h1) on)
theorem xUk{N:Nat}:∀a0 r,xHF N a0=some r→RE Tryz.f77 I77 (xEL a0) (xB1 r):=fun a0 r h=>tE fk77 (xPi a0) on (xUj _ _ _ _ h)
theorem xHw{N:Nat}{a0:Str}{r:Bool}(h:xHF N  a0=some r):AbC 77 (xEL a0) (xB1 r):=
 AbsCalls.of_reach fk77 rfl rfl rfl (jL rfl) (xUk a0 r h)
noncomputable def I88:Info:= { body:=(Tryz.f88.body).getD .skip,nt:=26,results:=[.tmp 2],keep:=[0,4,6,8,12,24,40,48],live:=[],modes:=[] }
theorem fk88:FnOk Tryz.prog 88 Tryz.f88 I88:=by refine⟨Tryz.func88,?_,?_,?_,?_⟩<;>kernel_rfl
def xSj(a0):rE I88 (xAx a0) [Y] []=dn (xAt 0) [iY ((a0:Str)== [99,108,111,99,107])]:=by kernel_rfl
abbrev xFG(v0:Str):Prop:=iN ((v0:Str)== [99,108,111,99,107])
def xSk(a0):rE I88 (xAx a0) [F,Y,Y] []=dn (xAt 1) [xFG a0,iY ((a0:Str)== [108,101,110]),iY ((a0:Str)== [108,101,110])]:=by kernel_rfl
abbrev xFZ(v0:Str):Prop:=iN ((v0:Str)== [108,101,110])
def xSl(a0):rE I88 (xAx a0) [F,F,Y,Y] []=dn (xAt 1) [xFG a0,xFZ a0,iY ((a0:Str)== [115,117,109]),iY ((a0:Str)== [115,117,109])]:=by kernel_rfl
abbrev xGj(v0:Str):Prop:=iN ((v0:Str)== [115,117,109])
abbrev xLX(v0:Str):=(v0:Str)== [114,111,119,115]
def xSm(a0):rE I88 (xAx a0) [F,F,F,Y,Y] []=dn (xAt 1) [xFG a0,xFZ a0,xGj a0,iY (xLX a0),iY (xLX a0)]:=by kernel_rfl
abbrev xGu(v0:Str):Prop:=iN (xLX v0)
abbrev xLY(v0:Str):=(v0:Str)== [99,104,97,110,99,101]
def xSn(a0):rE I88 (xAx a0) [F,F,F,F,Y,Y] []=dn (xAt 1) [xFG a0,xFZ a0,xGj a0,xGu a0,iY (xLY a0),iY (xLY a0)]:=by kernel_rfl
abbrev xGR(v0:Str):Prop:=iN (xLY v0)
def xSo(a0):rE I88 (xAx a0) [F,F,F,F,F,Y] []=dn (xAt 1) [xFG a0,xFZ a0,xGj a0,xGu a0,xGR a0,iY ((a0:Str)== [102,105,108,101])]:=by kernel_rfl
abbrev xG3(v0:Str):Prop:=iN ((v0:Str)== [102,105,108,101])
abbrev xLZ(v0:Str):=(v0:Str)== [116,97,107,101]
def xSp(a0):rE I88 (xAx a0) [F,F,F,F,F,F,Y,Y] []=dn (xAt 2) [xFG a0,xFZ a0,xGj a0,xGu a0,xGR a0,xG3 a0,iY (xLZ a0),iY (xLZ a0)]:=by kernel_rfl
abbrev xHk(v0:Str):Prop:=iN (xLZ v0)
abbrev xL0(v0:Str):=(v0:Str)== [115,107,105,112]
def xSq(a0):rE I88 (xAx a0) [F,F,F,F,F,F,F,Y,Y] []=dn (xAt 2) [xFG a0,xFZ a0,xGj a0,xGu a0,xGR a0,xG3 a0,xHk a0,iY (xL0 a0),iY (xL0 a0)]:=by kernel_rfl
abbrev xHy(v0:Str):Prop:=iN (xL0 v0)
abbrev xL1(v0:Str):=(v0:Str)== [114,97,110,103,101]
def xSr(a0):rE I88 (xAx a0) [F,F,F,F,F,F,F,F,Y,Y] []=dn (xAt 2) [xFG a0,xFZ a0,xGj a0,xGu a0,xGR a0,xG3 a0,xHk a0,xHy a0,iY (xL1 a0),iY (xL1 a0)]:=by kernel_rfl
abbrev xHP(v0:Str):Prop:=iN (xL1 v0)
def xSs(a0):rE I88 (xAx a0) [F,F,F,F,F,F,F,F,F,Y,Y] []=dn (xAt 2) [xFG a0,xFZ a0,xGj a0,xGu a0,xGR a0,xG3 a0,xHk a0,xHy a0,xHP a0,iY ((a0:Str)== [110,116,104]),iY ((a0:Str)== [110,116,104])]:=by kernel_rfl
abbrev xIc(v0:Str):Prop:=iN ((v0:Str)== [110,116,104])
abbrev xL2(v0:Str):=(v0:Str)== [107,101,101,112]
def xPj(a0):rE I88 (xAx a0) [F,F,F,F,F,F,F,F,F,F,Y,Y] []=dn (xAt 2) [xFG a0,xFZ a0,xGj a0,xGu a0,xGR a0,xG3 a0,xHk a0,xHy a0,xHP a0,xIc a0,iY (xL2 a0),iY (xL2 a0)]:=by kernel_rfl
abbrev xIE(v0:Str):Prop:=iN (xL2 v0)
abbrev xL3(v0:Str):=(v0:Str)== [99,111,108,117,109,110]
def xPk(a0):rE I88 (xAx a0) [F,F,F,F,F,F,F,F,F,F,F,Y,Y] []=dn (xAt 2) [xFG a0,xFZ a0,xGj a0,xGu a0,xGR a0,xG3 a0,xHk a0,xHy a0,xHP a0,xIc a0,xIE a0,iY (xL3 a0),iY (xL3 a0)]:=by kernel_rfl
abbrev xJn(v0:Str):Prop:=iN (xL3 v0)
def xPl(a0):rE I88 (xAx a0) [F,F,F,F,F,F,F,F,F,F,F,F,Y] []=dn (xAt 2) [xFG a0,xFZ a0,xGj a0,xGu a0,xGR a0,xG3 a0,xHk a0,xHy a0,xHP a0,xIc a0,xIE a0,xJn a0,iY ((a0:Str)== [116,97,98,108,101])]:=by kernel_rfl
abbrev xKY(v0:Str):Prop:=iN ((v0:Str)== [116,97,98,108,101])
abbrev xL4(v0:Str):=(v0:Str)== [119,104,101,114,101]
def xPm(a0):rE I88 (xAx a0) [F,F,F,F,F,F,F,F,F,F,F,F,F,Y,Y] []=dn (xAt 3) [xFG a0,xFZ a0,xGj a0,xGu a0,xGR a0,xG3 a0,xHk a0,xHy a0,xHP a0,xIc a0,xIE a0,xJn a0,xKY a0,iY (xL4 a0),iY (xL4 a0)]:=by kernel_rfl
abbrev xMt(v0:Str):Prop:=iN (xL4 v0)
abbrev xL5(v0:Str):=(v0:Str)== [103,114,111,117,112]
def xPn(a0):rE I88 (xAx a0) [F,F,F,F,F,F,F,F,F,F,F,F,F,F,Y,Y] []=dn (xAt 3) [xFG a0,xFZ a0,xGj a0,xGu a0,xGR a0,xG3 a0,xHk a0,xHy a0,xHP a0,xIc a0,xIE a0,xJn a0,xKY a0,xMt a0,iY (xL5 a0),iY (xL5 a0)]:=by kernel_rfl
abbrev xNJ(v0:Str):Prop:=iN (xL5 v0)
abbrev xL6(v0:Str):=(v0:Str)== [106,111,105,110]
def xPo(a0):rE I88 (xAx a0) [F,F,F,F,F,F,F,F,F,F,F,F,F,F,F,Y] []=dn (xAt 3) [xFG a0,xFZ a0,xGj a0,xGu a0,xGR a0,xG3 a0,xHk a0,xHy a0,xHP a0,xIc a0,xIE a0,xJn a0,xKY a0,xMt a0,xNJ a0,iY (xL6 a0)]:=by kernel_rfl
def xPp(a0):rE I88 (xAx a0) [F,F,F,F,F,F,F,F,F,F,F,F,F,F,F,F,Y] []=dn (xAt 4) [xFG a0,xFZ a0,xGj a0,xGu a0,xGR a0,xG3 a0,xHk a0,xHy a0,xHP a0,xIc a0,xIE a0,xJn a0,xKY a0,xMt a0,xNJ a0,iN (xL6 a0),iY ((a0:Str)== [97,100,100])]:=by kernel_rfl
def xPq(a0):rE I88 (xAx a0) [F,F,F,F,F,F,F,F,F,F,F,F,F,F,F,F,F] []=dn (xAt (-1)) [xFG a0,xFZ a0,xGj a0,xGu a0,xGR a0,xG3 a0,xHk a0,xHy a0,xHP a0,xIc a0,xIE a0,xJn a0,xKY a0,xMt a0,xNJ a0,iN (xL6 a0),iN ((a0:Str)== [97,100,100])]:=by kernel_rfl
theorem xUq{N:Nat}:∀a0 r,xE6 N a0=some r→RE Tryz.f88 I88 (xAx a0) (xAt r):=fun a0 r h=>cE h (fun h0 h=>dE h fk88 (xSj a0) (oc h0 on)) fun h0 h=>cE h (fun h1 h=>dE h fk88 (xSk a0) (oc3 h0 h1 h1 on)) fun h1 h=>cE h (fun h2 h=>dE h fk88 (xSl a0) (oc4 h0 h1 h2 h2 on)) fun h2 h=>cE h (fun h3 h=>dE h fk88 (xSm a0) (oc5 h0 h1 h2 h3 h3 on)) fun h3 h=>cE h (fun h4 h=>dE h fk88 (xSn a0) (oc6 h0 h1 h2 h3 h4 h4 on)) fun h4 h=>cE h (fun h5 h=>dE h fk88 (xSo a0) (oc6 h0 h1 h2 h3 h4 h5 on)) fun h5 h=>cE h (fun h6 h=>dE h fk88 (xSp a0) (oc8 h0 h1 h2 h3 h4 h5 h6 h6 on)) fun h6 h=>cE h (fun h7 h=>dE h fk88 (xSq a0) (oc9 h0 h1 h2 h3 h4 h5 h6 h7 h7 on)) fun h7 h=>cE h (fun h8 h=>dE h fk88 (xSr a0) (oc10 h0 h1 h2 h3 h4 h5 h6 h7 h8 h8 on)) fun h8 h=>cE h (fun h9 h=>dE h fk88 (xSs a0) (oc11 h0 h1 h2 h3 h4 h5 h6 h7 h8 h9 h9 on)) fun h9 h=>cE h (fun h10 h=>dE h fk88 (xPj a0) (oc12 h0 h1 h2 h3 h4 h5 h6 h7 h8 h9 h10 h10 on)) fun h10 h=>cE h (fun h11 h=>dE h fk88 (xPk a0) (oc12 h0 h1 h2 h3 h4 h5 h6 h7 h8 h9 h10 h11 (oc h11 on))) fun h11 h=>cE h (fun h12 h=>dE h fk88 (xPl a0) (oc12 h0 h1 h2 h3 h4 h5 h6 h7 h8 h9 h10 h11 (oc h12 on))) fun h12 h=>cE h (fun h13 h=>dE h fk88 (xPm a0) (oc12 h0 h1 h2 h3 h4 h5 h6 h7 h8 h9 h10 h11 (oc3 h12 h13 h13 on))) fun h13 h=>cE h (fun h14 h=>dE h fk88 (xPn a0) (oc12 h0 h1 h2 h3 h4 h5 h6 h7 h8 h9 h10 h11 (oc4 h12 h13 h14 h14 on))) fun h14 h=>cE h (fun h15 h=>dE h fk88 (xPo a0) (oc12 h0 h1 h2 h3 h4 h5 h6 h7 h8 h9 h10 h11 (oc4 h12 h13 h14 h15 on))) fun h15 h=>cE h (fun h16 h=>dE h fk88 (xPp a0) (oc12 h0 h1 h2 h3 h4 h5 h6 h7 h8 h9 h10 h11 (oc5 h12 h13 h14 h15 h16 on))) fun h16 h=>
 dE h fk88 (xPq a0) (oc12 h0 h1 h2 h3 h4 h5 h6 h7 h8 h9 h10 h11 (oc5 h12 h13 h14 h15 h16 on))
theorem xHc{N:Nat}{a0:Str}{r:Int}(h:xE6 N  a0=some r):AbC 88 (xAx a0) (xAt r):=
 AbsCalls.of_reach fk88 rfl rfl rfl (jL rfl) (xUq a0 r h)
noncomputable def I78:Info:= { body:=(Tryz.f78.body).getD .skip,nt:=15,results:=[.tmp 2],keep:=[0,4,6,8],live:=[],modes:=[] }
theorem fk78:FnOk Tryz.prog 78 Tryz.f78 I78:=by refine⟨Tryz.func78,?_,?_,?_,?_⟩<;>kernel_rfl
def xR5(a0):rE I78 (xBQ a0) [Y,Y] []=dn (xBE true) [iY ((a0:Str)== [108,101,116]),iY ((a0:Str)== [108,101,116])]:=by kernel_rfl
abbrev xIF(v0:Str):Prop:=iN ((v0:Str)== [108,101,116])
def xR6(a0):rE I78 (xBQ a0) [F,Y,Y] []=dn (xBE true) [xIF a0,iY ((a0:Str)== [105,110]),iY ((a0:Str)== [105,110])]:=by kernel_rfl
abbrev xJo(v0:Str):Prop:=iN ((v0:Str)== [105,110])
def xR7(a0):rE I78 (xBQ a0) [F,F,Y,Y] []=dn (xBE true) [xIF a0,xJo a0,iY ((a0:Str)== [105,102]),iY ((a0:Str)== [105,102])]:=by kernel_rfl
abbrev xKZ(v0:Str):Prop:=iN ((v0:Str)== [105,102])
abbrev xL7(v0:Str):=(v0:Str)== [116,104,101,110]
def xR8(a0):rE I78 (xBQ a0) [F,F,F,Y,Y] []=dn (xBE true) [xIF a0,xJo a0,xKZ a0,iY (xL7 a0),iY (xL7 a0)]:=by kernel_rfl
abbrev xMu(v0:Str):Prop:=iN (xL7 v0)
abbrev xL8(v0:Str):=(v0:Str)== [101,108,115,101]
def xR9(a0):rE I78 (xBQ a0) [F,F,F,F,Y,Y] []=dn (xBE true) [xIF a0,xJo a0,xKZ a0,xMu a0,iY (xL8 a0),iY (xL8 a0)]:=by kernel_rfl
abbrev xNK(v0:Str):Prop:=iN (xL8 v0)
abbrev xJM(v0:Str):=(v0:Str)== [102,111,114]
def xSa(a0):rE I78 (xBQ a0) [F,F,F,F,F,Y,Y] []=dn (xBE true) [xIF a0,xJo a0,xKZ a0,xMu a0,xNK a0,iY (xJM a0),iY (xJM a0)]:=by kernel_rfl
def xSb(a0):rE I78 (xBQ a0) [F,F,F,F,F,F,Y] []=dn (xBE true) [xIF a0,xJo a0,xKZ a0,xMu a0,xNK a0,iN (xJM a0),iY ((a0:Str)== [100,111])]:=by kernel_rfl
def xSc(a0 r1):rE I78 (xBQ a0) [F,F,F,F,F,F,F] [xAt r1]=dn (xBE (dc (r1≥0))) [xIF a0,xJo a0,xKZ a0,xMu a0,xNK a0,iN (xJM a0),iN ((a0:Str)== [100,111]),AbC 88 (xAx a0) (xAt r1)]:=by kernel_rfl
theorem xUl{N:Nat}:∀a0 r,xGe N a0=some r→RE Tryz.f78 I78 (xBQ a0) (xBE r):=fun a0 r h=>cE h (fun h0 h=>dE h fk78 (xR5 a0) (oc2 h0 h0 on)) fun h0 h=>cE h (fun h1 h=>dE h fk78 (xR6 a0) (oc3 h0 h1 h1 on)) fun h1 h=>cE h (fun h2 h=>dE h fk78 (xR7 a0) (oc4 h0 h1 h2 h2 on)) fun h2 h=>cE h (fun h3 h=>dE h fk78 (xR8 a0) (oc5 h0 h1 h2 h3 h3 on)) fun h3 h=>cE h (fun h4 h=>dE h fk78 (xR9 a0) (oc6 h0 h1 h2 h3 h4 h4 on)) fun h4 h=>cE h (fun h5 h=>dE h fk78 (xSa a0) (oc7 h0 h1 h2 h3 h4 h5 h5 on)) fun h5 h=>cE h (fun h6 h=>dE h fk78 (xSb a0) (oc7 h0 h1 h2 h3 h4 h5 h6 on)) fun h6 h=>bE h fun r1 h7 h=>dE h fk78 (xSc a0 r1) (oc8 h0 h1 h2 h3 h4 h5 h6 (xHc h7) on)
theorem xHM{N:Nat}{a0:Str}{r:Bool}(h:xGe N  a0=some r):AbC 78 (xBQ a0) (xBE r):=
 AbsCalls.of_reach fk78 rfl rfl rfl (jL rfl) (xUl a0 r h)
noncomputable def I50:Info:= { body:=(Tryz.f50.body).getD .skip,nt:=10,results:=[.tmp 2],keep:=[0,4],live:=[],modes:=[(1,[(2,.take,false)])] }
theorem fk50:FnOk Tryz.prog 50 Tryz.f50 I50:=by refine⟨Tryz.func50,?_,?_,?_,?_⟩<;>kernel_rfl
def xRx(a0 r1 r2):rE I50 (xCQ a0) [Y] [xB1 r1,xBE r2]=dn (xCb (!r2)) [AbC 77 (xEL a0) (xB1 r1),iY r1,AbC 78 (xBQ a0) (xBE r2)]:=by kernel_rfl
def xRy(a0 r1):rE I50 (xCQ a0) [F] [xB1 r1]=dn (xCb false) [AbC 77 (xEL a0) (xB1 r1),iN r1]:=by kernel_rfl
theorem xT8{N:Nat}:∀a0 r,xFM N a0=some r→RE Tryz.f50 I50 (xCQ a0) (xCb r):=fun a0 r h=>bE h fun r1 h0 h=>cE h (fun h1 h=>bE h fun r2 h2 h=>dE h fk50 (xRx a0 r1 r2) (oc3 (xHw h0) h1 (xHM h2) on)) fun h1 h=>dE h fk50 (xRy a0 r1) (oc2 (xHw h0) h1 on)
theorem xGf{N:Nat}{a0:Str}{r:Bool}(h:xFM N  a0=some r):AbC 50 (xCQ a0) (xCb r):=
 AbsCalls.of_reach fk50 rfl rfl rfl (jL rfl) (xT8 a0 r h)
noncomputable def I79:Info:= { body:=(Tryz.f79.body).getD .skip,nt:=19,results:=[.tmp 4],keep:=[0,2,8,10,12,14,16,18,20,32],live:=[(2,[2,14,16,18])],modes:=[(4,[(0,.take,false)]),(5,[(0,.take,false)]),(6,[(1,.take,false)])] }
theorem fk79:FnOk Tryz.prog 79 Tryz.f79 I79:=by refine⟨Tryz.func79,?_,?_,?_,?_⟩<;>kernel_rfl
def xMO(x1:Str)(x7:List Str)(x8 x9:Int):St:=[(2,.v false [.str x1]),(14,.v false [.sl .ro .str x7]),(16,.v false [.int .i64 x8]),(18,.v false [.int .i64 x9])]
def xSd(x1 x7 x8 x9):rS 2 I79 (xMO x1 x7 x8 x9) [Y,Y] []=dn (xCC x9) [xDm x9 x8,xHx x9 x7,iY (((xGC x7 x9):Str)==x1)]:=by kernel_rfl
def xSe(x1 x7 x8 x9):rS 2 I79 (xMO x1 x7 x8 x9) [Y,F] []=st 2 I79 (xMO x1 x7 x8 (W (x9+1))) [xDm x9 x8,xHx x9 x7,iN (((xGC x7 x9):Str)==x1)]:=by kernel_rfl
def xSf(x1 x7 x8 x9):rS 2 I79 (xMO x1 x7 x8 x9) [F] []=dn (xCC (-1)) [xE1 x9 x8]:=by kernel_rfl
def xSg(a0 a1):rE I79 (xEn a0 a1) [] []=st 2 I79 (xMO a1 a0 (Ln a0:Int) 0) []:=by kernel_rfl
theorem xUm{N:Nat}:∀n x1 x7 x8 x9 r,xGd N n x1 x7 x8 x9=some r→RS Tryz.f79 I79 2 (xMO x1 x7 x8 x9) (xCC r):=by
 intro n
 induction n with
 |zero=>exact fun _ _ _ _ _ h=>nE h
 |succ n ih=>
  exact fun x1 x7 x8 x9 r h=>cE h (fun h0 h=>iE h fun h1 h=>cE h (fun h2 h=>dS h fk79 (xSd x1 x7 x8 x9) (oc3 h0 h1 h2 on)) fun h2 h=>tS fk79 (xSe x1 x7 x8 x9) (oc3 h0 h1 h2 on) (ih _ _ _ _ _ h)) fun h0 h=>dS h fk79 (xSf x1 x7 x8 x9) (oc h0 on)
theorem xUn{N:Nat}:∀a0 a1 r,xHd N a0 a1=some r→RE Tryz.f79 I79 (xEn a0 a1) (xCC r):=fun a0 a1 r h=>tE fk79 (xSg a0 a1) on (xUm _ _ _ _ _ _ h)
theorem xHe{N:Nat}{a0:List Str}{a1:Str}{r:Int}(h:xHd N  a0 a1=some r):AbC 79 (xEn a0 a1) (xCC r):=
 AbsCalls.of_reach fk79 rfl rfl rfl (jL rfl) (xUn a0 a1 r h)
noncomputable def I51:Info:= { body:=(Tryz.f51.body).getD .skip,nt:=18,results:=[.tmp 2],keep:=[0,4,6,8,10,12,14,16,32],live:=[(2,[0,10,12,14])],modes:=[(4,[(1,.take,false),(3,.take,false)]),(6,[(1,.take,false)])] }
theorem fk51:FnOk Tryz.prog 51 Tryz.f51 I51:=by refine⟨Tryz.func51,?_,?_,?_,?_⟩<;>kernel_rfl
def xMK(x0 x5:List Str)(x6 x7:Int):St:=[(0,.v false [.sl .ro .str x0]),(10,.v false [.sl .ro .str x5]),(12,.v false [.int .i64 x6]),(14,.v false [.int .i64 x7])]
def xRz(x0 x5 x6 x7 r1):rS 2 I51 (xMK x0 x5 x6 x7) [Y,Y] [xCC r1]=dn (xCv false) [xDm x7 x6,xHx x7 x5,AbC 79 (xEn x0 (xGC x5 x7)) (xCC r1),iY (r1 != x7)]:=by kernel_rfl
def xRA(x0 x5 x6 x7 r1):rS 2 I51 (xMK x0 x5 x6 x7) [Y,F] [xCC r1]=st 2 I51 (xMK x0 x5 x6 (W (x7+1))) [xDm x7 x6,xHx x7 x5,AbC 79 (xEn x0 (xGC x5 x7)) (xCC r1),iN (r1 != x7)]:=by kernel_rfl
def xRB(x0 x5 x6 x7):rS 2 I51 (xMK x0 x5 x6 x7) [F] []=dn (xCv true) [xE1 x7 x6]:=by kernel_rfl
def xRC(a0):rE I51 (xDW a0) [] []=st 2 I51 (xMK a0 a0 (Ln a0:Int) 0) []:=by kernel_rfl
theorem xT9{N:Nat}:∀n x0 x5 x6 x7 r,xEU N n x0 x5 x6 x7=some r→RS Tryz.f51 I51 2 (xMK x0 x5 x6 x7) (xCv r):=by
 intro n
 induction n with
 |zero=>exact fun _ _ _ _ _ h=>nE h
 |succ n ih=>
  exact fun x0 x5 x6 x7 r h=>cE h (fun h0 h=>iE h fun h1 h=>bE h fun r1 h2 h=>cE h (fun h3 h=>dS h fk51 (xRz x0 x5 x6 x7 r1) (oc4 h0 h1 (xHe h2) h3 on)) fun h3 h=>tS fk51 (xRA x0 x5 x6 x7 r1) (oc4 h0 h1 (xHe h2) h3 on) (ih _ _ _ _ _ h)) fun h0 h=>dS h fk51 (xRB x0 x5 x6 x7) (oc h0 on)
theorem xUa{N:Nat}:∀a0 r,xFK N a0=some r→RE Tryz.f51 I51 (xDW a0) (xCv r):=fun a0 r h=>tE fk51 (xRC a0) on (xT9 _ _ _ _ _ _ h)
theorem xHD{N:Nat}{a0:List Str}{r:Bool}(h:xFK N  a0=some r):AbC 51 (xDW a0) (xCv r):=
 AbsCalls.of_reach fk51 rfl rfl rfl (jL rfl) (xUa a0 r h)
noncomputable def I30:Info:= { body:=(Tryz.f30.body).getD .skip,nt:=22,results:=[.tmp 2],keep:=[0,4,8,10,12,14,16,26],live:=[(2,[0,10,12,14])],modes:=[(4,[(0,.take,false)]),(6,[(1,.take,false)]),(7,[(3,.take,false)])] }
theorem fk30:FnOk Tryz.prog 30 Tryz.f30 I30:=by refine⟨Tryz.func30,?_,?_,?_,?_⟩<;>kernel_rfl
def xLE(x0 x5:List Str)(x6 x7:Int):St:=[(0,.v false [.sl .ro .str x0]),(10,.v false [.sl .ro .str x5]),(12,.v false [.int .i64 x6]),(14,.v false [.int .i64 x7])]
def xQE(x0 x5 x6 x7 r1):rS 2 I30 (xLE x0 x5 x6 x7) [Y,Y] [xCb r1]=dn (xAL false) [xDm x7 x6,xHx x7 x5,AbC 50 (xCQ (xGC x5 x7)) (xCb r1),iY (!r1)]:=by kernel_rfl
def xQF(x0 x5 x6 x7 r1):rS 2 I30 (xLE x0 x5 x6 x7) [Y,F] [xCb r1]=st 2 I30 (xLE x0 x5 x6 (W (x7+1))) [xDm x7 x6,xHx x7 x5,AbC 50 (xCQ (xGC x5 x7)) (xCb r1),iN (!r1)]:=by kernel_rfl
def xQG(x0 x5 x6 x7 r1 r2):rS 2 I30 (xLE x0 x5 x6 x7) [F,Y] [xB2 r1,xCv r2]=dn (xAL r2) [xE1 x7 x6,AbC 43 (xC0 (Ln x0:Int) 1 4) (xB2 r1),iY r1,AbC 51 (xDW x0) (xCv r2)]:=by kernel_rfl
def xQH(x0 x5 x6 x7 r1):rS 2 I30 (xLE x0 x5 x6 x7) [F,F] [xB2 r1]=dn (xAL false) [xE1 x7 x6,AbC 43 (xC0 (Ln x0:Int) 1 4) (xB2 r1),iN r1]:=by kernel_rfl
def xQI(a0):rE I30 (xB0 a0) [] []=st 2 I30 (xLE a0 a0 (Ln a0:Int) 0) []:=by kernel_rfl
theorem xTI{N:Nat}:∀n x0 x5 x6 x7 r,xE8 N n x0 x5 x6 x7=some r→RS Tryz.f30 I30 2 (xLE x0 x5 x6 x7) (xAL r):=by
 intro n
 induction n with
 |zero=>exact fun _ _ _ _ _ h=>nE h
 |succ n ih=>
  exact fun x0 x5 x6 x7 r h=>cE h (fun h0 h=>iE h fun h1 h=>bE h fun r1 h2 h=>cE h (fun h3 h=>dS h fk30 (xQE x0 x5 x6 x7 r1) (oc4 h0 h1 (xGf h2) h3 on)) fun h3 h=>tS fk30 (xQF x0 x5 x6 x7 r1) (oc4 h0 h1 (xGf h2) h3 on) (ih _ _ _ _ _ h)) fun h0 h=>bE h fun r1 h1 h=>cE h (fun h2 h=>bE h fun r2 h3 h=>dS h fk30 (xQG x0 x5 x6 x7 r1 r2) (oc4 h0 (xEN h1) h2 (xHD h3) on)) fun h2 h=>dS h fk30 (xQH x0 x5 x6 x7 r1) (oc3 h0 (xEN h1) h2 on)
theorem xTJ{N:Nat}:∀a0 r,xEp N a0=some r→RE Tryz.f30 I30 (xB0 a0) (xAL r):=fun a0 r h=>tE fk30 (xQI a0) on (xTI _ _ _ _ _ _ h)
theorem xCD{N:Nat}{a0:List Str}{r:Bool}(h:xEp N  a0=some r):AbC 30 (xB0 a0) (xAL r):=
 AbsCalls.of_reach fk30 rfl rfl rfl (jL rfl) (xTJ a0 r h)
noncomputable def I44:Info:= { body:=(Tryz.f44.body).getD .skip,nt:=77,results:=[.tmp 2],keep:=[0,2,4,8,12,14,16,36,40,42,44,46,64,68,70,72,74,84,90,92,94,96,148,3,9,17],live:=[(4,[2,40,42,44,3]),(9,[2,8,40,42,44,68,70,72,3,9]),(15,[2,8,40,42,44,90,92,94,3,9])],modes:=[(1,[(4,.take,false)]),(11,[(0,.take,false)]),(13,[(1,.take,false)]),(17,[(3,.take,false),(8,.take,false),(11,.take,false)]),(19,[(1,.take,false)]),(20,[(1,.take,false)])] }
theorem fk44:FnOk Tryz.prog 44 Tryz.f44 I44:=by refine⟨Tryz.func44,?_,?_,?_,?_⟩<;>kernel_rfl
def xKP(x20:List Rowd)(x21 x22:Int)(b1:Val):St:=[(2,.v false [.ptr 1 0]),(40,.v false [.sl .ro .row x20]),(42,.v false [.int .i64 x21]),(44,.v false [.int .i64 x22]),(3,.v true (Va .ro b1))]
def xMJ(x20:List Rowd)(x21 x22:Int)(x34:List Int)(x35 x36:Int)(b1:Val)(b4:Rowd):St:=[(2,.v false [.ptr 1 0]),(8,.v false [.ptr 4 0]),(40,.v false [.sl .ro .row x20]),(42,.v false [.int .i64 x21]),(44,.v false [.int .i64 x22]),(68,.v false [.sl .ro .int x34]),(70,.v false [.int .i64 x35]),(72,.v false [.int .i64 x36]),(3,.v true (Va .ro b1)),(9,.v true [.sl .ro .int b4.cells,.sl .ro .org b4.frm])]
def xHu(x20:List Rowd)(x21 x22:Int)(x45:List Org)(x46 x47:Int)(b1:Val)(b4:Rowd):St:=[(2,.v false [.ptr 1 0]),(8,.v false [.ptr 4 0]),(40,.v false [.sl .ro .row x20]),(42,.v false [.int .i64 x21]),(44,.v false [.int .i64 x22]),(90,.v false [.sl .ro .org x45]),(92,.v false [.int .i64 x46]),(94,.v false [.int .i64 x47]),(3,.v true (Va .ro b1)),(9,.v true [.sl .ro .int b4.cells,.sl .ro .org b4.frm])]
abbrev xNC(v0:List Org)(v1:Int):=((Org.cell (gD v0 (tN v1) Ty.org.dflt)):Int)
def xO7(x20 x21 x22 x45 x46 x47 b1 b4):rS 15 I44 (xHu x20 x21 x22 x45 x46 x47 b1 b4) [Y,Y,Y,Y] []=dn (xBf false) [xDm x47 x46,xFU x47 x45,iY (dc ((xNC x45 x47)<0)),iY true,iY true]:=by kernel_rfl
abbrev xMv(v0:List Org)(v1:Int):Prop:=iN (dc ((xNC v0 v1)<0))
abbrev xND(v0:List Org)(v1:Int):=((Org.row (gD v0 (tN v1) Ty.org.dflt)):Int)
def xO8(x20 x21 x22 x45 x46 x47 b1 b4):rS 15 I44 (xHu x20 x21 x22 x45 x46 x47 b1 b4) [Y,F,Y,Y] []=dn (xBf false) [xDm x47 x46,xFU x47 x45,xMv x45 x47,iY (dc ((xND x45 x47)<0)),iY true]:=by kernel_rfl
abbrev xNL(v0:List Org)(v1:Int):Prop:=iN (dc ((xND v0 v1)<0))
def xO9(x20 x21 x22 x45 x46 x47 b1 b4 r1):rS 15 I44 (xHu x20 x21 x22 x45 x46 x47 b1 b4) [Y,F,F,Y,Y] [xBx r1]=dn (xBf false) [xDm x47 x46,xFU x47 x45,xMv x45 x47,xNL x45 x47,iY (dc (x47>0)),(0:Int)≤(W (x47 - 1))∧(W (x47 - 1))<(Ln b4.frm),AbC 21 (xCa (gD b4.frm (tN (W (x47 - 1))) Ty.org.dflt) (xEG x45 x47)) (xBx r1),iY (!r1)]:=by kernel_rfl
def xPa(x20 x21 x22 x45 x46 x47 b1 b4 r1):rS 15 I44 (xHu x20 x21 x22 x45 x46 x47 b1 b4) [Y,F,F,Y,F] [xBx r1]=st 15 I44 (xHu x20 x21 x22 x45 x46 (W (x47+1)) b1 b4) [xDm x47 x46,xFU x47 x45,xMv x45 x47,xNL x45 x47,iY (dc (x47>0)),(0:Int)≤(W (x47 - 1))∧(W (x47 - 1))<(Ln b4.frm),AbC 21 (xCa (gD b4.frm (tN (W (x47 - 1))) Ty.org.dflt) (xEG x45 x47)) (xBx r1),iN (!r1)]:=by kernel_rfl
def xPb(x20 x21 x22 x45 x46 x47 b1 b4):rS 15 I44 (xHu x20 x21 x22 x45 x46 x47 b1 b4) [Y,F,F,F,F] []=st 15 I44 (xHu x20 x21 x22 x45 x46 (W (x47+1)) b1 b4) [xDm x47 x46,xFU x47 x45,xMv x45 x47,xNL x45 x47,iN (dc (x47>0)),iN false]:=by kernel_rfl
def xPc(x20 x21 x22 x45 x46 x47 b1 b4):rS 15 I44 (xHu x20 x21 x22 x45 x46 x47 b1 b4) [F] []=st 4 I44 (xKP x20 x21 (W (x22+1)) b1) [xE1 x47 x46]:=by kernel_rfl
abbrev xJH(v0:List Int)(v1:Int):=gD v0 (tN v1) Ty.int.dflt
def xRi(x20 x21 x22 x34 x35 x36 b1 b4 r1):rS 9 I44 (xMJ x20 x21 x22 x34 x35 x36 b1 b4) [Y,Y] [xBw r1]=dn (xBf false) [xDm x36 x35,xGP x36 x34,AbC 41 (xCr (xJH x34 x36)) (xBw r1),iY (!r1)]:=by kernel_rfl
def xRj(x20 x21 x22 x34 x35 x36 b1 b4 r1):rS 9 I44 (xMJ x20 x21 x22 x34 x35 x36 b1 b4) [Y,F] [xBw r1]=st 9 I44 (xMJ x20 x21 x22 x34 x35 (W (x36+1)) b1 b4) [xDm x36 x35,xGP x36 x34,AbC 41 (xCr (xJH x34 x36)) (xBw r1),iN (!r1)]:=by kernel_rfl
def xRk(x20 x21 x22 x34 x35 x36 b1 b4):rS 9 I44 (xMJ x20 x21 x22 x34 x35 x36 b1 b4) [F] []=st 15 I44 (xHu x20 x21 x22 b4.frm (Ln b4.frm:Int) 0 b1 b4) [xE1 x36 x35]:=by kernel_rfl
abbrev xJp(v0:Int)(v1:List Rowd):Prop:=(0:Int)≤v0∧v0<(Ln v1)
abbrev xH4(v0:Val):=(Ln v0.columns:Int)
def xRh(x20 x21 x22 b1):rS 4 I44 (xKP x20 x21 x22 b1) [Y,Y] []=dn (xBf false) [xDm x22 x21,xJp x22 x20,iY (((Ln (Rowd.cells (gD x20 (tN x22) rd)):Int):Int) != (xH4 b1))]:=by kernel_rfl
def xPd(x20 x21 x22 b1):rS 4 I44 (xKP x20 x21 x22 b1) [Y,F] []=st 9 I44 (xMJ x20 x21 x22 (Rowd.cells (gD x20 (tN x22) rd)) (Ln (Rowd.cells (gD x20 (tN x22) rd)):Int) 0 b1 (gD x20 (tN x22) rd)) [xDm x22 x21,xJp x22 x20,iN (((Ln (Rowd.cells (gD x20 (tN x22) rd)):Int):Int) != (xH4 b1))]:=by kernel_rfl
def xPe(x20 x21 x22 b1):rS 4 I44 (xKP x20 x21 x22 b1) [F] []=dn (xBf true) [xE1 x22 x21]:=by kernel_rfl
def xPf(a0 r1):rE I44 (xDs a0) [Y,Y] [xAL r1]=dn (xBf false) [AbC 30 (xB0 a0.columns) (xAL r1),iY (!r1),iY true]:=by kernel_rfl
def xPg(a0 r1):rE I44 (xDs a0) [F,Y] [xAL r1]=dn (xBf false) [AbC 30 (xB0 a0.columns) (xAL r1),iN (!r1),iY (dc ((xD0 a0)>12))]:=by kernel_rfl
def xPh(a0 r1):rE I44 (xDs a0) [F,F] [xAL r1]=st 4 I44 (xKP a0.rows (xD0 a0) 0 a0) [AbC 30 (xB0 a0.columns) (xAL r1),iN (!r1),iN (dc ((xD0 a0)>12))]:=by kernel_rfl
theorem xSE{N:Nat}{k4:(List Rowd)→Int→Int→Val→Option (Bool)}(hk4:∀z0 z1 z2 z3 r,k4 z0 z1 z2 z3=some r→RS Tryz.f44 I44 4 (xKP z0 z1 z2 z3) (xBf r)):∀n x20 x21 x22 x45 x46 x47 b1 b4 r,xET N k4 n x20 x21 x22 x45 x46 x47 b1 b4=some r→RS Tryz.f44 I44 15 (xHu x20 x21 x22 x45 x46 x47 b1 b4) (xBf r):=by
 intro n
 induction n with
 |zero=>exact fun _ _ _ _ _ _ _ _ _ h=>nE h
 |succ n ih=>
  exact fun x20 x21 x22 x45 x46 x47 b1 b4 r h=>cE h (fun h0 h=>iE h fun h1 h=>cE h (fun h2 h=>dS h fk44 (xO7 x20 x21 x22 x45 x46 x47 b1 b4) (oc5 h0 h1 h2 rfl rfl on)) fun h2 h=>cE h (fun h3 h=>dS h fk44 (xO8 x20 x21 x22 x45 x46 x47 b1 b4) (oc5 h0 h1 h2 h3 rfl on)) fun h3 h=>cE h (fun h4 h=>iE h fun h5 h=>bE h fun r1 h6 h=>cE h (fun h7 h=>dS h fk44 (xO9 x20 x21 x22 x45 x46 x47 b1 b4 r1) (oc8 h0 h1 h2 h3 h4 h5 (xEF h6) h7 on)) fun h7 h=>tS fk44 (xPa x20 x21 x22 x45 x46 x47 b1 b4 r1) (oc8 h0 h1 h2 h3 h4 h5 (xEF h6) h7 on) (ih _ _ _ _ _ _ _ _ _ h)) fun h4 h=>tS fk44 (xPb x20 x21 x22 x45 x46 x47 b1 b4) (oc6 h0 h1 h2 h3 h4 rfl on) (ih _ _ _ _ _ _ _ _ _ h)) fun h0 h=>tS fk44 (xPc x20 x21 x22 x45 x46 x47 b1 b4) (oc h0 on) (hk4 _ _ _ _ _ h)
theorem xTZ{N:Nat}{k4:(List Rowd)→Int→Int→Val→Option (Bool)}(hk4:∀z0 z1 z2 z3 r,k4 z0 z1 z2 z3=some r→RS Tryz.f44 I44 4 (xKP z0 z1 z2 z3) (xBf r)):∀n x20 x21 x22 x34 x35 x36 b1 b4 r,xGh N k4 n x20 x21 x22 x34 x35 x36 b1 b4=some r→RS Tryz.f44 I44 9 (xMJ x20 x21 x22 x34 x35 x36 b1 b4) (xBf r):=by
 intro n
 induction n with
 |zero=>exact fun _ _ _ _ _ _ _ _ _ h=>nE h
 |succ n ih=>
  exact fun x20 x21 x22 x34 x35 x36 b1 b4 r h=>cE h (fun h0 h=>iE h fun h1 h=>bE h fun r1 h2 h=>cE h (fun h3 h=>dS h fk44 (xRi x20 x21 x22 x34 x35 x36 b1 b4 r1) (oc4 h0 h1 (xDz h2) h3 on)) fun h3 h=>tS fk44 (xRj x20 x21 x22 x34 x35 x36 b1 b4 r1) (oc4 h0 h1 (xDz h2) h3 on) (ih _ _ _ _ _ _ _ _ _ h)) fun h0 h=>tS fk44 (xRk x20 x21 x22 x34 x35 x36 b1 b4) (oc h0 on) (xSE hk4 _ _ _ _ _ _ _ _ _ _ h)
theorem xTY{N:Nat}:∀n x20 x21 x22 b1 r,xGg N n x20 x21 x22 b1=some r→RS Tryz.f44 I44 4 (xKP x20 x21 x22 b1) (xBf r):=by
 intro n
 induction n with
 |zero=>exact fun _ _ _ _ _ h=>nE h
 |succ n ih=>
  exact fun x20 x21 x22 b1 r h=>cE h (fun h0 h=>iE h fun h1 h=>cE h (fun h2 h=>dS h fk44 (xRh x20 x21 x22 b1) (oc3 h0 h1 h2 on)) fun h2 h=>tS fk44 (xPd x20 x21 x22 b1) (oc3 h0 h1 h2 on) (xTZ ih _ _ _ _ _ _ _ _ _ _ h)) fun h0 h=>dS h fk44 (xPe x20 x21 x22 b1) (oc h0 on)
theorem xT0{N:Nat}:∀a0 r,xGs N a0=some r→RE Tryz.f44 I44 (xDs a0) (xBf r):=fun a0 r h=>bE h fun r1 h0 h=>cE h (fun h1 h=>dE h fk44 (xPf a0 r1) (oc3 (xCD h0) h1 rfl on)) fun h1 h=>cE h (fun h2 h=>dE h fk44 (xPg a0 r1) (oc3 (xCD h0) h1 h2 on)) fun h2 h=>tE fk44 (xPh a0 r1) (oc3 (xCD h0) h1 h2 on) (xTY _ _ _ _ _ _ h)
theorem xHh{N:Nat}{a0:Val}{r:Bool}(h:xGs N  a0=some r):AbC 44 (xDs a0) (xBf r):=
 AbsCalls.of_reach fk44 rfl rfl rfl (jL rfl) (xT0 a0 r h)
def G45(q:Val→Option (Int)):Prop:=∀a0 r,q a0=some r→AbC 45 (xDr a0) (xCn r)
noncomputable def I45:Info:= { body:=(Tryz.f45.body).getD .skip,nt:=20,results:=[.tmp 2],keep:=[0,2,4,6,10,14,16,18,20,3,11],live:=[(3,[6,14,16,18])],modes:=[(6,[(1,.take,false)])] }
theorem fk45:FnOk Tryz.prog 45 Tryz.f45 I45:=by refine⟨Tryz.func45,?_,?_,?_,?_⟩<;>kernel_rfl
def xNj(x3:Int)(x7:List Val)(x8 x9:Int):St:=[(6,.v false [.int .i64 x3]),(14,.v false [.sl .ro .val x7]),(16,.v false [.int .i64 x8]),(18,.v false [.int .i64 x9])]
def xRl(x3 x7 x8 x9 r1):rS 3 I45 (xNj x3 x7 x8 x9) [Y] [xCn r1]=st 3 I45 (xNj (if r1>x3 then r1 else x3) x7 x8 (W (x9+1))) [xDm x9 x8,xEZ x9 x7,AbC 45 (xDr (xGi x7 x9)) (xCn r1)]:=by kernel_rfl
def xRm(x3 x7 x8 x9):rS 3 I45 (xNj x3 x7 x8 x9) [F] []=dn (xCn (W (x3+1))) [xE1 x9 x8]:=by kernel_rfl
def xRn(a0):rE I45 (xDr a0) [] []=st 3 I45 (xNj 0 a0.list (xG0 a0) 0) []:=by kernel_rfl
theorem xT1{N q0}(g0:G45 q0):∀n x3 x7 x8 x9 r,xGb N q0 n x3 x7 x8 x9=some r→RS Tryz.f45 I45 3 (xNj x3 x7 x8 x9) (xCn r):=by
 intro n
 induction n with
 |zero=>exact fun _ _ _ _ _ h=>nE h
 |succ n ih=>
  exact fun x3 x7 x8 x9 r h=>cE h (fun h0 h=>iE h fun h1 h=>bE h fun r1 h2 h=>tS fk45 (xRl x3 x7 x8 x9 r1) (oc3 h0 h1 (g0 _ _ h2) on) (ih _ _ _ _ _ h)) fun h0 h=>dS h fk45 (xRm x3 x7 x8 x9) (oc h0 on)
theorem xT2{N q0}(g0:G45 q0):∀a0 r,xFq N q0 a0=some r→RE Tryz.f45 I45 (xDr a0) (xCn r):=fun a0 r h=>tE fk45 (xRn a0) on (xT1 g0 _ _ _ _ _ _ h)
theorem xHr{N q0}(g0:G45 q0){a0}{r}(h:xFq N q0 a0=some r):AbC 45 (xDr a0) (xCn r):=
 AbsCalls.of_reach fk45 rfl rfl rfl (jL rfl) (xT2 g0 a0 r h)
theorem xGc{N:Nat}:∀d,G45 (xFL N d)
 |0=>fun _ _ h=>nE h
 |d+1=>fun _ _ h=>xHr (N:=N) (xGc d) h
theorem xIy{N:Nat}{a0:Val}{r:Int}(h:xIa N a0=some r):AbC 45 (xDr a0) (xCn r):=xGc N _ r h
end Go.Ab.T
end
section
open Go.Proofs
namespace Go.Ab.T
set_option maxRecDepth 100000
variable [Inhabited Lb]
def G25(q:Val→Option (Bool)):Prop:=∀a0 r,q a0=some r→AbC 25 (xAe a0) (xAb r)
noncomputable def I25:Info:= { body:=(Tryz.f25.body).getD .skip,nt:=185,results:=[.tmp 2],keep:=[0,2,4,6,10,46,48,84,120,156,192,242,248,250,252,254,294,3,11],live:=[(15,[2,248,250,252,3])],modes:=[(1,[(4,.take,false),(10,.take,false)]),(4,[(1,.take,false),(6,.take,false),(11,.take,false)]),(6,[(1,.take,false),(6,.take,false),(11,.take,false)]),(8,[(1,.take,false),(6,.take,false),(11,.take,false)]),(10,[(1,.take,false),(6,.take,false),(11,.take,false)]),(12,[(3,.take,false),(8,.take,false),(13,.take,false),(19,.take,false)]),(17,[(3,.take,false),(8,.take,false),(13,.take,false)]),(19,[(1,.take,false)]),(20,[(3,.take,false),(8,.take,false),(13,.take,false),(19,.take,false),(25,.take,false),(31,.take,false)])] }
theorem fk25:FnOk Tryz.prog 25 Tryz.f25 I25:=by refine⟨Tryz.func25,?_,?_,?_,?_⟩<;>kernel_rfl
def xE4(x124:List Val)(x125 x126:Int)(b1:Val):St:=[(2,.v false [.ptr 1 0]),(248,.v false [.sl .ro .val x124]),(250,.v false [.int .i64 x125]),(252,.v false [.int .i64 x126]),(3,.v true (Va .ro b1))]
abbrev xFT(v0:List Val)(v1:Int):=((Val.kind (gD v0 (tN v1) vd)):Int)
abbrev xJq(v0:List Val)(v1:Int):Prop:=iY ((xFT v0 v1) != 1)
abbrev xNM(v0:List Val)(v1:Int):Prop:=iY ((xFT v0 v1) != 2)
def xOb(x124 x125 x126 b1):rS 15 I25 (xE4 x124 x125 x126 b1) [Y,Y,Y,Y,Y] []=dn (xAb false) [xDm x126 x125,xEZ x126 x124,xJq x124 x126,xNM x124 x126,iY ((xFT x124 x126) != 3),iY true]:=by kernel_rfl
abbrev xMw(v0:List Val)(v1:Int):Prop:=iN ((xFT v0 v1) != 3)
abbrev xHQ(v0:List Val)(v1:Int)(v2:Bool):Prop:=AbC 25 (xAe (xGi v0 v1)) (xAb v2)
def xOc(x124 x125 x126 b1 r1):rS 15 I25 (xE4 x124 x125 x126 b1) [Y,Y,Y,F,Y] [xAb r1]=dn (xAb false) [xDm x126 x125,xEZ x126 x124,xJq x124 x126,xNM x124 x126,xMw x124 x126,xHQ x124 x126 r1,iY (!r1)]:=by kernel_rfl
def xOd(x124 x125 x126 b1 r1):rS 15 I25 (xE4 x124 x125 x126 b1) [Y,Y,Y,F,F] [xAb r1]=st 15 I25 (xE4 x124 x125 (W (x126+1)) b1) [xDm x126 x125,xEZ x126 x124,xJq x124 x126,xNM x124 x126,xMw x124 x126,xHQ x124 x126 r1,iN (!r1)]:=by kernel_rfl
def xOe(x124 x125 x126 b1 r1):rS 15 I25 (xE4 x124 x125 x126 b1) [Y,Y,F,F,Y] [xAb r1]=dn (xAb false) [xDm x126 x125,xEZ x126 x124,xJq x124 x126,iN ((xFT x124 x126) != 2),iN false,xHQ x124 x126 r1,iY (!r1)]:=by kernel_rfl
def xOf(x124 x125 x126 b1 r1):rS 15 I25 (xE4 x124 x125 x126 b1) [Y,Y,F,F,F] [xAb r1]=st 15 I25 (xE4 x124 x125 (W (x126+1)) b1) [xDm x126 x125,xEZ x126 x124,xJq x124 x126,iN ((xFT x124 x126) != 2),iN false,xHQ x124 x126 r1,iN (!r1)]:=by kernel_rfl
abbrev xNN(v0:List Val)(v1:Int):Prop:=iN ((xFT v0 v1) != 1)
def xOg(x124 x125 x126 b1 r1):rS 15 I25 (xE4 x124 x125 x126 b1) [Y,F,F,F,Y] [xAb r1]=dn (xAb false) [xDm x126 x125,xEZ x126 x124,xNN x124 x126,iN false,iN false,xHQ x124 x126 r1,iY (!r1)]:=by kernel_rfl
def xOh(x124 x125 x126 b1 r1):rS 15 I25 (xE4 x124 x125 x126 b1) [Y,F,F,F,F] [xAb r1]=st 15 I25 (xE4 x124 x125 (W (x126+1)) b1) [xDm x126 x125,xEZ x126 x124,xNN x124 x126,iN false,iN false,xHQ x124 x126 r1,iN (!r1)]:=by kernel_rfl
abbrev xFH(v0:Val):Prop:=iY (v0.n==0)
abbrev xF0(v0:Val):Prop:=iY (v0.step==0)
abbrev xHm(v0:Val):Prop:=iY ((v0.text:Str)== [])
abbrev xD6(v0:Val):Prop:=iY ((xH4 v0)==0)
abbrev xGv(v0:Val):Prop:=iY ((xD0 v0)==0)
def xOi(x124 x125 x126 b1 r1):rS 15 I25 (xE4 x124 x125 x126 b1) [F,Y,Y,Y,Y,Y,Y] [xCn r1]=dn (xAb (dc (r1≤3))) [xE1 x126 x125,xFH b1,xF0 b1,xHm b1,xD6 b1,xGv b1,iY (dc ((xG0 b1)≤8)),AbC 45 (xDr b1) (xCn r1)]:=by kernel_rfl
def xOj(x124 x125 x126 b1):rS 15 I25 (xE4 x124 x125 x126 b1) [F,Y,Y,Y,Y,Y,F] []=dn (xAb false) [xE1 x126 x125,xFH b1,xF0 b1,xHm b1,xD6 b1,xGv b1,iN (dc ((xG0 b1)≤8))]:=by kernel_rfl
abbrev xK0(v0:Val):Prop:=iN ((xD0 v0)==0)
def xOk(x124 x125 x126 b1):rS 15 I25 (xE4 x124 x125 x126 b1) [F,Y,Y,Y,Y,F,F] []=dn (xAb false) [xE1 x126 x125,xFH b1,xF0 b1,xHm b1,xD6 b1,xK0 b1,iN false]:=by kernel_rfl
abbrev xHn(v0:Val):Prop:=iN ((xH4 v0)==0)
def xNQ(x124 x125 x126 b1):rS 15 I25 (xE4 x124 x125 x126 b1) [F,Y,Y,Y,F,F,F] []=dn (xAb false) [xE1 x126 x125,xFH b1,xF0 b1,xHm b1,xHn b1,iN false,iN false]:=by kernel_rfl
abbrev xIG(v0:Val):Prop:=iN ((v0.text:Str)== [])
def xNR(x124 x125 x126 b1):rS 15 I25 (xE4 x124 x125 x126 b1) [F,Y,Y,F,F,F,F] []=dn (xAb false) [xE1 x126 x125,xFH b1,xF0 b1,xIG b1,iN false,iN false,iN false]:=by kernel_rfl
abbrev xIH(v0:Val):Prop:=iN (v0.step==0)
def xNS(x124 x125 x126 b1):rS 15 I25 (xE4 x124 x125 x126 b1) [F,Y,F,F,F,F,F] []=dn (xAb false) [xE1 x126 x125,xFH b1,xIH b1,iN false,iN false,iN false,iN false]:=by kernel_rfl
def xNT(x124 x125 x126 b1):rS 15 I25 (xE4 x124 x125 x126 b1) [F,F,F,F,F,F,F] []=dn (xAb false) [xE1 x126 x125,iN (b1.n==0),iN false,iN false,iN false,iN false,iN false]:=by kernel_rfl
abbrev xC5(v0:Val):Prop:=iY ((xG0 v0)==0)
abbrev xJr(v0:Val):Prop:=iY (v0.kind==1)
def xOl(a0 r1):rE I25 (xAe a0) [Y,Y,Y,Y,Y,Y] [xBw r1]=dn (xAb r1) [xC5 a0,xD6 a0,xJr a0,xGv a0,xF0 a0,xHm a0,AbC 41 (xCr a0.n) (xBw r1)]:=by kernel_rfl
def xOm(a0):rE I25 (xAe a0) [Y,Y,Y,Y,Y,F] []=dn (xAb false) [xC5 a0,xD6 a0,xJr a0,xGv a0,xF0 a0,xIG a0]:=by kernel_rfl
def xOn(a0):rE I25 (xAe a0) [Y,Y,Y,Y,F,F] []=dn (xAb false) [xC5 a0,xD6 a0,xJr a0,xGv a0,xIH a0,iN false]:=by kernel_rfl
def xOo(a0):rE I25 (xAe a0) [Y,Y,Y,F,F,F] []=dn (xAb false) [xC5 a0,xD6 a0,xJr a0,xK0 a0,iN false,iN false]:=by kernel_rfl
abbrev xCX(v0:Val):Prop:=iN (v0.kind==1)
abbrev xJs(v0:Val):Prop:=iY (v0.kind==2)
def xOp(a0 r1):rE I25 (xAe a0) [Y,Y,F,Y,Y,Y,Y] [xB4 r1]=dn (xAb r1) [xC5 a0,xD6 a0,xCX a0,xJs a0,xGv a0,xFH a0,xF0 a0,AbC 42 (xDX a0.text) (xB4 r1)]:=by kernel_rfl
def xOq(a0):rE I25 (xAe a0) [Y,Y,F,Y,Y,Y,F] []=dn (xAb false) [xC5 a0,xD6 a0,xCX a0,xJs a0,xGv a0,xFH a0,xIH a0]:=by kernel_rfl
def xOr(a0):rE I25 (xAe a0) [Y,Y,F,Y,Y,F,F] []=dn (xAb false) [xC5 a0,xD6 a0,xCX a0,xJs a0,xGv a0,iN (a0.n==0),iN false]:=by kernel_rfl
def xOs(a0):rE I25 (xAe a0) [Y,Y,F,Y,F,F,F] []=dn (xAb false) [xC5 a0,xD6 a0,xCX a0,xJs a0,xK0 a0,iN false,iN false]:=by kernel_rfl
abbrev xDx(v0:Val):Prop:=iN (v0.kind==2)
abbrev xJt(v0:Val):Prop:=iY (v0.kind==4)
def xOt(a0 r1 r2):rE I25 (xAe a0) [Y,Y,F,F,Y,Y,Y,Y] [xBw r1,xBw r2]=dn (xAb r2) [xC5 a0,xD6 a0,xCX a0,xDx a0,xJt a0,xGv a0,xHm a0,AbC 41 (xCr a0.n) (xBw r1),iY r1,AbC 41 (xCr a0.step) (xBw r2)]:=by kernel_rfl
def xOu(a0 r1):rE I25 (xAe a0) [Y,Y,F,F,Y,Y,Y,F] [xBw r1]=dn (xAb false) [xC5 a0,xD6 a0,xCX a0,xDx a0,xJt a0,xGv a0,xHm a0,AbC 41 (xCr a0.n) (xBw r1),iN r1]:=by kernel_rfl
def xOv(a0):rE I25 (xAe a0) [Y,Y,F,F,Y,Y,F,F] []=dn (xAb false) [xC5 a0,xD6 a0,xCX a0,xDx a0,xJt a0,xGv a0,xIG a0,iN false]:=by kernel_rfl
def xOw(a0):rE I25 (xAe a0) [Y,Y,F,F,Y,F,F,F] []=dn (xAb false) [xC5 a0,xD6 a0,xCX a0,xDx a0,xJt a0,xK0 a0,iN false,iN false]:=by kernel_rfl
abbrev xEi(v0:Val):Prop:=iN (v0.kind==4)
abbrev xJu(v0:Val):Prop:=iY (v0.kind==6)
def xOx(a0 r1):rE I25 (xAe a0) [Y,Y,F,F,F,Y,Y,Y,Y] [xB2 r1]=dn (xAb r1) [xC5 a0,xD6 a0,xCX a0,xDx a0,xEi a0,xJu a0,xGv a0,xF0 a0,xHm a0,AbC 43 (xC0 a0.n 1 8) (xB2 r1)]:=by kernel_rfl
def xOy(a0):rE I25 (xAe a0) [Y,Y,F,F,F,Y,Y,Y,F] []=dn (xAb false) [xC5 a0,xD6 a0,xCX a0,xDx a0,xEi a0,xJu a0,xGv a0,xF0 a0,xIG a0]:=by kernel_rfl
def xOz(a0):rE I25 (xAe a0) [Y,Y,F,F,F,Y,Y,F,F] []=dn (xAb false) [xC5 a0,xD6 a0,xCX a0,xDx a0,xEi a0,xJu a0,xGv a0,xIH a0,iN false]:=by kernel_rfl
def xOA(a0):rE I25 (xAe a0) [Y,Y,F,F,F,Y,F,F,F] []=dn (xAb false) [xC5 a0,xD6 a0,xCX a0,xDx a0,xEi a0,xJu a0,xK0 a0,iN false,iN false]:=by kernel_rfl
abbrev xFi(v0:Val):Prop:=iN (v0.kind==6)
abbrev xG4(v0:Val):Prop:=iY (v0.kind==5)
def xOB(a0 r1):rE I25 (xAe a0) [Y,Y,F,F,F,F,Y,Y,Y,Y,Y] [xBf r1]=dn (xAb r1) [xC5 a0,xD6 a0,xCX a0,xDx a0,xEi a0,xFi a0,xG4 a0,xFH a0,xF0 a0,xHm a0,xC5 a0,AbC 44 (xDs a0) (xBf r1)]:=by kernel_rfl
def xOC(a0):rE I25 (xAe a0) [Y,Y,F,F,F,F,Y,Y,Y,F,F] []=dn (xAb false) [xC5 a0,xD6 a0,xCX a0,xDx a0,xEi a0,xFi a0,xG4 a0,xFH a0,xF0 a0,xIG a0,iN false]:=by kernel_rfl
def xOD(a0):rE I25 (xAe a0) [Y,Y,F,F,F,F,Y,Y,F,F,F] []=dn (xAb false) [xC5 a0,xD6 a0,xCX a0,xDx a0,xEi a0,xFi a0,xG4 a0,xFH a0,xIH a0,iN false,iN false]:=by kernel_rfl
def xOE(a0):rE I25 (xAe a0) [Y,Y,F,F,F,F,Y,F,F,F,F] []=dn (xAb false) [xC5 a0,xD6 a0,xCX a0,xDx a0,xEi a0,xFi a0,xG4 a0,iN (a0.n==0),iN false,iN false,iN false]:=by kernel_rfl
abbrev xJv(v0:Val):Prop:=iN (v0.kind==5)
abbrev xL9(v0:Val):=xE4 v0.list (Ln v0.list:Int) 0 v0
def xOF(a0):rE I25 (xAe a0) [Y,Y,F,F,F,F,F,Y] []=st 15 I25 (xL9 a0) [xC5 a0,xD6 a0,xCX a0,xDx a0,xEi a0,xFi a0,xJv a0,iY (a0.kind==3)]:=by kernel_rfl
def xOG(a0):rE I25 (xAe a0) [Y,Y,F,F,F,F,F,F] []=dn (xAb false) [xC5 a0,xD6 a0,xCX a0,xDx a0,xEi a0,xFi a0,xJv a0,iN (a0.kind==3)]:=by kernel_rfl
def xOH(a0):rE I25 (xAe a0) [Y,F,Y,F,F,F] []=dn (xAb false) [xC5 a0,xHn a0,xJr a0,iN false,iN false,iN false]:=by kernel_rfl
def xOI(a0):rE I25 (xAe a0) [Y,F,F,Y,F,F,F] []=dn (xAb false) [xC5 a0,xHn a0,xCX a0,xJs a0,iN false,iN false,iN false]:=by kernel_rfl
def xOJ(a0):rE I25 (xAe a0) [Y,F,F,F,Y,F,F,F] []=dn (xAb false) [xC5 a0,xHn a0,xCX a0,xDx a0,xJt a0,iN false,iN false,iN false]:=by kernel_rfl
def xOK(a0):rE I25 (xAe a0) [Y,F,F,F,F,Y,F,F,F] []=dn (xAb false) [xC5 a0,xHn a0,xCX a0,xDx a0,xEi a0,xJu a0,iN false,iN false,iN false]:=by kernel_rfl
def xOL(a0 r1):rE I25 (xAe a0) [Y,F,F,F,F,F,Y,Y,Y,Y,Y] [xBf r1]=dn (xAb r1) [xC5 a0,xHn a0,xCX a0,xDx a0,xEi a0,xFi a0,xG4 a0,xFH a0,xF0 a0,xHm a0,xC5 a0,AbC 44 (xDs a0) (xBf r1)]:=by kernel_rfl
def xOM(a0):rE I25 (xAe a0) [Y,F,F,F,F,F,Y,Y,Y,F,F] []=dn (xAb false) [xC5 a0,xHn a0,xCX a0,xDx a0,xEi a0,xFi a0,xG4 a0,xFH a0,xF0 a0,xIG a0,iN false]:=by kernel_rfl
def xON(a0):rE I25 (xAe a0) [Y,F,F,F,F,F,Y,Y,F,F,F] []=dn (xAb false) [xC5 a0,xHn a0,xCX a0,xDx a0,xEi a0,xFi a0,xG4 a0,xFH a0,xIH a0,iN false,iN false]:=by kernel_rfl
def xOO(a0):rE I25 (xAe a0) [Y,F,F,F,F,F,Y,F,F,F,F] []=dn (xAb false) [xC5 a0,xHn a0,xCX a0,xDx a0,xEi a0,xFi a0,xG4 a0,iN (a0.n==0),iN false,iN false,iN false]:=by kernel_rfl
def xOP(a0):rE I25 (xAe a0) [Y,F,F,F,F,F,F,Y] []=st 15 I25 (xL9 a0) [xC5 a0,xHn a0,xCX a0,xDx a0,xEi a0,xFi a0,xJv a0,iY (a0.kind==3)]:=by kernel_rfl
def xOQ(a0):rE I25 (xAe a0) [Y,F,F,F,F,F,F,F] []=dn (xAb false) [xC5 a0,xHn a0,xCX a0,xDx a0,xEi a0,xFi a0,xJv a0,iN (a0.kind==3)]:=by kernel_rfl
abbrev xHo(v0:Val):Prop:=iN ((xG0 v0)==0)
def xOR(a0):rE I25 (xAe a0) [F,F,Y,F,F,F] []=dn (xAb false) [xHo a0,iN false,xJr a0,iN false,iN false,iN false]:=by kernel_rfl
def xOS(a0):rE I25 (xAe a0) [F,F,F,Y,F,F,F] []=dn (xAb false) [xHo a0,iN false,xCX a0,xJs a0,iN false,iN false,iN false]:=by kernel_rfl
def xOT(a0):rE I25 (xAe a0) [F,F,F,F,Y,F,F,F] []=dn (xAb false) [xHo a0,iN false,xCX a0,xDx a0,xJt a0,iN false,iN false,iN false]:=by kernel_rfl
def xOU(a0):rE I25 (xAe a0) [F,F,F,F,F,Y,F,F,F] []=dn (xAb false) [xHo a0,iN false,xCX a0,xDx a0,xEi a0,xJu a0,iN false,iN false,iN false]:=by kernel_rfl
def xOV(a0):rE I25 (xAe a0) [F,F,F,F,F,F,Y,Y,Y,Y,F] []=dn (xAb false) [xHo a0,iN false,xCX a0,xDx a0,xEi a0,xFi a0,xG4 a0,xFH a0,xF0 a0,xHm a0,xHo a0]:=by kernel_rfl
def xOW(a0):rE I25 (xAe a0) [F,F,F,F,F,F,Y,Y,Y,F,F] []=dn (xAb false) [xHo a0,iN false,xCX a0,xDx a0,xEi a0,xFi a0,xG4 a0,xFH a0,xF0 a0,xIG a0,iN false]:=by kernel_rfl
def xOX(a0):rE I25 (xAe a0) [F,F,F,F,F,F,Y,Y,F,F,F] []=dn (xAb false) [xHo a0,iN false,xCX a0,xDx a0,xEi a0,xFi a0,xG4 a0,xFH a0,xIH a0,iN false,iN false]:=by kernel_rfl
def xOY(a0):rE I25 (xAe a0) [F,F,F,F,F,F,Y,F,F,F,F] []=dn (xAb false) [xHo a0,iN false,xCX a0,xDx a0,xEi a0,xFi a0,xG4 a0,iN (a0.n==0),iN false,iN false,iN false]:=by kernel_rfl
def xOZ(a0):rE I25 (xAe a0) [F,F,F,F,F,F,F,Y] []=st 15 I25 (xL9 a0) [xHo a0,iN false,xCX a0,xDx a0,xEi a0,xFi a0,xJv a0,iY (a0.kind==3)]:=by kernel_rfl
def xO0(a0):rE I25 (xAe a0) [F,F,F,F,F,F,F,F] []=dn (xAb false) [xHo a0,iN false,xCX a0,xDx a0,xEi a0,xFi a0,xJv a0,iN (a0.kind==3)]:=by kernel_rfl
theorem xNp{N q0}(g0:G25 q0):∀n x124 x125 x126 b1 r,xCc N q0 n x124 x125 x126 b1=some r→RS Tryz.f25 I25 15 (xE4 x124 x125 x126 b1) (xAb r):=by
 intro n
 induction n with
 |zero=>exact fun _ _ _ _ _ h=>nE h
 |succ n ih=>
  exact fun x124 x125 x126 b1 r h=>cE h (fun h0 h=>iE h fun h1 h=>cE h (fun h2 h=>cE h (fun h3 h=>cE h (fun h4 h=>dS h fk25 (xOb x124 x125 x126 b1) (oc6 h0 h1 h2 h3 h4 rfl on)) fun h4 h=>bE h fun r1 h5 h=>cE h (fun h6 h=>dS h fk25 (xOc x124 x125 x126 b1 r1) (oc7 h0 h1 h2 h3 h4 (g0 _ _ h5) h6 on)) fun h6 h=>tS fk25 (xOd x124 x125 x126 b1 r1) (oc7 h0 h1 h2 h3 h4 (g0 _ _ h5) h6 on) (ih _ _ _ _ _ h)) fun h3 h=>bE h fun r1 h5 h=>cE h (fun h6 h=>dS h fk25 (xOe x124 x125 x126 b1 r1) (oc7 h0 h1 h2 h3 rfl (g0 _ _ h5) h6 on)) fun h6 h=>tS fk25 (xOf x124 x125 x126 b1 r1) (oc7 h0 h1 h2 h3 rfl (g0 _ _ h5) h6 on) (ih _ _ _ _ _ h)) fun h2 h=>bE h fun r1 h5 h=>cE h (fun h6 h=>dS h fk25 (xOg x124 x125 x126 b1 r1) (oc7 h0 h1 h2 rfl rfl (g0 _ _ h5) h6 on)) fun h6 h=>tS fk25 (xOh x124 x125 x126 b1 r1) (oc7 h0 h1 h2 rfl rfl (g0 _ _ h5) h6 on) (ih _ _ _ _ _ h)) fun h0 h=>cE h (fun h1 h=>cE h (fun h2 h=>cE h (fun h3 h=>cE h (fun h4 h=>cE h (fun h5 h=>cE h (fun h6 h=>bE h fun r1 h7 h=>dS h fk25 (xOi x124 x125 x126 b1 r1) (oc8 h0 h1 h2 h3 h4 h5 h6 (xIy h7) on)) fun h6 h=>dS h fk25 (xOj x124 x125 x126 b1) (oc7 h0 h1 h2 h3 h4 h5 h6 on)) fun h5 h=>dS h fk25 (xOk x124 x125 x126 b1) (oc7 h0 h1 h2 h3 h4 h5 rfl on)) fun h4 h=>dS h fk25 (xNQ x124 x125 x126 b1) (oc7 h0 h1 h2 h3 h4 rfl rfl on)) fun h3 h=>dS h fk25 (xNR x124 x125 x126 b1) (oc7 h0 h1 h2 h3 rfl rfl rfl on)) fun h2 h=>dS h fk25 (xNS x124 x125 x126 b1) (oc7 h0 h1 h2 rfl rfl rfl rfl on)) fun h1 h=>dS h fk25 (xNT x124 x125 x126 b1) (oc7 h0 h1 rfl rfl rfl rfl rfl on)
theorem xTC{N q0}(g0:G25 q0):∀a0 r,xEf N q0 a0=some r→RE Tryz.f25 I25 (xAe a0) (xAb r):=fun a0 r h=>cE h (fun h0 h=>cE h (fun h1 h=>cE h (fun h2 h=>cE h (fun h3 h=>cE h (fun h4 h=>cE h (fun h5 h=>bE h fun r1 h6 h=>dE h fk25 (xOl a0 r1) (oc7 h0 h1 h2 h3 h4 h5 (xDz h6) on)) fun h5 h=>dE h fk25 (xOm a0) (oc6 h0 h1 h2 h3 h4 h5 on)) fun h4 h=>dE h fk25 (xOn a0) (oc6 h0 h1 h2 h3 h4 rfl on)) fun h3 h=>dE h fk25 (xOo a0) (oc6 h0 h1 h2 h3 rfl rfl on)) fun h2 h=>cE h (fun h3 h=>cE h (fun h4 h=>cE h (fun h5 h=>cE h (fun h6 h=>bE h fun r1 h7 h=>dE h fk25 (xOp a0 r1) (oc8 h0 h1 h2 h3 h4 h5 h6 (xHE h7) on)) fun h6 h=>dE h fk25 (xOq a0) (oc7 h0 h1 h2 h3 h4 h5 h6 on)) fun h5 h=>dE h fk25 (xOr a0) (oc7 h0 h1 h2 h3 h4 h5 rfl on)) fun h4 h=>dE h fk25 (xOs a0) (oc7 h0 h1 h2 h3 h4 rfl rfl on)) fun h3 h=>cE h (fun h4 h=>cE h (fun h5 h=>cE h (fun h6 h=>bE h fun r1 h7 h=>cE h (fun h8 h=>bE h fun r2 h9 h=>dE h fk25 (xOt a0 r1 r2) (oc10 h0 h1 h2 h3 h4 h5 h6 (xDz h7) h8 (xDz h9) on)) fun h8 h=>dE h fk25 (xOu a0 r1) (oc9 h0 h1 h2 h3 h4 h5 h6 (xDz h7) h8 on)) fun h6 h=>dE h fk25 (xOv a0) (oc8 h0 h1 h2 h3 h4 h5 h6 rfl on)) fun h5 h=>dE h fk25 (xOw a0) (oc8 h0 h1 h2 h3 h4 h5 rfl rfl on)) fun h4 h=>cE h (fun h5 h=>cE h (fun h6 h=>cE h (fun h7 h=>cE h (fun h8 h=>bE h fun r1 h9 h=>dE h fk25 (xOx a0 r1) (oc10 h0 h1 h2 h3 h4 h5 h6 h7 h8 (xEN h9) on)) fun h8 h=>dE h fk25 (xOy a0) (oc9 h0 h1 h2 h3 h4 h5 h6 h7 h8 on)) fun h7 h=>dE h fk25 (xOz a0) (oc9 h0 h1 h2 h3 h4 h5 h6 h7 rfl on)) fun h6 h=>dE h fk25 (xOA a0) (oc9 h0 h1 h2 h3 h4 h5 h6 rfl rfl on)) fun h5 h=>
 cE h (fun h6 h=>cE h (fun h7 h=>cE h (fun h8 h=>cE h (fun h9 h=>bE h fun r1 h11 h=>dE h fk25 (xOB a0 r1) (oc12 h0 h1 h2 h3 h4 h5 h6 h7 h8 h9 h0 (xHh h11) on)) fun h9 h=>dE h fk25 (xOC a0) (oc11 h0 h1 h2 h3 h4 h5 h6 h7 h8 h9 rfl on)) fun h8 h=>dE h fk25 (xOD a0) (oc11 h0 h1 h2 h3 h4 h5 h6 h7 h8 rfl rfl on)) fun h7 h=>dE h fk25 (xOE a0) (oc11 h0 h1 h2 h3 h4 h5 h6 h7 rfl rfl rfl on)) fun h6 h=>cE h (fun h7 h=>tE fk25 (xOF a0) (oc8 h0 h1 h2 h3 h4 h5 h6 h7 on) (xNp g0 _ _ _ _ _ _ h)) fun h7 h=>dE h fk25 (xOG a0) (oc8 h0 h1 h2 h3 h4 h5 h6 h7 on)) fun h1 h=>cE h (fun h2 h=>dE h fk25 (xOH a0) (oc6 h0 h1 h2 rfl rfl rfl on)) fun h2 h=>cE h (fun h3 h=>dE h fk25 (xOI a0) (oc7 h0 h1 h2 h3 rfl rfl rfl on)) fun h3 h=>cE h (fun h4 h=>dE h fk25 (xOJ a0) (oc8 h0 h1 h2 h3 h4 rfl rfl rfl on)) fun h4 h=>cE h (fun h5 h=>dE h fk25 (xOK a0) (oc9 h0 h1 h2 h3 h4 h5 rfl rfl rfl on)) fun h5 h=>cE h (fun h6 h=>cE h (fun h7 h=>cE h (fun h8 h=>cE h (fun h9 h=>bE h fun r1 h11 h=>dE h fk25 (xOL a0 r1) (oc12 h0 h1 h2 h3 h4 h5 h6 h7 h8 h9 h0 (xHh h11) on)) fun h9 h=>dE h fk25 (xOM a0) (oc11 h0 h1 h2 h3 h4 h5 h6 h7 h8 h9 rfl on)) fun h8 h=>dE h fk25 (xON a0) (oc11 h0 h1 h2 h3 h4 h5 h6 h7 h8 rfl rfl on)) fun h7 h=>dE h fk25 (xOO a0) (oc11 h0 h1 h2 h3 h4 h5 h6 h7 rfl rfl rfl on)) fun h6 h=>cE h (fun h7 h=>tE fk25 (xOP a0) (oc8 h0 h1 h2 h3 h4 h5 h6 h7 on) (xNp g0 _ _ _ _ _ _ h)) fun h7 h=>dE h fk25 (xOQ a0) (oc8 h0 h1 h2 h3 h4 h5 h6 h7 on)) fun h0 h=>cE h (fun h2 h=>dE h fk25 (xOR a0) (oc6 h0 rfl h2 rfl rfl rfl on)) fun h2 h=>
 cE h (fun h3 h=>dE h fk25 (xOS a0) (oc7 h0 rfl h2 h3 rfl rfl rfl on)) fun h3 h=>cE h (fun h4 h=>dE h fk25 (xOT a0) (oc8 h0 rfl h2 h3 h4 rfl rfl rfl on)) fun h4 h=>cE h (fun h5 h=>dE h fk25 (xOU a0) (oc9 h0 rfl h2 h3 h4 h5 rfl rfl rfl on)) fun h5 h=>cE h (fun h6 h=>cE h (fun h7 h=>cE h (fun h8 h=>cE h (fun h9 h=>dE h fk25 (xOV a0) (oc11 h0 rfl h2 h3 h4 h5 h6 h7 h8 h9 h0 on)) fun h9 h=>dE h fk25 (xOW a0) (oc11 h0 rfl h2 h3 h4 h5 h6 h7 h8 h9 rfl on)) fun h8 h=>dE h fk25 (xOX a0) (oc11 h0 rfl h2 h3 h4 h5 h6 h7 h8 rfl rfl on)) fun h7 h=>dE h fk25 (xOY a0) (oc11 h0 rfl h2 h3 h4 h5 h6 h7 rfl rfl rfl on)) fun h6 h=>cE h (fun h7 h=>tE fk25 (xOZ a0) (oc8 h0 rfl h2 h3 h4 h5 h6 h7 on) (xNp g0 _ _ _ _ _ _ h)) fun h7 h=>dE h fk25 (xO0 a0) (oc8 h0 rfl h2 h3 h4 h5 h6 h7 on)
theorem xGz{N q0}(g0:G25 q0){a0}{r}(h:xEf N q0 a0=some r):AbC 25 (xAe a0) (xAb r):=
 AbsCalls.of_reach fk25 rfl rfl rfl (jL rfl) (xTC g0 a0 r h)
theorem xEY{N:Nat}:∀d,G25 (xEo N d)
 |0=>fun _ _ h=>nE h
 |d+1=>fun _ _ h=>xGz (N:=N) (xEY d) h
theorem xCJ{N:Nat}{a0:Val}{r:Bool}(h:xFr N a0=some r):AbC 25 (xAe a0) (xAb r):=xEY N _ r h
noncomputable def I26:Info:= { body:=(Tryz.f26.body).getD .skip,nt:=5,results:=[.cell 2 33],keep:=[0,4,5],live:=[],modes:=[] }
theorem fk26:FnOk Tryz.prog 26 Tryz.f26 I26:=by refine⟨Tryz.func26,?_,?_,?_,?_⟩<;>kernel_rfl
def xQs(a0):rE I26 (xC4 a0) [] []=dn (xBb (Val.mk 6 a0 0 [] [] [] [])) []:=by kernel_rfl
theorem xTD{N:Nat}:∀a0 r,xB5 N a0=some r→RE Tryz.f26 I26 (xC4 a0) (xBb r):=fun a0 r h=>dE h fk26 (xQs a0) on
theorem xBZ{N:Nat}{a0:Int}{r:Val}(h:xB5 N  a0=some r):AbC 26 (xC4 a0) (xBb r):=
 AbsCalls.of_reach fk26 rfl rfl rfl (jL rfl) (xTD a0 r h)
theorem xFF{P:Program}{f:FuncId}{ags:List Arg}{r:Val×Bool×Bool}(h:AbsCalls P f ags (xBI r))(ht:r.2.2=true):AbsCalls P f ags (xCz r):=by
 unfold xBI at h;rw [ht] at h;exact h
theorem xFE{P:Program}{f:FuncId}{ags:List Arg}{r:Val×Bool×Bool}(h:AbsCalls P f ags (xBI r))(ht:r.2.2=false):AbsCalls P f ags (xCy r):=by
 unfold xBI at h;rw [ht] at h;exact h
noncomputable def I48:Info:= { body:=(Tryz.f48.body).getD .skip,nt:=22,results:=[.cell 2 33,.tmp 3],keep:=[0,4,6,10,12,14,16,18,28,36,5,11],live:=[(2,[4,12,14,16,5])],modes:=[(8,[(1,.take,false)])] }
theorem fk48:FnOk Tryz.prog 48 Tryz.f48 I48:=by refine⟨Tryz.func48,?_,?_,?_,?_⟩<;>kernel_rfl
def xLF(x6:List Val)(x7 x8:Int)(b2:Val):St:=[(4,.v false [.ptr 2 0]),(12,.v false [.sl .ro .val x6]),(14,.v false [.int .i64 x7]),(16,.v false [.int .i64 x8]),(5,.v true (Va .own b2))]
abbrev xId(v0:Val):Prop:=AbC 26 (xC4 4) (xBb v0)
def xRs(x6 x7 x8 b2 r1 r2):rS 2 I48 (xLF x6 x7 x8 b2) [Y,Y] [xAb r1,xBb r2]=dn (xBI (r2,true,false)) [xDm x8 x7,xEZ x8 x6,xHQ x6 x8 r1,iY (!r1),xId r2]:=by kernel_rfl
def xRt(x6 x7 x8 b2 r1):rS 2 I48 (xLF x6 x7 x8 b2) [Y,F,Y] [xAb r1]=dn (xBI ((xGi x6 x8),true,true)) [xDm x8 x7,xEZ x8 x6,xHQ x6 x8 r1,iN (!r1),iY ((xFT x6 x8)==6)]:=by kernel_rfl
def xRu(x6 x7 x8 b2 r1):rS 2 I48 (xLF x6 x7 x8 b2) [Y,F,F] [xAb r1]=st 2 I48 (xLF x6 x7 (W (x8+1)) b2) [xDm x8 x7,xEZ x8 x6,xHQ x6 x8 r1,iN (!r1),iN ((xFT x6 x8)==6)]:=by kernel_rfl
def xRv(x6 x7 x8 b2):rS 2 I48 (xLF x6 x7 x8 b2) [F] []=dn (xBI ((Val.mk 0 0 0 [] [] [] []),false,false)) [xE1 x8 x7]:=by kernel_rfl
def xRw(a0):rE I48 (xCj a0) [] []=st 2 I48 (xLF a0 (Ln a0:Int) 0 (Val.mk 0 0 0 [] [] [] [])) []:=by kernel_rfl
theorem xT6{N:Nat}:∀n x6 x7 x8 b2 r,xEE N n x6 x7 x8 b2=some r→RS Tryz.f48 I48 2 (xLF x6 x7 x8 b2) (xBI r):=by
 intro n
 induction n with
 |zero=>exact fun _ _ _ _ _ h=>nE h
 |succ n ih=>
  exact fun x6 x7 x8 b2 r h=>cE h (fun h0 h=>iE h fun h1 h=>bE h fun r1 h2 h=>cE h (fun h3 h=>bE h fun r2 h4 h=>dS h fk48 (xRs x6 x7 x8 b2 r1 r2) (oc5 h0 h1 (xCJ h2) h3 (xBZ h4) on)) fun h3 h=>cE h (fun h4 h=>dS h fk48 (xRt x6 x7 x8 b2 r1) (oc5 h0 h1 (xCJ h2) h3 h4 on)) fun h4 h=>tS fk48 (xRu x6 x7 x8 b2 r1) (oc5 h0 h1 (xCJ h2) h3 h4 on) (ih _ _ _ _ _ h)) fun h0 h=>dS h fk48 (xRv x6 x7 x8 b2) (oc h0 on)
theorem xT7{N:Nat}:∀a0 r,xFu N a0=some r→RE Tryz.f48 I48 (xCj a0) (xBI r):=fun a0 r h=>tE fk48 (xRw a0) on (xT6 _ _ _ _ _ _ h)
theorem xDL{N:Nat}{a0:List Val}{r:Val×Bool×Bool}(h:xFu N  a0=some r):AbC 48 (xCj a0) (xBI r):=
 AbsCalls.of_reach fk48 rfl rfl rfl (jL rfl) (xT7 a0 r h)
theorem xHN{P:Program}{f:FuncId}{ags:List Arg}{r:Val×Bool×Bool}(h:AbsCalls P f ags (xBM r))(ht:r.2.2=true):AbsCalls P f ags (xFb r):=by
 unfold xBM at h;rw [ht] at h;exact h
theorem xFd{P:Program}{f:FuncId}{ags:List Arg}{r:Val×Bool×Bool}(h:AbsCalls P f ags (xBM r))(ht:r.2.2=false):AbsCalls P f ags (xCk r):=by
 unfold xBM at h;rw [ht] at h;exact h
theorem xFc{P:Program}{f:FuncId}{ags:List Arg}{r:Val×Bool×Bool}(h:AbsCalls P f ags (xBM r))(ht:r.2.2=true)(e0:List.isEmpty (Val.list r.1)=true)(e1:List.isEmpty (Val.columns r.1)=true)(e2:List.isEmpty (Val.rows r.1)=true):AbsCalls P f ags (xCG r):=by
 have h:=xHN h ht
 unfold xFb at h;rw [List.isEmpty_iff.1 e0,List.isEmpty_iff.1 e1,List.isEmpty_iff.1 e2] at h;exact h
noncomputable def I28:Info:= { body:=(Tryz.f28.body).getD .skip,nt:=34,results:=[.cell 4 33,.tmp 5],keep:=[0,2,8,10,12,14,16,18,30,34,36,38,40,60,9,13,19],live:=[(5,[0,8,34,36,38,9])],modes:=[(1,[(2,.take,false)]),(2,[(0,.take,false)]),(3,[(0,.take,false)]),(7,[(3,.take,false)]),(9,[(1,.take,false)])] }
theorem fk28:FnOk Tryz.prog 28 Tryz.f28 I28:=by refine⟨Tryz.func28,?_,?_,?_,?_⟩<;>kernel_rfl
def xLD(x0:List Int)(x17:List Val)(x18 x19:Int)(b4:Val):St:=[(0,.v false [.sl .ro .int x0]),(8,.v false [.ptr 4 0]),(34,.v false [.sl .ro .val x17]),(36,.v false [.int .i64 x18]),(38,.v false [.int .i64 x19]),(9,.v true (Va .own b4))]
def xQw(x0 x17 x18 x19 b4 r1):rS 5 I28 (xLD x0 x17 x18 x19 b4) [Y,Y] [xBb r1]=dn (xBM (r1,true,false)) [xDm x19 x18,xEZ x19 x17,xGP x19 x0,iY ((xFT x17 x19) != (xJH x0 x19)),xId r1]:=by kernel_rfl
def xQx(x0 x17 x18 x19 b4):rS 5 I28 (xLD x0 x17 x18 x19 b4) [Y,F] []=st 5 I28 (xLD x0 x17 x18 (W (x19+1)) b4) [xDm x19 x18,xEZ x19 x17,xGP x19 x0,iN ((xFT x17 x19) != (xJH x0 x19))]:=by kernel_rfl
def xQy(x0 x17 x18 x19 b4):rS 5 I28 (xLD x0 x17 x18 x19 b4) [F] []=dn (xBM ((Val.mk 0 0 0 [] [] [] []),false,false)) [xE1 x19 x18]:=by kernel_rfl
def xQz(a0 a1 r1):rE I28 (xCV a0 a1) [Y] [xCz r1]=dn (xBM (r1.1,true,true)) [AbC 48 (xCj a1) (xCz r1),iY r1.2.1]:=by kernel_rfl
def xQA(a0 a1 r1):rE I28 (xCV a0 a1) [F] [xCz r1]=st 5 I28 (xLD a0 a1 (Ln a1:Int) 0 (Val.mk 0 0 0 [] [] [] [])) [AbC 48 (xCj a1) (xCz r1),iN r1.2.1]:=by kernel_rfl
def xQB(a0 a1 r1):rE I28 (xCV a0 a1) [Y] [xCy r1]=dn (xBM (r1.1,true,false)) [AbC 48 (xCj a1) (xCy r1),iY r1.2.1]:=by kernel_rfl
def xQC(a0 a1 r1):rE I28 (xCV a0 a1) [F] [xCy r1]=st 5 I28 (xLD a0 a1 (Ln a1:Int) 0 (Val.mk 0 0 0 [] [] [] [])) [AbC 48 (xCj a1) (xCy r1),iN r1.2.1]:=by kernel_rfl
theorem xSD{N:Nat}:∀n x0 x17 x18 x19 b4 r,xEy N n x0 x17 x18 x19 b4=some r→RS Tryz.f28 I28 5 (xLD x0 x17 x18 x19 b4) (xBM r):=by
 intro n
 induction n with
 |zero=>exact fun _ _ _ _ _ _ h=>nE h
 |succ n ih=>
  exact fun x0 x17 x18 x19 b4 r h=>cE h (fun h0 h=>iE h fun h1 h=>iE h fun h2 h=>cE h (fun h3 h=>bE h fun r1 h4 h=>dS h fk28 (xQw x0 x17 x18 x19 b4 r1) (oc5 h0 h1 h2 h3 (xBZ h4) on)) fun h3 h=>tS fk28 (xQx x0 x17 x18 x19 b4) (oc4 h0 h1 h2 h3 on) (ih _ _ _ _ _ _ h)) fun h0 h=>dS h fk28 (xQy x0 x17 x18 x19 b4) (oc h0 on)
theorem xTG{N:Nat}:∀a0 a1 r,xGB N a0 a1=some r→RE Tryz.f28 I28 (xCV a0 a1) (xBM r):=fun a0 a1 r h=>bE h fun r1 h0 h=>cE h (fun h1 h=>cE h (fun h2 h=>dE h fk28 (xQz a0 a1 r1) (oc2 (xFF (xDL h0) h1) h2 on)) fun h2 h=>tE fk28 (xQA a0 a1 r1) (oc2 (xFF (xDL h0) h1) h2 on) (xSD _ _ _ _ _ _ _ h)) fun h1 h=>cE h (fun h2 h=>dE h fk28 (xQB a0 a1 r1) (oc2 (xFE (xDL h0) h1) h2 on)) fun h2 h=>tE fk28 (xQC a0 a1 r1) (oc2 (xFE (xDL h0) h1) h2 on) (xSD _ _ _ _ _ _ _ h)
theorem xDk{N:Nat}{a0:List Int}{a1:List Val}{r:Val×Bool×Bool}(h:xGB N  a0 a1=some r):AbC 28 (xCV a0 a1) (xBM r):=
 AbsCalls.of_reach fk28 rfl rfl rfl (jL rfl) (xTG a0 a1 r h)
theorem xIm{N:Nat}{a0 a1:Str}{r:List Str}(h:xHY N a0 a1=some r):AbC 49 (xG9 a0 a1) (xFX r):=
 zI7 (xLR Tryz.lays146) (fun s c w hs=>xNZ Tryz.lays146 (by kernel_rfl) s c w hs) h
noncomputable def I29:Info:= { body:=(Tryz.f29.body).getD .skip,nt:=10,results:=[.tmp 4],keep:=[0,2,8],live:=[],modes:=[] }
theorem fk29:FnOk Tryz.prog 29 Tryz.f29 I29:=by refine⟨Tryz.func29,?_,?_,?_,?_⟩<;>kernel_rfl
def xQD(a0 a1 r1):rE I29 (xCT a0 a1) [] [xFX r1]=dn (xBX r1) [AbC 49 (xG9 a0 (List.map (fun n=>UInt8.ofNat (tN n)) [a1])) (xFX r1)]:=by kernel_rfl
theorem xTH{N:Nat}:∀a0 a1 r,xFz N a0 a1=some r→RE Tryz.f29 I29 (xCT a0 a1) (xBX r):=fun a0 a1 r h=>bE h fun r1 h0 h=>dE h fk29 (xQD a0 a1 r1) (oc (xIm h0) on)
theorem xEw{N:Nat}{a0:Str}{a1:Int}{r:(List Str)}(h:xFz N  a0 a1=some r):AbC 29 (xCT a0 a1) (xBX r):=
 AbsCalls.of_reach fk29 rfl rfl rfl (jL rfl) (xTH a0 a1 r h)
theorem xIg{P:Program}{f:FuncId}{ags:List Arg}{r:Val×Bool}(h:AbsCalls P f ags (xBn r))(ht:r.2=true):AbsCalls P f ags (xFP r):=by
 unfold xBn at h;rw [ht] at h;exact h
theorem xFR{P:Program}{f:FuncId}{ags:List Arg}{r:Val×Bool}(h:AbsCalls P f ags (xBn r))(ht:r.2=false):AbsCalls P f ags (xCM r):=by
 unfold xBn at h;rw [ht] at h;exact h
theorem xFQ{P:Program}{f:FuncId}{ags:List Arg}{r:Val×Bool}(h:AbsCalls P f ags (xBn r))(ht:r.2=true)(e0:List.isEmpty (Val.list r.1)=true)(e1:List.isEmpty (Val.columns r.1)=true)(e2:List.isEmpty (Val.rows r.1)=true):AbsCalls P f ags (xC9 r):=by
 have h:=xIg h ht
 unfold xFP at h;rw [List.isEmpty_iff.1 e0,List.isEmpty_iff.1 e1,List.isEmpty_iff.1 e2] at h;exact h
noncomputable def I10:Info:= { body:=(Tryz.f10.body).getD .skip,nt:=80,results:=[.cell 4 33],keep:=[0,2,4,6,8,10,12,14,18,20,24,42,60,66,68,70,72,100,108,110,112,114,124,5,7,9,11,15,19,21,25],live:=[(8,[8,14,66,68,70,9,15]),(14,[8,14,20,66,68,70,108,110,112,9,15,21])],modes:=[(1,[(4,.take,true),(5,.take,false)]),(2,[(0,.take,false)]),(3,[(0,.take,false)]),(10,[(3,.take,false)]),(18,[(1,.take,false)]),(19,[(1,.take,false)]),(20,[(1,.take,false),(2,.take,false),(4,.take,false)]),(21,[(1,.take,false)]),(22,[(0,.take,false)])] }
theorem fk10:FnOk Tryz.prog 10 Tryz.f10 I10:=by refine⟨Tryz.func10,?_,?_,?_,?_⟩<;>kernel_rfl
def xKN(x33:List Val)(x34 x35:Int)(b4 b7:Val):St:=[(8,.v false [.ptr 4 0]),(14,.v false [.ptr 7 0]),(66,.v false [.sl .ro .val x33]),(68,.v false [.int .i64 x34]),(70,.v false [.int .i64 x35]),(9,.v true (Va .own b4)),(15,.v true (Va .own b7))]
def xJh(x33:List Val)(x34 x35:Int)(x54:List Val)(x55 x56:Int)(b4 b7:Val)(b10:Rowd):St:=[(8,.v false [.ptr 4 0]),(14,.v false [.ptr 7 0]),(20,.v false [.ptr 10 0]),(66,.v false [.sl .ro .val x33]),(68,.v false [.int .i64 x34]),(70,.v false [.int .i64 x35]),(108,.v false [.sl .ro .val x54]),(110,.v false [.int .i64 x55]),(112,.v false [.int .i64 x56]),(9,.v true (Va .own b4)),(15,.v true (Va .own b7)),(21,.v true [.sl .own .int b10.cells,.sl .own .org b10.frm])]
def xN5(x33 x34 x35 x54 x55 x56 b4 b7 b10 r1):rS 14 I10 (xJh x33 x34 x35 x54 x55 x56 b4 b7 b10) [Y,Y] [xBb r1]=dn (xBn (r1,false)) [xDm x56 x55,xEZ x56 x54,xJq x54 x56,xId r1]:=by kernel_rfl
def xN6(x33 x34 x35 x54 x55 x56 b4 b7 b10):rS 14 I10 (xJh x33 x34 x35 x54 x55 x56 b4 b7 b10) [Y,F] []=st 14 I10 (xJh x33 x34 x35 x54 x55 (W (x56+1)) b4 b7 (Rowd.mk (b10.cells++ [(Val.n (xGi x54 x56))]) b10.frm)) [xDm x56 x55,xEZ x56 x54,xNN x54 x56,Ln b10.cells+Ln [(Val.n (xGi x54 x56))]≤Lim]:=by kernel_rfl
def xN7(x33 x34 x35 x54 x55 x56 b4 b7 b10):rS 14 I10 (xJh x33 x34 x35 x54 x55 x56 b4 b7 b10) [F] []=st 8 I10 (xKN x33 x34 (W (x35+1)) b4 (Val.mk b7.kind b7.n b7.step b7.text b7.list b7.columns (b7.rows++ [b10]))) [xE1 x56 x55,Ln b7.rows+Ln [b10]≤Lim]:=by kernel_rfl
def xPL(x33 x34 x35 b4 b7 r1):rS 8 I10 (xKN x33 x34 x35 b4 b7) [Y,Y,Y] [xBb r1]=dn (xBn (r1,false)) [xDm x35 x34,xEZ x35 x33,iY ((xFT x33 x35) != 3),iY true,xId r1]:=by kernel_rfl
def xPM(x33 x34 x35 b4 b7 r1):rS 8 I10 (xKN x33 x34 x35 b4 b7) [Y,F,Y] [xBb r1]=dn (xBn (r1,false)) [xDm x35 x34,xEZ x35 x33,xMw x33 x35,iY (((Ln (Val.list (xGi x33 x35)):Int):Int) != (xH4 b7)),xId r1]:=by kernel_rfl
def xPN(x33 x34 x35 b4 b7):rS 8 I10 (xKN x33 x34 x35 b4 b7) [Y,F,F] []=st 14 I10 (xJh x33 x34 x35 (Val.list (xGi x33 x35)) (Ln (Val.list (xGi x33 x35)):Int) 0 b4 b7 (Rowd.mk [] [])) [xDm x35 x34,xEZ x35 x33,xMw x33 x35,iN (((Ln (Val.list (xGi x33 x35)):Int):Int) != (xH4 b7))]:=by kernel_rfl
def xPO(x33 x34 x35 b4 b7):rS 8 I10 (xKN x33 x34 x35 b4 b7) [F] []=dn (xBn (b7,false)) [xE1 x35 x34]:=by kernel_rfl
abbrev xH5(v0 v1:Val):=xCV [2,3] [v0.re,v1.re]
def xPP(a0 a1 r1):rE I10 (xBR a0 a1) [Y] [xCG r1]=dn (xBn ((Val.mk r1.1.kind r1.1.n r1.1.step r1.1.text [] [] []),true)) [AbC 28 (xH5 a0 a1) (xCG r1),iY r1.2.1]:=by kernel_rfl
def xPQ(a0 a1 r1 r2 r3 r4):rE I10 (xBR a0 a1) [F,Y] [xCG r1,xBX r2,xAL r3,xBb r4]=dn (xBn (r4,false)) [AbC 28 (xH5 a0 a1) (xCG r1),iN r1.2.1,AbC 29 (xCT a0.text 32) (xBX r2),AbC 30 (xB0 r2) (xAL r3),iY (!r3),AbC 26 (xC4 7) (xBb r4)]:=by kernel_rfl
abbrev xNG(v0:Val)(v1:(List Str)):=xKN v0.list (Ln v0.list:Int) 0 (Val.mk 0 0 0 [] [] [] []) (Val.mk 5 0 0 [] [] v1 [])
def xPR(a0 a1 r1 r2 r3):rE I10 (xBR a0 a1) [F,F] [xCG r1,xBX r2,xAL r3]=st 8 I10 (xNG a1 r2) [AbC 28 (xH5 a0 a1) (xCG r1),iN r1.2.1,AbC 29 (xCT a0.text 32) (xBX r2),AbC 30 (xB0 r2) (xAL r3),iN (!r3)]:=by kernel_rfl
def xN8(a0 a1 r1):rE I10 (xBR a0 a1) [Y] [xCk r1]=dn (xBn (r1.1,false)) [AbC 28 (xH5 a0 a1) (xCk r1),iY r1.2.1]:=by kernel_rfl
def xN9(a0 a1 r1 r2 r3 r4):rE I10 (xBR a0 a1) [F,Y] [xCk r1,xBX r2,xAL r3,xBb r4]=dn (xBn (r4,false)) [AbC 28 (xH5 a0 a1) (xCk r1),iN r1.2.1,AbC 29 (xCT a0.text 32) (xBX r2),AbC 30 (xB0 r2) (xAL r3),iY (!r3),AbC 26 (xC4 7) (xBb r4)]:=by kernel_rfl
def xOa(a0 a1 r1 r2 r3):rE I10 (xBR a0 a1) [F,F] [xCk r1,xBX r2,xAL r3]=st 8 I10 (xNG a1 r2) [AbC 28 (xH5 a0 a1) (xCk r1),iN r1.2.1,AbC 29 (xCT a0.text 32) (xBX r2),AbC 30 (xB0 r2) (xAL r3),iN (!r3)]:=by kernel_rfl
theorem xSB{N:Nat}{k8:(List Val)→Int→Int→Val→Val→Option (Val×Bool)}(hk8:∀z0 z1 z2 z3 z4 r,k8 z0 z1 z2 z3 z4=some r→RS Tryz.f10 I10 8 (xKN z0 z1 z2 z3 z4) (xBn r)):∀n x33 x34 x35 x54 x55 x56 b4 b7 b10 r,xFO N k8 n x33 x34 x35 x54 x55 x56 b4 b7 b10=some r→RS Tryz.f10 I10 14 (xJh x33 x34 x35 x54 x55 x56 b4 b7 b10) (xBn r):=by
 intro n
 induction n with
 |zero=>exact fun _ _ _ _ _ _ _ _ _ _ h=>nE h
 |succ n ih=>
  exact fun x33 x34 x35 x54 x55 x56 b4 b7 b10 r h=>cE h (fun h0 h=>iE h fun h1 h=>cE h (fun h2 h=>bE h fun r1 h3 h=>dS h fk10 (xN5 x33 x34 x35 x54 x55 x56 b4 b7 b10 r1) (oc4 h0 h1 h2 (xBZ h3) on)) fun h2 h=>iE h fun h3 h=>tS fk10 (xN6 x33 x34 x35 x54 x55 x56 b4 b7 b10) (oc4 h0 h1 h2 h3 on) (ih _ _ _ _ _ _ _ _ _ _ h)) fun h0 h=>iE h fun h1 h=>tS fk10 (xN7 x33 x34 x35 x54 x55 x56 b4 b7 b10) (oc2 h0 h1 on) (hk8 _ _ _ _ _ _ h)
theorem xSC{N:Nat}:∀n x33 x34 x35 b4 b7 r,xE7 N n x33 x34 x35 b4 b7=some r→RS Tryz.f10 I10 8 (xKN x33 x34 x35 b4 b7) (xBn r):=by
 intro n
 induction n with
 |zero=>exact fun _ _ _ _ _ _ h=>nE h
 |succ n ih=>
  exact fun x33 x34 x35 b4 b7 r h=>cE h (fun h0 h=>iE h fun h1 h=>cE h (fun h2 h=>bE h fun r1 h4 h=>dS h fk10 (xPL x33 x34 x35 b4 b7 r1) (oc5 h0 h1 h2 rfl (xBZ h4) on)) fun h2 h=>cE h (fun h3 h=>bE h fun r1 h4 h=>dS h fk10 (xPM x33 x34 x35 b4 b7 r1) (oc5 h0 h1 h2 h3 (xBZ h4) on)) fun h3 h=>tS fk10 (xPN x33 x34 x35 b4 b7) (oc4 h0 h1 h2 h3 on) (xSB ih _ _ _ _ _ _ _ _ _ _ _ h)) fun h0 h=>dS h fk10 (xPO x33 x34 x35 b4 b7) (oc h0 on)
theorem xTi{N:Nat}:∀a0 a1 r,xFD N a0 a1=some r→RE Tryz.f10 I10 (xBR a0 a1) (xBn r):=fun a0 a1 r h=>bE h fun r1 h0 h=>cE h (fun h1 h=>iE h fun h2 h=>iE h fun h3 h=>iE h fun h4 h=>cE h (fun h5 h=>dE h fk10 (xPP a0 a1 r1) (oc2 (xFc (xDk h0) h1 h2 h3 h4) h5 on)) fun h5 h=>bE h fun r2 h6 h=>bE h fun r3 h7 h=>cE h (fun h8 h=>bE h fun r4 h9 h=>dE h fk10 (xPQ a0 a1 r1 r2 r3 r4) (oc6 (xFc (xDk h0) h1 h2 h3 h4) h5 (xEw h6) (xCD h7) h8 (xBZ h9) on)) fun h8 h=>tE fk10 (xPR a0 a1 r1 r2 r3) (oc5 (xFc (xDk h0) h1 h2 h3 h4) h5 (xEw h6) (xCD h7) h8 on) (xSC _ _ _ _ _ _ _ h)) fun h1 h=>cE h (fun h2 h=>dE h fk10 (xN8 a0 a1 r1) (oc2 (xFd (xDk h0) h1) h2 on)) fun h2 h=>bE h fun r2 h3 h=>bE h fun r3 h4 h=>cE h (fun h5 h=>bE h fun r4 h6 h=>dE h fk10 (xN9 a0 a1 r1 r2 r3 r4) (oc6 (xFd (xDk h0) h1) h2 (xEw h3) (xCD h4) h5 (xBZ h6) on)) fun h5 h=>tE fk10 (xOa a0 a1 r1 r2 r3) (oc5 (xFd (xDk h0) h1) h2 (xEw h3) (xCD h4) h5 on) (xSC _ _ _ _ _ _ _ h)
theorem xDO{N:Nat}{a0:Val}{a1:Val}{r:Val×Bool}(h:xFD N  a0 a1=some r):AbC 10 (xBR a0 a1) (xBn r):=
 AbsCalls.of_reach fk10 rfl rfl rfl (jL rfl) (xTi a0 a1 r h)
noncomputable def I47:Info:= { body:=(Tryz.f47.body).getD .skip,nt:=12,results:=[.cell 2 58],keep:=[0,2,4,3,5],live:=[],modes:=[] }
theorem fk47:FnOk Tryz.prog 47 Tryz.f47 I47:=by refine⟨Tryz.func47,?_,?_,?_,?_⟩<;>kernel_rfl
def xRr(a0):rE I47 (xE9 a0) [] []=dn (xEq (Rowd.mk ([]++a0.cells) ([]++a0.frm))) [0+Ln a0.cells≤Lim,0+Ln a0.frm≤Lim]:=by kernel_rfl
theorem xT5{N:Nat}:∀a0 r,xHf N a0=some r→RE Tryz.f47 I47 (xE9 a0) (xEq r):=fun a0 r h=>iE h fun h0 h=>iE h fun h1 h=>dE h fk47 (xRr a0) (oc2 h0 h1 on)
theorem xIz{N:Nat}{a0:Rowd}{r:Rowd}(h:xHf N  a0=some r):AbC 47 (xE9 a0) (xEq r):=
 AbsCalls.of_reach fk47 rfl rfl rfl (jL rfl) (xT5 a0 r h)
def G27(q:Val→Option (Val)):Prop:=∀a0 r,q a0=some r→AbC 27 (xCU a0) (xB7 r)
def G46(q:(List Val)→Option ((List Val))):Prop:=∀a0 r,q a0=some r→AbC 46 (xDD a0) (xCF r)
noncomputable def I27:Info:= { body:=(Tryz.f27.body).getD .skip,nt:=33,results:=[.cell 2 33],keep:=[0,2,4,6,10,36,38,40,42,3,5,7,11],live:=[(6,[4,6,36,38,40,5,7])],modes:=[(8,[(1,.take,false),(5,.take,false)]),(9,[(1,.take,false)]),(10,[(0,.take,false)])] }
theorem fk27:FnOk Tryz.prog 27 Tryz.f27 I27:=by refine⟨Tryz.func27,?_,?_,?_,?_⟩<;>kernel_rfl
def xNg(x18:List Rowd)(x19 x20:Int)(b2 b3:Val):St:=[(4,.v false [.ptr 2 0]),(6,.v false [.ptr 3 0]),(36,.v false [.sl .ro .row x18]),(38,.v false [.int .i64 x19]),(40,.v false [.int .i64 x20]),(5,.v true (Va .own b2)),(7,.v true (Va .own b3))]
def xQt(x18 x19 x20 b2 b3 r1):rS 6 I27 (xNg x18 x19 x20 b2 b3) [Y] [xEq r1]=st 6 I27 (xNg x18 x19 (W (x20+1)) b2 (Val.mk b3.kind b3.n b3.step b3.text b3.list b3.columns (b3.rows++ [r1]))) [xDm x20 x19,xJp x20 x18,AbC 47 (xE9 (gD x18 (tN x20) rd)) (xEq r1),Ln b3.rows+Ln [r1]≤Lim]:=by kernel_rfl
def xQu(x18 x19 x20 b2 b3):rS 6 I27 (xNg x18 x19 x20 b2 b3) [F] []=dn (xB7 b3) [xE1 x20 x19]:=by kernel_rfl
def xQv(a0 r1):rE I27 (xCU a0) [] [xCF r1]=st 6 I27 (xNg a0.rows (xD0 a0) 0 (Val.mk 0 0 0 [] [] [] []) (Val.mk a0.kind a0.n a0.step a0.text r1 ([]++a0.columns) [])) [AbC 46 (xDD a0.list) (xCF r1),0+Ln a0.columns≤Lim]:=by kernel_rfl
theorem xTE{N q0 q1}(g0:G27 q0)(g1:G46 q1):∀n x18 x19 x20 b2 b3 r,xFs N q0 q1 n x18 x19 x20 b2 b3=some r→RS Tryz.f27 I27 6 (xNg x18 x19 x20 b2 b3) (xB7 r):=by
 intro n
 induction n with
 |zero=>exact fun _ _ _ _ _ _ h=>nE h
 |succ n ih=>
  exact fun x18 x19 x20 b2 b3 r h=>cE h (fun h0 h=>iE h fun h1 h=>bE h fun r1 h2 h=>iE h fun h3 h=>tS fk27 (xQt x18 x19 x20 b2 b3 r1) (oc4 h0 h1 (xIz h2) h3 on) (ih _ _ _ _ _ _ h)) fun h0 h=>dS h fk27 (xQu x18 x19 x20 b2 b3) (oc h0 on)
theorem xTF{N q0 q1}(g0:G27 q0)(g1:G46 q1):∀a0 r,xEX N q0 q1 a0=some r→RE Tryz.f27 I27 (xCU a0) (xB7 r):=fun a0 r h=>bE h fun r1 h0 h=>iE h fun h1 h=>tE fk27 (xQv a0 r1) (oc2 (g1 _ _ h0) h1 on) (xTE g0 g1 _ _ _ _ _ _ _ h)
theorem xHa{N q0 q1}(g0:G27 q0)(g1:G46 q1){a0}{r}(h:xEX N q0 q1 a0=some r):AbC 27 (xCU a0) (xB7 r):=
 AbsCalls.of_reach fk27 rfl rfl rfl (jL rfl) (xTF g0 g1 a0 r h)
noncomputable def I46:Info:= { body:=(Tryz.f46.body).getD .skip,nt:=20,results:=[.tmp 2],keep:=[0,4,6,10,14,16,18,20,11],live:=[(3,[6,14,16,18])],modes:=[(5,[(0,.take,false),(4,.take,false)]),(6,[(1,.take,false)]),(7,[(0,.take,false)])] }
theorem fk46:FnOk Tryz.prog 46 Tryz.f46 I46:=by refine⟨Tryz.func46,?_,?_,?_,?_⟩<;>kernel_rfl
def xNk(x3 x7:List Val)(x8 x9:Int):St:=[(6,.v false [.sl .own .val x3]),(14,.v false [.sl .ro .val x7]),(16,.v false [.int .i64 x8]),(18,.v false [.int .i64 x9])]
def xRo(x3 x7 x8 x9 r1):rS 3 I46 (xNk x3 x7 x8 x9) [Y] [xB7 r1]=st 3 I46 (xNk (x3++ [r1.re]) x7 x8 (W (x9+1))) [xDm x9 x8,xEZ x9 x7,AbC 27 (xCU (xGi x7 x9)) (xB7 r1),Ln x3+Ln [r1.re]≤Lim]:=by kernel_rfl
def xRp(x3 x7 x8 x9):rS 3 I46 (xNk x3 x7 x8 x9) [F] []=dn (xCF x3) [xE1 x9 x8]:=by kernel_rfl
def xRq(a0):rE I46 (xDD a0) [] []=st 3 I46 (xNk [] a0 (Ln a0:Int) 0) []:=by kernel_rfl
theorem xT3{N q0 q1}(g0:G27 q0)(g1:G46 q1):∀n x3 x7 x8 x9 r,xFa N q0 q1 n x3 x7 x8 x9=some r→RS Tryz.f46 I46 3 (xNk x3 x7 x8 x9) (xCF r):=by
 intro n
 induction n with
 |zero=>exact fun _ _ _ _ _ h=>nE h
 |succ n ih=>
  exact fun x3 x7 x8 x9 r h=>cE h (fun h0 h=>iE h fun h1 h=>bE h fun r1 h2 h=>iE h fun h3 h=>tS fk46 (xRo x3 x7 x8 x9 r1) (oc4 h0 h1 (g0 _ _ h2) h3 on) (ih _ _ _ _ _ h)) fun h0 h=>dS h fk46 (xRp x3 x7 x8 x9) (oc h0 on)
theorem xT4{N q0 q1}(g0:G27 q0)(g1:G46 q1):∀a0 r,xED N q0 q1 a0=some r→RE Tryz.f46 I46 (xDD a0) (xCF r):=fun a0 r h=>tE fk46 (xRq a0) on (xT3 g0 g1 _ _ _ _ _ _ h)
theorem xGX{N q0 q1}(g0:G27 q0)(g1:G46 q1){a0}{r}(h:xED N q0 q1 a0=some r):AbC 46 (xDD a0) (xCF r):=
 AbsCalls.of_reach fk46 rfl rfl rfl (jL rfl) (xT4 g0 g1 a0 r h)
theorem xHg{N:Nat}:∀d,G27 (xCE N d).c_impl_copyValue∧G46 (xCE N d).c_impl_copyValues:=by
 intro d
 induction d with
 |zero=>exact⟨fun _ _ h=>nE h,fun _ _ h=>nE h⟩
 |succ d ih=>
  obtain⟨ih0,ih1⟩:=ih
  exact⟨fun _ _ h=>xHa (N:=N) ih0 ih1 h,fun _ _ h=>xGX (N:=N) ih0 ih1 h⟩
theorem xH1{N:Nat}{a0:Val}{r:Val}(h:xHv N a0=some r):AbC 27 (xCU a0) (xB7 r):=(xHg N).1 _ r h
noncomputable def I9:Info:= { body:=(Tryz.f9.body).getD .skip,nt:=39,results:=[.cell 4 33],keep:=[0,2,6,8,10,12,36,48,50,52,7,9,11],live:=[(5,[0,8,10,48,50,9,11])],modes:=[(1,[(3,.take,false),(8,.take,false)]),(7,[(1,.ref,false)]),(8,[(1,.take,false)]),(9,[(0,.take,false)])] }
theorem fk9:FnOk Tryz.prog 9 Tryz.f9 I9:=by refine⟨Tryz.func9,?_,?_,?_,?_⟩<;>kernel_rfl
def S9_5(x0 x24 x25:Int)(b4 b5:Val):St:=[(0,.v false [.int .i64 x0]),(8,.v false [.ptr 4 0]),(10,.v false [.ptr 5 0]),(48,.v false [.int .i64 x24]),(50,.v false [.int .i64 x25]),(9,.v true (Va .own b4)),(11,.v true (Va .own b5))]
def xS0(x0 x24 x25 b4 b5):rS 5 I9 (S9_5 x0 x24 x25 b4 b5) [Y] []=st 5 I9 (S9_5 x0 x24 (W (x25+1)) b4 (Val.mk b5.kind b5.n b5.step b5.text b5.list b5.columns (b5.rows.set (tN x25) (Rowd.mk (Rowd.cells (xJJ b5 x25)) [(Org.mk x0 x25)])))) [xDm x25 x24,xGt x25 b5]:=by kernel_rfl
def xS1(x0 x24 x25 b4 b5):rS 5 I9 (S9_5 x0 x24 x25 b4 b5) [F] []=dn (xAS b5) [xE1 x25 x24]:=by kernel_rfl
def xS2(a0 a1 r1):rE I9 (xBS a0 a1) [Y,Y,Y] [xBb r1]=dn (xAS r1) [iY (a1.kind != 5),iY true,iY true,xId r1]:=by kernel_rfl
def xS3(a0 a1 r1 r2):rE I9 (xBS a0 a1) [F,Y,Y] [xAb r1,xBb r2]=dn (xAS r2) [iN (a1.kind != 5),AbC 25 (xAe a1) (xAb r1),iY (!r1),iY true,xId r2]:=by kernel_rfl
def xS4(a0 a1 r1 r2):rE I9 (xBS a0 a1) [F,F,Y] [xAb r1,xBb r2]=dn (xAS r2) [iN (a1.kind != 5),AbC 25 (xAe a1) (xAb r1),iN (!r1),iY (dc (a0<0)),xId r2]:=by kernel_rfl
def xS5(a0 a1 r1 r2):rE I9 (xBS a0 a1) [F,F,F] [xAb r1,xB7 r2]=st 5 I9 (S9_5 a0 (xD0 r2) 0 (Val.mk 0 0 0 [] [] [] []) r2) [iN (a1.kind != 5),AbC 25 (xAe a1) (xAb r1),iN (!r1),iN (dc (a0<0)),AbC 27 (xCU a1) (xB7 r2)]:=by kernel_rfl
theorem c9_5{N:Nat}:∀n x0 x24 x25 b4 b5 r,xEW N n x0 x24 x25 b4 b5=some r→RS Tryz.f9 I9 5 (S9_5 x0 x24 x25 b4 b5) (xAS r):=by
 intro n
 induction n with
 |zero=>exact fun _ _ _ _ _ _ h=>nE h
 |succ n ih=>
  exact fun x0 x24 x25 b4 b5 r h=>cE h (fun h0 h=>iE h fun h1 h=>tS fk9 (xS0 x0 x24 x25 b4 b5) (oc2 h0 h1 on) (ih _ _ _ _ _ _ h)) fun h0 h=>dS h fk9 (xS1 x0 x24 x25 b4 b5) (oc h0 on)
theorem c9_e{N:Nat}:∀a0 a1 r,xD5 N a0 a1=some r→RE Tryz.f9 I9 (xBS a0 a1) (xAS r):=fun a0 a1 r h=>cE h (fun h0 h=>bE h fun r1 h3 h=>dE h fk9 (xS2 a0 a1 r1) (oc4 h0 rfl rfl (xBZ h3) on)) fun h0 h=>bE h fun r1 h1 h=>cE h (fun h2 h=>bE h fun r2 h4 h=>dE h fk9 (xS3 a0 a1 r1 r2) (oc5 h0 (xCJ h1) h2 rfl (xBZ h4) on)) fun h2 h=>cE h (fun h3 h=>bE h fun r2 h4 h=>dE h fk9 (xS4 a0 a1 r1 r2) (oc5 h0 (xCJ h1) h2 h3 (xBZ h4) on)) fun h3 h=>bE h fun r2 h4 h=>tE fk9 (xS5 a0 a1 r1 r2) (oc5 h0 (xCJ h1) h2 h3 (xH1 h4) on) (c9_5 _ _ _ _ _ _ _ h)
theorem xCS{N:Nat}{a0:Int}{a1:Val}{r:Val}(h:xD5 N  a0 a1=some r):AbC 9 (xBS a0 a1) (xAS r):=
 AbsCalls.of_reach fk9 rfl rfl rfl (jL rfl) (c9_e a0 a1 r h)
noncomputable def I14:Info:= { body:=(Tryz.f14.body).getD .skip,nt:=20,results:=[.tmp 2],keep:=[0,2,4,6,10,16,18,20,22,3,11],live:=[(3,[6,16,18,20])],modes:=[(6,[(1,.take,false)]),(7,[(0,.take,false)])] }
theorem fk14:FnOk Tryz.prog 14 Tryz.f14 I14:=by refine⟨Tryz.func14,?_,?_,?_,?_⟩<;>kernel_rfl
def xNe(x3:List Org)(x8:List Rowd)(x9 x10:Int):St:=[(6,.v false [.sl .own .org x3]),(16,.v false [.sl .ro .row x8]),(18,.v false [.int .i64 x9]),(20,.v false [.int .i64 x10])]
def xPX(x3 x8 x9 x10 r1):rS 3 I14 (xNe x3 x8 x9 x10) [Y] [xAk r1]=st 3 I14 (xNe r1 x8 x9 (W (x10+1))) [xDm x10 x9,xJp x10 x8,AbC 6 (xBp x3 (Rowd.frm (gD x8 (tN x10) rd))) (xAk r1)]:=by kernel_rfl
def xPY(x3 x8 x9 x10):rS 3 I14 (xNe x3 x8 x9 x10) [F] []=dn (xBL x3) [xE1 x10 x9]:=by kernel_rfl
def xPZ(a0):rE I14 (xCR a0) [] []=st 3 I14 (xNe [] a0.rows (xD0 a0) 0) []:=by kernel_rfl
theorem xTn{N:Nat}:∀n x3 x8 x9 x10 r,xDj N n x3 x8 x9 x10=some r→RS Tryz.f14 I14 3 (xNe x3 x8 x9 x10) (xBL r):=by
 intro n
 induction n with
 |zero=>exact fun _ _ _ _ _ h=>nE h
 |succ n ih=>
  exact fun x3 x8 x9 x10 r h=>cE h (fun h0 h=>iE h fun h1 h=>bE h fun r1 h2 h=>tS fk14 (xPX x3 x8 x9 x10 r1) (oc3 h0 h1 (xAs h2) on) (ih _ _ _ _ _ h)) fun h0 h=>dS h fk14 (xPY x3 x8 x9 x10) (oc h0 on)
theorem xTo{N:Nat}:∀a0 r,xEJ N a0=some r→RE Tryz.f14 I14 (xCR a0) (xBL r):=fun a0 r h=>tE fk14 (xPZ a0) on (xTn _ _ _ _ _ _ h)
theorem xEu{N:Nat}{a0:Val}{r:(List Org)}(h:xEJ N  a0=some r):AbC 14 (xCR a0) (xBL r):=
 AbsCalls.of_reach fk14 rfl rfl rfl (jL rfl) (xTo a0 r h)
noncomputable def I32:Info:= { body:=(Tryz.f32.body).getD .skip,nt:=17,results:=[.tmp 4],keep:=[0,2,6,8,12,14,16,18,20,30,7,13],live:=[(2,[6,14,16,18,7])],modes:=[(6,[(1,.take,false)])] }
theorem fk32:FnOk Tryz.prog 32 Tryz.f32 I32:=by refine⟨Tryz.func32,?_,?_,?_,?_⟩<;>kernel_rfl
def xMH(x7:List Org)(x8 x9:Int)(b3:Org):St:=[(6,.v false [.ptr 3 0]),(14,.v false [.sl .ro .org x7]),(16,.v false [.int .i64 x8]),(18,.v false [.int .i64 x9]),(7,.v true [.int .i64 b3.cell,.int .i64 b3.row])]
def xQO(x7 x8 x9 b3):rS 2 I32 (xMH x7 x8 x9 b3) [Y,Y] []=dn (xCg true) [xDm x9 x8,xFU x9 x7,xPy x7 x9 b3]:=by kernel_rfl
def xQP(x7 x8 x9 b3):rS 2 I32 (xMH x7 x8 x9 b3) [Y,F] []=st 2 I32 (xMH x7 x8 (W (x9+1)) b3) [xDm x9 x8,xFU x9 x7,xMn x7 x9 b3]:=by kernel_rfl
def xQQ(x7 x8 x9 b3):rS 2 I32 (xMH x7 x8 x9 b3) [F] []=dn (xCg false) [xE1 x9 x8]:=by kernel_rfl
def xQR(a0 a1):rE I32 (xDP a0 a1) [] []=st 2 I32 (xMH a0 (Ln a0:Int) 0 a1) []:=by kernel_rfl
theorem xTN{N:Nat}:∀n x7 x8 x9 b3 r,xFt N n x7 x8 x9 b3=some r→RS Tryz.f32 I32 2 (xMH x7 x8 x9 b3) (xCg r):=by
 intro n
 induction n with
 |zero=>exact fun _ _ _ _ _ h=>nE h
 |succ n ih=>
  exact fun x7 x8 x9 b3 r h=>cE h (fun h0 h=>iE h fun h1 h=>cE h (fun h2 h=>dS h fk32 (xQO x7 x8 x9 b3) (oc3 h0 h1 h2 on)) fun h2 h=>tS fk32 (xQP x7 x8 x9 b3) (oc3 h0 h1 h2 on) (ih _ _ _ _ _ h)) fun h0 h=>dS h fk32 (xQQ x7 x8 x9 b3) (oc h0 on)
theorem xTO{N:Nat}:∀a0 a1 r,xGA N a0 a1=some r→RE Tryz.f32 I32 (xDP a0 a1) (xCg r):=fun a0 a1 r h=>tE fk32 (xQR a0 a1) on (xTN _ _ _ _ _ _ h)
theorem xGN{N:Nat}{a0:List Org}{a1:Org}{r:Bool}(h:xGA N  a0 a1=some r):AbC 32 (xDP a0 a1) (xCg r):=
 AbsCalls.of_reach fk32 rfl rfl rfl (jL rfl) (xTO a0 a1 r h)
noncomputable def I16:Info:= { body:=(Tryz.f16.body).getD .skip,nt:=27,results:=[.tmp 4],keep:=[0,2,4,6,8,10,12,14,20,22,24,26,40,5,7,15],live:=[(3,[6,10,20,22,24,7])],modes:=[(6,[(0,.take,false),(1,.take,false)]),(7,[(1,.take,false)]),(8,[(0,.take,false)])] }
theorem fk16:FnOk Tryz.prog 16 Tryz.f16 I16:=by refine⟨Tryz.func16,?_,?_,?_,?_⟩<;>kernel_rfl
def xLC(x5:List Int)(x10:List Rowd)(x11 x12:Int)(b3:Org):St:=[(6,.v false [.ptr 3 0]),(10,.v false [.sl .own .int x5]),(20,.v false [.sl .ro .row x10]),(22,.v false [.int .i64 x11]),(24,.v false [.int .i64 x12]),(7,.v true [.int .i64 b3.cell,.int .i64 b3.row])]
def xP5(x5 x10 x11 x12 b3 r1):rS 3 I16 (xLC x5 x10 x11 x12 b3) [Y,Y] [xCg r1]=st 3 I16 (xLC (x5++ [x12]) x10 x11 (W (x12+1)) b3) [xDm x12 x11,xJp x12 x10,AbC 32 (xDP (Rowd.frm (gD x10 (tN x12) rd)) b3) (xCg r1),iY r1,Ln x5+Ln [x12]≤Lim]:=by kernel_rfl
def xP6(x5 x10 x11 x12 b3 r1):rS 3 I16 (xLC x5 x10 x11 x12 b3) [Y,F] [xCg r1]=st 3 I16 (xLC x5 x10 x11 (W (x12+1)) b3) [xDm x12 x11,xJp x12 x10,AbC 32 (xDP (Rowd.frm (gD x10 (tN x12) rd)) b3) (xCg r1),iN r1]:=by kernel_rfl
def xP7(x5 x10 x11 x12 b3):rS 3 I16 (xLC x5 x10 x11 x12 b3) [F] []=dn (xCx x5) [xE1 x12 x11]:=by kernel_rfl
def xP8(a0 a1):rE I16 (xDN a0 a1) [] []=st 3 I16 (xLC [] a0.rows (xD0 a0) 0 a1) []:=by kernel_rfl
theorem xTr{N:Nat}:∀n x5 x10 x11 x12 b3 r,xEv N n x5 x10 x11 x12 b3=some r→RS Tryz.f16 I16 3 (xLC x5 x10 x11 x12 b3) (xCx r):=by
 intro n
 induction n with
 |zero=>exact fun _ _ _ _ _ _ h=>nE h
 |succ n ih=>
  exact fun x5 x10 x11 x12 b3 r h=>cE h (fun h0 h=>iE h fun h1 h=>bE h fun r1 h2 h=>cE h (fun h3 h=>iE h fun h4 h=>tS fk16 (xP5 x5 x10 x11 x12 b3 r1) (oc5 h0 h1 (xGN h2) h3 h4 on) (ih _ _ _ _ _ _ h)) fun h3 h=>tS fk16 (xP6 x5 x10 x11 x12 b3 r1) (oc4 h0 h1 (xGN h2) h3 on) (ih _ _ _ _ _ _ h)) fun h0 h=>dS h fk16 (xP7 x5 x10 x11 x12 b3) (oc h0 on)
theorem xTs{N:Nat}:∀a0 a1 r,xEK N a0 a1=some r→RE Tryz.f16 I16 (xDN a0 a1) (xCx r):=fun a0 a1 r h=>tE fk16 (xP8 a0 a1) on (xTr _ _ _ _ _ _ _ h)
theorem xGM{N:Nat}{a0:Val}{a1:Org}{r:(List Int)}(h:xEK N  a0 a1=some r):AbC 16 (xDN a0 a1) (xCx r):=
 AbsCalls.of_reach fk16 rfl rfl rfl (jL rfl) (xTs a0 a1 r h)
noncomputable def I15:Info:= { body:=(Tryz.f15.body).getD .skip,nt:=26,results:=[.tmp 4],keep:=[0,2,8,10,20,28,50],live:=[(4,[0,2,10])],modes:=[] }
theorem fk15:FnOk Tryz.prog 15 Tryz.f15 I15:=by refine⟨Tryz.func15,?_,?_,?_,?_⟩<;>kernel_rfl
def xMF(x0 x1:List Int)(x5:Int):St:=[(0,.v false [.sl .ro .int x0]),(2,.v false [.sl .ro .int x1]),(10,.v false [.int .i64 x5])]
def xP0(x0 x1 x5):rS 4 I15 (xMF x0 x1 x5) [Y,Y] []=dn (xCf false) [xJm x5 x0,xGP x5 x0,xGP x5 x1,iY (xJI x0 x5 x1)]:=by kernel_rfl
def xP1(x0 x1 x5):rS 4 I15 (xMF x0 x1 x5) [Y,F] []=st 4 I15 (xMF x0 x1 (W (x5+1))) [xJm x5 x0,xGP x5 x0,xGP x5 x1,iN (xJI x0 x5 x1)]:=by kernel_rfl
def xP2(x0 x1 x5):rS 4 I15 (xMF x0 x1 x5) [F] []=dn (xCf true) [iN (dc (x5<(Ln x0:Int)))]:=by kernel_rfl
def xP3(a0 a1):rE I15 (xDA a0 a1) [Y] []=dn (xCf false) [iY ((Ln a0:Int) != (Ln a1:Int))]:=by kernel_rfl
def xP4(a0 a1):rE I15 (xDA a0 a1) [F] []=st 4 I15 (xMF a0 a1 0) [iN ((Ln a0:Int) != (Ln a1:Int))]:=by kernel_rfl
theorem xTp{N:Nat}:∀n x0 x1 x5 r,xDB N n x0 x1 x5=some r→RS Tryz.f15 I15 4 (xMF x0 x1 x5) (xCf r):=by
 intro n
 induction n with
 |zero=>exact fun _ _ _ _ h=>nE h
 |succ n ih=>
  exact fun x0 x1 x5 r h=>cE h (fun h0 h=>iE h fun h1 h=>iE h fun h2 h=>cE h (fun h3 h=>dS h fk15 (xP0 x0 x1 x5) (oc4 h0 h1 h2 h3 on)) fun h3 h=>tS fk15 (xP1 x0 x1 x5) (oc4 h0 h1 h2 h3 on) (ih _ _ _ _ h)) fun h0 h=>dS h fk15 (xP2 x0 x1 x5) (oc h0 on)
theorem xTq{N:Nat}:∀a0 a1 r,xDY N a0 a1=some r→RE Tryz.f15 I15 (xDA a0 a1) (xCf r):=fun a0 a1 r h=>cE h (fun h0 h=>dE h fk15 (xP3 a0 a1) (oc h0 on)) fun h0 h=>tE fk15 (xP4 a0 a1) (oc h0 on) (xTp _ _ _ _ _ h)
theorem xG1{N:Nat}{a0:List Int}{a1:List Int}{r:Bool}(h:xDY N  a0 a1=some r):AbC 15 (xDA a0 a1) (xCf r):=
 AbsCalls.of_reach fk15 rfl rfl rfl (jL rfl) (xTq a0 a1 r h)
noncomputable def I3:Info:= { body:=(Tryz.f3.body).getD .skip,nt:=67,results:=[.tmp 2],keep:=[0,4,6,8,10,12,16,76,13],live:=[],modes:=[(3,[(2,.take,false)]),(5,[(6,.take,false),(14,.take,false)]),(7,[(8,.take,true)]),(8,[(4,.take,false),(11,.take,false)])] }
theorem fk3:FnOk Tryz.prog 3 Tryz.f3 I3:=by refine⟨Tryz.func3,?_,?_,?_,?_⟩<;>kernel_rfl
abbrev xHz(v0:List Int)(v1:Bool):Prop:=AbC 4 (xGY v0) (xCH v1)
def xSI(a0 r1):rE I3 (xBN a0) [Y] [xCH r1]=dn (xBO true) [xHz a0 r1,iY r1]:=by kernel_rfl
abbrev xHR(v0:List Int)(v1:(List Org)×(List Org)):Prop:=AbC 5 (xC7 v0) (xAR v1)
abbrev xHS(v0:(List Org)×(List Org))(v1:(List Org)):Prop:=AbC 6 (xBp v0.1 v0.2) (xAk v1)
abbrev xHT(v0:(List Org)×(List Org))(v1:(List Org)):Prop:=AbC 8 (xDM v0.1 v0.2) (xA2 v1)
abbrev xEj(v0 v1:(List Org))(v2:Bool):Prop:=AbC 7 (xDt v0 v1) (xAo v2)
def xSJ(a0 r1 r2 r3 r4 r5):rE I3 (xBN a0) [F,Y,Y,Y] [xCH r1,xAR r2,xAk r3,xA2 r4,xAo r5]=dn (xBO false) [xHz a0 r1,iN r1,xHR a0 r2,xHS r2 r3,xHT r2 r4,xEj r3 r4 r5,iY (!r5),iY true,iY true]:=by kernel_rfl
abbrev xIe(v0:(List Org)×(List Org))(v1:(List Org)):Prop:=AbC 6 (xBp v0.2 v0.1) (xAk v1)
def xSK(a0 r1 r2 r3 r4 r5 r6 r7):rE I3 (xBN a0) [F,F,Y,Y] [xCH r1,xAR r2,xAk r3,xA2 r4,xAo r5,xAk r6,xAo r7]=dn (xBO false) [xHz a0 r1,iN r1,xHR a0 r2,xHS r2 r3,xHT r2 r4,xEj r3 r4 r5,iN (!r5),xIe r2 r6,xEj r3 r6 r7,iY (!r7),iY true]:=by kernel_rfl
def xSL(a0 r1 r2 r3 r4 r5 r6 r7 r8 r9):rE I3 (xBN a0) [F,F,F,Y] [xCH r1,xAR r2,xAk r3,xA2 r4,xAo r5,xAk r6,xAo r7,xAk r8,xAo r9]=dn (xBO false) [xHz a0 r1,iN r1,xHR a0 r2,xHS r2 r3,xHT r2 r4,xEj r3 r4 r5,iN (!r5),xIe r2 r6,xEj r3 r6 r7,iN (!r7),AbC 6 (xBp r3 r2.1) (xAk r8),xEj r8 r3 r9,iY (!r9)]:=by kernel_rfl
abbrev xJw(v0:Val):Prop:=AbC 11 (xEA [97]) (xB8 v0)
abbrev xJx(v0:(List Org)×(List Org))(v1:Val):Prop:=AbC 13 (xD2 (Ln v0.1:Int)) (xBT v1)
abbrev xG5(v0 v1:Val):Prop:=AbC 12 (xEz [v0.re]) (xBc v1)
abbrev xNO(v0:Val×Bool)(v1:Val):Prop:=AbC 9 (xBS 3 (Val.mk v0.1.kind v0.1.n v0.1.step v0.1.text [] [] [])) (xAS v1)
abbrev xMx(v0:Val):Prop:=iY ((xD0 v0)==1)
abbrev xMy(v0:(List Org))(v1:Bool):Prop:=AbC 7 (xDt v0 [(Org.mk 3 0)]) (xAo v1)
def xSM(a0 r1 r2 r3 r4 r5 r6 r7 r8 r9 r10 r11 r12 r13 r14 r15 r16 r17 r18 r19):rE I3 (xBN a0) [F,F,F,F,Y,Y] [xCH r1,xAR r2,xAk r3,xA2 r4,xAo r5,xAk r6,xAo r7,xAk r8,xAo r9,xB8 r10,xBT r11,xBc r12,xBc r13,xC9 r14,xAS r15,xBL r16,xAo r17,xCx r18,xCf r19]=dn (xBO r19) [xHz a0 r1,iN r1,xHR a0 r2,xHS r2 r3,xHT r2 r4,xEj r3 r4 r5,iN (!r5),xIe r2 r6,xEj r3 r6 r7,iN (!r7),AbC 6 (xBp r3 r2.1) (xAk r8),xEj r8 r3 r9,iN (!r9),xJw r10,xJx r2 r11,xG5 r11 r12,xG5 r12 r13,AbC 10 (xBR r10 r13) (xC9 r14),xNO r14 r15,xMx r15,AbC 14 (xCR r15) (xBL r16),xMy r16 r17,iY r17,AbC 16 (xDN r15 (Org.mk 3 0)) (xCx r18),AbC 15 (xDA r18 [0]) (xCf r19)]:=by kernel_rfl
def xSN(a0 r1 r2 r3 r4 r5 r6 r7 r8 r9 r10 r11 r12 r13 r14 r15 r16 r17):rE I3 (xBN a0) [F,F,F,F,Y,F] [xCH r1,xAR r2,xAk r3,xA2 r4,xAo r5,xAk r6,xAo r7,xAk r8,xAo r9,xB8 r10,xBT r11,xBc r12,xBc r13,xC9 r14,xAS r15,xBL r16,xAo r17]=dn (xBO false) [xHz a0 r1,iN r1,xHR a0 r2,xHS r2 r3,xHT r2 r4,xEj r3 r4 r5,iN (!r5),xIe r2 r6,xEj r3 r6 r7,iN (!r7),AbC 6 (xBp r3 r2.1) (xAk r8),xEj r8 r3 r9,iN (!r9),xJw r10,xJx r2 r11,xG5 r11 r12,xG5 r12 r13,AbC 10 (xBR r10 r13) (xC9 r14),xNO r14 r15,xMx r15,AbC 14 (xCR r15) (xBL r16),xMy r16 r17,iN r17]:=by kernel_rfl
def xSO(a0 r1 r2 r3 r4 r5 r6 r7 r8 r9 r10 r11 r12 r13 r14 r15):rE I3 (xBN a0) [F,F,F,F,F,F] [xCH r1,xAR r2,xAk r3,xA2 r4,xAo r5,xAk r6,xAo r7,xAk r8,xAo r9,xB8 r10,xBT r11,xBc r12,xBc r13,xC9 r14,xAS r15]=dn (xBO false) [xHz a0 r1,iN r1,xHR a0 r2,xHS r2 r3,xHT r2 r4,xEj r3 r4 r5,iN (!r5),xIe r2 r6,xEj r3 r6 r7,iN (!r7),AbC 6 (xBp r3 r2.1) (xAk r8),xEj r8 r3 r9,iN (!r9),xJw r10,xJx r2 r11,xG5 r11 r12,xG5 r12 r13,AbC 10 (xBR r10 r13) (xC9 r14),xNO r14 r15,iN ((xD0 r15)==1),iN false]:=by kernel_rfl
def xSP(a0 r1 r2 r3 r4 r5 r6 r7 r8 r9 r10 r11 r12 r13 r14 r15 r16 r17 r18 r19):rE I3 (xBN a0) [F,F,F,F,Y,Y] [xCH r1,xAR r2,xAk r3,xA2 r4,xAo r5,xAk r6,xAo r7,xAk r8,xAo r9,xB8 r10,xBT r11,xBc r12,xBc r13,xCM r14,xAS r15,xBL r16,xAo r17,xCx r18,xCf r19]=dn (xBO r19) [xHz a0 r1,iN r1,xHR a0 r2,xHS r2 r3,xHT r2 r4,xEj r3 r4 r5,iN (!r5),xIe r2 r6,xEj r3 r6 r7,iN (!r7),AbC 6 (xBp r3 r2.1) (xAk r8),xEj r8 r3 r9,iN (!r9),xJw r10,xJx r2 r11,xG5 r11 r12,xG5 r12 r13,AbC 10 (xBR r10 r13) (xCM r14),AbC 9 (xBS 3 r14.1) (xAS r15),xMx r15,AbC 14 (xCR r15) (xBL r16),xMy r16 r17,iY r17,AbC 16 (xDN r15 (Org.mk 3 0)) (xCx r18),AbC 15 (xDA r18 [0]) (xCf r19)]:=by kernel_rfl
def xSQ(a0 r1 r2 r3 r4 r5 r6 r7 r8 r9 r10 r11 r12 r13 r14 r15 r16 r17):rE I3 (xBN a0) [F,F,F,F,Y,F] [xCH r1,xAR r2,xAk r3,xA2 r4,xAo r5,xAk r6,xAo r7,xAk r8,xAo r9,xB8 r10,xBT r11,xBc r12,xBc r13,xCM r14,xAS r15,xBL r16,xAo r17]=dn (xBO false) [xHz a0 r1,iN r1,xHR a0 r2,xHS r2 r3,xHT r2 r4,xEj r3 r4 r5,iN (!r5),xIe r2 r6,xEj r3 r6 r7,iN (!r7),AbC 6 (xBp r3 r2.1) (xAk r8),xEj r8 r3 r9,iN (!r9),xJw r10,xJx r2 r11,xG5 r11 r12,xG5 r12 r13,AbC 10 (xBR r10 r13) (xCM r14),AbC 9 (xBS 3 r14.1) (xAS r15),xMx r15,AbC 14 (xCR r15) (xBL r16),xMy r16 r17,iN r17]:=by kernel_rfl
def xSR(a0 r1 r2 r3 r4 r5 r6 r7 r8 r9 r10 r11 r12 r13 r14 r15):rE I3 (xBN a0) [F,F,F,F,F,F] [xCH r1,xAR r2,xAk r3,xA2 r4,xAo r5,xAk r6,xAo r7,xAk r8,xAo r9,xB8 r10,xBT r11,xBc r12,xBc r13,xCM r14,xAS r15]=dn (xBO false) [xHz a0 r1,iN r1,xHR a0 r2,xHS r2 r3,xHT r2 r4,xEj r3 r4 r5,iN (!r5),xIe r2 r6,xEj r3 r6 r7,iN (!r7),AbC 6 (xBp r3 r2.1) (xAk r8),xEj r8 r3 r9,iN (!r9),xJw r10,xJx r2 r11,xG5 r11 r12,xG5 r12 r13,AbC 10 (xBR r10 r13) (xCM r14),AbC 9 (xBS 3 r14.1) (xAS r15),iN ((xD0 r15)==1),iN false]:=by kernel_rfl
theorem c3_e{N:Nat}:∀a0 r,xEO N a0=some r→RE Tryz.f3 I3 (xBN a0) (xBO r):=fun a0 r h=>bE h fun r1 h0 h=>cE h (fun h1 h=>dE h fk3 (xSI a0 r1) (oc2 (xDH h0) h1 on)) fun h1 h=>bE h fun r2 h2 h=>bE h fun r3 h3 h=>bE h fun r4 h4 h=>bE h fun r5 h5 h=>cE h (fun h6 h=>dE h fk3 (xSJ a0 r1 r2 r3 r4 r5) (oc9 (xDH h0) h1 (xBv h2) (xAs h3) (xBW h4) (xAr h5) h6 rfl rfl on)) fun h6 h=>bE h fun r6 h7 h=>bE h fun r7 h8 h=>cE h (fun h9 h=>dE h fk3 (xSK a0 r1 r2 r3 r4 r5 r6 r7) (oc11 (xDH h0) h1 (xBv h2) (xAs h3) (xBW h4) (xAr h5) h6 (xAs h7) (xAr h8) h9 rfl on)) fun h9 h=>bE h fun r8 h10 h=>bE h fun r9 h11 h=>cE h (fun h12 h=>dE h fk3 (xSL a0 r1 r2 r3 r4 r5 r6 r7 r8 r9) (oc12 (xDH h0) h1 (xBv h2) (xAs h3) (xBW h4) (xAr h5) h6 (xAs h7) (xAr h8) h9 (xAs h10) (xAr h11) (oc h12 on))) fun h12 h=>bE h fun r10 h13 h=>bE h fun r11 h14 h=>bE h fun r12 h15 h=>bE h fun r13 h16 h=>bE h fun r14 h17 h=>cE h (fun h18 h=>iE h fun h19 h=>iE h fun h20 h=>iE h fun h21 h=>bE h fun r15 h22 h=>cE h (fun h23 h=>bE h fun r16 h24 h=>bE h fun r17 h25 h=>cE h (fun h26 h=>bE h fun r18 h27 h=>bE h fun r19 h28 h=>dE h fk3 (xSM a0 r1 r2 r3 r4 r5 r6 r7 r8 r9 r10 r11 r12 r13 r14 r15 r16 r17 r18 r19) (oc12 (xDH h0) h1 (xBv h2) (xAs h3) (xBW h4) (xAr h5) h6 (xAs h7) (xAr h8) h9 (xAs h10) (xAr h11) (oc12 h12 (xDn h13) (xCW h14) (xBP h15) (xBP h16) (xFQ (xDO h17) h18 h19 h20 h21) (xCS h22) h23 (xEu h24) (xAr h25) h26 (xGM h27) (oc (xG1 h28) on)))) fun h26 h=>dE h fk3 (xSN a0 r1 r2 r3 r4 r5 r6 r7 r8 r9 r10 r11 r12 r13 r14 r15 r16 r17) (oc12 (xDH h0) h1 (xBv h2) (xAs h3) (xBW h4) (xAr h5) h6 (xAs h7) (xAr h8) h9 (xAs h10) (xAr h11) (oc11 h12 (xDn h13) (xCW h14) (xBP h15) (xBP h16) (xFQ (xDO h17) h18 h19 h20 h21) (xCS h22) h23 (xEu h24) (xAr h25) h26 on))) fun h23 h=>
 dE h fk3 (xSO a0 r1 r2 r3 r4 r5 r6 r7 r8 r9 r10 r11 r12 r13 r14 r15) (oc12 (xDH h0) h1 (xBv h2) (xAs h3) (xBW h4) (xAr h5) h6 (xAs h7) (xAr h8) h9 (xAs h10) (xAr h11) (oc9 h12 (xDn h13) (xCW h14) (xBP h15) (xBP h16) (xFQ (xDO h17) h18 h19 h20 h21) (xCS h22) h23 rfl on))) fun h18 h=>bE h fun r15 h19 h=>cE h (fun h20 h=>bE h fun r16 h21 h=>bE h fun r17 h22 h=>cE h (fun h23 h=>bE h fun r18 h24 h=>bE h fun r19 h25 h=>dE h fk3 (xSP a0 r1 r2 r3 r4 r5 r6 r7 r8 r9 r10 r11 r12 r13 r14 r15 r16 r17 r18 r19) (oc12 (xDH h0) h1 (xBv h2) (xAs h3) (xBW h4) (xAr h5) h6 (xAs h7) (xAr h8) h9 (xAs h10) (xAr h11) (oc12 h12 (xDn h13) (xCW h14) (xBP h15) (xBP h16) (xFR (xDO h17) h18) (xCS h19) h20 (xEu h21) (xAr h22) h23 (xGM h24) (oc (xG1 h25) on)))) fun h23 h=>dE h fk3 (xSQ a0 r1 r2 r3 r4 r5 r6 r7 r8 r9 r10 r11 r12 r13 r14 r15 r16 r17) (oc12 (xDH h0) h1 (xBv h2) (xAs h3) (xBW h4) (xAr h5) h6 (xAs h7) (xAr h8) h9 (xAs h10) (xAr h11) (oc11 h12 (xDn h13) (xCW h14) (xBP h15) (xBP h16) (xFR (xDO h17) h18) (xCS h19) h20 (xEu h21) (xAr h22) h23 on))) fun h20 h=>dE h fk3 (xSR a0 r1 r2 r3 r4 r5 r6 r7 r8 r9 r10 r11 r12 r13 r14 r15) (oc12 (xDH h0) h1 (xBv h2) (xAs h3) (xBW h4) (xAr h5) h6 (xAs h7) (xAr h8) h9 (xAs h10) (xAr h11) (oc9 h12 (xDn h13) (xCW h14) (xBP h15) (xBP h16) (xFR (xDO h17) h18) (xCS h19) h20 rfl on))
theorem laws_FnOrigins_ok{N:Nat}{a0:List Int}{r:Bool}(h:xEO N  a0=some r):AbC 3 (xBN a0) (xBO r):=
 AbsCalls.of_reach fk3 rfl rfl rfl (jL rfl) (c3_e a0 r h)
end Go.Ab.T
end
section
namespace Go.Ab
inductive DK (K:Nat):D→Prop where
 |int {k n} (h:(Lit.int k n).wf=true):DK K (.int k n)
 |bool (b):DK K (.bool b)
 |str {s:Str} (h:s.length≤K):DK K (.str s)
 |sl {sz rows} (h:rows.length≤K) (hr:∀r∈rows,∀x∈r,DK K x):DK K (.sl sz rows)
theorem xPC{n:Int}:(Lit.int .i64 n).wf=true↔I64 n:=by
 show(decide (_≤n)&&decide (n≤_))=true↔_
 rw [Bool.and_eq_true,decide_eq_true_eq,decide_eq_true_eq]
 exact Iff.rfl
theorem DK.i64{K:Nat}{n:Int}:DK K (.int .i64 n)↔I64 n:=⟨fun h=>by cases h with |int h=>exact xPC.1 h,fun h=> .int (xPC.2 h)⟩
theorem DK.str_iff{K:Nat}{s:Str}:DK K (.str s)↔s.length≤K:=⟨fun h=>by cases h;assumption,.str⟩
theorem DK.sl_iff{K sz:Nat}{α:Type}{f:α→List D}{xs:List α}:DK K (.sl sz (xs.map f))↔xs.length≤K∧∀x∈xs,∀d∈f x,DK K d:=by
 constructor
 ·intro h
  cases h with
  |sl h hr=>exact⟨by simpa using h,fun x hx=>hr _ (List.mem_map_of_mem hx)⟩
 ·rintro ⟨h,hr⟩
  refine .sl (by simpa using h) fun r hr' => ?_
  obtain⟨x,hx,rfl⟩:=List.mem_map.1 hr'
  exact hr x hx
def LFit{α:Type}(K:Nat)(p:α→Prop)(l:List α):Prop:=l.length≤K∧∀x∈l,p x
def Ty.Fit(K:Nat)(T:Ty)(x:T.den):Prop:=∀d∈T.toD x,DK K d
def Org.Fit(o:Org):Prop:=I64 o.cell∧I64 o.row
def Rowd.Fit(K:Nat)(r:Rowd):Prop:=LFit K I64 r.cells∧LFit K Org.Fit r.frm
def Str.Fit(K:Nat)(s:Str):Prop:=s.length≤K
def Val.Fit(K:Nat)(v:Val):Prop:=∀d∈Val.toD v,DK K d
def Fil.Fit(K:Nat)(v:Fil):Prop:=Str.Fit K v.name∧I64 v.n
theorem xPs{K:Nat}{r:Rowd}:(∀d∈Rowd.toD r,DK K d)↔r.Fit K:=by
 simp only [Rowd.toD,List.mem_cons,List.not_mem_nil,or_false,forall_eq_or_imp,forall_eq,DK.sl_iff,DK.i64,Rowd.Fit,LFit,Org.Fit]
theorem xUs{K:Nat}{r:Fil}:Ty.Fit K .fil r↔r.Fit K:=by
 simp only [Ty.Fit,Ty.toD,List.mem_cons,List.not_mem_nil,or_false,forall_eq_or_imp,forall_eq,DK.str_iff,DK.i64,Fil.Fit,Str.Fit]
theorem Val.fit_iff{K:Nat}{v:Val}:v.Fit K↔I64 v.kind∧I64 v.n∧I64 v.step∧Str.Fit K v.text∧LFit K (Val.Fit K) v.list∧LFit K (Str.Fit K) v.columns∧LFit K (Rowd.Fit K) v.rows:=by
 cases v
 simp only [Val.Fit,Val.toD,Val.toDs_eq,List.mem_cons,List.not_mem_nil,or_false,forall_eq_or_imp,forall_eq,DK.sl_iff,DK.i64,DK.str_iff,Str.Fit,LFit,Val.kind,Val.n,Val.step,Val.text,Val.list,Val.columns,Val.rows,xPs]
theorem xIN{l:List Val}{x:Val}(h:x∈l)(k n s:Int)(t:Str)(c:List Str)(r:List Rowd):SizeOf.sizeOf x<SizeOf.sizeOf (Val.mk k n s t l c r):=by
 have:=List.sizeOf_lt_of_mem h
 simp only [Val.mk.sizeOf_spec]
 omega
theorem Val.ind{p:Val→Prop}(h:∀k n s t l c r,(∀x∈l,p x)→p (.mk k n s t l c r)):∀v,p v
 | .mk k n s t l c r=>h k n s t l c r fun x hx=>Val.ind h x
termination_by v=>SizeOf.sizeOf v
decreasing_by exact xIN hx k n s t c r
end Go.Ab
end
section
namespace Go.Ab
theorem xNs{α σ ρ:Type}{L:Nat→Int→σ→Option ρ}(x0:List α)(g:List α→σ→ρ)(Inv:Nat→σ→Prop)
 (hnil:∀n s,Inv x0.length s→L (n+1) (x0.length:Nat) s=some (g [] s))
 (hcons:∀i x l s,x0.drop i=x::l→i<x0.length→x0[i]? =some x→Inv i s→
   (∃s',Inv (i+1) s' ∧g (x::l) s=g l s' ∧∀n,L (n+1) (i:Nat) s=L n ((i+1:Nat):Int) s')∨(∀n,L (n+1) (i:Nat) s=some (g (x::l) s))):
 ∀n i s,Inv i s→i≤x0.length→x0.length<n+i→L n (i:Nat) s=some (g (x0.drop i) s):=by
 intro n
 induction n with
 |zero=>intro i s _ h1 h2;omega
 |succ n ih=>
  intro i s hs hi hn
  cases hd:x0.drop i with
  |nil=>
   have:=xN2 hd
   obtain rfl:i=x0.length:=by omega
   exact hnil n s hs
  |cons x l=>
   obtain⟨h1,h2,h3⟩:=xNr hd
   rcases hcons i x l s hd h1 h2 hs with ⟨s',h4,h5,h6⟩ |h
   ·rw [h6,ih (i+1) s' h4 (by omega) (by omega),h3,h5]
   ·exact h n
theorem xGy{α:Type}{xs:List α}{i:Nat}{x:α}(h:xs[i]? =some x)(d:α):xs.getD i d=x:=by simp [List.getD,h]
theorem xEa{i:Nat}{len:Nat}(h:i<len)(hl:len≤9223372036854775807):IntKind.i64.wrap ((i:Int)+1)=((i+1:Nat):Int):=by
 rw [xEC (by omega) (by omega)];omega
section
variable {α:Type} {d:α}
theorem xKR{L:Nat→Int→Option Bool}{x0:List α}(hend:∀n,L (n+1) (x0.length:Nat)=some true)
 (hcons:∀(i:Nat) x n,i<x0.length→x0[i]? =some x→x∈x0→L (n+1) (i:Nat)=L n ((i+1:Nat):Int)) {n:Nat} (hn:x0.length<n):L n 0=some true:=by
 have key:=xNs (σ:=Unit) (L:=fun n i _=>L n i) x0 (fun _ _=>true) (fun _ _=>True) (fun n _ _=>hend n)
  (fun i x r s hd hi hx _=> .inl ⟨(),trivial,rfl,fun n=>hcons i x n hi hx (List.mem_of_getElem? hx)⟩) n 0 () trivial (by omega) (by omega)
 exact key
end
end Go.Ab
end
section
namespace Go.Ab
theorem vk(a b c:Int)(t:Str)(l:List Val)(k:List Str)(r:List Rowd):(Val.mk a b c t l k r).kind=a:=rfl
theorem vs(a b c:Int)(t:Str)(l:List Val)(k:List Str)(r:List Rowd):(Val.mk a b c t l k r).step=c:=rfl
theorem vl(a b c:Int)(t:Str)(l:List Val)(k:List Str)(r:List Rowd):(Val.mk a b c t l k r).list=l:=rfl
theorem vr(a b c:Int)(t:Str)(l:List Val)(k:List Str)(r:List Rowd):(Val.mk a b c t l k r).rows=r:=rfl
theorem ek(a b:Int)(t:Str)(l:List Exp):(Exp.mk a b t l).kind=a:=rfl
theorem en(a b:Int)(t:Str)(l:List Exp):(Exp.mk a b t l).n=b:=rfl
theorem ea(a b:Int)(t:Str)(l:List Exp):(Exp.mk a b t l).args=l:=rfl
theorem xPw(n:Nat):Big fun N=>n<N:=⟨n+1,fun N h=>by omega⟩
end Go.Ab
end
section
namespace Go.Ab
theorem xNt{x:Int}(h1: -1000000≤x)(h2:x≤1000000):I64 x:=⟨by omega,by omega⟩
theorem xMj{α:Type}{K:Nat}{p:α→Prop}:LFit K p []:=⟨Nat.zero_le _,fun x hx=>by cases hx⟩
end Go.Ab
end
section
namespace Go.Ab
def befO(a b:Org):Bool:=decide (a.cell<b.cell)||((a.cell==b.cell)&&decide (a.row<b.row))
theorem xIl(N:Nat)(a b:Org):xFf N a b=some (befO a b):=by
 unfold xFf befO
 cases decide (a.cell<b.cell) <;>cases (a.cell==b.cell) <;>rfl
end Go.Ab
end
section
namespace Go.Ab
def kb:List Val→List Int→Bool
 | [],_=>false
 |_::_,[]=>false
 |x::r,k::ks=>(x.kind != k)||kb r ks
end Go.Ab
end
section
namespace Go.Ab
def pick(k:Int)(n:Int)(rs:List Rowd):List Rowd:=rs.filter fun r=>r.cells.getD k.toNat Ty.int.dflt==n
end Go.Ab
end
section
namespace Go.Ab
theorem xN0(a b:Org):befO a b=olt a b:=by
 unfold befO olt
 cases decide (a.cell<b.cell) <;>cases (a.cell==b.cell) <;>rfl
def SO(l:List Org):Prop:=l.Pairwise fun x y=>olt x y=true
theorem xK3{x y z:Org}(h:olt x y=true)(g:olt y z=true):olt x z=true:=xGD.trans _ _ _ h g
theorem xK2{x y:Org}(h:olt x y=true):olt y x=false:=by
 cases g:olt y x with
 |false=>rfl
 |true=>have:=xK3 h g;rw [xGD.irrefl] at this;cases this
theorem xPz{x y:Org}(h:olt x y=true):x≠y:=by rintro rfl;rw [xGD.irrefl] at h;cases h
theorem xIO:∀ {l m:List Org},SO l→SO m→(∀x,x∈l↔x∈m)→l=m
 | [],[],_,_,_=>rfl
 | [],y::m,_,_,h=>absurd ((h y).2 List.mem_cons_self) (by simp)
 |x::l,[],_,_,h=>absurd ((h x).1 List.mem_cons_self) (by simp)
 |x::l,y::m,hl,hm,h=>by
  unfold SO at hl hm
  rw [List.pairwise_cons] at hl hm
  have e:x=y:=by
   rcases List.mem_cons.1 ((h x).1 List.mem_cons_self) with e |h1
   ·exact e
   ·rcases List.mem_cons.1 ((h y).2 List.mem_cons_self) with e |h2
    ·exact e.symm
    ·have:=xK2 (hl.1 y h2)
     rw [hm.1 x h1] at this;cases this
  subst e
  refine congrArg (x:: ·) (xIO hl.2 hm.2 fun z=>⟨fun hz=> ?_,fun hz=> ?_⟩)
  ·rcases List.mem_cons.1 ((h z).1 (List.mem_cons_of_mem _ hz)) with e |h1
   ·exact absurd e.symm (xPz (hl.1 z hz))
   ·exact h1
  ·rcases List.mem_cons.1 ((h z).2 (List.mem_cons_of_mem _ hz)) with e |h1
   ·exact absurd e.symm (xPz (hm.1 z hz))
   ·exact h1
theorem xIw:∀(os acc:List Org),acc.Nodup→(os.foldl zIz acc).Nodup∧∀x,x∈os.foldl zIz acc↔x∈acc∨x∈os
 | [],acc,h=>⟨h,fun x=>by simp⟩
 |o::os,acc,h=>by
  rw [List.foldl_cons]
  have hs:(zIz acc o).Nodup∧∀x,x∈zIz acc o↔x∈acc∨x=o:=by
   unfold zIz
   by_cases hc:acc.contains o=true
   ·rw [if_pos hc]
    have hm:o∈acc:=by simpa using hc
    exact⟨h,fun x=>⟨.inl,fun g=>g.elim id fun e=>e ▸ hm⟩⟩
   ·rw [if_neg hc]
    have hm:o ∉ acc:=by simpa using hc
    refine⟨?_,fun x=>by simp⟩
    rw [List.nodup_append]
    exact⟨h,by simp,fun a ha b hb=>by simp at hb;subst hb;rintro rfl;exact hm ha⟩
  obtain⟨i1,i2⟩:=xIw os (zIz acc o) hs.1
  refine⟨i1,fun x=> ?_⟩
  rw [i2,hs.2]
  simp only [List.mem_cons]
  constructor
  ·rintro ((h |h) |h)
   ·exact .inl h
   ·exact .inr (.inl h)
   ·exact .inr (.inr h)
  ·rintro (h |h |h)
   ·exact .inl (.inl h)
   ·exact .inl (.inr h)
   ·exact .inr h
theorem xFw{a b:List Org}{x:Org}:x∈zJe a b↔x∈a∨x∈b:=by
 unfold zJe
 rw [List.mem_mergeSort]
 unfold ded
 rw [(xIw (a++b) [] List.nodup_nil).2 x]
 simp
theorem xGU(a b:List Org):SO (zJe a b):=by
 have hs:(zJe a b).Pairwise fun x y=>(!olt y x)=true:=List.pairwise_mergeSort (fun x y z h1 h2=>by
  simp only [Bool.not_eq_true'] at h1 h2 ⊢
  exact xGD.ntrans _ _ _ h2 h1) (fun x y=>by
  cases h1:olt y x with
  |false=>rfl
  |true=>rw [xK2 h1];rfl) _
 have hn:(zJe a b).Nodup:=(List.mergeSort_perm _ _).nodup_iff.2 (xIw (a++b) [] List.nodup_nil).1
 refine(hs.and hn).imp fun {x y} h=> ?_
 cases h1:olt x y with
 |true=>rfl
 |false=>exact absurd (xJN x y h1 (by simpa using h.1)) h.2
theorem xNb(a b:List Org):(zJe a b).length≤a.length+b.length:=by
 unfold zJe
 rw [List.length_mergeSort]
 have:∀(os acc:List Org),(os.foldl zIz acc).length≤acc.length+os.length:=by
  intro os
  induction os with
  |nil=>intro acc;simp
  |cons o os ih=>
   intro acc
   rw [List.foldl_cons]
   refine Nat.le_trans (ih _) ?_
   unfold zIz
   split <;>simp <;>omega
 have:=this (a++b) []
 simpa [ded] using this
theorem xDK{N:Nat}{x y:List Org}(hl:x.length+y.length≤1000000000000):xBY N x y=some (zJe x y):=by
 unfold xBY zJr
 rw [if_pos hl]
end Go.Ab
end
section
open Go.IntKind
namespace Go.Ab
def Ret{α:Type}(o:Option α)(Q:α→Prop):Prop:=∃r,o=some r∧Q r
theorem Ret.mk' {α:Type}{a:α}{Q:α→Prop}(h:Q a):Ret (Option.some a) Q:=⟨a,rfl,h⟩
theorem Ret.bnd{α β:Type}{o:Option α}{f:α→Option β}{P:α→Prop}{Q:β→Prop}(h:Ret o P)(hf:∀a,P a→Ret (f a) Q):Ret (Option.bind o f) Q:=by
 obtain⟨a,rfl,ha⟩:=h
 exact hf a ha
theorem Ret.cnd{α:Type}{b:Bool}{x y:Option α}{Q:α→Prop}(h1:b=true→Ret x Q)(h2:b=false→Ret y Q):Ret (bif b then x else y) Q:=by
 cases b
 ·exact h2 rfl
 ·exact h1 rfl
theorem Ret.chk{α:Type}{p:Prop} [Decidable p]{x:Option α}{Q:α→Prop}(hp:p)(h:Ret x Q):Ret (if p then x else none) Q:=by
 rw [if_pos hp];exact h
theorem Ret.imp{α:Type}{o:Option α}{P Q:α→Prop}(h:Ret o P)(hi:∀a,P a→Q a):Ret o Q:=by
 obtain⟨a,e,ha⟩:=h
 exact⟨a,e,hi a ha⟩
structure CurOk (c:Cur):Prop where
 lo:0≤c.i
 len:c.b.length≤1048576
def Dr{α:Type}(P:α→Prop):α×Cur→Prop:=fun r=>P r.1∧CurOk r.2
theorem xNm(x:Int):0≤andI .i64 x 255∧andI .i64 x 255≤255:=by
 unfold andI
 have h:(BitVec.ofInt IntKind.i64.bits x &&& BitVec.ofInt IntKind.i64.bits 255).toNat≤255:=by
  rw [BitVec.toNat_and]
  exact Nat.and_le_right
 rw [xEC (by omega) (by omega)]
 omega
theorem xIq{N:Nat}{c:Cur}(h:CurOk c):Ret (xD3 N c) (Dr fun v=>0≤v∧v≤255):=by
 unfold xD3
 have h1:=h.lo
 have h2:=h.len
 refine .cnd (fun hc=> ?_) (fun _=> .mk' ⟨xNm _,h1,h2⟩)
 have hc:=of_decide_eq_true hc
 refine .chk ⟨h1,hc⟩ (.mk' ⟨xNm _,?_,h2⟩)
 show 0≤i64.wrap (c.i+1)
 rw [xEC (by omega) (by omega)]
 omega
theorem xTh{x n:Int}(hx:0≤x)(hn:0<n):0≤Int.tmod x n∧Int.tmod x n<n:=by
 rw [Int.tmod_eq_emod_of_nonneg hx]
 exact⟨Int.emod_nonneg _ (by omega),Int.emod_lt_of_pos _ hn⟩
theorem xN1{N:Nat}{c:Cur}{n:Int}(h:CurOk c):Ret (xDf N c n) (Dr fun v=>0≤v∧(v<n∨v=0)):=by
 unfold xDf
 refine .cnd (fun _=> .mk' ⟨⟨by omega,.inr rfl⟩,h⟩) (fun hc=> ?_)
 have hc:¬n≤0:=of_decide_eq_false hc
 have hn:n≠0:=by omega
 refine .cnd (fun _=> .bnd (xIq h) fun a ha=> ?_) (fun _=> .bnd (xIq h) fun a ha=> .bnd (xIq ha.2) fun b hb=> .bnd (xIq hb.2) fun d hd=> .bnd (xIq hd.2) fun e he=> ?_)
 ·have:=xTh ha.1.1 (by omega:0<n)
  exact .chk hn (.mk' ⟨⟨this.1,.inl this.2⟩,ha.2⟩)
 ·have a1:=ha.1;have b1:=hb.1;have d1:=hd.1;have e1:=he.1
  have key:∀x y z w:Int,(0≤x∧x≤255)→(0≤y∧y≤255)→(0≤z∧z≤255)→(0≤w∧w≤255)→
   0≤i64.wrap ((i64.wrap ((i64.wrap ((i64.wrap (x*16777216))+(i64.wrap (y*65536))))+(i64.wrap (z*256))))+w):=by
   intro x y z w hx hy hz hw
   rw [xEC (x:=x*16777216) (by omega) (by omega),xEC (x:=y*65536) (by omega) (by omega),xEC (x:=z*256) (by omega) (by omega),xEC (x:=x*16777216+y*65536) (by omega) (by omega),
    xEC (x:=x*16777216+y*65536+z*256) (by omega) (by omega),xEC (by omega) (by omega)]
   omega
  have:=xTh (key _ _ _ _ a1 b1 d1 e1) (by omega:0<n)
  exact .chk hn (.mk' ⟨⟨this.1,.inl this.2⟩,he.2⟩)
theorem xSz{N:Nat}{c:Cur}{n:Int}(h:CurOk c)(hn:0<n):Ret (xDf N c n) (Dr fun v=>0≤v∧v<n):=
 (xN1 h).imp fun a ha=>⟨⟨ha.1.1,by have:=ha.1.2;omega⟩,ha.2⟩
end Go.Ab
end
section
namespace Go.Ab
theorem xIk{N:Nat}{xs:List Org}(hl:xs.length≤137438953472)(hn:xs.length<N):xER N xs xs=some true:=by
 unfold xER
 rw [bne_self_eq_false,cond_false]
 exact xKR (x0:=xs) (L:=fun n i=>xDp N n xs xs i) (fun n=>by simp [xDp]) (fun i x n hi hxi hm=>by
  have hi' :(i:Int)<(xs.length:Int):=by omega
  simp only [xDp,decide_eq_true hi',cond_true,Int.toNat_natCast,xGy hxi,xEa hi (by omega:xs.length≤_),beq_self_eq_true,Bool.and_self,Bool.not_true,cond_false]
  rw [if_pos (by omega),if_pos (by omega)]) hn
theorem xKI{N:Nat}{xs:List Int}(hl:xs.length≤137438953472)(hn:xs.length<N):xGm N xs xs=some true:=by
 unfold xGm
 rw [bne_self_eq_false,cond_false]
 exact xKR (x0:=xs) (L:=fun n i=>xEc N n xs xs i) (fun n=>by simp [xEc]) (fun i x n hi hxi hm=>by
  have hi' :(i:Int)<(xs.length:Int):=by omega
  simp only [xEc,decide_eq_true hi',cond_true,Int.toNat_natCast,xGy hxi,xEa hi (by omega:xs.length≤_),bne_self_eq_false,cond_false]
  rw [if_pos (by omega),if_pos (by omega)]) hn
theorem xJe{N:Nat}{xs:List Str}(hl:xs.length≤137438953472)(hn:xs.length<N):xFJ N xs xs=some true:=by
 unfold xFJ
 rw [bne_self_eq_false,cond_false]
 exact xKR (x0:=xs) (L:=fun n i=>xDR N n xs xs i) (fun n=>by simp [xDR]) (fun i x n hi hxi hm=>by
  have hi' :(i:Int)<(xs.length:Int):=by omega
  simp only [xDR,decide_eq_true hi',cond_true,Int.toNat_natCast,xGy hxi,xEa hi (by omega:xs.length≤_),beq_self_eq_true,Bool.not_true,cond_false]
  rw [if_pos (by omega),if_pos (by omega)]) hn
theorem xKK{N d K:Nat}{a:Val}(ha:a.Fit K)(hK:K≤137438953472)(hN:K<N)(hx:∀x∈a.list,∀f,xCq N d x x f=some true)(f:Bool):xCq N (d+1) a a f=some true:=by
 obtain⟨_,_,_,_,h5,h6,h7⟩:=Val.fit_iff.1 ha
 have l5:a.list.length≤K:=h5.1
 have l6:a.columns.length≤K:=h6.1
 have l7:a.rows.length≤K:=h7.1
 show xD9 N (xCq N d) a a f=_
 unfold xD9
 simp only [bne_self_eq_false,cond_false,beq_self_eq_true,Bool.not_true,xJe (N:=N) (xs:=a.columns) (by omega) (by omega),Option.bind_some]
 have r9:xDg N (xCq N d) N f 0 a a=some true:=by
  refine xKR (x0:=a.rows) (L:=fun m i=>xDg N (xCq N d) m f i a a) (fun m=>by simp [xDg]) (fun i x m hi hxi hm=> ?_) (by omega)
  have hi' :(i:Int)<(a.rows.length:Int):=by omega
  have g:=h7.2 x hm
  have g1:x.cells.length≤K:=g.1.1
  have g2:x.frm.length≤K:=g.2.1
  simp only [xDg,decide_eq_true hi',cond_true,Int.toNat_natCast,xGy hxi,xEa hi (by omega:a.rows.length≤_),xKI (N:=N) (xs:=x.cells) (by omega) (by omega),xIk (N:=N) (xs:=x.frm) (by omega) (by omega),Option.bind_some,Bool.not_true,cond_false]
  rw [if_pos (by omega),if_pos (by omega)]
  cases f <;>rfl
 refine xKR (x0:=a.list) (L:=fun m i=>xEd N (xCq N d) m f i a a) (fun m=>by simp only [xEd,Int.lt_irrefl,decide_false,cond_false];exact r9) (fun i x m hi hxi hm=> ?_) (by omega)
 have hi' :(i:Int)<(a.list.length:Int):=by omega
 simp only [xEd,decide_eq_true hi',cond_true,Int.toNat_natCast,xGy hxi,xEa hi (by omega:a.list.length≤_),hx x hm f,Option.bind_some,Bool.not_true,cond_false]
 rw [if_pos (by omega),if_pos (by omega)]
theorem xKJ{K:Nat}(hK:K≤137438953472):∀v:Val,v.Fit K→Big2 fun N d=>∀f,xCq N d v v f=some true:=by
 refine Val.ind fun k n s t l c r ih h=> ?_
 obtain⟨_,_,_,_,h5,h6,h7⟩:=Val.fit_iff.1 h
 refine Big2.succ ?_
 exact((Big2.list fun x hx=>ih x hx (h5.2 x hx)).and (xPw K).two).imp fun N d ⟨hx,hN⟩=>xKK h hK hN hx
theorem xJd{K:Nat}(hK:K≤137438953472){v:Val}(h:v.Fit K):Big fun N=>xEr N v v=some true:=
 (xKJ hK v h).diag.imp fun N h=>by
   have h1:xHI N v v true=some true:=h true
   simp only [xEr,h1,Option.bind_some]
end Go.Ab
end
section
namespace Go.Ab
def U{ι α:Type}(S:ι→Prop)(o:ι→Option α)(Q:α→Prop):Prop:=∃r,Q r∧∀x,S x→o x=some r
section
variable {ι α β:Type} {S:ι→Prop} {P:α→Prop} {Q:β→Prop}
theorem U.mk' {a:α}(h:P a):U S (fun _=>some a) P:=⟨a,h,fun _ _=>rfl⟩
theorem U.bnd{o:ι→Option α}{f:ι→α→Option β}(h:U S o P)(hf:∀a,P a→U S (fun x=>f x a) Q):U S (fun x=>Option.bind (o x) (f x)) Q:=by
 obtain⟨a,ha,e⟩:=h
 obtain⟨b,hb,e'⟩:=hf a ha
 exact⟨b,hb,fun x hx=>by show(o x).bind (f x)=_;rw [e x hx];exact e' x hx⟩
theorem U.cnd{b:Bool}{p q:ι→Option α}(h1:b=true→U S p P)(h2:b=false→U S q P):U S (fun x=>bif b then p x else q x) P:=by
 cases b
 ·exact h2 rfl
 ·exact h1 rfl
theorem U.chk{p:Prop} [Decidable p]{o:ι→Option α}(hp:p)(h:U S o P):U S (fun x=>if p then o x else none) P:=by
 obtain⟨a,ha,e⟩:=h
 exact⟨a,ha,fun x hx=>by show(if p then o x else none)=_;rw [if_pos hp];exact e x hx⟩
theorem U.pre{κ:Type}{T:κ→Prop}{o:κ→Option α}(h:U T o P)(g:ι→κ)(hg:∀x,S x→T (g x)):U S (fun x=>o (g x)) P:=by
 obtain⟨a,ha,e⟩:=h
 exact⟨a,ha,fun x hx=>e _ (hg x hx)⟩
theorem U.ret{o:Nat→Option α}(g:ι→Nat)(h:Ret (o 0) P)(hc:∀N,o N=o 0):U S (fun x=>o (g x)) P:=by
 obtain⟨a,e,ha⟩:=h
 exact⟨a,ha,fun x _=>(hc _).trans e⟩
end
theorem forU{σ ρ:Type}{L:Nat→Nat→Int→σ→Option ρ}{Q:ρ→Prop}{B:Nat}(len:Nat)(Inv:Nat→σ→Prop)(hB:len≤B)
 (hend:∀st,Inv len st→U (fun x:Nat×Nat=>B<x.1) (fun x=>L x.1 (x.2+1) (len:Nat) st) Q)
 (hstep:∀i st,i<len→Inv i st→(∀st',Inv (i+1) st' →U (fun x:Nat×Nat=>B<x.1∧len - (i+1)<x.2) (fun x=>L x.1 x.2 ((i+1:Nat):Int) st') Q)→U (fun x:Nat×Nat=>B<x.1∧len - (i+1)<x.2) (fun x=>L x.1 (x.2+1) (i:Nat) st) Q):
 ∀st,Inv 0 st→U (fun N:Nat=>B<N) (fun N=>L N N 0 st) Q:=by
 have key:∀k i st,len - i=k→i≤len→Inv i st→U (fun x:Nat×Nat=>B<x.1∧len - i<x.2) (fun x=>L x.1 x.2 (i:Nat) st) Q:=by
  intro k
  induction k with
  |zero=>
   intro i st hk hi hs
   have:i=len:=by omega
   subst this
   obtain⟨r,hr,e⟩:=hend st hs
   refine⟨r,hr,fun x hx=> ?_⟩
   obtain⟨N,n⟩:=x
   obtain⟨m,rfl⟩:∃m,n=m+1:=⟨n - 1,by have:=hx.2;simp at this;omega⟩
   exact e (N,m) hx.1
  |succ k ih=>
   intro i st hk hi hs
   obtain⟨r,hr,e⟩:=hstep i st (by omega) hs fun st' h' =>ih (i+1) st' (by omega) (by omega) h'
   refine⟨r,hr,fun x hx=> ?_⟩
   obtain⟨N,n⟩:=x
   have h2:len - i<n:=hx.2
   obtain⟨m,rfl⟩:∃m,n=m+1:=⟨n - 1,by omega⟩
   exact e (N,m) ⟨hx.1,by show len - (i+1)<m;omega⟩
 intro st hs
 exact(key len 0 st (by omega) (by omega) hs).pre (fun N=>(N,N)) fun N hN=>⟨hN,by have:B<N:=hN;show len - 0<N;omega⟩
section
variable {ι:Type} {S:ι→Prop} {c:Cur}
theorem xNo(g:ι→Nat){n:Int}(h:CurOk c)(hn:0<n):U S (fun x=>xDf (g x) c n) (Dr fun v=>0≤v∧v<n):= .ret (o:=fun N=>xDf N c n) g (xSz h hn) fun _=>rfl
theorem newU(g:ι→Nat){a:List Int}(h:a.length≤1048576)(hS:∀x,S x→1048576<g x):U S (fun x=>xF6 (g x) a) CurOk:=by
 have key:U (fun N:Nat=>1048576<N) (fun N=>xF6 N a) CurOk:=by
  unfold xF6
  refine forU (σ:=Int) (L:=fun N m i st=>xEB N m a st i) (B:=1048576) a.length (fun _ _=>True) h (fun st _=> ?_) (fun i st hi _ ih=> ?_) _ trivial
  ·simp only [xEB,Int.lt_irrefl,decide_false,cond_false]
   exact .mk' ⟨by show(0:Int)≤0;omega,h⟩
  ·simp only [xEB,decide_eq_true (show(i:Int)<(a.length:Int) by omega),cond_true,xEa hi (by omega:a.length≤_)]
   exact .cnd (fun _=> .chk ⟨by omega,by omega⟩ (ih _ trivial)) (fun _=> .mk' ⟨by show(0:Int)≤0;omega,h⟩)
 exact key.pre g hS
end
theorem xKT{x:Int}(h1: -1000000000≤x)(h2:x≤1000000000):I64 x:=⟨by omega,by omega⟩
theorem xLS{v:Int}(h:0≤v):∃n:Nat,v=(n:Int):=⟨v.toNat,by omega⟩
end Go.Ab
end
section
namespace Go.Ab
def dd(n:Nat):Str:=if n=0 then [] else Lib.decDigits n
end Go.Ab
end
section
namespace Go.Ab
theorem xKH{N:Nat}{xs:List Int}(hl:xs.length<N)(h2:xs.length≤9223372036854775807):xDY N xs xs=some true:=by
 have:=xNs (L:=fun m i (_:Unit)=>xDB N m xs xs i) xs (fun _ _=>true) (fun _ _=>True) (fun m q _=>by simp only [xDB,Int.lt_irrefl,decide_false,cond_false])
  (fun i x r q hd hi hx _=>by
    refine .inl ⟨(),trivial,rfl,fun m=> ?_⟩
    have hi' :(i:Int)<(xs.length:Int):=by omega
    simp only [xDB,decide_eq_true hi',cond_true,Int.toNat_natCast,xGy hx,bne_self_eq_false,cond_false,xEa hi h2]
    rw [if_pos (by omega),if_pos (by omega)])
  N 0 () trivial (by omega) (by omega)
 unfold xDY
 rw [bne_self_eq_false,cond_false]
 exact this
theorem xG7{K:Nat}(hK:K≤137438953472){xs:List Org}(h:Rowd.Fit K (Rowd.mk [] xs))(h1:1≤K):Big fun N=>xCs N xs xs=some true:=by
 have hf:(Val.mk 0 0 0 [] [] [] [Rowd.mk [] xs]).Fit K:=Val.fit_iff.2 ⟨show I64 0 from xNt (by omega) (by omega),show I64 0 from xNt (by omega) (by omega),show I64 0 from xNt (by omega) (by omega),Nat.zero_le _,xMj,xMj,⟨h1,fun x hx=>by have hx:x∈ [Rowd.mk [] xs]:=hx;rw [List.mem_singleton] at hx;subst hx;exact h⟩⟩
 refine(xJd hK hf).imp fun N e=> ?_
 simp only [xCs,xGO,Option.bind_some,e]
end Go.Ab
end
section
namespace Go.Ab
def insO(o:Org):List Org→List Org
 | []=> [o]
 |x::r=>bif(x.cell==o.cell)&&(x.row==o.row) then x::r else bif olt o x then o::x::r else x::insO o r
theorem xMz{x o:Org}:((x.cell==o.cell)&&(x.row==o.row))=true↔x=o:=by
 cases x;cases o
 simp
theorem xJC{o y:Org}:∀ {l:List Org},y∈insO o l↔y=o∨y∈l
 | []=>by simp [insO]
 |x::r=>by
  have ih:=xJC (o:=o) (y:=y) (l:=r)
  unfold insO
  cases h:((x.cell==o.cell)&&(x.row==o.row))
  ·cases olt o x <;>simp only [jT,cond_false,List.mem_cons,ih]
   constructor
   ·rintro (h |h |h)
    ·exact .inr (.inl h)
    ·exact .inl h
    ·exact .inr (.inr h)
   ·rintro (h |h |h)
    ·exact .inr (.inl h)
    ·exact .inl h
    ·exact .inr (.inr h)
  ·have:=xMz.1 h
   subst this
   simp only [jT,List.mem_cons]
   constructor
   ·exact fun h=> .inr h
   ·rintro (h |h)
    ·exact .inl h
    ·exact h
theorem xNv{o:Org}:∀ {l:List Org},SO l→SO (insO o l)
 | [],_=>List.pairwise_singleton _ _
 |x::r,h=>by
  obtain⟨h1,h2⟩:=List.pairwise_cons.1 h
  unfold insO
  cases hs:((x.cell==o.cell)&&(x.row==o.row))
  ·cases ho:olt o x
   ·simp only [jF]
    refine List.pairwise_cons.2 ⟨fun y hy=> ?_,xNv h2⟩
    rcases xJC.1 hy with rfl |hy
    ·cases hx:olt x y with
     |true=>rfl
     |false=>
      exfalso
      have e:=xJN x y hx ho
      rw [xMz.2 e] at hs;cases hs
    ·exact h1 y hy
   ·simp only [jT,cond_false]
    refine List.pairwise_cons.2 ⟨fun y hy=> ?_,h⟩
    rcases List.mem_cons.1 hy with rfl |hy
    ·exact ho
    ·exact xK3 ho (h1 y hy)
  ·exact h
theorem xMB{N:Nat}{l:List Org}{o:Org}(hl:l.length≤1000000000):∀(n i:Nat) (q:List Org),q.length≤1000000000+i→i≤l.length→l.length<n+i→xCu N n l q true (i:Int) o=some (q++l.drop i):=by
 intro n
 induction n with
 |zero=>intro i q _ h1 h2;omega
 |succ n ih=>
  intro i q hq h1 h2
  by_cases hi:i<l.length
  ·have hit:l[i]? =some l[i]:=by simp [hi]
   have hdr:l.drop i=l[i]::l.drop (i+1):=List.drop_eq_getElem_cons hi
   rw [hdr]
   generalize l[i]=x at*
   have hi' :(i:Int)<(l.length:Int):=by omega
   have c1:(0:Int)≤(i:Int)∧(i:Int)<(l.length:Int):=by omega
   have c2:q.length+ [x].length≤Lim:=by simp only [jC,List.length_nil];unfold Lim;omega
   have:=ih (i+1) (q++ [x]) (by rw [jA];show _+1≤_;omega) (by omega) (by omega)
   rw [List.append_assoc,List.singleton_append] at this
   simp only [xCu,decide_eq_true hi',cond_true,Int.toNat_natCast,xGy hit,if_pos c1,if_pos c2,Bool.not_true,cond_false,xEa hi (by omega:l.length≤_),this]
   cases ((x.cell==o.cell)&&(x.row==o.row)) <;>rfl
  ·have:i=l.length:=by omega
   subst this
   simp only [xCu,Int.lt_irrefl,decide_false,cond_false,Bool.not_true,List.drop_length,List.append_nil]
theorem xPr{N:Nat}{l:List Org}{o:Org}(hl:l.length≤1000000000):∀(n i:Nat) (q:List Org),q.length≤i→i≤l.length→l.length<n+i→xCu N n l q false (i:Int) o=some (q++insO o (l.drop i)):=by
 intro n
 induction n with
 |zero=>intro i q _ h1 h2;omega
 |succ n ih=>
  intro i q hq h1 h2
  by_cases hi:i<l.length
  ·have hit:l[i]? =some l[i]:=by simp [hi]
   have hdr:l.drop i=l[i]::l.drop (i+1):=List.drop_eq_getElem_cons hi
   rw [hdr]
   generalize l[i]=x at*
   have hi' :(i:Int)<(l.length:Int):=by omega
   have c1:(0:Int)≤(i:Int)∧(i:Int)<(l.length:Int):=by omega
   have c2:q.length+ [x].length≤Lim:=by simp only [jC,List.length_nil];unfold Lim;omega
   have c3:q.length+ [o].length≤Lim:=by simp only [jC,List.length_nil];unfold Lim;omega
   have c4:(q++ [o]).length+ [x].length≤Lim:=by simp only [jA,List.length_cons,List.length_nil];unfold Lim;omega
   have t1:=ih (i+1) (q++ [x]) (by rw [jA];show _+1≤_;omega) (by omega) (by omega)
   have t2:=xMB (N:=N) (o:=o) hl n (i+1) (q++ [x]) (by rw [jA];show _+1≤_;omega) (by omega) (by omega)
   have t3:=xMB (N:=N) (o:=o) hl n (i+1) ((q++ [o])++ [x]) (by simp only [jA,List.length_cons,List.length_nil];omega) (by omega) (by omega)
   rw [List.append_assoc,List.singleton_append] at t1 t2
   simp only [xCu,decide_eq_true hi',cond_true,Int.toNat_natCast,xGy hit,if_pos c1,if_pos c2,if_pos c3,if_pos c4,Bool.not_false,cond_false,xEa hi (by omega:l.length≤_),xIl,xN0,Option.bind_some,t1,t2,insO]
   cases ((x.cell==o.cell)&&(x.row==o.row)) <;>cases olt o x <;>first |rfl |(simp only [jT,cond_false];rw [t3];simp)
  ·have:i=l.length:=by omega
   subst this
   have c3:q.length+ [o].length≤Lim:=by simp only [jC,List.length_nil];unfold Lim;omega
   simp only [xCu,Int.lt_irrefl,decide_false,cond_false,Bool.not_false,cond_true,if_pos c3,List.drop_length,insO]
theorem xHW{N:Nat}{l:List Org}{o:Org}(hl:l.length≤1000000000)(hN:l.length<N):xGT N l o=some (insO o l):=by
 have:=xPr (N:=N) (o:=o) hl N 0 [] (Nat.zero_le _) (Nat.zero_le _) (by omega)
 rw [List.drop_zero,List.nil_append] at this
 exact this
theorem xJB{o:Org}:∀ {l:List Org},(insO o l).length≤l.length+1
 | []=>Nat.le_refl _
 |x::r=>by
  have:=xJB (o:=o) (l:=r)
  unfold insO
  cases ((x.cell==o.cell)&&(x.row==o.row)) <;>cases olt o x <;>simp only [jT,cond_false,List.length_cons] <;>omega
def putO(acc os:List Org):List Org:=os.foldl (fun l o=>insO o l) acc
theorem xNX{os:List Org}:∀ {acc:List Org},SO acc→SO (putO acc os):=by
 induction os with
 |nil=>exact fun h=>h
 |cons o os ih=>exact fun h=>ih (xNv h)
theorem xMk{y:Org}{os:List Org}:∀ {acc:List Org},y∈putO acc os↔y∈acc∨y∈os:=by
 induction os with
 |nil=>intro acc;simp [putO]
 |cons o os ih=>
  intro acc
  have:=ih (acc:=insO o acc)
  show y∈putO (insO o acc) os↔_
  rw [this,xJC,List.mem_cons]
  constructor
  ·rintro ((h |h) |h)
   ·exact .inr (.inl h)
   ·exact .inl h
   ·exact .inr (.inr h)
  ·rintro (h |h |h)
   ·exact .inl (.inr h)
   ·exact .inl (.inl h)
   ·exact .inr h
theorem xNa(a b:List Org):putO (putO [] a) b=zJe a b:=by
 refine xIO (xNX (xNX List.Pairwise.nil)) (xGU a b) fun x=> ?_
 rw [xMk,xMk,xFw]
 simp
theorem xPu{N:Nat}{b:List Org}:∀(n i:Nat) (acc:List Org),acc.length≤100000000+i→b.length≤100000000→300000000<N→i≤b.length→b.length<n+i→xCL N n b acc (i:Int)=some (putO acc (b.drop i)):=by
 intro n
 induction n with
 |zero=>intro i acc _ _ _ h1 h2;omega
 |succ n ih=>
  intro i acc ha hb hN h1 h2
  by_cases hi:i<b.length
  ·have hit:b[i]? =some b[i]:=by simp [hi]
   have hdr:b.drop i=b[i]::b.drop (i+1):=List.drop_eq_getElem_cons hi
   rw [hdr]
   generalize b[i]=x at*
   have hi' :(i:Int)<(b.length:Int):=by omega
   have c1:(0:Int)≤(i:Int)∧(i:Int)<(b.length:Int):=by omega
   have hlen:=xJB (o:=x) (l:=acc)
   simp only [xCL,decide_eq_true hi',cond_true,Int.toNat_natCast,xGy hit,if_pos c1,xHW (N:=N) (l:=acc) (o:=x) (by omega) (by omega),Option.bind_some,xEa hi (by omega:b.length≤_),ih (i+1) (insO x acc) (by omega) hb hN (by omega) (by omega)]
   rfl
  ·have:i=b.length:=by omega
   subst this
   simp only [xCL,Int.lt_irrefl,decide_false,cond_false,List.drop_length]
   rfl
theorem xPt{N:Nat}{a b:List Org}:∀(n i:Nat) (acc:List Org),acc.length≤i→a.length≤100000000→b.length≤100000000→300000000<N→i≤a.length→a.length<n+i→xCK N n a b acc (i:Int)=some (putO (putO acc (a.drop i)) b):=by
 intro n
 induction n with
 |zero=>intro i acc _ _ _ _ h1 h2;omega
 |succ n ih=>
  intro i acc ha hal hb hN h1 h2
  by_cases hi:i<a.length
  ·have hit:a[i]? =some a[i]:=by simp [hi]
   have hdr:a.drop i=a[i]::a.drop (i+1):=List.drop_eq_getElem_cons hi
   rw [hdr]
   generalize a[i]=x at*
   have hi' :(i:Int)<(a.length:Int):=by omega
   have c1:(0:Int)≤(i:Int)∧(i:Int)<(a.length:Int):=by omega
   have hlen:=xJB (o:=x) (l:=acc)
   simp only [xCK,decide_eq_true hi',cond_true,Int.toNat_natCast,xGy hit,if_pos c1,xHW (N:=N) (l:=acc) (o:=x) (by omega) (by omega),Option.bind_some,xEa hi (by omega:a.length≤_),ih (i+1) (insO x acc) (by omega) hal hb hN (by omega) (by omega)]
   rfl
  ·have:i=a.length:=by omega
   subst this
   have:=xPu (N:=N) (b:=b) N 0 acc (by omega) hb hN (Nat.zero_le _) (by omega)
   rw [List.drop_zero] at this
   simp only [xCK,Int.lt_irrefl,decide_false,cond_false,List.drop_length]
   exact this
theorem xHt{N:Nat}{a b:List Org}(ha:a.length≤100000000)(hb:b.length≤100000000)(hN:300000000<N):xDQ N a b=some (zJe a b):=by
 have:=xPt (N:=N) (a:=a) (b:=b) N 0 [] (Nat.zero_le _) ha hb hN (Nat.zero_le _) (by omega)
 rw [List.drop_zero,xNa] at this
 exact this
theorem xMe(a b:List Org):zJe a b=zJe b a:=xIO (xGU _ _) (xGU _ _) fun x=>by rw [xFw,xFw];exact Or.comm
theorem xMf(a b:List Org):zJe (zJe a b) a=zJe a b:=xIO (xGU _ _) (xGU _ _) fun x=>by
 rw [xFw,xFw]
 constructor
 ·rintro (h |h)
  ·exact h
  ·exact .inl h
 ·exact fun h=> .inl h
end Go.Ab
end
section
namespace Go.Ab
def oneT(n:Int)(os:List Org):Val:= .mk 5 0 0 [] [] [[97]] [Rowd.mk [n] os]
def xNl(n:Int):Prop:=n=0∨n=1∨n=2∨n=3∨n=4∨n=5
theorem xM8(m:Nat){n:Int}(h:xNl n):xFD (m+40) (.mk 2 0 0 [97] [] [] []) (.mk 3 0 0 [] [.mk 3 0 0 [] [.mk 1 n 0 [] [] [] []] [] []] [] [])=some (oneT n [],false):=by
 rcases h with rfl |rfl |rfl |rfl |rfl |rfl <;>kernel_rfl
theorem xMb(m:Nat){n:Int}(h:xNl n):xD5 (m+40) 3 (oneT n [])=some (oneT n [Org.mk 3 0]):=by
 rcases h with rfl |rfl |rfl |rfl |rfl |rfl <;>kernel_rfl
theorem xM9(m:Nat){n:Int}(h:xNl n):xEK (m+40) (oneT n [Org.mk 3 0]) (Org.mk 3 0)=some [0]:=by
 rcases h with rfl |rfl |rfl |rfl |rfl |rfl <;>kernel_rfl
theorem xK4(m:Nat){n:Int}:xEJ (m+40) (oneT n [Org.mk 3 0])=some [Org.mk 3 0]:=by
 have e:zJe [] [Org.mk 3 0]=[Org.mk 3 0]:=xIO (xGU _ _) (List.pairwise_singleton _ _) fun x=>by rw [xFw];simp
 have w:IntKind.i64.wrap (0+1)=1:=by decide
 show xDj (m+40) (m+38+1+1) [] [Rowd.mk [n] [Org.mk 3 0]] 1 0=_
 have g:xBY (m+40) [] [Org.mk 3 0]=some (zJe [] [Org.mk 3 0]):=xDK (by decide)
 have d1:List.getD [Rowd.mk [n] [Org.mk 3 0]] (Int.toNat 0) Ty.row.dflt=Rowd.mk [n] [Org.mk 3 0]:=rfl
 have c1:(0:Int)≤0∧(0:Int)<(([Rowd.mk [n] [Org.mk 3 0]]:List Rowd).length:Int):=⟨Int.le_refl _,(by decide:(0:Int)<1)⟩
 rw [xDj,show decide ((0:Int)<1)=true from rfl,cond_true,if_pos c1,d1,g,e,Option.bind_some,w,xDj]
 rfl
end Go.Ab
end
section
namespace Go.Ab
theorem xMi{c:Cur}(h:CurOk c):U (fun N:Nat=>1000<N) (fun N=>xFy N c) (Dr fun v=>v.length≤5∧∀o∈v,(0≤o.cell∧o.cell<3)∧0≤o.row∧o.row<4):=by
 unfold xFy
 refine .bnd (xNo id h (by decide)) fun a ha=> ?_
 obtain⟨n,hn⟩:=xLS ha.1.1
 have hn2:n<6:=by have:=ha.1.2;omega
 rw [hn]
 refine forU (σ:=List Org×Cur) (L:=fun N m i st=>xEe N m st.1 n i st.2) (B:=1000) n (fun i st=>(st.1.length≤i∧∀o∈st.1,(0≤o.cell∧o.cell<3)∧0≤o.row∧o.row<4)∧CurOk st.2) (by omega) (fun st hs=> ?_) (fun i st hi hs ih=> ?_) ([],a.2) ⟨⟨Nat.le_refl _,fun o ho=>by cases ho⟩,ha.2⟩
 ·simp only [xEe,Int.lt_irrefl,decide_false,cond_false]
  exact .mk' ⟨⟨by have:=hs.1.1;show st.1.length≤5;omega,hs.1.2⟩,hs.2⟩
 ·simp only [xEe,decide_eq_true (show(i:Int)<(n:Int) by omega),cond_true,xEa hi (by omega:n≤_)]
  refine .bnd (xNo _ hs.2 (by decide)) fun b hb=> .bnd (xNo _ hb.2 (by decide)) fun d hd=> .chk ?_ (ih (st.1++ [Org.mk b.1 d.1],d.2) ⟨⟨?_,fun o ho=> ?_⟩,hd.2⟩)
  ·have:=hs.1.1
   simp only [jC,List.length_nil];unfold Lim;omega
  ·have:=hs.1.1
   show(st.1++ [_]).length≤i+1
   rw [jA];show _+1≤_;omega
  ·rcases List.mem_append.1 ho with ho |ho
   ·exact hs.1.2 o ho
   ·rw [List.mem_singleton] at ho;subst ho;exact⟨hb.1,hd.1⟩
theorem xM6{a:List Int}(h:a.length≤1048576):U (fun N:Nat=>1048576<N) (fun N=>xCA N a) fun r=>(r.1.length≤5∧∀o∈r.1,(0≤o.cell∧o.cell<3)∧0≤o.row∧o.row<4)∧(r.2.length≤5∧∀o∈r.2,(0≤o.cell∧o.cell<3)∧0≤o.row∧o.row<4):=by
 have up:∀x:Nat,1048576<x→1000<x:=fun x hx=>by omega
 unfold xCA
 exact .bnd (newU id h fun x hx=>hx) fun c hc=> .bnd ((xMi hc).pre id up) fun u hu=> .bnd ((xMi hu.2).pre id up) fun v hv=> .mk' ⟨hu.1,hv.1⟩
theorem xHG(a0:List Int)(f0:∀z∈ [CV.sl .ro .byte a0],DFit z.toD):∃N,xEO N a0=some true:=by
 by_cases hb:(a0.length:Int)>1048576
 ·exact⟨0,by simp [xEO,xHq,hb]⟩
 ·obtain⟨⟨a,b⟩,⟨⟨ha,oa⟩,hb',ob⟩,hdraw⟩:=xM6 (a:=a0) (by omega)
  dsimp only at ha oa hb' ob
  have fitO:∀os:List Org,os.length≤64→(∀o∈os,(0≤o.cell∧o.cell<4)∧0≤o.row∧o.row<4)→Rowd.Fit 64 (Rowd.mk [] os):=fun os h1 h2=>
   ⟨⟨Nat.zero_le _,fun y hy=>by cases hy⟩,⟨h1,fun o ho=>by
     obtain⟨⟨p1,p2⟩,p3,p4⟩:=h2 o ho
     exact⟨xKT (by omega) (by omega),xKT (by omega) (by omega)⟩⟩⟩
  have hul:=xNb a b
  have hfu:Rowd.Fit 64 (Rowd.mk [] (zJe a b)):=fitO _ (by omega) fun o ho=>by
   rcases xFw.1 ho with h |h
   ·have:=oa o h;omega
   ·have:=ob o h;omega
  have hf3:Rowd.Fit 64 (Rowd.mk [] [Org.mk 3 0]):=fitO _ (by decide) fun o ho=>by
   rw [List.mem_singleton] at ho;subst ho;decide
  have hsmall:xNl (a.length:Int):=by unfold xNl;omega
  refine(((xG7 (by omega) hfu (by omega)).and (xG7 (by omega) hf3 (by omega))).and (xPw 300000001)).imp (fun N ⟨⟨s1,s2⟩,hN⟩=> ?_) |>.get
  obtain⟨m,rfl⟩:∃m,N=m+40:=⟨N - 40,by omega⟩
  have d1:xCA (m+40) a0=some (a,b):=hdraw (m+40) (by omega)
  have hbig:xHq (m+40) a0=some false:=by unfold xHq;rw [decide_eq_false hb]
  have u1:xBY (m+40) a b=some (zJe a b):=xDK (by omega)
  have u2:xBY (m+40) b a=some (zJe a b):=by rw [xMe a b];exact xDK (by omega)
  have u3:xBY (m+40) (zJe a b) a=some (zJe a b):=by rw [xDK (by omega),xMf]
  have u4:xDQ (m+40) a b=some (zJe a b):=xHt (by omega) (by omega) (by omega)
  have i0:xDY (m+40) [0] [0]=some true:=xKH (by show 1<_;omega) (by decide)
  have r1:(((List.length (Val.rows (oneT (a.length:Int) [Org.mk 3 0])):Int):Int)==1)=true:=rfl
  have t1:=xM8 m hsmall
  have t2:=xMb m hsmall
  have t3:=xM9 m hsmall
  have t4:=xK4 m (n:=(a.length:Int))
  unfold xEO
  rw [hbig,Option.bind_some,cond_false,d1,Option.bind_some]
  dsimp only
  rw [u1,Option.bind_some,u4,Option.bind_some,s1,Option.bind_some,Bool.not_true,cond_false,u2,Option.bind_some,s1,Option.bind_some,Bool.not_true,cond_false,u3,Option.bind_some,s1,Option.bind_some,Bool.not_true,cond_false]
  show(Option.bind (xFD (m+40) (.mk 2 0 0 [97] [] [] []) (.mk 3 0 0 [] [.mk 3 0 0 [] [.mk 1 (a.length:Int) 0 [] [] [] []] [] []] [] [])) _)=_
  rw [t1,Option.bind_some]
  dsimp only
  rw [jF,t2,Option.bind_some,r1,cond_true,t4,Option.bind_some,s2,Option.bind_some,cond_true,t3,Option.bind_some,i0,Option.bind_some]
end Go.Ab
end
section
namespace Go.Proofs.YtchkdijelkdpaaaGreatDoor
open Go.Ab Go.ChangeShapes Go.WideShapes Go.ChangeAt Go.RowKit
theorem own:ownKnob Tryz.prog.godebug=none:=by kernel_rfl
theorem xPH:laidOutB Tryz.prog=true:=by kernel_rfl
theorem xIS:zG8 Tryz.prog [(5,.byte)]=true:=by kernel_rfl
set_option maxRecDepth 100000 in
theorem fnOrigins_lifted(os:Os)(started:os.Started)(H:Type)(enc:TypeId×Value→H):
 ReturnsInHanded {} Tryz.checked os 3 .any (fun w args=>(Rows.fnOriginsSpec.pre enc Tryz.prog Tryz.f3 Rows.fnOriginsRow.domain false w args∧laidMetH Tryz.prog Rows.fnOriginsRow.laid w)∧sizedMet enc Tryz.prog Tryz.f3 (OpenSpec.ofChange Rows.fnOriginsSpec) false w args)
  (Rows.fnOriginsSpec.post enc Tryz.prog Tryz.f3 false true false false):=by
 refine returnsInHanded_of_change_and (C:=Tryz.checked) (X:=fun w _=>laidMetH Tryz.prog Rows.fnOriginsRow.laid w) (fun _ _ _ hh h=>h.of_heap hh) own started (by kernel_rfl) Tryz.func3
  (ChangeSpec.witness_shaped (enc:=enc) (C:=Tryz.checked) (os:=os) (X:=fun w _=>laidMetH Tryz.prog Rows.fnOriginsRow.laid w) false (World.laidAll Tryz.prog os Rows.fnOriginsRow.laid) #[.slice none 0 0] 8 (World.laidAll_os _ _ _)
    (World.shaped_of_ZipB (by kernel_rfl) (by kernel_rfl)) (by kernel_rfl) (by kernel_rfl) (by kernel_rfl)
    (by rw [MakeChecks.laidMetH_plain _ _ _ (by kernel_rfl)];exact laidMet_laidAll _ (by kernel_rfl) (by kernel_rfl))) ?_
 intro W base args ds gs before hval0 hW hcnd _ hL _
 letI:Inhabited Lb:=⟨⟨[]⟩⟩
 have hval:∀(j:Nat) t v,Tryz.f3.params[j]? =some t→args[j]? =some v→Value.okWide Tryz.prog W .any base t v:=hval0
 have hW' :=hW
 obtain⟨p,q,hA0,hV,rfl,hfz,hnd⟩:=hW
 have hA:DataW.TrodAll enc Tryz.prog W 0 (fun _=>true) true Tryz.f3.params.toList args.toList ds p:=hA0
 rw [Tryz.params3] at hA hval
 obtain⟨v0,vs0,d0,ds0,p0,q0,hargs,rfl,rfl,h0,r0⟩:=trodAll_cons hA
 obtain⟨rfl,rfl,rfl⟩:=trodAll_nil r0
 obtain rfl:args= #[v0]:=by cases args;simp_all
 obtain⟨rfl,rfl⟩:=trodVars_none hV
 have lt0:∀x∈p0,x.block<W.heap.size:=by obtain⟨m,hm⟩:=h0;exact DataW.trod_lt m _ _ _ hm
 obtain⟨z0,e0,f0,vr0⟩:=vr_of xIS (g:=false) (t:=22) (ns:=[.inr .byte]) (by kernel_rfl) (hval 0 22 v0 rfl rfl) h0
 obtain⟨x0_0,_,rfl,e0_0⟩:=AreOf.sl_inv e0
 obtain rfl:=e0_0.nil_inv
 obtain⟨N,hF⟩:=xHG x0_0 f0
 clear hA0 hval0
 refine(zJh T.fk3 (T.laws_FnOrigins_ok hF) (W:=W) (args:= #[v0]) ⟨vr0 _,trivial⟩ (fun x hx=>nomatch hx)).mono fun e W' ⟨he,bel⟩=> ?_
 subst he
 exact⟨_,rfl,_,_,_,[],_,[],hW',trodAll_mk1 (shut_bool Tryz.underlying4 _),(trodAll_cons_mk (Below.trod xPH (by kernel_rfl) (of_decide_eq_true (by kernel_rfl)) h0 bel lt0) trodAll_mk0),rfl,bel.frame _,fun h=>by cases h⟩
theorem fnOrigins_proved:Rows.FnOriginsSaid:=
 OpenClaim.holds_of_wide 3 Tryz.f3 rfl rfl rfl rfl rfl rfl rfl ⟨rfl,rfl,rfl,rfl,rfl⟩ rfl rfl rfl rfl rfl (by kernel_rfl) Tryz.func3 (by kernel_rfl)
  (of_decide_eq_true (by kernel_rfl)) (by unfold Func.isWrapper;first |(rw [if_pos (by decide +kernel)];kernel_rfl) |(rw [if_neg (by decide +kernel)];exact⟨rfl,rfl⟩))
  (fun os started H enc _=>fnOrigins_lifted os started H enc)
theorem fnOrigins_card:Rows.FnOriginsCardSaid:=
 Claim7.holds_tied_plain_at .later [] Rows.fnOriginsCard.laidKinds true Rows.fnOriginsCard.stood.harness Rows.fnOriginsCard.stood.looks fnOrigins_proved (fun _ h=>by cases h) (by kernel_rfl) (fun _ h=>by cases h) fnOrigins_row_tie rfl ⟨rfl,rfl⟩ (by kernel_rfl) rfl
  (fun f fn hf hfn=>by
    obtain rfl:f=3:=Option.some.inj ((show Tryz.prog.funcNamed Rows.fnOriginsRow.func=some 3 by kernel_rfl).symm.trans hf) |>.symm
    obtain rfl:fn=Tryz.f3:=(Option.some.inj (Tryz.func3.symm.trans hfn)).symm
    exact⟨by kernel_rfl,fun j t ht=>by
     rw [Tryz.params3] at ht
     have hm:t∈ [22]:=by simpa using Array.mem_of_getElem? ht
     have hall:([22].all fun u=> !Tryz.prog.wantsStandIn u)=true:=by kernel_rfl
     exact(show Tryz.prog.wantsStandIn t=false by simpa using List.all_eq_true.1 hall t hm)⟩)
  (by kernel_rfl)
end Go.Proofs.YtchkdijelkdpaaaGreatDoor
end
