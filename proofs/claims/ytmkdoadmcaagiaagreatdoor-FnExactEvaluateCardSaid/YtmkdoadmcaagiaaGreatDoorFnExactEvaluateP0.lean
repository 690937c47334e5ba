/- The statement FnExactEvaluate holds: plain functions, certificates, laws. Conditions: none. -/
import Derived.LaidMore
import Derived.Lay
import Derived.Lib.LaidTab
import Derived.Maps.AppendAt
import Derived.Maps.OwnSet
import Derived.OpenVars
import Derived.OrdersHeld
import Derived.SevenTiedAt
import Derived.Shelf.GgSortFunc.Slice
import Derived.Shelf.GgSortFunc.Tiny
import Derived.Shelf.Slices.In.SortNone2
import Derived.Shelf.Small.Bits
import Derived.Shelf.Small.Strs
import Derived.Shelf.Sort.Plain
import Derived.Shelf.Strconv.Itoa3
import Derived.Shelf.Strings.OnBuilder
import Derived.Shelf.Strings.Prefix
import Derived.Shelf.Strings.Search1
import Derived.Shelf.Strings.Split
import Derived.Sort.AssemblyPlain
import Derived.Stop.Joined
import Derived.Stop.LaidErr
import Derived.Test.YtmkdoadmcaagiaaGreatDoorCards
import Derived.Test.YtmkdoadmcaagiaaGreatDoorChecked
import Derived.Test.YtmkdoadmcaagiaaGreatDoorProg
import Derived.Test.YtmkdoadmcaagiaaGreatDoorRows
import Derived.Test.YtmkdoadmcaagiaaGreatDoorTie
import Derived.WalkKit
import Derived.Test.YtmkdoadmcaagiaaGreatDoorL1
set_option linter.all false
open Go.IntKind (i64)
open Go.IntKind renaming i64->V,u64->U
open Int (toNat)
open List (length)
section
namespace Go.Ab
abbrev Dx:Exp:=Ty.exp.dflt
abbrev Db:Bnd:=Ty.bnd.dflt
abbrev De:Rea:=Ty.rea.dflt
abbrev Ds:Str:=Ty.str.dflt
abbrev Do:Org:=Ty.org.dflt
abbrev Di:Int:=Ty.int.dflt
abbrev Dr:Rowd:=Ty.row.dflt
abbrev Dv:Val:=Ty.val.dflt
abbrev Rc(f:Fl)(e:Rea):List CV:=[.int .i64 (Rea.kind e),.int .i64 (Rea.n e),.int .i64 (Rea.time e),.str (Rea.text e),.int .i64 (Val.kind (Rea.result e)),.int .i64 (Val.n (Rea.result e)),.int .i64 (Val.step (Rea.result e)),.str (Val.text (Rea.result e)),.sl f .val (Val.list (Rea.result e)),.sl f .str (Val.columns (Rea.result e)),.sl f .row (Val.rows (Rea.result e))]
abbrev Bc(f:Fl)(e:Bnd):List CV:=[.str (Bnd.name e),.int .i64 (Val.kind (Bnd.value e)),.int .i64 (Val.n (Bnd.value e)),.int .i64 (Val.step (Bnd.value e)),.str (Val.text (Bnd.value e)),.sl f .val (Val.list (Bnd.value e)),.sl f .str (Val.columns (Bnd.value e)),.sl f .row (Val.rows (Bnd.value e))]
abbrev Wc(f:Fl)(e:Wld):List CV:=[.int .i64 (Wld.clock e),.int .i64 (Wld.seed e),.sl f .fil (Wld.files e)]
abbrev Ex(f:Fl)(e:Exp):List CV:=[.int .i64 (Exp.kind e),.int .i64 (Exp.n e),.str (Exp.text e),.sl f .exp (Exp.args e)]
abbrev Va(f:Fl)(e:Val):List CV:=[.int .i64 (Val.kind e),.int .i64 (Val.n e),.int .i64 (Val.step e),.str (Val.text e),.sl f .val (Val.list e),.sl f .str (Val.columns e),.sl f .row (Val.rows e)]
abbrev vI(x:Int):AV:= .v false [.int .i64 x]
abbrev vP(s:Nat):AV:= .v false [.ptr s 0]
abbrev vB(x:Bool):AV:= .v false [.bool x]
abbrev vTq(x:Str):AV:= .v false [.str x]
abbrev vS(f:Fl)(T:Ty)(x:List T.den):AV:= .v false [.sl f T x]
abbrev vV(f:Fl)(x:Val):AV:= .v true (Va f x)
abbrev cO(a:AV):CallO:=⟨a,[],[]⟩
abbrev aI(x:Int):Arg:= .val (vI x)
abbrev aB(x:Bool):Arg:= .val (vB x)
abbrev aT(x:Str):Arg:= .val (vTq x)
abbrev aS(f:Fl)(T:Ty)(x:List T.den):Arg:= .val (vS f T x)
abbrev aV(f:Fl)(x:Val):Arg:= .val (vV f x)
structure Mch where
 tape:List Rea
 w:Wld
 cell:Int
 version:Int
 reads:List Rea
 steps:Int
 over:Bool
structure Outc where
 value:Val
 reads:List Rea
 steps:Int
abbrev Mc(f:Fl)(e:Mch):List CV:=[.sl .ro .rea (Mch.tape e),.int .i64 (Wld.clock (Mch.w e)),.int .i64 (Wld.seed (Mch.w e)),.sl .ro .fil (Wld.files (Mch.w e)),.int .i64 (Mch.cell e),.int .i64 (Mch.version e),.sl f .rea (Mch.reads e),.int .i64 (Mch.steps e),.bool (Mch.over e)]
def xL8(r:Int×Int):CallO:=⟨.v false [.int .u64 r.1],[[.int .u64 r.2]],[]⟩
def Np(N:Nat)(a0:Int):Option (Int×Int):=some ((zP .u64 (zP .u64 (zP .u64 a0 (U.wrap (a0*2 ^ (toNat 13)))) (Int.fdiv (zP .u64 a0 (U.wrap (a0*2 ^ (toNat 13)))) ((2:Int) ^ (toNat 7)))) (U.wrap ((zP .u64 (zP .u64 a0 (U.wrap (a0*2 ^ (toNat 13)))) (Int.fdiv (zP .u64 a0 (U.wrap (a0*2 ^ (toNat 13)))) ((2:Int) ^ (toNat 7))))*2 ^ (toNat 17)))),(zP .u64 (zP .u64 (zP .u64 a0 (U.wrap (a0*2 ^ (toNat 13)))) (Int.fdiv (zP .u64 a0 (U.wrap (a0*2 ^ (toNat 13)))) ((2:Int) ^ (toNat 7)))) (U.wrap ((zP .u64 (zP .u64 a0 (U.wrap (a0*2 ^ (toNat 13)))) (Int.fdiv (zP .u64 a0 (U.wrap (a0*2 ^ (toNat 13)))) ((2:Int) ^ (toNat 7))))*2 ^ (toNat 17)))))
def AR(r:Int):CallO:=cO (vI r)
def QP(N:Nat)(a0:Int):Option Int:=nU a0
def xLZ(r:Int):CallO:=⟨.v false [.int .u64 r],[],[]⟩
def Nj(N:Nat)(a0:Int):Option Int:=(QP N (U.wrap (a0))).bind fun r1=>if(0:Int)<=(U.wrap (r1))/\(U.wrap (r1))<64 then some (U.wrap (1*2 ^ (toNat (U.wrap (r1))))) else none
def xIM(r:(List Org)):CallO:=⟨.tup [],[],[.sl (.lnt 0) .org r]⟩
def Ap(N:Nat)(a0 a1:Int)(a2:List Org):Option (List Org):=rH a0 a1 a2
def Iu(a0 a1:Int)(a2:List Org):List Arg:=[.val (.v true [.clo 270 [1000003],.swp 297 0 (.pointer (some ⟨3,179,none⟩)) 1000003]),.val (vI a0),.val (vI a1),.gbox [.sl (.lnt 0) .org a2]]
def Aw(r:(List Org)):CallO:=⟨.tup [],[[.sl (.lnt 0) .org r]],[]⟩
def Iv(N:Nat):Nat->Int->Int->List Org->Option (List Org)
 |0,_,_,_=>none
 |n+1,x6,x7,g003=>cond (decide (x6<x7)) ((Ap N x6 x7 g003).bind fun r1=>if 2<=g003.length then if r1.length=g003.length then(Iv N n (V.wrap (x6+1)) (V.wrap (x7 - 1)) r1) else none else none) (some g003)
def No(N:Nat)(a0 a1:Int)(a2:List Org):Option (List Org):=Iv N N a0 (V.wrap (a1 - 1)) a2
def GR(N:Nat):Nat->Int->Int->Int->Int->Int->List Org->Option (List Org)
 |0,_,_,_,_,_,_=>none
 |n+1,x1,x6,x8,x9,b7,g003=>cond (decide (x9<=(V.wrap ((V.wrap (x1+(V.wrap ((V.wrap (Int.tdiv x6 4))*2))))+1)))) ((Np N b7).bind fun r1=>cond (decide (((V.wrap (sI .u64 r1.1 (U.wrap (x8 - 1)))):Int)>=x6)) ((Ap N x9 (V.wrap (x1+(V.wrap ((V.wrap (sI .u64 r1.1 (U.wrap (x8 - 1)))) - x6)))) g003).bind fun r2=>if 2<=g003.length then if r2.length=g003.length then(GR N n x1 x6 x8 (V.wrap (x9+1)) r1.2 r2) else none else none) ((Ap N x9 (V.wrap (x1+(V.wrap (sI .u64 r1.1 (U.wrap (x8 - 1)))))) g003).bind fun r2=>if 2<=g003.length then if r2.length=g003.length then(GR N n x1 x6 x8 (V.wrap (x9+1)) r1.2 r2) else none else none)) (some g003)
def Nf(N:Nat)(a0 a1:Int)(a2:List Org):Option (List Org):=cond (decide ((V.wrap (a1 - a0))>=8)) ((Nj N (V.wrap (a1 - a0))).bind fun r1=>(GR N N a0 (V.wrap (a1 - a0)) r1 (V.wrap ((V.wrap (a0+(V.wrap ((V.wrap (Int.tdiv (V.wrap (a1 - a0)) 4))*2)))) - 1)) (U.wrap (V.wrap (a1 - a0))) a2)) (some a2)
def PZ(a0 a1:Org):List Arg:=[.val (.v true [.int .i64 a0.cell,.int .i64 a0.row]),.val (.v true [.int .i64 a1.cell,.int .i64 a1.row])]
def AK(r:Bool):CallO:=cO (vB r)
def H9(N:Nat)(a0 a1:Org):Option Bool:=cond (decide (a0.cell<a1.cell)) (some true) (cond (a0.cell==a1.cell) (some (decide (a0.row<a1.row))) (some false))
def CP(r:Bool×(List Org)):CallO:=⟨(vB r.1),[[.sl (.lnt 0) .org r.2]],[]⟩
def BK(N:Nat)(a0 a1:Int)(a2:List Org):Option (Bool×(List Org)):=if(0:Int)<=a0/\a0<a2.length then if(0:Int)<=a1/\a1<a2.length then(H9 N (a2.getD a0.toNat Do) (a2.getD a1.toNat Do)).bind fun r1=>some (r1,a2) else none else none
def Ir(a0 a1 a2:Int)(a3:List Org):List Arg:=[.val (.v true [.clo 270 [1000004],.swp 297 0 (.pointer (some ⟨3,179,none⟩)) 1000004]),.val (vI a0),.val (vI a1),.val (vI a2),.gbox [.sl (.lnt 0) .org a3]]
def It(r:Int×Bool×(List Org)):CallO:=⟨.tup [(false,[.int .i64 r.1]),(false,[.bool r.2.1])],[[.sl (.lnt 0) .org r.2.2]],[]⟩
def FC(N:Nat)(k13:Int->Int->Int->List Org->Option (Int×Bool×(List Org))):Nat->Int->Int->Int->List Org->Option (Int×Bool×(List Org))
 |0,_,_,_,_=>none
 |n+1,x1,x10,x11,g004=>cond (decide (x10<=x11)) ((BK N x11 x1 g004).bind fun r1=>cond (!r1.1) (FC N k13 n x1 x10 (V.wrap (x11 - 1)) r1.2) (cond (decide (x10>x11)) ((Ap N x11 x1 r1.2).bind fun r2=>if 2<=r1.2.length then if r2.length=r1.2.length then some (x11,false,r2) else none else none) ((Ap N x10 x11 r1.2).bind fun r2=>if 2<=r1.2.length then if r2.length=r1.2.length then(k13 x1 (V.wrap (x10+1)) (V.wrap (x11 - 1)) r2) else none else none))) (cond (decide (x10>x11)) ((Ap N x11 x1 g004).bind fun r1=>if 2<=g004.length then if r1.length=g004.length then some (x11,false,r1) else none else none) ((Ap N x10 x11 g004).bind fun r1=>if 2<=g004.length then if r1.length=g004.length then(k13 x1 (V.wrap (x10+1)) (V.wrap (x11 - 1)) r1) else none else none))
def DU(N:Nat):Nat->Int->Int->Int->List Org->Option (Int×Bool×(List Org))
 |0,_,_,_,_=>none
 |n+1,x1,x10,x11,g004=>cond (decide (x10<=x11)) ((BK N x10 x1 g004).bind fun r1=>cond r1.1 (DU N n x1 (V.wrap (x10+1)) x11 r1.2) (FC N (fun z0 z1 z2 z3=>(DU N n z0 z1 z2 z3)) N x1 x10 x11 r1.2)) (FC N (fun z0 z1 z2 z3=>(DU N n z0 z1 z2 z3)) N x1 x10 x11 g004)
def FD(N:Nat):Nat->Int->Int->Int->List Org->Option (Int×Bool×(List Org))
 |0,_,_,_,_=>none
 |n+1,x1,x10,x11,g004=>cond (decide (x10<=x11)) ((BK N x11 x1 g004).bind fun r1=>cond (!r1.1) (FD N n x1 x10 (V.wrap (x11 - 1)) r1.2) (cond (decide (x10>x11)) ((Ap N x11 x1 r1.2).bind fun r2=>if 2<=r1.2.length then if r2.length=r1.2.length then some (x11,true,r2) else none else none) ((Ap N x10 x11 r1.2).bind fun r2=>if 2<=r1.2.length then if r2.length=r1.2.length then(DU N N x1 (V.wrap (x10+1)) (V.wrap (x11 - 1)) r2) else none else none))) (cond (decide (x10>x11)) ((Ap N x11 x1 g004).bind fun r1=>if 2<=g004.length then if r1.length=g004.length then some (x11,true,r1) else none else none) ((Ap N x10 x11 g004).bind fun r1=>if 2<=g004.length then if r1.length=g004.length then(DU N N x1 (V.wrap (x10+1)) (V.wrap (x11 - 1)) r1) else none else none))
def Is(N:Nat):Nat->Int->Int->Int->List Org->Option (Int×Bool×(List Org))
 |0,_,_,_,_=>none
 |n+1,x1,x10,x11,g004=>cond (decide (x10<=x11)) ((BK N x10 x1 g004).bind fun r1=>cond r1.1 (Is N n x1 (V.wrap (x10+1)) x11 r1.2) (FD N N x1 x10 x11 r1.2)) (FD N N x1 x10 x11 g004)
def Nn(N:Nat)(a0 a1 a2:Int)(a3:List Org):Option (Int×Bool×(List Org)):=(Ap N a0 a2 a3).bind fun r1=>if 2<=a3.length then if r1.length=a3.length then(Is N N a0 (V.wrap (a0+1)) (V.wrap (a1 - 1)) r1) else none else none
def Nm(r:Int×(List Org)):CallO:=⟨(vI r.1),[[.sl (.lnt 0) .org r.2]],[]⟩
def FB(N:Nat)(k3:Int->Int->Int->List Org->Option (Int×(List Org))):Nat->Int->Int->Int->List Org->Option (Int×(List Org))
 |0,_,_,_,_=>none
 |n+1,x1,x9,x10,g004=>cond (decide (x9<=x10)) ((BK N x1 x10 g004).bind fun r1=>cond r1.1 (FB N k3 n x1 x9 (V.wrap (x10 - 1)) r1.2) (cond (decide (x9>x10)) (some (x9,r1.2)) ((Ap N x9 x10 r1.2).bind fun r2=>if 2<=r1.2.length then if r2.length=r1.2.length then(k3 x1 (V.wrap (x9+1)) (V.wrap (x10 - 1)) r2) else none else none))) (cond (decide (x9>x10)) (some (x9,g004)) ((Ap N x9 x10 g004).bind fun r1=>if 2<=g004.length then if r1.length=g004.length then(k3 x1 (V.wrap (x9+1)) (V.wrap (x10 - 1)) r1) else none else none))
def FA(N:Nat):Nat->Int->Int->Int->List Org->Option (Int×(List Org))
 |0,_,_,_,_=>none
 |n+1,x1,x9,x10,g004=>cond (decide (x9<=x10)) ((BK N x1 x9 g004).bind fun r1=>cond (!r1.1) (FA N n x1 (V.wrap (x9+1)) x10 r1.2) (FB N (fun z0 z1 z2 z3=>(FA N n z0 z1 z2 z3)) N x1 x9 x10 r1.2)) (FB N (fun z0 z1 z2 z3=>(FA N n z0 z1 z2 z3)) N x1 x9 x10 g004)
def Nl(N:Nat)(a0 a1 a2:Int)(a3:List Org):Option (Int×(List Org)):=(Ap N a0 a2 a3).bind fun r1=>if 2<=a3.length then if r1.length=a3.length then(FA N N a0 (V.wrap (a0+1)) (V.wrap (a1 - 1)) r1) else none else none
def In(N:Nat)(k3:Int->Int->Int->Int->List Org->Option (Bool×(List Org))):Nat->Int->Int->Int->Int->Int->List Org->Option (Bool×(List Org))
 |0,_,_,_,_,_,_=>none
 |n+1,x1,x2,x7,x8,x10,g003=>cond (decide (x10<x2)) ((BK N x10 (V.wrap (x10 - 1)) g003).bind fun r1=>cond (!r1.1) (k3 x1 x2 x7 (V.wrap (x8+1)) r1.2) ((Ap N x10 (V.wrap (x10 - 1)) r1.2).bind fun r2=>if 2<=r1.2.length then if r2.length=r1.2.length then(In N k3 n x1 x2 x7 x8 (V.wrap (x10+1)) r2) else none else none)) (k3 x1 x2 x7 (V.wrap (x8+1)) g003)
def GT(N:Nat)(k3:Int->Int->Int->Int->List Org->Option (Bool×(List Org)))(x1 x2 x7 x8:Int)(g003:List Org):Option (Bool×(List Org)):=cond (decide ((V.wrap (x2 - x7))>=2)) (In N k3 N x1 x2 x7 x8 (V.wrap (x7+1)) g003) (k3 x1 x2 x7 (V.wrap (x8+1)) g003)
def Im(N:Nat)(k3:Int->Int->Int->Int->List Org->Option (Bool×(List Org))):Nat->Int->Int->Int->Int->Int->List Org->Option (Bool×(List Org))
 |0,_,_,_,_,_,_=>none
 |n+1,x1,x2,x7,x8,x9,g003=>cond (decide (x9>=1)) ((BK N x9 (V.wrap (x9 - 1)) g003).bind fun r1=>cond (!r1.1) (GT N k3 x1 x2 x7 x8 r1.2) ((Ap N x9 (V.wrap (x9 - 1)) r1.2).bind fun r2=>if 2<=r1.2.length then if r2.length=r1.2.length then(Im N k3 n x1 x2 x7 x8 (V.wrap (x9 - 1)) r2) else none else none)) (GT N k3 x1 x2 x7 x8 g003)
def Iq(N:Nat)(k3:Int->Int->Int->Int->List Org->Option (Bool×(List Org)))(x1 x2 x7 x8:Int)(g003:List Org):Option (Bool×(List Org)):=cond (x7==x2) (some (true,g003)) (cond (decide ((V.wrap (x2 - x1))<50)) (some (false,g003)) ((Ap N x7 (V.wrap (x7 - 1)) g003).bind fun r1=>if 2<=g003.length then if r1.length=g003.length then cond (decide ((V.wrap (x7 - x1))>=2)) (Im N k3 N x1 x2 x7 x8 (V.wrap (x7 - 1)) r1) (GT N k3 x1 x2 x7 x8 r1) else none else none))
def Ip(N:Nat)(k3:Int->Int->Int->Int->List Org->Option (Bool×(List Org))):Nat->Int->Int->Int->Int->List Org->Option (Bool×(List Org))
 |0,_,_,_,_,_=>none
 |n+1,x1,x2,x7,x8,g003=>cond (decide (x7<x2)) ((BK N x7 (V.wrap (x7 - 1)) g003).bind fun r1=>cond (!r1.1) (Ip N k3 n x1 x2 (V.wrap (x7+1)) x8 r1.2) (Iq N k3 x1 x2 x7 x8 r1.2)) (Iq N k3 x1 x2 x7 x8 g003)
def GU(N:Nat):Nat->Int->Int->Int->Int->List Org->Option (Bool×(List Org))
 |0,_,_,_,_,_=>none
 |n+1,x1,x2,x7,x8,g003=>cond (decide (x8<5)) (Ip N (fun z0 z1 z2 z3 z4=>(GU N n z0 z1 z2 z3 z4)) N x1 x2 x7 x8 g003) (some (false,g003))
def Nk(N:Nat)(a0 a1:Int)(a2:List Org):Option (Bool×(List Org)):=GU N N a0 a1 (V.wrap (a0+1)) 0 a2
def xL0(r:Int×Int×Int×(List Org)):CallO:=⟨.tup [(false,[.int .i64 r.1]),(false,[.int .i64 r.2.1])],[[.int .i64 r.2.2.1],[.sl (.lnt 0) .org r.2.2.2]],[]⟩
def Il(N:Nat)(a0 a1 a2:Int)(a3:List Org):Option (Int×Int×Int×(List Org)):=(BK N a1 a0 a3).bind fun r1=>cond r1.1 (some (a1,a0,(V.wrap (a2+1)),r1.2)) (some (a0,a1,a2,r1.2))
def xB4(r:Int×Int×(List Org)):CallO:=⟨(vI r.1),[[.int .i64 r.2.1],[.sl (.lnt 0) .org r.2.2]],[]⟩
def Ik(N:Nat)(a0 a1 a2 a3:Int)(a4:List Org):Option (Int×Int×(List Org)):=(Il N a0 a1 a3 a4).bind fun r1=>(Il N r1.2.1 a2 r1.2.2.1 r1.2.2.2).bind fun r2=>(Il N r1.1 r2.1 r2.2.2.1 r2.2.2.2).bind fun r3=>some (r3.2.1,r3.2.2.1,r3.2.2.2)
def Ij(N:Nat)(a0 a1:Int)(a2:List Org):Option (Int×Int×(List Org)):=(Ik N (V.wrap (a0 - 1)) a0 (V.wrap (a0+1)) a1 a2).bind fun r1=>some (r1.1,r1.2.1,r1.2.2)
def xLV(r:Int×Int×(List Org)):CallO:=⟨.tup [(false,[.int .i64 r.1]),(false,[.int .i64 r.2.1])],[[.sl (.lnt 0) .org r.2.2]],[]⟩
def Ng(N:Nat)(a0 a1:Int)(a2:List Org):Option (Int×Int×(List Org)):=cond (decide ((V.wrap (a1 - a0))>=8)) (cond (decide ((V.wrap (a1 - a0))>=50)) ((Ij N (V.wrap (a0+(V.wrap ((V.wrap (Int.tdiv (V.wrap (a1 - a0)) 4))*1)))) 0 a2).bind fun r1=>(Ij N (V.wrap (a0+(V.wrap ((V.wrap (Int.tdiv (V.wrap (a1 - a0)) 4))*2)))) r1.2.1 r1.2.2).bind fun r2=>(Ij N (V.wrap (a0+(V.wrap ((V.wrap (Int.tdiv (V.wrap (a1 - a0)) 4))*3)))) r2.2.1 r2.2.2).bind fun r3=>(Ik N r1.1 r2.1 r3.1 r3.2.1 r3.2.2).bind fun r4=>cond (r4.2.1==0) (some (r4.1,1,r4.2.2)) (cond (r4.2.1==12) (some (r4.1,2,r4.2.2)) (some (r4.1,0,r4.2.2)))) ((Ik N (V.wrap (a0+(V.wrap ((V.wrap (Int.tdiv (V.wrap (a1 - a0)) 4))*1)))) (V.wrap (a0+(V.wrap ((V.wrap (Int.tdiv (V.wrap (a1 - a0)) 4))*2)))) (V.wrap (a0+(V.wrap ((V.wrap (Int.tdiv (V.wrap (a1 - a0)) 4))*3)))) 0 a2).bind fun r1=>cond (r1.2.1==0) (some (r1.1,1,r1.2.2)) (cond (r1.2.1==12) (some (r1.1,2,r1.2.2)) (some (r1.1,0,r1.2.2))))) (cond ((0:Int)==0) (some ((V.wrap (a0+(V.wrap ((V.wrap (Int.tdiv (V.wrap (a1 - a0)) 4))*2)))),1,a2)) (cond ((0:Int)==12) (some ((V.wrap (a0+(V.wrap ((V.wrap (Int.tdiv (V.wrap (a1 - a0)) 4))*2)))),2,a2)) (some ((V.wrap (a0+(V.wrap ((V.wrap (Int.tdiv (V.wrap (a1 - a0)) 4))*2)))),0,a2))))
def FE(N:Nat):Nat->Int->Int->Int->List Org->Option (List Org)
 |0,_,_,_,_=>none
 |n+1,x2,x3,x8,g004=>cond (decide (((V.wrap ((V.wrap (2*x8))+1)):Int)>=x2)) (some g004) (cond (decide (((V.wrap ((V.wrap ((V.wrap (2*x8))+1))+1)):Int)<x2)) ((BK N (V.wrap (x3+(V.wrap ((V.wrap (2*x8))+1)))) (V.wrap ((V.wrap (x3+(V.wrap ((V.wrap (2*x8))+1))))+1)) g004).bind fun r1=>cond r1.1 ((BK N (V.wrap (x3+x8)) (V.wrap (x3+(V.wrap ((V.wrap ((V.wrap (2*x8))+1))+1)))) r1.2).bind fun r2=>cond (!r2.1) (some r2.2) ((Ap N (V.wrap (x3+x8)) (V.wrap (x3+(V.wrap ((V.wrap ((V.wrap (2*x8))+1))+1)))) r2.2).bind fun r3=>if 2<=r2.2.length then if r3.length=r2.2.length then(FE N n x2 x3 (V.wrap ((V.wrap ((V.wrap (2*x8))+1))+1)) r3) else none else none)) ((BK N (V.wrap (x3+x8)) (V.wrap (x3+(V.wrap ((V.wrap (2*x8))+1)))) r1.2).bind fun r2=>cond (!r2.1) (some r2.2) ((Ap N (V.wrap (x3+x8)) (V.wrap (x3+(V.wrap ((V.wrap (2*x8))+1)))) r2.2).bind fun r3=>if 2<=r2.2.length then if r3.length=r2.2.length then(FE N n x2 x3 (V.wrap ((V.wrap (2*x8))+1)) r3) else none else none))) ((BK N (V.wrap (x3+x8)) (V.wrap (x3+(V.wrap ((V.wrap (2*x8))+1)))) g004).bind fun r1=>cond (!r1.1) (some r1.2) ((Ap N (V.wrap (x3+x8)) (V.wrap (x3+(V.wrap ((V.wrap (2*x8))+1)))) r1.2).bind fun r2=>if 2<=r1.2.length then if r2.length=r1.2.length then(FE N n x2 x3 (V.wrap ((V.wrap (2*x8))+1)) r2) else none else none)))
def Iw(N:Nat)(a0 a1 a2:Int)(a3:List Org):Option (List Org):=FE N N a1 a2 a0 a3
def Ig(N:Nat):Nat->Int->Int->Int->List Org->Option (List Org)
 |0,_,_,_,_=>none
 |n+1,x6,x7,x10,g003=>cond (decide (x10>=0)) ((Ap N x6 (V.wrap (x6+x10)) g003).bind fun r1=>if 2<=g003.length then if r1.length=g003.length then(Iw N x7 x10 x6 r1).bind fun r2=>(Ig N n x6 x7 (V.wrap (x10 - 1)) r2) else none else none) (some g003)
def If(N:Nat):Nat->Int->Int->Int->Int->List Org->Option (List Org)
 |0,_,_,_,_,_=>none
 |n+1,x6,x7,x8,x9,g003=>cond (decide (x9>=0)) ((Iw N x9 x8 x6 g003).bind fun r1=>(If N n x6 x7 x8 (V.wrap (x9 - 1)) r1)) (Ig N N x6 x7 (V.wrap (x8 - 1)) g003)
def Nh(N:Nat)(a0 a1:Int)(a2:List Org):Option (List Org):=(If N N a0 0 (V.wrap (a1 - a0)) (V.wrap (Int.tdiv (V.wrap ((V.wrap (a1 - a0)) - 1)) 2)) a2)
def Ii(N:Nat)(k2:Int->Int->Int->List Org->Option (List Org)):Nat->Int->Int->Int->Int->List Org->Option (List Org)
 |0,_,_,_,_,_=>none
 |n+1,x1,x2,x6,x7,g003=>cond (decide (x7>x1)) ((BK N x7 (V.wrap (x7 - 1)) g003).bind fun r1=>cond r1.1 ((Ap N x7 (V.wrap (x7 - 1)) r1.2).bind fun r2=>if 2<=r1.2.length then if r2.length=r1.2.length then(Ii N k2 n x1 x2 x6 (V.wrap (x7 - 1)) r2) else none else none) (k2 x1 x2 (V.wrap (x6+1)) r1.2)) (k2 x1 x2 (V.wrap (x6+1)) g003)
def Ih(N:Nat):Nat->Int->Int->Int->List Org->Option (List Org)
 |0,_,_,_,_=>none
 |n+1,x1,x2,x6,g003=>cond (decide (x6<x2)) (Ii N (fun z0 z1 z2 z3=>(Ih N n z0 z1 z2 z3)) N x1 x2 x6 x6 g003) (some g003)
def Ni(N:Nat)(a0 a1:Int)(a2:List Org):Option (List Org):=Ih N N a0 a1 (V.wrap (a0+1)) a2
def Ki(N:Nat)(q0:Int->Int->Int->List Org->Option (List Org))(k3:Int->Int->Int->Bool->Bool->List Org->Option (List Org))(x1 x2 x3 x10 x11:Int)(g004:List Org):Option (List Org):=(Nn N x1 x2 x11 g004).bind fun r1=>cond (decide ((V.wrap (r1.1 - x1))<(V.wrap (x2 - r1.1)))) ((q0 x1 r1.1 x3 r1.2.2).bind fun r2=>(k3 (V.wrap (r1.1+1)) x2 x3 (decide ((V.wrap (r1.1 - x1))>=(V.wrap (Int.tdiv x10 8)))) r1.2.1 r2)) ((q0 (V.wrap (r1.1+1)) x2 x3 r1.2.2).bind fun r2=>(k3 x1 r1.1 x3 (decide ((V.wrap (x2 - r1.1))>=(V.wrap (Int.tdiv x10 8)))) r1.2.1 r2))
def GV(N:Nat)(q0:Int->Int->Int->List Org->Option (List Org))(k3:Int->Int->Int->Bool->Bool->List Org->Option (List Org))(x1 x2 x3:Int)(x8 x9:Bool)(x10 x11:Int)(g004:List Org):Option (List Org):=cond (decide (x1>0)) ((BK N (V.wrap (x1 - 1)) x11 g004).bind fun r1=>cond (!r1.1) ((Nl N x1 x2 x11 r1.2).bind fun r2=>(k3 r2.1 x2 x3 x8 x9 r2.2)) (Ki N q0 k3 x1 x2 x3 x10 x11 r1.2)) (Ki N q0 k3 x1 x2 x3 x10 x11 g004)
def Kh(N:Nat)(q0:Int->Int->Int->List Org->Option (List Org))(k3:Int->Int->Int->Bool->Bool->List Org->Option (List Org))(x1 x2 x3:Int)(x8 x9:Bool)(x10 x11 x12:Int)(g004:List Org):Option (List Org):=cond x8 (cond x9 (cond (x12==1) ((Nk N x1 x2 g004).bind fun r1=>cond r1.1 (some r1.2) (GV N q0 k3 x1 x2 x3 x8 x9 x10 x11 r1.2)) (GV N q0 k3 x1 x2 x3 x8 x9 x10 x11 g004)) (GV N q0 k3 x1 x2 x3 x8 x9 x10 x11 g004)) (GV N q0 k3 x1 x2 x3 x8 x9 x10 x11 g004)
def Kg(N:Nat)(q0:Int->Int->Int->List Org->Option (List Org))(k3:Int->Int->Int->Bool->Bool->List Org->Option (List Org))(x1 x2 x3:Int)(x8 x9:Bool)(x10:Int)(g004:List Org):Option (List Org):=(Ng N x1 x2 g004).bind fun r1=>cond (r1.2.1==2) ((No N x1 x2 r1.2.2).bind fun r2=>(Kh N q0 k3 x1 x2 x3 x8 x9 x10 (V.wrap ((V.wrap (x2 - 1)) - (V.wrap (r1.1 - x1)))) 1 r2)) (Kh N q0 k3 x1 x2 x3 x8 x9 x10 r1.1 r1.2.1 r1.2.2)
def GW(N:Nat)(q0:Int->Int->Int->List Org->Option (List Org)):Nat->Int->Int->Int->Bool->Bool->List Org->Option (List Org)
 |0,_,_,_,_,_,_=>none
 |n+1,x1,x2,x3,x8,x9,g004=>cond (decide ((V.wrap (x2 - x1))<=12)) ((Ni N x1 x2 g004).bind fun r1=>some r1) (cond (x3==0) ((Nh N x1 x2 g004).bind fun r1=>some r1) (cond (!x8) ((Nf N x1 x2 g004).bind fun r1=>(Kg N q0 (fun z0 z1 z2 z3 z4 z5=>(GW N q0 n z0 z1 z2 z3 z4 z5)) x1 x2 (V.wrap (x3 - 1)) x8 x9 (V.wrap (x2 - x1)) r1)) (Kg N q0 (fun z0 z1 z2 z3 z4 z5=>(GW N q0 n z0 z1 z2 z3 z4 z5)) x1 x2 x3 x8 x9 (V.wrap (x2 - x1)) g004)))
def xB5(N:Nat)(q0:Int->Int->Int->List Org->Option (List Org))(a0 a1 a2:Int)(a3:List Org):Option (List Org):=GW N q0 N a0 a1 a2 true true a3
def GX(N:Nat):Nat->Int->Int->Int->List Org->Option (List Org)
 |0,_,_,_,_=>none
 |d+1,a0,a1,a2,a3=>xB5 N (GX N d) a0 a1 a2 a3
def Qj(N:Nat)(a0 a1 a2:Int)(a3:List Org):Option (List Org):=GX N N a0 a1 a2 a3
def IV(a0:Exp)(a1:Int):List Arg:=[.val (.v true (Ex .ro a0)),.val (vI a1)]
def xAY(N:Nat)(q0:Exp->Int->Option Int)(q1:List Exp->Int->Option Int)(a0:Exp)(a1:Int):Option Int:=cond (decide (V.wrap (a1 - a0.text.length)<0)) (some (-1)) ((q1 a0.args (V.wrap (a1 - a0.text.length))).bind fun r1=>cond (decide (r1<0)) (some (-1)) (some r1))
def Mw(N:Nat)(q0:Exp->Int->Option Int)(q1:List Exp->Int->Option Int):Nat->List Exp->Int->Int->Option Int
 |0,_,_,_=>none
 |n+1,x0,x1,x5=>cond (decide (x5<x0.length)) (ite (0<=x5/\x5<x0.length) ((q0 (x0.getD x5.toNat Dx) x1).bind fun r1=>cond (decide (r1<0)) (some (-1)) (Mw N q0 q1 n x0 r1 (V.wrap (x5+1)))) none) (some x1)
def xAX(N:Nat)(q0:Exp->Int->Option Int)(q1:List Exp->Int->Option Int)(a0:List Exp)(a1:Int):Option Int:=cond (decide (V.wrap (a1 - a0.length)<0)) (some (-1)) (Mw N q0 q1 N a0 (V.wrap (a1 - a0.length)) 0)
structure Rq0 where
 c0:Exp->Int->Option (Int)
 c1:(List Exp)->Int->Option (Int)
def Cm(N:Nat):Nat->Rq0
 |0=>⟨fun _ _=>none,fun _ _=>none⟩
 |d+1=>⟨xAY N (Cm N d).c0 (Cm N d).c1,xAX N (Cm N d).c0 (Cm N d).c1⟩
def Py(N:Nat)(a0:Exp)(a1:Int):Option Int:=(Cm N N).c0 a0 a1
def ND(N:Nat):Nat->List Str->Int->Int->Option Int
 |0,_,_,_=>none
 |n+1,x0,x1,x5=>cond (decide (x5<x0.length)) (ite (0<=x5/\x5<x0.length) (cond (decide (((V.wrap (x1 - (length (x0.getD x5.toNat Ds):Int))):Int)<0)) (some (-1)) (ND N n x0 (V.wrap (x1 - (length (x0.getD x5.toNat Ds):Int))) (V.wrap (x5+1)))) none) (some x1)
def QE(N:Nat)(a0:List Str)(a1:Int):Option Int:=cond (decide (V.wrap (a1 - a0.length)<0)) (some (-1)) (ND N N a0 (V.wrap (a1 - a0.length)) 0)
def QA(N:Nat)(a0:List Int)(a1:Int):Option Int:=cond (decide (V.wrap (a1 - a0.length)<0)) (some (-1)) (some (V.wrap (a1 - a0.length)))
def QB(N:Nat)(a0:List Org)(a1:Int):Option Int:=cond (decide (V.wrap (a1 - a0.length)<0)) (some (-1)) (some (V.wrap (a1 - a0.length)))
def NB(N:Nat)(a0:Rowd)(a1:Int):Option Int:=(QA N a0.cells a1).bind fun r1=>cond (decide (r1<0)) (some (-1)) ((QB N a0.frm r1).bind fun r2=>cond (decide (r2<0)) (some (-1)) (some r2))
def NC(N:Nat):Nat->List Rowd->Int->Int->Option Int
 |0,_,_,_=>none
 |n+1,x0,x1,x5=>cond (decide (x5<x0.length)) (ite (0<=x5/\x5<x0.length) ((NB N (x0.getD x5.toNat Dr) x1).bind fun r1=>cond (decide (r1<0)) (some (-1)) (NC N n x0 r1 (V.wrap (x5+1)))) none) (some x1)
def QD(N:Nat)(a0:List Rowd)(a1:Int):Option Int:=cond (decide (V.wrap (a1 - a0.length)<0)) (some (-1)) (NC N N a0 (V.wrap (a1 - a0.length)) 0)
def xA0(N:Nat)(q0:Val->Int->Option Int)(q1:List Val->Int->Option Int)(a0:Val)(a1:Int):Option Int:=cond (decide (V.wrap (a1 - a0.text.length)<0)) (some (-1)) ((q1 a0.list (V.wrap (a1 - a0.text.length))).bind fun r1=>cond (decide (r1<0)) (some (-1)) ((QE N a0.columns r1).bind fun r2=>cond (decide (r2<0)) (some (-1)) ((QD N a0.rows r2).bind fun r3=>cond (decide (r3<0)) (some (-1)) (some r3))))
def KV(a0:List Val)(a1:Int):List Arg:=[.val (vS .ro .val a0),.val (vI a1)]
def NF(N:Nat)(q0:Val->Int->Option Int)(q1:List Val->Int->Option Int):Nat->List Val->Int->Int->Option Int
 |0,_,_,_=>none
 |n+1,x0,x1,x5=>cond (decide (x5<x0.length)) (ite (0<=x5/\x5<x0.length) ((q0 (x0.getD x5.toNat Dv) x1).bind fun r1=>cond (decide (r1<0)) (some (-1)) (NF N q0 q1 n x0 r1 (V.wrap (x5+1)))) none) (some x1)
def xAZ(N:Nat)(q0:Val->Int->Option Int)(q1:List Val->Int->Option Int)(a0:List Val)(a1:Int):Option Int:=cond (decide (V.wrap (a1 - a0.length)<0)) (some (-1)) (NF N q0 q1 N a0 (V.wrap (a1 - a0.length)) 0)
structure Rq1 where
 c2:Val->Int->Option (Int)
 c3:(List Val)->Int->Option (Int)
def Cn(N:Nat):Nat->Rq1
 |0=>⟨fun _ _=>none,fun _ _=>none⟩
 |d+1=>⟨xA0 N (Cn N d).c2 (Cn N d).c3,xAZ N (Cn N d).c2 (Cn N d).c3⟩
def NE(N:Nat)(a0:Val)(a1:Int):Option Int:=(Cn N N).c2 a0 a1
def Mu(N:Nat)(a0:Bnd)(a1:Int):Option Int:=cond (decide (V.wrap (a1 - a0.name.length)<0)) (some (-1)) ((NE N a0.value (V.wrap (a1 - a0.name.length))).bind fun r1=>cond (decide (r1<0)) (some (-1)) (some r1))
def Mv(N:Nat):Nat->List Bnd->Int->Int->Option Int
 |0,_,_,_=>none
 |n+1,x0,x1,x5=>cond (decide (x5<x0.length)) (ite (0<=x5/\x5<x0.length) ((Mu N (x0.getD x5.toNat Db) x1).bind fun r1=>cond (decide (r1<0)) (some (-1)) (Mv N n x0 r1 (V.wrap (x5+1)))) none) (some x1)
def Px(N:Nat)(a0:List Bnd)(a1:Int):Option Int:=cond (decide (V.wrap (a1 - a0.length)<0)) (some (-1)) (Mv N N a0 (V.wrap (a1 - a0.length)) 0)
def Mz(N:Nat)(a0:Rea)(a1:Int):Option Int:=cond (decide (V.wrap (a1 - a0.text.length)<0)) (some (-1)) ((NE N a0.result (V.wrap (a1 - a0.text.length))).bind fun r1=>cond (decide (r1<0)) (some (-1)) (some r1))
def NA(N:Nat):Nat->List Rea->Int->Int->Option Int
 |0,_,_,_=>none
 |n+1,x0,x1,x5=>cond (decide (x5<x0.length)) (ite (0<=x5/\x5<x0.length) ((Mz N (x0.getD x5.toNat De) x1).bind fun r1=>cond (decide (r1<0)) (some (-1)) (NA N n x0 r1 (V.wrap (x5+1)))) none) (some x1)
def QC(N:Nat)(a0:List Rea)(a1:Int):Option Int:=cond (decide (V.wrap (a1 - a0.length)<0)) (some (-1)) (NA N N a0 (V.wrap (a1 - a0.length)) 0)
def Mx(N:Nat)(a0:Fil)(a1:Int):Option Int:=cond (decide (V.wrap (a1 - a0.name.length)<0)) (some (-1)) (some (V.wrap (a1 - a0.name.length)))
def My(N:Nat):Nat->List Fil->Int->Int->Option Int
 |0,_,_,_=>none
 |n+1,x0,x1,x5=>cond (decide (x5<x0.length)) (ite (0<=x5/\x5<x0.length) ((Mx N (x0.getD x5.toNat Ty.fil.dflt) x1).bind fun r1=>cond (decide (r1<0)) (some (-1)) (My N n x0 r1 (V.wrap (x5+1)))) none) (some x1)
def Pz(N:Nat)(a0:List Fil)(a1:Int):Option Int:=cond (decide (V.wrap (a1 - a0.length)<0)) (some (-1)) (My N N a0 (V.wrap (a1 - a0.length)) 0)
def QF(N:Nat)(a0:Wld)(a1:Int):Option Int:=(Pz N a0.files a1).bind fun r1=>cond (decide (r1<0)) (some (-1)) (some r1)
def Av(a0:Exp):List Arg:=[.val (.v true (Ex .ro a0))]
def QH(r:Exp):CallO:=⟨.v true (Ex .own r),[],[]⟩
def NK(N:Nat)(q0:Exp->Option Exp)(q1:List Exp->Option (List Exp))(a0:Exp):Option Exp:=(q1 a0.args).bind fun r1=>some (Exp.mk a0.kind a0.n a0.text r1)
def QG(r:(List Exp)):CallO:=cO (vS .own .exp r)
def NI(N:Nat)(q0:Exp->Option Exp)(q1:List Exp->Option (List Exp)):Nat->List Exp->List Exp->Int->Option (List Exp)
 |0,_,_,_=>none
 |n+1,x0,x3,x4=>cond (decide (x4<x0.length)) (ite (0<=x4/\x4<x0.length) ((q0 (x0.getD x4.toNat Dx)).bind fun r1=>ite (0<=x4/\x4<x3.length) (NI N q0 q1 n x0 (x3.set x4.toNat r1.re) (V.wrap (x4+1))) none) none) (some x3)
def NJ(N:Nat)(q0:Exp->Option Exp)(q1:List Exp->Option (List Exp))(a0:List Exp):Option (List Exp):=if(0:Int)<=a0.length/\a0.length=(a0.length:Int)/\(a0.length:Int)<=Lim then(NI N q0 q1 N a0 (List.replicate (toNat (a0.length:Int)) Dx) 0) else none
structure Rq2 where
 c4:Exp->Option (Exp)
 c5:(List Exp)->Option ((List Exp))
def By(N:Nat):Nat->Rq2
 |0=>⟨fun _=>none,fun _=>none⟩
 |d+1=>⟨NK N (By N d).c4 (By N d).c5,NJ N (By N d).c4 (By N d).c5⟩
def IX(N:Nat)(a0:Exp):Option Exp:=(By N N).c4 a0
def EE(r:(List Str)):CallO:=cO (vS .own .str r)
def NZ(N:Nat):Nat->List Str->List Str->Int->Option (List Str)
 |0,_,_,_=>none
 |n+1,x0,x3,x4=>cond (decide (x4<x0.length)) (ite (0<=x4/\x4<x0.length) (ite (0<=x4/\x4<x3.length) (NZ N n x0 (x3.set x4.toNat (x0.getD x4.toNat Ds)) (V.wrap (x4+1))) none) none) (some x3)
def NY(N:Nat)(a0:List Str):Option (List Str):=if(0:Int)<=a0.length/\a0.length=(a0.length:Int)/\(a0.length:Int)<=Lim then(NZ N N a0 (List.replicate (toNat (a0.length:Int)) Ds) 0) else none
def xA3(r:(List Int)):CallO:=cO (vS .own .int r)
def NP(N:Nat):Nat->List Int->List Int->Int->Option (List Int)
 |0,_,_,_=>none
 |n+1,x0,x3,x4=>cond (decide (x4<x0.length)) (ite (0<=x4/\x4<x0.length) (ite (0<=x4/\x4<x3.length) (NP N n x0 (x3.set x4.toNat (x0.getD x4.toNat Di)) (V.wrap (x4+1))) none) none) (some x3)
def NO(N:Nat)(a0:List Int):Option (List Int):=if(0:Int)<=a0.length/\a0.length=(a0.length:Int)/\(a0.length:Int)<=Lim then(NP N N a0 (List.replicate (toNat (a0.length:Int)) Di) 0) else none
def xJ4(r:Org):CallO:=⟨.v true [.int .i64 (Org.cell r),.int .i64 (Org.row r)],[],[]⟩
def QJ(N:Nat)(a0:Org):Option Org:=some a0
def IY(r:(List Org)):CallO:=cO (vS .own .org r)
def NR(N:Nat):Nat->List Org->List Org->Int->Option (List Org)
 |0,_,_,_=>none
 |n+1,x0,x3,x4=>cond (decide (x4<x0.length)) (ite (0<=x4/\x4<x0.length) ((QJ N (x0.getD x4.toNat Do)).bind fun r1=>ite (0<=x4/\x4<x3.length) (NR N n x0 (x3.set x4.toNat r1) (V.wrap (x4+1))) none) none) (some x3)
def NQ(N:Nat)(a0:List Org):Option (List Org):=if(0:Int)<=a0.length/\a0.length=(a0.length:Int)/\(a0.length:Int)<=Lim then(NR N N a0 (List.replicate (toNat (a0.length:Int)) Do) 0) else none
def QK(a0:Rowd):List Arg:=[.val (.v true [.sl .ro .int a0.cells,.sl .ro .org a0.frm])]
def NX(r:Rowd):CallO:=⟨.v true [.sl .own .int (Rowd.cells r),.sl .own .org (Rowd.frm r)],[],[]⟩
def KY(N:Nat)(a0:Rowd):Option Rowd:=(NO N a0.cells).bind fun r1=>(NQ N a0.frm).bind fun r2=>some (Rowd.mk r1 r2)
def xA5(r:(List Rowd)):CallO:=cO (vS .own .row r)
def NW(N:Nat):Nat->List Rowd->List Rowd->Int->Option (List Rowd)
 |0,_,_,_=>none
 |n+1,x0,x3,x4=>cond (decide (x4<x0.length)) (ite (0<=x4/\x4<x0.length) ((KY N (x0.getD x4.toNat Dr)).bind fun r1=>ite (0<=x4/\x4<x3.length) (NW N n x0 (x3.set x4.toNat r1) (V.wrap (x4+1))) none) none) (some x3)
def NV(N:Nat)(a0:List Rowd):Option (List Rowd):=if(0:Int)<=a0.length/\a0.length=(a0.length:Int)/\(a0.length:Int)<=Lim then(NW N N a0 (List.replicate (toNat (a0.length:Int)) Dr) 0) else none
def Ad(a0:Val):List Arg:=[.val (vV .ro a0)]
def AX(r:Val):CallO:=cO (vV .own r)
def N3(N:Nat)(q0:Val->Option Val)(q1:List Val->Option (List Val))(a0:Val):Option Val:=(q1 a0.list).bind fun r1=>(NY N a0.columns).bind fun r2=>(NV N a0.rows).bind fun r3=>some (Val.mk a0.kind a0.n a0.step a0.text r1 r2 r3)
def Co(a0:List Val):List Arg:=[.val (vS .ro .val a0)]
def GD(r:(List Val)):CallO:=cO (vS .own .val r)
def N1(N:Nat)(q0:Val->Option Val)(q1:List Val->Option (List Val)):Nat->List Val->List Val->Int->Option (List Val)
 |0,_,_,_=>none
 |n+1,x0,x3,x4=>cond (decide (x4<x0.length)) (ite (0<=x4/\x4<x0.length) ((q0 (x0.getD x4.toNat Dv)).bind fun r1=>ite (0<=x4/\x4<x3.length) (N1 N q0 q1 n x0 (x3.set x4.toNat r1.re) (V.wrap (x4+1))) none) none) (some x3)
def N2(N:Nat)(q0:Val->Option Val)(q1:List Val->Option (List Val))(a0:List Val):Option (List Val):=if(0:Int)<=a0.length/\a0.length=(a0.length:Int)/\(a0.length:Int)<=Lim then(N1 N q0 q1 N a0 (List.replicate (toNat (a0.length:Int)) Dv) 0) else none
structure Rq3 where
 c6:Val->Option (Val)
 c7:(List Val)->Option ((List Val))
def Bd(N:Nat):Nat->Rq3
 |0=>⟨fun _=>none,fun _=>none⟩
 |d+1=>⟨N3 N (Bd N d).c6 (Bd N d).c7,N2 N (Bd N d).c6 (Bd N d).c7⟩
def N0(N:Nat)(a0:Val):Option Val:=(Bd N N).c6 a0
def xJU(r:Bnd):CallO:=⟨.v true (Bc .own r),[],[]⟩
def KW(N:Nat)(a0:Bnd):Option Bnd:=(N0 N a0.value).bind fun r1=>some (Bnd.mk a0.name r1)
def IW(r:(List Bnd)):CallO:=cO (vS .own .bnd r)
def NG(N:Nat):Nat->List Bnd->List Bnd->Int->Option (List Bnd)
 |0,_,_,_=>none
 |n+1,x0,x3,x4=>cond (decide (x4<x0.length)) (ite (0<=x4/\x4<x0.length) ((KW N (x0.getD x4.toNat Db)).bind fun r1=>ite (0<=x4/\x4<x3.length) (NG N n x0 (x3.set x4.toNat (Bnd.mk r1.name (r1.value.re))) (V.wrap (x4+1))) none) none) (some x3)
def GB(N:Nat)(a0:List Bnd):Option (List Bnd):=if(0:Int)<=a0.length/\a0.length=(a0.length:Int)/\(a0.length:Int)<=Lim then(NG N N a0 (List.replicate (toNat (a0.length:Int)) Db) 0) else none
def xA4(r:Rea):CallO:=⟨.v true (Rc .own r),[],[]⟩
def KX(N:Nat)(a0:Rea):Option Rea:=(N0 N a0.result).bind fun r1=>some (Rea.mk a0.kind a0.n a0.time a0.text r1)
def NU(r:(List Rea)):CallO:=cO (vS .own .rea r)
def NS(N:Nat):Nat->List Rea->List Rea->Int->Option (List Rea)
 |0,_,_,_=>none
 |n+1,x0,x3,x4=>cond (decide (x4<x0.length)) (ite (0<=x4/\x4<x0.length) ((KX N (x0.getD x4.toNat De)).bind fun r1=>ite (0<=x4/\x4<x3.length) (NS N n x0 (x3.set x4.toNat (Rea.mk r1.kind r1.n r1.time r1.text (r1.result.re))) (V.wrap (x4+1))) none) none) (some x3)
def GC(N:Nat)(a0:List Rea):Option (List Rea):=if(0:Int)<=a0.length/\a0.length=(a0.length:Int)/\(a0.length:Int)<=Lim then(NS N N a0 (List.replicate (toNat (a0.length:Int)) De) 0) else none
def xJ0(r:Fil):CallO:=⟨.v true [.str (Fil.name r),.int .i64 (Fil.n r)],[],[]⟩
def QI(N:Nat)(a0:Fil):Option Fil:=some a0
def xA2(r:(List Fil)):CallO:=cO (vS .own .fil r)
def NN(N:Nat):Nat->List Fil->List Fil->Int->Option (List Fil)
 |0,_,_,_=>none
 |n+1,x0,x3,x4=>cond (decide (x4<x0.length)) (ite (0<=x4/\x4<x0.length) ((QI N (x0.getD x4.toNat Ty.fil.dflt)).bind fun r1=>ite (0<=x4/\x4<x3.length) (NN N n x0 (x3.set x4.toNat r1) (V.wrap (x4+1))) none) none) (some x3)
def NM(N:Nat)(a0:List Fil):Option (List Fil):=if(0:Int)<=a0.length/\a0.length=(a0.length:Int)/\(a0.length:Int)<=Lim then(NN N N a0 (List.replicate (toNat (a0.length:Int)) Ty.fil.dflt) 0) else none
def xKc(r:Wld):CallO:=⟨.v true (Wc .own r),[],[]⟩
def GE(N:Nat)(a0:Wld):Option Wld:=(NM N a0.files).bind fun r1=>some (Wld.mk a0.clock a0.seed r1)
def FM(N:Nat)(q0:Exp->Int->Option Int):Nat->Int->Int->Exp->Option Int
 |0,_,_,_=>none
 |n+1,x1,x5,b2=>cond (decide (x5<b2.args.length)) (cond (decide (x1>=0)) (ite (0<=x5/\x5<b2.args.length) ((q0 (b2.args.getD x5.toNat Dx) x1).bind fun r1=>(FM N q0 n r1 (V.wrap (x5+1)) b2)) none) (some x1)) (some x1)
def xCq(N:Nat)(q0:Exp->Int->Option Int)(a0:Exp)(a1:Int):Option Int:=FM N q0 N (V.wrap (a1 - 1)) 0 a0
def JI(N:Nat):Nat->Exp->Int->Option Int
 |0,_,_=>none
 |d+1,a0,a1=>xCq N (JI N d) a0 a1
def RC(N:Nat)(a0:Exp)(a1:Int):Option Int:=JI N N a0 a1
def Gn(N:Nat)(a0 a1:Int):Option Int:=cond (decide (a0>a1)) (some a0) (some a1)
def JE(N:Nat)(q0:Exp->Option Int):Nat->Int->Int->Exp->Option Int
 |0,_,_,_=>none
 |n+1,x3,x4,b1=>cond (decide (x4<b1.args.length)) (ite (0<=x4/\x4<b1.args.length) ((q0 (b1.args.getD x4.toNat Dx)).bind fun r1=>(Gn N x3 r1).bind fun r2=>(JE N q0 n r2 (V.wrap (x4+1)) b1)) none) (some (V.wrap (x3+1)))
def xCh(N:Nat)(q0:Exp->Option Int)(a0:Exp):Option Int:=JE N q0 N 0 0 a0
def Kv(N:Nat):Nat->Exp->Option Int
 |0,_=>none
 |d+1,a0=>xCh N (Kv N d) a0
def Qz(N:Nat)(a0:Exp):Option Int:=Kv N N a0
def D0(N:Nat)(a0 a1 a2:Int):Option Bool:=cond (decide (a0>=a1)) (some (decide (a0<=a2))) (some false)
def CX(a0:Str):List Arg:=[.val (vTq a0)]
def FK(N:Nat):Nat->Str->Int->Option Bool
 |0,_,_=>none
 |n+1,x0,x3=>cond (decide (x3<x0.length)) (ite (0<=x3/\x3<x0.length) (cond (decide (((x0.getD x3.toNat 0).toNat:Int)<32)) (some false) (cond (decide (((x0.getD x3.toNat 0).toNat:Int)>126)) (some false) (cond (((x0.getD x3.toNat 0).toNat:Int)==34) (some false) (FK N n x0 (V.wrap (x3+1)))))) none) (some (decide ((x0.length:Int)<=20)))
def Nx(N:Nat)(a0:Str):Option Bool:=FK N N a0 0
def D1(N:Nat):Nat->Str->Int->Option Bool
 |0,_,_=>none
 |n+1,x0,x3=>cond (decide (x3<x0.length)) (ite (0<=x3/\x3<x0.length) (cond (decide (((x0.getD x3.toNat 0).toNat:Int)>=97)) (cond (decide (((x0.getD x3.toNat 0).toNat:Int)>=48)) (cond (!(decide (((x0.getD x3.toNat 0).toNat:Int)<=122))) (cond (x3==0) (some false) (cond (!(decide (((x0.getD x3.toNat 0).toNat:Int)<=57))) (some false) (D1 N n x0 (V.wrap (x3+1))))) (D1 N n x0 (V.wrap (x3+1)))) (cond (!(decide (((x0.getD x3.toNat 0).toNat:Int)<=122))) (cond (x3==0) (some false) (some false)) (D1 N n x0 (V.wrap (x3+1))))) (cond (decide (((x0.getD x3.toNat 0).toNat:Int)>=48)) (cond (x3==0) (some false) (cond (!(decide (((x0.getD x3.toNat 0).toNat:Int)<=57))) (some false) (D1 N n x0 (V.wrap (x3+1))))) (cond (x3==0) (some false) (some false)))) none) (some (decide ((x0.length:Int)>0)))
def RL(N:Nat)(a0:Str):Option Bool:=D1 N N a0 0
def xNi:List Arg:=[]
def RK(N:Nat):Option (List Str):=some [[108,101,116],[105,110],[105,102],[116,104,101,110],[101,108,115,101],[102,111,114],[100,111],[108,101,110],[115,117,109],[116,97,107,101],[115,107,105,112],[114,97,110,103,101],[110,116,104],[119,104,101,114,101],[107,101,101,112],[97,100,100],[103,114,111,117,112],[106,111,105,110],[99,111,108,117,109,110],[114,111,119,115],[99,108,111,99,107],[99,104,97,110,99,101],[102,105,108,101],[116,97,98,108,101]]
def Gl(N:Nat):Nat->List Str->Str->Int->Option Bool
 |0,_,_,_=>none
 |n+1,x0,x1,x5=>cond (decide (x5<x0.length)) (ite (0<=x5/\x5<x0.length) (cond (((x0.getD x5.toNat Ds):Str)==x1) (some true) (Gl N n x0 x1 (V.wrap (x5+1)))) none) (some false)
def OL(N:Nat)(a0:List Str)(a1:Str):Option Bool:=Gl N N a0 a1 0
def Nv(N:Nat)(a0:Str):Option Bool:=(RK N).bind fun r1=>(OL N r1 a0).bind fun r2=>some r2
def FJ(N:Nat)(a0:Str):Option Bool:=(RL N a0).bind fun r1=>cond r1 (cond (decide ((a0.length:Int)<=8)) ((Nv N a0).bind fun r2=>some (!r2)) (some false)) (some false)
def DW(N:Nat)(a0:Str):Option Int:=cond (a0== [99,108,111,99,107]) (some 0) (cond (a0== [108,101,110]) (some 1) (cond (a0== [115,117,109]) (some 1) (cond (a0== [114,111,119,115]) (some 1) (cond (a0== [99,104,97,110,99,101]) (some 1) (cond (a0== [102,105,108,101]) (some 1) (cond (a0== [116,97,107,101]) (some 2) (cond (a0== [115,107,105,112]) (some 2) (cond (a0== [114,97,110,103,101]) (some 2) (cond (a0== [110,116,104]) (some 2) (cond (a0== [107,101,101,112]) (some 2) (cond (a0== [99,111,108,117,109,110]) (some 2) (cond (a0== [116,97,98,108,101]) (some 2) (cond (a0== [119,104,101,114,101]) (some 3) (cond (a0== [103,114,111,117,112]) (some 3) (cond (a0== [106,111,105,110]) (some 3) (cond (a0== [97,100,100]) (some 4) (some (-1))))))))))))))))))
def OF(N:Nat)(a0:Exp):Option Bool:=cond (a0.kind==1) (cond ((a0.args.length:Int)==0) (cond (a0.text== []) ((D0 N a0.n 0 1000000000).bind fun r1=>some r1) (some false)) (some false)) (cond (a0.kind==2) (cond ((a0.args.length:Int)==0) (cond (a0.n==0) ((Nx N a0.text).bind fun r1=>some r1) (some false)) (some false)) (cond (a0.kind==3) (cond ((a0.args.length:Int)==0) (cond (a0.n==0) ((FJ N a0.text).bind fun r1=>some r1) (some false)) (some false)) (cond (a0.kind==4) (cond (a0.n==0) (cond (a0.text== []) (some (decide ((a0.args.length:Int)<=8))) (some false)) (some false)) (cond (a0.kind==5) (cond (a0.n==0) ((DW N a0.text).bind fun r1=>some ((a0.args.length:Int)==r1)) (some false)) (cond (a0.kind==6) (cond (a0.text== []) (cond ((a0.args.length:Int)==2) ((D0 N a0.n 1 5).bind fun r1=>some r1) (some false)) (some false)) (cond (a0.kind==7) (cond (a0.n==0) (cond ((a0.args.length:Int)==2) ((FJ N a0.text).bind fun r1=>some r1) (some false)) (some false)) (cond (a0.kind==9) (cond (a0.n==0) (cond ((a0.args.length:Int)==2) ((FJ N a0.text).bind fun r1=>some r1) (some false)) (some false)) (cond (a0.kind==8) (cond (a0.n==0) (cond (a0.text== []) (some ((a0.args.length:Int)==3)) (some false)) (some false)) (some false)))))))))
def Gi(N:Nat)(q0:Exp->Option Bool):Nat->Int->Exp->Option Bool
 |0,_,_=>none
 |n+1,x3,b1=>cond (decide (x3<b1.args.length)) (ite (0<=x3/\x3<b1.args.length) ((q0 (b1.args.getD x3.toNat Dx)).bind fun r1=>cond (!r1) (some false) (Gi N q0 n (V.wrap (x3+1)) b1)) none) ((OF N b1).bind fun r1=>some r1)
def xCo(N:Nat)(q0:Exp->Option Bool)(a0:Exp):Option Bool:=Gi N q0 N 0 a0
def LA(N:Nat):Nat->Exp->Option Bool
 |0,_=>none
 |d+1,a0=>xCo N (LA N d) a0
def RB(N:Nat)(a0:Exp):Option Bool:=LA N N a0
def Nw(N:Nat)(a0:Exp):Option Bool:=(RC N a0 40).bind fun r1=>cond (decide (r1>=0)) ((Qz N a0).bind fun r2=>cond (decide (r2<=8)) ((RB N a0).bind fun r3=>some r3) (some false)) (some false)
def AL(N:Nat)(a0:Int):Option Val:=some (Val.mk 6 a0 0 [] [] [] [])
def As(N:Nat)(a0:Int):Option Val:=some (Val.mk 1 a0 0 [] [] [] [])
def Kz(N:Nat)(a0:Str):Option Val:=some (Val.mk 2 0 0 a0 [] [] [])
def LD(N:Nat)(a0:Rowd):Option Rowd:=if 0+a0.cells.length<=Lim then if 0+a0.frm.length<=Lim then some (Rowd.mk ([]++a0.cells) ([]++a0.frm)) else none else none
def Gq(N:Nat)(q0:Val->Option Val):Nat->Int->Val->Val->Val->Option Val
 |0,_,_,_,_=>none
 |n+1,x5,b1,b2,b3=>cond (decide (x5<b1.rows.length)) (ite (0<=x5/\x5<b1.rows.length) ((LD N (b1.rows.getD x5.toNat Dr)).bind fun r1=>if b3.rows.length+ [r1].length<=Lim then(Gq N q0 n (V.wrap (x5+1)) b1 b2 (Val.mk b3.kind b3.n b3.step b3.text b3.list b3.columns (b3.rows++ [r1]))) else none) none) (some b3)
def JN(N:Nat)(q0:Val->Option Val):Nat->Int->Val->Val->Val->Option Val
 |0,_,_,_,_=>none
 |n+1,x4,b1,b2,b3=>cond (decide (x4<b1.list.length)) (ite (0<=x4/\x4<b1.list.length) ((q0 (b1.list.getD x4.toNat Dv)).bind fun r1=>if b3.list.length+ [r1.re].length<=Lim then(JN N q0 n (V.wrap (x4+1)) b1 b2 (Val.mk b3.kind b3.n b3.step b3.text (b3.list++ [r1.re]) b3.columns b3.rows)) else none) none) (Gq N q0 N 0 b1 b2 b3)
def OP(N:Nat)(q0:Val->Option Val)(a0:Val):Option Val:=if 0+a0.columns.length<=Lim then(JN N q0 N 0 a0 (Val.mk 0 0 0 [] [] [] []) (Val.mk a0.kind a0.n a0.step a0.text [] ([]++a0.columns) [])) else none
def Gr(N:Nat):Nat->Val->Option Val
 |0,_=>none
 |d+1,a0=>OP N (Gr N d) a0
def Bg(N:Nat)(a0:Val):Option Val:=Gr N N a0
def JD(N:Nat):Nat->List Bnd->Str->Int->Val->Option Val
 |0,_,_,_,_=>none
 |n+1,x0,x1,x5,b4=>cond (decide (x5>=0)) (ite (0<=x5/\x5<x0.length) (cond (((Bnd.name (x0.getD x5.toNat Db)):Str)==x1) ((Bg N (Bnd.value (x0.getD x5.toNat Db))).bind fun r1=>some r1) (JD N n x0 x1 (V.wrap (x5 - 1)) b4)) none) ((AL N 1).bind fun r1=>some r1)
def OA(N:Nat)(a0:List Bnd)(a1:Str):Option Val:=(JD N N a0 a1 (V.wrap ((a0.length:Int) - 1)) (Val.mk 0 0 0 [] [] [] []))
def Ca(N:Nat)(a0:Int):Option Bool:=(D0 N a0 (-1000000000) 1000000000).bind fun r1=>some r1
def LC(N:Nat)(a0:Val):Option Bool:=cond (a0.kind==1) (some true) (cond (a0.kind==2) (some true) (some (a0.kind==3)))
def Iz(N:Nat)(q0:Val->Option Int):Nat->Int->Int->Val->Option Int
 |0,_,_,_=>none
 |n+1,x3,x4,b1=>cond (decide (x4<b1.list.length)) (ite (0<=x4/\x4<b1.list.length) ((q0 (b1.list.getD x4.toNat Dv)).bind fun r1=>(Gn N x3 r1).bind fun r2=>(Iz N q0 n r2 (V.wrap (x4+1)) b1)) none) (some (V.wrap (x3+1)))
def xCa(N:Nat)(q0:Val->Option Int)(a0:Val):Option Int:=Iz N q0 N 0 0 a0
def G6(N:Nat):Nat->Val->Option Int
 |0,_=>none
 |d+1,a0=>xCa N (G6 N d) a0
def Kn(N:Nat)(a0:Val):Option Int:=G6 N N a0
def GY(N:Nat):Nat->List Str->Int->Option Bool
 |0,_,_=>none
 |n+1,x0,x3=>cond (decide (x3<x0.length)) (if(0:Int)<=x3/\x3<=x0.length then ite (0<=x3/\x3<x0.length) ((OL N (List.take x3.toNat x0) (x0.getD x3.toNat Ds)).bind fun r1=>cond r1 (some false) (GY N n x0 (V.wrap (x3+1)))) none else none) (some true)
def Kj(N:Nat)(a0:List Str):Option Bool:=GY N N a0 0
def JM(N:Nat):Nat->List Str->Int->Option Bool
 |0,_,_=>none
 |n+1,x0,x3=>cond (decide (x3<x0.length)) (ite (0<=x3/\x3<x0.length) ((FJ N (x0.getD x3.toNat Ds)).bind fun r1=>cond (!r1) (some false) (JM N n x0 (V.wrap (x3+1)))) none) ((D0 N (x0.length:Int) 1 4).bind fun r1=>cond r1 ((Kj N x0).bind fun r2=>some r2) (some false))
def OO(N:Nat)(a0:List Str):Option Bool:=JM N N a0 0
def Gp(N:Nat)(a0 a1:Org):Option Bool:=cond (decide (a0.cell<a1.cell)) (some true) (cond (a0.cell==a1.cell) (some (decide (a0.row<a1.row))) (some false))
def FO(N:Nat):Nat->List Org->Int->Option Bool
 |0,_,_=>none
 |n+1,x0,x3=>cond (decide (x3<x0.length)) (ite (0<=x3/\x3<x0.length) (cond (decide (((Org.cell (x0.getD x3.toNat Do)):Int)<0)) (some false) (cond (decide (((Org.row (x0.getD x3.toNat Do)):Int)<0)) (some false) (cond (decide (x3>0)) (if(0:Int)<=(V.wrap (x3 - 1))/\(V.wrap (x3 - 1))<x0.length then(Gp N (x0.getD (toNat (V.wrap (x3 - 1))) Do) (x0.getD x3.toNat Do)).bind fun r1=>cond (!r1) (some false) (FO N n x0 (V.wrap (x3+1))) else none) (FO N n x0 (V.wrap (x3+1)))))) none) (some true)
def RM(N:Nat)(a0:List Org):Option Bool:=FO N N a0 0
def Gv(N:Nat)(k4:Int->Val->Option Bool):Nat->Int->Int->Val->Rowd->Option Bool
 |0,_,_,_,_=>none
 |n+1,x3,x5,b1,b4=>cond (decide (x5<b4.cells.length)) (ite (0<=x5/\x5<b4.cells.length) ((Ca N (b4.cells.getD x5.toNat Di)).bind fun r1=>cond (!r1) (some false) (Gv N k4 n x3 (V.wrap (x5+1)) b1 b4)) none) (k4 (V.wrap (x3+1)) b1)
def JP(N:Nat):Nat->Int->Val->Option Bool
 |0,_,_=>none
 |n+1,x3,b1=>cond (decide (x3<b1.rows.length)) (ite (0<=x3/\x3<b1.rows.length) (cond ((length (Rowd.cells (b1.rows.getD x3.toNat Dr)):Int) != (b1.columns.length:Int)) (some false) ((RM N (Rowd.frm (b1.rows.getD x3.toNat Dr))).bind fun r1=>cond (!r1) (some false) (Gv N (fun z0 z1=>(JP N n z0 z1)) N x3 0 b1 (b1.rows.getD x3.toNat Dr)))) none) (some true)
def OR(N:Nat)(a0:Val):Option Bool:=(OO N a0.columns).bind fun r1=>cond (!r1) (some false) (cond (decide ((a0.rows.length:Int)>12)) (some false) (JP N N 0 a0))
def Ny(N:Nat)(q0 q1:Val->Option Bool)(a0:Val):Option Bool:=cond (a0.kind != 3) (cond (decide ((a0.list.length:Int)>0)) (some false) (cond (a0.kind != 5) (cond (decide (((V.wrap ((a0.columns.length:Int)+(a0.rows.length:Int))):Int)>0)) (some false) (cond (a0.kind != 2) (cond (!(a0.text== [])) (some false) (cond (a0.kind != 4) (cond (a0.step != 0) (some false) (cond (a0.kind==1) ((Ca N a0.n).bind fun r1=>some r1) (cond (a0.kind==6) ((D0 N a0.n 1 8).bind fun r1=>some r1) (some false)))) ((Ca N a0.n).bind fun r1=>cond r1 ((Ca N a0.step).bind fun r2=>some r2) (some false)))) (cond (a0.step != 0) (some false) (cond (a0.n==0) ((Nx N a0.text).bind fun r1=>some r1) (some false))))) (cond (!(a0.text== [])) (some false) (cond (a0.step != 0) (some false) (cond (a0.n==0) ((OR N a0).bind fun r1=>some r1) (some false)))))) (cond (decide (((V.wrap ((a0.columns.length:Int)+(a0.rows.length:Int))):Int)>0)) (some false) (cond (!(a0.text== [])) (some false) (cond (a0.step != 0) (some false) (cond (a0.n==0) ((q1 a0).bind fun r1=>some r1) (some false)))))
def Gs(N:Nat)(q0 q1:Val->Option Bool):Nat->Int->Val->Option Bool
 |0,_,_=>none
 |n+1,x3,b1=>cond (decide (x3<b1.list.length)) (ite (0<=x3/\x3<b1.list.length) ((LC N (b1.list.getD x3.toNat Dv)).bind fun r1=>cond (!r1) (some false) ((q0 (b1.list.getD x3.toNat Dv)).bind fun r2=>cond (!r2) (some false) (Gs N q0 q1 n (V.wrap (x3+1)) b1))) none) (cond (decide ((b1.list.length:Int)<=8)) ((Kn N b1).bind fun r1=>some (decide (r1<=3))) (some false))
def xCC(N:Nat)(q0 q1:Val->Option Bool)(a0:Val):Option Bool:=Gs N q0 q1 N 0 a0
structure Rq4 where
 c8:Val->Option (Bool)
 c9:Val->Option (Bool)
def BY(N:Nat):Nat->Rq4
 |0=>⟨fun _=>none,fun _=>none⟩
 |d+1=>⟨Ny N (BY N d).c8 (BY N d).c9,xCC N (BY N d).c8 (BY N d).c9⟩
def Qw(N:Nat)(a0:Val):Option Bool:=(BY N N).c8 a0
def EU(r:Val×Bool):CallO:=⟨.tup [(true,(Va .own r.1)),(false,[.bool r.2])],[],[]⟩
def FP(N:Nat):Nat->List Val->Int->Val->Option (Val×Bool)
 |0,_,_,_=>none
 |n+1,x0,x4,b2=>cond (decide (x4<x0.length)) (ite (0<=x4/\x4<x0.length) ((Qw N (x0.getD x4.toNat Dv)).bind fun r1=>cond (!r1) ((AL N 4).bind fun r2=>some (r2,true)) (cond (((Val.kind (x0.getD x4.toNat Dv)):Int)==6) ((AL N (Val.n (x0.getD x4.toNat Dv))).bind fun r2=>some (r2,true)) (FP N n x0 (V.wrap (x4+1)) b2))) none) (some ((Val.mk 0 0 0 [] [] [] []),false))
def ET(N:Nat)(a0:List Val):Option (Val×Bool):=FP N N a0 0 (Val.mk 0 0 0 [] [] [] [])
def JC(N:Nat):Nat->List Val->Int->Val->Val->Option Val
 |0,_,_,_,_=>none
 |n+1,x0,x4,b2,b3=>cond (decide (x4<x0.length)) (ite (0<=x4/\x4<x0.length) ((Bg N (x0.getD x4.toNat Dv)).bind fun r1=>if b3.list.length+ [r1.re].length<=Lim then(JC N n x0 (V.wrap (x4+1)) b2 (Val.mk b3.kind b3.n b3.step b3.text (b3.list++ [r1.re]) b3.columns b3.rows)) else none) none) (some b3)
def Ku(N:Nat)(a0:List Val):Option Val:=JC N N a0 0 (Val.mk 0 0 0 [] [] [] []) (Val.mk 3 0 0 [] [] [] [])
def G0(N:Nat):Nat->List Val->Int->Val->Option Val
 |0,_,_,_=>none
 |n+1,x0,x5,b2=>cond (decide (x5<x0.length)) (ite (0<=x5/\x5<x0.length) ((LC N (x0.getD x5.toNat Dv)).bind fun r1=>cond (!r1) ((AL N 4).bind fun r2=>some r2) (G0 N n x0 (V.wrap (x5+1)) b2)) none) ((Ku N x0).bind fun r1=>cond (decide ((x0.length:Int)>8)) ((AL N 6).bind fun r2=>some r2) ((Kn N r1).bind fun r2=>cond (decide (r2>3)) ((AL N 6).bind fun r3=>some r3) (some r1)))
def GZ(N:Nat)(a0:List Val):Option Val:=(ET N a0).bind fun r1=>cond r1.2 ((Bg N r1.1).bind fun r2=>some r2) (G0 N N a0 0 (Val.mk 0 0 0 [] [] [] []))
def Kr(N:Nat)(q0:Exp->Option Bool):Nat->Int->Exp->Option Bool
 |0,_,_=>none
 |n+1,x3,b1=>cond (decide (x3<b1.args.length)) (ite (0<=x3/\x3<b1.args.length) ((q0 (b1.args.getD x3.toNat Dx)).bind fun r1=>cond r1 (some true) (Kr N q0 n (V.wrap (x3+1)) b1)) none) (some false)
def Qr(N:Nat)(q0:Exp->Option Bool)(a0:Exp):Option Bool:=cond (a0.kind==5) (cond (a0.text== [99,108,111,99,107]) (some true) (cond (a0.text== [99,104,97,110,99,101]) (some true) (cond (a0.text== [102,105,108,101]) (some true) (Kr N q0 N 0 a0)))) (Kr N q0 N 0 a0)
def Nu(N:Nat):Nat->Exp->Option Bool
 |0,_=>none
 |d+1,a0=>Qr N (Nu N d) a0
def Kq(N:Nat)(a0:Exp):Option Bool:=Nu N N a0
def Nz(N:Nat)(a0:Val):Option Val:=(ET N [a0.re]).bind fun r1=>cond r1.2 (some r1.1) (cond (a0.kind==3) ((As N (a0.list.length:Int)).bind fun r2=>some r2) (cond (a0.kind==2) ((As N (a0.text.length:Int)).bind fun r2=>some r2) ((AL N 4).bind fun r2=>some r2)))
def DY(N:Nat)(a0:Int):Option Val:=(Ca N a0).bind fun r1=>cond (!r1) ((AL N 5).bind fun r2=>some r2) ((As N a0).bind fun r2=>some r2)
def EM(N:Nat):Nat->Int->Val->Val->Val->Option Val
 |0,_,_,_,_=>none
 |n+1,x6,b1,b2,b5=>cond (decide (x6<b1.list.length)) (ite (0<=x6/\x6<b1.list.length) (cond (((Val.kind (b1.list.getD x6.toNat Dv)):Int) != 1) ((AL N 4).bind fun r1=>some r1) ((DY N (V.wrap (b5.n+(Val.n (b1.list.getD x6.toNat Dv))))).bind fun r1=>cond (r1.kind==6) (some r1) (EM N n (V.wrap (x6+1)) b1 b2 r1))) none) (some b5)
def OD(N:Nat)(a0:Val):Option Val:=(ET N [a0.re]).bind fun r1=>cond r1.2 (some r1.1) (cond (a0.kind != 3) ((AL N 4).bind fun r2=>some r2) ((As N 0).bind fun r2=>(EM N N 0 a0 (Val.mk 0 0 0 [] [] [] []) r2)))
def FQ(N:Nat):Nat->List Val->List Int->Int->Val->Option (Val×Bool)
 |0,_,_,_,_=>none
 |n+1,x0,x1,x8,b4=>cond (decide (x8<x0.length)) (ite (0<=x8/\x8<x0.length) (ite (0<=x8/\x8<x1.length) (cond (((Val.kind (x0.getD x8.toNat Dv)):Int) != (x1.getD x8.toNat Di)) ((AL N 4).bind fun r1=>some (r1,true)) (FQ N n x0 x1 (V.wrap (x8+1)) b4)) none) none) (some ((Val.mk 0 0 0 [] [] [] []),false))
def Cc(N:Nat)(a0:List Val)(a1:List Int):Option (Val×Bool):=(ET N a0).bind fun r1=>cond r1.2 (some (r1.1,true)) (FQ N N a0 a1 0 (Val.mk 0 0 0 [] [] [] []))
def Nr(N:Nat)(a0:Val):Option Val:=(Cc N [a0.re] [5]).bind fun r1=>cond r1.2 (some r1.1) ((As N (a0.rows.length:Int)).bind fun r2=>some r2)
def BG(a0 a1:Val):List Arg:=[.val (vV .ro a0),.val (vV .ro a1)]
def JT(N:Nat)(a0 a1:Val):Option (Val×Bool):=(ET N [a0.re,a1.re]).bind fun r1=>cond r1.2 (some (r1.1,true)) (cond (a0.kind != 1) ((AL N 4).bind fun r2=>some (r2,true)) (cond (a1.kind != 3) (cond (a1.kind != 4) ((AL N 4).bind fun r2=>some (r2,true)) (some ((Val.mk 0 0 0 [] [] [] []),false))) (some ((Val.mk 0 0 0 [] [] [] []),false))))
def Bz(N:Nat)(a0 a1:Val):Option Val:=(JT N a0 a1).bind fun r1=>cond r1.2 (some r1.1) (cond (decide (a0.n<0)) ((AL N 5).bind fun r2=>some r2) (cond (a1.kind==3) (cond (decide (a0.n>=(a1.list.length:Int))) ((AL N 5).bind fun r2=>some r2) (if(0:Int)<=a0.n/\a0.n<a1.list.length then(Bg N (a1.list.getD a0.n.toNat Dv)).bind fun r2=>some r2 else none)) ((DY N (V.wrap (a1.n+(V.wrap (a0.n*a1.step))))).bind fun r2=>some r2)))
def Cu(N:Nat):Nat->Int->Val->Val->Val->Val->Option Val
 |0,_,_,_,_,_=>none
 |n+1,x8,b2,b3,b4,b7=>cond (decide (x8<b2.n)) (cond (b3.kind==3) (cond (x8==(b3.list.length:Int)) (some b7) ((As N x8).bind fun r1=>(Bz N r1 b3).bind fun r2=>cond (r2.kind==6) (some r2) (if b7.list.length+ [r2.re].length<=Lim then(Cu N n (V.wrap (x8+1)) b2 b3 b4 (Val.mk b7.kind b7.n b7.step b7.text (b7.list++ [r2.re]) b7.columns b7.rows)) else none))) ((As N x8).bind fun r1=>(Bz N r1 b3).bind fun r2=>cond (r2.kind==6) (some r2) (if b7.list.length+ [r2.re].length<=Lim then(Cu N n (V.wrap (x8+1)) b2 b3 b4 (Val.mk b7.kind b7.n b7.step b7.text (b7.list++ [r2.re]) b7.columns b7.rows)) else none))) (some b7)
def Gh(N:Nat)(a0 a1:Val):Option Val:=(JT N a0 a1).bind fun r1=>cond r1.2 (some r1.1) ((D0 N a0.n 0 8).bind fun r2=>cond (!r2) ((AL N 5).bind fun r3=>some r3) (Cu N N 0 a0 a1 (Val.mk 0 0 0 [] [] [] []) (Val.mk 3 0 0 [] [] [] [])))
def RJ(N:Nat)(a0 a1:Int):Option Int:=cond (decide (a0<a1)) (some a0) (some a1)
def Kx(N:Nat)(a0 a1:Int):Option Val:=some (Val.mk 4 a0 a1 [] [] [] [])
def Gg(N:Nat)(a0 a1:Val):Option Val:=(JT N a0 a1).bind fun r1=>cond r1.2 (some r1.1) (cond (decide (a0.n<0)) ((AL N 5).bind fun r2=>some r2) (cond (a1.kind==3) ((RJ N a0.n (a1.list.length:Int)).bind fun r2=>if(0:Int)<=r2/\r2<=a1.list.length then(Ku N (List.drop r2.toNat a1.list)).bind fun r3=>some r3 else none) ((Bz N a0 a1).bind fun r2=>cond (r2.kind==6) (some r2) ((Kx N r2.n a1.step).bind fun r3=>some r3))))
def OG(N:Nat)(a0 a1:Val):Option Val:=(Cc N [a0.re,a1.re] [1,1]).bind fun r1=>cond r1.2 (some r1.1) ((Kx N a0.n a1.n).bind fun r2=>some r2)
def EL(N:Nat):Nat->Str->Int->List Str->Int->Int->Option (List Str)
 |0,_,_,_,_,_=>none
 |n+1,x0,x1,x5,x6,x7=>cond (decide (x7<=(x0.length:Int))) (cond (x7==(x0.length:Int)) (if(0:Int)<=x6/\x6<=x7/\x7<=x0.length then if x5.length+ [(List.drop x6.toNat (List.take x7.toNat x0))].length<=Lim then(EL N n x0 x1 (x5++ [(List.drop x6.toNat (List.take x7.toNat x0))]) (V.wrap (x7+1)) (V.wrap (x7+1))) else none else none) (ite (0<=x7/\x7<x0.length) (cond (((x0.getD x7.toNat 0).toNat:Int)==x1) (if(0:Int)<=x6/\x6<=x7/\x7<=x0.length then if x5.length+ [(List.drop x6.toNat (List.take x7.toNat x0))].length<=Lim then(EL N n x0 x1 (x5++ [(List.drop x6.toNat (List.take x7.toNat x0))]) (V.wrap (x7+1)) (V.wrap (x7+1))) else none else none) (EL N n x0 x1 x5 x6 (V.wrap (x7+1)))) none)) (some x5)
def Kw(N:Nat)(a0:Str)(a1:Int):Option (List Str):=EL N N a0 a1 [] 0 0
def JB(N:Nat):Nat->List Str->Str->Int->Option Int
 |0,_,_,_=>none
 |n+1,x0,x1,x5=>cond (decide (x5<x0.length)) (ite (0<=x5/\x5<x0.length) (cond (((x0.getD x5.toNat Ds):Str)==x1) (some x5) (JB N n x0 x1 (V.wrap (x5+1)))) none) (some (-1))
def Qs(N:Nat)(a0:List Str)(a1:Str):Option Int:=JB N N a0 a1 0
def CI(N:Nat)(a0:Val)(a1:Str):Option Int:=(Qs N a0.columns a1).bind fun r1=>some r1
def EK(r:Val):CallO:=cO (vV .ro r)
def Gf(N:Nat)(k12:List Str->Int->Val->Val->Val->Option Val):Nat->List Str->Int->Int->Val->Val->Val->Rowd->Option Val
 |0,_,_,_,_,_,_,_=>none
 |n+1,x7,x10,x12,b3,b4,b8,b11=>cond (decide (x12<x7.length)) (ite (0<=x10/\x10<b3.rows.length) (ite (0<=x12/\x12<x7.length) ((CI N b3 (x7.getD x12.toNat Ds)).bind fun r1=>if(0:Int)<=r1/\r1<(length (Rowd.cells (b3.rows.getD x10.toNat Dr))) then if b11.cells.length+ [(List.getD (Rowd.cells (b3.rows.getD x10.toNat Dr)) r1.toNat Di)].length<=Lim then(Gf N k12 n x7 x10 (V.wrap (x12+1)) b3 b4 b8 (Rowd.mk (b11.cells++ [(List.getD (Rowd.cells (b3.rows.getD x10.toNat Dr)) r1.toNat Di)]) b11.frm)) else none else none) none) none) (if b8.rows.length+ [b11].length<=Lim then(k12 x7 (V.wrap (x10+1)) b3 b4 (Val.mk b8.kind b8.n b8.step b8.text b8.list b8.columns (b8.rows++ [b11]))) else none)
def EI(N:Nat):Nat->List Str->Int->Val->Val->Val->Option Val
 |0,_,_,_,_,_=>none
 |n+1,x7,x10,b3,b4,b8=>cond (decide (x10<b3.rows.length)) (ite (0<=x10/\x10<b3.rows.length) (if 0+length (Rowd.frm (b3.rows.getD x10.toNat Dr))<=Lim then(Gf N (fun z0 z1 z2 z3 z4=>(EI N n z0 z1 z2 z3 z4)) N x7 x10 0 b3 b4 b8 (Rowd.mk [] ([]++(Rowd.frm (b3.rows.getD x10.toNat Dr))))) else none) none) (some b8)
def EJ(N:Nat):Nat->List Str->Int->Val->Val->Val->Option Val
 |0,_,_,_,_,_=>none
 |n+1,x7,x9,b3,b4,b8=>cond (decide (x9<x7.length)) (ite (0<=x9/\x9<x7.length) ((CI N b3 (x7.getD x9.toNat Ds)).bind fun r1=>cond (decide (r1<0)) ((AL N 7).bind fun r2=>some r2) ((Kj N x7).bind fun r2=>cond (!r2) ((AL N 7).bind fun r3=>some r3) (EJ N n x7 (V.wrap (x9+1)) b3 b4 b8))) none) (EI N N x7 0 b3 b4 b8)
def Kt(N:Nat)(a0 a1:Val):Option Val:=(Cc N [a0.re,a1.re] [2,5]).bind fun r1=>cond r1.2 (some r1.1) ((Kw N a0.text 32).bind fun r2=>(EJ N N r2 0 a1 (Val.mk 0 0 0 [] [] [] []) (Val.mk 5 0 0 [] [] r2 [])))
def G3(N:Nat):Nat->Int->Int->Val->Val->Val->Option Val
 |0,_,_,_,_,_=>none
 |n+1,x7,x9,b3,b4,b8=>cond (decide (x9<b3.rows.length)) (ite (0<=x9/\x9<b3.rows.length) (if(0:Int)<=x7/\x7<(length (Rowd.cells (b3.rows.getD x9.toNat Dr))) then(As N (List.getD (Rowd.cells (b3.rows.getD x9.toNat Dr)) x7.toNat Di)).bind fun r1=>if b8.list.length+ [r1.re].length<=Lim then(G3 N n x7 (V.wrap (x9+1)) b3 b4 (Val.mk b8.kind b8.n b8.step b8.text (b8.list++ [r1.re]) b8.columns b8.rows)) else none else none) none) (some b8)
def Iy(N:Nat)(a0 a1:Val):Option Val:=(Cc N [a0.re,a1.re] [2,5]).bind fun r1=>cond r1.2 (some r1.1) ((CI N a1 a0.text).bind fun r2=>cond (decide (r2<0)) ((AL N 7).bind fun r3=>some r3) (cond (decide ((a1.rows.length:Int)>8)) ((AL N 6).bind fun r3=>some r3) (G3 N N r2 0 a1 (Val.mk 0 0 0 [] [] [] []) (Val.mk 3 0 0 [] [] [] []))))
def xCI(r:(List Int)×Bool):CallO:=⟨.tup [(false,[.sl .own .int r.1]),(false,[.bool r.2])],[],[]⟩
def Gw(N:Nat):Nat->List Int->Int->Val->Option ((List Int)×Bool)
 |0,_,_,_=>none
 |n+1,x4,x5,b1=>cond (decide (x5<b1.list.length)) (ite (0<=x5/\x5<b1.list.length) (cond (((Val.kind (b1.list.getD x5.toNat Dv)):Int) != 1) (some (x4,false)) (if x4.length+ [(Val.n (b1.list.getD x5.toNat Dv))].length<=Lim then(Gw N n (x4++ [(Val.n (b1.list.getD x5.toNat Dv))]) (V.wrap (x5+1)) b1) else none)) none) (some (x4,(b1.kind==3)))
def OU(N:Nat)(a0:Val):Option ((List Int)×Bool):=Gw N N [] 0 a0
def EN(N:Nat):Nat->Int->Val->Val->Val->Option Val
 |0,_,_,_,_=>none
 |n+1,x8,b3,b4,b7=>cond (decide (x8<b3.list.length)) (ite (0<=x8/\x8<b3.list.length) ((OU N (b3.list.getD x8.toNat Dv)).bind fun r1=>cond (!r1.2) ((AL N 4).bind fun r2=>some r2) (cond ((r1.1.length:Int) != (b7.columns.length:Int)) ((AL N 4).bind fun r2=>some r2) (if b7.rows.length+length [(Rowd.mk r1.1 [])]<=Lim then(EN N n (V.wrap (x8+1)) b3 b4 (Val.mk b7.kind b7.n b7.step b7.text b7.list b7.columns (b7.rows++ [(Rowd.mk r1.1 [])]))) else none))) none) (some b7)
def Ky(N:Nat)(a0 a1:Val):Option Val:=(Cc N [a0.re,a1.re] [2,3]).bind fun r1=>cond r1.2 (some r1.1) ((Kw N a0.text 32).bind fun r2=>(OO N r2).bind fun r3=>cond (!r3) ((AL N 7).bind fun r4=>some r4) (EN N N 0 a1 (Val.mk 0 0 0 [] [] [] []) (Val.mk 5 0 0 [] [] r2 [])))
def JH(a0 a1 a2:Val):List Arg:=[.val (vV .ro a0),.val (vV .ro a1),.val (vV .ro a2)]
def EO(N:Nat):Nat->Int->Int->Val->Val->Val->Val->Option Val
 |0,_,_,_,_,_,_=>none
 |n+1,x9,x11,b4,b5,b6,b10=>cond (decide (x11<b5.rows.length)) (ite (0<=x11/\x11<b5.rows.length) (if(0:Int)<=x9/\x9<(length (Rowd.cells (b5.rows.getD x11.toNat Dr))) then cond (((List.getD (Rowd.cells (b5.rows.getD x11.toNat Dr)) x9.toNat Di):Int)==b4.n) ((LD N (b5.rows.getD x11.toNat Dr)).bind fun r1=>if b10.rows.length+ [r1].length<=Lim then(EO N n x9 (V.wrap (x11+1)) b4 b5 b6 (Val.mk b10.kind b10.n b10.step b10.text b10.list b10.columns (b10.rows++ [r1]))) else none) (EO N n x9 (V.wrap (x11+1)) b4 b5 b6 b10) else none) none) (some b10)
def JG(N:Nat)(a0 a1 a2:Val):Option Val:=(Cc N [a0.re,a1.re,a2.re] [2,1,5]).bind fun r1=>cond r1.2 (some r1.1) ((CI N a2 a0.text).bind fun r2=>cond (decide (r2<0)) ((AL N 7).bind fun r3=>some r3) (if 0+a2.columns.length<=Lim then(EO N N r2 0 a1 a2 (Val.mk 0 0 0 [] [] [] []) (Val.mk 5 0 0 [] [] ([]++a2.columns) [])) else none))
def JU(a0 a1:List Org):List Arg:=[.val (vS .ro .org a0),.val (vS .ro .org a1)]
def B0(N:Nat):Nat->List Org->List Org->List Org->Int->Int->Option (List Org)
 |0,_,_,_,_,_=>none
 |n+1,x0,x1,x5,x6,x7=>cond (decide (x6<x0.length)) (cond (x7==(x1.length:Int)) (ite (0<=x6/\x6<x0.length) (if x5.length+ [(x0.getD x6.toNat Do)].length<=Lim then(B0 N n x0 x1 (x5++ [(x0.getD x6.toNat Do)]) (V.wrap (x6+1)) x7) else none) none) (ite (0<=x6/\x6<x0.length) (ite (0<=x7/\x7<x1.length) ((Gp N (x0.getD x6.toNat Do) (x1.getD x7.toNat Do)).bind fun r1=>cond r1 (if x5.length+ [(x0.getD x6.toNat Do)].length<=Lim then(B0 N n x0 x1 (x5++ [(x0.getD x6.toNat Do)]) (V.wrap (x6+1)) x7) else none) (cond (x6==(x0.length:Int)) (if x5.length+ [(x1.getD x7.toNat Do)].length<=Lim then(B0 N n x0 x1 (x5++ [(x1.getD x7.toNat Do)]) x6 (V.wrap (x7+1))) else none) ((Gp N (x1.getD x7.toNat Do) (x0.getD x6.toNat Do)).bind fun r2=>cond r2 (if x5.length+ [(x1.getD x7.toNat Do)].length<=Lim then(B0 N n x0 x1 (x5++ [(x1.getD x7.toNat Do)]) x6 (V.wrap (x7+1))) else none) (if x5.length+ [(x0.getD x6.toNat Do)].length<=Lim then(B0 N n x0 x1 (x5++ [(x0.getD x6.toNat Do)]) (V.wrap (x6+1)) (V.wrap (x7+1))) else none)))) none) none)) (cond (decide (x7<x1.length)) (cond (x7==(x1.length:Int)) (ite (0<=x6/\x6<x0.length) (if x5.length+ [(x0.getD x6.toNat Do)].length<=Lim then(B0 N n x0 x1 (x5++ [(x0.getD x6.toNat Do)]) (V.wrap (x6+1)) x7) else none) none) (cond (x6==(x0.length:Int)) (ite (0<=x7/\x7<x1.length) (if x5.length+ [(x1.getD x7.toNat Do)].length<=Lim then(B0 N n x0 x1 (x5++ [(x1.getD x7.toNat Do)]) x6 (V.wrap (x7+1))) else none) none) (ite (0<=x7/\x7<x1.length) (ite (0<=x6/\x6<x0.length) ((Gp N (x1.getD x7.toNat Do) (x0.getD x6.toNat Do)).bind fun r1=>cond r1 (if x5.length+ [(x1.getD x7.toNat Do)].length<=Lim then(B0 N n x0 x1 (x5++ [(x1.getD x7.toNat Do)]) x6 (V.wrap (x7+1))) else none) (if x5.length+ [(x0.getD x6.toNat Do)].length<=Lim then(B0 N n x0 x1 (x5++ [(x0.getD x6.toNat Do)]) (V.wrap (x6+1)) (V.wrap (x7+1))) else none)) none) none))) (some x5))
def LF(N:Nat)(a0 a1:List Org):Option (List Org):=B0 N N a0 a1 [] 0 0
def xCJ(r:(List Rowd)):CallO:=cO (vS .tip .row r)
def CA(N:Nat):Nat->List Rowd->Int->Int->List Org->List Rowd->Bool->Int->Option (List Rowd)
 |0,_,_,_,_,_,_,_=>none
 |n+1,x0,x1,x2,x3,x9,x10,x11=>cond (decide (x11<x0.length)) (ite (0<=x11/\x11<x0.length) (if(0:Int)<=0/\(0:Int)<(length (Rowd.cells (x0.getD x11.toNat Dr))) then cond (((List.getD (Rowd.cells (x0.getD x11.toNat Dr)) (toNat 0) Di):Int)==x1) (if(0:Int)<=1/\(1:Int)<(length (Rowd.cells (x0.getD x11.toNat Dr))) then(LF N (Rowd.frm (x0.getD x11.toNat Dr)) x3).bind fun r1=>if(0:Int)<=0/\(0:Int)<([x1,(V.wrap ((List.getD (Rowd.cells (x0.getD x11.toNat Dr)) (toNat 1) Di)+x2))].length) then cond (decide (((List.getD [x1,(V.wrap ((List.getD (Rowd.cells (x0.getD x11.toNat Dr)) (toNat 1) Di)+x2))] (toNat 0) Di):Int)>x1)) (if x9.length+length [(Rowd.mk [x1,(V.wrap ((List.getD (Rowd.cells (x0.getD x11.toNat Dr)) (toNat 1) Di)+x2))] r1)]<=Lim then(CA N n x0 x1 x2 x3 (x9++ [(Rowd.mk [x1,(V.wrap ((List.getD (Rowd.cells (x0.getD x11.toNat Dr)) (toNat 1) Di)+x2))] r1)]) true (V.wrap (x11+1))) else none) (if x9.length+length [(Rowd.mk [x1,(V.wrap ((List.getD (Rowd.cells (x0.getD x11.toNat Dr)) (toNat 1) Di)+x2))] r1)]<=Lim then(CA N n x0 x1 x2 x3 (x9++ [(Rowd.mk [x1,(V.wrap ((List.getD (Rowd.cells (x0.getD x11.toNat Dr)) (toNat 1) Di)+x2))] r1)]) true (V.wrap (x11+1))) else none) else none else none) (cond (decide (((List.getD (Rowd.cells (x0.getD x11.toNat Dr)) (toNat 0) Di):Int)>x1)) (cond (!x10) (if 0+x3.length<=Lim then if x9.length+length [(Rowd.mk [x1,x2] ([]++x3))]<=Lim then if length (x9++ [(Rowd.mk [x1,x2] ([]++x3))])+ [(x0.getD x11.toNat Dr)].length<=Lim then(CA N n x0 x1 x2 x3 ((x9++ [(Rowd.mk [x1,x2] ([]++x3))])++ [(x0.getD x11.toNat Dr)]) true (V.wrap (x11+1))) else none else none else none) (if x9.length+ [(x0.getD x11.toNat Dr)].length<=Lim then(CA N n x0 x1 x2 x3 (x9++ [(x0.getD x11.toNat Dr)]) x10 (V.wrap (x11+1))) else none)) (if x9.length+ [(x0.getD x11.toNat Dr)].length<=Lim then(CA N n x0 x1 x2 x3 (x9++ [(x0.getD x11.toNat Dr)]) x10 (V.wrap (x11+1))) else none)) else none) none) (cond (!x10) (if 0+x3.length<=Lim then if x9.length+length [(Rowd.mk [x1,x2] ([]++x3))]<=Lim then some (x9++ [(Rowd.mk [x1,x2] ([]++x3))]) else none else none) (some x9))
def RU(N:Nat)(a0:List Rowd)(a1 a2:Int)(a3:List Org):Option (List Rowd):=CA N N a0 a1 a2 a3 [] false 0
def FI(N:Nat):Nat->Int->Val->Val->Option Val
 |0,_,_,_=>none
 |n+1,x13,b6,b11=>cond (decide (x13<b11.rows.length)) (ite (0<=x13/\x13<b11.rows.length) (if(0:Int)<=1/\(1:Int)<(length (Rowd.cells (b11.rows.getD x13.toNat Dr))) then(Ca N (List.getD (Rowd.cells (b11.rows.getD x13.toNat Dr)) (toNat 1) Di)).bind fun r1=>cond (!r1) ((AL N 5).bind fun r2=>some r2) (FI N n (V.wrap (x13+1)) b6 b11) else none) none) (some b11)
def Gb(N:Nat):Nat->Int->Int->Int->Val->Val->Val->Option Val
 |0,_,_,_,_,_,_=>none
 |n+1,x9,x10,x12,b5,b6,b11=>cond (decide (x12<b5.rows.length)) (ite (0<=x12/\x12<b5.rows.length) (if(0:Int)<=x9/\x9<(length (Rowd.cells (b5.rows.getD x12.toNat Dr))) then if(0:Int)<=x10/\x10<(length (Rowd.cells (b5.rows.getD x12.toNat Dr))) then(RU N b11.rows (List.getD (Rowd.cells (b5.rows.getD x12.toNat Dr)) x9.toNat Di) (List.getD (Rowd.cells (b5.rows.getD x12.toNat Dr)) x10.toNat Di) (Rowd.frm (b5.rows.getD x12.toNat Dr))).bind fun r1=>(Gb N n x9 x10 (V.wrap (x12+1)) b5 b6 (Val.mk b11.kind b11.n b11.step b11.text b11.list b11.columns r1)) else none else none) none) (FI N N 0 b6 b11)
def FH(N:Nat)(a0 a1 a2:Val):Option Val:=(Cc N [a0.re,a1.re,a2.re] [2,2,5]).bind fun r1=>cond r1.2 (some r1.1) ((CI N a2 a0.text).bind fun r2=>(CI N a2 a1.text).bind fun r3=>cond (decide (r2<0)) ((AL N 7).bind fun r4=>some r4) (cond (decide (r3<0)) ((AL N 7).bind fun r4=>some r4) (cond (r2==r3) ((AL N 7).bind fun r4=>some r4) (Gb N N r2 r3 0 a2 (Val.mk 0 0 0 [] [] [] []) (Val.mk 5 0 0 [] [] [a0.text,a1.text] [])))))
def OV(N:Nat)(a0 a1:Rowd)(a2:Int):Option Rowd:=if 0+a0.cells.length<=Lim then(LF N a0.frm a1.frm).bind fun r1=>if(0:Int)<=a2/\a2<=a1.cells.length then if length ([]++a0.cells)+length (List.take a2.toNat a1.cells)<=Lim then if(0:Int)<=(V.wrap (a2+1))/\(V.wrap (a2+1))<=a1.cells.length then if length (([]++a0.cells)++(List.take a2.toNat a1.cells))+length (List.drop (toNat (V.wrap (a2+1))) a1.cells)<=Lim then some (Rowd.mk ((([]++a0.cells)++(List.take a2.toNat a1.cells))++(List.drop (toNat (V.wrap (a2+1))) a1.cells)) r1) else none else none else none else none else none
def Gd(N:Nat)(k15:Int->Int->Int->Val->Val->Val->Val->Option Val):Nat->Int->Int->Int->Int->Val->Val->Val->Val->Option Val
 |0,_,_,_,_,_,_,_,_=>none
 |n+1,x9,x10,x12,x13,b4,b5,b6,b11=>cond (decide (x13<b5.rows.length)) (ite (0<=x12/\x12<b4.rows.length) (if(0:Int)<=x9/\x9<(length (Rowd.cells (b4.rows.getD x12.toNat Dr))) then ite (0<=x13/\x13<b5.rows.length) (if(0:Int)<=x10/\x10<(length (Rowd.cells (b5.rows.getD x13.toNat Dr))) then cond (((List.getD (Rowd.cells (b4.rows.getD x12.toNat Dr)) x9.toNat Di):Int)==(List.getD (Rowd.cells (b5.rows.getD x13.toNat Dr)) x10.toNat Di)) ((OV N (b4.rows.getD x12.toNat Dr) (b5.rows.getD x13.toNat Dr) x10).bind fun r1=>if b11.rows.length+ [r1].length<=Lim then(Gd N k15 n x9 x10 x12 (V.wrap (x13+1)) b4 b5 b6 (Val.mk b11.kind b11.n b11.step b11.text b11.list b11.columns (b11.rows++ [r1]))) else none) (Gd N k15 n x9 x10 x12 (V.wrap (x13+1)) b4 b5 b6 b11) else none) none else none) none) (k15 x9 x10 (V.wrap (x12+1)) b4 b5 b6 b11)
def FL(N:Nat):Nat->Int->Int->Int->Val->Val->Val->Val->Option Val
 |0,_,_,_,_,_,_,_=>none
 |n+1,x9,x10,x12,b4,b5,b6,b11=>cond (decide (x12<b4.rows.length)) (Gd N (fun z0 z1 z2 z3 z4 z5 z6=>(FL N n z0 z1 z2 z3 z4 z5 z6)) N x9 x10 x12 0 b4 b5 b6 b11) (cond (decide ((b11.rows.length:Int)>12)) ((AL N 6).bind fun r1=>some r1) (some b11))
def Gc(N:Nat)(a0 a1 a2:Val):Option Val:=(Cc N [a0.re,a1.re,a2.re] [2,5,5]).bind fun r1=>cond r1.2 (some r1.1) ((CI N a1 a0.text).bind fun r2=>(CI N a2 a0.text).bind fun r3=>cond (decide (r2<0)) ((AL N 7).bind fun r4=>some r4) (cond (decide (r3<0)) ((AL N 7).bind fun r4=>some r4) (if 0+a1.columns.length<=Lim then if(0:Int)<=r3/\r3<=a2.columns.length then if length ([]++a1.columns)+length (List.take r3.toNat a2.columns)<=Lim then if(0:Int)<=(V.wrap (r3+1))/\(V.wrap (r3+1))<=a2.columns.length then if length (([]++a1.columns)++(List.take r3.toNat a2.columns))+length (List.drop (toNat (V.wrap (r3+1))) a2.columns)<=Lim then(Kj N ((([]++a1.columns)++(List.take r3.toNat a2.columns))++(List.drop (toNat (V.wrap (r3+1))) a2.columns))).bind fun r4=>cond (!r4) ((AL N 7).bind fun r5=>some r5) (cond (decide ((length ((([]++a1.columns)++(List.take r3.toNat a2.columns))++(List.drop (toNat (V.wrap (r3+1))) a2.columns)):Int)>4)) ((AL N 6).bind fun r5=>some r5) (FL N N r2 r3 0 a1 a2 (Val.mk 0 0 0 [] [] [] []) (Val.mk 5 0 0 [] [] ((([]++a1.columns)++(List.take r3.toNat a2.columns))++(List.drop (toNat (V.wrap (r3+1))) a2.columns)) []))) else none else none else none else none else none)))
def FG(N:Nat):Nat->Int->Int->Int->Val->Val->Val->Option Val
 |0,_,_,_,_,_,_=>none
 |n+1,x11,x12,x14,b7,b8,b13=>cond (decide (x14<b13.rows.length)) (ite (0<=x14/\x14<b7.rows.length) (if(0:Int)<=x11/\x11<(length (Rowd.cells (b7.rows.getD x14.toNat Dr))) then if(0:Int)<=x12/\x12<(length (Rowd.cells (b7.rows.getD x14.toNat Dr))) then(Ca N (V.wrap ((List.getD (Rowd.cells (b7.rows.getD x14.toNat Dr)) x11.toNat Di)+(List.getD (Rowd.cells (b7.rows.getD x14.toNat Dr)) x12.toNat Di)))).bind fun r1=>cond (!r1) ((AL N 5).bind fun r2=>some r2) (ite (0<=x14/\x14<b13.rows.length) (if length (Rowd.cells (b13.rows.getD x14.toNat Dr))+ [(V.wrap ((List.getD (Rowd.cells (b7.rows.getD x14.toNat Dr)) x11.toNat Di)+(List.getD (Rowd.cells (b7.rows.getD x14.toNat Dr)) x12.toNat Di)))].length<=Lim then(FG N n x11 x12 (V.wrap (x14+1)) b7 b8 (Val.mk b13.kind b13.n b13.step b13.text b13.list b13.columns (b13.rows.set x14.toNat (Rowd.mk ((Rowd.cells (b13.rows.getD x14.toNat Dr))++ [(V.wrap ((List.getD (Rowd.cells (b7.rows.getD x14.toNat Dr)) x11.toNat Di)+(List.getD (Rowd.cells (b7.rows.getD x14.toNat Dr)) x12.toNat Di)))]) (Rowd.frm (b13.rows.getD x14.toNat Dr)))))) else none) none) else none else none) none) (some b13)
def DV(N:Nat)(a0 a1 a2 a3:Val):Option Val:=(Cc N [a0.re,a1.re,a2.re,a3.re] [2,2,2,5]).bind fun r1=>cond r1.2 (some r1.1) ((CI N a3 a1.text).bind fun r2=>(CI N a3 a2.text).bind fun r3=>(FJ N a0.text).bind fun r4=>cond (!r4) ((AL N 7).bind fun r5=>some r5) ((CI N a3 a0.text).bind fun r5=>cond (decide (r5>=0)) ((AL N 7).bind fun r6=>some r6) (cond (decide (r2<0)) ((AL N 7).bind fun r6=>some r6) (cond (decide (r3<0)) ((AL N 7).bind fun r6=>some r6) (cond ((a3.columns.length:Int)==4) ((AL N 6).bind fun r6=>some r6) ((Bg N a3).bind fun r6=>if r6.columns.length+ [a0.text].length<=Lim then(FG N N r2 r3 0 a3 (Val.mk 0 0 0 [] [] [] []) (Val.mk r6.kind r6.n r6.step r6.text r6.list (r6.columns++ [a0.text]) r6.rows)) else none))))))
def DX(N:Nat)(a0:Str)(a1:List Val):Option Val:=(DW N a0).bind fun r1=>cond ((a1.length:Int) != r1) ((AL N 4).bind fun r2=>some r2) (cond (a0== [108,101,110]) (if(0:Int)<=0/\(0:Int)<a1.length then(Nz N (a1.getD (toNat 0) Dv)).bind fun r2=>some r2 else none) (cond (a0== [115,117,109]) (if(0:Int)<=0/\(0:Int)<a1.length then(OD N (a1.getD (toNat 0) Dv)).bind fun r2=>some r2 else none) (cond (a0== [114,111,119,115]) (if(0:Int)<=0/\(0:Int)<a1.length then(Nr N (a1.getD (toNat 0) Dv)).bind fun r2=>some r2 else none) (cond (a0== [116,97,107,101]) (if(0:Int)<=0/\(0:Int)<a1.length then if(0:Int)<=1/\(1:Int)<a1.length then(Gh N (a1.getD (toNat 0) Dv) (a1.getD (toNat 1) Dv)).bind fun r2=>some r2 else none else none) (cond (a0== [115,107,105,112]) (if(0:Int)<=0/\(0:Int)<a1.length then if(0:Int)<=1/\(1:Int)<a1.length then(Gg N (a1.getD (toNat 0) Dv) (a1.getD (toNat 1) Dv)).bind fun r2=>some r2 else none else none) (cond (a0== [110,116,104]) (if(0:Int)<=0/\(0:Int)<a1.length then if(0:Int)<=1/\(1:Int)<a1.length then(Bz N (a1.getD (toNat 0) Dv) (a1.getD (toNat 1) Dv)).bind fun r2=>some r2 else none else none) (cond (a0== [114,97,110,103,101]) (if(0:Int)<=0/\(0:Int)<a1.length then if(0:Int)<=1/\(1:Int)<a1.length then(OG N (a1.getD (toNat 0) Dv) (a1.getD (toNat 1) Dv)).bind fun r2=>some r2 else none else none) (cond (a0== [107,101,101,112]) (if(0:Int)<=0/\(0:Int)<a1.length then if(0:Int)<=1/\(1:Int)<a1.length then(Kt N (a1.getD (toNat 0) Dv) (a1.getD (toNat 1) Dv)).bind fun r2=>some r2 else none else none) (cond (a0== [99,111,108,117,109,110]) (if(0:Int)<=0/\(0:Int)<a1.length then if(0:Int)<=1/\(1:Int)<a1.length then(Iy N (a1.getD (toNat 0) Dv) (a1.getD (toNat 1) Dv)).bind fun r2=>some r2 else none else none) (cond (a0== [116,97,98,108,101]) (if(0:Int)<=0/\(0:Int)<a1.length then if(0:Int)<=1/\(1:Int)<a1.length then(Ky N (a1.getD (toNat 0) Dv) (a1.getD (toNat 1) Dv)).bind fun r2=>some r2 else none else none) (cond (a0== [119,104,101,114,101]) (if(0:Int)<=0/\(0:Int)<a1.length then if(0:Int)<=1/\(1:Int)<a1.length then if(0:Int)<=2/\(2:Int)<a1.length then(JG N (a1.getD (toNat 0) Dv) (a1.getD (toNat 1) Dv) (a1.getD (toNat 2) Dv)).bind fun r2=>some r2 else none else none else none) (cond (a0== [103,114,111,117,112]) (if(0:Int)<=0/\(0:Int)<a1.length then if(0:Int)<=1/\(1:Int)<a1.length then if(0:Int)<=2/\(2:Int)<a1.length then(FH N (a1.getD (toNat 0) Dv) (a1.getD (toNat 1) Dv) (a1.getD (toNat 2) Dv)).bind fun r2=>some r2 else none else none else none) (cond (a0== [106,111,105,110]) (if(0:Int)<=0/\(0:Int)<a1.length then if(0:Int)<=1/\(1:Int)<a1.length then if(0:Int)<=2/\(2:Int)<a1.length then(Gc N (a1.getD (toNat 0) Dv) (a1.getD (toNat 1) Dv) (a1.getD (toNat 2) Dv)).bind fun r2=>some r2 else none else none else none) (cond (a0== [97,100,100]) (if(0:Int)<=0/\(0:Int)<a1.length then if(0:Int)<=1/\(1:Int)<a1.length then if(0:Int)<=2/\(2:Int)<a1.length then if(0:Int)<=3/\(3:Int)<a1.length then(DV N (a1.getD (toNat 0) Dv) (a1.getD (toNat 1) Dv) (a1.getD (toNat 2) Dv) (a1.getD (toNat 3) Dv)).bind fun r2=>some r2 else none else none else none else none) ((AL N 4).bind fun r2=>some r2)))))))))))))))
def RH(a0 a1:Rea):List Arg:=[.val (.v true (Rc .ro a0)),.val (.v true (Rc .ro a1))]
def OK(N:Nat)(a0 a1:Rea):Option Bool:=cond (a0.kind==a1.kind) (cond (a0.n==a1.n) (cond (a0.text==a1.text) (some (a0.time==a1.time)) (some false)) (some false)) (some false)
def Ga(N:Nat):Nat->List Rea->Int->Rea->Val->Option (Val×Bool)
 |0,_,_,_,_=>none
 |n+1,x0,x6,b3,b4=>cond (decide (x6<x0.length)) (ite (0<=x6/\x6<x0.length) ((OK N (x0.getD x6.toNat De) b3).bind fun r1=>cond r1 ((Bg N (Rea.result (x0.getD x6.toNat De))).bind fun r2=>some (r2,true)) (Ga N n x0 (V.wrap (x6+1)) b3 b4)) none) (some ((Val.mk 0 0 0 [] [] [] []),false))
def Qq(N:Nat)(a0:List Rea)(a1:Rea):Option (Val×Bool):=Ga N N a0 0 a1 (Val.mk 0 0 0 [] [] [] [])
def LB(N:Nat)(a0:Int):Option Int:=cond (decide ((Int.tmod a0 2147483647)<0)) (some (V.wrap ((Int.tmod a0 2147483647)+2147483647))) (some (Int.tmod a0 2147483647))
def OB(N:Nat)(a0 a1 a2 a3:Int):Option Int:=(LB N (V.wrap ((V.wrap ((V.wrap ((V.wrap (48271*a0))+(V.wrap (7919*a1))))+(V.wrap (104729*a2))))+(V.wrap (1299709*a3))))).bind fun r1=>(LB N (V.wrap (16807*r1))).bind fun r2=>some r2
def Nt(r:Int×Bool):CallO:=⟨.tup [(false,[.int .i64 r.1]),(false,[.bool r.2])],[],[]⟩
def G8(N:Nat):Nat->Str->Int->Wld->Option (Int×Bool)
 |0,_,_,_=>none
 |n+1,x1,x6,b2=>cond (decide (x6<b2.files.length)) (ite (0<=x6/\x6<b2.files.length) (cond (((Fil.name (b2.files.getD x6.toNat Ty.fil.dflt)):Str)==x1) (some ((Fil.n (b2.files.getD x6.toNat Ty.fil.dflt)),true)) (G8 N n x1 (V.wrap (x6+1)) b2)) none) (some (0,false))
def Qp(N:Nat)(a0:Wld)(a1:Str):Option (Int×Bool):=G8 N N a1 0 a0
def G7(N:Nat)(a0:Wld)(a1 a2:Int)(a3:Rea):Option Val:=cond (a3.kind==1) ((Ca N a0.clock).bind fun r1=>cond r1 ((As N a0.clock).bind fun r2=>some r2) ((AL N 4).bind fun r2=>some r2)) (cond (a3.kind==2) ((D0 N a3.n 1 1000000000).bind fun r1=>cond (!r1) ((AL N 5).bind fun r2=>some r2) ((OB N a0.seed a1 a2 a3.time).bind fun r2=>if a3.n≠(0:Int) then(As N (Int.tmod r2 a3.n)).bind fun r3=>some r3 else none)) (cond (a3.kind==3) ((Qp N a0 a3.text).bind fun r1=>cond (!r1.2) ((AL N 1).bind fun r2=>some r2) ((Ca N r1.1).bind fun r2=>cond r2 ((As N r1.1).bind fun r3=>some r3) ((AL N 4).bind fun r3=>some r3))) ((AL N 4).bind fun r1=>some r1)))
def DZ(r:Val×Mch):CallO:=⟨(vV .ro r.1),[(Mc .tip r.2)],[]⟩
def EQ(N:Nat):Nat->Int->Mch->Rea->Val->Option (Val×Mch)
 |0,_,_,_,_=>none
 |n+1,x5,b0,b3,b4=>cond (decide (x5<b0.reads.length)) (ite (0<=x5/\x5<b0.reads.length) (cond (((Rea.kind (b0.reads.getD x5.toNat De)):Int)==b3.kind) (cond (((Rea.n (b0.reads.getD x5.toNat De)):Int)==b3.n) (cond (((Rea.text (b0.reads.getD x5.toNat De)):Str)==b3.text) (EQ N n (V.wrap (x5+1)) b0 (Rea.mk b3.kind b3.n (V.wrap (b3.time+1)) b3.text b3.result) b4) (EQ N n (V.wrap (x5+1)) b0 b3 b4)) (EQ N n (V.wrap (x5+1)) b0 b3 b4)) (EQ N n (V.wrap (x5+1)) b0 b3 b4)) none) ((Qq N b0.tape b3).bind fun r1=>cond (!r1.2) ((G7 N b0.w b0.cell b0.version b3).bind fun r2=>if b0.reads.length+ [(Rea.mk b3.kind b3.n b3.time b3.text r2.re)].length<=Lim then some (r2,(Mch.mk b0.tape b0.w b0.cell b0.version (b0.reads++ [(Rea.mk b3.kind b3.n b3.time b3.text r2.re)]) b0.steps b0.over)) else none) (if b0.reads.length+ [(Rea.mk b3.kind b3.n b3.time b3.text r1.1.re)].length<=Lim then some (r1.1,(Mch.mk b0.tape b0.w b0.cell b0.version (b0.reads++ [(Rea.mk b3.kind b3.n b3.time b3.text r1.1.re)]) b0.steps b0.over)) else none))
def EP(N:Nat)(a0:Mch)(a1:Rea):Option (Val×Mch):=EQ N N 0 a0 a1 (Val.mk 0 0 0 [] [] [] [])
def Ix(N:Nat):Nat->List Bnd->Str->List Bnd->Int->Val->Option (List Bnd)
 |0,_,_,_,_,_=>none
 |n+1,x0,x1,x7,x8,b5=>cond (decide (x8<x0.length)) (ite (0<=x8/\x8<x0.length) ((Bg N (Bnd.value (x0.getD x8.toNat Db))).bind fun r1=>if x7.length+ [(Bnd.mk (Bnd.name (x0.getD x8.toNat Db)) r1.re)].length<=Lim then(Ix N n x0 x1 (x7++ [(Bnd.mk (Bnd.name (x0.getD x8.toNat Db)) r1.re)]) (V.wrap (x8+1)) b5) else none) none) ((Bg N b5).bind fun r1=>if x7.length+ [(Bnd.mk x1 r1.re)].length<=Lim then some (x7++ [(Bnd.mk x1 r1.re)]) else none)
def Kl(N:Nat)(a0:List Bnd)(a1:Str)(a2:Val):Option (List Bnd):=Ix N N a0 a1 [] 0 a2
def Qt(N:Nat)(a0:Val):Option Bool:=cond (a0.kind==1) (some (a0.n != 0)) (some false)
def JR(N:Nat)(a0 a1:Val):Option Val:=cond (a0.kind==1) (cond (a1.kind==1) ((DY N (V.wrap (a0.n+a1.n))).bind fun r1=>some r1) ((AL N 4).bind fun r1=>some r1)) (cond (a0.kind==2) (cond (a1.kind==2) (cond (decide (((V.wrap ((a0.text.length:Int)+(a1.text.length:Int))):Int)>20)) ((AL N 6).bind fun r1=>some r1) (if a0.text.length+a1.text.length<=Lim then(Kz N (a0.text++a1.text)).bind fun r1=>some r1 else none)) ((AL N 4).bind fun r1=>some r1)) (cond (a0.kind==3) (cond (a1.kind==3) (cond (decide (((V.wrap ((a0.list.length:Int)+(a1.list.length:Int))):Int)>8)) ((AL N 6).bind fun r1=>some r1) (if 0+a0.list.length<=Lim then if length ([]++a0.list)+a1.list.length<=Lim then(Ku N (([]++a0.list)++a1.list)).bind fun r1=>some r1 else none else none)) ((AL N 4).bind fun r1=>some r1)) ((AL N 4).bind fun r1=>some r1)))
def JF(N:Nat)(a0:Bool):Option Val:=cond a0 ((As N 1).bind fun r1=>some r1) ((As N 0).bind fun r1=>some r1)
def LE(N:Nat)(a0 a1:Val):Option Val:=cond (a0.kind==1) (cond (a1.kind==1) ((JF N (decide (a0.n<a1.n))).bind fun r1=>some r1) ((AL N 4).bind fun r1=>some r1)) (cond (a0.kind==2) (cond (a1.kind==2) ((JF N (Op.bytesLess a0.text a1.text)).bind fun r1=>some r1) ((AL N 4).bind fun r1=>some r1)) ((AL N 4).bind fun r1=>some r1))
def OT(a0 a1:List Str):List Arg:=[.val (vS .ro .str a0),.val (vS .ro .str a1)]
def JQ(N:Nat):Nat->List Str->List Str->Int->Option Bool
 |0,_,_,_=>none
 |n+1,x0,x1,x5=>cond (decide (x5<x0.length)) (ite (0<=x5/\x5<x0.length) (ite (0<=x5/\x5<x1.length) (cond (!(((x0.getD x5.toNat Ds):Str)==(x1.getD x5.toNat Ds))) (some false) (JQ N n x0 x1 (V.wrap (x5+1)))) none) none) (some true)
def OS(N:Nat)(a0 a1:List Str):Option Bool:=cond ((a0.length:Int) != (a1.length:Int)) (some false) (JQ N N a0 a1 0)
def RI(a0 a1:List Int):List Arg:=[.val (vS .ro .int a0),.val (vS .ro .int a1)]
def JL(N:Nat):Nat->List Int->List Int->Int->Option Bool
 |0,_,_,_=>none
 |n+1,x0,x1,x5=>cond (decide (x5<x0.length)) (ite (0<=x5/\x5<x0.length) (ite (0<=x5/\x5<x1.length) (cond ((x0.getD x5.toNat Di) != (x1.getD x5.toNat Di)) (some false) (JL N n x0 x1 (V.wrap (x5+1)))) none) none) (some true)
def OM(N:Nat)(a0 a1:List Int):Option Bool:=cond ((a0.length:Int) != (a1.length:Int)) (some false) (JL N N a0 a1 0)
def RO(N:Nat):Nat->List Org->List Org->Int->Option Bool
 |0,_,_,_=>none
 |n+1,x0,x1,x5=>cond (decide (x5<x0.length)) (ite (0<=x5/\x5<x0.length) (ite (0<=x5/\x5<x1.length) (cond (!((((Org.cell (x0.getD x5.toNat Do)):Int)==(Org.cell (x1.getD x5.toNat Do)))&&(((Org.row (x0.getD x5.toNat Do)):Int)==(Org.row (x1.getD x5.toNat Do))))) (some false) (RO N n x0 x1 (V.wrap (x5+1)))) none) none) (some true)
def xCD(N:Nat)(a0 a1:List Org):Option Bool:=cond ((a0.length:Int) != (a1.length:Int)) (some false) (RO N N a0 a1 0)
def JO(a0 a1:Val)(a2:Bool):List Arg:=[.val (vV .ro a0),.val (vV .ro a1),.val (vB a2)]
def ES(N:Nat)(q0:Val->Val->Bool->Option Bool):Nat->Bool->Int->Val->Val->Option Bool
 |0,_,_,_,_=>none
 |n+1,x2,x8,b3,b4=>cond (decide (x8<b3.rows.length)) (ite (0<=x8/\x8<b3.rows.length) (ite (0<=x8/\x8<b4.rows.length) ((OM N (Rowd.cells (b3.rows.getD x8.toNat Dr)) (Rowd.cells (b4.rows.getD x8.toNat Dr))).bind fun r1=>cond (!r1) (some false) (cond x2 ((xCD N (Rowd.frm (b3.rows.getD x8.toNat Dr)) (Rowd.frm (b4.rows.getD x8.toNat Dr))).bind fun r2=>cond (!r2) (some false) (ES N q0 n x2 (V.wrap (x8+1)) b3 b4)) (ES N q0 n x2 (V.wrap (x8+1)) b3 b4))) none) none) (some true)
def Gu(N:Nat)(q0:Val->Val->Bool->Option Bool):Nat->Bool->Int->Val->Val->Option Bool
 |0,_,_,_,_=>none
 |n+1,x2,x7,b3,b4=>cond (decide (x7<b3.list.length)) (ite (0<=x7/\x7<b3.list.length) (ite (0<=x7/\x7<b4.list.length) ((q0 (b3.list.getD x7.toNat Dv) (b4.list.getD x7.toNat Dv) x2).bind fun r1=>cond (!r1) (some false) (Gu N q0 n x2 (V.wrap (x7+1)) b3 b4)) none) none) (ES N q0 N x2 0 b3 b4)
def OQ(N:Nat)(q0:Val->Val->Bool->Option Bool)(a0 a1:Val)(a2:Bool):Option Bool:=cond (a0.kind != a1.kind) (some false) (cond (a0.n != a1.n) (some false) (cond (a0.step != a1.step) (some false) (cond (!(a0.text==a1.text)) (some false) (cond ((a0.list.length:Int) != (a1.list.length:Int)) (some false) ((OS N a0.columns a1.columns).bind fun r1=>cond (!r1) (some false) (cond ((a0.rows.length:Int) != (a1.rows.length:Int)) (some false) (Gu N q0 N a2 0 a0 a1)))))))
def Cb(N:Nat):Nat->Val->Val->Bool->Option Bool
 |0,_,_,_=>none
 |d+1,a0,a1,a2=>OQ N (Cb N d) a0 a1 a2
def RQ(N:Nat)(a0 a1:Val)(a2:Bool):Option Bool:=Cb N N a0 a1 a2
def JA(N:Nat)(a0 a1:Val):Option Bool:=(RQ N a0 a1 false).bind fun r1=>some r1
def Kk(N:Nat)(a0:Int)(a1 a2:Val):Option Val:=(ET N [a1.re,a2.re]).bind fun r1=>cond r1.2 (some r1.1) (cond (a1.kind==1) (cond (a0==1) ((JR N a1 a2).bind fun r2=>some r2) (cond (a0==4) ((LE N a1 a2).bind fun r2=>some r2) (cond (a0==5) ((JA N a1 a2).bind fun r2=>(JF N r2).bind fun r3=>some r3) (cond (a0==2) (cond (a2.kind==1) ((DY N (V.wrap (a1.n - a2.n))).bind fun r2=>some r2) ((AL N 4).bind fun r2=>some r2)) (cond (a0==3) (cond (a2.kind==1) ((DY N (V.wrap (a1.n*a2.n))).bind fun r2=>some r2) ((AL N 4).bind fun r2=>some r2)) ((AL N 4).bind fun r2=>some r2)))))) (cond (a0==1) ((JR N a1 a2).bind fun r2=>some r2) (cond (a0==4) ((LE N a1 a2).bind fun r2=>some r2) (cond (a0==5) ((JA N a1 a2).bind fun r2=>(JF N r2).bind fun r3=>some r3) (cond (a0==2) ((AL N 4).bind fun r2=>some r2) (cond (a0==3) ((AL N 4).bind fun r2=>some r2) ((AL N 4).bind fun r2=>some r2)))))))
def RD(r:(List Val)×Mch):CallO:=⟨(vS .tip .val r.1),[(Mc .tip r.2)],[]⟩
def Gj(N:Nat)(q0:Mch->List Exp->List Bnd->Option ((List Val)×Mch))(q1 q2 q3:Mch->Exp->List Bnd->Option (Val×Mch)):Nat->List Exp->List Bnd->List Val->Int->Mch->Option ((List Val)×Mch)
 |0,_,_,_,_,_=>none
 |n+1,x1,x2,x7,x8,b0=>cond (decide (x8<x1.length)) (cond (!b0.over) (ite (0<=x8/\x8<x1.length) ((q2 b0 (x1.getD x8.toNat Dx) x2).bind fun r1=>if x7.length+ [r1.1.re].length<=Lim then(Gj N q0 q1 q2 q3 n x1 x2 (x7++ [r1.1.re]) (V.wrap (x8+1)) r1.2) else none) none) (some (x7,b0))) (some (x7,b0))
def xCt(N:Nat)(q0:Mch->List Exp->List Bnd->Option ((List Val)×Mch))(q1 q2 q3:Mch->Exp->List Bnd->Option (Val×Mch))(a0:Mch)(a1:List Exp)(a2:List Bnd):Option ((List Val)×Mch):=Gj N q0 q1 q2 q3 N a1 a2 [] 0 a0
def Gk(a0:Mch)(a1:Exp)(a2:List Bnd):List Arg:=[.box (Mc .tip a0),.val (.v true (Ex .ro a1)),.val (vS .ro .bnd a2)]
def OH(N:Nat)(q0:Mch->List Exp->List Bnd->Option ((List Val)×Mch))(q1 q2 q3:Mch->Exp->List Bnd->Option (Val×Mch))(a0:Mch)(a1:Exp)(a2:List Bnd):Option (Val×Mch):=(q0 a0 a1.args a2).bind fun r1=>cond r1.2.over (some ((Val.mk 0 0 0 [] [] [] []),r1.2)) ((Kq N (Exp.mk 5 0 a1.text [])).bind fun r2=>cond (!r2) ((DX N a1.text r1.1).bind fun r3=>some (r3,r1.2)) (cond ((r1.1.length:Int)==1) (if(0:Int)<=0/\(0:Int)<r1.1.length then cond (((Val.kind (r1.1.getD (toNat 0) Dv)):Int)==6) (some ((r1.1.getD (toNat 0) Dv),r1.2)) (cond (a1.text== [99,108,111,99,107]) ((EP N r1.2 (Rea.mk 1 0 0 [] (Val.mk 0 0 0 [] [] [] []))).bind fun r3=>some (r3.1,r3.2)) (cond (a1.text== [99,104,97,110,99,101]) (cond (((Val.kind (r1.1.getD (toNat 0) Dv)):Int)==1) ((EP N r1.2 (Rea.mk 2 (Val.n (r1.1.getD (toNat 0) Dv)) 0 [] (Val.mk 0 0 0 [] [] [] []))).bind fun r3=>some (r3.1,r3.2)) ((AL N 4).bind fun r3=>some (r3,r1.2))) (cond (((Val.kind (r1.1.getD (toNat 0) Dv)):Int)==2) ((EP N r1.2 (Rea.mk 3 0 0 (Val.text (r1.1.getD (toNat 0) Dv)) (Val.mk 0 0 0 [] [] [] []))).bind fun r3=>some (r3.1,r3.2)) ((AL N 4).bind fun r3=>some (r3,r1.2))))) else none) (cond (a1.text== [99,108,111,99,107]) ((EP N r1.2 (Rea.mk 1 0 0 [] (Val.mk 0 0 0 [] [] [] []))).bind fun r3=>some (r3.1,r3.2)) (cond (a1.text== [99,104,97,110,99,101]) (if(0:Int)<=0/\(0:Int)<r1.1.length then cond (((Val.kind (r1.1.getD (toNat 0) Dv)):Int)==1) ((EP N r1.2 (Rea.mk 2 (Val.n (r1.1.getD (toNat 0) Dv)) 0 [] (Val.mk 0 0 0 [] [] [] []))).bind fun r3=>some (r3.1,r3.2)) ((AL N 4).bind fun r3=>some (r3,r1.2)) else none) (if(0:Int)<=0/\(0:Int)<r1.1.length then cond (((Val.kind (r1.1.getD (toNat 0) Dv)):Int)==2) ((EP N r1.2 (Rea.mk 3 0 0 (Val.text (r1.1.getD (toNat 0) Dv)) (Val.mk 0 0 0 [] [] [] []))).bind fun r3=>some (r3.1,r3.2)) ((AL N 4).bind fun r3=>some (r3,r1.2)) else none)))))
def Bf(N:Nat)(q0:Mch->List Exp->List Bnd->Option ((List Val)×Mch))(q1 q2 q3:Mch->Exp->List Bnd->Option (Val×Mch))(a0:Mch)(a1:Exp)(a2:List Bnd):Option (Val×Mch):=cond a0.over (some ((Val.mk 0 0 0 [] [] [] []),(Mch.mk a0.tape a0.w a0.cell a0.version a0.reads a0.steps true))) (cond (a0.steps==200) (some ((Val.mk 0 0 0 [] [] [] []),(Mch.mk a0.tape a0.w a0.cell a0.version a0.reads a0.steps true))) (cond (a1.kind==1) ((As N a1.n).bind fun r1=>some (r1,(Mch.mk a0.tape a0.w a0.cell a0.version a0.reads (V.wrap (a0.steps+1)) a0.over))) (cond (a1.kind==2) ((Kz N a1.text).bind fun r1=>some (r1,(Mch.mk a0.tape a0.w a0.cell a0.version a0.reads (V.wrap (a0.steps+1)) a0.over))) (cond (a1.kind==3) ((OA N a2 a1.text).bind fun r1=>some (r1,(Mch.mk a0.tape a0.w a0.cell a0.version a0.reads (V.wrap (a0.steps+1)) a0.over))) (cond (a1.kind==4) ((q0 (Mch.mk a0.tape a0.w a0.cell a0.version a0.reads (V.wrap (a0.steps+1)) a0.over) a1.args a2).bind fun r1=>cond r1.2.over (some ((Val.mk 0 0 0 [] [] [] []),r1.2)) ((GZ N r1.1).bind fun r2=>some (r2,r1.2))) (cond (a1.kind==5) ((q1 (Mch.mk a0.tape a0.w a0.cell a0.version a0.reads (V.wrap (a0.steps+1)) a0.over) a1 a2).bind fun r1=>some (r1.1,r1.2)) (cond (a1.kind==7) (if(0:Int)<=0/\(0:Int)<a1.args.length then(q2 (Mch.mk a0.tape a0.w a0.cell a0.version a0.reads (V.wrap (a0.steps+1)) a0.over) (a1.args.getD (toNat 0) Dx) a2).bind fun r1=>cond r1.2.over (some ((Val.mk 0 0 0 [] [] [] []),r1.2)) (if(0:Int)<=1/\(1:Int)<a1.args.length then(Kl N a2 a1.text r1.1).bind fun r2=>(q2 r1.2 (a1.args.getD (toNat 1) Dx) r2).bind fun r3=>some (r3.1,r3.2) else none) else none) (cond (a1.kind==8) (if(0:Int)<=0/\(0:Int)<a1.args.length then(q2 (Mch.mk a0.tape a0.w a0.cell a0.version a0.reads (V.wrap (a0.steps+1)) a0.over) (a1.args.getD (toNat 0) Dx) a2).bind fun r1=>cond r1.2.over (some (r1.1,r1.2)) (cond (r1.1.kind==6) (some (r1.1,r1.2)) ((Qt N r1.1).bind fun r2=>cond r2 (if(0:Int)<=1/\(1:Int)<a1.args.length then(q2 r1.2 (a1.args.getD (toNat 1) Dx) a2).bind fun r3=>some (r3.1,r3.2) else none) (if(0:Int)<=2/\(2:Int)<a1.args.length then(q2 r1.2 (a1.args.getD (toNat 2) Dx) a2).bind fun r3=>some (r3.1,r3.2) else none))) else none) (cond (a1.kind==9) ((q3 (Mch.mk a0.tape a0.w a0.cell a0.version a0.reads (V.wrap (a0.steps+1)) a0.over) a1 a2).bind fun r1=>some (r1.1,r1.2)) ((q0 (Mch.mk a0.tape a0.w a0.cell a0.version a0.reads (V.wrap (a0.steps+1)) a0.over) a1.args a2).bind fun r1=>cond r1.2.over (some ((Val.mk 0 0 0 [] [] [] []),r1.2)) (if(0:Int)<=0/\(0:Int)<r1.1.length then if(0:Int)<=1/\(1:Int)<r1.1.length then(Kk N a1.n (r1.1.getD (toNat 0) Dv) (r1.1.getD (toNat 1) Dv)).bind fun r2=>some (r2,r1.2) else none else none)))))))))))
def Cw(N:Nat)(q0:Mch->List Exp->List Bnd->Option ((List Val)×Mch))(q1 q2 q3:Mch->Exp->List Bnd->Option (Val×Mch)):Nat->List Bnd->List Val->Int->Mch->Exp->Val->Val->Option (Val×Mch)
 |0,_,_,_,_,_,_,_=>none
 |n+1,x2,x8,x9,b0,b4,b6,b7=>cond (decide (x9<b7.list.length)) (cond (!b0.over) (if(0:Int)<=1/\(1:Int)<b4.args.length then ite (0<=x9/\x9<b7.list.length) ((Kl N x2 b4.text (b7.list.getD x9.toNat Dv)).bind fun r1=>(q2 b0 (b4.args.getD (toNat 1) Dx) r1).bind fun r2=>if x8.length+ [r2.1.re].length<=Lim then(Cw N q0 q1 q2 q3 n x2 (x8++ [r2.1.re]) (V.wrap (x9+1)) r2.2 b4 b6 b7) else none) none else none) (cond b0.over (some ((Val.mk 0 0 0 [] [] [] []),b0)) ((GZ N x8).bind fun r1=>some (r1,b0)))) (cond b0.over (some ((Val.mk 0 0 0 [] [] [] []),b0)) ((GZ N x8).bind fun r1=>some (r1,b0)))
def OI(N:Nat)(q0:Mch->List Exp->List Bnd->Option ((List Val)×Mch))(q1 q2 q3:Mch->Exp->List Bnd->Option (Val×Mch))(a0:Mch)(a1:Exp)(a2:List Bnd):Option (Val×Mch):=if(0:Int)<=0/\(0:Int)<a1.args.length then(q2 a0 (a1.args.getD (toNat 0) Dx) a2).bind fun r1=>cond r1.2.over (some (r1.1,r1.2)) (cond (r1.1.kind==6) (some (r1.1,r1.2)) (cond (r1.1.kind != 3) ((AL N 4).bind fun r2=>some (r2,r1.2)) (Cw N q0 q1 q2 q3 N a2 [] 0 r1.2 a1 (Val.mk 0 0 0 [] [] [] []) r1.1))) else none
structure Rq5 where
 c10:Mch->(List Exp)->(List Bnd)->Option ((List Val)×Mch)
 c11:Mch->Exp->(List Bnd)->Option (Val×Mch)
 c12:Mch->Exp->(List Bnd)->Option (Val×Mch)
 c13:Mch->Exp->(List Bnd)->Option (Val×Mch)
def BF(N:Nat):Nat->Rq5
 |0=>⟨fun _ _ _=>none,fun _ _ _=>none,fun _ _ _=>none,fun _ _ _=>none⟩
 |d+1=>⟨xCt N (BF N d).c10 (BF N d).c11 (BF N d).c12 (BF N d).c13,OH N (BF N d).c10 (BF N d).c11 (BF N d).c12 (BF N d).c13,Bf N (BF N d).c10 (BF N d).c11 (BF N d).c12 (BF N d).c13,OI N (BF N d).c10 (BF N d).c11 (BF N d).c12 (BF N d).c13⟩
def RF(N:Nat)(a0:Mch)(a1:Exp)(a2:List Bnd):Option (Val×Mch):=(BF N N).c12 a0 a1 a2
def RG(N:Nat)(a0:Rea):Option Rea:=(Bg N a0.result).bind fun r1=>some (Rea.mk a0.kind a0.n a0.time a0.text r1)
def JK(N:Nat):Nat->List Rea->List Rea->Int->Option (List Rea)
 |0,_,_,_=>none
 |n+1,x0,x3,x4=>cond (decide (x4<x0.length)) (ite (0<=x4/\x4<x0.length) ((RG N (x0.getD x4.toNat De)).bind fun r1=>if x3.length+ [(Rea.mk r1.kind r1.n r1.time r1.text (r1.result.re))].length<=Lim then(JK N n x0 (x3++ [(Rea.mk r1.kind r1.n r1.time r1.text (r1.result.re))]) (V.wrap (x4+1))) else none) none) (some x3)
def OJ(N:Nat)(a0:List Rea):Option (List Rea):=JK N N a0 [] 0
def Qn(a0:Exp)(a1:List Bnd)(a2:List Rea)(a3:Wld)(a4 a5:Int):List Arg:=[.val (.v true (Ex .ro a0)),.val (vS .ro .bnd a1),.val (vS .ro .rea a2),.val (.v true (Wc .ro a3)),.val (vI a4),.val (vI a5)]
def Ns(r:Outc):CallO:=⟨.v true [.int .i64 (Val.kind (Outc.value r)),.int .i64 (Val.n (Outc.value r)),.int .i64 (Val.step (Outc.value r)),.str (Val.text (Outc.value r)),.sl .own .val (Val.list (Outc.value r)),.sl .own .str (Val.columns (Outc.value r)),.sl .own .row (Val.rows (Outc.value r)),.sl .own .rea (Outc.reads r),.int .i64 (Outc.steps r)],[],[]⟩
def Qo(N:Nat)(x1:List Bnd)(b6:Exp)(b12:Outc)(b25:Mch):Option Outc:=(RF N b25 b6 x1).bind fun r1=>cond r1.2.over ((AL N 6).bind fun r2=>(OJ N r1.2.reads).bind fun r3=>some (Outc.mk r2 r3 200)) ((Bg N r1.1).bind fun r2=>(OJ N r1.2.reads).bind fun r3=>some (Outc.mk r2 r3 r1.2.steps))
def Ko(N:Nat)(a0:Exp)(a1:List Bnd)(a2:List Rea)(a3:Wld)(a4 a5:Int):Option Outc:=(Nw N a0).bind fun r1=>cond (!r1) ((AL N 4).bind fun r2=>some (Outc.mk r2 [] 0)) (Qo N a1 a0 (Outc.mk (Val.mk 0 0 0 [] [] [] []) [] 0) (Mch.mk a2 a3 a4 a5 [] 0 false))
def Fm(N:Nat)(q0:Exp->Option Int):Nat->Int->List Exp->Int->Int->Option Int
 |0,_,_,_,_=>none
 |n+1,x3,x7,x8,x9=>cond (decide (x9<x8)) (ite (0<=x9/\x9<x7.length) ((q0 (x7.getD x9.toNat Dx)).bind fun r1=>(Fm N q0 n (V.wrap (x3+r1)) x7 x8 (V.wrap (x9+1)))) none) (some x3)
def xAb(N:Nat)(q0:Exp->Option Int)(a0:Exp):Option Int:=Fm N q0 N 1 a0.args (a0.args.length:Int) 0
def HY(N:Nat):Nat->Exp->Option Int
 |0,_=>none
 |d+1,a0=>xAb N (HY N d) a0
def PO(N:Nat)(a0:Exp):Option Int:=HY N N a0
def HX(N:Nat)(q0:Exp->Option Int):Nat->Int->List Exp->Int->Int->Option Int
 |0,_,_,_,_=>none
 |n+1,x3,x7,x8,x9=>cond (decide (x9<x8)) (ite (0<=x9/\x9<x7.length) ((q0 (x7.getD x9.toNat Dx)).bind fun r1=>(HX N q0 n (if r1>x3 then r1 else x3) x7 x8 (V.wrap (x9+1)))) none) (some (V.wrap (x3+1)))
def Up(N:Nat)(q0:Exp->Option Int)(a0:Exp):Option Int:=HX N q0 N 0 a0.args (a0.args.length:Int) 0
def Jo(N:Nat):Nat->Exp->Option Int
 |0,_=>none
 |d+1,a0=>Up N (Jo N d) a0
def PN(N:Nat)(a0:Exp):Option Int:=Jo N N a0
def C5(N:Nat)(a0 a1 a2:Int):Option Bool:=cond (decide (a1<=a0)) (some (decide (a0<=a2))) (some false)
def Jk(N:Nat):Nat->Str->Int->Option Bool
 |0,_,_=>none
 |n+1,x0,x3=>cond (decide (x3<x0.length)) (ite (0<=x3/\x3<x0.length) (cond (decide (((x0.getD x3.toNat 0).toNat:Int)<32)) (some false) (cond (decide (((x0.getD x3.toNat 0).toNat:Int)>126)) (some false) (cond (((x0.getD x3.toNat 0).toNat:Int)==34) (some false) (Jk N n x0 (V.wrap (x3+1)))))) none) (some (decide ((x0.length:Int)<=20)))
def Lw(N:Nat)(a0:Str):Option Bool:=Jk N N a0 0
def Dj(N:Nat):Nat->Str->Int->Option Bool
 |0,_,_=>none
 |n+1,x0,x3=>cond (decide (x3<x0.length)) (ite (0<=x3/\x3<x0.length) (cond (decide (((x0.getD x3.toNat 0).toNat:Int)>=97)) (cond (!(decide (((x0.getD x3.toNat 0).toNat:Int)<=122))) (cond (x3==0) (some false) (cond (decide (((x0.getD x3.toNat 0).toNat:Int)<48)) (some false) (cond (decide (((x0.getD x3.toNat 0).toNat:Int)>57)) (some false) (Dj N n x0 (V.wrap (x3+1)))))) (Dj N n x0 (V.wrap (x3+1)))) (cond (x3==0) (some false) (cond (decide (((x0.getD x3.toNat 0).toNat:Int)<48)) (some false) (cond (decide (((x0.getD x3.toNat 0).toNat:Int)>57)) (some false) (Dj N n x0 (V.wrap (x3+1))))))) none) ((C5 N (x0.length:Int) 1 8).bind fun r1=>some r1)
def PV(N:Nat)(a0:Str):Option Bool:=Dj N N a0 0
def Fd(N:Nat)(a0:Str):Option Int:=cond (a0== [99,108,111,99,107]) (some 0) (cond (a0== [108,101,110]) (some 1) (cond (a0== [115,117,109]) (some 1) (cond (a0== [114,111,119,115]) (some 1) (cond (a0== [99,104,97,110,99,101]) (some 1) (cond (a0== [102,105,108,101]) (some 1) (cond (a0== [116,97,107,101]) (some 2) (cond (a0== [115,107,105,112]) (some 2) (cond (a0== [114,97,110,103,101]) (some 2) (cond (a0== [110,116,104]) (some 2) (cond (a0== [107,101,101,112]) (some 2) (cond (a0== [99,111,108,117,109,110]) (some 2) (cond (a0== [116,97,98,108,101]) (some 2) (cond (a0== [119,104,101,114,101]) (some 3) (cond (a0== [103,114,111,117,112]) (some 3) (cond (a0== [106,111,105,110]) (some 3) (cond (a0== [97,100,100]) (some 4) (some (-1))))))))))))))))))
def Lu(N:Nat)(a0:Str):Option Bool:=cond (a0== [108,101,116]) (some true) (cond (a0== [105,110]) (some true) (cond (a0== [105,102]) (some true) (cond (a0== [116,104,101,110]) (some true) (cond (a0== [101,108,115,101]) (some true) (cond (a0== [102,111,114]) (some true) (cond (a0== [100,111]) (some true) ((Fd N a0).bind fun r1=>some (decide (r1>=0)))))))))
def Da(N:Nat)(a0:Str):Option Bool:=(PV N a0).bind fun r1=>cond r1 ((Lu N a0).bind fun r2=>some (!r2)) (some false)
def MM(N:Nat)(a0:Exp):Option Bool:=cond (a0.kind==1) ((C5 N a0.n 0 1000000000).bind fun r1=>cond r1 (cond (a0.text== []) (some ((a0.args.length:Int)==0)) (some false)) (some false)) (cond (a0.kind==2) (cond (a0.n==0) ((Lw N a0.text).bind fun r1=>cond r1 (some ((a0.args.length:Int)==0)) (some false)) (some false)) (cond (a0.kind==3) (cond (a0.n==0) ((Da N a0.text).bind fun r1=>cond r1 (some ((a0.args.length:Int)==0)) (some false)) (some false)) (cond (a0.kind==4) (cond (a0.n==0) (cond (a0.text== []) (some (decide ((a0.args.length:Int)<=8))) (some false)) (some false)) (cond (a0.kind==5) (cond (a0.n==0) ((Fd N a0.text).bind fun r1=>some ((a0.args.length:Int)==r1)) (some false)) (cond (a0.kind==6) ((C5 N a0.n 1 5).bind fun r1=>cond r1 (cond (a0.text== []) (some ((a0.args.length:Int)==2)) (some false)) (some false)) (cond (a0.kind==7) (cond (a0.n==0) ((Da N a0.text).bind fun r1=>cond r1 (some ((a0.args.length:Int)==2)) (some false)) (some false)) (cond (a0.kind==9) (cond (a0.n==0) ((Da N a0.text).bind fun r1=>cond r1 (some ((a0.args.length:Int)==2)) (some false)) (some false)) (cond (a0.kind==8) (cond (a0.n==0) (cond (a0.text== []) (some ((a0.args.length:Int)==3)) (some false)) (some false)) (some false)))))))))
def Fq(N:Nat)(q0:Exp->Option Bool):Nat->List Exp->Int->Int->Exp->Option Bool
 |0,_,_,_,_=>none
 |n+1,x6,x7,x8,b1=>cond (decide (x8<x7)) (ite (0<=x8/\x8<x6.length) ((q0 (x6.getD x8.toNat Dx)).bind fun r1=>cond (!r1) (some false) (Fq N q0 n x6 x7 (V.wrap (x8+1)) b1)) none) ((MM N b1).bind fun r1=>some r1)
def xAk(N:Nat)(q0:Exp->Option Bool)(a0:Exp):Option Bool:=Fq N q0 N a0.args (a0.args.length:Int) 0 a0
def Ju(N:Nat):Nat->Exp->Option Bool
 |0,_=>none
 |d+1,a0=>xAk N (Ju N d) a0
def PR(N:Nat)(a0:Exp):Option Bool:=Ju N N a0
def Lv(N:Nat)(a0:Exp):Option Bool:=(PO N a0).bind fun r1=>cond (decide (r1<=40)) ((PN N a0).bind fun r2=>cond (decide (r2<=8)) ((PR N a0).bind fun r3=>some r3) (some false)) (some false)
def AJ(N:Nat)(a0:Int):Option Val:=some (Val.mk 6 a0 0 [] [] [] [])
def At(N:Nat)(a0:Int):Option Val:=some (Val.mk 1 a0 0 [] [] [] [])
def Jq(N:Nat)(a0:Str):Option Val:=some (Val.mk 2 0 0 a0 [] [] [])
def MI(N:Nat)(a0:Rowd):Option Rowd:=if 0+a0.cells.length<=Lim then if 0+a0.frm.length<=Lim then some (Rowd.mk ([]++a0.cells) ([]++a0.frm)) else none else none
def Fr(N:Nat)(q0:Val->Option Val)(q1:List Val->Option (List Val)):Nat->List Rowd->Int->Int->Val->Val->Option Val
 |0,_,_,_,_,_=>none
 |n+1,x18,x19,x20,b2,b3=>cond (decide (x20<x19)) (ite (0<=x20/\x20<x18.length) ((MI N (x18.getD x20.toNat Dr)).bind fun r1=>if b3.rows.length+ [r1].length<=Lim then(Fr N q0 q1 n x18 x19 (V.wrap (x20+1)) b2 (Val.mk b3.kind b3.n b3.step b3.text b3.list b3.columns (b3.rows++ [r1]))) else none) none) (some b3)
def MJ(N:Nat)(q0:Val->Option Val)(q1:List Val->Option (List Val))(a0:Val):Option Val:=(q1 a0.list).bind fun r1=>if 0+a0.columns.length<=Lim then(Fr N q0 q1 N a0.rows (a0.rows.length:Int) 0 (Val.mk 0 0 0 [] [] [] []) (Val.mk a0.kind a0.n a0.step a0.text r1 ([]++a0.columns) [])) else none
def H5(N:Nat)(q0:Val->Option Val)(q1:List Val->Option (List Val)):Nat->List Val->List Val->Int->Int->Option (List Val)
 |0,_,_,_,_=>none
 |n+1,x3,x7,x8,x9=>cond (decide (x9<x8)) (ite (0<=x9/\x9<x7.length) ((q0 (x7.getD x9.toNat Dv)).bind fun r1=>if x3.length+ [r1.re].length<=Lim then(H5 N q0 q1 n (x3++ [r1.re]) x7 x8 (V.wrap (x9+1))) else none) none) (some x3)
def MK(N:Nat)(q0:Val->Option Val)(q1:List Val->Option (List Val))(a0:List Val):Option (List Val):=H5 N q0 q1 N [] a0 (a0.length:Int) 0
structure Rq6 where
 c14:Val->Option (Val)
 c15:(List Val)->Option ((List Val))
def BR(N:Nat):Nat->Rq6
 |0=>⟨fun _=>none,fun _=>none⟩
 |d+1=>⟨MJ N (BR N d).c14 (BR N d).c15,MK N (BR N d).c14 (BR N d).c15⟩
def Ba(N:Nat)(a0:Val):Option Val:=(BR N N).c14 a0
def Fs(N:Nat)(a0:List Val):Option (List Val):=(BR N N).c15 a0
def HW(N:Nat):Nat->List Bnd->Str->Int->Val->Option Val
 |0,_,_,_,_=>none
 |n+1,x0,x1,x5,b4=>cond (decide (x5>=0)) (ite (0<=x5/\x5<x0.length) (cond (((Bnd.name (x0.getD x5.toNat Db)):Str)==x1) ((Ba N (Bnd.value (x0.getD x5.toNat Db))).bind fun r1=>some r1) (HW N n x0 x1 (V.wrap (x5 - 1)) b4)) none) ((AJ N 1).bind fun r1=>some r1)
def MA(N:Nat)(a0:List Bnd)(a1:Str):Option Val:=(HW N N a0 a1 (V.wrap ((a0.length:Int) - 1)) (Val.mk 0 0 0 [] [] [] []))
def CR(N:Nat)(a0:Int):Option Bool:=(C5 N a0 (-1000000000) 1000000000).bind fun r1=>some r1
def HU(N:Nat):Nat->Str->List Str->Int->Int->Option Int
 |0,_,_,_,_=>none
 |n+1,x1,x7,x8,x9=>cond (decide (x9<x8)) (ite (0<=x9/\x9<x7.length) (cond (((x7.getD x9.toNat Ds):Str)==x1) (some x9) (HU N n x1 x7 x8 (V.wrap (x9+1)))) none) (some (-1))
def Jj(N:Nat)(a0:List Str)(a1:Str):Option Int:=HU N N a1 a0 (a0.length:Int) 0
def Fb(N:Nat):Nat->List Str->List Str->Int->Int->Option Bool
 |0,_,_,_,_=>none
 |n+1,x0,x5,x6,x7=>cond (decide (x7<x6)) (ite (0<=x7/\x7<x5.length) ((Jj N x0 (x5.getD x7.toNat Ds)).bind fun r1=>cond (r1 != x7) (some false) (Fb N n x0 x5 x6 (V.wrap (x7+1)))) none) (some true)
def HN(N:Nat)(a0:List Str):Option Bool:=Fb N N a0 a0 (a0.length:Int) 0
def H3(N:Nat):Nat->List Str->List Str->Int->Int->Option Bool
 |0,_,_,_,_=>none
 |n+1,x0,x5,x6,x7=>cond (decide (x7<x6)) (ite (0<=x7/\x7<x5.length) ((Da N (x5.getD x7.toNat Ds)).bind fun r1=>cond (!r1) (some false) (H3 N n x0 x5 x6 (V.wrap (x7+1)))) none) ((C5 N (x0.length:Int) 1 4).bind fun r1=>cond r1 ((HN N x0).bind fun r2=>some r2) (some false))
def Jt(N:Nat)(a0:List Str):Option Bool:=H3 N N a0 a0 (a0.length:Int) 0
def El(N:Nat)(k4:List Rowd->Int->Int->Val->Option Bool):Nat->List Rowd->Int->Int->List Org->Int->Int->Val->Rowd->Option Bool
 |0,_,_,_,_,_,_,_,_=>none
 |n+1,x20,x21,x22,x45,x46,x47,b1,b4=>cond (decide (x47<x46)) (ite (0<=x47/\x47<x45.length) (cond (decide (((Org.cell (x45.getD x47.toNat Do)):Int)<0)) (some false) (cond (decide (((Org.row (x45.getD x47.toNat Do)):Int)<0)) (some false) (cond (decide (x47>0)) (if(0:Int)<=(V.wrap (x47 - 1))/\(V.wrap (x47 - 1))<b4.frm.length then(H9 N (b4.frm.getD (toNat (V.wrap (x47 - 1))) Do) (x45.getD x47.toNat Do)).bind fun r1=>cond (!r1) (some false) (El N k4 n x20 x21 x22 x45 x46 (V.wrap (x47+1)) b1 b4) else none) (El N k4 n x20 x21 x22 x45 x46 (V.wrap (x47+1)) b1 b4)))) none) (k4 x20 x21 (V.wrap (x22+1)) b1)
def Fu(N:Nat)(k4:List Rowd->Int->Int->Val->Option Bool):Nat->List Rowd->Int->Int->List Int->Int->Int->Val->Rowd->Option Bool
 |0,_,_,_,_,_,_,_,_=>none
 |n+1,x20,x21,x22,x34,x35,x36,b1,b4=>cond (decide (x36<x35)) (ite (0<=x36/\x36<x34.length) ((CR N (x34.getD x36.toNat Di)).bind fun r1=>cond (!r1) (some false) (Fu N k4 n x20 x21 x22 x34 x35 (V.wrap (x36+1)) b1 b4)) none) (El N k4 N x20 x21 x22 b4.frm (b4.frm.length:Int) 0 b1 b4)
def H6(N:Nat):Nat->List Rowd->Int->Int->Val->Option Bool
 |0,_,_,_,_=>none
 |n+1,x20,x21,x22,b1=>cond (decide (x22<x21)) (ite (0<=x22/\x22<x20.length) (cond ((length (Rowd.cells (x20.getD x22.toNat Dr)):Int) != (b1.columns.length:Int)) (some false) (Fu N (fun z0 z1 z2 z3=>(H6 N n z0 z1 z2 z3)) N x20 x21 x22 (Rowd.cells (x20.getD x22.toNat Dr)) (length (Rowd.cells (x20.getD x22.toNat Dr)):Int) 0 b1 (x20.getD x22.toNat Dr))) none) (some true)
def Jw(N:Nat)(a0:Val):Option Bool:=(Jt N a0.columns).bind fun r1=>cond (!r1) (some false) (cond (decide ((a0.rows.length:Int)>12)) (some false) (H6 N N a0.rows (a0.rows.length:Int) 0 a0))
def HS(N:Nat)(q0:Val->Option Int):Nat->Int->List Val->Int->Int->Option Int
 |0,_,_,_,_=>none
 |n+1,x3,x7,x8,x9=>cond (decide (x9<x8)) (ite (0<=x9/\x9<x7.length) ((q0 (x7.getD x9.toNat Dv)).bind fun r1=>(HS N q0 n (if r1>x3 then r1 else x3) x7 x8 (V.wrap (x9+1)))) none) (some (V.wrap (x3+1)))
def Ui(N:Nat)(q0:Val->Option Int)(a0:Val):Option Int:=HS N q0 N 0 a0.list (a0.list.length:Int) 0
def Fe(N:Nat):Nat->Val->Option Int
 |0,_=>none
 |d+1,a0=>Ui N (Fe N d) a0
def HR(N:Nat)(a0:Val):Option Int:=Fe N N a0
def Ch(N:Nat)(q0:Val->Option Bool):Nat->List Val->Int->Int->Val->Option Bool
 |0,_,_,_,_=>none
 |n+1,x124,x125,x126,b1=>cond (decide (x126<x125)) (ite (0<=x126/\x126<x124.length) (cond (((Val.kind (x124.getD x126.toNat Dv)):Int) != 1) (cond (((Val.kind (x124.getD x126.toNat Dv)):Int) != 2) (cond (((Val.kind (x124.getD x126.toNat Dv)):Int) != 3) (some false) ((q0 (x124.getD x126.toNat Dv)).bind fun r1=>cond (!r1) (some false) (Ch N q0 n x124 x125 (V.wrap (x126+1)) b1))) ((q0 (x124.getD x126.toNat Dv)).bind fun r1=>cond (!r1) (some false) (Ch N q0 n x124 x125 (V.wrap (x126+1)) b1))) ((q0 (x124.getD x126.toNat Dv)).bind fun r1=>cond (!r1) (some false) (Ch N q0 n x124 x125 (V.wrap (x126+1)) b1))) none) (cond (b1.n==0) (cond (b1.step==0) (cond (b1.text== []) (cond ((b1.columns.length:Int)==0) (cond ((b1.rows.length:Int)==0) (cond (decide ((b1.list.length:Int)<=8)) ((HR N b1).bind fun r1=>some (decide (r1<=3))) (some false)) (some false)) (some false)) (some false)) (some false)) (some false))
def Lx(N:Nat)(q0:Val->Option Bool)(a0:Val):Option Bool:=cond ((a0.list.length:Int)==0) (cond ((a0.columns.length:Int)==0) (cond (a0.kind==1) (cond ((a0.rows.length:Int)==0) (cond (a0.step==0) (cond (a0.text== []) ((CR N a0.n).bind fun r1=>some r1) (some false)) (some false)) (some false)) (cond (a0.kind==2) (cond ((a0.rows.length:Int)==0) (cond (a0.n==0) (cond (a0.step==0) ((Lw N a0.text).bind fun r1=>some r1) (some false)) (some false)) (some false)) (cond (a0.kind==4) (cond ((a0.rows.length:Int)==0) (cond (a0.text== []) ((CR N a0.n).bind fun r1=>cond r1 ((CR N a0.step).bind fun r2=>some r2) (some false)) (some false)) (some false)) (cond (a0.kind==6) (cond ((a0.rows.length:Int)==0) (cond (a0.step==0) (cond (a0.text== []) ((C5 N a0.n 1 8).bind fun r1=>some r1) (some false)) (some false)) (some false)) (cond (a0.kind==5) (cond (a0.n==0) (cond (a0.step==0) (cond (a0.text== []) ((Jw N a0).bind fun r1=>some r1) (some false)) (some false)) (some false)) (cond (a0.kind==3) (Ch N q0 N a0.list (a0.list.length:Int) 0 a0) (some false))))))) (cond (a0.kind==1) (some false) (cond (a0.kind==2) (some false) (cond (a0.kind==4) (some false) (cond (a0.kind==6) (some false) (cond (a0.kind==5) (cond (a0.n==0) (cond (a0.step==0) (cond (a0.text== []) ((Jw N a0).bind fun r1=>some r1) (some false)) (some false)) (some false)) (cond (a0.kind==3) (Ch N q0 N a0.list (a0.list.length:Int) 0 a0) (some false)))))))) (cond (a0.kind==1) (some false) (cond (a0.kind==2) (some false) (cond (a0.kind==4) (some false) (cond (a0.kind==6) (some false) (cond (a0.kind==5) (cond (a0.n==0) (cond (a0.step==0) (cond (a0.text== []) (some false) (some false)) (some false)) (some false)) (cond (a0.kind==3) (Ch N q0 N a0.list (a0.list.length:Int) 0 a0) (some false)))))))
def Ci(N:Nat):Nat->Val->Option Bool
 |0,_=>none
 |d+1,a0=>Lx N (Ci N d) a0
def PM(N:Nat)(a0:Val):Option Bool:=Ci N N a0
def Fw(r:Val×Bool×Bool):CallO:=⟨.tup [(true,[.int .i64 (Val.kind r.1),.int .i64 (Val.n r.1),.int .i64 (Val.step r.1),.str (Val.text r.1),.sl .ro .val (Val.list r.1),.sl .ro .str (Val.columns r.1),.sl .ro .row (Val.rows r.1)]),(false,[.bool r.2.1])],[],[]⟩
def PY(r:Val×Bool×Bool):CallO:=⟨.tup [(true,[.int .i64 (Val.kind r.1),.int .i64 (Val.n r.1),.int .i64 (Val.step r.1),.str (Val.text r.1),.sl .own .val (Val.list r.1),.sl .own .str (Val.columns r.1),.sl .own .row (Val.rows r.1)]),(false,[.bool r.2.1])],[],[]⟩
def xAv(r:Val×Bool×Bool):CallO:=⟨.tup [(true,[.int .i64 (Val.kind r.1),.int .i64 (Val.n r.1),.int .i64 (Val.step r.1),.str (Val.text r.1),.sl .ro .val [],.sl .ro .str [],.sl .ro .row []]),(false,[.bool r.2.1])],[],[]⟩
def Jy(r:Val×Bool×Bool):CallO:=bif r.2.2 then Fw r else PY r
def Eo(N:Nat):Nat->List Val->Int->Int->Val->Option (Val×Bool×Bool)
 |0,_,_,_,_=>none
 |n+1,x6,x7,x8,b2=>cond (decide (x8<x7)) (ite (0<=x8/\x8<x6.length) ((PM N (x6.getD x8.toNat Dv)).bind fun r1=>cond (!r1) ((AJ N 4).bind fun r2=>some (r2,true,false)) (cond (((Val.kind (x6.getD x8.toNat Dv)):Int)==6) (some ((x6.getD x8.toNat Dv),true,true)) (Eo N n x6 x7 (V.wrap (x8+1)) b2))) none) (some ((Val.mk 0 0 0 [] [] [] []),false,false))
def Dp(N:Nat)(a0:List Val):Option (Val×Bool×Bool):=Eo N N a0 (a0.length:Int) 0 (Val.mk 0 0 0 [] [] [] [])
def DJ(N:Nat)(a0:List Val):Option Val:=(Fs N a0).bind fun r1=>some (Val.mk 3 0 0 [] r1 [] [])
def DH(N:Nat):Nat->List Val->List Val->Int->Int->Val->Option Val
 |0,_,_,_,_,_=>none
 |n+1,x0,x16,x17,x18,b2=>cond (decide (x18<x17)) (ite (0<=x18/\x18<x16.length) (cond (((Val.kind (x16.getD x18.toNat Dv)):Int) != 1) (cond (((Val.kind (x16.getD x18.toNat Dv)):Int) != 2) (cond (((Val.kind (x16.getD x18.toNat Dv)):Int) != 3) ((AJ N 4).bind fun r1=>some r1) (DH N n x0 x16 x17 (V.wrap (x18+1)) b2)) (DH N n x0 x16 x17 (V.wrap (x18+1)) b2)) (DH N n x0 x16 x17 (V.wrap (x18+1)) b2)) none) ((DJ N x0).bind fun r1=>cond (decide ((x0.length:Int)>8)) ((AJ N 6).bind fun r2=>some r2) ((HR N r1).bind fun r2=>cond (decide (r2>3)) ((AJ N 6).bind fun r3=>some r3) (some r1)))
def HP(N:Nat)(a0:List Val):Option Val:=(Dp N a0).bind fun r1=>cond r1.2.2 (cond r1.2.1 ((Ba N r1.1).bind fun r2=>some r2) (DH N N a0 a0 (a0.length:Int) 0 (Val.mk 0 0 0 [] [] [] []))) (cond r1.2.1 ((Ba N r1.1).bind fun r2=>some r2) (DH N N a0 a0 (a0.length:Int) 0 (Val.mk 0 0 0 [] [] [] [])))
def Ed(N:Nat)(a0:Int):Option Val:=(CR N a0).bind fun r1=>cond (!r1) ((AJ N 5).bind fun r2=>some r2) ((At N a0).bind fun r2=>some r2)
def Jr(N:Nat)(a0:Bool):Option Val:=cond a0 ((At N 1).bind fun r1=>some r1) ((At N 0).bind fun r1=>some r1)
def Hb(N:Nat):Nat->List Str->List Str->Int->Int->Option Bool
 |0,_,_,_,_=>none
 |n+1,x0,x1,x12,x13=>cond (decide (x13<x12)) (ite (0<=x13/\x13<x0.length) (ite (0<=x13/\x13<x1.length) (cond (!(((x0.getD x13.toNat Ds):Str)==(x1.getD x13.toNat Ds))) (some false) (Hb N n x0 x1 x12 (V.wrap (x13+1)))) none) none) (some true)
def MS(N:Nat)(a0 a1:List Str):Option Bool:=cond ((a0.length:Int) != (a1.length:Int)) (some false) (Hb N N a0 a1 (a0.length:Int) 0)
def Ha(N:Nat):Nat->List Int->List Int->Int->Int->Option Bool
 |0,_,_,_,_=>none
 |n+1,x0,x1,x12,x13=>cond (decide (x13<x12)) (ite (0<=x13/\x13<x0.length) (ite (0<=x13/\x13<x1.length) (cond ((x0.getD x13.toNat Di) != (x1.getD x13.toNat Di)) (some false) (Ha N n x0 x1 x12 (V.wrap (x13+1)))) none) none) (some true)
def MR(N:Nat)(a0 a1:List Int):Option Bool:=cond ((a0.length:Int) != (a1.length:Int)) (some false) (Ha N N a0 a1 (a0.length:Int) 0)
def P0(N:Nat):Nat->List Org->List Org->Int->Int->Option Bool
 |0,_,_,_,_=>none
 |n+1,x0,x1,x12,x13=>cond (decide (x13<x12)) (ite (0<=x13/\x13<x0.length) (ite (0<=x13/\x13<x1.length) (cond (!((((Org.cell (x0.getD x13.toNat Do)):Int)==(Org.cell (x1.getD x13.toNat Do)))&&(((Org.row (x0.getD x13.toNat Do)):Int)==(Org.row (x1.getD x13.toNat Do))))) (some false) (P0 N n x0 x1 x12 (V.wrap (x13+1)))) none) none) (some true)
def xAy(N:Nat)(a0 a1:List Org):Option Bool:=cond ((a0.length:Int) != (a1.length:Int)) (some false) (P0 N N a0 a1 (a0.length:Int) 0)
def Dg(N:Nat)(q0:Val->Val->Bool->Option Bool):Nat->Bool->Int->Int->Val->Val->Option Bool
 |0,_,_,_,_,_=>none
 |n+1,x2,x83,x84,b3,b4=>cond (decide (x84<x83)) (ite (0<=x84/\x84<b3.rows.length) (ite (0<=x84/\x84<b4.rows.length) ((MR N (Rowd.cells (b3.rows.getD x84.toNat Dr)) (Rowd.cells (b4.rows.getD x84.toNat Dr))).bind fun r1=>cond (!r1) (some false) (cond x2 ((xAy N (Rowd.frm (b3.rows.getD x84.toNat Dr)) (Rowd.frm (b4.rows.getD x84.toNat Dr))).bind fun r2=>cond (!r2) (some false) (Dg N q0 n x2 x83 (V.wrap (x84+1)) b3 b4)) (Dg N q0 n x2 x83 (V.wrap (x84+1)) b3 b4))) none) none) (some true)
def Ft(N:Nat)(q0:Val->Val->Bool->Option Bool):Nat->Bool->Int->Int->Val->Val->Option Bool
 |0,_,_,_,_,_=>none
 |n+1,x2,x63,x64,b3,b4=>cond (decide (x64<x63)) (ite (0<=x64/\x64<b3.list.length) (ite (0<=x64/\x64<b4.list.length) ((q0 (b3.list.getD x64.toNat Dv) (b4.list.getD x64.toNat Dv) x2).bind fun r1=>cond (!r1) (some false) (Ft N q0 n x2 x63 (V.wrap (x64+1)) b3 b4)) none) none) (Dg N q0 N x2 (b3.rows.length:Int) 0 b3 b4)
def ML(N:Nat)(q0:Val->Val->Bool->Option Bool)(a0 a1:Val)(a2:Bool):Option Bool:=cond (a0.kind != a1.kind) (some false) (cond (a0.n != a1.n) (some false) (cond (a0.step != a1.step) (some false) (cond (!(a0.text==a1.text)) (some false) ((MS N a0.columns a1.columns).bind fun r1=>cond (!r1) (some false) (cond ((a0.list.length:Int) != (a1.list.length:Int)) (some false) (cond ((a0.rows.length:Int) != (a1.rows.length:Int)) (some false) (Ft N q0 N a2 (a0.list.length:Int) 0 a0 a1)))))))
def C4(N:Nat):Nat->Val->Val->Bool->Option Bool
 |0,_,_,_=>none
 |d+1,a0,a1,a2=>ML N (C4 N d) a0 a1 a2
def PU(N:Nat)(a0 a1:Val)(a2:Bool):Option Bool:=C4 N N a0 a1 a2
def Ji(N:Nat)(a0 a1:Val):Option Bool:=(PU N a0 a1 false).bind fun r1=>some r1
def BW(r:Val×Bool):CallO:=⟨.v true [.int .i64 (Val.kind r.1),.int .i64 (Val.n r.1),.int .i64 (Val.step r.1),.str (Val.text r.1),.sl .ro .val (Val.list r.1),.sl .ro .str (Val.columns r.1),.sl .ro .row (Val.rows r.1)],[],[]⟩
def Bw(r:Val×Bool):CallO:=⟨.v true [.int .i64 (Val.kind r.1),.int .i64 (Val.n r.1),.int .i64 (Val.step r.1),.str (Val.text r.1),.sl .own .val (Val.list r.1),.sl .own .str (Val.columns r.1),.sl .own .row (Val.rows r.1)],[],[]⟩
def Ud(r:Val×Bool):CallO:=⟨.v true [.int .i64 (Val.kind r.1),.int .i64 (Val.n r.1),.int .i64 (Val.step r.1),.str (Val.text r.1),.sl .ro .val [],.sl .ro .str [],.sl .ro .row []],[],[]⟩
def Fc(r:Val×Bool):CallO:=bif r.2 then BW r else Bw r
def Ll(N:Nat)(x0:Int)(x9 x10:Bool)(b4 b5 b6:Val):Option (Val×Bool):=cond (x0==2) (cond x9 ((Ed N (V.wrap (b4.n - b5.n))).bind fun r1=>some (r1,false)) ((AJ N 4).bind fun r1=>some (r1,false))) (cond (x0==3) (cond x9 ((Ed N (V.wrap (b4.n*b5.n))).bind fun r1=>some (r1,false)) ((AJ N 4).bind fun r1=>some (r1,false))) (cond (x0==4) (cond x9 ((Jr N (decide (b4.n<b5.n))).bind fun r1=>some (r1,false)) (cond x10 ((Jr N (Op.bytesLess b4.text b5.text)).bind fun r1=>some (r1,false)) ((AJ N 4).bind fun r1=>some (r1,false)))) (cond (x0==5) ((Ji N b4 b5).bind fun r1=>(Jr N r1).bind fun r2=>some (r2,false)) ((AJ N 4).bind fun r1=>some (r1,false)))))
def Lk(N:Nat)(x0:Int)(x9 x10 x11:Bool)(b4 b5 b6:Val):Option (Val×Bool):=cond (x0==1) (cond x11 (cond (decide (((V.wrap ((b4.list.length:Int)+(b5.list.length:Int))):Int)>8)) ((AJ N 6).bind fun r1=>some (r1,false)) ((Fs N b4.list).bind fun r1=>(Fs N b5.list).bind fun r2=>if r1.length+r2.length<=Lim then some ((Val.mk 3 0 0 [] (r1++r2) [] []),false) else none)) (Ll N x0 x9 x10 b4 b5 b6)) (Ll N x0 x9 x10 b4 b5 b6)
def DG(N:Nat)(x0:Int)(x9 x10 x11:Bool)(b4 b5 b6:Val):Option (Val×Bool):=cond (x0==1) (cond x9 ((Ed N (V.wrap (b4.n+b5.n))).bind fun r1=>some (r1,false)) (cond x10 (cond (decide (((V.wrap ((b4.text.length:Int)+(b5.text.length:Int))):Int)>20)) ((AJ N 6).bind fun r1=>some (r1,false)) (if b4.text.length+b5.text.length<=Lim then(Jq N (b4.text++b5.text)).bind fun r1=>some (r1,false) else none)) (Lk N x0 x9 x10 x11 b4 b5 b6))) (Lk N x0 x9 x10 x11 b4 b5 b6)
def Jg(N:Nat)(a0:Int)(a1 a2:Val):Option (Val×Bool):=(Dp N [a1.re,a2.re]).bind fun r1=>cond r1.2.2 (if List.isEmpty r1.1.list=true then if List.isEmpty r1.1.columns=true then if List.isEmpty r1.1.rows=true then cond r1.2.1 (some ((Val.mk r1.1.kind r1.1.n r1.1.step r1.1.text [] [] []),true)) (cond (a1.kind==1) (DG N a0 (a2.kind==1) false false a1 a2 (Val.mk 0 0 0 [] [] [] [])) (cond (a1.kind==2) (DG N a0 false (a2.kind==2) false a1 a2 (Val.mk 0 0 0 [] [] [] [])) (cond (a1.kind==3) (DG N a0 false false (a2.kind==3) a1 a2 (Val.mk 0 0 0 [] [] [] [])) (DG N a0 false false false a1 a2 (Val.mk 0 0 0 [] [] [] []))))) else none else none else none) (cond r1.2.1 (some (r1.1,false)) (cond (a1.kind==1) (DG N a0 (a2.kind==1) false false a1 a2 (Val.mk 0 0 0 [] [] [] [])) (cond (a1.kind==2) (DG N a0 false (a2.kind==2) false a1 a2 (Val.mk 0 0 0 [] [] [] [])) (cond (a1.kind==3) (DG N a0 false false (a2.kind==3) a1 a2 (Val.mk 0 0 0 [] [] [] [])) (DG N a0 false false false a1 a2 (Val.mk 0 0 0 [] [] [] []))))))
def HO(N:Nat):Nat->Str->List Bnd->List Bnd->Int->Int->Val->Option (List Bnd)
 |0,_,_,_,_,_,_=>none
 |n+1,x1,x7,x11,x12,x13,b5=>cond (decide (x13<x12)) (ite (0<=x13/\x13<x11.length) ((Ba N (Bnd.value (x11.getD x13.toNat Db))).bind fun r1=>if x7.length+ [(Bnd.mk (Bnd.name (x11.getD x13.toNat Db)) r1.re)].length<=Lim then(HO N n x1 (x7++ [(Bnd.mk (Bnd.name (x11.getD x13.toNat Db)) r1.re)]) x11 x12 (V.wrap (x13+1)) b5) else none) none) ((Ba N b5).bind fun r1=>if x7.length+ [(Bnd.mk x1 r1.re)].length<=Lim then some (x7++ [(Bnd.mk x1 r1.re)]) else none)
def Lo(N:Nat)(a0:List Bnd)(a1:Str)(a2:Val):Option (List Bnd):=HO N N a1 [] a0 (a0.length:Int) 0 a2
def PK(N:Nat)(a0:Val):Option Bool:=cond (a0.kind==1) (some (a0.n != 0)) (some false)
def Dh(N:Nat)(a0:Str):Option Bool:=cond (a0== [99,108,111,99,107]) (some true) (cond (a0== [99,104,97,110,99,101]) (some true) (some (a0== [102,105,108,101])))
def xHA(r:Val×Bool):CallO:=bif r.2 then BW r else Bw r
def Lz(N:Nat)(a0:Val):Option (Val×Bool):=(Dp N [a0.re]).bind fun r1=>cond r1.2.2 (if List.isEmpty r1.1.list=true then if List.isEmpty r1.1.columns=true then if List.isEmpty r1.1.rows=true then cond r1.2.1 (some ((Val.mk r1.1.kind r1.1.n r1.1.step r1.1.text [] [] []),true)) (cond (a0.kind==3) ((At N (a0.list.length:Int)).bind fun r2=>some (r2,false)) (cond (a0.kind==2) ((At N (a0.text.length:Int)).bind fun r2=>some (r2,false)) ((AJ N 4).bind fun r2=>some (r2,false)))) else none else none else none) (cond r1.2.1 (some (r1.1,false)) (cond (a0.kind==3) ((At N (a0.list.length:Int)).bind fun r2=>some (r2,false)) (cond (a0.kind==2) ((At N (a0.text.length:Int)).bind fun r2=>some (r2,false)) ((AJ N 4).bind fun r2=>some (r2,false)))))
def xAe(r:Val×Bool):CallO:=bif r.2 then BW r else Bw r
def DL(N:Nat):Nat->Int->List Val->Int->Int->Val->Option (Val×Bool)
 |0,_,_,_,_,_=>none
 |n+1,x5,x21,x22,x23,b2=>cond (decide (x23<x22)) (ite (0<=x23/\x23<x21.length) (cond (((Val.kind (x21.getD x23.toNat Dv)):Int) != 1) ((AJ N 4).bind fun r1=>some (r1,false)) ((CR N (V.wrap (x5+(Val.n (x21.getD x23.toNat Dv))))).bind fun r1=>cond (!r1) ((AJ N 5).bind fun r2=>some (r2,false)) (DL N n (V.wrap (x5+(Val.n (x21.getD x23.toNat Dv)))) x21 x22 (V.wrap (x23+1)) b2))) none) ((At N x5).bind fun r1=>some (r1,false))
def MF(N:Nat)(a0:Val):Option (Val×Bool):=(Dp N [a0.re]).bind fun r1=>cond r1.2.2 (if List.isEmpty r1.1.list=true then if List.isEmpty r1.1.columns=true then if List.isEmpty r1.1.rows=true then cond r1.2.1 (some ((Val.mk r1.1.kind r1.1.n r1.1.step r1.1.text [] [] []),true)) (cond (a0.kind != 3) ((AJ N 4).bind fun r2=>some (r2,false)) (DL N N 0 a0.list (a0.list.length:Int) 0 (Val.mk 0 0 0 [] [] [] []))) else none else none else none) (cond r1.2.1 (some (r1.1,false)) (cond (a0.kind != 3) ((AJ N 4).bind fun r2=>some (r2,false)) (DL N N 0 a0.list (a0.list.length:Int) 0 (Val.mk 0 0 0 [] [] [] []))))
def Jx(r:Val×Bool×Bool):CallO:=bif r.2.2 then Fw r else PY r
def Dk(N:Nat):Nat->List Int->List Val->Int->Int->Val->Option (Val×Bool×Bool)
 |0,_,_,_,_,_=>none
 |n+1,x0,x17,x18,x19,b4=>cond (decide (x19<x18)) (ite (0<=x19/\x19<x17.length) (ite (0<=x19/\x19<x0.length) (cond (((Val.kind (x17.getD x19.toNat Dv)):Int) != (x0.getD x19.toNat Di)) ((AJ N 4).bind fun r1=>some (r1,true,false)) (Dk N n x0 x17 x18 (V.wrap (x19+1)) b4)) none) none) (some ((Val.mk 0 0 0 [] [] [] []),false,false))
def CS(N:Nat)(a0:List Int)(a1:List Val):Option (Val×Bool×Bool):=(Dp N a1).bind fun r1=>cond r1.2.2 (cond r1.2.1 (some (r1.1,true,true)) (Dk N N a0 a1 (a1.length:Int) 0 (Val.mk 0 0 0 [] [] [] []))) (cond r1.2.1 (some (r1.1,true,false)) (Dk N N a0 a1 (a1.length:Int) 0 (Val.mk 0 0 0 [] [] [] [])))
def xHg(r:Val×Bool):CallO:=bif r.2 then BW r else Bw r
def Lp(N:Nat)(a0:Val):Option (Val×Bool):=(CS N [5] [a0.re]).bind fun r1=>cond r1.2.2 (if List.isEmpty r1.1.list=true then if List.isEmpty r1.1.columns=true then if List.isEmpty r1.1.rows=true then cond r1.2.1 (some ((Val.mk r1.1.kind r1.1.n r1.1.step r1.1.text [] [] []),true)) ((At N (a0.rows.length:Int)).bind fun r2=>some (r2,false)) else none else none else none) (cond r1.2.1 (some (r1.1,false)) ((At N (a0.rows.length:Int)).bind fun r2=>some (r2,false)))
def xIx(r:Val×Bool×Bool):CallO:=bif r.2.2 then Fw r else PY r
def Hc(N:Nat)(a0 a1:Val):Option (Val×Bool×Bool):=(Dp N [a0.re,a1.re]).bind fun r1=>cond r1.2.2 (if List.isEmpty r1.1.list=true then if List.isEmpty r1.1.columns=true then if List.isEmpty r1.1.rows=true then cond r1.2.1 (some ((Val.mk r1.1.kind r1.1.n r1.1.step r1.1.text [] [] []),true,true)) ((AJ N 4).bind fun r2=>cond (a0.kind != 1) (some (r2,true,false)) (cond (a1.kind != 3) (some (r2,(a1.kind != 4),false)) (some (r2,false,false)))) else none else none else none) (cond r1.2.1 (some (r1.1,true,false)) ((AJ N 4).bind fun r2=>cond (a0.kind != 1) (some (r2,true,false)) (cond (a1.kind != 3) (some (r2,(a1.kind != 4),false)) (some (r2,false,false)))))
def MD(r:Val×Bool):CallO:=bif r.2 then BW r else Bw r
def CF(N:Nat)(a0 a1:Val):Option (Val×Bool):=(Hc N a0 a1).bind fun r1=>cond r1.2.2 (cond r1.2.1 (some (r1.1,true)) (cond (decide (a0.n<0)) ((AJ N 5).bind fun r2=>some (r2,false)) (cond (a1.kind==3) (cond (decide (a0.n>=(a1.list.length:Int))) ((AJ N 5).bind fun r2=>some (r2,false)) (if(0:Int)<=a0.n/\a0.n<a1.list.length then(Ba N (a1.list.getD a0.n.toNat Dv)).bind fun r2=>some (r2,false) else none)) ((Ed N (V.wrap (a1.n+(V.wrap (a0.n*a1.step))))).bind fun r2=>some (r2,false))))) (cond r1.2.1 (some (r1.1,false)) (cond (decide (a0.n<0)) ((AJ N 5).bind fun r2=>some (r2,false)) (cond (a1.kind==3) (cond (decide (a0.n>=(a1.list.length:Int))) ((AJ N 5).bind fun r2=>some (r2,false)) (if(0:Int)<=a0.n/\a0.n<a1.list.length then(Ba N (a1.list.getD a0.n.toNat Dv)).bind fun r2=>some (r2,false) else none)) ((Ed N (V.wrap (a1.n+(V.wrap (a0.n*a1.step))))).bind fun r2=>some (r2,false)))))
def xAf(r:Val×Bool):CallO:=bif r.2 then BW r else Bw r
def H0(N:Nat):Nat->Int->Val->Val->Val->Val->Option (Val×Bool)
 |0,_,_,_,_,_=>none
 |n+1,x8,b2,b3,b4,b7=>cond (decide (x8<b2.n)) ((At N x8).bind fun r1=>(CF N r1 b3).bind fun r2=>cond r2.2 (if List.isEmpty r2.1.list=true then if List.isEmpty r2.1.columns=true then if List.isEmpty r2.1.rows=true then cond (r2.1.kind==6) (some ((Val.mk r2.1.kind r2.1.n r2.1.step r2.1.text [] [] []),true)) (if b7.list.length+length [(Val.mk r2.1.kind r2.1.n r2.1.step r2.1.text [] [] [])]<=Lim then none else none) else none else none else none) (cond (r2.1.kind==6) (some (r2.1,false)) (if b7.list.length+ [r2.1.re].length<=Lim then(H0 N n (V.wrap (x8+1)) b2 b3 b4 (Val.mk b7.kind b7.n b7.step b7.text (b7.list++ [r2.1.re]) b7.columns b7.rows)) else none))) (some (b7,false))
def Fp(N:Nat)(a0 a1:Val):Option (Val×Bool):=(Hc N a0 a1).bind fun r1=>cond r1.2.2 (cond r1.2.1 (some (r1.1,true)) ((C5 N a0.n 0 8).bind fun r2=>cond (!r2) ((AJ N 5).bind fun r3=>some (r3,false)) (cond (a1.kind==3) (if(0:Int)<=(if(a1.list.length:Int)<a0.n then(a1.list.length:Int) else a0.n)/\(if(a1.list.length:Int)<a0.n then(a1.list.length:Int) else a0.n)<=a1.list.length then(DJ N (List.take (toNat (if(a1.list.length:Int)<a0.n then(a1.list.length:Int) else a0.n)) a1.list)).bind fun r3=>some (r3,false) else none) (none)))) (cond r1.2.1 (some (r1.1,false)) ((C5 N a0.n 0 8).bind fun r2=>cond (!r2) ((AJ N 5).bind fun r3=>some (r3,false)) (cond (a1.kind==3) (if(0:Int)<=(if(a1.list.length:Int)<a0.n then(a1.list.length:Int) else a0.n)/\(if(a1.list.length:Int)<a0.n then(a1.list.length:Int) else a0.n)<=a1.list.length then(DJ N (List.take (toNat (if(a1.list.length:Int)<a0.n then(a1.list.length:Int) else a0.n)) a1.list)).bind fun r3=>some (r3,false) else none) (H0 N N 0 a0 a1 (Val.mk 0 0 0 [] [] [] []) (Val.mk 3 0 0 [] [] [] [])))))
def Eh(N:Nat)(a0 a1:Int):Option Val:=some (Val.mk 4 a0 a1 [] [] [] [])
def xHL(r:Val×Bool):CallO:=bif r.2 then BW r else Bw r
def Fn(N:Nat)(a0 a1:Val):Option (Val×Bool):=(Hc N a0 a1).bind fun r1=>cond r1.2.2 (cond r1.2.1 (some (r1.1,true)) (cond (decide (a0.n<0)) ((AJ N 5).bind fun r2=>some (r2,false)) (cond (a1.kind==3) (if(0:Int)<=(if(a1.list.length:Int)<a0.n then(a1.list.length:Int) else a0.n)/\(if(a1.list.length:Int)<a0.n then(a1.list.length:Int) else a0.n)<=a1.list.length then(DJ N (List.drop (toNat (if(a1.list.length:Int)<a0.n then(a1.list.length:Int) else a0.n)) a1.list)).bind fun r2=>some (r2,false) else none) ((CF N a0 a1).bind fun r2=>cond r2.2 (cond (r2.1.kind==6) (some (r2.1,true)) ((Eh N r2.1.n a1.step).bind fun r3=>some (r3,false))) (cond (r2.1.kind==6) (some (r2.1,false)) ((Eh N r2.1.n a1.step).bind fun r3=>some (r3,false))))))) (cond r1.2.1 (some (r1.1,false)) (cond (decide (a0.n<0)) ((AJ N 5).bind fun r2=>some (r2,false)) (cond (a1.kind==3) (if(0:Int)<=(if(a1.list.length:Int)<a0.n then(a1.list.length:Int) else a0.n)/\(if(a1.list.length:Int)<a0.n then(a1.list.length:Int) else a0.n)<=a1.list.length then(DJ N (List.drop (toNat (if(a1.list.length:Int)<a0.n then(a1.list.length:Int) else a0.n)) a1.list)).bind fun r2=>some (r2,false) else none) ((CF N a0 a1).bind fun r2=>cond r2.2 (cond (r2.1.kind==6) (some (r2.1,true)) ((Eh N r2.1.n a1.step).bind fun r3=>some (r3,false))) (cond (r2.1.kind==6) (some (r2.1,false)) ((Eh N r2.1.n a1.step).bind fun r3=>some (r3,false)))))))
def OW(N:Nat)(a0 a1:Str):Option (List Str):=q9 a0 a1
def Fo(N:Nat)(a0:Str)(a1:Int):Option (List Str):=(OW N a0 (List.map (fun n=>UInt8.ofNat (toNat n)) [a1])).bind fun r1=>some r1
def BD(N:Nat)(a0:Val)(a1:Str):Option Int:=(Jj N a0.columns a1).bind fun r1=>some r1
def Jm(r:Val×Bool):CallO:=bif r.2 then BW r else Bw r
def Fk(N:Nat)(k17:List Int->List Rowd->Int->Int->Val->Val->Option (Val×Bool)):Nat->List Int->List Rowd->Int->Int->List Int->Int->Int->Val->Val->Rowd->Rowd->Option (Val×Bool)
 |0,_,_,_,_,_,_,_,_,_,_,_=>none
 |n+1,x8,x56,x57,x58,x67,x68,x69,b4,b7,b13,b14=>cond (decide (x69<x68)) (ite (0<=x69/\x69<x67.length) (if(0:Int)<=(x67.getD x69.toNat Di)/\(x67.getD x69.toNat Di)<b13.cells.length then if b14.cells.length+ [(b13.cells.getD (toNat (x67.getD x69.toNat Di)) Di)].length<=Lim then(Fk N k17 n x8 x56 x57 x58 x67 x68 (V.wrap (x69+1)) b4 b7 b13 (Rowd.mk (b14.cells++ [(b13.cells.getD (toNat (x67.getD x69.toNat Di)) Di)]) b14.frm)) else none else none) none) (if b7.rows.length+ [b14].length<=Lim then(k17 x8 x56 x57 (V.wrap (x58+1)) b4 (Val.mk b7.kind b7.n b7.step b7.text b7.list b7.columns (b7.rows++ [b14]))) else none)
def Dd(N:Nat):Nat->List Int->List Rowd->Int->Int->Val->Val->Option (Val×Bool)
 |0,_,_,_,_,_,_=>none
 |n+1,x8,x56,x57,x58,b4,b7=>cond (decide (x58<x57)) (ite (0<=x58/\x58<x56.length) (if 0+length (Rowd.frm (x56.getD x58.toNat Dr))<=Lim then(Fk N (fun z0 z1 z2 z3 z4 z5=>(Dd N n z0 z1 z2 z3 z4 z5)) N x8 x56 x57 x58 x8 (x8.length:Int) 0 b4 b7 (x56.getD x58.toNat Dr) (Rowd.mk [] ([]++(Rowd.frm (x56.getD x58.toNat Dr))))) else none) none) (some (b7,false))
def Df(N:Nat):Nat->List Int->List Str->Int->Int->Val->Val->Val->Option (Val×Bool)
 |0,_,_,_,_,_,_,_=>none
 |n+1,x8,x33,x34,x35,b3,b4,b7=>cond (decide (x35<x34)) (ite (0<=x35/\x35<x33.length) ((BD N b3 (x33.getD x35.toNat Ds)).bind fun r1=>cond (decide (r1<0)) ((AJ N 7).bind fun r2=>some (r2,false)) (if x8.length+ [r1].length<=Lim then(Df N n (x8++ [r1]) x33 x34 (V.wrap (x35+1)) b3 b4 b7) else none)) none) ((HN N b7.columns).bind fun r1=>cond (!r1) ((AJ N 7).bind fun r2=>some (r2,false)) (Dd N N x8 b3.rows (b3.rows.length:Int) 0 b4 b7))
def Jl(N:Nat)(a0 a1:Val):Option (Val×Bool):=(CS N [2,5] [a0.re,a1.re]).bind fun r1=>cond r1.2.2 (if List.isEmpty r1.1.list=true then if List.isEmpty r1.1.columns=true then if List.isEmpty r1.1.rows=true then cond r1.2.1 (some ((Val.mk r1.1.kind r1.1.n r1.1.step r1.1.text [] [] []),true)) ((Fo N a0.text 32).bind fun r2=>(Df N N [] r2 (r2.length:Int) 0 a1 (Val.mk 0 0 0 [] [] [] []) (Val.mk 5 0 0 [] [] r2 []))) else none else none else none) (cond r1.2.1 (some (r1.1,false)) ((Fo N a0.text 32).bind fun r2=>(Df N N [] r2 (r2.length:Int) 0 a1 (Val.mk 0 0 0 [] [] [] []) (Val.mk 5 0 0 [] [] r2 []))))
def Uh(r:Val×Bool):CallO:=bif r.2 then BW r else Bw r
def Ee(N:Nat):Nat->Int->List Rowd->Int->Int->Val->Val->Option (Val×Bool)
 |0,_,_,_,_,_,_=>none
 |n+1,x7,x35,x36,x37,b4,b8=>cond (decide (x37<x36)) (ite (0<=x37/\x37<x35.length) (if(0:Int)<=x7/\x7<(length (Rowd.cells (x35.getD x37.toNat Dr))) then(At N (List.getD (Rowd.cells (x35.getD x37.toNat Dr)) x7.toNat Di)).bind fun r1=>if b8.list.length+ [r1.re].length<=Lim then(Ee N n x7 x35 x36 (V.wrap (x37+1)) b4 (Val.mk b8.kind b8.n b8.step b8.text (b8.list++ [r1.re]) b8.columns b8.rows)) else none else none) none) (some (b8,false))
def HQ(N:Nat)(a0 a1:Val):Option (Val×Bool):=(CS N [2,5] [a0.re,a1.re]).bind fun r1=>cond r1.2.2 (if List.isEmpty r1.1.list=true then if List.isEmpty r1.1.columns=true then if List.isEmpty r1.1.rows=true then cond r1.2.1 (some ((Val.mk r1.1.kind r1.1.n r1.1.step r1.1.text [] [] []),true)) ((BD N a1 a0.text).bind fun r2=>cond (decide (r2<0)) ((AJ N 7).bind fun r3=>some (r3,false)) (cond (decide ((a1.rows.length:Int)>8)) ((AJ N 6).bind fun r3=>some (r3,false)) (Ee N N r2 a1.rows (a1.rows.length:Int) 0 (Val.mk 0 0 0 [] [] [] []) (Val.mk 3 0 0 [] [] [] [])))) else none else none else none) (cond r1.2.1 (some (r1.1,false)) ((BD N a1 a0.text).bind fun r2=>cond (decide (r2<0)) ((AJ N 7).bind fun r3=>some (r3,false)) (cond (decide ((a1.rows.length:Int)>8)) ((AJ N 6).bind fun r3=>some (r3,false)) (Ee N N r2 a1.rows (a1.rows.length:Int) 0 (Val.mk 0 0 0 [] [] [] []) (Val.mk 3 0 0 [] [] [] [])))))
def MG(r:Val×Bool):CallO:=bif r.2 then BW r else Bw r
def Ei(N:Nat)(k8:List Val->Int->Int->Val->Val->Option (Val×Bool)):Nat->List Val->Int->Int->List Val->Int->Int->Val->Val->Rowd->Option (Val×Bool)
 |0,_,_,_,_,_,_,_,_,_=>none
 |n+1,x33,x34,x35,x54,x55,x56,b4,b7,b10=>cond (decide (x56<x55)) (ite (0<=x56/\x56<x54.length) (cond (((Val.kind (x54.getD x56.toNat Dv)):Int) != 1) ((AJ N 4).bind fun r1=>some (r1,false)) (if b10.cells.length+ [(Val.n (x54.getD x56.toNat Dv))].length<=Lim then(Ei N k8 n x33 x34 x35 x54 x55 (V.wrap (x56+1)) b4 b7 (Rowd.mk (b10.cells++ [(Val.n (x54.getD x56.toNat Dv))]) b10.frm)) else none)) none) (if b7.rows.length+ [b10].length<=Lim then(k8 x33 x34 (V.wrap (x35+1)) b4 (Val.mk b7.kind b7.n b7.step b7.text b7.list b7.columns (b7.rows++ [b10]))) else none)
def C3(N:Nat):Nat->List Val->Int->Int->Val->Val->Option (Val×Bool)
 |0,_,_,_,_,_=>none
 |n+1,x33,x34,x35,b4,b7=>cond (decide (x35<x34)) (ite (0<=x35/\x35<x33.length) (cond (((Val.kind (x33.getD x35.toNat Dv)):Int) != 3) ((AJ N 4).bind fun r1=>some (r1,false)) (cond ((length (Val.list (x33.getD x35.toNat Dv)):Int) != (b7.columns.length:Int)) ((AJ N 4).bind fun r1=>some (r1,false)) (Ei N (fun z0 z1 z2 z3 z4=>(C3 N n z0 z1 z2 z3 z4)) N x33 x34 x35 (Val.list (x33.getD x35.toNat Dv)) (length (Val.list (x33.getD x35.toNat Dv)):Int) 0 b4 b7 (Rowd.mk [] [])))) none) (some (b7,false))
def Jp(N:Nat)(a0 a1:Val):Option (Val×Bool):=(CS N [2,3] [a0.re,a1.re]).bind fun r1=>cond r1.2.2 (if List.isEmpty r1.1.list=true then if List.isEmpty r1.1.columns=true then if List.isEmpty r1.1.rows=true then cond r1.2.1 (some ((Val.mk r1.1.kind r1.1.n r1.1.step r1.1.text [] [] []),true)) ((Fo N a0.text 32).bind fun r2=>(Jt N r2).bind fun r3=>cond (!r3) ((AJ N 7).bind fun r4=>some (r4,false)) (C3 N N a1.list (a1.list.length:Int) 0 (Val.mk 0 0 0 [] [] [] []) (Val.mk 5 0 0 [] [] r2 []))) else none else none else none) (cond r1.2.1 (some (r1.1,false)) ((Fo N a0.text 32).bind fun r2=>(Jt N r2).bind fun r3=>cond (!r3) ((AJ N 7).bind fun r4=>some (r4,false)) (C3 N N a1.list (a1.list.length:Int) 0 (Val.mk 0 0 0 [] [] [] []) (Val.mk 5 0 0 [] [] r2 []))))
def xAh(r:Val×Bool):CallO:=bif r.2 then BW r else Bw r
def DM(N:Nat):Nat->Int->List Rowd->Int->Int->Val->Val->Val->Option (Val×Bool)
 |0,_,_,_,_,_,_,_=>none
 |n+1,x9,x37,x38,x39,b4,b6,b10=>cond (decide (x39<x38)) (ite (0<=x39/\x39<x37.length) (if(0:Int)<=x9/\x9<(length (Rowd.cells (x37.getD x39.toNat Dr))) then cond (((List.getD (Rowd.cells (x37.getD x39.toNat Dr)) x9.toNat Di):Int)==b4.n) ((MI N (x37.getD x39.toNat Dr)).bind fun r1=>if b10.rows.length+ [r1].length<=Lim then(DM N n x9 x37 x38 (V.wrap (x39+1)) b4 b6 (Val.mk b10.kind b10.n b10.step b10.text b10.list b10.columns (b10.rows++ [r1]))) else none) (DM N n x9 x37 x38 (V.wrap (x39+1)) b4 b6 b10) else none) none) (some (b10,false))
def H1(N:Nat)(a0 a1 a2:Val):Option (Val×Bool):=(CS N [2,1,5] [a0.re,a1.re,a2.re]).bind fun r1=>cond r1.2.2 (if List.isEmpty r1.1.list=true then if List.isEmpty r1.1.columns=true then if List.isEmpty r1.1.rows=true then cond r1.2.1 (some ((Val.mk r1.1.kind r1.1.n r1.1.step r1.1.text [] [] []),true)) ((BD N a2 a0.text).bind fun r2=>cond (decide (r2<0)) ((AJ N 7).bind fun r3=>some (r3,false)) (if 0+a2.columns.length<=Lim then(DM N N r2 a2.rows (a2.rows.length:Int) 0 a1 (Val.mk 0 0 0 [] [] [] []) (Val.mk 5 0 0 [] [] ([]++a2.columns) [])) else none)) else none else none else none) (cond r1.2.1 (some (r1.1,false)) ((BD N a2 a0.text).bind fun r2=>cond (decide (r2<0)) ((AJ N 7).bind fun r3=>some (r3,false)) (if 0+a2.columns.length<=Lim then(DM N N r2 a2.rows (a2.rows.length:Int) 0 a1 (Val.mk 0 0 0 [] [] [] []) (Val.mk 5 0 0 [] [] ([]++a2.columns) [])) else none)))
def MH(N:Nat)(a0 a1:List Org):Option (List Org):=AH a0 a1
def PI(r:Val×Bool):CallO:=bif r.2 then BW r else Bw r
def Lr(N:Nat)(x9 x10:Int)(b3 b4 b5 b6:Val):Option (Val×Bool):=zX x9 x10 b3 b4 b5
def Eg(N:Nat)(a0 a1 a2:Val):Option (Val×Bool):=(CS N [2,2,5] [a0.re,a1.re,a2.re]).bind fun r1=>cond r1.2.2 (if List.isEmpty r1.1.list=true then if List.isEmpty r1.1.columns=true then if List.isEmpty r1.1.rows=true then cond r1.2.1 (some ((Val.mk r1.1.kind r1.1.n r1.1.step r1.1.text [] [] []),true)) ((BD N a2 a0.text).bind fun r2=>(BD N a2 a1.text).bind fun r3=>cond (decide (r2<0)) ((AJ N 7).bind fun r4=>some (r4,false)) (cond (decide (r3<0)) ((AJ N 7).bind fun r4=>some (r4,false)) (cond (a0.text==a1.text) ((AJ N 7).bind fun r4=>some (r4,false)) (Lr N r2 r3 a0 a1 a2 (Val.mk 0 0 0 [] [] [] []))))) else none else none else none) (cond r1.2.1 (some (r1.1,false)) ((BD N a2 a0.text).bind fun r2=>(BD N a2 a1.text).bind fun r3=>cond (decide (r2<0)) ((AJ N 7).bind fun r4=>some (r4,false)) (cond (decide (r3<0)) ((AJ N 7).bind fun r4=>some (r4,false)) (cond (a0.text==a1.text) ((AJ N 7).bind fun r4=>some (r4,false)) (Lr N r2 r3 a0 a1 a2 (Val.mk 0 0 0 [] [] [] []))))))
def Ej(N:Nat):Nat->List Str->List Str->List Str->Int->Int->Option (List Str)
 |0,_,_,_,_,_=>none
 |n+1,x1,x5,x9,x10,x11=>cond (decide (x11<x10)) (ite (0<=x11/\x11<x9.length) ((Jj N x1 (x9.getD x11.toNat Ds)).bind fun r1=>cond (decide (r1<0)) (if x5.length+ [(x9.getD x11.toNat Ds)].length<=Lim then(Ej N n x1 (x5++ [(x9.getD x11.toNat Ds)]) x9 x10 (V.wrap (x11+1))) else none) (Ej N n x1 x5 x9 x10 (V.wrap (x11+1)))) none) (some x5)
def Js(N:Nat)(a0 a1:List Str):Option (List Str):=Ej N N a1 [] a0 (a0.length:Int) 0
def Ly(r:Val×Bool):CallO:=bif r.2 then BW r else Bw r
def Fj(N:Nat)(k13:Int->Int->List Rowd->Int->Int->Val->Val->Val->Option (Val×Bool)):Nat->Int->Int->List Rowd->Int->Int->List Rowd->Int->Int->Val->Val->Val->Rowd->Option (Val×Bool)
 |0,_,_,_,_,_,_,_,_,_,_,_,_=>none
 |n+1,x9,x10,x69,x70,x71,x76,x77,x78,b5,b6,b12,b14=>cond (decide (x78<x77)) (ite (0<=x78/\x78<x76.length) (ite (0<=x9/\x9<b14.cells.length) (if(0:Int)<=x10/\x10<(length (Rowd.cells (x76.getD x78.toNat Dr))) then cond ((b14.cells.getD x9.toNat Di) != (List.getD (Rowd.cells (x76.getD x78.toNat Dr)) x10.toNat Di)) (Fj N k13 n x9 x10 x69 x70 x71 x76 x77 (V.wrap (x78+1)) b5 b6 b12 b14) (if 0+b14.cells.length<=Lim then if(0:Int)<=x10/\x10<=(length (Rowd.cells (x76.getD x78.toNat Dr))) then if length ([]++b14.cells)+length (List.take x10.toNat (Rowd.cells (x76.getD x78.toNat Dr)))<=Lim then if(0:Int)<=(V.wrap (x10+1))/\(V.wrap (x10+1))<=(length (Rowd.cells (x76.getD x78.toNat Dr))) then if length (([]++b14.cells)++(List.take x10.toNat (Rowd.cells (x76.getD x78.toNat Dr))))+length (List.drop (toNat (V.wrap (x10+1))) (Rowd.cells (x76.getD x78.toNat Dr)))<=Lim then(MH N b14.frm (Rowd.frm (x76.getD x78.toNat Dr))).bind fun r1=>if b12.rows.length+length [(Rowd.mk ((([]++b14.cells)++(List.take x10.toNat (Rowd.cells (x76.getD x78.toNat Dr))))++(List.drop (toNat (V.wrap (x10+1))) (Rowd.cells (x76.getD x78.toNat Dr)))) r1)]<=Lim then(Fj N k13 n x9 x10 x69 x70 x71 x76 x77 (V.wrap (x78+1)) b5 b6 (Val.mk b12.kind b12.n b12.step b12.text b12.list b12.columns (b12.rows++ [(Rowd.mk ((([]++b14.cells)++(List.take x10.toNat (Rowd.cells (x76.getD x78.toNat Dr))))++(List.drop (toNat (V.wrap (x10+1))) (Rowd.cells (x76.getD x78.toNat Dr)))) r1)])) b14) else none else none else none else none else none else none) else none) none) none) (k13 x9 x10 x69 x70 (V.wrap (x71+1)) b5 b6 b12)
def Dc(N:Nat):Nat->Int->Int->List Rowd->Int->Int->Val->Val->Val->Option (Val×Bool)
 |0,_,_,_,_,_,_,_,_=>none
 |n+1,x9,x10,x69,x70,x71,b5,b6,b12=>cond (decide (x71<x70)) (ite (0<=x71/\x71<x69.length) (Fj N (fun z0 z1 z2 z3 z4 z5 z6 z7=>(Dc N n z0 z1 z2 z3 z4 z5 z6 z7)) N x9 x10 x69 x70 x71 b5.rows (b5.rows.length:Int) 0 b5 b6 b12 (x69.getD x71.toNat Dr)) none) (cond (decide ((b12.rows.length:Int)>12)) ((AJ N 6).bind fun r1=>some (r1,false)) (some (b12,false)))
def Fi(N:Nat)(a0 a1 a2:Val):Option (Val×Bool):=(CS N [2,5,5] [a0.re,a1.re,a2.re]).bind fun r1=>cond r1.2.2 (if List.isEmpty r1.1.list=true then if List.isEmpty r1.1.columns=true then if List.isEmpty r1.1.rows=true then cond r1.2.1 (some ((Val.mk r1.1.kind r1.1.n r1.1.step r1.1.text [] [] []),true)) ((BD N a1 a0.text).bind fun r2=>(BD N a2 a0.text).bind fun r3=>(Js N a2.columns [a0.text]).bind fun r4=>if 0+a1.columns.length<=Lim then if length ([]++a1.columns)+r4.length<=Lim then cond (decide (r2<0)) ((AJ N 7).bind fun r5=>some (r5,false)) (cond (decide (r3<0)) ((AJ N 7).bind fun r5=>some (r5,false)) ((HN N (([]++a1.columns)++r4)).bind fun r5=>cond (!r5) ((AJ N 7).bind fun r6=>some (r6,false)) (cond (decide ((length (([]++a1.columns)++r4):Int)>4)) ((AJ N 6).bind fun r6=>some (r6,false)) (Dc N N r2 r3 a1.rows (a1.rows.length:Int) 0 a2 (Val.mk 0 0 0 [] [] [] []) (Val.mk 5 0 0 [] [] (([]++a1.columns)++r4) []))))) else none else none) else none else none else none) (cond r1.2.1 (some (r1.1,false)) ((BD N a1 a0.text).bind fun r2=>(BD N a2 a0.text).bind fun r3=>(Js N a2.columns [a0.text]).bind fun r4=>if 0+a1.columns.length<=Lim then if length ([]++a1.columns)+r4.length<=Lim then cond (decide (r2<0)) ((AJ N 7).bind fun r5=>some (r5,false)) (cond (decide (r3<0)) ((AJ N 7).bind fun r5=>some (r5,false)) ((HN N (([]++a1.columns)++r4)).bind fun r5=>cond (!r5) ((AJ N 7).bind fun r6=>some (r6,false)) (cond (decide ((length (([]++a1.columns)++r4):Int)>4)) ((AJ N 6).bind fun r6=>some (r6,false)) (Dc N N r2 r3 a1.rows (a1.rows.length:Int) 0 a2 (Val.mk 0 0 0 [] [] [] []) (Val.mk 5 0 0 [] [] (([]++a1.columns)++r4) []))))) else none else none))
def Uc(r:Val×Bool):CallO:=bif r.2 then BW r else Bw r
def D8(N:Nat):Nat->Int->Int->List Rowd->Int->Int->Val->Val->Option (Val×Bool)
 |0,_,_,_,_,_,_,_=>none
 |n+1,x11,x12,x72,x73,x74,b8,b13=>cond (decide (x74<x73)) (ite (0<=x74/\x74<x72.length) (if(0:Int)<=x11/\x11<(length (Rowd.cells (x72.getD x74.toNat Dr))) then if(0:Int)<=x12/\x12<(length (Rowd.cells (x72.getD x74.toNat Dr))) then(CR N (V.wrap ((List.getD (Rowd.cells (x72.getD x74.toNat Dr)) x11.toNat Di)+(List.getD (Rowd.cells (x72.getD x74.toNat Dr)) x12.toNat Di)))).bind fun r1=>cond (!r1) ((AJ N 5).bind fun r2=>some (r2,false)) (ite (0<=x74/\x74<b13.rows.length) (if length (Rowd.cells (b13.rows.getD x74.toNat Dr))+ [(V.wrap ((List.getD (Rowd.cells (x72.getD x74.toNat Dr)) x11.toNat Di)+(List.getD (Rowd.cells (x72.getD x74.toNat Dr)) x12.toNat Di)))].length<=Lim then(D8 N n x11 x12 x72 x73 (V.wrap (x74+1)) b8 (Val.mk b13.kind b13.n b13.step b13.text b13.list b13.columns (b13.rows.set x74.toNat (Rowd.mk ((Rowd.cells (b13.rows.getD x74.toNat Dr))++ [(V.wrap ((List.getD (Rowd.cells (x72.getD x74.toNat Dr)) x11.toNat Di)+(List.getD (Rowd.cells (x72.getD x74.toNat Dr)) x12.toNat Di)))]) (Rowd.frm (b13.rows.getD x74.toNat Dr)))))) else none) none) else none else none) none) (some (b13,false))
def DF(N:Nat)(a0 a1 a2 a3:Val):Option (Val×Bool):=(CS N [2,2,2,5] [a0.re,a1.re,a2.re,a3.re]).bind fun r1=>cond r1.2.2 (if List.isEmpty r1.1.list=true then if List.isEmpty r1.1.columns=true then if List.isEmpty r1.1.rows=true then cond r1.2.1 (some ((Val.mk r1.1.kind r1.1.n r1.1.step r1.1.text [] [] []),true)) ((BD N a3 a1.text).bind fun r2=>(BD N a3 a2.text).bind fun r3=>(Da N a0.text).bind fun r4=>cond (!r4) ((AJ N 7).bind fun r5=>some (r5,false)) ((BD N a3 a0.text).bind fun r5=>cond (decide (r5>=0)) ((AJ N 7).bind fun r6=>some (r6,false)) (cond (decide (r2<0)) ((AJ N 7).bind fun r6=>some (r6,false)) (cond (decide (r3<0)) ((AJ N 7).bind fun r6=>some (r6,false)) (cond (decide ((a3.columns.length:Int)>=4)) ((AJ N 6).bind fun r6=>some (r6,false)) ((Ba N a3).bind fun r6=>if r6.columns.length+ [a0.text].length<=Lim then(D8 N N r2 r3 a3.rows (a3.rows.length:Int) 0 (Val.mk 0 0 0 [] [] [] []) (Val.mk r6.kind r6.n r6.step r6.text r6.list (r6.columns++ [a0.text]) r6.rows)) else none)))))) else none else none else none) (cond r1.2.1 (some (r1.1,false)) ((BD N a3 a1.text).bind fun r2=>(BD N a3 a2.text).bind fun r3=>(Da N a0.text).bind fun r4=>cond (!r4) ((AJ N 7).bind fun r5=>some (r5,false)) ((BD N a3 a0.text).bind fun r5=>cond (decide (r5>=0)) ((AJ N 7).bind fun r6=>some (r6,false)) (cond (decide (r2<0)) ((AJ N 7).bind fun r6=>some (r6,false)) (cond (decide (r3<0)) ((AJ N 7).bind fun r6=>some (r6,false)) (cond (decide ((a3.columns.length:Int)>=4)) ((AJ N 6).bind fun r6=>some (r6,false)) ((Ba N a3).bind fun r6=>if r6.columns.length+ [a0.text].length<=Lim then(D8 N N r2 r3 a3.rows (a3.rows.length:Int) 0 (Val.mk 0 0 0 [] [] [] []) (Val.mk r6.kind r6.n r6.step r6.text r6.list (r6.columns++ [a0.text]) r6.rows)) else none)))))))
def xHd(r:Val×Bool):CallO:=bif r.2 then BW r else Bw r
def DI(N:Nat)(a0:Str)(a1:List Val):Option (Val×Bool):=(Dh N a0).bind fun r1=>cond r1 ((AJ N 4).bind fun r2=>some (r2,false)) ((Fd N a0).bind fun r2=>cond ((a1.length:Int) != r2) ((AJ N 4).bind fun r3=>some (r3,false)) (cond (a0== [108,101,110]) (if(0:Int)<=0/\(0:Int)<a1.length then(Lz N (a1.getD (toNat 0) Dv)).bind fun r3=>cond r3.2 (some (r3.1,true)) (some (r3.1,false)) else none) (cond (a0== [115,117,109]) (if(0:Int)<=0/\(0:Int)<a1.length then(MF N (a1.getD (toNat 0) Dv)).bind fun r3=>cond r3.2 (some (r3.1,true)) (some (r3.1,false)) else none) (cond (a0== [114,111,119,115]) (if(0:Int)<=0/\(0:Int)<a1.length then(Lp N (a1.getD (toNat 0) Dv)).bind fun r3=>cond r3.2 (some (r3.1,true)) (some (r3.1,false)) else none) (cond (a0== [116,97,107,101]) (if(0:Int)<=0/\(0:Int)<a1.length then if(0:Int)<=1/\(1:Int)<a1.length then(Fp N (a1.getD (toNat 0) Dv) (a1.getD (toNat 1) Dv)).bind fun r3=>cond r3.2 (some (r3.1,true)) (some (r3.1,false)) else none else none) (cond (a0== [115,107,105,112]) (if(0:Int)<=0/\(0:Int)<a1.length then if(0:Int)<=1/\(1:Int)<a1.length then(Fn N (a1.getD (toNat 0) Dv) (a1.getD (toNat 1) Dv)).bind fun r3=>cond r3.2 (some (r3.1,true)) (some (r3.1,false)) else none else none) (cond (a0== [110,116,104]) (if(0:Int)<=0/\(0:Int)<a1.length then if(0:Int)<=1/\(1:Int)<a1.length then(CF N (a1.getD (toNat 0) Dv) (a1.getD (toNat 1) Dv)).bind fun r3=>cond r3.2 (some (r3.1,true)) (some (r3.1,false)) else none else none) (cond (a0== [107,101,101,112]) (if(0:Int)<=0/\(0:Int)<a1.length then if(0:Int)<=1/\(1:Int)<a1.length then(Jl N (a1.getD (toNat 0) Dv) (a1.getD (toNat 1) Dv)).bind fun r3=>cond r3.2 (some (r3.1,true)) (some (r3.1,false)) else none else none) (cond (a0== [99,111,108,117,109,110]) (if(0:Int)<=0/\(0:Int)<a1.length then if(0:Int)<=1/\(1:Int)<a1.length then(HQ N (a1.getD (toNat 0) Dv) (a1.getD (toNat 1) Dv)).bind fun r3=>cond r3.2 (some (r3.1,true)) (some (r3.1,false)) else none else none) (cond (a0== [116,97,98,108,101]) (if(0:Int)<=0/\(0:Int)<a1.length then if(0:Int)<=1/\(1:Int)<a1.length then(Jp N (a1.getD (toNat 0) Dv) (a1.getD (toNat 1) Dv)).bind fun r3=>cond r3.2 (some (r3.1,true)) (some (r3.1,false)) else none else none) (cond (a0== [119,104,101,114,101]) (if(0:Int)<=0/\(0:Int)<a1.length then if(0:Int)<=1/\(1:Int)<a1.length then if(0:Int)<=2/\(2:Int)<a1.length then(H1 N (a1.getD (toNat 0) Dv) (a1.getD (toNat 1) Dv) (a1.getD (toNat 2) Dv)).bind fun r3=>cond r3.2 (some (r3.1,true)) (some (r3.1,false)) else none else none else none) (cond (a0== [103,114,111,117,112]) (if(0:Int)<=0/\(0:Int)<a1.length then if(0:Int)<=1/\(1:Int)<a1.length then if(0:Int)<=2/\(2:Int)<a1.length then(Eg N (a1.getD (toNat 0) Dv) (a1.getD (toNat 1) Dv) (a1.getD (toNat 2) Dv)).bind fun r3=>cond r3.2 (some (r3.1,true)) (some (r3.1,false)) else none else none else none) (cond (a0== [106,111,105,110]) (if(0:Int)<=0/\(0:Int)<a1.length then if(0:Int)<=1/\(1:Int)<a1.length then if(0:Int)<=2/\(2:Int)<a1.length then(Fi N (a1.getD (toNat 0) Dv) (a1.getD (toNat 1) Dv) (a1.getD (toNat 2) Dv)).bind fun r3=>cond r3.2 (some (r3.1,true)) (some (r3.1,false)) else none else none else none) (cond (a0== [97,100,100]) (if(0:Int)<=0/\(0:Int)<a1.length then if(0:Int)<=1/\(1:Int)<a1.length then if(0:Int)<=2/\(2:Int)<a1.length then if(0:Int)<=3/\(3:Int)<a1.length then(DF N (a1.getD (toNat 0) Dv) (a1.getD (toNat 1) Dv) (a1.getD (toNat 2) Dv) (a1.getD (toNat 3) Dv)).bind fun r3=>cond r3.2 (some (r3.1,true)) (some (r3.1,false)) else none else none else none else none) ((CS N [1,1] a1).bind fun r3=>cond r3.2.2 (if List.isEmpty r3.1.list=true then if List.isEmpty r3.1.columns=true then if List.isEmpty r3.1.rows=true then cond r3.2.1 (some ((Val.mk r3.1.kind r3.1.n r3.1.step r3.1.text [] [] []),true)) (if(0:Int)<=0/\(0:Int)<a1.length then if(0:Int)<=1/\(1:Int)<a1.length then(Eh N (Val.n (a1.getD (toNat 0) Dv)) (Val.n (a1.getD (toNat 1) Dv))).bind fun r4=>some (r4,false) else none else none) else none else none else none) (cond r3.2.1 (some (r3.1,false)) (if(0:Int)<=0/\(0:Int)<a1.length then if(0:Int)<=1/\(1:Int)<a1.length then(Eh N (Val.n (a1.getD (toNat 0) Dv)) (Val.n (a1.getD (toNat 1) Dv))).bind fun r4=>some (r4,false) else none else none)))))))))))))))))
def MQ(N:Nat)(a0 a1:Rea):Option Bool:=cond (a0.kind==a1.kind) (cond (a0.n==a1.n) (cond (a0.text==a1.text) (some (a0.time==a1.time)) (some false)) (some false)) (some false)
def Fh(N:Nat):Nat->List Rea->Int->Int->Rea->Val->Option (Val×Bool)
 |0,_,_,_,_,_=>none
 |n+1,x8,x9,x10,b3,b4=>cond (decide (x10<x9)) (ite (0<=x10/\x10<x8.length) ((MQ N (x8.getD x10.toNat De) b3).bind fun r1=>cond r1 ((Ba N (Rea.result (x8.getD x10.toNat De))).bind fun r2=>some (r2,true)) (Fh N n x8 x9 (V.wrap (x10+1)) b3 b4)) none) (some ((Val.mk 0 0 0 [] [] [] []),false))
def PH(N:Nat)(a0:List Rea)(a1:Rea):Option (Val×Bool):=Fh N N a0 (a0.length:Int) 0 a1 (Val.mk 0 0 0 [] [] [] [])
def MB(N:Nat)(a0 a1 a2 a3:Int):Option Int:=cond (decide (((Int.tmod (V.wrap ((V.wrap ((V.wrap ((V.wrap (48271*a0))+(V.wrap (7919*a1))))+(V.wrap (104729*a2))))+(V.wrap (1299709*a3)))) 2147483647):Int)<0)) (some (Int.tmod (V.wrap (16807*(V.wrap ((Int.tmod (V.wrap ((V.wrap ((V.wrap ((V.wrap (48271*a0))+(V.wrap (7919*a1))))+(V.wrap (104729*a2))))+(V.wrap (1299709*a3)))) 2147483647)+2147483647)))) 2147483647)) (some (Int.tmod (V.wrap (16807*(Int.tmod (V.wrap ((V.wrap ((V.wrap ((V.wrap (48271*a0))+(V.wrap (7919*a1))))+(V.wrap (104729*a2))))+(V.wrap (1299709*a3)))) 2147483647))) 2147483647))
def Fg(N:Nat):Nat->Str->List Fil->Int->Int->Option (Int×Bool)
 |0,_,_,_,_=>none
 |n+1,x1,x9,x10,x11=>cond (decide (x11<x10)) (ite (0<=x11/\x11<x9.length) (cond (((Fil.name (x9.getD x11.toNat Ty.fil.dflt)):Str)==x1) (some ((Fil.n (x9.getD x11.toNat Ty.fil.dflt)),true)) (Fg N n x1 x9 x10 (V.wrap (x11+1)))) none) (some (0,false))
def PG(N:Nat)(a0:Wld)(a1:Str):Option (Int×Bool):=Fg N N a1 a0.files (a0.files.length:Int) 0
def Ff(N:Nat)(a0:Wld)(a1 a2:Int)(a3:Rea):Option Val:=cond (a3.kind==1) ((CR N a0.clock).bind fun r1=>cond (!r1) ((AJ N 4).bind fun r2=>some r2) ((At N a0.clock).bind fun r2=>some r2)) (cond (a3.kind==2) ((C5 N a3.n 1 1000000000).bind fun r1=>cond (!r1) ((AJ N 5).bind fun r2=>some r2) ((MB N a0.seed a1 a2 a3.time).bind fun r2=>if a3.n≠(0:Int) then(CR N (Int.tmod r2 a3.n)).bind fun r3=>cond (!r3) ((AJ N 4).bind fun r4=>some r4) ((At N (Int.tmod r2 a3.n)).bind fun r4=>some r4) else none)) (cond (a3.kind==3) ((PG N a0 a3.text).bind fun r1=>cond (!r1.2) ((AJ N 1).bind fun r2=>some r2) ((CR N r1.1).bind fun r2=>cond (!r2) ((AJ N 4).bind fun r3=>some r3) ((At N r1.1).bind fun r3=>some r3))) ((AJ N 4).bind fun r1=>some r1)))
def DP(r:Val×Mch):CallO:=⟨(vV .ro r.1),[(Mc .own r.2)],[]⟩
def Dn(N:Nat):Nat->List Rea->Int->Int->Mch->Rea->Val->Option (Val×Mch)
 |0,_,_,_,_,_,_=>none
 |n+1,x12,x13,x14,b0,b3,b4=>cond (decide (x14<x13)) (ite (0<=x14/\x14<x12.length) (cond (((Rea.kind (x12.getD x14.toNat De)):Int)==b3.kind) (cond (((Rea.n (x12.getD x14.toNat De)):Int)==b3.n) (cond (((Rea.text (x12.getD x14.toNat De)):Str)==b3.text) (Dn N n x12 x13 (V.wrap (x14+1)) b0 (Rea.mk b3.kind b3.n (V.wrap (b3.time+1)) b3.text b3.result) b4) (Dn N n x12 x13 (V.wrap (x14+1)) b0 b3 b4)) (Dn N n x12 x13 (V.wrap (x14+1)) b0 b3 b4)) (Dn N n x12 x13 (V.wrap (x14+1)) b0 b3 b4)) none) ((PH N b0.tape b3).bind fun r1=>cond (!r1.2) ((Ff N b0.w b0.cell b0.version b3).bind fun r2=>(Ba N r2).bind fun r3=>if b0.reads.length+ [(Rea.mk b3.kind b3.n b3.time b3.text r3.re)].length<=Lim then some (r2,(Mch.mk b0.tape b0.w b0.cell b0.version (b0.reads++ [(Rea.mk b3.kind b3.n b3.time b3.text r3.re)]) b0.steps b0.over)) else none) ((Ba N r1.1).bind fun r2=>if b0.reads.length+ [(Rea.mk b3.kind b3.n b3.time b3.text r2.re)].length<=Lim then some (r1.1,(Mch.mk b0.tape b0.w b0.cell b0.version (b0.reads++ [(Rea.mk b3.kind b3.n b3.time b3.text r2.re)]) b0.steps b0.over)) else none))
def Cj(N:Nat)(a0:Mch)(a1:Rea):Option (Val×Mch):=Dn N N a0.reads (a0.reads.length:Int) 0 a0 a1 (Val.mk 0 0 0 [] [] [] [])
def PW(r:(List Val)×Mch):CallO:=⟨(vS .tip .val r.1),[(Mc .own r.2)],[]⟩
def H7(N:Nat)(q0:Mch->List Exp->List Bnd->Option ((List Val)×Mch))(q1 q2 q3:Mch->Exp->List Bnd->Option (Val×Mch)):Nat->List Bnd->List Val->List Exp->Int->Int->Mch->Option ((List Val)×Mch)
 |0,_,_,_,_,_,_=>none
 |n+1,x2,x7,x11,x12,x13,b0=>cond (decide (x13<x12)) (ite (0<=x13/\x13<x11.length) ((q2 b0 (x11.getD x13.toNat Dx) x2).bind fun r1=>if x7.length+ [r1.1.re].length<=Lim then(H7 N q0 q1 q2 q3 n x2 (x7++ [r1.1.re]) x11 x12 (V.wrap (x13+1)) r1.2) else none) none) (some (x7,b0))
def xAu(N:Nat)(q0:Mch->List Exp->List Bnd->Option ((List Val)×Mch))(q1 q2 q3:Mch->Exp->List Bnd->Option (Val×Mch))(a0:Mch)(a1:List Exp)(a2:List Bnd):Option ((List Val)×Mch):=H7 N q0 q1 q2 q3 N a2 [] a1 (a1.length:Int) 0 a0
def Fv(a0:Mch)(a1:Exp)(a2:List Bnd):List Arg:=[.box (Mc .own a0),.val (.v true (Ex .ro a1)),.val (vS .ro .bnd a2)]
def MN(N:Nat)(q0:Mch->List Exp->List Bnd->Option ((List Val)×Mch))(q1 q2 q3:Mch->Exp->List Bnd->Option (Val×Mch))(a0:Mch)(a1:Exp)(a2:List Bnd):Option (Val×Mch):=(q0 a0 a1.args a2).bind fun r1=>cond r1.2.over (some ((Val.mk 0 0 0 [] [] [] []),r1.2)) ((Dh N a1.text).bind fun r2=>cond (!r2) ((DI N a1.text r1.1).bind fun r3=>cond r3.2 (some (r3.1,r1.2)) (some (r3.1,r1.2))) (cond (decide ((r1.1.length:Int)>0)) (if(0:Int)<=0/\(0:Int)<r1.1.length then cond (((Val.kind (r1.1.getD (toNat 0) Dv)):Int)==6) (some ((r1.1.getD (toNat 0) Dv),r1.2)) (cond (a1.text== [99,108,111,99,107]) ((Cj N r1.2 (Rea.mk 1 0 0 [] (Val.mk 0 0 0 [] [] [] []))).bind fun r3=>some (r3.1,r3.2)) (cond (a1.text== [99,104,97,110,99,101]) (cond (((Val.kind (r1.1.getD (toNat 0) Dv)):Int)==1) ((Cj N r1.2 (Rea.mk 2 (Val.n (r1.1.getD (toNat 0) Dv)) 0 [] (Val.mk 0 0 0 [] [] [] []))).bind fun r3=>some (r3.1,r3.2)) (cond (a1.text== [102,105,108,101]) (cond (((Val.kind (r1.1.getD (toNat 0) Dv)):Int)==2) ((Cj N r1.2 (Rea.mk 3 0 0 (Val.text (r1.1.getD (toNat 0) Dv)) (Val.mk 0 0 0 [] [] [] []))).bind fun r3=>some (r3.1,r3.2)) ((AJ N 4).bind fun r3=>some (r3,r1.2))) ((AJ N 4).bind fun r3=>some (r3,r1.2)))) (cond (a1.text== [102,105,108,101]) (cond (((Val.kind (r1.1.getD (toNat 0) Dv)):Int)==2) ((Cj N r1.2 (Rea.mk 3 0 0 (Val.text (r1.1.getD (toNat 0) Dv)) (Val.mk 0 0 0 [] [] [] []))).bind fun r3=>some (r3.1,r3.2)) ((AJ N 4).bind fun r3=>some (r3,r1.2))) ((AJ N 4).bind fun r3=>some (r3,r1.2))))) else none) (cond (a1.text== [99,108,111,99,107]) ((Cj N r1.2 (Rea.mk 1 0 0 [] (Val.mk 0 0 0 [] [] [] []))).bind fun r3=>some (r3.1,r3.2)) (cond (a1.text== [99,104,97,110,99,101]) (if(0:Int)<=0/\(0:Int)<r1.1.length then cond (((Val.kind (r1.1.getD (toNat 0) Dv)):Int)==1) ((Cj N r1.2 (Rea.mk 2 (Val.n (r1.1.getD (toNat 0) Dv)) 0 [] (Val.mk 0 0 0 [] [] [] []))).bind fun r3=>some (r3.1,r3.2)) (cond (a1.text== [102,105,108,101]) (cond (((Val.kind (r1.1.getD (toNat 0) Dv)):Int)==2) ((Cj N r1.2 (Rea.mk 3 0 0 (Val.text (r1.1.getD (toNat 0) Dv)) (Val.mk 0 0 0 [] [] [] []))).bind fun r3=>some (r3.1,r3.2)) ((AJ N 4).bind fun r3=>some (r3,r1.2))) ((AJ N 4).bind fun r3=>some (r3,r1.2))) else none) (cond (a1.text== [102,105,108,101]) (if(0:Int)<=0/\(0:Int)<r1.1.length then cond (((Val.kind (r1.1.getD (toNat 0) Dv)):Int)==2) ((Cj N r1.2 (Rea.mk 3 0 0 (Val.text (r1.1.getD (toNat 0) Dv)) (Val.mk 0 0 0 [] [] [] []))).bind fun r3=>some (r3.1,r3.2)) ((AJ N 4).bind fun r3=>some (r3,r1.2)) else none) ((AJ N 4).bind fun r3=>some (r3,r1.2)))))))
def Bm(N:Nat)(q0:Mch->List Exp->List Bnd->Option ((List Val)×Mch))(q1 q2 q3:Mch->Exp->List Bnd->Option (Val×Mch))(a0:Mch)(a1:Exp)(a2:List Bnd):Option (Val×Mch):=cond a0.over (some ((Val.mk 0 0 0 [] [] [] []),(Mch.mk a0.tape a0.w a0.cell a0.version a0.reads a0.steps true))) (cond (a0.steps==200) (some ((Val.mk 0 0 0 [] [] [] []),(Mch.mk a0.tape a0.w a0.cell a0.version a0.reads a0.steps true))) (cond (a1.kind==1) ((At N a1.n).bind fun r1=>some (r1,(Mch.mk a0.tape a0.w a0.cell a0.version a0.reads (V.wrap (a0.steps+1)) a0.over))) (cond (a1.kind==2) ((Jq N a1.text).bind fun r1=>some (r1,(Mch.mk a0.tape a0.w a0.cell a0.version a0.reads (V.wrap (a0.steps+1)) a0.over))) (cond (a1.kind==3) ((MA N a2 a1.text).bind fun r1=>some (r1,(Mch.mk a0.tape a0.w a0.cell a0.version a0.reads (V.wrap (a0.steps+1)) a0.over))) (cond (a1.kind==4) ((q0 (Mch.mk a0.tape a0.w a0.cell a0.version a0.reads (V.wrap (a0.steps+1)) a0.over) a1.args a2).bind fun r1=>(HP N r1.1).bind fun r2=>some (r2,r1.2)) (cond (a1.kind==6) ((q0 (Mch.mk a0.tape a0.w a0.cell a0.version a0.reads (V.wrap (a0.steps+1)) a0.over) a1.args a2).bind fun r1=>if(0:Int)<=0/\(0:Int)<r1.1.length then if(0:Int)<=1/\(1:Int)<r1.1.length then(Jg N a1.n (r1.1.getD (toNat 0) Dv) (r1.1.getD (toNat 1) Dv)).bind fun r2=>cond r2.2 (if List.isEmpty r2.1.list=true then if List.isEmpty r2.1.columns=true then if List.isEmpty r2.1.rows=true then some ((Val.mk r2.1.kind r2.1.n r2.1.step r2.1.text [] [] []),r1.2) else none else none else none) (some (r2.1,r1.2)) else none else none) (cond (a1.kind==7) (if(0:Int)<=0/\(0:Int)<a1.args.length then(q2 (Mch.mk a0.tape a0.w a0.cell a0.version a0.reads (V.wrap (a0.steps+1)) a0.over) (a1.args.getD (toNat 0) Dx) a2).bind fun r1=>if(0:Int)<=1/\(1:Int)<a1.args.length then(Lo N a2 a1.text r1.1).bind fun r2=>(q2 r1.2 (a1.args.getD (toNat 1) Dx) r2).bind fun r3=>some (r3.1,r3.2) else none else none) (cond (a1.kind==8) (if(0:Int)<=0/\(0:Int)<a1.args.length then(q2 (Mch.mk a0.tape a0.w a0.cell a0.version a0.reads (V.wrap (a0.steps+1)) a0.over) (a1.args.getD (toNat 0) Dx) a2).bind fun r1=>cond r1.2.over (some (r1.1,r1.2)) (cond (r1.1.kind==6) (some (r1.1,r1.2)) ((PK N r1.1).bind fun r2=>cond r2 (if(0:Int)<=1/\(1:Int)<a1.args.length then(q2 r1.2 (a1.args.getD (toNat 1) Dx) a2).bind fun r3=>some (r3.1,r3.2) else none) (if(0:Int)<=2/\(2:Int)<a1.args.length then(q2 r1.2 (a1.args.getD (toNat 2) Dx) a2).bind fun r3=>some (r3.1,r3.2) else none))) else none) (cond (a1.kind==9) ((q3 (Mch.mk a0.tape a0.w a0.cell a0.version a0.reads (V.wrap (a0.steps+1)) a0.over) a1 a2).bind fun r1=>some (r1.1,r1.2)) ((q1 (Mch.mk a0.tape a0.w a0.cell a0.version a0.reads (V.wrap (a0.steps+1)) a0.over) a1 a2).bind fun r1=>some (r1.1,r1.2)))))))))))
def En(N:Nat)(q0:Mch->List Exp->List Bnd->Option ((List Val)×Mch))(q1 q2 q3:Mch->Exp->List Bnd->Option (Val×Mch)):Nat->List Bnd->List Val->List Val->Int->Int->Mch->Exp->Val->Option (Val×Mch)
 |0,_,_,_,_,_,_,_,_=>none
 |n+1,x2,x8,x34,x35,x36,b0,b4,b6=>cond (decide (x36<x35)) (ite (0<=x36/\x36<x34.length) (if(0:Int)<=1/\(1:Int)<b4.args.length then(Lo N x2 b4.text (x34.getD x36.toNat Dv)).bind fun r1=>(q2 b0 (b4.args.getD (toNat 1) Dx) r1).bind fun r2=>if x8.length+ [r2.1.re].length<=Lim then cond r2.2.over (some ((Val.mk 0 0 0 [] [] [] []),r2.2)) (En N q0 q1 q2 q3 n x2 (x8++ [r2.1.re]) x34 x35 (V.wrap (x36+1)) r2.2 b4 b6) else none else none) none) ((HP N x8).bind fun r1=>some (r1,b0))
def MO(N:Nat)(q0:Mch->List Exp->List Bnd->Option ((List Val)×Mch))(q1 q2 q3:Mch->Exp->List Bnd->Option (Val×Mch))(a0:Mch)(a1:Exp)(a2:List Bnd):Option (Val×Mch):=if(0:Int)<=0/\(0:Int)<a1.args.length then(q2 a0 (a1.args.getD (toNat 0) Dx) a2).bind fun r1=>cond r1.2.over (some (r1.1,r1.2)) (cond (r1.1.kind==6) (some (r1.1,r1.2)) (cond (r1.1.kind != 3) ((AJ N 4).bind fun r2=>some (r2,r1.2)) (En N q0 q1 q2 q3 N a2 [] r1.1.list (r1.1.list.length:Int) 0 r1.2 a1 (Val.mk 0 0 0 [] [] [] [])))) else none
structure Rq7 where
 c16:Mch->(List Exp)->(List Bnd)->Option ((List Val)×Mch)
 c17:Mch->Exp->(List Bnd)->Option (Val×Mch)
 c18:Mch->Exp->(List Bnd)->Option (Val×Mch)
 c19:Mch->Exp->(List Bnd)->Option (Val×Mch)
def BE(N:Nat):Nat->Rq7
 |0=>⟨fun _ _ _=>none,fun _ _ _=>none,fun _ _ _=>none,fun _ _ _=>none⟩
 |d+1=>⟨xAu N (BE N d).c16 (BE N d).c17 (BE N d).c18 (BE N d).c19,MN N (BE N d).c16 (BE N d).c17 (BE N d).c18 (BE N d).c19,Bm N (BE N d).c16 (BE N d).c17 (BE N d).c18 (BE N d).c19,MO N (BE N d).c16 (BE N d).c17 (BE N d).c18 (BE N d).c19⟩
def PX(N:Nat)(a0:Mch)(a1:Exp)(a2:List Bnd):Option (Val×Mch):=(BE N N).c18 a0 a1 a2
def Lq(N:Nat)(b12:Outc)(b14:Val)(b25:Mch):Option Outc:=(Ba N b14).bind fun r1=>some (Outc.mk r1 b25.reads b25.steps)
def HT(N:Nat)(a0:Exp)(a1:List Bnd)(a2:List Rea)(a3:Wld)(a4 a5:Int):Option Outc:=(Lv N a0).bind fun r1=>cond (!r1) ((AJ N 4).bind fun r2=>some (Outc.mk r2 [] 0)) ((PX N (Mch.mk a2 a3 a4 a5 [] 0 false) a0 a1).bind fun r2=>cond r2.2.over ((AJ N 6).bind fun r3=>(Lq N (Outc.mk (Val.mk 0 0 0 [] [] [] []) [] 0) r3 r2.2)) (Lq N (Outc.mk (Val.mk 0 0 0 [] [] [] []) [] 0) r2.1 r2.2))
def Hn(N:Nat):Nat->List Str->List Str->Int->Option Bool
 |0,_,_,_=>none
 |n+1,x0,x1,x5=>cond (decide (x5<x0.length)) (ite (0<=x5/\x5<x0.length) (ite (0<=x5/\x5<x1.length) (cond (!(((x0.getD x5.toNat Ds):Str)==(x1.getD x5.toNat Ds))) (some false) (Hn N n x0 x1 (V.wrap (x5+1)))) none) none) (some true)
def M5(N:Nat)(a0 a1:List Str):Option Bool:=cond ((a0.length:Int) != (a1.length:Int)) (some false) (Hn N N a0 a1 0)
def Hi(N:Nat):Nat->List Int->List Int->Int->Option Bool
 |0,_,_,_=>none
 |n+1,x0,x1,x5=>cond (decide (x5<x0.length)) (ite (0<=x5/\x5<x0.length) (ite (0<=x5/\x5<x1.length) (cond ((x0.getD x5.toNat Di) != (x1.getD x5.toNat Di)) (some false) (Hi N n x0 x1 (V.wrap (x5+1)))) none) none) (some true)
def MZ(N:Nat)(a0 a1:List Int):Option Bool:=cond ((a0.length:Int) != (a1.length:Int)) (some false) (Hi N N a0 a1 0)
def M0(N:Nat)(a0 a1:Org):Option Bool:=cond (a0.cell != a1.cell) (some false) (cond (a0.row != a1.row) (some false) (some true))
def Hj(N:Nat):Nat->List Org->List Org->Int->Option Bool
 |0,_,_,_=>none
 |n+1,x0,x1,x5=>cond (decide (x5<x0.length)) (ite (0<=x5/\x5<x0.length) (ite (0<=x5/\x5<x1.length) ((M0 N (x0.getD x5.toNat Do) (x1.getD x5.toNat Do)).bind fun r1=>cond (!r1) (some false) (Hj N n x0 x1 (V.wrap (x5+1)))) none) none) (some true)
def M1(N:Nat)(a0 a1:List Org):Option Bool:=cond ((a0.length:Int) != (a1.length:Int)) (some false) (Hj N N a0 a1 0)
def M3(N:Nat)(a0 a1:Rowd):Option Bool:=(MZ N a0.cells a1.cells).bind fun r1=>cond (!r1) (some false) ((M1 N a0.frm a1.frm).bind fun r2=>cond (!r2) (some false) (some true))
def Hm(N:Nat):Nat->List Rowd->List Rowd->Int->Option Bool
 |0,_,_,_=>none
 |n+1,x0,x1,x5=>cond (decide (x5<x0.length)) (ite (0<=x5/\x5<x0.length) (ite (0<=x5/\x5<x1.length) ((M3 N (x0.getD x5.toNat Dr) (x1.getD x5.toNat Dr)).bind fun r1=>cond (!r1) (some false) (Hm N n x0 x1 (V.wrap (x5+1)))) none) none) (some true)
def M4(N:Nat)(a0 a1:List Rowd):Option Bool:=cond ((a0.length:Int) != (a1.length:Int)) (some false) (Hm N N a0 a1 0)
def M7(N:Nat)(q0:Val->Val->Option Bool)(q1:List Val->List Val->Option Bool)(a0 a1:Val):Option Bool:=cond (a0.kind != a1.kind) (some false) (cond (a0.n != a1.n) (some false) (cond (a0.step != a1.step) (some false) (cond (!(a0.text==a1.text)) (some false) ((q1 a0.list a1.list).bind fun r1=>cond (!r1) (some false) ((M5 N a0.columns a1.columns).bind fun r2=>cond (!r2) (some false) ((M4 N a0.rows a1.rows).bind fun r3=>cond (!r3) (some false) (some true)))))))
def Ho(N:Nat)(q0:Val->Val->Option Bool)(q1:List Val->List Val->Option Bool):Nat->List Val->List Val->Int->Option Bool
 |0,_,_,_=>none
 |n+1,x0,x1,x5=>cond (decide (x5<x0.length)) (ite (0<=x5/\x5<x0.length) (ite (0<=x5/\x5<x1.length) ((q0 (x0.getD x5.toNat Dv) (x1.getD x5.toNat Dv)).bind fun r1=>cond (!r1) (some false) (Ho N q0 q1 n x0 x1 (V.wrap (x5+1)))) none) none) (some true)
def M6(N:Nat)(q0:Val->Val->Option Bool)(q1:List Val->List Val->Option Bool)(a0 a1:List Val):Option Bool:=cond ((a0.length:Int) != (a1.length:Int)) (some false) (Ho N q0 q1 N a0 a1 0)
structure Rq8 where
 c20:Val->Val->Option (Bool)
 c21:(List Val)->(List Val)->Option (Bool)
def Bo(N:Nat):Nat->Rq8
 |0=>⟨fun _ _=>none,fun _ _=>none⟩
 |d+1=>⟨M7 N (Bo N d).c20 (Bo N d).c21,M6 N (Bo N d).c20 (Bo N d).c21⟩
def KA(N:Nat)(a0 a1:Val):Option Bool:=(Bo N N).c20 a0 a1
def M2(N:Nat)(a0 a1:Rea):Option Bool:=cond (a0.kind != a1.kind) (some false) (cond (a0.n != a1.n) (some false) (cond (a0.time != a1.time) (some false) (cond (!(a0.text==a1.text)) (some false) ((KA N a0.result a1.result).bind fun r1=>cond (!r1) (some false) (some true)))))
def Hl(N:Nat):Nat->List Rea->List Rea->Int->Option Bool
 |0,_,_,_=>none
 |n+1,x0,x1,x5=>cond (decide (x5<x0.length)) (ite (0<=x5/\x5<x0.length) (ite (0<=x5/\x5<x1.length) ((M2 N (x0.getD x5.toNat De) (x1.getD x5.toNat De)).bind fun r1=>cond (!r1) (some false) (Hl N n x0 x1 (V.wrap (x5+1)))) none) none) (some true)
def Jz(N:Nat)(a0 a1:List Rea):Option Bool:=cond ((a0.length:Int) != (a1.length:Int)) (some false) (Hl N N a0 a1 0)
def Hk(N:Nat)(a0 a1:Outc):Option Bool:=(KA N a0.value a1.value).bind fun r1=>cond (!r1) (some false) ((Jz N a0.reads a1.reads).bind fun r2=>cond (!r2) (some false) (cond (a0.steps != a1.steps) (some false) (some true)))
def P5(a0 a1:Exp):List Arg:=[.val (.v true (Ex .ro a0)),.val (.v true (Ex .ro a1))]
def MW(N:Nat)(q0:Exp->Exp->Option Bool)(q1:List Exp->List Exp->Option Bool)(a0 a1:Exp):Option Bool:=cond (a0.kind != a1.kind) (some false) (cond (a0.n != a1.n) (some false) (cond (!(a0.text==a1.text)) (some false) ((q1 a0.args a1.args).bind fun r1=>cond (!r1) (some false) (some true))))
def Hg(N:Nat)(q0:Exp->Exp->Option Bool)(q1:List Exp->List Exp->Option Bool):Nat->List Exp->List Exp->Int->Option Bool
 |0,_,_,_=>none
 |n+1,x0,x1,x5=>cond (decide (x5<x0.length)) (ite (0<=x5/\x5<x0.length) (ite (0<=x5/\x5<x1.length) ((q0 (x0.getD x5.toNat Dx) (x1.getD x5.toNat Dx)).bind fun r1=>cond (!r1) (some false) (Hg N q0 q1 n x0 x1 (V.wrap (x5+1)))) none) none) (some true)
def MV(N:Nat)(q0:Exp->Exp->Option Bool)(q1:List Exp->List Exp->Option Bool)(a0 a1:List Exp):Option Bool:=cond ((a0.length:Int) != (a1.length:Int)) (some false) (Hg N q0 q1 N a0 a1 0)
structure Rq9 where
 c22:Exp->Exp->Option (Bool)
 c23:(List Exp)->(List Exp)->Option (Bool)
def CT(N:Nat):Nat->Rq9
 |0=>⟨fun _ _=>none,fun _ _=>none⟩
 |d+1=>⟨MW N (CT N d).c22 (CT N d).c23,MV N (CT N d).c22 (CT N d).c23⟩
def P4(N:Nat)(a0 a1:Exp):Option Bool:=(CT N N).c22 a0 a1
def MT(N:Nat)(a0 a1:Bnd):Option Bool:=cond (!(a0.name==a1.name)) (some false) ((KA N a0.value a1.value).bind fun r1=>cond (!r1) (some false) (some true))
def Hf(N:Nat):Nat->List Bnd->List Bnd->Int->Option Bool
 |0,_,_,_=>none
 |n+1,x0,x1,x5=>cond (decide (x5<x0.length)) (ite (0<=x5/\x5<x0.length) (ite (0<=x5/\x5<x1.length) ((MT N (x0.getD x5.toNat Db) (x1.getD x5.toNat Db)).bind fun r1=>cond (!r1) (some false) (Hf N n x0 x1 (V.wrap (x5+1)))) none) none) (some true)
def MU(N:Nat)(a0 a1:List Bnd):Option Bool:=cond ((a0.length:Int) != (a1.length:Int)) (some false) (Hf N N a0 a1 0)
def MX(N:Nat)(a0 a1:Fil):Option Bool:=cond (!(a0.name==a1.name)) (some false) (cond (a0.n != a1.n) (some false) (some true))
def Hh(N:Nat):Nat->List Fil->List Fil->Int->Option Bool
 |0,_,_,_=>none
 |n+1,x0,x1,x5=>cond (decide (x5<x0.length)) (ite (0<=x5/\x5<x0.length) (ite (0<=x5/\x5<x1.length) ((MX N (x0.getD x5.toNat Ty.fil.dflt) (x1.getD x5.toNat Ty.fil.dflt)).bind fun r1=>cond (!r1) (some false) (Hh N n x0 x1 (V.wrap (x5+1)))) none) none) (some true)
def MY(N:Nat)(a0 a1:List Fil):Option Bool:=cond ((a0.length:Int) != (a1.length:Int)) (some false) (Hh N N a0 a1 0)
def M8(N:Nat)(a0 a1:Wld):Option Bool:=cond (a0.clock != a1.clock) (some false) (cond (a0.seed != a1.seed) (some false) ((MY N a0.files a1.files).bind fun r1=>cond (!r1) (some false) (some true)))
def xAU(r:Str):CallO:=cO (vTq r)
def IQ(N:Nat):Nat->Int->Str->Option Str
 |0,_,_=>none
 |n+1,x0,x3=>cond (decide (x0>0)) (if length (List.map (fun n=>UInt8.ofNat (toNat n)) [(IntKind.u8.wrap (V.wrap (48+(Int.tmod x0 10))))])+x3.length<=Lim then(IQ N n (V.wrap (Int.tdiv x0 10)) ((List.map (fun n=>UInt8.ofNat (toNat n)) [(IntKind.u8.wrap (V.wrap (48+(Int.tmod x0 10))))])++x3)) else none) (if [109].length+x3.length<=Lim then some ([109]++x3) else none)
def Bx(N:Nat)(a0:Int):Option Str:=cond (decide (a0<=0)) (some [109,48]) (IQ N N a0 [])
def KH(r:Int×(List Exp)):CallO:=⟨(vI r.1),[],[.sl (.lnt 0) .exp r.2]⟩
abbrev Mh(x0:List Exp)(x5 x1:Int):=x0.set x5.toNat ((fun(o1:Exp)=>Exp.mk x1 o1.n o1.text o1.args) (x0.getD x5.toNat Dx))
abbrev Pm(x5:Int)(r1)(z9:List Exp):=z9.set x5.toNat ((fun(o1:Exp)=>Exp.mk o1.kind o1.n r1 o1.args) (z9.getD x5.toNat Dx))
abbrev Pn(x5 x1:Int)(z8:List Exp):=z8.set x5.toNat ((fun(o1:Exp)=>Exp.mk o1.kind (V.wrap (x1+1)) o1.text o1.args) (z8.getD x5.toNat Dx))
abbrev Mi(x5 x1:Int)(x0:List Exp):=Pn x5 x1 (Mh x0 x5 x1)
abbrev IA(x5:Int)(r1)(x1:Int)(x0:List Exp):=Pm x5 r1 (Mi x5 x1 x0)
def Hz(N:Nat)(q0:List Exp->Int->Option (Int×(List Exp))):Nat->List Exp->Int->Int->Option (Int×(List Exp))
 |0,_,_,_=>none
 |n+1,x0,x1,x5=>cond (decide (x5<x0.length)) (ite (0<=x5/\x5<x0.length) (if(0:Int)<=x5/\x5<(length (Mh x0 x5 x1)) then(Bx N (V.wrap ((V.wrap (x1+1))+1))).bind fun r1=>if(0:Int)<=x5/\x5<(length (Mi x5 x1 x0)) then if(0:Int)<=x5/\x5<(length (IA x5 r1 x1 x0)) then(q0 (Exp.args (List.getD (IA x5 r1 x1 x0) x5.toNat Dx)) (V.wrap ((V.wrap ((V.wrap (x1+1))+1))+1))).bind fun r2=>if r2.2.length=length (Exp.args (List.getD (IA x5 r1 x1 x0) x5.toNat Dx)) then(Hz N q0 n ((fun(z10:List Exp)=>z10.set x5.toNat (Exp.mk (Exp.kind (z10.getD x5.toNat Dx)) (Exp.n (z10.getD x5.toNat Dx)) (Exp.text (z10.getD x5.toNat Dx)) r2.2)) (IA x5 r1 x1 x0)) r2.1 (V.wrap (x5+1))) else none else none else none else none) none) (some (x1,x0))
def xAM(N:Nat)(q0:List Exp->Int->Option (Int×(List Exp)))(a0:List Exp)(a1:Int):Option (Int×(List Exp)):=Hz N q0 N a0 a1 0
def KG(N:Nat):Nat->List Exp->Int->Option (Int×(List Exp))
 |0,_,_=>none
 |d+1,a0,a1=>xAM N (KG N d) a0 a1
def Pk(N:Nat)(a0:List Exp)(a1:Int):Option (Int×(List Exp)):=KG N N a0 a1
def Mg(N:Nat)(a0:Exp)(a1:Int):Option (Int×(List Exp)):=(Pk N a0.args a1).bind fun r1=>if r1.2.length=a0.args.length then some (r1.1,r1.2) else none
def xAT(r:Int×(List Str)):CallO:=⟨(vI r.1),[],[.sl (.lnt 0) .str r.2]⟩
def IP(N:Nat):Nat->List Str->Int->Int->Option (Int×(List Str))
 |0,_,_,_=>none
 |n+1,x0,x1,x5=>cond (decide (x5<x0.length)) ((Bx N x1).bind fun r1=>ite (0<=x5/\x5<x0.length) (IP N n (x0.set x5.toNat r1) (V.wrap (x1+1)) (V.wrap (x5+1))) none) (some (x1,x0))
def IN(N:Nat)(a0:List Str)(a1:Int):Option (Int×(List Str)):=IP N N a0 a1 0
def xAO(r:Int×(List Int)):CallO:=⟨(vI r.1),[],[.sl (.lnt 0) .int r.2]⟩
def IC(N:Nat):Nat->List Int->Int->Int->Option (Int×(List Int))
 |0,_,_,_=>none
 |n+1,x0,x1,x5=>cond (decide (x5<x0.length)) (ite (0<=x5/\x5<x0.length) (IC N n (x0.set x5.toNat x1) (V.wrap (x1+1)) (V.wrap (x5+1))) none) (some (x1,x0))
def Pp(N:Nat)(a0:List Int)(a1:Int):Option (Int×(List Int)):=IC N N a0 a1 0
def xAP(r:Int×(List Org)):CallO:=⟨(vI r.1),[],[.sl (.lnt 0) .org r.2]⟩
def ID(N:Nat):Nat->List Org->Int->Int->Option (Int×(List Org))
 |0,_,_,_=>none
 |n+1,x0,x1,x5=>cond (decide (x5<x0.length)) (ite (0<=x5/\x5<x0.length) (if(0:Int)<=x5/\x5<(length (x0.set x5.toNat (Org.mk x1 (Org.row (x0.getD x5.toNat Do))))) then(ID N n ((fun(z1:List Org)=>z1.set x5.toNat (Org.mk (Org.cell (z1.getD x5.toNat Do)) (V.wrap (x1+1)))) (x0.set x5.toNat (Org.mk x1 (Org.row (x0.getD x5.toNat Do))))) (V.wrap ((V.wrap (x1+1))+1)) (V.wrap (x5+1))) else none) none) (some (x1,x0))
def Pq(N:Nat)(a0:List Org)(a1:Int):Option (Int×(List Org)):=ID N N a0 a1 0
def xAS(r:Int×(List Rowd)):CallO:=⟨(vI r.1),[],[.sl (.lnt 0) .row r.2]⟩
def IM(N:Nat):Nat->List Rowd->Int->Int->Option (Int×(List Rowd))
 |0,_,_,_=>none
 |n+1,x0,x1,x5=>cond (decide (x5<x0.length)) (ite (0<=x5/\x5<x0.length) ((Pp N (Rowd.cells (x0.getD x5.toNat Dr)) x1).bind fun r1=>if r1.2.length=length (Rowd.cells (x0.getD x5.toNat Dr)) then if(0:Int)<=x5/\x5<(length (x0.set x5.toNat (Rowd.mk r1.2 (Rowd.frm (x0.getD x5.toNat Dr))))) then(Pq N (Rowd.frm (List.getD (x0.set x5.toNat (Rowd.mk r1.2 (Rowd.frm (x0.getD x5.toNat Dr)))) x5.toNat Dr)) r1.1).bind fun r2=>if r2.2.length=length (Rowd.frm (List.getD (x0.set x5.toNat (Rowd.mk r1.2 (Rowd.frm (x0.getD x5.toNat Dr)))) x5.toNat Dr)) then(IM N n ((fun(z1:List Rowd)=>z1.set x5.toNat (Rowd.mk (Rowd.cells (z1.getD x5.toNat Dr)) r2.2)) (x0.set x5.toNat (Rowd.mk r1.2 (Rowd.frm (x0.getD x5.toNat Dr))))) r2.1 (V.wrap (x5+1))) else none else none else none) none) (some (x1,x0))
def IL(N:Nat)(a0:List Rowd)(a1:Int):Option (Int×(List Rowd)):=IM N N a0 a1 0
def Ms(r:Int×(List Val)):CallO:=⟨(vI r.1),[],[.sl (.lnt 0) .val r.2]⟩
abbrev Mo(x0:List Val)(x5 x1:Int):=x0.set x5.toNat ((fun(o1:Val)=>Val.mk x1 o1.n o1.step o1.text o1.list o1.columns o1.rows) (x0.getD x5.toNat Dv))
abbrev Pr(x5:Int)(r3_2)(z44:List Val):=z44.set x5.toNat ((fun(o1:Val)=>Val.mk o1.kind o1.n o1.step o1.text o1.list r3_2 o1.rows) (z44.getD x5.toNat Dv))
abbrev Ps(x5:Int)(r1)(z42:List Val):=z42.set x5.toNat ((fun(o1:Val)=>Val.mk o1.kind o1.n o1.step r1 o1.list o1.columns o1.rows) (z42.getD x5.toNat Dv))
abbrev Pt(x5:Int)(r2_2)(z43:List Val):=z43.set x5.toNat ((fun(o1:Val)=>Val.mk o1.kind o1.n o1.step o1.text r2_2 o1.columns o1.rows) (z43.getD x5.toNat Dv))
abbrev Pu(x5 x1:Int)(z40:List Val):=z40.set x5.toNat ((fun(o1:Val)=>Val.mk o1.kind (V.wrap (x1+1)) o1.step o1.text o1.list o1.columns o1.rows) (z40.getD x5.toNat Dv))
abbrev Pv(x5 x1:Int)(z41:List Val):=z41.set x5.toNat ((fun(o1:Val)=>Val.mk o1.kind o1.n (V.wrap ((V.wrap (x1+1))+1)) o1.text o1.list o1.columns o1.rows) (z41.getD x5.toNat Dv))
abbrev Mp(x5 x1:Int)(x0:List Val):=Pu x5 x1 (Mo x0 x5 x1)
abbrev Mq(x5 x1:Int)(x0:List Val):=Pv x5 x1 (Mp x5 x1 x0)
abbrev IT(x5:Int)(r1)(x1:Int)(x0:List Val):=Ps x5 r1 (Mq x5 x1 x0)
abbrev IU(x5:Int)(r2_2 r1)(x1:Int)(x0:List Val):=Pt x5 r2_2 (IT x5 r1 x1 x0)
abbrev IS(x5:Int)(r3_2 r2_2 r1)(x1:Int)(x0:List Val):=Pr x5 r3_2 (IU x5 r2_2 r1 x1 x0)
def IR(N:Nat)(q0:List Val->Int->Option (Int×(List Val))):Nat->List Val->Int->Int->Option (Int×(List Val))
 |0,_,_,_=>none
 |n+1,x0,x1,x5=>cond (decide (x5<x0.length)) (ite (0<=x5/\x5<x0.length) (if(0:Int)<=x5/\x5<(length (Mo x0 x5 x1)) then if(0:Int)<=x5/\x5<(length (Mp x5 x1 x0)) then(Bx N (V.wrap ((V.wrap ((V.wrap (x1+1))+1))+1))).bind fun r1=>if(0:Int)<=x5/\x5<(length (Mq x5 x1 x0)) then if(0:Int)<=x5/\x5<(length (IT x5 r1 x1 x0)) then(q0 (Val.list (List.getD (IT x5 r1 x1 x0) x5.toNat Dv)) (V.wrap ((V.wrap ((V.wrap ((V.wrap (x1+1))+1))+1))+1))).bind fun r2=>if r2.2.length=length (Val.list (List.getD (IT x5 r1 x1 x0) x5.toNat Dv)) then if(0:Int)<=x5/\x5<(length (IU x5 r2.2 r1 x1 x0)) then(IN N (Val.columns (List.getD (IU x5 r2.2 r1 x1 x0) x5.toNat Dv)) r2.1).bind fun r3=>if r3.2.length=length (Val.columns (List.getD (IU x5 r2.2 r1 x1 x0) x5.toNat Dv)) then if(0:Int)<=x5/\x5<(length (IS x5 r3.2 r2.2 r1 x1 x0)) then(IL N (Val.rows (List.getD (IS x5 r3.2 r2.2 r1 x1 x0) x5.toNat Dv)) r3.1).bind fun r4=>if r4.2.length=length (Val.rows (List.getD (IS x5 r3.2 r2.2 r1 x1 x0) x5.toNat Dv)) then(IR N q0 n ((fun(z45:List Val)=>z45.set x5.toNat (Val.mk (Val.kind (z45.getD x5.toNat Dv)) (Val.n (z45.getD x5.toNat Dv)) (Val.step (z45.getD x5.toNat Dv)) (Val.text (z45.getD x5.toNat Dv)) (Val.list (z45.getD x5.toNat Dv)) (Val.columns (z45.getD x5.toNat Dv)) r4.2)) (IS x5 r3.2 r2.2 r1 x1 x0)) r4.1 (V.wrap (x5+1))) else none else none else none else none else none else none else none else none else none) none) (some (x1,x0))
def xAV(N:Nat)(q0:List Val->Int->Option (Int×(List Val)))(a0:List Val)(a1:Int):Option (Int×(List Val)):=IR N q0 N a0 a1 0
def KU(N:Nat):Nat->List Val->Int->Option (Int×(List Val))
 |0,_,_=>none
 |d+1,a0,a1=>xAV N (KU N d) a0 a1
def ED(N:Nat)(a0:List Val)(a1:Int):Option (Int×(List Val)):=KU N N a0 a1
def xAL(r:Int×(List Bnd)):CallO:=⟨(vI r.1),[],[.sl (.lnt 0) .bnd r.2]⟩
abbrev Ma(x0:List Bnd)(x5:Int)(r1):=x0.set x5.toNat (Bnd.mk r1 (Val.re (Bnd.value (x0.getD x5.toNat Db))))
abbrev Pe(x5:Int)(r4_2)(z57:List Bnd):=z57.set x5.toNat ((fun(o1:Bnd)=>Bnd.mk o1.name ((fun(o2:Val)=>Val.mk o2.kind o2.n o2.step o2.text o2.list r4_2 o2.rows) o1.value)) (z57.getD x5.toNat Db))
abbrev Pf(x5:Int)(r2)(z55:List Bnd):=z55.set x5.toNat ((fun(o1:Bnd)=>Bnd.mk o1.name ((fun(o2:Val)=>Val.mk o2.kind o2.n o2.step r2 o2.list o2.columns o2.rows) o1.value)) (z55.getD x5.toNat Db))
abbrev Pg(x5:Int)(r3_2)(z56:List Bnd):=z56.set x5.toNat ((fun(o1:Bnd)=>Bnd.mk o1.name ((fun(o2:Val)=>Val.mk o2.kind o2.n o2.step o2.text r3_2 o2.columns o2.rows) o1.value)) (z56.getD x5.toNat Db))
abbrev Ph(x5 x1:Int)(z52:List Bnd):=z52.set x5.toNat ((fun(o1:Bnd)=>Bnd.mk o1.name ((fun(o2:Val)=>Val.mk (V.wrap (x1+1)) o2.n o2.step o2.text o2.list o2.columns o2.rows) o1.value)) (z52.getD x5.toNat Db))
abbrev Pi(x5 x1:Int)(z53:List Bnd):=z53.set x5.toNat ((fun(o1:Bnd)=>Bnd.mk o1.name ((fun(o2:Val)=>Val.mk o2.kind (V.wrap ((V.wrap (x1+1))+1)) o2.step o2.text o2.list o2.columns o2.rows) o1.value)) (z53.getD x5.toNat Db))
abbrev Pj(x5 x1:Int)(z54:List Bnd):=z54.set x5.toNat ((fun(o1:Bnd)=>Bnd.mk o1.name ((fun(o2:Val)=>Val.mk o2.kind o2.n (V.wrap ((V.wrap ((V.wrap (x1+1))+1))+1)) o2.text o2.list o2.columns o2.rows) o1.value)) (z54.getD x5.toNat Db))
abbrev Mb(x5 x1:Int)(x0:List Bnd)(r1):=Ph x5 x1 (Ma x0 x5 r1)
abbrev Me(x5 x1:Int)(x0:List Bnd)(r1):=Pi x5 x1 (Mb x5 x1 x0 r1)
abbrev Mf(x5 x1:Int)(x0:List Bnd)(r1):=Pj x5 x1 (Me x5 x1 x0 r1)
abbrev Hw(x5:Int)(r2)(x1:Int)(x0:List Bnd)(r1):=Pf x5 r2 (Mf x5 x1 x0 r1)
abbrev Hx(x5:Int)(r3_2 r2)(x1:Int)(x0:List Bnd)(r1):=Pg x5 r3_2 (Hw x5 r2 x1 x0 r1)
abbrev Hy(x5:Int)(r4_2 r3_2 r2)(x1:Int)(x0:List Bnd)(r1):=Pe x5 r4_2 (Hx x5 r3_2 r2 x1 x0 r1)
def Hv(N:Nat):Nat->List Bnd->Int->Int->Option (Int×(List Bnd))
 |0,_,_,_=>none
 |n+1,x0,x1,x5=>cond (decide (x5<x0.length)) ((Bx N x1).bind fun r1=>ite (0<=x5/\x5<x0.length) (if(0:Int)<=x5/\x5<(length (Ma x0 x5 r1)) then if(0:Int)<=x5/\x5<(length (Mb x5 x1 x0 r1)) then if(0:Int)<=x5/\x5<(length (Me x5 x1 x0 r1)) then(Bx N (V.wrap ((V.wrap ((V.wrap ((V.wrap (x1+1))+1))+1))+1))).bind fun r2=>if(0:Int)<=x5/\x5<(length (Mf x5 x1 x0 r1)) then if(0:Int)<=x5/\x5<(length (Hw x5 r2 x1 x0 r1)) then(ED N (Val.list (Bnd.value (List.getD (Hw x5 r2 x1 x0 r1) x5.toNat Db))) (V.wrap ((V.wrap ((V.wrap ((V.wrap ((V.wrap (x1+1))+1))+1))+1))+1))).bind fun r3=>if r3.2.length=length (Val.list (Bnd.value (List.getD (Hw x5 r2 x1 x0 r1) x5.toNat Db))) then if(0:Int)<=x5/\x5<(length (Hx x5 r3.2 r2 x1 x0 r1)) then(IN N (Val.columns (Bnd.value (List.getD (Hx x5 r3.2 r2 x1 x0 r1) x5.toNat Db))) r3.1).bind fun r4=>if r4.2.length=length (Val.columns (Bnd.value (List.getD (Hx x5 r3.2 r2 x1 x0 r1) x5.toNat Db))) then if(0:Int)<=x5/\x5<(length (Hy x5 r4.2 r3.2 r2 x1 x0 r1)) then(IL N (Val.rows (Bnd.value (List.getD (Hy x5 r4.2 r3.2 r2 x1 x0 r1) x5.toNat Db))) r4.1).bind fun r5=>if r5.2.length=length (Val.rows (Bnd.value (List.getD (Hy x5 r4.2 r3.2 r2 x1 x0 r1) x5.toNat Db))) then(Hv N n ((fun(z58:List Bnd)=>z58.set x5.toNat (Bnd.mk (Bnd.name (z58.getD x5.toNat Db)) (Val.mk (Val.kind (Bnd.value (z58.getD x5.toNat Db))) (Val.n (Bnd.value (z58.getD x5.toNat Db))) (Val.step (Bnd.value (z58.getD x5.toNat Db))) (Val.text (Bnd.value (z58.getD x5.toNat Db))) (Val.list (Bnd.value (z58.getD x5.toNat Db))) (Val.columns (Bnd.value (z58.getD x5.toNat Db))) r5.2))) (Hy x5 r4.2 r3.2 r2 x1 x0 r1)) r5.1 (V.wrap (x5+1))) else none else none else none else none else none else none else none else none else none else none) none) (some (x1,x0))
def Pd(N:Nat)(a0:List Bnd)(a1:Int):Option (Int×(List Bnd)):=Hv N N a0 a1 0
def xAR(r:Int×(List Rea)):CallO:=⟨(vI r.1),[],[.sl (.lnt 0) .rea r.2]⟩
abbrev IE(x0:List Rea)(x5 x1:Int):=x0.set x5.toNat ((fun(o1:Rea)=>Rea.mk x1 o1.n o1.time o1.text (o1.result.re)) (x0.getD x5.toNat De))
abbrev KJ(x5:Int)(r1)(z96:List Rea):=z96.set x5.toNat ((fun(o1:Rea)=>Rea.mk o1.kind o1.n o1.time r1 (o1.result.re)) (z96.getD x5.toNat De))
abbrev KL(x5 x1:Int)(z94:List Rea):=z94.set x5.toNat ((fun(o1:Rea)=>Rea.mk o1.kind (V.wrap (x1+1)) o1.time o1.text (o1.result.re)) (z94.getD x5.toNat De))
abbrev KM(x5 x1:Int)(z95:List Rea):=z95.set x5.toNat ((fun(o1:Rea)=>Rea.mk o1.kind o1.n (V.wrap ((V.wrap (x1+1))+1)) o1.text (o1.result.re)) (z95.getD x5.toNat De))
abbrev KN(x5:Int)(r4_2)(z102:List Rea):=z102.set x5.toNat ((fun(o1:Rea)=>Rea.mk o1.kind o1.n o1.time o1.text ((fun(o2:Val)=>Val.mk o2.kind o2.n o2.step o2.text o2.list r4_2 o2.rows) o1.result)) (z102.getD x5.toNat De))
abbrev KO(x5:Int)(r2)(z100:List Rea):=z100.set x5.toNat ((fun(o1:Rea)=>Rea.mk o1.kind o1.n o1.time o1.text ((fun(o2:Val)=>Val.mk o2.kind o2.n o2.step r2 o2.list o2.columns o2.rows) o1.result)) (z100.getD x5.toNat De))
abbrev KP(x5:Int)(r3_2)(z101:List Rea):=z101.set x5.toNat ((fun(o1:Rea)=>Rea.mk o1.kind o1.n o1.time o1.text ((fun(o2:Val)=>Val.mk o2.kind o2.n o2.step o2.text r3_2 o2.columns o2.rows) o1.result)) (z101.getD x5.toNat De))
abbrev KQ(x5 x1:Int)(z97:List Rea):=z97.set x5.toNat ((fun(o1:Rea)=>Rea.mk o1.kind o1.n o1.time o1.text ((fun(o2:Val)=>Val.mk (V.wrap ((V.wrap ((V.wrap ((V.wrap (x1+1))+1))+1))+1)) o2.n o2.step o2.text o2.list o2.columns o2.rows) o1.result)) (z97.getD x5.toNat De))
abbrev KR(x5 x1:Int)(z98:List Rea):=z98.set x5.toNat ((fun(o1:Rea)=>Rea.mk o1.kind o1.n o1.time o1.text ((fun(o2:Val)=>Val.mk o2.kind (V.wrap ((V.wrap ((V.wrap ((V.wrap ((V.wrap (x1+1))+1))+1))+1))+1)) o2.step o2.text o2.list o2.columns o2.rows) o1.result)) (z98.getD x5.toNat De))
abbrev KS(x5 x1:Int)(z99:List Rea):=z99.set x5.toNat ((fun(o1:Rea)=>Rea.mk o1.kind o1.n o1.time o1.text ((fun(o2:Val)=>Val.mk o2.kind o2.n (V.wrap ((V.wrap ((V.wrap ((V.wrap ((V.wrap ((V.wrap (x1+1))+1))+1))+1))+1))+1)) o2.text o2.list o2.columns o2.rows) o1.result)) (z99.getD x5.toNat De))
abbrev IF(x5 x1:Int)(x0:List Rea):=KL x5 x1 (IE x0 x5 x1)
abbrev IG(x5 x1:Int)(x0:List Rea):=KM x5 x1 (IF x5 x1 x0)
abbrev IH(x5:Int)(r1)(x1:Int)(x0:List Rea):=KJ x5 r1 (IG x5 x1 x0)
abbrev II(x5 x1:Int)(r1)(x0:List Rea):=KQ x5 x1 (IH x5 r1 x1 x0)
abbrev IJ(x5 x1:Int)(r1)(x0:List Rea):=KR x5 x1 (II x5 x1 r1 x0)
abbrev IK(x5 x1:Int)(r1)(x0:List Rea):=KS x5 x1 (IJ x5 x1 r1 x0)
abbrev Ep(x5:Int)(r2)(x1:Int)(r1)(x0:List Rea):=KO x5 r2 (IK x5 x1 r1 x0)
abbrev Er(x5:Int)(r3_2 r2)(x1:Int)(r1)(x0:List Rea):=KP x5 r3_2 (Ep x5 r2 x1 r1 x0)
abbrev Es(x5:Int)(r4_2 r3_2 r2)(x1:Int)(r1)(x0:List Rea):=KN x5 r4_2 (Er x5 r3_2 r2 x1 r1 x0)
def EC(N:Nat):Nat->List Rea->Int->Int->Option (Int×(List Rea))
 |0,_,_,_=>none
 |n+1,x0,x1,x5=>cond (decide (x5<x0.length)) (ite (0<=x5/\x5<x0.length) (if(0:Int)<=x5/\x5<(length (IE x0 x5 x1)) then if(0:Int)<=x5/\x5<(length (IF x5 x1 x0)) then(Bx N (V.wrap ((V.wrap ((V.wrap (x1+1))+1))+1))).bind fun r1=>if(0:Int)<=x5/\x5<(length (IG x5 x1 x0)) then if(0:Int)<=x5/\x5<(length (IH x5 r1 x1 x0)) then if(0:Int)<=x5/\x5<(length (II x5 x1 r1 x0)) then if(0:Int)<=x5/\x5<(length (IJ x5 x1 r1 x0)) then(Bx N (V.wrap ((V.wrap ((V.wrap ((V.wrap ((V.wrap ((V.wrap ((V.wrap (x1+1))+1))+1))+1))+1))+1))+1))).bind fun r2=>if(0:Int)<=x5/\x5<(length (IK x5 x1 r1 x0)) then if(0:Int)<=x5/\x5<(length (Ep x5 r2 x1 r1 x0)) then(ED N (Val.list (Rea.result (List.getD (Ep x5 r2 x1 r1 x0) x5.toNat De))) (V.wrap ((V.wrap ((V.wrap ((V.wrap ((V.wrap ((V.wrap ((V.wrap ((V.wrap (x1+1))+1))+1))+1))+1))+1))+1))+1))).bind fun r3=>if r3.2.length=length (Val.list (Rea.result (List.getD (Ep x5 r2 x1 r1 x0) x5.toNat De))) then if(0:Int)<=x5/\x5<(length (Er x5 r3.2 r2 x1 r1 x0)) then(IN N (Val.columns (Rea.result (List.getD (Er x5 r3.2 r2 x1 r1 x0) x5.toNat De))) r3.1).bind fun r4=>if r4.2.length=length (Val.columns (Rea.result (List.getD (Er x5 r3.2 r2 x1 r1 x0) x5.toNat De))) then if(0:Int)<=x5/\x5<(length (Es x5 r4.2 r3.2 r2 x1 r1 x0)) then(IL N (Val.rows (Rea.result (List.getD (Es x5 r4.2 r3.2 r2 x1 r1 x0) x5.toNat De))) r4.1).bind fun r5=>if r5.2.length=length (Val.rows (Rea.result (List.getD (Es x5 r4.2 r3.2 r2 x1 r1 x0) x5.toNat De))) then(EC N n ((fun(z103:List Rea)=>z103.set x5.toNat (Rea.mk (Rea.kind (z103.getD x5.toNat De)) (Rea.n (z103.getD x5.toNat De)) (Rea.time (z103.getD x5.toNat De)) (Rea.text (z103.getD x5.toNat De)) (Val.mk (Val.kind (Rea.result (z103.getD x5.toNat De))) (Val.n (Rea.result (z103.getD x5.toNat De))) (Val.step (Rea.result (z103.getD x5.toNat De))) (Val.text (Rea.result (z103.getD x5.toNat De))) (Val.list (Rea.result (z103.getD x5.toNat De))) (Val.columns (Rea.result (z103.getD x5.toNat De))) r5.2))) (Es x5 r4.2 r3.2 r2 x1 r1 x0)) r5.1 (V.wrap (x5+1))) else none else none else none else none else none else none else none else none else none else none else none else none else none) none) (some (x1,x0))
def KI(N:Nat)(a0:List Rea)(a1:Int):Option (Int×(List Rea)):=EC N N a0 a1 0
def Po(r:Int×(List Fil)):CallO:=⟨(vI r.1),[],[.sl (.lnt 0) .fil r.2]⟩
def IB(N:Nat):Nat->List Fil->Int->Int->Option (Int×(List Fil))
 |0,_,_,_=>none
 |n+1,x0,x1,x5=>cond (decide (x5<x0.length)) ((Bx N x1).bind fun r1=>ite (0<=x5/\x5<x0.length) (if(0:Int)<=x5/\x5<(length (x0.set x5.toNat (Fil.mk r1 (Fil.n (x0.getD x5.toNat Ty.fil.dflt))))) then(IB N n ((fun(z1:List Fil)=>z1.set x5.toNat (Fil.mk (Fil.name (z1.getD x5.toNat Ty.fil.dflt)) (V.wrap (x1+1)))) (x0.set x5.toNat (Fil.mk r1 (Fil.n (x0.getD x5.toNat Ty.fil.dflt))))) (V.wrap ((V.wrap (x1+1))+1)) (V.wrap (x5+1))) else none) none) (some (x1,x0))
def Mj(N:Nat)(a0:List Fil)(a1:Int):Option (Int×(List Fil)):=IB N N a0 a1 0
def Mt(N:Nat)(a0:Wld)(a1:Int):Option (Int×(List Fil)):=(Mj N a0.files a1).bind fun r1=>if r1.2.length=a0.files.length then some (r1.1,r1.2) else none
def xJy(r:Int×(List Val)×(List Str)×(List Rowd)):CallO:=⟨(vI r.1),[],[.sl (.lnt 0) .val r.2.1,.sl (.lnt 1) .str r.2.2.1,.sl (.lnt 2) .row r.2.2.2]⟩
def Mn(N:Nat)(a0:Val)(a1:Int):Option (Int×(List Val)×(List Str)×(List Rowd)):=(ED N a0.list a1).bind fun r1=>if r1.2.length=a0.list.length then(IN N a0.columns r1.1).bind fun r2=>if r2.2.length=a0.columns.length then(IL N a0.rows r2.1).bind fun r3=>if r3.2.length=a0.rows.length then some (r3.1,r1.2,r2.2,r3.2) else none else none else none
def xJv(r:Int×(List Val)×(List Str)×(List Rowd)×(List Rea)):CallO:=⟨(vI r.1),[],[.sl (.lnt 0) .val r.2.1,.sl (.lnt 1) .str r.2.2.1,.sl (.lnt 2) .row r.2.2.2.1,.sl (.lnt 3) .rea r.2.2.2.2]⟩
def Mk(N:Nat)(a0:Outc)(a1:Int):Option (Int×(List Val)×(List Str)×(List Rowd)×(List Rea)):=(Mn N a0.value a1).bind fun r1=>if r1.2.1.length=length (a0.value.list) then if r1.2.2.1.length=length (a0.value.columns) then if r1.2.2.2.length=length (a0.value.rows) then(KI N a0.reads r1.1).bind fun r2=>if r2.2.length=a0.reads.length then some (r2.1,r1.2.1,r1.2.2.1,r1.2.2.2,r2.2) else none else none else none else none
def Ht(N:Nat):Nat->List Str->Int->Int->Option Int
 |0,_,_,_=>none
 |n+1,x0,x1,x5=>cond (decide (x5<x0.length)) (ite (0<=x5/\x5<x0.length) ((Bx N x1).bind fun r1=>cond (!(((x0.getD x5.toNat Ds):Str)==r1)) (some (-1)) (Ht N n x0 (V.wrap (x1+1)) (V.wrap (x5+1)))) none) (some x1)
def KD(N:Nat)(a0:List Str)(a1:Int):Option Int:=Ht N N a0 a1 0
def Hp(N:Nat):Nat->List Int->Int->Int->Option Int
 |0,_,_,_=>none
 |n+1,x0,x1,x5=>cond (decide (x5<x0.length)) (ite (0<=x5/\x5<x0.length) (cond ((x0.getD x5.toNat Di) != x1) (some (-1)) (Hp N n x0 (V.wrap (x1+1)) (V.wrap (x5+1)))) none) (some x1)
def P8(N:Nat)(a0:List Int)(a1:Int):Option Int:=Hp N N a0 a1 0
def Hq(N:Nat):Nat->List Org->Int->Int->Option Int
 |0,_,_,_=>none
 |n+1,x0,x1,x5=>cond (decide (x5<x0.length)) (ite (0<=x5/\x5<x0.length) (cond (((Org.cell (x0.getD x5.toNat Do)):Int) != x1) (some (-1)) (cond (((Org.row (x0.getD x5.toNat Do)):Int) != (V.wrap (x1+1))) (some (-1)) (Hq N n x0 (V.wrap ((V.wrap (x1+1))+1)) (V.wrap (x5+1))))) none) (some x1)
def P9(N:Nat)(a0:List Org)(a1:Int):Option Int:=Hq N N a0 a1 0
def Hs(N:Nat):Nat->List Rowd->Int->Int->Option Int
 |0,_,_,_=>none
 |n+1,x0,x1,x5=>cond (decide (x5<x0.length)) (ite (0<=x5/\x5<x0.length) ((P8 N (Rowd.cells (x0.getD x5.toNat Dr)) x1).bind fun r1=>cond (decide (r1<0)) (some (-1)) ((P9 N (Rowd.frm (x0.getD x5.toNat Dr)) r1).bind fun r2=>cond (decide (r2<0)) (some (-1)) (Hs N n x0 r2 (V.wrap (x5+1))))) none) (some x1)
def KC(N:Nat)(a0:List Rowd)(a1:Int):Option Int:=Hs N N a0 a1 0
def Hu(N:Nat)(q0:List Val->Int->Option Int):Nat->List Val->Int->Int->Option Int
 |0,_,_,_=>none
 |n+1,x0,x1,x5=>cond (decide (x5<x0.length)) (ite (0<=x5/\x5<x0.length) (cond (((Val.kind (x0.getD x5.toNat Dv)):Int) != x1) (some (-1)) (cond (((Val.n (x0.getD x5.toNat Dv)):Int) != (V.wrap (x1+1))) (some (-1)) (cond (((Val.step (x0.getD x5.toNat Dv)):Int) != (V.wrap ((V.wrap (x1+1))+1))) (some (-1)) ((Bx N (V.wrap ((V.wrap ((V.wrap (x1+1))+1))+1))).bind fun r1=>cond (!(((Val.text (x0.getD x5.toNat Dv)):Str)==r1)) (some (-1)) ((q0 (Val.list (x0.getD x5.toNat Dv)) (V.wrap ((V.wrap ((V.wrap ((V.wrap (x1+1))+1))+1))+1))).bind fun r2=>cond (decide (r2<0)) (some (-1)) ((KD N (Val.columns (x0.getD x5.toNat Dv)) r2).bind fun r3=>cond (decide (r3<0)) (some (-1)) ((KC N (Val.rows (x0.getD x5.toNat Dv)) r3).bind fun r4=>cond (decide (r4<0)) (some (-1)) (Hu N q0 n x0 r4 (V.wrap (x5+1)))))))))) none) (some x1)
def xAI(N:Nat)(q0:List Val->Int->Option Int)(a0:List Val)(a1:Int):Option Int:=Hu N q0 N a0 a1 0
def KF(N:Nat):Nat->List Val->Int->Option Int
 |0,_,_=>none
 |d+1,a0,a1=>xAI N (KF N d) a0 a1
def KE(N:Nat)(a0:List Val)(a1:Int):Option Int:=KF N N a0 a1
def M9(N:Nat)(a0:Val)(a1:Int):Option Int:=(KE N a0.list a1).bind fun r1=>cond (decide (r1<0)) (some (-1)) ((KD N a0.columns r1).bind fun r2=>cond (decide (r2<0)) (some (-1)) ((KC N a0.rows r2).bind fun r3=>cond (decide (r3<0)) (some (-1)) (some r3)))
def Hr(N:Nat):Nat->List Rea->Int->Int->Option Int
 |0,_,_,_=>none
 |n+1,x0,x1,x5=>cond (decide (x5<x0.length)) (ite (0<=x5/\x5<x0.length) (cond (((Rea.kind (x0.getD x5.toNat De)):Int) != x1) (some (-1)) (cond (((Rea.n (x0.getD x5.toNat De)):Int) != (V.wrap (x1+1))) (some (-1)) (cond (((Rea.time (x0.getD x5.toNat De)):Int) != (V.wrap ((V.wrap (x1+1))+1))) (some (-1)) ((Bx N (V.wrap ((V.wrap ((V.wrap (x1+1))+1))+1))).bind fun r1=>cond (!(((Rea.text (x0.getD x5.toNat De)):Str)==r1)) (some (-1)) (cond (((Val.kind (Rea.result (x0.getD x5.toNat De))):Int) != (V.wrap ((V.wrap ((V.wrap ((V.wrap (x1+1))+1))+1))+1))) (some (-1)) (cond (((Val.n (Rea.result (x0.getD x5.toNat De))):Int) != (V.wrap ((V.wrap ((V.wrap ((V.wrap ((V.wrap (x1+1))+1))+1))+1))+1))) (some (-1)) (cond (((Val.step (Rea.result (x0.getD x5.toNat De))):Int) != (V.wrap ((V.wrap ((V.wrap ((V.wrap ((V.wrap ((V.wrap (x1+1))+1))+1))+1))+1))+1))) (some (-1)) ((Bx N (V.wrap ((V.wrap ((V.wrap ((V.wrap ((V.wrap ((V.wrap ((V.wrap (x1+1))+1))+1))+1))+1))+1))+1))).bind fun r2=>cond (!(((Val.text (Rea.result (x0.getD x5.toNat De))):Str)==r2)) (some (-1)) ((KE N (Val.list (Rea.result (x0.getD x5.toNat De))) (V.wrap ((V.wrap ((V.wrap ((V.wrap ((V.wrap ((V.wrap ((V.wrap ((V.wrap (x1+1))+1))+1))+1))+1))+1))+1))+1))).bind fun r3=>cond (decide (r3<0)) (some (-1)) ((KD N (Val.columns (Rea.result (x0.getD x5.toNat De))) r3).bind fun r4=>cond (decide (r4<0)) (some (-1)) ((KC N (Val.rows (Rea.result (x0.getD x5.toNat De))) r4).bind fun r5=>cond (decide (r5<0)) (some (-1)) (Hr N n x0 r5 (V.wrap (x5+1)))))))))))))) none) (some x1)
def Pa(N:Nat)(a0:List Rea)(a1:Int):Option Int:=Hr N N a0 a1 0
def KB(N:Nat)(a0:Outc)(a1:Int):Option Int:=(M9 N a0.value a1).bind fun r1=>cond (decide (r1<0)) (some (-1)) ((Pa N a0.reads r1).bind fun r2=>cond (decide (r2<0)) (some (-1)) (some r2))
def GA(N:Nat)(a0:Exp)(a1:List Bnd)(a2:List Rea)(a3:Wld)(a4 a5:Int):Option Bool:=(Py N a0 1048576).bind fun r1=>cond (decide (r1<0)) (some true) ((Px N a1 r1).bind fun r2=>cond (decide (r2<0)) (some true) ((QC N a2 r2).bind fun r3=>cond (decide (r3<0)) (some true) ((QF N a3 r3).bind fun r4=>cond (decide (r4<0)) (some true) ((IX N a0).bind fun r5=>(GB N a1).bind fun r6=>(GC N a2).bind fun r7=>(GE N a3).bind fun r8=>(Ko N r5 r6 r7 r8 a4 a5).bind fun r9=>(IX N a0).bind fun r10=>(GB N a1).bind fun r11=>(GC N a2).bind fun r12=>(GE N a3).bind fun r13=>(HT N r10 r11 r12 r13 a4 a5).bind fun r14=>(Hk N r14 r9).bind fun r15=>cond (!r15) (some false) ((IX N a0).bind fun r16=>(P4 N r10 r16).bind fun r17=>cond (!r17) (some false) ((GB N a1).bind fun r18=>(MU N r11 r18).bind fun r19=>cond (!r19) (some false) ((GC N a2).bind fun r20=>(Jz N r12 r20).bind fun r21=>cond (!r21) (some false) ((GE N a3).bind fun r22=>(M8 N r13 r22).bind fun r23=>cond (!r23) (some false) ((Mg N r10 1).bind fun r24=>if r24.2.length=r10.args.length then(Pd N r11 r24.1).bind fun r25=>if r25.2.length=r11.length then(KI N r12 r25.1).bind fun r26=>if r26.2.length=r12.length then(Mt N r13 r26.1).bind fun r27=>if r27.2.length=r13.files.length then cond (decide (r27.1<0)) (some false) ((Hk N r14 r9).bind fun r28=>cond (!r28) (some false) ((Mk N r14 1).bind fun r29=>if r29.2.1.length=length (r14.value.list) then if r29.2.2.1.length=length (r14.value.columns) then if r29.2.2.2.1.length=length (r14.value.rows) then if r29.2.2.2.2.length=r14.reads.length then(KB N (Outc.mk (Val.mk (r14.value.kind) (r14.value.n) (r14.value.step) (r14.value.text) r29.2.1 r29.2.2.1 r29.2.2.2.1) r29.2.2.2.2 r14.steps) 1).bind fun r30=>cond (decide (r30<0)) (some false) (cond (r30 != r29.1) (some false) ((IX N a0).bind fun r31=>(GB N a1).bind fun r32=>(GC N a2).bind fun r33=>(GE N a3).bind fun r34=>(HT N r31 r32 r33 r34 a4 a5).bind fun r35=>(Hk N r35 r9).bind fun r36=>cond (!r36) (some false) ((KB N (Outc.mk (Val.mk (r14.value.kind) (r14.value.n) (r14.value.step) (r14.value.text) r29.2.1 r29.2.2.1 r29.2.2.2.1) r29.2.2.2.2 r14.steps) 1).bind fun r37=>cond (decide (r37<0)) (some false) (cond (r37 != r29.1) (some false) (some true))))) else none else none else none else none)) else none else none else none else none)))))))))
end Go.Ab
end
section
namespace Go.Ab
open Go.Proofs Go.Shelf
variable {P:Program} {ρ:Ren}
theorem xF4(L:Lays.n125 P ρ):∀args w,(callFunc (ρ.f 125) args).run P w= .ok (.enter (ρ.f 125) args) w:=enters_of L.f125 (by kernel_rfl) rfl
end Go.Ab
end
section
namespace Go.Ab
open Go.Lib Go.Extern Go.Proofs Go.Shelf
variable [Inhabited Lb]
def OrgRow(w:World)(br cap:Nat)(xs:List Org):Prop:=
 xs.length<=cap/\∃cs ty lo hi,w.heap[br]? =some (.cells cs ty (lo,hi))/\cap*2=cs.size/\(∀o,lo<=o->o<hi->cap*2<=o)/\
  ∀m (hm:m<xs.length) k (hk:k<2),cs[m*2+k]? =some ((bV xs[m])[k]'hk)
def OrgRow.rd{E:Env}{br cap:Nat}{xs:List Org}(h:OrgRow E.w br cap xs){pl:Pl}{c:Nat}(ho:E.ow br=some (.arr pl c []))(hw:E.hw br=xs.length*2)(n:Nat)(hh:E.hdr n= .slice (some ⟨br,0,none⟩) xs.length cap):
 RdP E.w (okF E pl c (.lnt n)) (qF E pl c (.lnt n)) (.slice (some ⟨br,0,none⟩) xs.length cap) (.sl 2 (xs.map Ty.org.toD)):=by
 obtain⟨hcap,cs,ty,lo,hi,t4,t5,t6,hc⟩:=h;refine .sl br 0 xs.length cap 2 _ (fun m k=>if h:m<xs.length/\k<2 then(bV xs[m])[k]'h.2 else .bool false) (by simp) hcap (fun r hr=> ?_) ⟨⟨ho,hw,hcap,cs,ty,lo,hi,t4,t5,t6⟩,fun _=>hh.symm⟩ (fun m k hm hk=> ?_) (fun m k hm hk=> ?_)
 ·obtain⟨y,_,rfl⟩:=Zk.1 hr;exact Ty.toD_length .org y
 ·rw [dif_pos ⟨hm,hk⟩];refine⟨?_,?_,ho⟩
  all_goals grind [World.cell?]
 ·have hm' :m<xs.length:=by grind
  have hr:(xs.map Ty.org.toD)[m]=Ty.org.toD xs[m]:=by grind
  have hk' :k<2:=by rw [hr] at hk;exact hk
  rw [dif_pos ⟨hm',hk'⟩];simp only [hr]
  match k,hk' with
  |0,_=>exact .int .i64 _
  |1,_=>exact .int .i64 _
theorem OrgRow.of{E:Env}{pl:Pl}{c n br cap:Nat}{xs:List Org}(hx:xs≠ [])(h:RdP E.w (okF E pl c (.lnt n)) (qF E pl c (.lnt n)) (.slice (some ⟨br,0,none⟩) xs.length cap) (.sl 2 (xs.map Ty.org.toD))):OrgRow E.w br cap xs:=by
 obtain⟨b,off,cap',e,hcap,hrl,hq,u,hcl,hk⟩:=RdP.cells h (by simpa using hx);rw [Zm] at e;obtain⟨rfl,rfl,rfl⟩:br=b/\0=off/\cap=cap' :=by grind
 obtain⟨t1,t2,t3,cs,ty,lo,hi',t4,t5,t6⟩:=hq.1;rw [Zm] at hcap;refine⟨hcap,cs,ty,lo,hi',t4,t5,t6,fun m hm k hk2=> ?_⟩;have g1:=(hcl m k (by grind) hk2).1;have hr:((xs.map Ty.org.toD)[m]'(by grind))=Ty.org.toD xs[m]:=by grind
 have g2:=hk m k (by grind) (by grind);rw [Zc] at g1;simp only [World.cell?,t4] at g1;simp only [hr] at g2
 match k,hk2,g1,g2 with
 |0,_,g1,g2=>generalize u m 0=x at g1 g2;simp only [Ty.toD,List.getElem_cons_zero] at g2;cases g2;exact g1
 |1,_,g1,g2=>generalize u m 1=x at g1 g2;simp only [Ty.toD,List.getElem_cons_succ,List.getElem_cons_zero] at g2;cases g2;exact g1
structure Sorted (w:World) (bo br cap:Nat) (xs ys:List Org) (w' :World):Prop where
 os:w'.os=w.os
 tape:w'.tape=w.tape
 output:w'.output=w.output
 size:w.heap.size<=w'.heap.size
 old:∀b,b<w.heap.size->b≠bo->b≠br->w'.heap[b]? =w.heap[b]?
 box:∃ty,w'.heap[bo]? =some (.cells #[.slice (some ⟨br,0,none⟩) xs.length cap] ty (0,0))
 row:OrgRow w' br cap ys
def xLR{P:Program}{ρ:Ren}(L:LaysGg.n6 P ρ)(t e:TypeId)(i ie:TypeInfo)(hi:P.info? t=some i)(hd:i.desc= .slice e)(hpk:P.packed t=false)(hie:P.info? e=some ie)(ke:Nat)
 (hke:∀w,(Extern.Rtype.kind e).run P w= .ok ke w) (hnp:ie.hasPointers=false) (hby:ie.bytes=16) (f lf:Nat) (hf:P.funcs.findIdx? (·.name== "internal/reflectlite" ++ ".Swapper$9")=some f)
 {xs ys:List Org} (hl:ys.length=xs.length) (h2:2<=xs.length) (hlen:xs.length<4611686018427387904)
 (hpdq:AbsCalls P (ρ.f 14) [.val (.v true [.clo lf [gi 4],.swp f 0 (typeHandle P e) (gi 4)]),.val (.v false [.int .i64 0]),.val (.v false [.int .i64 xs.length]),.val (.v false [.int .i64 (Lib.bitLen xs.length)]),.gbox [.sl (.lnt 0) .org xs]] ⟨.tup [],[[.sl (.lnt 0) .org ys]],[]⟩)
 {w:World} {bo br cap:Nat} {ty:TypeId} (hbo:w.heap[bo]? =some (.cells #[.slice (some ⟨br,0,none⟩) xs.length cap] ty (0,0))) (hbr:OrgRow w br cap xs) (hne:bo≠br)
 (hbase:∀x∈kE,x.1<w.heap.size/\x.1≠bo/\x.1≠br/\w.heap[x.1]? =some x.2):
 Calls P (ρ.f 6) #[.iface t (.slice (some ⟨br,0,none⟩) xs.length cap),.func (.func lf) #[] #[.pointer (some ⟨bo,0,none⟩)]] w fun en w' =>en= .returned (.tuple #[])/\Sorted w bo br cap xs ys w' :=by
 have hk9:swapperK xs.length ie ke=9:=by
  grind [swapperK]
 have hbol:bo<w.heap.size:=(Zb.1 hbo).1;have hbrl:br<w.heap.size:=by
  obtain⟨_,cs,ty,lo,hi,h,_⟩:=hbr
  grind
 refine Any.sort_Slice_of_pdq L t e i ie hi hd hpk hie ke hke (some ⟨br,0,none⟩) xs.length cap hlen f (by rw [hk9];exact hf) (.func lf) #[] #[.pointer (some ⟨bo,0,none⟩)] w (Sorted w bo br cap xs ys) ?_;generalize hW:sliceWorld P ρ t (some ⟨br,0,none⟩) xs.length cap w=W;have hWs:W.heap.size=w.heap.size+2:=by grind [sliceWorld,nQ]
 have hWo:∀b,b<w.heap.size->W.heap[b]? =w.heap[b]? :=by
  intro b hb;rw [<-hW];unfold sliceWorld;have al:∀(w:World) (o:Obj) (b:Nat),b<w.heap.size->(w.alloc o).heap[b]? =w.heap[b]? :=fun w o b hb=>by
   show(w.heap.push o)[b]? =_
   grind
  grind
 have hWos:W.os=w.os/\W.tape=w.tape/\W.output=w.output:=by rw [<-hW];exact⟨rfl,rfl,rfl⟩
 let E:Env:= { w:=W,hw:=fun b=>if b=br then xs.length*2 else if b=bo then 0 else match w.heap[b]? with |some o=>mN o|none=>0,
               ow:=fun b=>if b=bo then some (.box (gi 4)) else if b=br then some (.arr (.k (2*gi 4+1)) 0 []) else none,bx:=fun _=>bo,hdr:=fun _=> .slice (some ⟨br,0,none⟩) xs.length cap }
 have o1:E.ow bo=some (.box (gi 4)):=Zt rfl;have o2:E.ow br=some (.arr (.k (2*gi 4+1)) 0 []):=by grind
 have o3:∀b,b≠bo->b≠br->E.ow b=none:=fun b h1 h2=>by grind
 have hw2:E.hw br=xs.length*2:=Zt rfl;have hE:EnvOk E:=by
  refine⟨fun b hb=> ?_,fun b b' l h1 h2=> ?_,fun b s h=> ?_⟩
  all_goals grind
 have hB:fH E:=by
  intro x hx
  grind
 have hrow:OrgRow E.w br cap xs:=by
  obtain⟨h1,cs,ty',lo,hi',h3,h4⟩:=hbr;exact⟨h1,cs,ty',lo,hi',(hWo br hbrl).trans h3,h4⟩
 have hsb:sliceBound P e ie ke (some ⟨br,0,none⟩) xs.length cap= #[.slice (some ⟨br,0,none⟩) xs.length cap,typeHandle P e]:=by
  grind [sliceBound]
 rw [hsb]
 have hA:ArgsAt E 0 [.val (.v true [.clo lf [gi 4],.swp f 0 (typeHandle P e) (gi 4)]),.val (.v false [.int .i64 0]),.val (.v false [.int .i64 xs.length]),.val (.v false [.int .i64 (Lib.bitLen xs.length)]),.gbox [.sl (.lnt 0) .org xs]]
  (#[.agg #[.func (.func lf) #[] #[.pointer (some ⟨bo,0,none⟩)],.func (.func f) #[] #[.slice (some ⟨br,0,none⟩) xs.length cap,typeHandle P e]],.int .i64 0,.int .i64 xs.length,.int .i64 (Lib.bitLen xs.length)]:Array Value).toList:=by
  refine⟨⟨_,rfl,⟨rfl,fun _ _=>trivial⟩,⟨⟨rfl,rfl⟩,fun ad l c he h=>rfl⟩,trivial⟩,⟨rfl,trivial⟩,⟨rfl,trivial⟩,⟨rfl,trivial⟩,⟨o1,_,ty,(hWo bo hbol).trans hbo,?_,trivial⟩,trivial⟩;exact OrgRow.rd hrow o2 hw2 0 rfl
 have hdo:=hpdq E _ hE hB hA;have e14:∀args w,(callFunc (ρ.f 14) args).run P w= .ok (.enter (ρ.f 14) args) w:=enters_of L.f14 (by kernel_rfl) rfl;rcases hdo with ⟨v,w',h1,_⟩|⟨_,h1⟩
 ·grind
 refine h1.mono fun en w' hen=> ?_;cases en with
 |returned v=>
  obtain⟨E',rfl,hx⟩:=hen;have hv:v= .tuple #[]:=by
   obtain⟨vs,rfl,hvs⟩:=(hx.res.vr rfl:VR E' aL (.h 0) (.tup []) v);cases vs with
   |mk l=>cases l with
    |nil=>rfl
    |cons x l=>exact hvs.elim
  subst hv;obtain⟨⟨b1,vals,ty',b2,b3⟩,_⟩:=(hx.outs:bS E' (gi 4) bo [.sl (.lnt 0) .org ys]/\True);have hhdr:E'.hdr 0= .slice (some ⟨br,0,none⟩) xs.length cap:=by rw [hx.hdr]
  cases vals with
  |mk l=>
   match l,b3 with
   | [hv],b3=>
     have b4:RdP E'.w (okF E' (.k (2*gi 4+1)) 0 (.lnt 0)) (qF E' (.k (2*gi 4+1)) 0 (.lnt 0)) hv (.sl 2 (ys.map Ty.org.toD)):=b3.1;have b5:hv=E'.hdr 0:=(RdP.top b4).2 rfl;rw [hhdr] at b5;subst b5;refine⟨rfl,hx.os.trans hWos.1,hx.tape.trans hWos.2.1,hx.output.trans hWos.2.2,by have:=hx.size;grind,fun b hb hb1 hb2=> ?_,⟨ty',b2⟩,?_⟩
     ·exact((hx.old b (by grind) (o3 b hb1 hb2)).1).trans (hWo b hb)
     grind [OrgRow.of]
   | [],b3=>exact b3.elim
   |_::_::_,b3=>exact b3.2.elim
 |_=>grind
end Go.Ab
end
section
namespace Go.Ab
open Go.Proofs Go.RowKit
structure OrgT (P:Program) (te ti tm tb ts:TypeId):Prop where
 key:P.underlying te=some (.struct #[{ name:= "Cell",type:=ti,offset:=0,embedded:=false,tag:= "",pkgPath:= "",byteOffset:=0 },{ name:= "Row",type:=ti,offset:=1,embedded:=false,tag:= "",pkgPath:= "",byteOffset:=8 }])
 held:P.stoodInHeld te=false
 int:P.underlying ti=some (.int .i64)
 map:P.underlying tm=some (.map te tb)
 zero:∀w,(zeroValue tb).run P w= .ok (.bool false) w
 slice:P.underlying ts=some (.slice te)
def Be(o:Org):Value:= .agg #[.int .i64 o.cell,.int .i64 o.row]
section
variable {P:Program} {te ti tm tb ts:TypeId} (T:OrgT P te ti tm tb ts) {w:World}
include T
theorem xBH:P.plainKey ti=true:=by simp [Program.plainKey,T.int]
theorem xBx(o:Org):(part ti #[.int .i64 o.cell,.int .i64 o.row] 0).run P w= .ok (.int .i64 o.cell) w:=run_part_plain w (xBH T) rfl
theorem xBy(o:Org):(part ti #[.int .i64 o.cell,.int .i64 o.row] 1).run P w= .ok (.int .i64 o.row) w:=run_part_plain w (xBH T) rfl
theorem xLu(em:Bool)(n:Nat)(k:IntKind)(x:Int):(Instr.checkKey em (n+1) ti (.int k x)).run P w= .ok () w:=by
 unfold Instr.checkKey;simp [run_underlying T.int]
theorem xBP(em:Bool)(n:Nat)(o:Org):(Instr.checkKey em (n+2) te (Be o)).run P w= .ok () w:=by
 unfold Instr.checkKey Be;simp [run_underlying T.key,xBx T,xBy T,xLu T,Result.andThen]
theorem xBQ(a b:Org):(Op.equal te (Be a) (Be b)).run P w= .ok (a==b) w:=by
 have hf:P.fieldsOf te= #[{ name:= "Cell",type:=ti,offset:=0,embedded:=false,tag:= "",pkgPath:= "",byteOffset:=0 },{ name:= "Row",type:=ti,offset:=1,embedded:=false,tag:= "",pkgPath:= "",byteOffset:=8 }]:=by unfold Program.fieldsOf;rw [T.key]
 show(Op.equalIn 10000 te (.agg _) (.agg _)).run P w=_;rw [run_equalIn_agg w 9999 te _ _ (by rw [hf];exact T.key) T.held,hf];have e1:=run_equalIn_int (P:=P) w 9998 ti .i64 .i64 a.cell b.cell T.int;have e2:=run_equalIn_int (P:=P) w 9998 ti .i64 .i64 a.row b.row T.int;have h:(a==b)=((a.cell==b.cell)&&(a.row==b.row)):=by
  cases a;cases b
  grind
 rw [h];simp [Op.eqFields,xBx T,xBy T,e1,e2,Result.andThen]
 grind
end
def SetMap(w:World)(b:Nat)(ks:List Org):Prop:=
 ∃es clock,w.heap[b]? =some (.map es clock)/\es.toList.map (·.key)=ks.map Be/\∀e∈es.toList,e.val= .bool true
theorem SetMap.kept{w w' :World}{b:Nat}{ks:List Org}(h:SetMap w b ks)(e:w'.heap[b]? =w.heap[b]?):SetMap w' b ks:=by
 obtain⟨es,c,h1,h2⟩:=h;exact⟨es,c,e.trans h1,h2⟩
section
variable {P:Program} {te ti tm tb ts:TypeId} (T:OrgT P te ti tm tb ts) {w:World}
include T
theorem xGr(o:Org):∀(es:List MapEntry) (ks:List Org) (i:Nat),es.map (·.key)=ks.map Be->(∀e∈es,e.val= .bool true)->
 ∃r,(Instr.findAsking te (Be o) es i).run P w= .ok r w/\(ks.contains o=true->∃j,r=some (j,.bool true))/\(ks.contains o=false->r=none):=by
 intro es
 induction es with
 |nil=>
  intro ks i h _;have:ks=[]:=by simp_all
  subst this;exact⟨none,by simp [Instr.findAsking],by simp,fun _=>rfl⟩
 |cons e es ih=>
  intro ks i h hv;cases ks with
  |nil=>grind
  |cons k ks=>
   simp only [ZX,Y9] at h;obtain⟨h1,h2⟩:=h;obtain⟨r,hr,p1,p2⟩:=ih ks (i+1) h2 (fun x hx=>hv x (Zr _ hx));by_cases hk:o=k
   ·subst hk;refine⟨some (i,.bool true),?_,fun _=>⟨i,rfl⟩,by simp⟩;unfold Instr.findAsking;simp [h1,xBQ T,Result.andThen,hv e Zp]
   ·have hb:(o==k)=false:=by grind
    refine⟨r,?_,fun hc=>p1 ?_,fun hc=>p2 ?_⟩
    ·unfold Instr.findAsking;simp [h1,xBQ T,Result.andThen,hb,hr]
    all_goals grind
theorem S3(o:Org)(es:List MapEntry)(ks:List Org)(h:es.map (·.key)=ks.map Be)(hv:∀e∈es,e.val= .bool true):
 ∃r,(Instr.findKey te (Be o) es).run P w= .ok r w/\(ks.contains o=true->∃j,r=some (j,.bool true))/\(ks.contains o=false->r=none):=by
 cases es with
 |nil=>
  have:ks=[]:=by simp_all
  subst this;exact⟨none,by simp [Instr.findKey,run_underlying T.key,Instr.findNow,Result.andThen],by simp,fun _=>rfl⟩
 |cons e es=>
  cases ks with
  |nil=>grind
  |cons k ks=>
   obtain⟨r,hr,p⟩:=xGr T (w:=w) o (e::es) (k::ks) 0 h hv;refine⟨r,?_,p⟩;have:Instr.findNow (.struct #[{ name:= "Cell",type:=ti,offset:=0,embedded:=false,tag:= "",pkgPath:= "",byteOffset:=0 },{ name:= "Row",type:=ti,offset:=1,embedded:=false,tag:= "",pkgPath:= "",byteOffset:=8 }]) (Be o) (e::es) 0=none:=by
    simp [Instr.findNow,Instr.sameNow]
   simp [Instr.findKey,run_underlying T.key,this,Result.andThen,hr]
theorem xLv{b:Nat}{ks:List Org}(h:SetMap w b ks)(o:Org):(Instr.lookup tm (.map (some b)) (Be o) false).run P w= .ok (.bool (ks.contains o)) w:=by
 obtain⟨es,c,h1,h2,h3⟩:=h;obtain⟨r,hr,p1,p2⟩:=S3 T (w:=w) o es.toList ks h2 h3;unfold Instr.lookup;have hg:(getObj b).run P w= .ok (.map es c) w:=by grind [getObj,Sem.run]
 have hck:(Instr.checkKey es.isEmpty 10000 te (Be o)).run P w= .ok () w:=xBP T es.isEmpty 9998 o;cases hc:ks.contains o with
 |true=>
  obtain⟨j,rfl⟩:=p1 hc;simp [run_underlying T.map,hg,hck,hr,Result.andThen]
 |false=>
  obtain rfl:=p2 hc;simp [run_underlying T.map,hg,hck,hr,T.zero,Result.andThen]
theorem xLx{b:Nat}{ks:List Org}(h:SetMap w b ks)(o:Org)(hc:ks.contains o=false):
 ∃w',(Instr.mapUpdate tm (.map (some b)) (Be o) (.bool true)).run P w= .ok () w' /\SetMap w' b (ks++ [o])/\w.grownBy w' (some b)/\w'.heap.size=w.heap.size:=by
 obtain⟨es,c,h1,h2,h3⟩:=h;obtain⟨r,hr,p1,p2⟩:=S3 T (w:=w) o es.toList ks h2 h3;obtain rfl:=p2 hc;have hb:b<w.heap.size:=(Zb.1 h1).1;have hg:(getObj b).run P w= .ok (.map es c) w:=by grind [getObj,Sem.run]
 have hck:(Instr.checkKey false 10000 te (Be o)).run P w= .ok () w:=xBP T false 9998 o;have hs:∀ob,(setObj b ob).run P w= .ok () { w with heap:=w.heap.setIfInBounds b ob }:=by
  grind [setObj,Sem.run]
 refine⟨{ w with heap:=w.heap.setIfInBounds b (.map (es.push { key:=Be o,val:= .bool true,born:=c }) (c+1)) },?_,?_,⟨rfl,rfl,rfl,by simp,fun k hk hne=> ?_⟩,by simp⟩
 ·unfold Instr.mapUpdate;simp [run_underlying T.map,hg,hck,hr,hs,Result.andThen]
 ·refine⟨_,_,by simp [hb];exact⟨rfl,rfl⟩,?_,?_⟩
  all_goals grind
 grind
end
section
variable {P:Program} {te ti tm tb ts:TypeId} (w:World) {ops:Array Oper} {rest:List Oper} {o:Oper} {a:Act} {Q:Exit->Act->World->Prop}
theorem xC8(T:OrgT P te ti tm tb ts)(hg:o.guard=none)(m x:Operand)(hop:o.op=Op.lookup tm m x false)(b:Nat)(ks:List Org)(hm:a.eval m= .map (some b))(hs:SetMap w b ks)(c:Org)(hx:a.eval x=Be c)(bv:Bool)(hbv:ks.contains c=bv)
 (hK:wpList P ops Q rest (a.put o.dst (.bool bv)) w):wpList P ops Q (o::rest) a w:=by
 refine wpList_plain hg fun K' hK' => ?_;have hrun:=xLv T hs c;rw [hbv] at hrun;unfold Oper.wp;simp [execOp,hop,hm,hx,hrun,Result.andThen];exact hK' _ _ hK
theorem xOV(T:OrgT P te ti tm tb ts)(hg:o.guard=none)(m x v:Operand)(hop:o.op=Op.mapUpdate tm m x v)(b:Nat)(ks:List Org)(hm:a.eval m= .map (some b))(hs:SetMap w b ks)(c:Org)(hx:a.eval x=Be c)(hv:a.eval v= .bool true)
 (hc:ks.contains c=false) (hK:∀w',SetMap w' b (ks++ [c])->w.grownBy w' (some b)->w'.heap.size=w.heap.size->wpList P ops Q rest (a.put o.dst undef) w'):wpList P ops Q (o::rest) a w:=by
 refine wpList_plain hg fun K' hK' => ?_;obtain⟨w',hrun,r1,r2,r3⟩:=xLx T hs c hc;unfold Oper.wp;simp [execOp,hop,hm,hx,hv,hrun,Result.andThen];exact hK' _ _ (hK w' r1 r2 r3)
end
def BL(os:List Org):List Value:=os.flatMap bV
theorem I5:∀os:List Org,(BL os).length=os.length*2
 | []=>rfl
 |o::os=>by
  show(bV o++BL os).length=_;rw [jA,I5 os]
  grind [bV]
theorem xKX(a b:List Org):BL (a++b)=BL a++BL b:=List.flatMap_append
theorem GM:∀(os:List Org) (m:Nat) (hm:m<os.length) (k:Nat) (hk:k<2),(BL os)[m*2+k]? =some ((bV os[m])[k]'hk)
 | [],m,hm,_,_=>absurd hm (by simp)
 |o::os,0,hm,k,hk=>by
  grind [bV,BL]
 |o::os,m+1,hm,k,hk=>by
  show(bV o++BL os)[(m+1)*2+k]? =_;rw [ZS (by show 2<=_;omega)];have e:(m+1)*2+k - (bV o).length=m*2+k:=by show(m+1)*2+k - 2=_;omega
  rw [e];exact GM os m (by grind) k hk
theorem xKY(os:List Org):∀u∈BL os,u.oneCell' =true:=by
 intro u hu;obtain⟨o,_,hu⟩:=ZJ.1 hu;simp only [bV,Zh,Z6,or_false] at hu;rcases hu with rfl|rfl <;>rfl
def RowIn(w:World)(v:Value)(os:List Org):Prop:=
 ∃p c,v= .slice p os.length c/\(os=[]\/∃a:Addr,p=some a/\a.block<w.heap.size/\∀j u,(BL os)[j]? =some u->w.cell? (a.add j)=some u)
theorem xLt{P:Program}(w:World)(t ty e:TypeId)(i:TypeInfo)(ht:P.underlying t=some (.slice e))(hi:P.info? e=some i)(b:Option Addr)(n cap c:Nat)(h:n<=cap):
 (Builtin.append_ #[t,t] ty #[.slice b n cap,.slice none 0 c]).run P w= .ok (.slice b n cap) w:=by
 cases b with
 |none=>simp [Builtin.append_,run_underlying ht,sizeOf,typeInfo,hi,Builtin.lenOf,Builtin.firstCells,h,Result.andThen]
 |some ad=>simp [Builtin.append_,run_underlying ht,sizeOf,typeInfo,hi,Builtin.lenOf,Builtin.firstCells,storeCells,h,Result.andThen]
def OwnRow(w:World)(te g cap:Nat)(xs:List Org):Prop:=
 ∃cur,w.heap[g]? =some (.cells cur te (0,0))/\xs.length<=cap/\cap<=maxLen/\cur.size=cap*2/\cur.toList.take (xs.length*2)=BL xs
theorem OwnRow.kept{w w' :World}{te g cap:Nat}{xs:List Org}(h:OwnRow w te g cap xs)(e:w'.heap[g]? =w.heap[g]?):OwnRow w' te g cap xs:=by
 obtain⟨cur,h1,h2⟩:=h;exact⟨cur,e.trans h1,h2⟩
theorem OwnRow.lt{w:World}{te g cap:Nat}{xs:List Org}(h:OwnRow w te g cap xs):g<w.heap.size:=by
 obtain⟨cur,h1,h2⟩:=h
 grind
theorem OwnRow.cell{w:World}{te g cap:Nat}{xs:List Org}(h:OwnRow w te g cap xs){j:Nat}{u:Value}(hj:(BL xs)[j]? =some u):w.cell? ⟨g,j,none⟩=some u:=by
 obtain⟨cur,h1,h2,h3,h4,h5⟩:=h
 grind [World.cell?]
theorem OwnRow.org{w:World}{te g cap:Nat}{xs:List Org}(h:OwnRow w te g cap xs):OrgRow w g cap xs:=by
 have hc:=fun j u=>h.cell (j:=j) (u:=u);obtain⟨cur,h1,h2,h3,h4,h5⟩:=h;refine⟨h2,cur,te,0,0,h1,h4.symm,fun o a b=>by omega,fun m hm k hk=> ?_⟩;have:=hc _ _ (GM xs m hm k hk)
 grind
theorem xLs{P:Program}{te ti tm tb ts:TypeId}(T:OrgT P te ti tm tb ts)(w:World)(ty:Nat)(i:TypeInfo)(hi:P.info? te=some i){z:Value}(hz:i.zero=some z)(hsize:i.size=2)(hby:i.bytes=16)(hzs:z.cells.size=2)
 {g cap:Nat} {xs:List Org} (hown:OwnRow w te g cap xs) {u:Value} {ys:List Org} (hin:RowIn w u ys) (hlen:xs.length+ys.length<=1000000000000):
 ∃g' cap' w',(Builtin.append_ #[ts,ts] ty #[.slice (some ⟨g,0,none⟩) xs.length cap,u]).run P w= .ok (.slice (some ⟨g',0,none⟩) (xs++ys).length cap') w' /\OwnRow w' te g' cap' (xs++ys)/\w.grownBy w' (some g)/\(g' =g\/g' =w.heap.size):=by
 obtain⟨p,c,rfl,hp⟩:=hin
 have hown0:w.ownsRow 0 te 2 (.slice (some ⟨g,0,none⟩) xs.length cap) xs.length (BL xs):=by
  obtain⟨cur,h1,h2,h3,h4,h5⟩:=hown;exact⟨I5 xs,.inr ⟨g,cap,cur,rfl,Zg _,h1,h2,h3,h4,h5⟩⟩
 have main:∀ad:Addr,(∀j u,(BL ys)[j]? =some u->w.cell? (ad.add j)=some u)->∃g' cap' w',(Builtin.append_ #[ts,ts] ty #[.slice (some ⟨g,0,none⟩) xs.length cap,.slice (some ad) ys.length c]).run P w= .ok (.slice (some ⟨g',0,none⟩) (xs++ys).length cap') w' /\
  OwnRow w' te g' cap' (xs++ys)/\w.grownBy w' (some g)/\(g' =g\/g' =w.heap.size):=by
  intro ad had;obtain⟨v',w',hr,h2,h3,h4,h5⟩:=run_append_own_at (P:=P) w 0 ts ty te i z 2 16 T.slice hi hz hsize hby hzs (by decide) _ xs.length (BL xs) hown0 ad ys.length c (BL ys) (I5 ys) had (xKY ys) (by grind [maxLen]) (by omega) (Zg _);rcases h2.2 with ⟨rfl,_⟩|⟨g',cap',cur,rfl,_,q1,q2,q3,q4,q5⟩
  ·grind
  ·refine⟨g',cap',w',by grind,⟨cur,q1,by grind,q3,q4,by grind [xKX]⟩,h3,?_⟩
   grind [Value.ownBlock]
 rcases hp with hnil|⟨ad,rfl,_,had⟩
 ·subst hnil;cases p with
  |some ad=>exact main ad (fun j u h=>by grind [BL])
  |none=>
   have hn:xs.length<=cap:=by obtain⟨cur,h1,h2,_⟩:=hown;grind
   refine⟨g,cap,w,?_,by grind,⟨rfl,rfl,rfl,Zn _,fun _ _ _=>rfl⟩,.inl rfl⟩;rw [Z8];exact xLt w ts ty te i T.slice hi (some ⟨g,0,none⟩) xs.length cap c hn
 simp_all
theorem R3{P:Program}{te ti tm tb ts:TypeId}(w:World){ops:Array Oper}{rest:List Oper}{o:Oper}{a:Act}{Q:Exit->Act->World->Prop}(T:OrgT P te ti tm tb ts)(hg:o.guard=none)(s x:Operand)
 (hop:o.op= .call { callee:= .builtin .append,args:= #[s,x],argTypes:= #[ts,ts] }) (i:TypeInfo) (hi:P.info? te=some i) {z:Value} (hz:i.zero=some z) (hsize:i.size=2) (hby:i.bytes=16) (hzs:z.cells.size=2)
 (g cap:Nat) (xs:List Org) (hs:a.eval s= .slice (some ⟨g,0,none⟩) xs.length cap) (hown:OwnRow w te g cap xs) (u:Value) (hx:a.eval x=u) (ys:List Org) (hin:RowIn w u ys) (hlen:xs.length+ys.length<=1000000000000)
 (hK:∀g' cap' w',OwnRow w' te g' cap' (xs++ys)->w.grownBy w' (some g)->(g' =g\/g' =w.heap.size)->wpList P ops Q rest (a.put o.dst (.slice (some ⟨g',0,none⟩) (xs++ys).length cap')) w'):
 wpList P ops Q (o::rest) a w:=by
 refine wpList_plain hg fun K' hK' => ?_;obtain⟨g',cap',w',hr,h2,h3,h4⟩:=xLs (P:=P) T w o.type i hi hz hsize hby hzs hown hin hlen;unfold Oper.wp execOp;simp only [hop,resolve,invoke,builtin,Sem.run_bind,Sem.run_pure,Result.andThen_ok,List.map_toArray,ZX,ZB,hs,hx,hr];exact hK' _ _ (hK g' cap' w' h2 h3 h4)
theorem RowIn.kept{w w' :World}{v:Value}{os:List Org}(h:RowIn w v os)(hs:w.heap.size<=w'.heap.size)(ho:∀b,b<w.heap.size->w'.heap[b]? =w.heap[b]?):RowIn w' v os:=by
 obtain⟨p,c,rfl,h⟩:=h;refine⟨p,c,rfl,h.imp id ?_⟩
 grind [World.cell?]
theorem Ax{w:World}{o:Obj}{b:Nat}(hb:b<w.heap.size):(w.alloc o).heap[b]? =w.heap[b]? :=Below.heap_alloc w o b hb
theorem BO(w:World)(o:Obj):(w.alloc o).heap.size=w.heap.size+1:=Yl _
theorem RowIn.below{w w' :World}{v:Value}{os:List Org}(h:RowIn w v os)(hb:Below w.heap.size w w'):RowIn w' v os:=h.kept hb.size hb.block
theorem xLE(w:World)(o1 o2 o3:Obj)(te:TypeId):OwnRow ((((w.alloc o1).alloc o2).alloc o3).alloc (.cells #[] te)) te (w.heap.size+1+1+1) 0 []:=by
 refine⟨#[],?_,Zn _,by decide,rfl,rfl⟩;have e:w.heap.size+1+1+1=(((w.alloc o1).alloc o2).alloc o3).heap.size:=by simp_all
 rw [e];show(Array.push _ _)[_]? =_
 grind
theorem Of(w:World)(o1 o2 o3 o4:Obj):Below w.heap.size w ((((w.alloc o1).alloc o2).alloc o3).alloc o4):=
 ((((Below.refl w.heap.size w).alloc (Zn _) o1).alloc (by simp_all) o2).alloc (by grind [BO]) o3).alloc (by grind [BO]) o4
theorem SQ(os:List Org)(k:Nat)(hk:k<os.length):ded (os.take (k+1))=tY (ded (os.take k)) os[k]:=by
 grind [ded,List.take_succ_eq_append_getElem]
theorem Om(os:List Org):(ded os).length<=os.length:=by
 unfold ded;have:∀(os acc:List Org),(os.foldl tY acc).length<=acc.length+os.length:=by
  intro os
  induction os with
  |nil=>grind
  |cons o os ih=>
   grind [tY]
 grind
structure URel (w:World) (te ts B S ga ca:Nat) (all:List Org) (k g cap:Nat) (wr:World):Prop where
 set:SetMap wr B (ded (all.take k))
 box:wr.heap[B+1+1]? =some (.cells #[.slice (some ⟨g,0,none⟩) (ded (all.take k)).length cap] ts (0,0))
 row:OwnRow wr te g cap (ded (all.take k))
 all:OwnRow wr te ga ca all
 below:Below B w wr
 size:S<=wr.heap.size
 hg:g=B+1\/S<=g
 hga:B+3<=ga/\ga<S
theorem URel.cell{w wr:World}{te ts B S ga ca k g cap:Nat}{all:List Org}(h:URel w te ts B S ga ca all k g cap wr):wr.cell? ⟨B+1+1,0,none⟩=some (.slice (some ⟨g,0,none⟩) (ded (all.take k)).length cap):=by
 simp [World.cell?,h.box]
theorem URel.old{w wr:World}{te ts B S ga ca k g cap:Nat}{all:List Org}(h:URel w te ts B S ga ca all k g cap wr)(hk:k<all.length)(hc:(ded (all.take k)).contains all[k]=true)(o:Obj):URel w te ts B S ga ca all (k+1) g cap (wr.alloc o):=by
 have hsz:=h.size;have hal:∀b,b<wr.heap.size->(wr.alloc o).heap[b]? =wr.heap[b]? :=fun b hb=>Ax (by omega);have e:ded (all.take (k+1))=ded (all.take k):=by grind [SQ,tY]
 have h1:=h.hga;refine⟨by rw [e];exact h.set.kept (hal _ (by omega)),by rw [e,hal _ (by omega)];exact h.box,by rw [e];exact h.row.kept (hal _ h.row.lt),h.all.kept (hal _ h.all.lt),h.below.alloc (by omega) _,by grind [BO],h.hg,h1⟩
theorem xLF{w:World}{b:Nat}{v0 v:Value}{ty:TypeId}(h:w.heap[b]? =some (.cells #[v0] ty (0,0))):(w.setCell ⟨b,0,none⟩ v).heap[b]? =some (.cells #[v] ty (0,0))/\∀k,k≠b->(w.setCell ⟨b,0,none⟩ v).heap[k]? =w.heap[k]? :=by
 grind [World.setCell]
theorem URel.new{w wr w2 w4:World}{te ts B S ga ca k g cap g' cap' :Nat}{all:List Org}(h:URel w te ts B S ga ca all k g cap wr)(hk:k<all.length)(hc:(ded (all.take k)).contains all[k]=false){o1 o3:Obj}
 (s2:SetMap w2 B (ded (all.take k)++ [all[k]])) (g2:(wr.alloc o1).grownBy w2 (some B)) (z2:w2.heap.size=(wr.alloc o1).heap.size)
 (r4:OwnRow w4 te g' cap' (ded (all.take k)++ [all[k]])) (g4:(w2.alloc o3).grownBy w4 (some g)) (hg' :g' =g\/g' =(w2.alloc o3).heap.size):
 URel w te ts B S ga ca all (k+1) g' cap' (w4.setCell ⟨B+1+1,0,none⟩ (.slice (some ⟨g',0,none⟩) (ded (all.take k)++ [all[k]]).length cap')):=by
 have hsz:=h.size;have e:ded (all.take (k+1))=ded (all.take k)++ [all[k]]:=by grind [SQ,tY]
 have h1:=h.hga;have h2:=h.hg;have hgl:=h.row.lt;have zs1:(wr.alloc o1).heap.size=wr.heap.size+1:=BO _ _;have zs3:(w2.alloc o3).heap.size=w2.heap.size+1:=BO _ _;have z4:=g4.size;have q1:∀b,b<wr.heap.size->b≠B->w2.heap[b]? =wr.heap[b]? :=fun b hb hne=>(g2.block b (by omega) (by grind)).trans (Ax (by omega));have q4:∀b,b<wr.heap.size->b≠B->b≠g->w4.heap[b]? =wr.heap[b]? :=fun b hb hne hne2=>((g4.block b (by omega) (by grind)).trans (Ax (by omega))).trans (q1 b hb hne);have hbx:w4.heap[B+1+1]? =some (.cells #[.slice (some ⟨g,0,none⟩) (ded (all.take k)).length cap] ts (0,0)):=(q4 _ (by omega) (by omega) (by omega)).trans h.box;obtain⟨b1,b2⟩:=xLF (v:= .slice (some ⟨g',0,none⟩) (ded (all.take k)++ [all[k]]).length cap') hbx;refine⟨?_,?_,?_,?_,?_,?_,?_,h1⟩
 ·rw [e];exact s2.kept ((b2 _ (by omega)).trans ((g4.block B (by omega) (by grind)).trans (Ax (by omega))))
 ·grind
 ·rw [e];exact r4.kept (b2 _ (by omega))
 ·exact h.all.kept ((b2 _ (by omega)).trans (q4 _ h.all.lt (by omega) (by omega)))
 ·refine Below.setCell ?_ (by grind) _;refine Below.grown ?_ g4 (by omega) (fun k hk=>by grind);refine Below.alloc ?_ (by omega) _;refine Below.grown ?_ g2 (by omega) (fun k hk=>by grind);exact h.below.alloc (by omega) _
 all_goals grind [World.setCell]
theorem URel.start{w w1 w2:World}{te ts g1 g2 c2:Nat}{xs ys:List Org}(r2:OwnRow w2 te g2 c2 ([]++xs++ys))
 (gr1:((((w.alloc (.map #[] 0)).alloc (.cells #[] te)).alloc (.cells #[.slice (some { block:=w.heap.size+1,off:=0 }) 0 0] ts)).alloc (.cells #[] te)).grownBy w1 (some (w.heap.size+1+1+1)))
 (e1:g1=w.heap.size+1+1+1\/g1=((((w.alloc (.map #[] 0)).alloc (.cells #[] te)).alloc (.cells #[.slice (some { block:=w.heap.size+1,off:=0 }) 0 0] ts)).alloc (.cells #[] te)).heap.size)
 (gr2:w1.grownBy w2 (some g1)) (e2:g2=g1\/g2=w1.heap.size):URel w te ts w.heap.size w2.heap.size g2 c2 (xs++ys) 0 (w.heap.size+1) 0 w2:=by
 generalize hA:((w.alloc (.map #[] 0)).alloc (.cells #[] te)).alloc (.cells #[.slice (some { block:=w.heap.size+1,off:=0 }) 0 0] ts)=A at gr1 e1;have za:A.heap.size=w.heap.size+3:=by grind [BO]
 have z4:(A.alloc (.cells #[] te)).heap.size=w.heap.size+4:=by grind [BO]
 have s1:=gr1.size;have s2:=gr2.size;have a0:A.heap[w.heap.size]? =some (.map #[] 0):=by
  rw [<-hA,Ax (by grind [BO]),Ax (by simp_all)];show(Array.push _ _)[_]? =_
  grind
 have a1:A.heap[w.heap.size+1]? =some (.cells #[] te):=by
  rw [<-hA,Ax (by simp_all)];show(Array.push _ _)[_]? =_
  grind [BO]
 have a2:A.heap[w.heap.size+1+1]? =some (.cells #[.slice (some { block:=w.heap.size+1,off:=0 }) 0 0] ts):=by
  rw [<-hA];show(Array.push _ _)[_]? =_
  grind [BO]
 have keep:∀b,b<w.heap.size+3->w2.heap[b]? =A.heap[b]? :=fun b hb=>
  (gr2.block b (by omega) (by grind)).trans ((gr1.block b (by omega) (by grind)).trans (Ax (by omega)))
 have hd:ded ((xs++ys).take 0)=[]:=by simp [ded]
 refine⟨?_,?_,?_,by grind,?_,Zn _,.inl rfl,by omega,?_⟩
 ·rw [hd];exact⟨#[],0,(keep _ (by omega)).trans a0,rfl,by simp⟩
 ·grind
 ·rw [hd];exact⟨#[],(keep _ (by omega)).trans a1,Zn _,by decide,rfl,rfl⟩
 ·refine Below.grown (Below.grown ?_ gr1 (by omega) (fun k hk=>by grind)) gr2 (by omega) (fun k hk=>by grind)
  grind [Of]
 ·exact r2.lt
theorem URel.mid{w wr w3:World}{te ts B S ga ca k g cap:Nat}{all:List Org}(h:URel w te ts B S ga ca all k g cap wr){a b:Value}(g3:(wr.alloc (.cells #[a,b] te)).grownBy w3 (some B))(z3:w3.heap.size=(wr.alloc (.cells #[a,b] te)).heap.size):
 w3.cell? ⟨B+1+1,0,none⟩=some (.slice (some ⟨g,0,none⟩) (ded (all.take k)).length cap)/\w3.cell? ⟨wr.heap.size,0,none⟩=some a/\w3.cell? ⟨wr.heap.size,1,none⟩=some b/\∀o,OwnRow (w3.alloc o) te g cap (ded (all.take k)):=by
 have hsz:=h.size;have h1:=h.hga;have h2:=h.hg;have hgl:=h.row.lt;have zs1:=BO wr (.cells #[a,b] te);have q1:∀b,b<wr.heap.size->b≠B->w3.heap[b]? =wr.heap[b]? :=fun b hb hne=>(g3.block b (by omega) (by grind)).trans (Ax (by omega));have qn:w3.heap[wr.heap.size]? =some (.cells #[a,b] te):=by
  rw [g3.block _ (by omega) (by grind)];show(Array.push _ _)[_]? =_
  grind
 refine⟨?_,by grind [World.cell?],by grind [World.cell?],fun o=> ?_⟩
 ·simp only [World.cell?,q1 (B+1+1) (by omega) (by omega),h.box]
  rfl
 ·exact h.row.kept ((Ax (by omega)).trans (q1 g hgl (by omega)))
theorem xLn(w:World)(te:Nat)(c:Org):RowIn (w.alloc (.cells #[.int .i64 c.cell,.int .i64 c.row] te)) (.slice (some ⟨w.heap.size,0,none⟩) 1 1) [c]:=by
 refine⟨_,1,rfl,.inr ⟨_,rfl,by simp_all,fun j u hj=> ?_⟩⟩;have hq:∀i,(w.alloc (.cells #[.int .i64 c.cell,.int .i64 c.row] te)).cell? ⟨w.heap.size,i,none⟩=(#[.int .i64 c.cell,.int .i64 c.row]:Array Value)[i]? :=fun i=>by
  simp_all
 grind [BL,bV,Addr.add]
theorem URel.mid4{w wr w3 w4:World}{te ts B S ga ca k g cap:Nat}{all:List Org}(h:URel w te ts B S ga ca all k g cap wr){o1 o3:Obj}(g3:(wr.alloc o1).grownBy w3 (some B))(z3:w3.heap.size=(wr.alloc o1).heap.size)
 (g4:(w3.alloc o3).grownBy w4 (some g)):
 w4.cell? ⟨B+1+1,0,none⟩=some (.slice (some ⟨g,0,none⟩) (ded (all.take k)).length cap)/\w4.frozen? ⟨B+1+1,0,none⟩=false:=by
 have hsz:=h.size;have h1:=h.hga;have h2:=h.hg;have hgl:=h.row.lt;have zs1:=BO wr o1;have zs3:=BO w3 o3
 have q:w4.heap[B+1+1]? =wr.heap[B+1+1]? :=
  (g4.block _ (by omega) (by grind)).trans ((Ax (by omega)).trans ((g3.block _ (by omega) (by grind)).trans (Ax (by omega))))
 constructor
 ·simp only [World.cell?,q,h.box]
  rfl
 ·simp [World.frozen?,q,h.box]
end Go.Ab
end
section
namespace Go.Ab
open Go.Lib Go.Extern Go.Proofs Go.Shelf Go.RowKit
variable [Inhabited Lb]
def xLQ{P:Program}{ρ:Ren}(L:LaysGg.n6 P ρ)(t e:TypeId)(i ie:TypeInfo)(hi:P.info? t=some i)(hd:i.desc= .slice e)(hpk:P.packed t=false)(hie:P.info? e=some ie)(ke:Nat)
 (hke:∀w,(Extern.Rtype.kind e).run P w= .ok ke w) (hnp:ie.hasPointers=false) (hby:ie.bytes=16) (f1 f2 f lf:Nat) (hf1:P.funcs.findIdx? (·.name== "internal/reflectlite" ++ ".Swapper$1")=some f1)
 (hf2:P.funcs.findIdx? (·.name== "internal/reflectlite" ++ ".Swapper$2")=some f2) (hf:P.funcs.findIdx? (·.name== "internal/reflectlite" ++ ".Swapper$9")=some f)
 (hpdq:∀xs:List Org,2<=xs.length->xs.length<=1000000000000->AbsCalls P (ρ.f 14) [.val (.v true [.clo lf [gi 4],.swp f 0 (typeHandle P e) (gi 4)]),.val (.v false [.int .i64 0]),.val (.v false [.int .i64 xs.length]),.val (.v false [.int .i64 (Lib.bitLen xs.length)]),.gbox [.sl (.lnt 0) .org xs]]
   ⟨.tup [],[[.sl (.lnt 0) .org (xs.mergeSort fun x y=> !olt y x)]],[]⟩)
 {w:World} {bo br cap:Nat} {ty:TypeId} {xs:List Org} (hlen:xs.length<=1000000000000) (hbo:w.heap[bo]? =some (.cells #[.slice (some ⟨br,0,none⟩) xs.length cap] ty (0,0))) (hbr:OrgRow w br cap xs) (hne:bo≠br)
 (hbase:∀x∈kE,x.1<w.heap.size/\x.1≠bo/\x.1≠br/\w.heap[x.1]? =some x.2):
 Calls P (ρ.f 6) #[.iface t (.slice (some ⟨br,0,none⟩) xs.length cap),.func (.func lf) #[] #[.pointer (some ⟨bo,0,none⟩)]] w fun en w' =>en= .returned (.tuple #[])/\Sorted w bo br cap xs (xs.mergeSort fun x y=> !olt y x) w' :=by
 by_cases h2:2<=xs.length
 ·exact xLR L t e i ie hi hd hpk hie ke hke hnp hby f lf hf (by simp) h2 (by omega) (hpdq xs h2 hlen) hbo hbr hne hbase
 ·have hn:xs.length<=1:=by omega
  have hms:(xs.mergeSort fun x y=> !olt y x)=xs:=by
   match xs,hn with
   | [],_=>simp
   | [a],_=>simp
  rw [hms];have hfi:∃f0,P.funcs.findIdx? (·.name== "internal/reflectlite" ++ ".Swapper$" ++toString (swapperK xs.length ie ke))=some f0:=by
   match h:xs.length,hn with
   |0,_=>exact⟨f1,by rw [show swapperK 0 ie ke=1 from rfl];exact hf1⟩
   |1,_=>exact⟨f2,by rw [show swapperK 1 ie ke=2 from rfl];exact hf2⟩
  obtain⟨f0,hf0⟩:=hfi;refine(Any.sort_Slice_tiny L t e i ie hi hd hpk hie ke hke (some ⟨br,0,none⟩) xs.length cap hn f0 hf0 (.func lf) #[] #[.pointer (some ⟨bo,0,none⟩)] w).mono ?_;rintro en w' ⟨rfl,os,rfl⟩;have hbol:bo<w.heap.size:=(Zb.1 hbo).1;have hbrl:br<w.heap.size:=by
   obtain⟨_,cs,ty,lo,hi,h,_⟩:=hbr
   grind
  refine⟨rfl,rfl,rfl,rfl,by simp_all,fun b hb _ _=>Sort.heap_grow_old _ _ hb,⟨ty,(Sort.heap_grow_old _ _ hbol).trans hbo⟩,?_⟩;obtain⟨h1,cs,ty',lo,hi',h3,h4⟩:=hbr;exact⟨h1,cs,ty',lo,hi',(Sort.heap_grow_old _ _ hbrl).trans h3,h4⟩
theorem SL{w:World}{ok:List (Nat×Nat)->Nat->Nat->Prop}{q:List (Nat×Nat)->Value->Nat->Prop}{x:Org}{y:Value}:∀ {k:Nat} {hk:k<(Ty.org.toD x).length},RdP w ok q y ((Ty.org.toD x)[k])->y=(bV x)[k]'hk
 |0,_,h=>by simp only [Ty.toD,List.getElem_cons_zero] at h;cases h;rfl
 |1,_,h=>by simp only [Ty.toD,List.getElem_cons_succ,List.getElem_cons_zero] at h;cases h;rfl
 |k+2,hk,_=>absurd hk (by show ¬k+2<2;omega)
def xBN{E:Env}{pl:Pl}{c:Nat}{v:Value}{os:List Org}(h:RdP E.w (okF E pl c .ro) (qF E pl c .ro) v (.sl 2 (os.map Ty.org.toD))):RowIn E.w v os:=by
 by_cases hx:os=[]
 ·subst hx;obtain⟨ad,cap,rfl,_⟩:=RdP.shape h;exact⟨ad,cap,rfl,.inl rfl⟩
 ·obtain⟨b,off,cap,rfl,hcap,hrl,hq,u,hcl,hk⟩:=RdP.cells h (by simpa using hx);refine⟨some ⟨b,off,none⟩,cap,by grind,.inr ⟨_,rfl,?_,fun j x hj=> ?_⟩⟩
  ·have hpos:0<(os.map Ty.org.toD).length:=by
    grind
   have h0:=(hcl 0 0 hpos (by decide)).1
   grind [World.cell?]
  ·have hj2:j<(BL os).length:=(Zs.1 hj).1;rw [I5] at hj2;have e:j=j / 2*2+j % 2:=by omega
   grind [GM,Addr.add,SL]
def xKo{P:Program}{f:FuncId}(hf:∀args w,(callFunc f args).run P w= .ok (.enter f args) w)
 (hc:∀(xs ys:List Org) (u v:Value) (w:World),RowIn w u xs->RowIn w v ys->xs.length+ys.length<=1000000000000->(∀x∈kE,x.1<w.heap.size/\w.heap[x.1]? =some x.2)->
   Calls P f #[u,v] w fun e w' =>∃br cap,e= .returned (.slice (some ⟨br,0,none⟩) (rM xs ys).length cap)/\Below w.heap.size w w' /\w.heap.size<=br/\OrgRow w' br cap (rM xs ys))
 {xs ys zs:List Org} (h:AH xs ys=some zs):AbsCalls P f [.val (.v false [.sl .ro .org xs]),.val (.v false [.sl .ro .org ys])] ⟨.v false [.sl .own .org zs],[],[]⟩:=by
 unfold AH at h;split at h
 case isFalse=>cases h
 rename_i hlen;cases h;refine AbsCalls.of_enter hf fun E args hE hB hA=> ?_
 match args,hA with
 |⟨[v1,v2]⟩,hA=>
  obtain⟨⟨hv1,_⟩,⟨hv2,_⟩,_⟩:=hA;refine(hc xs ys v1 v2 E.w (xBN hv1) (xBN hv2) hlen fun x hx=>⟨(hB x hx).1,(hB x hx).2.2.1⟩).mono ?_;rintro e w' ⟨br,cap,rfl,hb,hbr,hrow⟩;generalize rM xs ys=zs at hrow;have hbl:br<w'.heap.size:=by
   obtain⟨_,cs,ty,lo,hi,h,_⟩:=hrow
   grind
  have h0:=hE.new br hbr
  let E' :Env:= { w:=w',hw:=fun b=>if b=br then zs.length*2 else E.hw b,ow:=fun b=>if b=br then some (.arr (.h 0) 0 []) else(E.ow b).bind (fun l=>if l= .arr (.h 0) 0 [] then none else some l),bx:=E.bx,hdr:=fun _=> .slice (some ⟨br,0,none⟩) zs.length cap }
  have hrd:=OrgRow.rd (E:=E') (pl:= .h 0) (c:=0) hrow (Zt rfl) (Zt rfl) 0 rfl;refine⟨_,{ E' with hdr:=E.hdr },rfl,rfl,?_⟩;refine { os:=hb.os,tape:=hb.tape,output:=hb.output,size:=hb.size,hdr:=rfl,old:=fun b hlt h1=> ?_,env:=⟨fun b hbb=> ?_,fun b b' l g1 g2=> ?_,fun b s h=> ?_⟩,res:= ?_,outs:=trivial,lents:=trivial,bx:=fun _ _=>rfl }
  ·have e:b≠br:=by omega
   exact⟨hb.block b hlt,by grind,by grind⟩
  ·have hbb:w'.heap.size<=b:=hbb;have e:b≠br:=by omega
   have:=hE.new b (by grind)
   grind
  ·simp only [E'] at g1 g2;split at g1 <;>split at g2
   ·grind
   ·grind [Option.bind_eq_some_iff]
   ·grind [Option.bind_eq_some_iff]
   ·simp only [Zq] at g1 g2;obtain⟨l1,a1,c1⟩:=g1;obtain⟨l2,a2,c2⟩:=g2;split at c1
    ·grind
    ·split at c2
     ·grind
     ·cases c1;cases c2;exact hE.inj _ _ _ a1 a2
  ·simp only [E'] at h ⊢;split at h
   ·cases h
   ·rename_i hne;rw [Za hne];rw [Zq] at h;obtain⟨l,a1,c1⟩:=h;split at c1
    ·grind
    ·cases c1;exact hE.boxhw b s a1
  ·refine ResAt.of ?_ rfl;refine⟨?_,trivial⟩;exact RdP.mono hrd (fun p b o ho=>⟨rfl,ho⟩) (fun p v sz ht=>ht.1)
 |⟨[]⟩,hA=>exact hA.elim
 |⟨[_]⟩,hA=>exact hA.2.elim
 |⟨_::_::_::_⟩,hA=>exact hA.2.2.elim
end Go.Ab
end
section
namespace Go.Ab
end Go.Ab
namespace Go.Ab
variable [Inhabited Lb]
open Go.Proofs Go.Shelf Go.RowKit Go.Lib
variable {P:Program} {ρ:Ren}
theorem xIG(s:List UInt8)(c:UInt8):Lib.index s [c]=Lib.indexByte s c:=by
 induction s with
 |nil=>rfl
 |cons b l ih=>
  grind [Lib.index,Lib.indexByte]
set_option maxHeartbeats 1000000 in
theorem xNO(L:Lays.n146 P ρ)(hi9:(P.info? (ρ.t 9)).map (fun i=>(i.zero,i.size,i.bytes))=some (some (.string ByteArray.empty),1,16))(s:ByteArray)(c:UInt8)(w:World)(hs:s.size<4294967281):
 Calls P (ρ.f 146) #[.string s,.string ⟨#[c]⟩] w fun e w' =>
  e= .returned (.slice (some ⟨w.heap.size,0,none⟩) (Lib.countB s ⟨#[c]⟩+1) (Lib.countB s ⟨#[c]⟩+1))/\w' =w.alloc (.cells ((Lib.splitB ⟨#[c]⟩ 0 (Lib.countB s ⟨#[c]⟩) s).map Value.string).toArray (ρ.t 9)):=by
 have h1:1<=(⟨#[c]⟩:ByteArray).size:=Zn 1;have hle:=Lib.countB_le ⟨#[c]⟩ h1 s.size s (Zn _);have hlen:=Lib.splitB_all ⟨#[c]⟩ h1 0 _ s rfl;have hI:∀(x:ByteArray) (cc:Array Value),x.size<=s.size->Calls P (ρ.f 143) #[.string x,.string ⟨#[c]⟩] (w.alloc (.cells cc (ρ.t 9))) fun e w' =>e= .returned (.int .i64 (Lib.indexB x ⟨#[c]⟩))/\w' =w.alloc (.cells cc (ρ.t 9)):=by
  intro x cc _;refine(Any.strings_Index_one { L with } x c _).mono fun e w' ⟨he,hw⟩=>⟨?_,hw⟩
  grind [xIG]
 have hC:Calls P (ρ.f 138) #[.string s,.string ⟨#[c]⟩] w fun e w' =>e= .returned (.int .i64 (Lib.countB s ⟨#[c]⟩))/\w' =w:=by
  refine(Any.strings_Count_one { L with } s c w).mono fun e w' ⟨he,hw⟩=>⟨?_,hw⟩;rw [he];show _=Ending.returned (Value.int .i64 ((Lib.count s.data.toList [c]:Nat):Int));rw [Lib.count_one]
  rfl
 have cc:=Any.strings_genSplit_core { L with } hi9 s ⟨#[c]⟩ 0 (-1) (Lib.countB s ⟨#[c]⟩+1) w hs h1 (Zg _) hI hC (by decide) (by decide) (by grind);rw [Nat.add_sub_cancel,hlen] at cc;have e2:Lib.cellsOf (Lib.splitB ⟨#[c]⟩ 0 (Lib.countB s ⟨#[c]⟩) s) (Lib.countB s ⟨#[c]⟩+1)=((Lib.splitB ⟨#[c]⟩ 0 (Lib.countB s ⟨#[c]⟩) s).map Value.string).toArray:=by grind [Lib.cellsOf_full]
 rw [e2] at cc;have t3:=L.t3;have t9:=L.t9;have t31:=L.t31;have a3:=L.a3;have a9:=L.a9;have a31:=L.a31;have z3:=L.z3;have v3:=L.v3;have z9:=L.z9;have v9:=L.v9;have z31:=L.z31;have v31:=L.v31;have e221:∀args w,(callFunc (ρ.f 221) args).run P w= .ok (.enter (ρ.f 221) args) w:=enters_of L.f221 (by kernel_rfl) rfl
 go_enter L.f146,Body.n146_ntmps ρ
 go_wp2_with (go_at_fn (ρ.f 221);refine cc.mono ?_;rintro e w' ⟨rfl,hw⟩;rw [hw])
 go_ret
 simp_all
theorem xF3(L:Lays.n146 P ρ):∀args w,(callFunc (ρ.f 146) args).run P w= .ok (.enter (ρ.f 146) args) w:=enters_of L.f146 (by kernel_rfl) rfl
end Go.Ab
end
section
namespace Go.Proofs
open Go.Shelf
def Tryz.lays125_ren:Go.Shelf.Ren:=⟨fun |125=>283|128=>298|129=>299|n=>n,fun |46=>171|3=>3|51=>257|53=>259|4=>4|5=>5|9=>9|n=>n,fun |n=>n⟩
def Tryz.lays125:Go.Proofs.Lays.n125 Tryz.prog Tryz.lays125_ren:= {
 mixed:=by kernel_rfl
 f125:=Tryz.func283.trans (Zl some (by kernel_rfl))
 f128:=Tryz.func298.trans (Zl some (by kernel_rfl))
 f129:=Tryz.func299.trans (Zl some (by kernel_rfl))
 t3:=Tryz.underlying3
 a3:=Tryz.isAgg3
 z3:=Tryz.sizeOf3
 v3:=Tryz.zeroValue3
 t4:=Tryz.underlying4
 a4:=Tryz.isAgg4
 z4:=Tryz.sizeOf4
 v4:=Tryz.zeroValue4
 t5:=Tryz.underlying5
 a5:=Tryz.isAgg5
 z5:=Tryz.sizeOf5
 v5:=Tryz.zeroValue5
 t9:=Tryz.underlying9
 a9:=Tryz.isAgg9
 z9:=Tryz.sizeOf9
 v9:=Tryz.zeroValue9
 t46:=Tryz.underlying171
 a46:=Tryz.isAgg171
 z46:=Tryz.sizeOf171
 v46:=Tryz.zeroValue171
 t51:=Tryz.underlying257
 a51:=Tryz.isAgg257
 z51:=Tryz.sizeOf257
 v51:=Tryz.zeroValue257
 t53:=Tryz.underlying259
 a53:=Tryz.isAgg259
 z53:=Tryz.sizeOf259
 v53:=Tryz.zeroValue259 }
def Tryz.lays191_ren:Go.Shelf.Ren:=⟨fun |191=>240|189=>271|125=>283|257=>285|128=>298|129=>299|294=>308|295=>309|296=>310|297=>311|298=>312|299=>313|216=>314|300=>315|301=>316|328=>326|329=>327|330=>328|331=>329|332=>330|215=>331|343=>338|n=>n,fun |28=>132|0=>0|3=>3|46=>171|51=>257|53=>259|4=>4|183=>269|182=>268|131=>215|5=>5|9=>9|218=>283|222=>281|228=>289|229=>287|n=>n,fun |n=>n⟩
def Tryz.lays191:Go.Proofs.Lays.n191 Tryz.prog Tryz.lays191_ren:= {
 mixed:=by kernel_rfl
 f125:=Tryz.func283.trans (Zl some (by kernel_rfl))
 f128:=Tryz.func298.trans (Zl some (by kernel_rfl))
 f129:=Tryz.func299.trans (Zl some (by kernel_rfl))
 f189:=Tryz.func271.trans (Zl some (by kernel_rfl))
 f191:=Tryz.func240.trans (Zl some (by kernel_rfl))
 f215:=Tryz.func331.trans (Zl some (by kernel_rfl))
 f216:=Tryz.func314.trans (Zl some (by kernel_rfl))
 f257:=Tryz.func285.trans (Zl some (by kernel_rfl))
 f294:=Tryz.func308.trans (Zl some (by kernel_rfl))
 f295:=Tryz.func309.trans (Zl some (by kernel_rfl))
 f296:=Tryz.func310.trans (Zl some (by kernel_rfl))
 f297:=Tryz.func311.trans (Zl some (by kernel_rfl))
 f298:=Tryz.func312.trans (Zl some (by kernel_rfl))
 f299:=Tryz.func313.trans (Zl some (by kernel_rfl))
 f300:=Tryz.func315.trans (Zl some (by kernel_rfl))
 f301:=Tryz.func316.trans (Zl some (by kernel_rfl))
 f328:=Tryz.func326.trans (Zl some (by kernel_rfl))
 f329:=Tryz.func327.trans (Zl some (by kernel_rfl))
 f330:=Tryz.func328.trans (Zl some (by kernel_rfl))
 f331:=Tryz.func329.trans (Zl some (by kernel_rfl))
 f332:=Tryz.func330.trans (Zl some (by kernel_rfl))
 f343:=Tryz.func338.trans (Zl some (by kernel_rfl))
 t0:=Tryz.underlying0
 a0:=Tryz.isAgg0
 z0:=Tryz.sizeOf0
 v0:=Tryz.zeroValue0
 t3:=Tryz.underlying3
 a3:=Tryz.isAgg3
 z3:=Tryz.sizeOf3
 v3:=Tryz.zeroValue3
 t4:=Tryz.underlying4
 a4:=Tryz.isAgg4
 z4:=Tryz.sizeOf4
 v4:=Tryz.zeroValue4
 t5:=Tryz.underlying5
 a5:=Tryz.isAgg5
 z5:=Tryz.sizeOf5
 v5:=Tryz.zeroValue5
 t9:=Tryz.underlying9
 a9:=Tryz.isAgg9
 z9:=Tryz.sizeOf9
 v9:=Tryz.zeroValue9
 t28:=Tryz.underlying132
 a28:=Tryz.isAgg132
 z28:=Tryz.sizeOf132
 v28:=Tryz.zeroValue132
 t46:=Tryz.underlying171
 a46:=Tryz.isAgg171
 z46:=Tryz.sizeOf171
 v46:=Tryz.zeroValue171
 t51:=Tryz.underlying257
 a51:=Tryz.isAgg257
 z51:=Tryz.sizeOf257
 v51:=Tryz.zeroValue257
 t53:=Tryz.underlying259
 a53:=Tryz.isAgg259
 z53:=Tryz.sizeOf259
 v53:=Tryz.zeroValue259
 t131:=Tryz.underlying215
 a131:=Tryz.isAgg215
 z131:=Tryz.sizeOf215
 v131:=Tryz.zeroValue215
 t182:=Tryz.underlying268
 a182:=Tryz.isAgg268
 z182:=Tryz.sizeOf268
 v182:=Tryz.zeroValue268
 t183:=Tryz.underlying269
 a183:=Tryz.isAgg269
 z183:=Tryz.sizeOf269
 v183:=Tryz.zeroValue269
 t218:=Tryz.underlying283
 a218:=Tryz.isAgg283
 z218:=Tryz.sizeOf283
 v218:=Tryz.zeroValue283
 t222:=Tryz.underlying281
 a222:=Tryz.isAgg281
 z222:=Tryz.sizeOf281
 v222:=Tryz.zeroValue281
 t228:=Tryz.underlying289
 a228:=Tryz.isAgg289
 z228:=Tryz.sizeOf289
 v228:=Tryz.zeroValue289
 t229:=Tryz.underlying287
 a229:=Tryz.isAgg287
 z229:=Tryz.sizeOf287
 v229:=Tryz.zeroValue287 }
def Tryz.laysGg6_ren:Go.Shelf.Ren:=⟨fun |6=>269|10=>280|11=>281|12=>282|13=>283|14=>284|24=>298|25=>299|26=>300|27=>301|28=>302|29=>303|30=>304|31=>305|32=>306|33=>307|34=>321|35=>322|36=>323|37=>324|38=>325|39=>337|n=>n,fun |20=>20|26=>231|35=>241|0=>0|37=>243|3=>3|41=>171|44=>249|49=>257|51=>259|4=>4|54=>262|53=>261|58=>215|5=>5|9=>9|60=>277|64=>281|66=>286|67=>287|17=>17|32=>238|33=>239|82=>310|12=>12|75=>303|76=>304|77=>305|78=>306|79=>307|80=>308|n=>n,fun |n=>n⟩
def Tryz.laysGg6:Go.Proofs.LaysGg.n6 Tryz.prog Tryz.laysGg6_ren:= {
 mixed:=by kernel_rfl
 f6:=Tryz.func269.trans (Zl some (by kernel_rfl))
 f10:=Tryz.func280.trans (Zl some (by kernel_rfl))
 f11:=Tryz.func281.trans (Zl some (by kernel_rfl))
 f12:=Tryz.func282.trans (Zl some (by kernel_rfl))
 f13:=Tryz.func283.trans (Zl some (by kernel_rfl))
 f14:=Tryz.func284.trans (Zl some (by kernel_rfl))
 f24:=Tryz.func298.trans (Zl some (by kernel_rfl))
 f25:=Tryz.func299.trans (Zl some (by kernel_rfl))
 f26:=Tryz.func300.trans (Zl some (by kernel_rfl))
 f27:=Tryz.func301.trans (Zl some (by kernel_rfl))
 f28:=Tryz.func302.trans (Zl some (by kernel_rfl))
 f29:=Tryz.func303.trans (Zl some (by kernel_rfl))
 f30:=Tryz.func304.trans (Zl some (by kernel_rfl))
 f31:=Tryz.func305.trans (Zl some (by kernel_rfl))
 f32:=Tryz.func306.trans (Zl some (by kernel_rfl))
 f33:=Tryz.func307.trans (Zl some (by kernel_rfl))
 f34:=Tryz.func321.trans (Zl some (by kernel_rfl))
 f35:=Tryz.func322.trans (Zl some (by kernel_rfl))
 f36:=Tryz.func323.trans (Zl some (by kernel_rfl))
 f37:=Tryz.func324.trans (Zl some (by kernel_rfl))
 f38:=Tryz.func325.trans (Zl some (by kernel_rfl))
 f39:=Tryz.func337.trans (Zl some (by kernel_rfl))
 t0:=Tryz.underlying0
 a0:=Tryz.isAgg0
 z0:=Tryz.sizeOf0
 v0:=Tryz.zeroValue0
 i0:=by kernel_rfl
 t3:=Tryz.underlying3
 a3:=Tryz.isAgg3
 z3:=Tryz.sizeOf3
 v3:=Tryz.zeroValue3
 i3:=by kernel_rfl
 t4:=Tryz.underlying4
 a4:=Tryz.isAgg4
 z4:=Tryz.sizeOf4
 v4:=Tryz.zeroValue4
 i4:=by kernel_rfl
 t5:=Tryz.underlying5
 a5:=Tryz.isAgg5
 z5:=Tryz.sizeOf5
 v5:=Tryz.zeroValue5
 i5:=by kernel_rfl
 t9:=Tryz.underlying9
 a9:=Tryz.isAgg9
 z9:=Tryz.sizeOf9
 v9:=Tryz.zeroValue9
 i9:=by kernel_rfl
 t12:=Tryz.underlying12
 a12:=Tryz.isAgg12
 z12:=Tryz.sizeOf12
 v12:=Tryz.zeroValue12
 i12:=by kernel_rfl
 t17:=Tryz.underlying17
 a17:=Tryz.isAgg17
 z17:=Tryz.sizeOf17
 v17:=Tryz.zeroValue17
 i17:=by kernel_rfl
 t20:=Tryz.underlying20
 a20:=Tryz.isAgg20
 z20:=Tryz.sizeOf20
 v20:=Tryz.zeroValue20
 i20:=by kernel_rfl
 t26:=Tryz.underlying231
 a26:=Tryz.isAgg231
 z26:=Tryz.sizeOf231
 v26:=Tryz.zeroValue231
 i26:=by kernel_rfl
 t32:=Tryz.underlying238
 a32:=Tryz.isAgg238
 z32:=Tryz.sizeOf238
 v32:=Tryz.zeroValue238
 i32:=by kernel_rfl
 t33:=Tryz.underlying239
 a33:=Tryz.isAgg239
 z33:=Tryz.sizeOf239
 v33:=Tryz.zeroValue239
 i33:=by kernel_rfl
 t35:=Tryz.underlying241
 a35:=Tryz.isAgg241
 z35:=Tryz.sizeOf241
 v35:=Tryz.zeroValue241
 i35:=by kernel_rfl
 t37:=Tryz.underlying243
 a37:=Tryz.isAgg243
 z37:=Tryz.sizeOf243
 v37:=Tryz.zeroValue243
 i37:=by kernel_rfl
 t41:=Tryz.underlying171
 a41:=Tryz.isAgg171
 z41:=Tryz.sizeOf171
 v41:=Tryz.zeroValue171
 i41:=by kernel_rfl
 t44:=Tryz.underlying249
 a44:=Tryz.isAgg249
 z44:=Tryz.sizeOf249
 v44:=Tryz.zeroValue249
 i44:=by kernel_rfl
 t49:=Tryz.underlying257
 a49:=Tryz.isAgg257
 z49:=Tryz.sizeOf257
 v49:=Tryz.zeroValue257
 i49:=by kernel_rfl
 t51:=Tryz.underlying259
 a51:=Tryz.isAgg259
 z51:=Tryz.sizeOf259
 v51:=Tryz.zeroValue259
 i51:=by kernel_rfl
 t53:=Tryz.underlying261
 a53:=Tryz.isAgg261
 z53:=Tryz.sizeOf261
 v53:=Tryz.zeroValue261
 i53:=by kernel_rfl
 t54:=Tryz.underlying262
 a54:=Tryz.isAgg262
 z54:=Tryz.sizeOf262
 v54:=Tryz.zeroValue262
 i54:=by kernel_rfl
 t58:=Tryz.underlying215
 a58:=Tryz.isAgg215
 z58:=Tryz.sizeOf215
 v58:=Tryz.zeroValue215
 i58:=by kernel_rfl
 t60:=Tryz.underlying277
 a60:=Tryz.isAgg277
 z60:=Tryz.sizeOf277
 v60:=Tryz.zeroValue277
 i60:=by kernel_rfl
 t64:=Tryz.underlying281
 a64:=Tryz.isAgg281
 z64:=Tryz.sizeOf281
 v64:=Tryz.zeroValue281
 i64:=by kernel_rfl
 t66:=Tryz.underlying286
 a66:=Tryz.isAgg286
 z66:=Tryz.sizeOf286
 v66:=Tryz.zeroValue286
 i66:=by kernel_rfl
 t67:=Tryz.underlying287
 a67:=Tryz.isAgg287
 z67:=Tryz.sizeOf287
 v67:=Tryz.zeroValue287
 i67:=by kernel_rfl
 t75:=Tryz.underlying303
 a75:=Tryz.isAgg303
 z75:=Tryz.sizeOf303
 v75:=Tryz.zeroValue303
 i75:=by kernel_rfl
 t76:=Tryz.underlying304
 a76:=Tryz.isAgg304
 z76:=Tryz.sizeOf304
 v76:=Tryz.zeroValue304
 i76:=by kernel_rfl
 t77:=Tryz.underlying305
 a77:=Tryz.isAgg305
 z77:=Tryz.sizeOf305
 v77:=Tryz.zeroValue305
 i77:=by kernel_rfl
 t78:=Tryz.underlying306
 a78:=Tryz.isAgg306
 z78:=Tryz.sizeOf306
 v78:=Tryz.zeroValue306
 i78:=by kernel_rfl
 t79:=Tryz.underlying307
 a79:=Tryz.isAgg307
 z79:=Tryz.sizeOf307
 v79:=Tryz.zeroValue307
 i79:=by kernel_rfl
 t80:=Tryz.underlying308
 a80:=Tryz.isAgg308
 z80:=Tryz.sizeOf308
 v80:=Tryz.zeroValue308
 i80:=by kernel_rfl
 t82:=Tryz.underlying310
 a82:=Tryz.isAgg310
 z82:=Tryz.sizeOf310
 v82:=Tryz.zeroValue310
 i82:=by kernel_rfl }
def Tryz.lays146_ren:Go.Shelf.Ren:=⟨fun |146=>267|221=>279|268=>286|138=>287|143=>288|195=>317|197=>318|218=>319|219=>320|260=>332|217=>333|225=>334|224=>335|267=>336|266=>339|314=>340|n=>n,fun |9=>9|31=>35|3=>3|4=>4|0=>0|105=>274|21=>21|5=>5|46=>171|119=>291|139=>294|138=>293|146=>295|51=>257|n=>n,fun |1=>0|3=>1|4=>2|n=>n⟩
def Tryz.lays146:Go.Proofs.Lays.n146 Tryz.prog Tryz.lays146_ren:= {
 mixed:=by kernel_rfl
 f138:=Tryz.func287.trans (Zl some (by kernel_rfl))
 f143:=Tryz.func288.trans (Zl some (by kernel_rfl))
 f146:=Tryz.func267.trans (Zl some (by kernel_rfl))
 f195:=Tryz.func317.trans (Zl some (by kernel_rfl))
 f197:=Tryz.func318.trans (Zl some (by kernel_rfl))
 f217:=Tryz.func333.trans (Zl some (by kernel_rfl))
 f218:=Tryz.func319.trans (Zl some (by kernel_rfl))
 f219:=Tryz.func320.trans (Zl some (by kernel_rfl))
 f221:=Tryz.func279.trans (Zl some (by kernel_rfl))
 f224:=Tryz.func335.trans (Zl some (by kernel_rfl))
 f225:=Tryz.func334.trans (Zl some (by kernel_rfl))
 f260:=Tryz.func332.trans (Zl some (by kernel_rfl))
 f266:=Tryz.func339.trans (Zl some (by kernel_rfl))
 f267:=Tryz.func336.trans (Zl some (by kernel_rfl))
 f268:=Tryz.func286.trans (Zl some (by kernel_rfl))
 f314:=Tryz.func340.trans (Zl some (by kernel_rfl))
 t0:=Tryz.underlying0
 a0:=Tryz.isAgg0
 z0:=Tryz.sizeOf0
 v0:=Tryz.zeroValue0
 t3:=Tryz.underlying3
 a3:=Tryz.isAgg3
 z3:=Tryz.sizeOf3
 v3:=Tryz.zeroValue3
 t4:=Tryz.underlying4
 a4:=Tryz.isAgg4
 z4:=Tryz.sizeOf4
 v4:=Tryz.zeroValue4
 t5:=Tryz.underlying5
 a5:=Tryz.isAgg5
 z5:=Tryz.sizeOf5
 v5:=Tryz.zeroValue5
 t9:=Tryz.underlying9
 a9:=Tryz.isAgg9
 z9:=Tryz.sizeOf9
 v9:=Tryz.zeroValue9
 t21:=Tryz.underlying21
 a21:=Tryz.isAgg21
 z21:=Tryz.sizeOf21
 v21:=Tryz.zeroValue21
 t31:=Tryz.underlying35
 a31:=Tryz.isAgg35
 z31:=Tryz.sizeOf35
 v31:=Tryz.zeroValue35
 t46:=Tryz.underlying171
 a46:=Tryz.isAgg171
 z46:=Tryz.sizeOf171
 v46:=Tryz.zeroValue171
 t51:=Tryz.underlying257
 a51:=Tryz.isAgg257
 z51:=Tryz.sizeOf257
 v51:=Tryz.zeroValue257
 t105:=Tryz.underlying274
 a105:=Tryz.isAgg274
 z105:=Tryz.sizeOf274
 v105:=Tryz.zeroValue274
 t119:=Tryz.underlying291
 a119:=Tryz.isAgg291
 z119:=Tryz.sizeOf291
 t138:=Tryz.underlying293
 a138:=Tryz.isAgg293
 z138:=Tryz.sizeOf293
 v138:=Tryz.zeroValue293
 t139:=Tryz.underlying294
 a139:=Tryz.isAgg294
 z139:=Tryz.sizeOf294
 v139:=Tryz.zeroValue294
 t146:=Tryz.underlying295
 a146:=Tryz.isAgg295
 z146:=Tryz.sizeOf295
 v146:=Tryz.zeroValue295
 g1:=by kernel_rfl
 g3:=by kernel_rfl
 g4:=by kernel_rfl }
end Go.Proofs
end
section
open Go.Proofs
namespace Go.Ab.T
variable [Inhabited Lb]
abbrev AbC(f:FuncId)(a:List Arg)(r:CallO):Prop:=AbsCalls Tryz.prog f a r
abbrev W(x:Int):Int:=IntKind.i64.wrap x
abbrev Ln{α:Type}(l:List α):Nat:=length l
abbrev tN(x:Int):Nat:=toNat x
abbrev gD{α:Type}(l:List α)(i:Nat)(d:α):α:=List.getD l i d
abbrev iY(b:Bool):Prop:=b=true
abbrev iN(b:Bool):Prop:=b=false
abbrev dc(p:Prop) [Decidable p]:Bool:=decide p
abbrev vd:Val:=Dv
abbrev rd:Rowd:=Dr
end Go.Ab.T
end
section
open Go.Proofs Go.Proofs.Tryz
namespace Go.Ab.T
set_option maxRecDepth 100000
variable [Inhabited Lb]
def tt:TT:=[(3,{ zero:=some [.int .i64 0],ik:=some .i64 }),
 (4,{ zero:=some [.bool false],isBool:=true }),
 (5,{ zero:=some [.int .u8 0],ik:=some .u8 }),
 (9,{ zero:=some [.str []],isStr:=true }),
 (22,{ zero:=some [.sl .own .byte []],elem:=some (5,.byte) }),
 (24,{ zero:=some [.sl .own .exp []],elem:=some (26,.exp) }),
 (26,{ sz:=4,agg:=true,zero:=some [.int .i64 0,.int .i64 0,.str [],.sl .own .exp []],offs:=[0,1,2,3],fsz:=[1,1,1,1] }),
 (27,{ zero:=some [.sl .own .bnd []],elem:=some (106,.bnd) }),
 (28,{ zero:=some [.sl .own .rea []],elem:=some (109,.rea) }),
 (29,{ zero:=some [.sl .own .fil []],elem:=some (137,.fil) }),
 (31,{ sz:=3,agg:=true,zero:=some [.int .i64 0,.int .i64 0,.sl .own .fil []],offs:=[0,1,2],fsz:=[1,1,1] }),
 (34,{ zero:=some [.sl .own .val []],elem:=some (38,.val) }),
 (35,{ zero:=some [.sl .own .str []],elem:=some (9,.str) }),
 (36,{ zero:=some [.sl .own .row []],elem:=some (150,.row) }),
 (38,{ sz:=7,agg:=true,zero:=some [.int .i64 0,.int .i64 0,.int .i64 0,.str [],.sl .own .val [],.sl .own .str [],.sl .own .row []],offs:=[0,1,2,3,4,5,6],fsz:=[1,1,1,1,1,1,1] }),
 (40,{ sz:=9,agg:=true,zero:=some [.int .i64 0,.int .i64 0,.int .i64 0,.str [],.sl .own .val [],.sl .own .str [],.sl .own .row [],.sl .own .rea [],.int .i64 0],offs:=[0,7,8],fsz:=[7,1,1] }),
 (44,{ zero:=some [.sl .own .exp []],elem:=some (46,.exp) }),
 (46,{ sz:=4,agg:=true,zero:=some [.int .i64 0,.int .i64 0,.str [],.sl .own .exp []],offs:=[0,1,2,3],fsz:=[1,1,1,1] }),
 (47,{ zero:=some [.sl .own .bnd []],elem:=some (99,.bnd) }),
 (48,{ zero:=some [.sl .own .rea []],elem:=some (102,.rea) }),
 (49,{ zero:=some [.sl .own .fil []],elem:=some (159,.fil) }),
 (51,{ sz:=3,agg:=true,zero:=some [.int .i64 0,.int .i64 0,.sl .own .fil []],offs:=[0,1,2],fsz:=[1,1,1] }),
 (82,{ sz:=9,agg:=true,zero:=some [.sl .own .rea [],.int .i64 0,.int .i64 0,.sl .own .fil [],.int .i64 0,.int .i64 0,.sl .own .rea [],.int .i64 0,.bool false],offs:=[0,1,4,5,6,7,8],fsz:=[1,3,1,1,1,1,1] }),
 (89,{ sz:=9,agg:=true,zero:=some [.sl .own .rea [],.int .i64 0,.int .i64 0,.sl .own .fil [],.int .i64 0,.int .i64 0,.sl .own .rea [],.int .i64 0,.bool false],offs:=[0,1,4,5,6,7,8],fsz:=[1,3,1,1,1,1,1] }),
 (94,{ zero:=some [.sl .own .val []],elem:=some (97,.val) }),
 (95,{ zero:=some [.sl .own .row []],elem:=some (203,.row) }),
 (97,{ sz:=7,agg:=true,zero:=some [.int .i64 0,.int .i64 0,.int .i64 0,.str [],.sl .own .val [],.sl .own .str [],.sl .own .row []],offs:=[0,1,2,3,4,5,6],fsz:=[1,1,1,1,1,1,1] }),
 (99,{ sz:=8,agg:=true,zero:=some [.str [],.int .i64 0,.int .i64 0,.int .i64 0,.str [],.sl .own .val [],.sl .own .str [],.sl .own .row []],offs:=[0,1],fsz:=[1,7] }),
 (102,{ sz:=11,agg:=true,zero:=some [.int .i64 0,.int .i64 0,.int .i64 0,.str [],.int .i64 0,.int .i64 0,.int .i64 0,.str [],.sl .own .val [],.sl .own .str [],.sl .own .row []],offs:=[0,1,2,3,4],fsz:=[1,1,1,1,7] }),
 (106,{ sz:=8,agg:=true,zero:=some [.str [],.int .i64 0,.int .i64 0,.int .i64 0,.str [],.sl .own .val [],.sl .own .str [],.sl .own .row []],offs:=[0,1],fsz:=[1,7] }),
 (109,{ sz:=11,agg:=true,zero:=some [.int .i64 0,.int .i64 0,.int .i64 0,.str [],.int .i64 0,.int .i64 0,.int .i64 0,.str [],.sl .own .val [],.sl .own .str [],.sl .own .row []],offs:=[0,1,2,3,4],fsz:=[1,1,1,1,7] }),
 (124,{ sz:=3,agg:=true,zero:=some [.sl .own .byte [],.int .i64 0,.int .i64 0],offs:=[0,1,2],fsz:=[1,1,1] }),
 (132,{ zero:=some [.sl .own .int []],elem:=some (3,.int) }),
 (137,{ sz:=2,agg:=true,zero:=some [.str [],.int .i64 0],offs:=[0,1],fsz:=[1,1] }),
 (148,{ zero:=some [.sl .own .org []],elem:=some (179,.org) }),
 (150,{ sz:=2,agg:=true,zero:=some [.sl .own .int [],.sl .own .org []],offs:=[0,1],fsz:=[1,1] }),
 (159,{ sz:=2,agg:=true,zero:=some [.str [],.int .i64 0],offs:=[0,1],fsz:=[1,1] }),
 (171,{ zero:=some [.int .u64 0],ik:=some .u64 }),
 (179,{ sz:=2,agg:=true,zero:=some [.int .i64 0,.int .i64 0],offs:=[0,1],fsz:=[1,1],same:=true }),
 (201,{ zero:=some [.sl .own .org []],elem:=some (236,.org) }),
 (203,{ sz:=2,agg:=true,zero:=some [.sl .own .int [],.sl .own .org []],offs:=[0,1],fsz:=[1,1] }),
 (231,{ zero:=some [.val .nilFunc],isFn:=true }),
 (236,{ sz:=2,agg:=true,zero:=some [.int .i64 0,.int .i64 0],offs:=[0,1],fsz:=[1,1],same:=true }),
 (243,{ zero:=some [.val .nilFunc],isFn:=true }),
 (249,{ sz:=2,agg:=true,zero:=some [.val .nilFunc,.val .nilFunc],offs:=[0,1],fsz:=[1,1] }),
 (259,{ zero:=some [.int .u64 0],ik:=some .u64 }),
 (261,{ zero:=some [.int .i64 0],ik:=some .i64 }),
 (277,{ zero:=some [.int .u64 0],ik:=some .u64 })]
theorem OZ:aP Tryz.prog tt:=AG (by kernel_rfl)
theorem mix:Tryz.prog.follows .mixedOrders=true:=by kernel_rfl
def F:Bool:=false
def cl(r:CallO):CallO:=⟨r.res,r.outs,[.clo 0 []]⟩
def Y:Bool:=true
noncomputable def mI (fn:Func) (keep:List Nat) (live:List (Nat×List Nat):=[]) (modes:List (Nat×List (Nat×Md×Bool)):=[]) (ext:List Nat:=[]) (lnt:List (Nat×Nat):=[]) (casts:List (Nat×List (Nat×Nat×Bool)):=[]) (fcast:List (Nat×Nat×Bool):=[]):Info:= { body:=fn.body.getD .skip,nt:=fn.ntmps,results:=fn.results.toList,keep:=keep,live:=live,modes:=modes,ext:=ext,lnt:=lnt,casts:=casts,fcast:=fcast }
noncomputable def rE (I:Info) (ag:List Arg) (bs:List Bool) (cs:List CallO):Option Res:=run tt (AbsCalls Tryz.prog) I 3000 false [.code I.body] ⟨bF 0 ag,bs,cs,[]⟩
noncomputable def rS (k:Nat) (I:Info) (σ:St) (bs:List Bool) (cs:List CallO):Option Res:=run tt (AbsCalls Tryz.prog) I 3000 true (AF k I.body) ⟨σ,bs,cs,[]⟩
noncomputable def dn (r:CallO) (ob:List Prop):Option Res:=some (.done r ob)
noncomputable def st (k:Nat) (I:Info) (σ:St) (ob:List Prop):Option Res:=some (.stop (AF k I.body) σ ob)
def H{α:Type}(bs:List Bool)(cs:List CallO)(ob:List Prop)(x:Option α)(r:α):Prop:=(∀p∈ob,p)/\x=some r
def nth:List Prop->Nat->Prop
 | [],_=>True
 |p::_,0=>p
 |_::l,n+1=>nth l n
theorem gt0:∀ {ob:List Prop} (_:∀p∈ob,p) (n:Nat),nth ob n
 | [],_,_=>trivial
 |_::_,a,0=>a _ Zp
 |_::_,a,n+1=>gt0 (fun q h=>a q (Zr _ h)) n
section
variable {α ρ:Type} {f g:FuncId} {fn:Func} {I:Info} {ag az:List Arg} {bs:List Bool} {cs:List CallO} {k j:Nat} {σ σ' :St} {ob:List Prop} {ro:ρ->CallO} {q R O E:CallO} {b c:Bool} {p C:Prop} {x y:Option α} {r:α}
def RE(hf:FnOk Tryz.prog f fn I)(ag:List Arg)(r:CallO):Prop:=Reach Tryz.prog fn I [.code I.body] (bF 0 ag) r
def RS(hf:FnOk Tryz.prog f fn I)(k:Nat)(σ:St)(r:CallO):Prop:=Reach Tryz.prog fn I (AF k I.body) σ r
theorem fO(h1:Tryz.prog.funcs[f]? =some fn)(keep:List Nat)(live:List (Nat×List Nat):=[])(modes:List (Nat×List (Nat×Md×Bool)):=[])(ext:List Nat:=[])(lnt:List (Nat×Nat):=[])(casts:List (Nat×List (Nat×Nat×Bool)):=[])(fcast:List (Nat×Nat×Bool):=[])(h2:fn.body=some (fn.body.getD .skip):=by kernel_rfl)(h5:(fn.name== "runtime.NumGoroutine")=false:=by kernel_rfl):FnOk Tryz.prog f fn (mI fn keep live modes ext lnt casts fcast):=⟨h1,h2,rfl,rfl,h5⟩
theorem oK(hf:FnOk Tryz.prog f fn I)(h:RE hf ag q)(h1:sQ ag=true:=by kernel_rfl)(h2:I.ext=aK 0 ag:=by kernel_rfl)(h3:(bI 0 ag).length=I.lnt.length:=by kernel_rfl)(h4:Nat.ble ag.length I.nt=true:=by kernel_rfl):AbC f ag q:=AbsCalls.of_reach hf h1 h2 h3 (jL h4) h
theorem oA(h:x=some r):H [] [] [] x r:=⟨(fun _ h=>by cases h),h⟩
theorem H.rev(a:H bs cs ob x r):∀p∈ob.reverse,p:=fun p h=>a.1 p (YU.1 h)
theorem ap(h:p)(a:H bs cs ob x r):H bs cs (p::ob) x r:=⟨AD h a.1,a.2⟩
theorem gt(n:Nat)(a:H bs cs ob x r):nth ob n:=gt0 a.1 n
theorem rp(n:Nat)(a:H bs cs ob x r):H bs cs (nth ob n::ob) x r:=⟨AD (gt n a) a.1,a.2⟩
theorem rb(c:Bool)(n:Nat)(a:H bs cs ob x r):H (c::bs) cs (nth ob n::ob) x r:=⟨AD (gt n a) a.1,a.2⟩
theorem cb(c:Bool)(a:H bs cs ob x r):H (c::bs) cs ((c=c)::ob) x r:=⟨AD rfl a.1,a.2⟩
theorem ax(b c:Bool)(h:b=c)(a:H bs cs ob x r):H (c::bs) cs ((b=c)::ob) x r:=⟨AD h a.1,a.2⟩
theorem iE [Decidable p](h:H bs cs ob (if p then x else none) r):H bs cs (p::ob) x r:=(zY h.2).elim fun h1 h2=>⟨AD h1 h.1,h2⟩
theorem cE(h:H bs cs ob (cond b x y) r)(f:H (true::bs) cs ((b=true)::ob) x r->C)(g:H (false::bs) cs ((b=false)::ob) y r->C):C:=(zU h.2).elim (fun e=>f ⟨AD e.1 h.1,e.2⟩) fun e=>g ⟨AD e.1 h.1,e.2⟩
theorem cM(k:AbC g az (cond b R O))(h:H bs cs ob (cond b x y) r)(f:H bs (R::cs) (AbC g az R::ob) x r->C)(g:H bs (O::cs) (AbC g az O::ob) y r->C):C:=by
 rcases zU h.2 with ⟨h1,e⟩|⟨h1,e⟩ <;>subst h1
 ·exact f ⟨AD k h.1,e⟩
 ·exact g ⟨AD k h.1,e⟩
theorem cN{e0 e1 e2:Bool}(k:AbC g az (cond b R O))(h:H bs cs ob (cond b (if e0=true then if e1=true then if e2=true then x else none else none else none) y) r)(t:b=true->e0=true->e1=true->e2=true->AbC g az E)(f:H bs (E::cs) (AbC g az E::ob) x r->C)(g:H bs (O::cs) (AbC g az O::ob) y r->C):C:=by
 rcases zU h.2 with ⟨h1,e⟩|⟨h1,e⟩
 ·obtain⟨h2,e⟩:=zY e;obtain⟨h3,e⟩:=zY e;obtain⟨h4,e⟩:=zY e;exact f ⟨AD (t h1 h2 h3 h4) h.1,e⟩
 ·subst h1;exact g ⟨AD k h.1,e⟩
section
variable {o:Option ρ} {x:ρ->Option α} {r:α}
theorem bE(h:H bs cs ob (Option.bind o x) r)(k:∀ {v},o=some v->AbC g az (ro v))(f:∀v,H bs (ro v::cs) (AbC g az (ro v)::ob) (x v) r->C):C:=(zS h.2).elim fun v e=>f v ⟨AD (k e.1) h.1,e.2⟩
theorem bL(h:H bs cs ob (Option.bind o x) r)(k:∀ {v},o=some v->AbC g az (ro v))(f:∀v,H bs (cl (ro v)::cs) (AbC g az (ro v)::ob) (x v) r->C):C:=(zS h.2).elim fun v e=>f v ⟨AD (k e.1) h.1,e.2⟩
theorem bK(h:H bs cs ob (Option.bind o x) r)(k:∀ {v},o=some v->AbC g az (ro v))(f:∀v,AbC g az (ro v)->H bs cs ob (x v) r->C):C:=(zS h.2).elim fun v e=>f v (k e.1) ⟨h.1,e.2⟩
end
theorem nE{r:α}(h:none=some r):C:=by cases h
section
variable {x r:ρ} {hf:FnOk Tryz.prog f fn I}
theorem dE(a:H bs cs ob (some x) r)(h:rE I ag bs.reverse cs.reverse=dn (ro x) ob.reverse:=by kernel_rfl):RE hf ag (ro r):=by
 have e:=a.2;cases e;exact Reach.done OZ mix hf h a.rev
theorem dS(a:H bs cs ob (some x) r)(h:rS k I σ bs.reverse cs.reverse=dn (ro x) ob.reverse:=by kernel_rfl):RS hf k σ (ro r):=by
 have e:=a.2;cases e;exact Reach.done OZ mix hf h a.rev
end
theorem uE{hf:FnOk Tryz.prog f fn I}(a:H bs cs ob x r)(t:x=some r->RS hf k σ q)(h:rE I ag bs.reverse cs.reverse=st k I σ ob.reverse:=by kernel_rfl):RE hf ag q:=Reach.stop OZ mix hf h a.rev (t a.2)
theorem uS{hf:FnOk Tryz.prog f fn I}(a:H bs cs ob x r)(t:x=some r->RS hf k σ q)(h:rS j I σ' bs.reverse cs.reverse=st k I σ ob.reverse:=by kernel_rfl):RS hf j σ' q:=Reach.stop OZ mix hf h a.rev (t a.2)
theorem nI{P:Nat->Prop}(z:P 0)(s:∀n,P n->P (n+1)):∀n,P n:=fun n=>Nat.rec z s n
end
theorem xL7{N a0 r}(h:Np N a0=some r):AbC 323 [.box [.int .u64 a0]] (xL8 r):=
 oK (fO func323 [0,4,1] (ext:=[0])) <| dE (ap (show(0:Int)<=17/\(17:Int)<64 by decide) (ap (show(0:Int)<=7/\(7:Int)<64 by decide) (ap (show(0:Int)<=13/\(13:Int)<64 by decide) (oA h))))
theorem xKF{N:Nat}{a0 r:Int}(h:QP N a0=some r):AbC 283 [.val (.v false [.int .u64 a0])] (AR r):=
 zZ (xF4 Tryz.lays125) (Any.bits_Len Tryz.lays125) h
theorem xLY{N a0 r}(h:Nj N a0=some r):AbC 322 [.val (vI a0)] (xLZ r):=
 oK (fO func322 [0,4,6] [] [(2,[(0,.take,false)])]) <| bE (oA h) xKF fun r1 h=>dE (iE h)
theorem Az{N:Nat}{a0 a1:Int}{a2 r:List Org}(h:Ap N a0 a1 a2=some r):AbC 297 [.val (vI a0),.val (vI a1),.val (vS (.lnt 0) .org a2),.val (.v false [.val (.pointer (some ⟨3,179,none⟩))])] (xIM r):=
 AB (run_callFunc_extern func297 (by kernel_rfl) (by kernel_rfl) (by kernel_rfl) (by kernel_rfl)) 179 _ (Option.some_get (by kernel_rfl:(Tryz.prog.info? 179).isSome=true)).symm (by kernel_rfl) Tryz.isAgg179 h
def UQ:=fO func304 [0,2,4,6,12,14,26,2000006,7,2000007] [(3,[6,12,14,2000006,7,2000007])] (ext:=[1000003])
theorem xFo{N}:∀n {x6 x7 g003 r},Iv N n x6 x7 g003=some r->RS UQ 3 [(6,vP 3),(12,vI x6),(14,vI x7),(7,.v true [.clo 270 [1000003],.swp 297 0 (.pointer (some ⟨3,179,none⟩)) 1000003]),(2000007,.v true [.sl (.lnt 0) .org g003])] (Aw r):=
 nI nE fun n ih=>fun h=>cE (oA h) (fun h=>bE h Az fun r1 h=>uS (iE (iE h)) ih) fun h=>dS h
theorem xL6{N a0 a1 a2 r}(h:No N a0 a1 a2=some r):AbC 304 (Iu a0 a1 a2) (Aw r):=
 oK UQ <| uE (oA h) (xFo _)
def UD:=fO func302 [0,2,4,6,12,14,16,18,20,30,66,86,2000006,7,15,2000007] [(6,[2,6,12,14,16,18,2000006,7,15,2000007])] [(8,[(1,.take,false)])] (ext:=[1000003])
theorem xE9{N}:∀n {x1 x6 x8 x9 b7 g003 r},GR N n x1 x6 x8 x9 b7 g003=some r->RS UD 6 [(2,vI x1),(6,vP 3),(12,vI x6),(14,vP 7),(16,.v false [.int .u64 x8]),(18,vI x9),(7,.v true [.clo 270 [1000003],.swp 297 0 (.pointer (some ⟨3,179,none⟩)) 1000003]),(15,.v true [.int .u64 b7]),(2000007,.v true [.sl (.lnt 0) .org g003])] (Aw r):=
 nI nE fun n ih=>fun h=>cE (ap (show 4≠(0:Int) by decide) (oA h)) (fun h=>bE h xL7 fun r1 h=>cE h (fun h=>bE h Az fun r2 h=>uS (iE (iE h)) ih) fun h=>bE h Az fun r2 h=>uS (iE (iE h)) ih) fun h=>dS h
theorem xLS{N a0 a1 a2 r}(h:Nf N a0 a1 a2=some r):AbC 302 (Iu a0 a1 a2) (Aw r):=
 oK UD <| cE (oA h) (fun h=>bE h xLY fun r1 h=>uE (ap (show 4≠(0:Int) by decide) h) (xE9 _)) fun h=>dE h
theorem xAw{N a0 a1 r}(h:H9 N a0 a1=some r):AbC 266 (PZ a0 a1) (AK r):=
 oK (fO func266 [0,2,4,6,8,5,7] [] [(1,[(5,.take,false),(11,.take,false)])]) <| cE (oA h) (fun h=>dE h) fun h=>cE h (fun h=>dE h) fun h=>dE h
theorem Bl{N a0 a1 a2 r}(h:BK N a0 a1 a2=some r):AbC 270 [.val (vI a0),.val (vI a1),.box [.sl (.lnt 0) .org a2]] (CP r):=
 oK (fO func270 [0,2,4,10,5] (ext:=[2])) <| bE (iE (iE (oA h))) xAw fun r1 h=>dE h
def HJ:=fO func307 [0,2,4,6,8,16,18,20,22,60,86,96,146,172,182,2000008,9,2000009] [(3,[2,8,20,22,2000008,9,2000009]),(5,[2,8,20,22,2000008,9,2000009]),(13,[2,8,20,22,2000008,9,2000009]),(15,[2,8,20,22,2000008,9,2000009])] [(3,[(3,.take,false)]),(5,[(3,.take,false)]),(13,[(3,.take,false)]),(15,[(3,.take,false)])] (ext:=[1000004])
def R7(x1 x10 x11:Int)(g004:List Org):St:=[(2,vI x1),(8,vP 4),(20,vI x10),(22,vI x11),(9,.v true [.clo 270 [1000004],.swp 297 0 (.pointer (some ⟨3,179,none⟩)) 1000004]),(2000009,.v true [.sl (.lnt 0) .org g004])]
theorem Rl{N}{k13}(hk13:∀ {z0 z1 z2 z3 r},k13 z0 z1 z2 z3=some r->RS HJ 13 (R7 z0 z1 z2 z3) (It r)):∀n {x1 x10 x11 g004 r},FC N k13 n x1 x10 x11 g004=some r->RS HJ 15 [(2,vI x1),(8,vP 4),(20,vI x10),(22,vI x11),(9,.v true [.clo 270 [1000004],.swp 297 0 (.pointer (some ⟨3,179,none⟩)) 1000004]),(2000009,.v true [.sl (.lnt 0) .org g004])] (It r):=
 nI nE fun n ih=>fun h=>cE (oA h) (fun h=>bE h Bl fun r1 h=>cE h (fun h=>uS h ih) fun h=>cE h (fun h=>bE h Az fun r2 h=>dS (iE (iE h))) fun h=>bE h Az fun r2 h=>uS (iE (iE h)) hk13) fun h=>cE (cb F h) (fun h=>bE h Az fun r1 h=>dS (iE (iE h))) fun h=>bE h Az fun r1 h=>uS (iE (iE h)) hk13
theorem Rk{N}:∀n {x1 x10 x11 g004 r},DU N n x1 x10 x11 g004=some r->RS HJ 13 (R7 x1 x10 x11 g004) (It r):=
 nI nE fun n ih=>fun h=>cE (oA h) (fun h=>bE h Bl fun r1 h=>cE h (fun h=>uS h ih) fun h=>uS h (Rl ih _)) fun h=>uS (cb F h) (Rl ih _)
theorem Rm{N}:∀n {x1 x10 x11 g004 r},FD N n x1 x10 x11 g004=some r->RS HJ 5 [(2,vI x1),(8,vP 4),(20,vI x10),(22,vI x11),(9,.v true [.clo 270 [1000004],.swp 297 0 (.pointer (some ⟨3,179,none⟩)) 1000004]),(2000009,.v true [.sl (.lnt 0) .org g004])] (It r):=
 nI nE fun n ih=>fun h=>cE (oA h) (fun h=>bE h Bl fun r1 h=>cE h (fun h=>uS h ih) fun h=>cE h (fun h=>bE h Az fun r2 h=>dS (iE (iE h))) fun h=>bE h Az fun r2 h=>uS (iE (iE h)) (Rk _)) fun h=>cE (cb F h) (fun h=>bE h Az fun r1 h=>dS (iE (iE h))) fun h=>bE h Az fun r1 h=>uS (iE (iE h)) (Rk _)
theorem xDv{N}:∀n {x1 x10 x11 g004 r},Is N n x1 x10 x11 g004=some r->RS HJ 3 [(2,vI x1),(8,vP 4),(20,vI x10),(22,vI x11),(9,.v true [.clo 270 [1000004],.swp 297 0 (.pointer (some ⟨3,179,none⟩)) 1000004]),(2000009,.v true [.sl (.lnt 0) .org g004])] (It r):=
 nI nE fun n ih=>fun h=>cE (oA h) (fun h=>bE h Bl fun r1 h=>cE h (fun h=>uS h ih) fun h=>uS h (Rm _)) fun h=>uS (cb F h) (Rm _)
theorem xL3{N a0 a1 a2 a3 r}(h:Nn N a0 a1 a2 a3=some r):AbC 307 (Ir a0 a1 a2 a3) (It r):=
 oK HJ <| bE (oA h) Az fun r1 h=>uE (iE (iE h)) (xDv _)
def L5:=fO func306 [0,2,4,6,8,16,18,20,60,84,94,2000008,9,2000009] [(3,[2,8,18,20,2000008,9,2000009]),(5,[2,8,18,20,2000008,9,2000009])] [(3,[(3,.take,false)]),(5,[(3,.take,false)])] (ext:=[1000004])
def R6(x1 x9 x10:Int)(g004:List Org):St:=[(2,vI x1),(8,vP 4),(18,vI x9),(20,vI x10),(9,.v true [.clo 270 [1000004],.swp 297 0 (.pointer (some ⟨3,179,none⟩)) 1000004]),(2000009,.v true [.sl (.lnt 0) .org g004])]
theorem Rj{N}{k3}(hk3:∀ {z0 z1 z2 z3 r},k3 z0 z1 z2 z3=some r->RS L5 3 (R6 z0 z1 z2 z3) (Nm r)):∀n {x1 x9 x10 g004 r},FB N k3 n x1 x9 x10 g004=some r->RS L5 5 [(2,vI x1),(8,vP 4),(18,vI x9),(20,vI x10),(9,.v true [.clo 270 [1000004],.swp 297 0 (.pointer (some ⟨3,179,none⟩)) 1000004]),(2000009,.v true [.sl (.lnt 0) .org g004])] (Nm r):=
 nI nE fun n ih=>fun h=>cE (oA h) (fun h=>bE h Bl fun r1 h=>cE h (fun h=>uS h ih) fun h=>cE h (fun h=>dS h) fun h=>bE h Az fun r2 h=>uS (iE (iE h)) hk3) fun h=>cE (cb F h) (fun h=>dS h) fun h=>bE h Az fun r1 h=>uS (iE (iE h)) hk3
theorem xDm{N}:∀n {x1 x9 x10 g004 r},FA N n x1 x9 x10 g004=some r->RS L5 3 (R6 x1 x9 x10 g004) (Nm r):=
 nI nE fun n ih=>fun h=>cE (oA h) (fun h=>bE h Bl fun r1 h=>cE h (fun h=>uS h ih) fun h=>uS h (Rj ih _)) fun h=>uS (cb F h) (Rj ih _)
theorem xL2{N a0 a1 a2 a3 r}(h:Nl N a0 a1 a2 a3=some r):AbC 306 (Ir a0 a1 a2 a3) (Nm r):=
 oK L5 <| bE (oA h) Az fun r1 h=>uE (iE (iE h)) (xDm _)
def C2:=fO func305 [0,2,4,6,12,14,16,18,20,28,56,66,74,94,102,120,140,150,168,2000006,7,2000007] [(3,[2,4,6,14,16,2000006,7,2000007]),(5,[2,4,6,14,16,2000006,7,2000007]),(7,[2,4,6,14,16,2000006,7,2000007]),(14,[2,4,6,14,16,18,2000006,7,2000007]),(18,[2,4,6,14,16,2000006,7,2000007]),(20,[2,4,6,14,16,20,2000006,7,2000007])] [(5,[(3,.take,false)])] (ext:=[1000003])
def HD(x1 x2 x7 x8:Int)(g003:List Org):St:=[(2,vI x1),(4,vI x2),(6,vP 3),(14,vI x7),(16,vI x8),(7,.v true [.clo 270 [1000003],.swp 297 0 (.pointer (some ⟨3,179,none⟩)) 1000003]),(2000007,.v true [.sl (.lnt 0) .org g003])]
theorem xFr{N}{k3}(hk3:∀ {z0 z1 z2 z3 z4 r},k3 z0 z1 z2 z3 z4=some r->RS C2 3 (HD z0 z1 z2 z3 z4) (CP r)):∀n {x1 x2 x7 x8 x10 g003 r},In N k3 n x1 x2 x7 x8 x10 g003=some r->RS C2 20 [(2,vI x1),(4,vI x2),(6,vP 3),(14,vI x7),(16,vI x8),(20,vI x10),(7,.v true [.clo 270 [1000003],.swp 297 0 (.pointer (some ⟨3,179,none⟩)) 1000003]),(2000007,.v true [.sl (.lnt 0) .org g003])] (CP r):=
 nI nE fun n ih=>fun h=>cE (oA h) (fun h=>bE h Bl fun r1 h=>cE h (fun h=>uS h hk3) fun h=>bE h Az fun r2 h=>uS (iE (iE h)) ih) fun h=>uS h hk3
theorem Oi{N}{k3}(hk3:∀ {z0 z1 z2 z3 z4 r},k3 z0 z1 z2 z3 z4=some r->RS C2 3 (HD z0 z1 z2 z3 z4) (CP r)):∀ {x1 x2 x7 x8 g003 r},GT N k3 x1 x2 x7 x8 g003=some r->RS C2 18 [(2,vI x1),(4,vI x2),(6,vP 3),(14,vI x7),(16,vI x8),(7,.v true [.clo 270 [1000003],.swp 297 0 (.pointer (some ⟨3,179,none⟩)) 1000003]),(2000007,.v true [.sl (.lnt 0) .org g003])] (CP r):=
 fun h=>cE (oA h) (fun h=>uS h (xFr hk3 _)) fun h=>uS h hk3
theorem xFq{N}{k3}(hk3:∀ {z0 z1 z2 z3 z4 r},k3 z0 z1 z2 z3 z4=some r->RS C2 3 (HD z0 z1 z2 z3 z4) (CP r)):∀n {x1 x2 x7 x8 x9 g003 r},Im N k3 n x1 x2 x7 x8 x9 g003=some r->RS C2 14 [(2,vI x1),(4,vI x2),(6,vP 3),(14,vI x7),(16,vI x8),(18,vI x9),(7,.v true [.clo 270 [1000003],.swp 297 0 (.pointer (some ⟨3,179,none⟩)) 1000003]),(2000007,.v true [.sl (.lnt 0) .org g003])] (CP r):=
 nI nE fun n ih=>fun h=>cE (oA h) (fun h=>bE h Bl fun r1 h=>cE h (fun h=>uS h (Oi hk3)) fun h=>bE h Az fun r2 h=>uS (iE (iE h)) ih) fun h=>uS h (Oi hk3)
theorem SA{N}{k3}(hk3:∀ {z0 z1 z2 z3 z4 r},k3 z0 z1 z2 z3 z4=some r->RS C2 3 (HD z0 z1 z2 z3 z4) (CP r)):∀ {x1 x2 x7 x8 g003 r},Iq N k3 x1 x2 x7 x8 g003=some r->RS C2 7 [(2,vI x1),(4,vI x2),(6,vP 3),(14,vI x7),(16,vI x8),(7,.v true [.clo 270 [1000003],.swp 297 0 (.pointer (some ⟨3,179,none⟩)) 1000003]),(2000007,.v true [.sl (.lnt 0) .org g003])] (CP r):=
 fun h=>cE (oA h) (fun h=>dS h) fun h=>cE h (fun h=>dS h) fun h=>bE h Az fun r1 h=>cE (iE (iE h)) (fun h=>uS h (xFq hk3 _)) fun h=>uS h (Oi hk3)
theorem xFt{N}{k3}(hk3:∀ {z0 z1 z2 z3 z4 r},k3 z0 z1 z2 z3 z4=some r->RS C2 3 (HD z0 z1 z2 z3 z4) (CP r)):∀n {x1 x2 x7 x8 g003 r},Ip N k3 n x1 x2 x7 x8 g003=some r->RS C2 5 [(2,vI x1),(4,vI x2),(6,vP 3),(14,vI x7),(16,vI x8),(7,.v true [.clo 270 [1000003],.swp 297 0 (.pointer (some ⟨3,179,none⟩)) 1000003]),(2000007,.v true [.sl (.lnt 0) .org g003])] (CP r):=
 nI nE fun n ih=>fun h=>cE (oA h) (fun h=>bE h Bl fun r1 h=>cE h (fun h=>uS h ih) fun h=>uS h (SA hk3)) fun h=>uS (cb F h) (SA hk3)
theorem xFs{N}:∀n {x1 x2 x7 x8 g003 r},GU N n x1 x2 x7 x8 g003=some r->RS C2 3 (HD x1 x2 x7 x8 g003) (CP r):=
 nI nE fun n ih=>fun h=>cE (oA h) (fun h=>uS h (xFt ih _)) fun h=>dS h
theorem xL1{N a0 a1 a2 r}(h:Nk N a0 a1 a2=some r):AbC 305 (Iu a0 a1 a2) (CP r):=
 oK C2 <| uE (oA h) (xFs _)
theorem Qi{N a0 a1 a2 a3 r}(h:Il N a0 a1 a2 a3=some r):AbC 337 [.val (.v true [.clo 270 [1000004],.swp 297 0 (.pointer (some ⟨3,179,none⟩)) 1000004]),.val (vI a0),.val (vI a1),.box [.int .i64 a2],.gbox [.sl (.lnt 0) .org a3]] (xL0 r):=
 oK (fO func337 [0,2,4,6,8,16,18,28,2000008,7,9,2000009] (ext:=[3,1000004])) <| bE (oA h) Bl fun r1 h=>cE h (fun h=>dE h) fun h=>dE h
theorem Qh{N a0 a1 a2 a3 a4 r}(h:Ik N a0 a1 a2 a3 a4=some r):AbC 325 [.val (.v true [.clo 270 [1000005],.swp 297 0 (.pointer (some ⟨3,179,none⟩)) 1000005]),.val (vI a0),.val (vI a1),.val (vI a2),.box [.int .i64 a3],.gbox [.sl (.lnt 0) .org a4]] (xB4 r):=
 oK (fO func325 [0,2,4,6,8,10,20,2000010,9,11,2000011] [] [(1,[(5,.take,false)]),(2,[(5,.take,false)]),(3,[(5,.take,false)])] (ext:=[4,1000005])) <| bL (oA h) Qi fun r1 h=>bL h Qi fun r2 h=>bL h Qi fun r3 h=>dE h
theorem Qg{N a0 a1 a2 r}(h:Ij N a0 a1 a2=some r):AbC 324 [.val (.v true [.clo 270 [1000003],.swp 297 0 (.pointer (some ⟨3,179,none⟩)) 1000003]),.val (vI a0),.box [.int .i64 a1],.gbox [.sl (.lnt 0) .org a2]] (xB4 r):=
 oK (fO func324 [0,2,4,6,12,2000006,5,7,2000007] (ext:=[2,1000003])) <| bL (oA h) Qh fun r1 h=>dE h
theorem xLU{N a0 a1 a2 r}(h:Ng N a0 a1 a2=some r):AbC 303 (Iu a0 a1 a2) (xLV r):=
 oK (fO func303 [0,2,4,6,12,14,16,18,20,22,24,64,68,98,102,108,2000006,7,19,2000007] (ext:=[1000003])) <| cE (rp 1 (rp 0 (ap (show 4≠(0:Int) by decide) (oA h)))) (fun h=>cE h (fun h=>bL h Qg fun r1 h=>bL h Qg fun r2 h=>bL h Qg fun r3 h=>bL h Qh fun r4 h=>cE h (fun h=>dE h) fun h=>cE h (fun h=>dE h) fun h=>dE h) fun h=>bL h Qh fun r1 h=>cE h (fun h=>dE h) fun h=>cE h (fun h=>dE h) fun h=>dE h) fun h=>cE h (fun h=>dE h) fun h=>cE h (fun h=>dE h) fun h=>dE h
def Si:=fO func321 [0,2,4,6,8,16,18,32,64,88,2000008,9,2000009] [(2,[4,6,8,16,2000008,9,2000009])] [(4,[(4,.take,false)])] (ext:=[1000004])
theorem xDB{N}:∀n {x2 x3 x8 g004 r},FE N n x2 x3 x8 g004=some r->RS Si 2 [(4,vI x2),(6,vI x3),(8,vP 4),(16,vI x8),(9,.v true [.clo 270 [1000004],.swp 297 0 (.pointer (some ⟨3,179,none⟩)) 1000004]),(2000009,.v true [.sl (.lnt 0) .org g004])] (Aw r):=
 nI nE fun n ih=>fun h=>cE (oA h) (fun h=>dS h) fun h=>cE h (fun h=>bE h Bl fun r1 h=>cE h (fun h=>bE h Bl fun r2 h=>cE h (fun h=>dS h) fun h=>bE h Az fun r3 h=>uS (iE (iE h)) ih) fun h=>bE h Bl fun r2 h=>cE h (fun h=>dS h) fun h=>bE h Az fun r3 h=>uS (iE (iE h)) ih) fun h=>bE (cb F h) Bl fun r1 h=>cE h (fun h=>dS h) fun h=>bE h Az fun r2 h=>uS (iE (iE h)) ih
theorem xB7{N a0 a1 a2 a3 r}(h:Iw N a0 a1 a2 a3=some r):AbC 321 (Ir a0 a1 a2 a3) (Aw r):=
 oK Si <| uE (oA h) (xDB _)
def Oy:=fO func301 [0,2,4,6,12,14,16,18,20,38,60,2000006,7,2000007] [(5,[6,12,14,16,18,2000006,7,2000007]),(9,[6,12,14,20,2000006,7,2000007])] [(12,[(1,.take,false)])] (ext:=[1000003])
theorem xE4{N}:∀n {x6 x7 x10 g003 r},Ig N n x6 x7 x10 g003=some r->RS Oy 9 [(6,vP 3),(12,vI x6),(14,vI x7),(20,vI x10),(7,.v true [.clo 270 [1000003],.swp 297 0 (.pointer (some ⟨3,179,none⟩)) 1000003]),(2000007,.v true [.sl (.lnt 0) .org g003])] (Aw r):=
 nI nE fun n ih=>fun h=>cE (oA h) (fun h=>bE h Az fun r1 h=>bL (iE (iE h)) xB7 fun r2 h=>uS h ih) fun h=>dS h
theorem xE3{N}:∀n {x6 x7 x8 x9 g003 r},If N n x6 x7 x8 x9 g003=some r->RS Oy 5 [(6,vP 3),(12,vI x6),(14,vI x7),(16,vI x8),(18,vI x9),(7,.v true [.clo 270 [1000003],.swp 297 0 (.pointer (some ⟨3,179,none⟩)) 1000003]),(2000007,.v true [.sl (.lnt 0) .org g003])] (Aw r):=
 nI nE fun n ih=>fun h=>cE (oA h) (fun h=>bL h xB7 fun r1 h=>uS h ih) fun h=>uS h (xE4 _)
theorem xLW{N a0 a1 a2 r}(h:Nh N a0 a1 a2=some r):AbC 301 (Iu a0 a1 a2) (Aw r):=
 oK Oy <| uE (ap (show 2≠(0:Int) by decide) (oA h)) (xE3 _)
def La:=fO func300 [0,2,4,6,12,14,24,52,2000006,7,2000007] [(2,[2,4,6,12,2000006,7,2000007]),(5,[2,4,6,12,14,2000006,7,2000007])] [(5,[(3,.take,false)])] (ext:=[1000003])
def Rb(x1 x2 x6:Int)(g003:List Org):St:=[(2,vI x1),(4,vI x2),(6,vP 3),(12,vI x6),(7,.v true [.clo 270 [1000003],.swp 297 0 (.pointer (some ⟨3,179,none⟩)) 1000003]),(2000007,.v true [.sl (.lnt 0) .org g003])]
theorem xE2{N}{k2}(hk2:∀ {z0 z1 z2 z3 r},k2 z0 z1 z2 z3=some r->RS La 2 (Rb z0 z1 z2 z3) (Aw r)):∀n {x1 x2 x6 x7 g003 r},Ii N k2 n x1 x2 x6 x7 g003=some r->RS La 5 [(2,vI x1),(4,vI x2),(6,vP 3),(12,vI x6),(14,vI x7),(7,.v true [.clo 270 [1000003],.swp 297 0 (.pointer (some ⟨3,179,none⟩)) 1000003]),(2000007,.v true [.sl (.lnt 0) .org g003])] (Aw r):=
 nI nE fun n ih=>fun h=>cE (oA h) (fun h=>bE h Bl fun r1 h=>cE h (fun h=>bE h Az fun r2 h=>uS (iE (iE h)) ih) fun h=>uS h hk2) fun h=>uS (cb F h) hk2
theorem xE1{N}:∀n {x1 x2 x6 g003 r},Ih N n x1 x2 x6 g003=some r->RS La 2 (Rb x1 x2 x6 g003) (Aw r):=
 nI nE fun n ih=>fun h=>cE (oA h) (fun h=>uS h (xE2 ih _)) fun h=>dS h
theorem xLX{N a0 a1 a2 r}(h:Ni N a0 a1 a2=some r):AbC 300 (Iu a0 a1 a2) (Aw r):=
 oK La <| uE (oA h) (xE1 _)
def FY(q:Int->Int->Int->(List Org)->Option ((List Org))):Prop:=∀a0 a1 a2 a3 r,q a0 a1 a2 a3=some r->AbC 284 (Ir a0 a1 a2 a3) (Aw r)
def DE:=fO func284 [0,2,4,6,8,16,18,20,22,24,26,28,30,32,34,36,46,58,70,100,136,144,166,218,2000008,9,2000009] [(3,[2,4,6,8,16,18,2000008,9,2000009]),(11,[2,4,6,8,16,18,20,2000008,9,2000009]),(16,[2,4,6,8,16,18,20,22,24,2000008,9,2000009]),(18,[2,4,6,8,16,18,20,22,2000008,9,2000009]),(21,[2,4,6,8,20,22,2000008,9,2000009])] [(11,[(4,.take,false)]),(16,[(1,.take,false),(2,.take,false),(4,.take,false)]),(18,[(2,.take,false)]),(20,[(0,.take,false)]),(21,[(5,.take,false)]),(22,[(0,.take,false)])] (ext:=[1000004])
def J4(x1 x2 x3:Int)(x8 x9:Bool)(g004:List Org):St:=[(2,vI x1),(4,vI x2),(6,vI x3),(8,vP 4),(16,vB x8),(18,vB x9),(9,.v true [.clo 270 [1000004],.swp 297 0 (.pointer (some ⟨3,179,none⟩)) 1000004]),(2000009,.v true [.sl (.lnt 0) .org g004])]
theorem Ry{N}{q0}(g0:FY q0){k3}(hk3:∀ {z0 z1 z2 z3 z4 z5 r},k3 z0 z1 z2 z3 z4 z5=some r->RS DE 3 (J4 z0 z1 z2 z3 z4 z5) (Aw r)):∀ {x1 x2 x3 x10 x11 g004 r},Ki N q0 k3 x1 x2 x3 x10 x11 g004=some r->RS DE 21 [(2,vI x1),(4,vI x2),(6,vI x3),(8,vP 4),(20,vI x10),(22,vI x11),(9,.v true [.clo 270 [1000004],.swp 297 0 (.pointer (some ⟨3,179,none⟩)) 1000004]),(2000009,.v true [.sl (.lnt 0) .org g004])] (Aw r):=
 fun h=>bL (oA h) xL3 fun r1 h=>cE (ap (show 8≠(0:Int) by decide) h) (fun h=>bL h (g0 _ _ _ _ _) fun r2 h=>uS h hk3) fun h=>bL h (g0 _ _ _ _ _) fun r2 h=>uS h hk3
theorem LW{N}{q0}(g0:FY q0){k3}(hk3:∀ {z0 z1 z2 z3 z4 z5 r},k3 z0 z1 z2 z3 z4 z5=some r->RS DE 3 (J4 z0 z1 z2 z3 z4 z5) (Aw r)):∀ {x1 x2 x3 x8 x9 x10 x11 g004 r},GV N q0 k3 x1 x2 x3 x8 x9 x10 x11 g004=some r->RS DE 18 [(2,vI x1),(4,vI x2),(6,vI x3),(8,vP 4),(16,vB x8),(18,vB x9),(20,vI x10),(22,vI x11),(9,.v true [.clo 270 [1000004],.swp 297 0 (.pointer (some ⟨3,179,none⟩)) 1000004]),(2000009,.v true [.sl (.lnt 0) .org g004])] (Aw r):=
 fun h=>cE (oA h) (fun h=>bE h Bl fun r1 h=>cE h (fun h=>bL h xL2 fun r2 h=>uS h hk3) fun h=>uS h (Ry g0 hk3)) fun h=>uS (cb F h) (Ry g0 hk3)
theorem Rx{N}{q0}(g0:FY q0){k3}(hk3:∀ {z0 z1 z2 z3 z4 z5 r},k3 z0 z1 z2 z3 z4 z5=some r->RS DE 3 (J4 z0 z1 z2 z3 z4 z5) (Aw r)):∀ {x1 x2 x3 x8 x9 x10 x11 x12 g004 r},Kh N q0 k3 x1 x2 x3 x8 x9 x10 x11 x12 g004=some r->RS DE 16 [(2,vI x1),(4,vI x2),(6,vI x3),(8,vP 4),(16,vB x8),(18,vB x9),(20,vI x10),(22,vI x11),(24,vI x12),(9,.v true [.clo 270 [1000004],.swp 297 0 (.pointer (some ⟨3,179,none⟩)) 1000004]),(2000009,.v true [.sl (.lnt 0) .org g004])] (Aw r):=
 fun h=>cE (oA h) (fun h=>cE h (fun h=>cE h (fun h=>bL h xL1 fun r1 h=>cE h (fun h=>dS h) fun h=>uS h (LW g0 hk3)) fun h=>uS h (LW g0 hk3)) fun h=>uS (cb F h) (LW g0 hk3)) fun h=>uS (cb F (cb F h)) (LW g0 hk3)
theorem Rw{N}{q0}(g0:FY q0){k3}(hk3:∀ {z0 z1 z2 z3 z4 z5 r},k3 z0 z1 z2 z3 z4 z5=some r->RS DE 3 (J4 z0 z1 z2 z3 z4 z5) (Aw r)):∀ {x1 x2 x3 x8 x9 x10 g004 r},Kg N q0 k3 x1 x2 x3 x8 x9 x10 g004=some r->RS DE 11 [(2,vI x1),(4,vI x2),(6,vI x3),(8,vP 4),(16,vB x8),(18,vB x9),(20,vI x10),(9,.v true [.clo 270 [1000004],.swp 297 0 (.pointer (some ⟨3,179,none⟩)) 1000004]),(2000009,.v true [.sl (.lnt 0) .org g004])] (Aw r):=
 fun h=>bL (oA h) xLU fun r1 h=>cE h (fun h=>bL h xL6 fun r2 h=>uS h (Rx g0 hk3)) fun h=>uS h (Rx g0 hk3)
theorem xEc{N}{q0}(g0:FY q0):∀n {x1 x2 x3 x8 x9 g004 r},GW N q0 n x1 x2 x3 x8 x9 g004=some r->RS DE 3 (J4 x1 x2 x3 x8 x9 g004) (Aw r):=
 nI nE fun n ih=>fun h=>cE (oA h) (fun h=>bL h xLX fun r1 h=>dS h) fun h=>cE h (fun h=>bL h xLW fun r1 h=>dS h) fun h=>cE h (fun h=>bL h xLS fun r1 h=>uS h (Rw g0 ih)) fun h=>uS h (Rw g0 ih)
theorem xL4{N}{q0}(g0:FY q0){a0 a1 a2 a3 r}(h:xB5 N q0 a0 a1 a2 a3=some r):AbC 284 (Ir a0 a1 a2 a3) (Aw r):=
 oK DE <| uE (oA h) (xEc g0 _)
theorem xB6{N:Nat}:∀d,FY (GX N d)
 |0=>fun _ _ _ _ _ h=>nE h
 |d+1=>fun _ _ _ _ _ h=>xL4 (N:=N) (xB6 d) h
theorem sort_pdqsort_func_cUnionOrigins_1_ok{N:Nat}{a0:Int}{a1:Int}{a2:Int}{a3:List Org}{r:(List Org)}(h:Qj N a0 a1 a2 a3=some r):AbC 284 (Ir a0 a1 a2 a3) (Aw r):=xB6 N _ _ _ _ r h
end Go.Ab.T
end
section
namespace Go.Ab
def Big(p:Nat->Prop):Prop:=∃k,∀N,k<=N->p N
def Big2(p:Nat->Nat->Prop):Prop:=∃k,∀N n,k<=N->k<=n->p N n
theorem Big.imp{p q:Nat->Prop}(h:Big p)(f:∀N,p N->q N):Big q:=h.elim fun k hk=>⟨k,fun N hN=>f N (hk N hN)⟩
theorem Big2.imp{p q:Nat->Nat->Prop}(h:Big2 p)(f:∀N n,p N n->q N n):Big2 q:=h.elim fun k hk=>⟨k,fun N n h1 h2=>f N n (hk N n h1 h2)⟩
theorem Big.of{p:Nat->Prop}(h:∀N,p N):Big p:=⟨0,fun N _=>h N⟩
theorem Big2.of{p:Nat->Nat->Prop}(h:∀N n,p N n):Big2 p:=⟨0,fun N n _ _=>h N n⟩
def Big.and{p q:Nat->Prop}(h:Big p)(h' :Big q):Big fun N=>p N/\q N:=by
 obtain⟨a,ha⟩:=h;obtain⟨b,hb⟩:=h';exact⟨max a b,fun N hN=>⟨ha N (by omega),hb N (by omega)⟩⟩
def Big2.and{p q:Nat->Nat->Prop}(h:Big2 p)(h' :Big2 q):Big2 fun N n=>p N n/\q N n:=by
 obtain⟨a,ha⟩:=h;obtain⟨b,hb⟩:=h';exact⟨max a b,fun N n h1 h2=>⟨ha N n (by omega) (by omega),hb N n (by omega) (by omega)⟩⟩
def Big.two{p:Nat->Prop}(h:Big p):Big2 fun N _=>p N:=h.elim fun k hk=>⟨k,fun N _ h _=>hk N h⟩
def Big2.diag{p:Nat->Nat->Prop}(h:Big2 p):Big fun N=>p N N:=h.elim fun k hk=>⟨k,fun N h=>hk N N h h⟩
theorem Big2.succ{p:Nat->Nat->Prop}(h:Big2 fun N n=>p N (n+1)):Big2 p:=by
 obtain⟨k,hk⟩:=h;refine⟨k+1,fun N n h1 h2=> ?_⟩;obtain⟨m,rfl⟩:∃m,n=m+1:=⟨n - 1,by omega⟩
 grind
theorem Big.list{α:Type}{p:α->Nat->Prop}{l:List α}(h:∀x∈l,Big (p x)):Big fun N=>∀x∈l,p x N:=by
 induction l with
 |nil=>grind [of]
 |cons a l ih=>
  refine((h a Zp).and (ih fun x hx=>h x (Zr _ hx))).imp fun N ⟨h1,h2⟩ x hx=> ?_
  grind
theorem Big2.list{α:Type}{p:α->Nat->Nat->Prop}{l:List α}(h:∀x∈l,Big2 (p x)):Big2 fun N n=>∀x∈l,p x N n:=by
 induction l with
 |nil=>grind [of]
 |cons a l ih=>
  refine((h a Zp).and (ih fun x hx=>h x (Zr _ hx))).imp fun N n ⟨h1,h2⟩ x hx=> ?_
  grind
def Big2.inner{p:Nat->Nat->Nat->Prop}(h:∃k,∀N d n,k<=N->k<=d->k<=n->p N d n):Big2 fun N d=>p N d N:=by
 obtain⟨k,hk⟩:=h;exact⟨k,fun N d h1 h2=>hk N d N h1 h2 h1⟩
def Big3(p:Nat->Nat->Nat->Prop):Prop:=∃k,∀N d n,k<=N->k<=d->k<=n->p N d n
def Big3.inner{p:Nat->Nat->Nat->Prop}(h:Big3 p):Big2 fun N d=>p N d N:=Big2.inner h
theorem Big3.imp{p q:Nat->Nat->Nat->Prop}(h:Big3 p)(f:∀N d n,p N d n->q N d n):Big3 q:=h.elim fun k hk=>⟨k,fun N d n h1 h2 h3=>f N d n (hk N d n h1 h2 h3)⟩
def Big3.and{p q:Nat->Nat->Nat->Prop}(h:Big3 p)(h' :Big3 q):Big3 fun N d n=>p N d n/\q N d n:=by
 obtain⟨a,ha⟩:=h;obtain⟨b,hb⟩:=h';exact⟨max a b,fun N d n h1 h2 h3=>⟨ha N d n (by omega) (by omega) (by omega),hb N d n (by omega) (by omega) (by omega)⟩⟩
theorem Big3.succ{p:Nat->Nat->Nat->Prop}(h:Big3 fun N d n=>p N d (n+1)):Big3 p:=by
 obtain⟨k,hk⟩:=h;refine⟨k+1,fun N d n h1 h2 h3=> ?_⟩;obtain⟨m,rfl⟩:∃m,n=m+1:=⟨n - 1,by omega⟩
 grind
theorem Big3.of{p:Nat->Nat->Nat->Prop}(h:∀N d n,p N d n):Big3 p:=⟨0,fun N d n _ _ _=>h N d n⟩
def Big2.three{p:Nat->Nat->Prop}(h:Big2 p):Big3 fun N d _=>p N d:=h.elim fun k hk=>⟨k,fun N d _ h1 h2 _=>hk N d h1 h2⟩
theorem Big.get{p:Nat->Prop}(h:Big p):∃N,p N:=h.elim fun k hk=>⟨k,hk k (Zn k)⟩
def I64(x:Int):Prop:= -9223372036854775808<=x/\x<=9223372036854775807
theorem xDa(x:Int):IntKind.i64.wrap x=if x % 18446744073709551616>=9223372036854775808 then x % 18446744073709551616 - 18446744073709551616 else x % 18446744073709551616:=by
 show(if(true&&decide (x % 18446744073709551616>=9223372036854775808))=true then x % 18446744073709551616 - 18446744073709551616 else x % 18446744073709551616)=_
 grind
theorem AU{x:Int}(h1: -9223372036854775808<=x)(h2:x<=9223372036854775807):IntKind.i64.wrap x=x:=by
 grind [xDa]
theorem xG6(x:Int):I64 (IntKind.i64.wrap x):=by
 grind [xDa,I64]
theorem B9{α:Type}{xs:List α}{i:Nat}{x:α}{l:List α}(h:xs.drop i=x::l):i<xs.length/\xs[i]? =some x/\xs.drop (i+1)=l:=by
 grind [List.drop_eq_nil_of_le,List.drop_eq_getElem_cons]
theorem HI{α:Type}{xs:List α}{i:Nat}(h:xs.drop i=[]):xs.length<=i:=by simpa using h
end Go.Ab
end
section
namespace Go.Ab
open Go.Sort
theorem xBt{a b:Org}:olt a b=true↔a.cell<b.cell\/(a.cell=b.cell/\a.row<b.row):=by
 grind [olt]
theorem Q2{a b:Org}:olt a b=false↔b.cell<a.cell\/(a.cell=b.cell/\b.row<=a.row):=by
 grind [xBt]
def EG:SWO olt where
 irrefl:=fun x=>Q2.2 (by omega)
 trans:=fun x y z h1 h2=>by grind [xBt]
 ntrans:=fun x y z h1 h2=>by grind [Q2]
theorem Q0(x y:Org)(h1:olt x y=false)(h2:olt y x=false):x=y:=by
 rw [Q2] at h1 h2;cases x;cases y
 grind
theorem xKZ(N:Nat)(a b:Org):H9 N a b=some (olt a b):=by
 grind [H9,olt]
theorem xKl(N:Nat){i j:Nat}{d:Array Org}(hi:i<d.size)(hj:j<d.size):BK N (i:Int) (j:Int) d.toList=some (olt d[i]! d[j]!,d.toList):=by
 grind [BK,xKZ]
theorem xNT(N:Nat){i j:Nat}{d:Array Org}(hi:i<d.size)(hj:j<d.size):Ap N (i:Int) (j:Int) d.toList=some (swp d i j).toList:=by
 unfold Ap rH
 simp_all
theorem wn{x:Int}(n:Nat)(h:x=n)(hn:n<9223372036854775808):V.wrap x=(n:Int):=by grind [AU]
def CH{β:Type}(N:Nat){x y:Int}{i j:Nat}{d:Array Org}(hx:x=i)(hy:y=j)(hi:i<d.size)(hj:j<d.size)(k:Bool×List Org->Option β):
 Option.bind (BK N x y d.toList) k=k (olt d[i]! d[j]!,d.toList):=by grind [xKl]
def B1{β:Type}(N:Nat){x y:Int}{i j:Nat}{d:Array Org}(hx:x=i)(hy:y=j)(hi:i<d.size)(hj:j<d.size)(h2:2<=d.size)(k:List Org->Option β):
 (Option.bind (Ap N x y d.toList) fun r=>if 2<=length d.toList then if length r=length d.toList then k r else none else none)=k (swp d i j).toList:=by
 grind [xNT,swp]
theorem A1{d:Array Org}{i j:Nat}:(swp d i j).size=d.size:=by simp [swp]
theorem LG(lt:Org->Org->Bool)(a:Nat):∀(j:Nat) (d:Array Org),(insInner lt a j d).size=d.size
 |0,d=>rfl
 |j+1,d=>by
  unfold insInner;split
  ·rw [LG lt a j,A1]
  ·rfl
def xAz(N:Nat)(k:Int->Int->Int->List Org->Option (List Org)){a b i:Nat}(hi:i<4611686018427387904):∀(j n:Nat) (d:Array Org),j<d.size->2<=d.size->d.size<4611686018427387904->j<n->
 Ii N k n (a:Int) (b:Int) (i:Int) (j:Int) d.toList=k (a:Int) (b:Int) ((i+1:Nat):Int) (insInner olt a j d).toList
 |0,n,d,hj,h2,hs,hn=>by
  obtain⟨n,rfl⟩:∃m,n=m+1:=⟨n - 1,by omega⟩;have e:(decide (((0:Nat):Int)>(a:Int)))=false:=Zw (by omega);rw [Ii,e,jF,wn (i+1) (by omega) (by omega)]
  rfl
 |j+1,n,d,hj,h2,hs,hn=>by
  obtain⟨n,rfl⟩:∃m,n=m+1:=⟨n - 1,by omega⟩;rw [Ii,insInner];by_cases ha:j+1>a
  ·have e:(decide (((j+1:Nat):Int)>(a:Int)))=true:=Zz (by omega);rw [e,jT,wn (n:=j) (by omega) (by omega),CH N rfl rfl hj (by omega)];dsimp only;cases hl:olt d[j+1]! d[j]! with
   |true=>
    rw [jT,B1 N rfl rfl hj (by omega) h2,xAz N k hi j n _ (by grind [A1]) (by grind [A1]) (by grind [A1]) (by omega)]
    grind
   |false=>
    rw [jF,wn (i+1) (by omega) (by omega),Za (by simp)]
  ·have e:(decide (((j+1:Nat):Int)>(a:Int)))=false:=Zw (by omega);rw [e,jF,wn (i+1) (by omega) (by omega),Za (by grind)]
def xIK(N:Nat){a b:Nat}:∀(m i n:Nat) (d:Array Org),b - i=m->b<=d.size->2<=d.size->d.size<4611686018427387904->i<4611686018427387904->m<n->d.size<N->
 Ih N n (a:Int) (b:Int) (i:Int) d.toList=some (insOuter olt a b i d).toList:=by
 intro m
 induction m with
 |zero=>
  intro i n d hm hb h2 hs hi hn hN;obtain⟨n,rfl⟩:∃m,n=m+1:=⟨n - 1,by omega⟩
  grind [Ih,insOuter]
 |succ m ih=>
  intro i n d hm hb h2 hs hi hn hN;obtain⟨n,rfl⟩:∃m,n=m+1:=⟨n - 1,by omega⟩;have e:(decide ((i:Int)<(b:Int)))=true:=Zz (by omega);rw [Ih,e,jT,xAz N _ hi i N d (by omega) h2 hs (by omega),insOuter,Zt (by omega)];exact ih (i+1) n _ (by omega) (by grind [LG]) (by grind [LG]) (by grind [LG]) (by omega) (by omega) (by grind [LG])
def xIL(N:Nat){a b:Nat}{d:Array Org}(hab:a<=b)(hb:b<=d.size)(h2:2<=d.size)(hs:d.size<1152921504606846976)(hN:d.size<N):
 Ni N (a:Int) (b:Int) d.toList=some (insertionSort olt d a b).toList:=by
 unfold Ni insertionSort;rw [wn (a+1) (by omega) (by omega)];exact xIK N _ _ N d rfl hb h2 (by omega) (by omega) (by omega) hN
def xLI(N:Nat){hi first:Nat}(x:Int):∀(m root n:Nat) (d:Array Org),hi - root=m->root<=hi->first+hi<=d.size->2<=d.size->d.size<1152921504606846976->m<n->
 FE N n (hi:Int) (first:Int) (root:Int) d.toList=some (siftDown olt hi first root d).toList/\(siftDown olt hi first root d).size=d.size:=by
 intro m
 induction m using Nat.strongRecOn with
 |_ m ih=>
  intro root n d hm hr hf h2 hs hn;obtain⟨n,rfl⟩:∃m,n=m+1:=⟨n - 1,by omega⟩;have w1:V.wrap (V.wrap (2*(root:Int))+1)=((2*root+1:Nat):Int):=by
   have e:V.wrap (2*(root:Int))=((2*root:Nat):Int):=wn _ (by omega) (by omega);rw [e];exact wn _ (by omega) (by omega)
  have w2:V.wrap (((2*root+1:Nat):Int)+1)=((2*root+2:Nat):Int):=wn _ (by omega) (by omega);rw [FE,siftDown,w1,w2];by_cases hc:2*root+1>=hi
  ·grind
  ·have e:(decide (((2*root+1:Nat):Int)>=(hi:Int)))=false:=Zw (by omega);rw [e,jF,dif_neg hc];have w3:V.wrap ((first:Int)+((2*root+1:Nat):Int))=((first+(2*root+1):Nat):Int):=wn _ (by omega) (by omega);have w4:V.wrap (((first+(2*root+1):Nat):Int)+1)=((first+(2*root+1)+1:Nat):Int):=wn _ (by omega) (by omega);have w5:V.wrap ((first:Int)+(root:Int))=((first+root:Nat):Int):=wn _ (by omega) (by omega);rw [w3,w4,w5]
   have one:∀(c:Nat),c<hi->root<c->(Option.bind (BK N ((first+root:Nat):Int) ((first+c:Nat):Int) d.toList) fun r2=>
    bif(!r2.1) then some r2.2 else
     Option.bind (Ap N ((first+root:Nat):Int) ((first+c:Nat):Int) r2.2) fun r3=>
     if 2<=length r2.2 then
     if length r3=length r2.2 then
     (FE N n (hi:Int) (first:Int) (c:Int) r3)
     else none
     else none)=some (if !olt d[first+root]! d[first+c]! then d else siftDown olt hi first c (swp d (first+root) (first+c))).toList/\
    (if !olt d[first+root]! d[first+c]! then d else siftDown olt hi first c (swp d (first+root) (first+c))).size=d.size:=by
    intro c hc1 hc2;rw [CH N rfl rfl (by omega) (by omega)];dsimp only;cases hl:olt d[first+root]! d[first+c]! with
    |false=>grind
    |true=>
     have:=ih (hi - c) (by omega) c n (swp d (first+root) (first+c)) rfl (by omega) (by grind [A1]) (by grind [A1]) (by grind [A1]) (by omega);rw [jU,jF,B1 N rfl rfl (by omega) (by omega) h2]
     grind [A1]
   by_cases hd:2*root+1+1<hi
   ·have e:(decide (((2*root+2:Nat):Int)<(hi:Int)))=true:=Zz (by omega);have w6:V.wrap ((first:Int)+((2*root+2:Nat):Int))=((first+(2*root+2):Nat):Int):=wn _ (by omega) (by omega);rw [e,jT,CH N rfl rfl (by omega) (by omega),w6];dsimp only;cases hl:olt d[first+(2*root+1)]! d[first+(2*root+1)+1]! with
    |true=>
     rw [jT];have:=one (2*root+2) (by omega) (by omega)
     simp_all
    |false=>
     grind
   grind
end Go.Ab
end
