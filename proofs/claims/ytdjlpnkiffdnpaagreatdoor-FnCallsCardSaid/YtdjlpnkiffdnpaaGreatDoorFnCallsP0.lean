/- The statement FnCalls holds: plain functions, certificates, laws. Conditions: none. -/
import Derived.LaidMore
import Derived.Lay
import Derived.Lib.LaidTab
import Derived.Maps.AppendAt
import Derived.Maps.OwnSet
import Derived.OpenVars
import Derived.OrdersHeld
import Derived.SevenTiedAt
import Derived.Shelf.GgSortFunc.Slice
import Derived.Shelf.GgSortFunc.Tiny
import Derived.Shelf.Slices.In.SortNone2
import Derived.Shelf.Small.Bits
import Derived.Shelf.Small.Strs
import Derived.Shelf.Sort.Plain
import Derived.Shelf.Strconv.Itoa3
import Derived.Shelf.Strings.OnBuilder
import Derived.Shelf.Strings.Prefix
import Derived.Shelf.Strings.Search1
import Derived.Shelf.Strings.Split
import Derived.Sort.AssemblyPlain
import Derived.Stop.Joined
import Derived.Stop.LaidErr
import Derived.Test.YtdjlpnkiffdnpaaGreatDoorCards
import Derived.Test.YtdjlpnkiffdnpaaGreatDoorChecked
import Derived.Test.YtdjlpnkiffdnpaaGreatDoorProg
import Derived.Test.YtdjlpnkiffdnpaaGreatDoorRows
import Derived.Test.YtdjlpnkiffdnpaaGreatDoorTie
import Derived.WalkKit
import Derived.Test.YtdjlpnkiffdnpaaGreatDoorL2
set_option linter.all false
section
namespace Go.Ab
abbrev Ds:Str:=Ty.str.dflt
abbrev Do:Org:=Ty.org.dflt
abbrev Di:Int:=Ty.int.dflt
abbrev Dv:Val:=Ty.val.dflt
abbrev Cu(f:Fl)(e:Cur):List CV:=[.sl f .byte (Cur.b e),.int .i64 (Cur.i e),.int .i64 (Cur.h e)]
abbrev Va(f:Fl)(e:Val):List CV:=[.int .i64 (Val.kind e),.int .i64 (Val.n e),.int .i64 (Val.step e),.str (Val.text e),.sl f .val (Val.list e),.sl f .str (Val.columns e),.sl f .row (Val.rows e)]
abbrev vI(x:Int):AV:= .v false [.int .i64 x]
abbrev vP(s:Nat):AV:= .v false [.ptr s 0]
abbrev vB(x:Bool):AV:= .v false [.bool x]
abbrev vT(x:Str):AV:= .v false [.str x]
abbrev vS(f:Fl)(T:Ty)(x:List T.den):AV:= .v false [.sl f T x]
abbrev vV(f:Fl)(x:Val):AV:= .v true (Va f x)
abbrev cO(a:AV):CallO:=⟨a,[],[]⟩
end Go.Ab
end
section
open Go.IntKind (i64)
namespace Go.Ab
def xLD(a0:Int):List Arg:=[.box [.int .u64 a0]]
def xLF(r:Int×Int):CallO:=⟨.v false [.int .u64 r.1],[[.int .u64 r.2]],[]⟩
def IB(N:Nat)(a0:Int):Option (Int×Int):=some ((zAc .u64 (zAc .u64 (zAc .u64 a0 (IntKind.u64.wrap (a0*2 ^ (Int.toNat 13)))) (Int.fdiv (zAc .u64 a0 (IntKind.u64.wrap (a0*2 ^ (Int.toNat 13)))) ((2:Int) ^ (Int.toNat 7)))) (IntKind.u64.wrap ((zAc .u64 (zAc .u64 a0 (IntKind.u64.wrap (a0*2 ^ (Int.toNat 13)))) (Int.fdiv (zAc .u64 a0 (IntKind.u64.wrap (a0*2 ^ (Int.toNat 13)))) ((2:Int) ^ (Int.toNat 7))))*2 ^ (Int.toNat 17)))),(zAc .u64 (zAc .u64 (zAc .u64 a0 (IntKind.u64.wrap (a0*2 ^ (Int.toNat 13)))) (Int.fdiv (zAc .u64 a0 (IntKind.u64.wrap (a0*2 ^ (Int.toNat 13)))) ((2:Int) ^ (Int.toNat 7)))) (IntKind.u64.wrap ((zAc .u64 (zAc .u64 a0 (IntKind.u64.wrap (a0*2 ^ (Int.toNat 13)))) (Int.fdiv (zAc .u64 a0 (IntKind.u64.wrap (a0*2 ^ (Int.toNat 13)))) ((2:Int) ^ (Int.toNat 7))))*2 ^ (Int.toNat 17)))))
def xJ0(a0:Int):List Arg:=[.val (.v false [.int .u64 a0])]
def xJ2(r:Int):CallO:=(cO (vI r))
def Ju(N:Nat)(a0:Int):Option Int:=nF a0
def xLn(a0:Int):List Arg:=[.val (vI a0)]
def xLp(r:Int):CallO:=⟨.v false [.int .u64 r],[],[]⟩
def Hv(N:Nat)(a0:Int):Option (Int):=(Ju N (IntKind.u64.wrap (a0))).bind fun r1=>if(0:Int)<=(IntKind.u64.wrap (r1))/\(IntKind.u64.wrap (r1))<64 then some (IntKind.u64.wrap (1*2 ^ (Int.toNat (IntKind.u64.wrap (r1))))) else none
def xIZ(a0 a1:Int)(a2:List Org):List Arg:=[.val (vI a0),.val (vI a1),.val (vS (.lnt 0) .org a2),.val (.v false [.val (.pointer (some ⟨3,112,none⟩))])]
def xI0(r:(List Org)):CallO:=⟨.tup [],[],[.sl (.lnt 0) .org r]⟩
def zR(N:Nat)(a0 a1:Int)(a2:List Org):Option (List Org):=qS a0 a1 a2
def xLA(a0:Int)(a1:Int)(a2:List Org):List Arg:=[.val (.v true [.clo 144 [1000003],.swp 189 0 (.pointer (some ⟨3,112,none⟩)) 1000003]),.val (vI a0),.val (vI a1),.gbox [.sl (.lnt 0) .org a2]]
def Oe(r:(List Org)):CallO:=⟨.tup [],[[.sl (.lnt 0) .org r]],[]⟩
def FK(N:Nat):Nat->Int->Int->(List Org)->Option ((List Org))
 |0,_,_,_=>none
 |n+1,x6,x7,g003=>bif(decide (x6<x7)) then((zR N x6 x7 g003).bind fun r1=>if 2<=g003.length then if r1.length=g003.length then(FK N n (i64.wrap (x6+1)) (i64.wrap (x7 - 1)) r1) else none else none) else(some g003)
def IA(N:Nat)(a0:Int)(a1:Int)(a2:List Org):Option ((List Org)):=(FK N N a0 (i64.wrap (a1 - 1)) a2)
def xK9(a0:Int)(a1:Int)(a2:List Org):List Arg:=[.val (.v true [.clo 144 [1000003],.swp 189 0 (.pointer (some ⟨3,112,none⟩)) 1000003]),.val (vI a0),.val (vI a1),.gbox [.sl (.lnt 0) .org a2]]
def Ob(r:(List Org)):CallO:=⟨.tup [],[[.sl (.lnt 0) .org r]],[]⟩
def Df(N:Nat):Nat->Int->Int->Int->Int->Int->(List Org)->Option ((List Org))
 |0,_,_,_,_,_,_=>none
 |n+1,x1,x6,x8,x9,b7,g003=>bif(decide (x9<=(i64.wrap ((i64.wrap (x1+(i64.wrap ((i64.wrap (Int.tdiv x6 4))*2))))+1)))) then((IB N b7).bind fun r1=>bif(decide (((i64.wrap ((rT .u64 r1.1 (IntKind.u64.wrap (x8 - 1))))):Int)>=x6)) then((zR N x9 (i64.wrap (x1+(i64.wrap ((i64.wrap ((rT .u64 r1.1 (IntKind.u64.wrap (x8 - 1))))) - x6)))) g003).bind fun r2=>if 2<=g003.length then if r2.length=g003.length then(Df N n x1 x6 x8 (i64.wrap (x9+1)) r1.2 r2) else none else none) else((zR N x9 (i64.wrap (x1+(i64.wrap ((rT .u64 r1.1 (IntKind.u64.wrap (x8 - 1))))))) g003).bind fun r2=>if 2<=g003.length then if r2.length=g003.length then(Df N n x1 x6 x8 (i64.wrap (x9+1)) r1.2 r2) else none else none)) else(some g003)
def Hq(N:Nat)(a0:Int)(a1:Int)(a2:List Org):Option ((List Org)):=bif(decide ((i64.wrap (a1 - a0))>=8)) then((Hv N (i64.wrap (a1 - a0))).bind fun r1=>(Df N N a0 (i64.wrap (a1 - a0)) r1 (i64.wrap ((i64.wrap (a0+(i64.wrap ((i64.wrap (Int.tdiv (i64.wrap (a1 - a0)) 4))*2)))) - 1)) (IntKind.u64.wrap ((i64.wrap (a1 - a0)))) a2)) else(some a2)
def xID(a0:Org)(a1:Org):List Arg:=[.val (.v true [.int .i64 a0.cell,.int .i64 a0.row]),.val (.v true [.int .i64 a1.cell,.int .i64 a1.row])]
def xIF(r:Bool):CallO:=(cO (vB r))
def Ek(N:Nat)(a0:Org)(a1:Org):Option (Bool):=bif(decide (a0.cell<a1.cell)) then(some true) else(bif(a0.cell==a1.cell) then(some (decide (a0.row<a1.row))) else(some false))
def xHR(a0:Int)(a1:Int)(a2:List Org):List Arg:=[.val (vI a0),.val (vI a1),.box [.sl (.lnt 0) .org a2]]
def xHS(r:Bool×(List Org)):CallO:=⟨(vB r.1),[[.sl (.lnt 0) .org r.2]],[]⟩
def AJ(N:Nat)(a0:Int)(a1:Int)(a2:List Org):Option (Bool×(List Org)):=if(0:Int)<=a0/\a0<a2.length then if(0:Int)<=a1/\a1<a2.length then(Ek N (a2.getD a0.toNat Do) (a2.getD a1.toNat Do)).bind fun r1=>some (r1,a2) else none else none
def xLw(a0:Int)(a1:Int)(a2:Int)(a3:List Org):List Arg:=[.val (.v true [.clo 144 [1000004],.swp 189 0 (.pointer (some ⟨3,112,none⟩)) 1000004]),.val (vI a0),.val (vI a1),.val (vI a2),.gbox [.sl (.lnt 0) .org a3]]
def FJ(r:Int×Bool×(List Org)):CallO:=⟨.tup [(false,[.int .i64 r.1]),(false,[.bool r.2.1])],[[.sl (.lnt 0) .org r.2.2]],[]⟩
def Cp(N:Nat)(k13:Int->Int->Int->(List Org)->Option (Int×Bool×(List Org))):Nat->Int->Int->Int->(List Org)->Option (Int×Bool×(List Org))
 |0,_,_,_,_=>none
 |n+1,x1,x10,x11,g004=>bif(decide (x10<=x11)) then((AJ N x11 x1 g004).bind fun r1=>bif(!r1.1) then((Cp N k13 n x1 x10 (i64.wrap (x11 - 1)) r1.2)) else(bif(decide (x10>x11)) then((zR N x11 x1 r1.2).bind fun r2=>if 2<=r1.2.length then if r2.length=r1.2.length then some (x11,false,r2) else none else none) else((zR N x10 x11 r1.2).bind fun r2=>if 2<=r1.2.length then if r2.length=r1.2.length then(k13 x1 (i64.wrap (x10+1)) (i64.wrap (x11 - 1)) r2) else none else none))) else(bif(decide (x10>x11)) then((zR N x11 x1 g004).bind fun r1=>if 2<=g004.length then if r1.length=g004.length then some (x11,false,r1) else none else none) else((zR N x10 x11 g004).bind fun r1=>if 2<=g004.length then if r1.length=g004.length then(k13 x1 (i64.wrap (x10+1)) (i64.wrap (x11 - 1)) r1) else none else none))
def Bi(N:Nat):Nat->Int->Int->Int->(List Org)->Option (Int×Bool×(List Org))
 |0,_,_,_,_=>none
 |n+1,x1,x10,x11,g004=>bif(decide (x10<=x11)) then((AJ N x10 x1 g004).bind fun r1=>bif r1.1 then((Bi N n x1 (i64.wrap (x10+1)) x11 r1.2)) else((Cp N (fun z0 z1 z2 z3=>(Bi N n z0 z1 z2 z3)) N x1 x10 x11 r1.2))) else((Cp N (fun z0 z1 z2 z3=>(Bi N n z0 z1 z2 z3)) N x1 x10 x11 g004))
def Cq(N:Nat):Nat->Int->Int->Int->(List Org)->Option (Int×Bool×(List Org))
 |0,_,_,_,_=>none
 |n+1,x1,x10,x11,g004=>bif(decide (x10<=x11)) then((AJ N x11 x1 g004).bind fun r1=>bif(!r1.1) then((Cq N n x1 x10 (i64.wrap (x11 - 1)) r1.2)) else(bif(decide (x10>x11)) then((zR N x11 x1 r1.2).bind fun r2=>if 2<=r1.2.length then if r2.length=r1.2.length then some (x11,true,r2) else none else none) else((zR N x10 x11 r1.2).bind fun r2=>if 2<=r1.2.length then if r2.length=r1.2.length then(Bi N N x1 (i64.wrap (x10+1)) (i64.wrap (x11 - 1)) r2) else none else none))) else(bif(decide (x10>x11)) then((zR N x11 x1 g004).bind fun r1=>if 2<=g004.length then if r1.length=g004.length then some (x11,true,r1) else none else none) else((zR N x10 x11 g004).bind fun r1=>if 2<=g004.length then if r1.length=g004.length then(Bi N N x1 (i64.wrap (x10+1)) (i64.wrap (x11 - 1)) r1) else none else none))
def FI(N:Nat):Nat->Int->Int->Int->(List Org)->Option (Int×Bool×(List Org))
 |0,_,_,_,_=>none
 |n+1,x1,x10,x11,g004=>bif(decide (x10<=x11)) then((AJ N x10 x1 g004).bind fun r1=>bif r1.1 then((FI N n x1 (i64.wrap (x10+1)) x11 r1.2)) else((Cq N N x1 x10 x11 r1.2))) else((Cq N N x1 x10 x11 g004))
def Hz(N:Nat)(a0:Int)(a1:Int)(a2:Int)(a3:List Org):Option (Int×Bool×(List Org)):=(zR N a0 a2 a3).bind fun r1=>if 2<=a3.length then if r1.length=a3.length then(FI N N a0 (i64.wrap (a0+1)) (i64.wrap (a1 - 1)) r1) else none else none
def xLu(a0:Int)(a1:Int)(a2:Int)(a3:List Org):List Arg:=[.val (.v true [.clo 144 [1000004],.swp 189 0 (.pointer (some ⟨3,112,none⟩)) 1000004]),.val (vI a0),.val (vI a1),.val (vI a2),.gbox [.sl (.lnt 0) .org a3]]
def Hy(r:Int×(List Org)):CallO:=⟨(vI r.1),[[.sl (.lnt 0) .org r.2]],[]⟩
def Co(N:Nat)(k3:Int->Int->Int->(List Org)->Option (Int×(List Org))):Nat->Int->Int->Int->(List Org)->Option (Int×(List Org))
 |0,_,_,_,_=>none
 |n+1,x1,x9,x10,g004=>bif(decide (x9<=x10)) then((AJ N x1 x10 g004).bind fun r1=>bif r1.1 then((Co N k3 n x1 x9 (i64.wrap (x10 - 1)) r1.2)) else(bif(decide (x9>x10)) then(some (x9,r1.2)) else((zR N x9 x10 r1.2).bind fun r2=>if 2<=r1.2.length then if r2.length=r1.2.length then(k3 x1 (i64.wrap (x9+1)) (i64.wrap (x10 - 1)) r2) else none else none))) else(bif(decide (x9>x10)) then(some (x9,g004)) else((zR N x9 x10 g004).bind fun r1=>if 2<=g004.length then if r1.length=g004.length then(k3 x1 (i64.wrap (x9+1)) (i64.wrap (x10 - 1)) r1) else none else none))
def Cn(N:Nat):Nat->Int->Int->Int->(List Org)->Option (Int×(List Org))
 |0,_,_,_,_=>none
 |n+1,x1,x9,x10,g004=>bif(decide (x9<=x10)) then((AJ N x1 x9 g004).bind fun r1=>bif(!r1.1) then((Cn N n x1 (i64.wrap (x9+1)) x10 r1.2)) else((Co N (fun z0 z1 z2 z3=>(Cn N n z0 z1 z2 z3)) N x1 x9 x10 r1.2))) else((Co N (fun z0 z1 z2 z3=>(Cn N n z0 z1 z2 z3)) N x1 x9 x10 g004))
def Hx(N:Nat)(a0:Int)(a1:Int)(a2:Int)(a3:List Org):Option (Int×(List Org)):=(zR N a0 a2 a3).bind fun r1=>if 2<=a3.length then if r1.length=a3.length then(Cn N N a0 (i64.wrap (a0+1)) (i64.wrap (a1 - 1)) r1) else none else none
def xLs(a0:Int)(a1:Int)(a2:List Org):List Arg:=[.val (.v true [.clo 144 [1000003],.swp 189 0 (.pointer (some ⟨3,112,none⟩)) 1000003]),.val (vI a0),.val (vI a1),.gbox [.sl (.lnt 0) .org a2]]
def BP(r:Bool×(List Org)):CallO:=⟨(vB r.1),[[.sl (.lnt 0) .org r.2]],[]⟩
def FE(N:Nat)(k3:Int->Int->Int->Int->(List Org)->Option (Bool×(List Org))):Nat->Int->Int->Int->Int->Int->(List Org)->Option (Bool×(List Org))
 |0,_,_,_,_,_,_=>none
 |n+1,x1,x2,x7,x8,x10,g003=>bif(decide (x10<x2)) then((AJ N x10 (i64.wrap (x10 - 1)) g003).bind fun r1=>bif(!r1.1) then((k3 x1 x2 x7 (i64.wrap (x8+1)) r1.2)) else((zR N x10 (i64.wrap (x10 - 1)) r1.2).bind fun r2=>if 2<=r1.2.length then if r2.length=r1.2.length then(FE N k3 n x1 x2 x7 x8 (i64.wrap (x10+1)) r2) else none else none)) else((k3 x1 x2 x7 (i64.wrap (x8+1)) g003))
def Dg(N:Nat)(k3:Int->Int->Int->Int->(List Org)->Option (Bool×(List Org)))(x1:Int)(x2:Int)(x7:Int)(x8:Int)(g003:List Org):Option (Bool×(List Org)):=bif(decide ((i64.wrap (x2 - x7))>=2)) then((FE N k3 N x1 x2 x7 x8 (i64.wrap (x7+1)) g003)) else((k3 x1 x2 x7 (i64.wrap (x8+1)) g003))
def FD(N:Nat)(k3:Int->Int->Int->Int->(List Org)->Option (Bool×(List Org))):Nat->Int->Int->Int->Int->Int->(List Org)->Option (Bool×(List Org))
 |0,_,_,_,_,_,_=>none
 |n+1,x1,x2,x7,x8,x9,g003=>bif(decide (x9>=1)) then((AJ N x9 (i64.wrap (x9 - 1)) g003).bind fun r1=>bif(!r1.1) then((Dg N k3 x1 x2 x7 x8 r1.2)) else((zR N x9 (i64.wrap (x9 - 1)) r1.2).bind fun r2=>if 2<=r1.2.length then if r2.length=r1.2.length then(FD N k3 n x1 x2 x7 x8 (i64.wrap (x9 - 1)) r2) else none else none)) else((Dg N k3 x1 x2 x7 x8 g003))
def FH(N:Nat)(k3:Int->Int->Int->Int->(List Org)->Option (Bool×(List Org)))(x1:Int)(x2:Int)(x7:Int)(x8:Int)(g003:List Org):Option (Bool×(List Org)):=bif(x7==x2) then(some (true,g003)) else(bif(decide ((i64.wrap (x2 - x1))<50)) then(some (false,g003)) else((zR N x7 (i64.wrap (x7 - 1)) g003).bind fun r1=>if 2<=g003.length then if r1.length=g003.length then bif(decide ((i64.wrap (x7 - x1))>=2)) then((FD N k3 N x1 x2 x7 x8 (i64.wrap (x7 - 1)) r1)) else((Dg N k3 x1 x2 x7 x8 r1)) else none else none))
def FG(N:Nat)(k3:Int->Int->Int->Int->(List Org)->Option (Bool×(List Org))):Nat->Int->Int->Int->Int->(List Org)->Option (Bool×(List Org))
 |0,_,_,_,_,_=>none
 |n+1,x1,x2,x7,x8,g003=>bif(decide (x7<x2)) then((AJ N x7 (i64.wrap (x7 - 1)) g003).bind fun r1=>bif(!r1.1) then((FG N k3 n x1 x2 (i64.wrap (x7+1)) x8 r1.2)) else((FH N k3 x1 x2 x7 x8 r1.2))) else((FH N k3 x1 x2 x7 x8 g003))
def Dh(N:Nat):Nat->Int->Int->Int->Int->(List Org)->Option (Bool×(List Org))
 |0,_,_,_,_,_=>none
 |n+1,x1,x2,x7,x8,g003=>bif(decide (x8<5)) then((FG N (fun z0 z1 z2 z3 z4=>(Dh N n z0 z1 z2 z3 z4)) N x1 x2 x7 x8 g003)) else(some (false,g003))
def Hw(N:Nat)(a0:Int)(a1:Int)(a2:List Org):Option (Bool×(List Org)):=(Dh N N a0 a1 (i64.wrap (a0+1)) 0 a2)
def xLq(a0:Int)(a1:Int)(a2:Int)(a3:List Org):List Arg:=[.val (.v true [.clo 144 [1000004],.swp 189 0 (.pointer (some ⟨3,112,none⟩)) 1000004]),.val (vI a0),.val (vI a1),.box [.int .i64 a2],.gbox [.sl (.lnt 0) .org a3]]
def xLr(r:Int×Int×Int×(List Org)):CallO:=⟨.tup [(false,[.int .i64 r.1]),(false,[.int .i64 r.2.1])],[[.int .i64 r.2.2.1],[.sl (.lnt 0) .org r.2.2.2]],[]⟩
def FC(N:Nat)(a0:Int)(a1:Int)(a2:Int)(a3:List Org):Option (Int×Int×Int×(List Org)):=(AJ N a1 a0 a3).bind fun r1=>bif r1.1 then(some (a1,a0,(i64.wrap (a2+1)),r1.2)) else(some (a0,a1,a2,r1.2))
def xLl(a0:Int)(a1:Int)(a2:Int)(a3:Int)(a4:List Org):List Arg:=[.val (.v true [.clo 144 [1000005],.swp 189 0 (.pointer (some ⟨3,112,none⟩)) 1000005]),.val (vI a0),.val (vI a1),.val (vI a2),.box [.int .i64 a3],.gbox [.sl (.lnt 0) .org a4]]
def xLm(r:Int×Int×(List Org)):CallO:=⟨(vI r.1),[[.int .i64 r.2.1],[.sl (.lnt 0) .org r.2.2]],[]⟩
def FB(N:Nat)(a0:Int)(a1:Int)(a2:Int)(a3:Int)(a4:List Org):Option (Int×Int×(List Org)):=(FC N a0 a1 a3 a4).bind fun r1=>(FC N r1.2.1 a2 r1.2.2.1 r1.2.2.2).bind fun r2=>(FC N r1.1 r2.1 r2.2.2.1 r2.2.2.2).bind fun r3=>some (r3.2.1,r3.2.2.1,r3.2.2.2)
def xLj(a0:Int)(a1:Int)(a2:List Org):List Arg:=[.val (.v true [.clo 144 [1000003],.swp 189 0 (.pointer (some ⟨3,112,none⟩)) 1000003]),.val (vI a0),.box [.int .i64 a1],.gbox [.sl (.lnt 0) .org a2]]
def xLk(r:Int×Int×(List Org)):CallO:=⟨(vI r.1),[[.int .i64 r.2.1],[.sl (.lnt 0) .org r.2.2]],[]⟩
def FA(N:Nat)(a0:Int)(a1:Int)(a2:List Org):Option (Int×Int×(List Org)):=(FB N (i64.wrap (a0 - 1)) a0 (i64.wrap (a0+1)) a1 a2).bind fun r1=>some (r1.1,r1.2.1,r1.2.2)
def xLc(a0:Int)(a1:Int)(a2:List Org):List Arg:=[.val (.v true [.clo 144 [1000003],.swp 189 0 (.pointer (some ⟨3,112,none⟩)) 1000003]),.val (vI a0),.val (vI a1),.gbox [.sl (.lnt 0) .org a2]]
def xLe(r:Int×Int×(List Org)):CallO:=⟨.tup [(false,[.int .i64 r.1]),(false,[.int .i64 r.2.1])],[[.sl (.lnt 0) .org r.2.2]],[]⟩
def Hr(N:Nat)(a0:Int)(a1:Int)(a2:List Org):Option (Int×Int×(List Org)):=bif(decide ((i64.wrap (a1 - a0))>=8)) then(bif(decide ((i64.wrap (a1 - a0))>=50)) then((FA N (i64.wrap (a0+(i64.wrap ((i64.wrap (Int.tdiv (i64.wrap (a1 - a0)) 4))*1)))) 0 a2).bind fun r1=>(FA N (i64.wrap (a0+(i64.wrap ((i64.wrap (Int.tdiv (i64.wrap (a1 - a0)) 4))*2)))) r1.2.1 r1.2.2).bind fun r2=>(FA N (i64.wrap (a0+(i64.wrap ((i64.wrap (Int.tdiv (i64.wrap (a1 - a0)) 4))*3)))) r2.2.1 r2.2.2).bind fun r3=>(FB N r1.1 r2.1 r3.1 r3.2.1 r3.2.2).bind fun r4=>bif(r4.2.1==0) then(some (r4.1,1,r4.2.2)) else(bif(r4.2.1==12) then(some (r4.1,2,r4.2.2)) else(some (r4.1,0,r4.2.2)))) else((FB N (i64.wrap (a0+(i64.wrap ((i64.wrap (Int.tdiv (i64.wrap (a1 - a0)) 4))*1)))) (i64.wrap (a0+(i64.wrap ((i64.wrap (Int.tdiv (i64.wrap (a1 - a0)) 4))*2)))) (i64.wrap (a0+(i64.wrap ((i64.wrap (Int.tdiv (i64.wrap (a1 - a0)) 4))*3)))) 0 a2).bind fun r1=>bif(r1.2.1==0) then(some (r1.1,1,r1.2.2)) else(bif(r1.2.1==12) then(some (r1.1,2,r1.2.2)) else(some (r1.1,0,r1.2.2))))) else(bif((0:Int)==0) then(some ((i64.wrap (a0+(i64.wrap ((i64.wrap (Int.tdiv (i64.wrap (a1 - a0)) 4))*2)))),1,a2)) else(bif((0:Int)==12) then(some ((i64.wrap (a0+(i64.wrap ((i64.wrap (Int.tdiv (i64.wrap (a1 - a0)) 4))*2)))),2,a2)) else(some ((i64.wrap (a0+(i64.wrap ((i64.wrap (Int.tdiv (i64.wrap (a1 - a0)) 4))*2)))),0,a2)
     )))
def xLC(a0:Int)(a1:Int)(a2:Int)(a3:List Org):List Arg:=[.val (.v true [.clo 144 [1000004],.swp 189 0 (.pointer (some ⟨3,112,none⟩)) 1000004]),.val (vI a0),.val (vI a1),.val (vI a2),.gbox [.sl (.lnt 0) .org a3]]
def Og(r:(List Org)):CallO:=⟨.tup [],[[.sl (.lnt 0) .org r]],[]⟩
def Cr(N:Nat):Nat->Int->Int->Int->(List Org)->Option ((List Org))
 |0,_,_,_,_=>none
 |n+1,x2,x3,x8,g004=>bif(decide (((i64.wrap ((i64.wrap (2*x8))+1)):Int)>=x2)) then(some g004) else(bif(decide (((i64.wrap ((i64.wrap ((i64.wrap (2*x8))+1))+1)):Int)<x2)) then((AJ N (i64.wrap (x3+(i64.wrap ((i64.wrap (2*x8))+1)))) (i64.wrap ((i64.wrap (x3+(i64.wrap ((i64.wrap (2*x8))+1))))+1)) g004).bind fun r1=>bif r1.1 then((AJ N (i64.wrap (x3+x8)) (i64.wrap (x3+(i64.wrap ((i64.wrap ((i64.wrap (2*x8))+1))+1)))) r1.2).bind fun r2=>bif(!r2.1) then(some r2.2) else((zR N (i64.wrap (x3+x8)) (i64.wrap (x3+(i64.wrap ((i64.wrap ((i64.wrap (2*x8))+1))+1)))) r2.2).bind fun r3=>if 2<=r2.2.length then if r3.length=r2.2.length then(Cr N n x2 x3 (i64.wrap ((i64.wrap ((i64.wrap (2*x8))+1))+1)) r3) else none else none)) else((AJ N (i64.wrap (x3+x8)) (i64.wrap (x3+(i64.wrap ((i64.wrap (2*x8))+1)))) r1.2).bind fun r2=>bif(!r2.1) then(some r2.2) else((zR N (i64.wrap (x3+x8)) (i64.wrap (x3+(i64.wrap ((i64.wrap (2*x8))+1)))) r2.2).bind fun r3=>if 2<=r2.2.length then if r3.length=r2.2.length then(Cr N n x2 x3 (i64.wrap ((i64.wrap (2*x8))+1)) r3) else none else none))) else((AJ N (i64.wrap (x3+x8)) (i64.wrap (x3+(i64.wrap ((i64.wrap (2*x8))+1)))) g004).bind fun r1=>bif(!r1.1) then(some r1.2) else((zR N (i64.wrap (x3+x8)) (i64.wrap (x3+(i64.wrap ((i64.wrap (2*x8))+1)))) r1.2).bind fun r2=>
      if 2<=r1.2.length then if r2.length=r1.2.length then(Cr N n x2 x3 (i64.wrap ((i64.wrap (2*x8))+1)) r2) else none else none)))
def FL(N:Nat)(a0:Int)(a1:Int)(a2:Int)(a3:List Org):Option ((List Org)):=(Cr N N a1 a2 a0 a3)
def xLf(a0:Int)(a1:Int)(a2:List Org):List Arg:=[.val (.v true [.clo 144 [1000003],.swp 189 0 (.pointer (some ⟨3,112,none⟩)) 1000003]),.val (vI a0),.val (vI a1),.gbox [.sl (.lnt 0) .org a2]]
def KN(r:(List Org)):CallO:=⟨.tup [],[[.sl (.lnt 0) .org r]],[]⟩
def Ex(N:Nat):Nat->Int->Int->Int->(List Org)->Option ((List Org))
 |0,_,_,_,_=>none
 |n+1,x6,x7,x10,g003=>bif(decide (x10>=0)) then((zR N x6 (i64.wrap (x6+x10)) g003).bind fun r1=>if 2<=g003.length then if r1.length=g003.length then(FL N x7 x10 x6 r1).bind fun r2=>(Ex N n x6 x7 (i64.wrap (x10 - 1)) r2) else none else none) else(some g003)
def Ew(N:Nat):Nat->Int->Int->Int->Int->(List Org)->Option ((List Org))
 |0,_,_,_,_,_=>none
 |n+1,x6,x7,x8,x9,g003=>bif(decide (x9>=0)) then((FL N x9 x8 x6 g003).bind fun r1=>(Ew N n x6 x7 x8 (i64.wrap (x9 - 1)) r1)) else((Ex N N x6 x7 (i64.wrap (x8 - 1)) g003))
def Hs(N:Nat)(a0:Int)(a1:Int)(a2:List Org):Option ((List Org)):=(Ew N N a0 0 (i64.wrap (a1 - a0)) (i64.wrap (Int.tdiv (i64.wrap ((i64.wrap (a1 - a0)) - 1)) 2)) a2)
def xLh(a0:Int)(a1:Int)(a2:List Org):List Arg:=[.val (.v true [.clo 144 [1000003],.swp 189 0 (.pointer (some ⟨3,112,none⟩)) 1000003]),.val (vI a0),.val (vI a1),.gbox [.sl (.lnt 0) .org a2]]
def Hu(r:(List Org)):CallO:=⟨.tup [],[[.sl (.lnt 0) .org r]],[]⟩
def Ez(N:Nat)(k2:Int->Int->Int->(List Org)->Option ((List Org))):Nat->Int->Int->Int->Int->(List Org)->Option ((List Org))
 |0,_,_,_,_,_=>none
 |n+1,x1,x2,x6,x7,g003=>bif(decide (x7>x1)) then((AJ N x7 (i64.wrap (x7 - 1)) g003).bind fun r1=>bif r1.1 then((zR N x7 (i64.wrap (x7 - 1)) r1.2).bind fun r2=>if 2<=r1.2.length then if r2.length=r1.2.length then(Ez N k2 n x1 x2 x6 (i64.wrap (x7 - 1)) r2) else none else none) else((k2 x1 x2 (i64.wrap (x6+1)) r1.2))) else((k2 x1 x2 (i64.wrap (x6+1)) g003))
def Ey(N:Nat):Nat->Int->Int->Int->(List Org)->Option ((List Org))
 |0,_,_,_,_=>none
 |n+1,x1,x2,x6,g003=>bif(decide (x6<x2)) then((Ez N (fun z0 z1 z2 z3=>(Ey N n z0 z1 z2 z3)) N x1 x2 x6 x6 g003)) else(some g003)
def Ht(N:Nat)(a0:Int)(a1:Int)(a2:List Org):Option ((List Org)):=(Ey N N a0 a1 (i64.wrap (a0+1)) a2)
def KS(a0:Int)(a1:Int)(a2:Int)(a3:List Org):List Arg:=[.val (.v true [.clo 144 [1000004],.swp 189 0 (.pointer (some ⟨3,112,none⟩)) 1000004]),.val (vI a0),.val (vI a1),.val (vI a2),.gbox [.sl (.lnt 0) .org a3]]
def BQ(r:(List Org)):CallO:=⟨.tup [],[[.sl (.lnt 0) .org r]],[]⟩
def GV(N:Nat)(q0:Int->Int->Int->(List Org)->Option ((List Org)))(k3:Int->Int->Int->Bool->Bool->(List Org)->Option ((List Org)))(x1:Int)(x2:Int)(x3:Int)(x10:Int)(x11:Int)(g004:List Org):Option ((List Org)):=(Hz N x1 x2 x11 g004).bind fun r1=>bif(decide ((i64.wrap (r1.1 - x1))<(i64.wrap (x2 - r1.1)))) then((q0 x1 r1.1 x3 r1.2.2).bind fun r2=>(k3 (i64.wrap (r1.1+1)) x2 x3 (decide ((i64.wrap (r1.1 - x1))>=(i64.wrap (Int.tdiv x10 8)))) r1.2.1 r2)) else((q0 (i64.wrap (r1.1+1)) x2 x3 r1.2.2).bind fun r2=>(k3 x1 r1.1 x3 (decide ((i64.wrap (x2 - r1.1))>=(i64.wrap (Int.tdiv x10 8)))) r1.2.1 r2))
def Dj(N:Nat)(q0:Int->Int->Int->(List Org)->Option ((List Org)))(k3:Int->Int->Int->Bool->Bool->(List Org)->Option ((List Org)))(x1:Int)(x2:Int)(x3:Int)(x8:Bool)(x9:Bool)(x10:Int)(x11:Int)(g004:List Org):Option ((List Org)):=bif(decide (x1>0)) then((AJ N (i64.wrap (x1 - 1)) x11 g004).bind fun r1=>bif(!r1.1) then((Hx N x1 x2 x11 r1.2).bind fun r2=>(k3 r2.1 x2 x3 x8 x9 r2.2)) else((GV N q0 k3 x1 x2 x3 x10 x11 r1.2))) else((GV N q0 k3 x1 x2 x3 x10 x11 g004))
def GU(N:Nat)(q0:Int->Int->Int->(List Org)->Option ((List Org)))(k3:Int->Int->Int->Bool->Bool->(List Org)->Option ((List Org)))(x1:Int)(x2:Int)(x3:Int)(x8:Bool)(x9:Bool)(x10:Int)(x11:Int)(x12:Int)(g004:List Org):Option ((List Org)):=bif x8 then(bif x9 then(bif(x12==1) then((Hw N x1 x2 g004).bind fun r1=>bif r1.1 then(some r1.2) else((Dj N q0 k3 x1 x2 x3 x8 x9 x10 x11 r1.2))) else((Dj N q0 k3 x1 x2 x3 x8 x9 x10 x11 g004))) else((Dj N q0 k3 x1 x2 x3 x8 x9 x10 x11 g004))) else((Dj N q0 k3 x1 x2 x3 x8 x9 x10 x11 g004))
def GT(N:Nat)(q0:Int->Int->Int->(List Org)->Option ((List Org)))(k3:Int->Int->Int->Bool->Bool->(List Org)->Option ((List Org)))(x1:Int)(x2:Int)(x3:Int)(x8:Bool)(x9:Bool)(x10:Int)(g004:List Org):Option ((List Org)):=(Hr N x1 x2 g004).bind fun r1=>bif(r1.2.1==2) then((IA N x1 x2 r1.2.2).bind fun r2=>(GU N q0 k3 x1 x2 x3 x8 x9 x10 (i64.wrap ((i64.wrap (x2 - 1)) - (i64.wrap (r1.1 - x1)))) 1 r2)) else((GU N q0 k3 x1 x2 x3 x8 x9 x10 r1.1 r1.2.1 r1.2.2))
def Dk(N:Nat)(q0:Int->Int->Int->(List Org)->Option ((List Org))):Nat->Int->Int->Int->Bool->Bool->(List Org)->Option ((List Org))
 |0,_,_,_,_,_,_=>none
 |n+1,x1,x2,x3,x8,x9,g004=>bif(decide ((i64.wrap (x2 - x1))<=12)) then((Ht N x1 x2 g004).bind fun r1=>some r1) else(bif(x3==0) then((Hs N x1 x2 g004).bind fun r1=>some r1) else(bif(!x8) then((Hq N x1 x2 g004).bind fun r1=>(GT N q0 (fun z0 z1 z2 z3 z4 z5=>(Dk N q0 n z0 z1 z2 z3 z4 z5)) x1 x2 (i64.wrap (x3 - 1)) x8 x9 (i64.wrap (x2 - x1)) r1)) else((GT N q0 (fun z0 z1 z2 z3 z4 z5=>(Dk N q0 n z0 z1 z2 z3 z4 z5)) x1 x2 x3 x8 x9 (i64.wrap (x2 - x1)) g004))))
def Oc(N:Nat)(q0:Int->Int->Int->(List Org)->Option ((List Org)))(a0:Int)(a1:Int)(a2:Int)(a3:List Org):Option ((List Org)):=(Dk N q0 N a0 a1 a2 true true a3)
def Dl(N:Nat):Nat->Int->Int->Int->(List Org)->Option ((List Org))
 |0,_,_,_,_=>none
 |d+1,a0,a1,a2,a3=>Oc N (Dl N d) a0 a1 a2 a3
def KR(N:Nat)(a0:Int)(a1:Int)(a2:Int)(a3:List Org):Option ((List Org)):=Dl N N a0 a1 a2 a3
def No(N:Nat):Nat->(List Str)->Int->Int->Option (Int)
 |0,_,_,_=>none
 |n+1,x0,x1,x5=>bif(decide (x5<(x0.length:Int))) then(if(0:Int)<=x5/\x5<x0.length then bif(decide (((i64.wrap (x1 - (List.length (x0.getD x5.toNat Ds):Int))):Int)<0)) then(some (-1)) else((No N n x0 (i64.wrap (x1 - (List.length (x0.getD x5.toNat Ds):Int))) (i64.wrap (x5+1)))) else none) else(some x1)
def xJJ(N:Nat)(a0:List Str)(a1:Int):Option (Int):=bif(decide (((i64.wrap (a1 - (a0.length:Int))):Int)<0)) then(some (-1)) else((No N N a0 (i64.wrap (a1 - (a0.length:Int))) 0))
def xJF(N:Nat)(a0:List Int)(a1:Int):Option (Int):=bif(decide (((i64.wrap (a1 - (a0.length:Int))):Int)<0)) then(some (-1)) else(some (i64.wrap (a1 - (a0.length:Int))))
def xJG(N:Nat)(a0:List Org)(a1:Int):Option (Int):=bif(decide (((i64.wrap (a1 - (a0.length:Int))):Int)<0)) then(some (-1)) else(some (i64.wrap (a1 - (a0.length:Int))))
def xJH(N:Nat)(a0:Rowd)(a1:Int):Option (Int):=(xJF N a0.cells a1).bind fun r1=>bif(decide (r1<0)) then(some (-1)) else((xJG N a0.frm r1).bind fun r2=>bif(decide (r2<0)) then(some (-1)) else(some r2))
def Nn(N:Nat):Nat->(List Rowd)->Int->Int->Option (Int)
 |0,_,_,_=>none
 |n+1,x0,x1,x5=>bif(decide (x5<(x0.length:Int))) then(if(0:Int)<=x5/\x5<x0.length then(xJH N (x0.getD x5.toNat Ty.row.dflt) x1).bind fun r1=>bif(decide (r1<0)) then(some (-1)) else((Nn N n x0 r1 (i64.wrap (x5+1)))) else none) else(some x1)
def xJI(N:Nat)(a0:List Rowd)(a1:Int):Option (Int):=bif(decide (((i64.wrap (a1 - (a0.length:Int))):Int)<0)) then(some (-1)) else((Nn N N a0 (i64.wrap (a1 - (a0.length:Int))) 0))
def xJL(N:Nat)(q0:Val->Int->Option (Int))(q1:(List Val)->Int->Option (Int))(a0:Val)(a1:Int):Option (Int):=bif(decide (((i64.wrap (a1 - (a0.text.length:Int))):Int)<0)) then(some (-1)) else((q1 a0.list (i64.wrap (a1 - (a0.text.length:Int)))).bind fun r1=>bif(decide (r1<0)) then(some (-1)) else((xJJ N a0.columns r1).bind fun r2=>bif(decide (r2<0)) then(some (-1)) else((xJI N a0.rows r2).bind fun r3=>bif(decide (r3<0)) then(some (-1)) else(some r3))))
def Np(N:Nat)(q0:Val->Int->Option (Int))(q1:(List Val)->Int->Option (Int)):Nat->(List Val)->Int->Int->Option (Int)
 |0,_,_,_=>none
 |n+1,x0,x1,x5=>bif(decide (x5<(x0.length:Int))) then(if(0:Int)<=x5/\x5<x0.length then(q0 (x0.getD x5.toNat Dv) x1).bind fun r1=>bif(decide (r1<0)) then(some (-1)) else((Np N q0 q1 n x0 r1 (i64.wrap (x5+1)))) else none) else(some x1)
def xJK(N:Nat)(q0:Val->Int->Option (Int))(q1:(List Val)->Int->Option (Int))(a0:List Val)(a1:Int):Option (Int):=bif(decide (((i64.wrap (a1 - (a0.length:Int))):Int)<0)) then(some (-1)) else((Np N q0 q1 N a0 (i64.wrap (a1 - (a0.length:Int))) 0))
structure laws_szValue_rec where
 c_laws_szValue:Val->Int->Option (Int)
 c_laws_szValueS:(List Val)->Int->Option (Int)
def Hf(N:Nat):Nat->laws_szValue_rec
 |0=>⟨fun _ _=>none,fun _ _=>none⟩
 |d+1=>⟨xJL N (Hf N d).c_laws_szValue (Hf N d).c_laws_szValueS,xJK N (Hf N d).c_laws_szValue (Hf N d).c_laws_szValueS⟩
def xJP(N:Nat):Nat->(List Str)->(List Str)->Int->Option ((List Str))
 |0,_,_,_=>none
 |n+1,x0,x3,x4=>bif(decide (x4<(x0.length:Int))) then(if(0:Int)<=x4/\x4<x0.length then if(0:Int)<=x4/\x4<x3.length then(xJP N n x0 (x3.set x4.toNat (x0.getD x4.toNat Ds)) (i64.wrap (x4+1))) else none else none) else(some x3)
def xJM(N:Nat):Nat->(List Int)->(List Int)->Int->Option ((List Int))
 |0,_,_,_=>none
 |n+1,x0,x3,x4=>bif(decide (x4<(x0.length:Int))) then(if(0:Int)<=x4/\x4<x0.length then if(0:Int)<=x4/\x4<x3.length then(xJM N n x0 (x3.set x4.toNat (x0.getD x4.toNat Di)) (i64.wrap (x4+1))) else none else none) else(some x3)
def xJN(N:Nat)(a0:Org):Option (Org):=some a0
def xJO(N:Nat):Nat->(List Org)->(List Org)->Int->Option ((List Org))
 |0,_,_,_=>none
 |n+1,x0,x3,x4=>bif(decide (x4<(x0.length:Int))) then(if(0:Int)<=x4/\x4<x0.length then(xJN N (x0.getD x4.toNat Do)).bind fun r1=>if(0:Int)<=x4/\x4<x3.length then(xJO N n x0 (x3.set x4.toNat r1) (i64.wrap (x4+1))) else none else none) else(some x3)
def xLO(a0:Str):List Arg:=[.val (vT a0)]
def xLP(r:Int):CallO:=(cO (vI r))
def BR(N:Nat)(a0:Str):Option (Int):=bif((a0:Str)== [99,108,111,99,107]) then(some 0) else(bif((a0:Str)== [108,101,110]) then(some 1) else(bif((a0:Str)== [115,117,109]) then(some 1) else(bif((a0:Str)== [114,111,119,115]) then(some 1) else(bif((a0:Str)== [99,104,97,110,99,101]) then(some 1) else(bif((a0:Str)== [102,105,108,101]) then(some 1) else(bif((a0:Str)== [116,97,107,101]) then(some 2) else(bif((a0:Str)== [115,107,105,112]) then(some 2) else(bif((a0:Str)== [114,97,110,103,101]) then(some 2) else(bif((a0:Str)== [110,116,104]) then(some 2) else(bif((a0:Str)== [107,101,101,112]) then(some 2) else(bif((a0:Str)== [99,111,108,117,109,110]) then(some 2) else(bif((a0:Str)== [116,97,98,108,101]) then(some 2) else(bif((a0:Str)== [119,104,101,114,101]) then(some 3) else(bif((a0:Str)== [103,114,111,117,112]) then(some 3) else(bif((a0:Str)== [106,111,105,110]) then(some 3) else(bif((a0:Str)== [97,100,100]) then(some 4) else(some (-1))))))))))))))))))
def xMb(a0:Int):List Arg:=[.val (vI a0)]
def xMc(r:Val):CallO:=(cO (vV .own r))
def yZ(N:Nat)(a0:Int):Option (Val):=some (Val.mk 6 a0 0 [] [] [] [])
def xNh(a0:Int)(a1:Int)(a2:Int):List Arg:=[.val (vI a0),.val (vI a1),.val (vI a2)]
def xNi(r:Bool):CallO:=(cO (vB r))
def EE(N:Nat)(a0:Int)(a1:Int)(a2:Int):Option (Bool):=bif(decide (a0>=a1)) then(some (decide (a0<=a2))) else(some false)
def xN7(a0:Int):List Arg:=[.val (vI a0)]
def xN8(r:Bool):CallO:=(cO (vB r))
def Bm(N:Nat)(a0:Int):Option (Bool):=(EE N a0 (-1000000000) 1000000000).bind fun r1=>some r1
def xMo(a0:Str):List Arg:=[.val (vT a0)]
def xAg(r:Bool):CallO:=(cO (vB r))
def Cw(N:Nat):Nat->Str->Int->Option (Bool)
 |0,_,_=>none
 |n+1,x0,x3=>bif(decide (x3<(x0.length:Int))) then(if(0:Int)<=x3/\x3<x0.length then bif(decide ((((x0.getD x3.toNat 0).toNat:Int):Int)<32)) then(some false) else(bif(decide ((((x0.getD x3.toNat 0).toNat:Int):Int)>126)) then(some false) else(bif((((x0.getD x3.toNat 0).toNat:Int):Int)==34) then(some false) else((Cw N n x0 (i64.wrap (x3+1)))))) else none) else(some (decide ((x0.length:Int)<=20)))
def K0(N:Nat)(a0:Str):Option (Bool):=(Cw N N a0 0)
def xNZ(a0:Val):List Arg:=[.val (vV .ro a0)]
def xN1(r:Bool):CallO:=(cO (vB r))
def Ki(N:Nat)(a0:Val):Option (Bool):=bif(a0.kind==1) then(some true) else(bif(a0.kind==2) then(some true) else(some (a0.kind==3)))
def xNl(a0:Int)(a1:Int):List Arg:=[.val (vI a0),.val (vI a1)]
def xNn(r:Int):CallO:=(cO (vI r))
def IU(N:Nat)(a0:Int)(a1:Int):Option (Int):=bif(decide (a0>a1)) then(some a0) else(some a1)
def KW(a0:Val):List Arg:=[.val (vV .ro a0)]
def IF(r:Int):CallO:=(cO (vI r))
def FN(N:Nat)(q0:Val->Option (Int)):Nat->Int->Int->Val->Option (Int)
 |0,_,_,_=>none
 |n+1,x3,x4,b1=>bif(decide (x4<(b1.list.length:Int))) then(if(0:Int)<=x4/\x4<b1.list.length then(q0 (b1.list.getD x4.toNat Dv)).bind fun r1=>(IU N x3 r1).bind fun r2=>(FN N q0 n r2 (i64.wrap (x4+1)) b1) else none) else(some (i64.wrap (x3+1)))
def Oo(N:Nat)(q0:Val->Option (Int))(a0:Val):Option (Int):=(FN N q0 N 0 0 a0)
def Dq(N:Nat):Nat->Val->Option (Int)
 |0,_=>none
 |d+1,a0=>Oo N (Dq N d) a0
def IE(N:Nat)(a0:Val):Option (Int):=Dq N N a0
def xNH(a0:Str):List Arg:=[.val (vT a0)]
def xAz(r:Bool):CallO:=(cO (vB r))
def Bl(N:Nat):Nat->Str->Int->Option (Bool)
 |0,_,_=>none
 |n+1,x0,x3=>bif(decide (x3<(x0.length:Int))) then(if(0:Int)<=x3/\x3<x0.length then bif(decide ((((x0.getD x3.toNat 0).toNat:Int):Int)>=97)) then(bif(decide ((((x0.getD x3.toNat 0).toNat:Int):Int)>=48)) then(bif(!(decide ((((x0.getD x3.toNat 0).toNat:Int):Int)<=122))) then(bif(x3==0) then(some false) else(bif(!(decide ((((x0.getD x3.toNat 0).toNat:Int):Int)<=57))) then(some false) else((Bl N n x0 (i64.wrap (x3+1)))))) else((Bl N n x0 (i64.wrap (x3+1))))) else(bif(!(decide ((((x0.getD x3.toNat 0).toNat:Int):Int)<=122))) then(bif(x3==0) then(some false) else(some false)) else((Bl N n x0 (i64.wrap (x3+1)))))) else(bif(decide ((((x0.getD x3.toNat 0).toNat:Int):Int)>=48)) then(bif(x3==0) then(some false) else(bif(!(decide ((((x0.getD x3.toNat 0).toNat:Int):Int)<=57))) then(some false) else((Bl N n x0 (i64.wrap (x3+1)))))) else(bif(x3==0) then(some false) else(some false))) else none) else(some (decide ((x0.length:Int)>0)))
def Kc(N:Nat)(a0:Str):Option (Bool):=(Bl N N a0 0)
def xNE:List Arg:=[]
def xNG(r:(List Str)):CallO:=(cO (vS .own .str r))
def Kb(N:Nat):Option ((List Str)):=some [[108,101,116],[105,110],[105,102],[116,104,101,110],[101,108,115,101],[102,111,114],[100,111],[108,101,110],[115,117,109],[116,97,107,101],[115,107,105,112],[114,97,110,103,101],[110,116,104],[119,104,101,114,101],[107,101,101,112],[97,100,100],[103,114,111,117,112],[106,111,105,110],[99,111,108,117,109,110],[114,111,119,115],[99,108,111,99,107],[99,104,97,110,99,101],[102,105,108,101],[116,97,98,108,101]]
def xNg(a0:List Str)(a1:Str):List Arg:=[.val (vS .ro .str a0),.val (vT a1)]
def xAt(r:Bool):CallO:=(cO (vB r))
def ED(N:Nat):Nat->(List Str)->Str->Int->Option (Bool)
 |0,_,_,_=>none
 |n+1,x0,x1,x5=>bif(decide (x5<(x0.length:Int))) then(if(0:Int)<=x5/\x5<x0.length then bif(((x0.getD x5.toNat Ds):Str)==x1) then(some true) else((ED N n x0 x1 (i64.wrap (x5+1)))) else none) else(some false)
def IR(N:Nat)(a0:List Str)(a1:Str):Option (Bool):=(ED N N a0 a1 0)
def xMi(a0:Str):List Arg:=[.val (vT a0)]
def xMl(r:Bool):CallO:=(cO (vB r))
def IH(N:Nat)(a0:Str):Option (Bool):=(Kb N).bind fun r1=>(IR N r1 a0).bind fun r2=>some r2
def xMm(a0:Str):List Arg:=[.val (vT a0)]
def xMn(r:Bool):CallO:=(cO (vB r))
def GX(N:Nat)(a0:Str):Option (Bool):=(Kc N a0).bind fun r1=>bif r1 then(bif(decide ((a0.length:Int)<=8)) then((IH N a0).bind fun r2=>some (!r2)) else(some false)) else(some false)
def xLN(a0:List Str):List Arg:=[.val (vS .ro .str a0)]
def Oj(r:Bool):CallO:=(cO (vB r))
def Dm(N:Nat):Nat->(List Str)->Int->Option (Bool)
 |0,_,_=>none
 |n+1,x0,x3=>bif(decide (x3<(x0.length:Int))) then(if(0:Int)<=x3/\x3<=x0.length then if(0:Int)<=x3/\x3<x0.length then(IR N (List.take x3.toNat x0) (x0.getD x3.toNat Ds)).bind fun r1=>bif r1 then(some false) else((Dm N n x0 (i64.wrap (x3+1)))) else none else none) else(some true)
def GW(N:Nat)(a0:List Str):Option (Bool):=(Dm N N a0 0)
def xNR(a0:List Str):List Arg:=[.val (vS .ro .str a0)]
def xAD(r:Bool):CallO:=(cO (vB r))
def FW(N:Nat):Nat->(List Str)->Int->Option (Bool)
 |0,_,_=>none
 |n+1,x0,x3=>bif(decide (x3<(x0.length:Int))) then(if(0:Int)<=x3/\x3<x0.length then(GX N (x0.getD x3.toNat Ds)).bind fun r1=>bif(!r1) then(some false) else((FW N n x0 (i64.wrap (x3+1)))) else none) else((EE N (x0.length:Int) 1 4).bind fun r1=>bif r1 then((GW N x0).bind fun r2=>some r2) else(some false))
def IY(N:Nat)(a0:List Str):Option (Bool):=(FW N N a0 0)
def xNN(a0:Org)(a1:Org):List Arg:=[.val (.v true [.int .i64 a0.cell,.int .i64 a0.row]),.val (.v true [.int .i64 a1.cell,.int .i64 a1.row])]
def xNO(r:Bool):CallO:=(cO (vB r))
def EF(N:Nat)(a0:Org)(a1:Org):Option (Bool):=bif(decide (a0.cell<a1.cell)) then(some true) else(bif(a0.cell==a1.cell) then(some (decide (a0.row<a1.row))) else(some false))
def xNK(a0:List Org):List Arg:=[.val (vS .ro .org a0)]
def xAA(r:Bool):CallO:=(cO (vB r))
def Cz(N:Nat):Nat->(List Org)->Int->Option (Bool)
 |0,_,_=>none
 |n+1,x0,x3=>bif(decide (x3<(x0.length:Int))) then(if(0:Int)<=x3/\x3<x0.length then bif(decide (((Org.cell (x0.getD x3.toNat Do)):Int)<0)) then(some false) else(bif(decide (((Org.row (x0.getD x3.toNat Do)):Int)<0)) then(some false) else(bif(decide (x3>0)) then(if(0:Int)<=(i64.wrap (x3 - 1))/\(i64.wrap (x3 - 1))<x0.length then(EF N (x0.getD (Int.toNat (i64.wrap (x3 - 1))) Do) (x0.getD x3.toNat Do)).bind fun r1=>bif(!r1) then(some false) else((Cz N n x0 (i64.wrap (x3+1)))) else none) else((Cz N n x0 (i64.wrap (x3+1)))))) else none) else(some true)
def Kd(N:Nat)(a0:List Org):Option (Bool):=(Cz N N a0 0)
def xOg(a0:Val):List Arg:=[.val (vV .ro a0)]
def Ia(r:Bool):CallO:=(cO (vB r))
def EL(N:Nat)(k4:Int->Val->Option (Bool)):Nat->Int->Int->Val->Rowd->Option (Bool)
 |0,_,_,_,_=>none
 |n+1,x3,x5,b1,b4=>bif(decide (x5<(b4.cells.length:Int))) then(if(0:Int)<=x5/\x5<b4.cells.length then(Bm N (b4.cells.getD x5.toNat Di)).bind fun r1=>bif(!r1) then(some false) else((EL N k4 n x3 (i64.wrap (x5+1)) b1 b4)) else none) else((k4 (i64.wrap (x3+1)) b1))
def EM(N:Nat):Nat->Int->Val->Option (Bool)
 |0,_,_=>none
 |n+1,x3,b1=>bif(decide (x3<(b1.rows.length:Int))) then(if(0:Int)<=x3/\x3<b1.rows.length then bif(((List.length (Rowd.cells (b1.rows.getD x3.toNat Ty.row.dflt)):Int):Int) != (b1.columns.length:Int)) then(some false) else((Kd N (Rowd.frm (b1.rows.getD x3.toNat Ty.row.dflt))).bind fun r1=>bif(!r1) then(some false) else((EL N (fun z0 z1=>(EM N n z0 z1)) N x3 0 b1 (b1.rows.getD x3.toNat Ty.row.dflt)))) else none) else(some true)
def I9(N:Nat)(a0:Val):Option (Bool):=(IY N a0.columns).bind fun r1=>bif(!r1) then(some false) else(bif(decide ((a0.rows.length:Int)>12)) then(some false) else((EM N N 0 a0)))
def K6(a0:Val):List Arg:=[.val (vV .ro a0)]
def K8(r:Bool):CallO:=(cO (vB r))
def II(N:Nat)(q0:Val->Option (Bool))(q1:Val->Option (Bool))(a0:Val):Option (Bool):=bif(a0.kind != 3) then(bif(decide ((a0.list.length:Int)>0)) then(some false) else(bif(a0.kind != 5) then(bif(decide (((i64.wrap ((a0.columns.length:Int)+(a0.rows.length:Int))):Int)>0)) then(some false) else(bif(a0.kind != 2) then(bif(!((a0.text:Str)== [])) then(some false) else(bif(a0.kind != 4) then(bif(a0.step != 0) then(some false) else(bif(a0.kind==1) then((Bm N a0.n).bind fun r1=>some r1) else(bif(a0.kind==6) then((EE N a0.n 1 8).bind fun r1=>some r1) else(some false)))) else((Bm N a0.n).bind fun r1=>bif r1 then((Bm N a0.step).bind fun r2=>some r2) else(some false)))) else(bif(a0.step != 0) then(some false) else(bif(a0.n==0) then((K0 N a0.text).bind fun r1=>some r1) else(some false))))) else(bif(!((a0.text:Str)== [])) then(some false) else(bif(a0.step != 0) then(some false) else(bif(a0.n==0) then((I9 N a0).bind fun r1=>some r1) else(some false)))))) else(bif(decide (((i64.wrap ((a0.columns.length:Int)+(a0.rows.length:Int))):Int)>0)) then(some false) else(bif(!((a0.text:Str)== [])) then(some false) else(bif(a0.step != 0) then(some false) else(bif(a0.n==0) then((q1 a0).bind fun r1=>some r1) else(some false)))))
def xAL(a0:Val):List Arg:=[.val (vV .ro a0)]
def Kk(r:Bool):CallO:=(cO (vB r))
def DA(N:Nat)(q0:Val->Option (Bool))(q1:Val->Option (Bool)):Nat->Int->Val->Option (Bool)
 |0,_,_=>none
 |n+1,x3,b1=>bif(decide (x3<(b1.list.length:Int))) then(if(0:Int)<=x3/\x3<b1.list.length then(Ki N (b1.list.getD x3.toNat Dv)).bind fun r1=>bif(!r1) then(some false) else((q0 (b1.list.getD x3.toNat Dv)).bind fun r2=>bif(!r2) then(some false) else((DA N q0 q1 n (i64.wrap (x3+1)) b1))) else none) else(bif(decide ((b1.list.length:Int)<=8)) then((IE N b1).bind fun r1=>some (decide (r1<=3))) else(some false))
def xAM(N:Nat)(q0:Val->Option (Bool))(q1:Val->Option (Bool))(a0:Val):Option (Bool):=(DA N q0 q1 N 0 a0)
structure spec_IsValidValue_rec where
 c_spec_IsValidValue:Val->Option (Bool)
 c_spec_l3List:Val->Option (Bool)
def AN(N:Nat):Nat->spec_IsValidValue_rec
 |0=>⟨fun _=>none,fun _=>none⟩
 |d+1=>⟨II N (AN N d).c_spec_IsValidValue (AN N d).c_spec_l3List,xAM N (AN N d).c_spec_IsValidValue (AN N d).c_spec_l3List⟩
def GY(N:Nat)(a0:Val):Option (Bool):=(AN N N).c_spec_IsValidValue a0
def xOo(a0:List Val):List Arg:=[.val (vS .ro .val a0)]
def xAT(r:Val×Bool):CallO:=⟨.tup [(true,(Va .own r.1)),(false,[.bool r.2])],[],[]⟩
def DC(N:Nat):Nat->(List Val)->Int->Val->Option (Val×Bool)
 |0,_,_,_=>none
 |n+1,x0,x4,b2=>bif(decide (x4<(x0.length:Int))) then(if(0:Int)<=x4/\x4<x0.length then(GY N (x0.getD x4.toNat Dv)).bind fun r1=>bif(!r1) then((yZ N 4).bind fun r2=>some (r2,true)) else(bif(((Val.kind (x0.getD x4.toNat Dv)):Int)==6) then((yZ N (Val.n (x0.getD x4.toNat Dv))).bind fun r2=>some (r2,true)) else((DC N n x0 (i64.wrap (x4+1)) b2))) else none) else(some ((Val.mk 0 0 0 [] [] [] []),false))
def Fa(N:Nat)(a0:List Val):Option (Val×Bool):=(DC N N a0 0 (Val.mk 0 0 0 [] [] [] []))
def xME(a0:Int):List Arg:=[.val (vI a0)]
def xMF(r:Val):CallO:=(cO (vV .own r))
def zK(N:Nat)(a0:Int):Option (Val):=some (Val.mk 1 a0 0 [] [] [] [])
def xMw(a0:Val):List Arg:=[.val (vV .ro a0)]
def xMy(r:Val):CallO:=(cO (vV .own r))
def IK(N:Nat)(a0:Val):Option (Val):=(Fa N [a0.re]).bind fun r1=>bif r1.2 then(some r1.1) else(bif(a0.kind==3) then((zK N (a0.list.length:Int)).bind fun r2=>some r2) else(bif(a0.kind==2) then((zK N (a0.text.length:Int)).bind fun r2=>some r2) else((yZ N 4).bind fun r2=>some r2)))
def xLS(a0:Int):List Arg:=[.val (vI a0)]
def xLT(r:Val):CallO:=(cO (vV .own r))
def Dn(N:Nat)(a0:Int):Option (Val):=(Bm N a0).bind fun r1=>bif(!r1) then((yZ N 5).bind fun r2=>some r2) else((zK N a0).bind fun r2=>some r2)
def xMM(a0:Val):List Arg:=[.val (vV .ro a0)]
def xAl(r:Val):CallO:=(cO (vV .own r))
def CQ(N:Nat):Nat->Int->Val->Val->Val->Option (Val)
 |0,_,_,_,_=>none
 |n+1,x6,b1,b2,b5=>bif(decide (x6<(b1.list.length:Int))) then(if(0:Int)<=x6/\x6<b1.list.length then bif(((Val.kind (b1.list.getD x6.toNat Dv)):Int) != 1) then((yZ N 4).bind fun r1=>some r1) else((Dn N (i64.wrap (b5.n+(Val.n (b1.list.getD x6.toNat Dv))))).bind fun r1=>bif(r1.kind==6) then(some r1) else((CQ N n (i64.wrap (x6+1)) b1 b2 r1))) else none) else(some b5)
def IN(N:Nat)(a0:Val):Option (Val):=(Fa N [a0.re]).bind fun r1=>bif r1.2 then(some r1.1) else(bif(a0.kind != 3) then((yZ N 4).bind fun r2=>some r2) else((zK N 0).bind fun r2=>(CQ N N 0 a0 (Val.mk 0 0 0 [] [] [] []) r2)))
def xOx(a0:List Val)(a1:List Int):List Arg:=[.val (vS .ro .val a0),.val (vS .ro .int a1)]
def xAU(r:Val×Bool):CallO:=⟨.tup [(true,(Va .own r.1)),(false,[.bool r.2])],[],[]⟩
def DD(N:Nat):Nat->(List Val)->(List Int)->Int->Val->Option (Val×Bool)
 |0,_,_,_,_=>none
 |n+1,x0,x1,x8,b4=>bif(decide (x8<(x0.length:Int))) then(if(0:Int)<=x8/\x8<x0.length then if(0:Int)<=x8/\x8<x1.length then bif(((Val.kind (x0.getD x8.toNat Dv)):Int) != (x1.getD x8.toNat Di)) then((yZ N 4).bind fun r1=>some (r1,true)) else((DD N n x0 x1 (i64.wrap (x8+1)) b4)) else none else none) else(some ((Val.mk 0 0 0 [] [] [] []),false))
def BT(N:Nat)(a0:List Val)(a1:List Int):Option (Val×Bool):=(Fa N a0).bind fun r1=>bif r1.2 then(some (r1.1,true)) else((DD N N a0 a1 0 (Val.mk 0 0 0 [] [] [] [])))
def xLY(a0:Val):List Arg:=[.val (vV .ro a0)]
def xL0(r:Val):CallO:=(cO (vV .own r))
def ID(N:Nat)(a0:Val):Option (Val):=(BT N [a0.re] [5]).bind fun r1=>bif r1.2 then(some r1.1) else((zK N (a0.rows.length:Int)).bind fun r2=>some r2)
def xOv(a0:Val)(a1:Val):List Arg:=[.val (vV .ro a0),.val (vV .ro a1)]
def xOw(r:Val×Bool):CallO:=⟨.tup [(true,(Va .own r.1)),(false,[.bool r.2])],[],[]⟩
def Fb(N:Nat)(a0:Val)(a1:Val):Option (Val×Bool):=(Fa N [a0.re,a1.re]).bind fun r1=>bif r1.2 then(some (r1.1,true)) else(bif(a0.kind != 1) then((yZ N 4).bind fun r2=>some (r2,true)) else(bif(a1.kind != 3) then(bif(a1.kind != 4) then((yZ N 4).bind fun r2=>some (r2,true)) else(some ((Val.mk 0 0 0 [] [] [] []),false))) else(some ((Val.mk 0 0 0 [] [] [] []),false))))
def xOc(a0:Rowd):List Arg:=[.val (.v true [.sl .ro .int a0.cells,.sl .ro .org a0.frm])]
def xOd(r:Rowd):CallO:=⟨.v true [.sl .own .int (Rowd.cells r),.sl .own .org (Rowd.frm r)],[],[]⟩
def Gc(N:Nat)(a0:Rowd):Option (Rowd):=if 0+a0.cells.length<=Lim then if 0+a0.frm.length<=Lim then some (Rowd.mk ([]++a0.cells) ([]++a0.frm)) else none else none
def Kf(a0:Val):List Arg:=[.val (vV .ro a0)]
def G9(r:Val):CallO:=(cO (vV .own r))
def EI(N:Nat)(q0:Val->Option (Val)):Nat->Int->Val->Val->Val->Option (Val)
 |0,_,_,_,_=>none
 |n+1,x5,b1,b2,b3=>bif(decide (x5<(b1.rows.length:Int))) then(if(0:Int)<=x5/\x5<b1.rows.length then(Gc N (b1.rows.getD x5.toNat Ty.row.dflt)).bind fun r1=>if b3.rows.length+ [r1].length<=Lim then(EI N q0 n (i64.wrap (x5+1)) b1 b2 (Val.mk b3.kind b3.n b3.step b3.text b3.list b3.columns (b3.rows++ [r1]))) else none else none) else(some b3)
def FX(N:Nat)(q0:Val->Option (Val)):Nat->Int->Val->Val->Val->Option (Val)
 |0,_,_,_,_=>none
 |n+1,x4,b1,b2,b3=>bif(decide (x4<(b1.list.length:Int))) then(if(0:Int)<=x4/\x4<b1.list.length then(q0 (b1.list.getD x4.toNat Dv)).bind fun r1=>if b3.list.length+ [r1.re].length<=Lim then(FX N q0 n (i64.wrap (x4+1)) b1 b2 (Val.mk b3.kind b3.n b3.step b3.text (b3.list++ [r1.re]) b3.columns b3.rows)) else none else none) else((EI N q0 N 0 b1 b2 b3))
def IZ(N:Nat)(q0:Val->Option (Val))(a0:Val):Option (Val):=if 0+a0.columns.length<=Lim then(FX N q0 N 0 a0 (Val.mk 0 0 0 [] [] [] []) (Val.mk a0.kind a0.n a0.step a0.text [] ([]++a0.columns) [])) else none
def EJ(N:Nat):Nat->Val->Option (Val)
 |0,_=>none
 |d+1,a0=>IZ N (EJ N d) a0
def EH(N:Nat)(a0:Val):Option (Val):=EJ N N a0
def xMC(a0:Val)(a1:Val):List Arg:=[.val (vV .ro a0),.val (vV .ro a1)]
def xMD(r:Val):CallO:=(cO (vV .own r))
def An(N:Nat)(a0:Val)(a1:Val):Option (Val):=(Fb N a0 a1).bind fun r1=>bif r1.2 then(some r1.1) else(bif(decide (a0.n<0)) then((yZ N 5).bind fun r2=>some r2) else(bif(a1.kind==3) then(bif(decide (a0.n>=(a1.list.length:Int))) then((yZ N 5).bind fun r2=>some r2) else(if(0:Int)<=a0.n/\a0.n<a1.list.length then(EH N (a1.list.getD a0.n.toNat Dv)).bind fun r2=>some r2 else none)) else((Dn N (i64.wrap (a1.n+(i64.wrap (a0.n*a1.step))))).bind fun r2=>some r2)))
def xMQ(a0:Val)(a1:Val):List Arg:=[.val (vV .ro a0),.val (vV .ro a1)]
def xAn(r:Val):CallO:=(cO (vV .own r))
def BZ(N:Nat):Nat->Int->Val->Val->Val->Val->Option (Val)
 |0,_,_,_,_,_=>none
 |n+1,x8,b2,b3,b4,b7=>bif(decide (x8<b2.n)) then(bif(b3.kind==3) then(bif(x8==(b3.list.length:Int)) then(some b7) else((zK N x8).bind fun r1=>(An N r1 b3).bind fun r2=>bif(r2.kind==6) then(some r2) else(if b7.list.length+ [r2.re].length<=Lim then(BZ N n (i64.wrap (x8+1)) b2 b3 b4 (Val.mk b7.kind b7.n b7.step b7.text (b7.list++ [r2.re]) b7.columns b7.rows)) else none))) else((zK N x8).bind fun r1=>(An N r1 b3).bind fun r2=>bif(r2.kind==6) then(some r2) else(if b7.list.length+ [r2.re].length<=Lim then(BZ N n (i64.wrap (x8+1)) b2 b3 b4 (Val.mk b7.kind b7.n b7.step b7.text (b7.list++ [r2.re]) b7.columns b7.rows)) else none))) else(some b7)
def EB(N:Nat)(a0:Val)(a1:Val):Option (Val):=(Fb N a0 a1).bind fun r1=>bif r1.2 then(some r1.1) else((EE N a0.n 0 8).bind fun r2=>bif(!r2) then((yZ N 5).bind fun r3=>some r3) else((BZ N N 0 a0 a1 (Val.mk 0 0 0 [] [] [] []) (Val.mk 3 0 0 [] [] [] []))))
def xNo(a0:Int)(a1:Int):List Arg:=[.val (vI a0),.val (vI a1)]
def xNq(r:Int):CallO:=(cO (vI r))
def IV(N:Nat)(a0:Int)(a1:Int):Option (Int):=bif(decide (a0<a1)) then(some a0) else(some a1)
def xMz(a0:List Val):List Arg:=[.val (vS .ro .val a0)]
def xAh(r:Val):CallO:=(cO (vV .own r))
def FP(N:Nat):Nat->(List Val)->Int->Val->Val->Option (Val)
 |0,_,_,_,_=>none
 |n+1,x0,x4,b2,b3=>bif(decide (x4<(x0.length:Int))) then(if(0:Int)<=x4/\x4<x0.length then(EH N (x0.getD x4.toNat Dv)).bind fun r1=>if b3.list.length+ [r1.re].length<=Lim then(FP N n x0 (i64.wrap (x4+1)) b2 (Val.mk b3.kind b3.n b3.step b3.text (b3.list++ [r1.re]) b3.columns b3.rows)) else none else none) else(some b3)
def K9(N:Nat)(a0:List Val):Option (Val):=(FP N N a0 0 (Val.mk 0 0 0 [] [] [] []) (Val.mk 3 0 0 [] [] [] []))
def xMK(a0:Int)(a1:Int):List Arg:=[.val (vI a0),.val (vI a1)]
def xML(r:Val):CallO:=(cO (vV .own r))
def EA(N:Nat)(a0:Int)(a1:Int):Option (Val):=some (Val.mk 4 a0 a1 [] [] [] [])
def xMG(a0:Val)(a1:Val):List Arg:=[.val (vV .ro a0),.val (vV .ro a1)]
def xMI(r:Val):CallO:=(cO (vV .own r))
def Dz(N:Nat)(a0:Val)(a1:Val):Option (Val):=(Fb N a0 a1).bind fun r1=>bif r1.2 then(some r1.1) else(bif(decide (a0.n<0)) then((yZ N 5).bind fun r2=>some r2) else(bif(a1.kind==3) then((IV N a0.n (a1.list.length:Int)).bind fun r2=>if(0:Int)<=r2/\r2<=a1.list.length then(K9 N (List.drop r2.toNat a1.list)).bind fun r3=>some r3 else none) else((An N a0 a1).bind fun r2=>bif(r2.kind==6) then(some r2) else((EA N r2.n a1.step).bind fun r3=>some r3))))
def xM9(a0:Val)(a1:Val):List Arg:=[.val (vV .ro a0),.val (vV .ro a1)]
def xNb(r:Val):CallO:=(cO (vV .own r))
def IQ(N:Nat)(a0:Val)(a1:Val):Option (Val):=(BT N [a0.re,a1.re] [1,1]).bind fun r1=>bif r1.2 then(some r1.1) else((EA N a0.n a1.n).bind fun r2=>some r2)
def xMJ(a0:Str)(a1:Int):List Arg:=[.val (vT a0),.val (.v false [.int .u8 a1])]
def xAk(r:(List Str)):CallO:=(cO (vS .own .str r))
def CP(N:Nat):Nat->Str->Int->(List Str)->Int->Int->Option ((List Str))
 |0,_,_,_,_,_=>none
 |n+1,x0,x1,x5,x6,x7=>bif(decide (x7<=(x0.length:Int))) then(bif(x7==(x0.length:Int)) then(if(0:Int)<=x6/\x6<=x7/\x7<=x0.length then if x5.length+ [(List.drop x6.toNat (List.take x7.toNat x0))].length<=Lim then(CP N n x0 x1 (x5++ [(List.drop x6.toNat (List.take x7.toNat x0))]) (i64.wrap (x7+1)) (i64.wrap (x7+1))) else none else none) else(if(0:Int)<=x7/\x7<x0.length then bif((((x0.getD x7.toNat 0).toNat:Int):Int)==x1) then(if(0:Int)<=x6/\x6<=x7/\x7<=x0.length then if x5.length+ [(List.drop x6.toNat (List.take x7.toNat x0))].length<=Lim then(CP N n x0 x1 (x5++ [(List.drop x6.toNat (List.take x7.toNat x0))]) (i64.wrap (x7+1)) (i64.wrap (x7+1))) else none else none) else((CP N n x0 x1 x5 x6 (i64.wrap (x7+1)))) else none)) else(some x5)
def G3(N:Nat)(a0:Str)(a1:Int):Option ((List Str)):=(CP N N a0 a1 [] 0 0)
def xMf(a0:List Str)(a1:Str):List Arg:=[.val (vS .ro .str a0),.val (vT a1)]
def xAc(r:Int):CallO:=(cO (vI r))
def Du(N:Nat):Nat->(List Str)->Str->Int->Option (Int)
 |0,_,_,_=>none
 |n+1,x0,x1,x5=>bif(decide (x5<(x0.length:Int))) then(if(0:Int)<=x5/\x5<x0.length then bif(((x0.getD x5.toNat Ds):Str)==x1) then(some x5) else((Du N n x0 x1 (i64.wrap (x5+1)))) else none) else(some (-1))
def KZ(N:Nat)(a0:List Str)(a1:Str):Option (Int):=(Du N N a0 a1 0)
def xLU(a0:Val)(a1:Str):List Arg:=[.val (vV .ro a0),.val (vT a1)]
def xLV(r:Int):CallO:=(cO (vI r))
def Aw(N:Nat)(a0:Val)(a1:Str):Option (Int):=(KZ N a0.columns a1).bind fun r1=>some r1
def xMu(a0:Val)(a1:Val):List Arg:=[.val (vV .ro a0),.val (vV .ro a1)]
def G0(r:Val):CallO:=(cO (vV .ro r))
def Dy(N:Nat)(k12:(List Str)->Int->Val->Val->Val->Option (Val)):Nat->(List Str)->Int->Int->Val->Val->Val->Rowd->Option (Val)
 |0,_,_,_,_,_,_,_=>none
 |n+1,x7,x10,x12,b3,b4,b8,b11=>bif(decide (x12<(x7.length:Int))) then(if(0:Int)<=x10/\x10<b3.rows.length then if(0:Int)<=x12/\x12<x7.length then(Aw N b3 (x7.getD x12.toNat Ds)).bind fun r1=>if(0:Int)<=r1/\r1<(List.length (Rowd.cells (b3.rows.getD x10.toNat Ty.row.dflt))) then if b11.cells.length+ [(List.getD (Rowd.cells (b3.rows.getD x10.toNat Ty.row.dflt)) r1.toNat Di)].length<=Lim then(Dy N k12 n x7 x10 (i64.wrap (x12+1)) b3 b4 b8 (Rowd.mk (b11.cells++ [(List.getD (Rowd.cells (b3.rows.getD x10.toNat Ty.row.dflt)) r1.toNat Di)]) b11.frm)) else none else none else none else none) else(if b8.rows.length+ [b11].length<=Lim then(k12 x7 (i64.wrap (x10+1)) b3 b4 (Val.mk b8.kind b8.n b8.step b8.text b8.list b8.columns (b8.rows++ [b11]))) else none)
def CN(N:Nat):Nat->(List Str)->Int->Val->Val->Val->Option (Val)
 |0,_,_,_,_,_=>none
 |n+1,x7,x10,b3,b4,b8=>bif(decide (x10<(b3.rows.length:Int))) then(if(0:Int)<=x10/\x10<b3.rows.length then if 0+List.length (Rowd.frm (b3.rows.getD x10.toNat Ty.row.dflt))<=Lim then(Dy N (fun z0 z1 z2 z3 z4=>(CN N n z0 z1 z2 z3 z4)) N x7 x10 0 b3 b4 b8 (Rowd.mk [] ([]++(Rowd.frm (b3.rows.getD x10.toNat Ty.row.dflt))))) else none else none) else(some b8)
def CO(N:Nat):Nat->(List Str)->Int->Val->Val->Val->Option (Val)
 |0,_,_,_,_,_=>none
 |n+1,x7,x9,b3,b4,b8=>bif(decide (x9<(x7.length:Int))) then(if(0:Int)<=x9/\x9<x7.length then(Aw N b3 (x7.getD x9.toNat Ds)).bind fun r1=>bif(decide (r1<0)) then((yZ N 7).bind fun r2=>some r2) else((GW N x7).bind fun r2=>bif(!r2) then((yZ N 7).bind fun r3=>some r3) else((CO N n x7 (i64.wrap (x9+1)) b3 b4 b8))) else none) else((CN N N x7 0 b3 b4 b8))
def GZ(N:Nat)(a0:Val)(a1:Val):Option (Val):=(BT N [a0.re,a1.re] [2,5]).bind fun r1=>bif r1.2 then(some r1.1) else((G3 N a0.text 32).bind fun r2=>(CO N N r2 0 a1 (Val.mk 0 0 0 [] [] [] []) (Val.mk 5 0 0 [] [] r2 [])))
def xLW(a0:Val)(a1:Val):List Arg:=[.val (vV .ro a0),.val (vV .ro a1)]
def On(r:Val):CallO:=(cO (vV .own r))
def Dp(N:Nat):Nat->Int->Int->Val->Val->Val->Option (Val)
 |0,_,_,_,_,_=>none
 |n+1,x7,x9,b3,b4,b8=>bif(decide (x9<(b3.rows.length:Int))) then(if(0:Int)<=x9/\x9<b3.rows.length then if(0:Int)<=x7/\x7<(List.length (Rowd.cells (b3.rows.getD x9.toNat Ty.row.dflt))) then(zK N (List.getD (Rowd.cells (b3.rows.getD x9.toNat Ty.row.dflt)) x7.toNat Di)).bind fun r1=>if b8.list.length+ [r1.re].length<=Lim then(Dp N n x7 (i64.wrap (x9+1)) b3 b4 (Val.mk b8.kind b8.n b8.step b8.text (b8.list++ [r1.re]) b8.columns b8.rows)) else none else none else none) else(some b8)
def FM(N:Nat)(a0:Val)(a1:Val):Option (Val):=(BT N [a0.re,a1.re] [2,5]).bind fun r1=>bif r1.2 then(some r1.1) else((Aw N a1 a0.text).bind fun r2=>bif(decide (r2<0)) then((yZ N 7).bind fun r3=>some r3) else(bif(decide ((a1.rows.length:Int)>8)) then((yZ N 6).bind fun r3=>some r3) else((Dp N N r2 0 a1 (Val.mk 0 0 0 [] [] [] []) (Val.mk 3 0 0 [] [] [] [])))))
def xOB(a0:Val):List Arg:=[.val (vV .ro a0)]
def xAV(r:(List Int)×Bool):CallO:=⟨.tup [(false,[.sl .own .int r.1]),(false,[.bool r.2])],[],[]⟩
def EN(N:Nat):Nat->(List Int)->Int->Val->Option ((List Int)×Bool)
 |0,_,_,_=>none
 |n+1,x4,x5,b1=>bif(decide (x5<(b1.list.length:Int))) then(if(0:Int)<=x5/\x5<b1.list.length then bif(((Val.kind (b1.list.getD x5.toNat Dv)):Int) != 1) then(some (x4,false)) else(if x4.length+ [(Val.n (b1.list.getD x5.toNat Dv))].length<=Lim then(EN N n (x4++ [(Val.n (b1.list.getD x5.toNat Dv))]) (i64.wrap (x5+1)) b1) else none) else none) else(some (x4,(b1.kind==3)))
def Ie(N:Nat)(a0:Val):Option ((List Int)×Bool):=(EN N N [] 0 a0)
def xMO(a0:Val)(a1:Val):List Arg:=[.val (vV .ro a0),.val (vV .ro a1)]
def xAm(r:Val):CallO:=(cO (vV .own r))
def CR(N:Nat):Nat->Int->Val->Val->Val->Option (Val)
 |0,_,_,_,_=>none
 |n+1,x8,b3,b4,b7=>bif(decide (x8<(b3.list.length:Int))) then(if(0:Int)<=x8/\x8<b3.list.length then(Ie N (b3.list.getD x8.toNat Dv)).bind fun r1=>bif(!r1.2) then((yZ N 4).bind fun r2=>some r2) else(bif((r1.1.length:Int) != (b7.columns.length:Int)) then((yZ N 4).bind fun r2=>some r2) else(if b7.rows.length+List.length [(Rowd.mk r1.1 [])]<=Lim then(CR N n (i64.wrap (x8+1)) b3 b4 (Val.mk b7.kind b7.n b7.step b7.text b7.list b7.columns (b7.rows++ [(Rowd.mk r1.1 [])]))) else none)) else none) else(some b7)
def G6(N:Nat)(a0:Val)(a1:Val):Option (Val):=(BT N [a0.re,a1.re] [2,3]).bind fun r1=>bif r1.2 then(some r1.1) else((G3 N a0.text 32).bind fun r2=>(IY N r2).bind fun r3=>bif(!r3) then((yZ N 7).bind fun r4=>some r4) else((CR N N 0 a1 (Val.mk 0 0 0 [] [] [] []) (Val.mk 5 0 0 [] [] r2 []))))
def xMV(a0:Val)(a1:Val)(a2:Val):List Arg:=[.val (vV .ro a0),.val (vV .ro a1),.val (vV .ro a2)]
def xAo(r:Val):CallO:=(cO (vV .own r))
def CS(N:Nat):Nat->Int->Int->Val->Val->Val->Val->Option (Val)
 |0,_,_,_,_,_,_=>none
 |n+1,x9,x11,b4,b5,b6,b10=>bif(decide (x11<(b5.rows.length:Int))) then(if(0:Int)<=x11/\x11<b5.rows.length then if(0:Int)<=x9/\x9<(List.length (Rowd.cells (b5.rows.getD x11.toNat Ty.row.dflt))) then bif(((List.getD (Rowd.cells (b5.rows.getD x11.toNat Ty.row.dflt)) x9.toNat Di):Int)==b4.n) then((Gc N (b5.rows.getD x11.toNat Ty.row.dflt)).bind fun r1=>if b10.rows.length+ [r1].length<=Lim then(CS N n x9 (i64.wrap (x11+1)) b4 b5 b6 (Val.mk b10.kind b10.n b10.step b10.text b10.list b10.columns (b10.rows++ [r1]))) else none) else((CS N n x9 (i64.wrap (x11+1)) b4 b5 b6 b10)) else none else none) else(some b10)
def FQ(N:Nat)(a0:Val)(a1:Val)(a2:Val):Option (Val):=(BT N [a0.re,a1.re,a2.re] [2,1,5]).bind fun r1=>bif r1.2 then(some r1.1) else((Aw N a2 a0.text).bind fun r2=>bif(decide (r2<0)) then((yZ N 7).bind fun r3=>some r3) else(if 0+a2.columns.length<=Lim then(CS N N r2 0 a1 a2 (Val.mk 0 0 0 [] [] [] []) (Val.mk 5 0 0 [] [] ([]++a2.columns) [])) else none))
def xOL(a0:List Org)(a1:List Org):List Arg:=[.val (vS .ro .org a0),.val (vS .ro .org a1)]
def xAZ(r:(List Org)):CallO:=(cO (vS .own .org r))
def A4(N:Nat):Nat->(List Org)->(List Org)->(List Org)->Int->Int->Option ((List Org))
 |0,_,_,_,_,_=>none
 |n+1,x0,x1,x5,x6,x7=>bif(decide (x6<(x0.length:Int))) then(bif(x7==(x1.length:Int)) then(if(0:Int)<=x6/\x6<x0.length then if x5.length+ [(x0.getD x6.toNat Do)].length<=Lim then(A4 N n x0 x1 (x5++ [(x0.getD x6.toNat Do)]) (i64.wrap (x6+1)) x7) else none else none) else(if(0:Int)<=x6/\x6<x0.length then if(0:Int)<=x7/\x7<x1.length then(EF N (x0.getD x6.toNat Do) (x1.getD x7.toNat Do)).bind fun r1=>bif r1 then(if x5.length+ [(x0.getD x6.toNat Do)].length<=Lim then(A4 N n x0 x1 (x5++ [(x0.getD x6.toNat Do)]) (i64.wrap (x6+1)) x7) else none) else(bif(x6==(x0.length:Int)) then(if x5.length+ [(x1.getD x7.toNat Do)].length<=Lim then(A4 N n x0 x1 (x5++ [(x1.getD x7.toNat Do)]) x6 (i64.wrap (x7+1))) else none) else((EF N (x1.getD x7.toNat Do) (x0.getD x6.toNat Do)).bind fun r2=>bif r2 then(if x5.length+ [(x1.getD x7.toNat Do)].length<=Lim then(A4 N n x0 x1 (x5++ [(x1.getD x7.toNat Do)]) x6 (i64.wrap (x7+1))) else none) else(if x5.length+ [(x0.getD x6.toNat Do)].length<=Lim then(A4 N n x0 x1 (x5++ [(x0.getD x6.toNat Do)]) (i64.wrap (x6+1)) (i64.wrap (x7+1))) else none))) else none else none)) else(bif(decide (x7<(x1.length:Int))) then(bif(x7==(x1.length:Int)) then(if(0:Int)<=x6/\x6<x0.length then if x5.length+ [(x0.getD x6.toNat Do)].length<=Lim then(A4 N n x0 x1 (x5++ [(x0.getD x6.toNat Do)]) (i64.wrap (x6+1)) x7)
      else none else none) else(bif(x6==(x0.length:Int)) then(if(0:Int)<=x7/\x7<x1.length then if x5.length+ [(x1.getD x7.toNat Do)].length<=Lim then(A4 N n x0 x1 (x5++ [(x1.getD x7.toNat Do)]) x6 (i64.wrap (x7+1))) else none else none) else(if(0:Int)<=x7/\x7<x1.length then if(0:Int)<=x6/\x6<x0.length then(EF N (x1.getD x7.toNat Do) (x0.getD x6.toNat Do)).bind fun r1=>bif r1 then(if x5.length+ [(x1.getD x7.toNat Do)].length<=Lim then(A4 N n x0 x1 (x5++ [(x1.getD x7.toNat Do)]) x6 (i64.wrap (x7+1))) else none) else(if x5.length+ [(x0.getD x6.toNat Do)].length<=Lim then(A4 N n x0 x1 (x5++ [(x0.getD x6.toNat Do)]) (i64.wrap (x6+1)) (i64.wrap (x7+1))) else none) else none else none))) else(some x5))
def Gj(N:Nat)(a0:List Org)(a1:List Org):Option ((List Org)):=(A4 N N a0 a1 [] 0 0)
def xOG(a0:List Rowd)(a1:Int)(a2:Int)(a3:List Org):List Arg:=[.val (vS .ro .row a0),.val (vI a1),.val (vI a2),.val (vS .ro .org a3)]
def xAW(r:(List Rowd)):CallO:=(cO (vS .tip .row r))
def Ao(N:Nat):Nat->(List Rowd)->Int->Int->(List Org)->(List Rowd)->Bool->Int->Option ((List Rowd))
 |0,_,_,_,_,_,_,_=>none
 |n+1,x0,x1,x2,x3,x9,x10,x11=>bif(decide (x11<(x0.length:Int))) then(if(0:Int)<=x11/\x11<x0.length then if(0:Int)<=0/\(0:Int)<(List.length (Rowd.cells (x0.getD x11.toNat Ty.row.dflt))) then bif(((List.getD (Rowd.cells (x0.getD x11.toNat Ty.row.dflt)) (Int.toNat 0) Di):Int)==x1) then(if(0:Int)<=1/\(1:Int)<(List.length (Rowd.cells (x0.getD x11.toNat Ty.row.dflt))) then(Gj N (Rowd.frm (x0.getD x11.toNat Ty.row.dflt)) x3).bind fun r1=>if(0:Int)<=0/\(0:Int)<([x1,(i64.wrap ((List.getD (Rowd.cells (x0.getD x11.toNat Ty.row.dflt)) (Int.toNat 1) Di)+x2))].length) then bif(decide (((List.getD [x1,(i64.wrap ((List.getD (Rowd.cells (x0.getD x11.toNat Ty.row.dflt)) (Int.toNat 1) Di)+x2))] (Int.toNat 0) Di):Int)>x1)) then(if x9.length+List.length [(Rowd.mk [x1,(i64.wrap ((List.getD (Rowd.cells (x0.getD x11.toNat Ty.row.dflt)) (Int.toNat 1) Di)+x2))] r1)]<=Lim then(Ao N n x0 x1 x2 x3 (x9++ [(Rowd.mk [x1,(i64.wrap ((List.getD (Rowd.cells (x0.getD x11.toNat Ty.row.dflt)) (Int.toNat 1) Di)+x2))] r1)]) true (i64.wrap (x11+1))) else none) else(if x9.length+List.length [(Rowd.mk [x1,(i64.wrap ((List.getD (Rowd.cells (x0.getD x11.toNat Ty.row.dflt)) (Int.toNat 1) Di)+x2))] r1)]<=Lim then(Ao N n x0 x1 x2 x3 (x9++ [(Rowd.mk [x1,(i64.wrap ((List.getD (Rowd.cells (x0.getD x11.toNat Ty.row.dflt)) (Int.toNat 1) Di)+x2))] r1)]) true (i64.wrap (x11+1))) else none) else none else none) else(bif(decide (((List.getD (Rowd.cells (x0.getD x11.toNat Ty.row.dflt)) (Int.toNat 0) Di):Int)>x1)) then(bif(!x10) then(if 0+x3.length<=Lim then if x9.length+List.length [(Rowd.mk [x1,x2] ([]++x3))]<=Lim then
       if List.length (x9++ [(Rowd.mk [x1,x2] ([]++x3))])+ [(x0.getD x11.toNat Ty.row.dflt)].length<=Lim then(Ao N n x0 x1 x2 x3 ((x9++ [(Rowd.mk [x1,x2] ([]++x3))])++ [(x0.getD x11.toNat Ty.row.dflt)]) true (i64.wrap (x11+1))) else none else none else none) else(if x9.length+ [(x0.getD x11.toNat Ty.row.dflt)].length<=Lim then(Ao N n x0 x1 x2 x3 (x9++ [(x0.getD x11.toNat Ty.row.dflt)]) x10 (i64.wrap (x11+1))) else none)) else(if x9.length+ [(x0.getD x11.toNat Ty.row.dflt)].length<=Lim then(Ao N n x0 x1 x2 x3 (x9++ [(x0.getD x11.toNat Ty.row.dflt)]) x10 (i64.wrap (x11+1))) else none)) else none else none) else(bif(!x10) then(if 0+x3.length<=Lim then if x9.length+List.length [(Rowd.mk [x1,x2] ([]++x3))]<=Lim then some (x9++ [(Rowd.mk [x1,x2] ([]++x3))]) else none else none) else(some x9))
def Kq(N:Nat)(a0:List Rowd)(a1:Int)(a2:Int)(a3:List Org):Option ((List Rowd)):=(Ao N N a0 a1 a2 a3 [] false 0)
def xMd(a0:Val)(a1:Val)(a2:Val):List Arg:=[.val (vV .ro a0),.val (vV .ro a1),.val (vV .ro a2)]
def KY(r:Val):CallO:=(cO (vV .ro r))
def Cv(N:Nat):Nat->Int->Val->Val->Option (Val)
 |0,_,_,_=>none
 |n+1,x13,b6,b11=>bif(decide (x13<(b11.rows.length:Int))) then(if(0:Int)<=x13/\x13<b11.rows.length then if(0:Int)<=1/\(1:Int)<(List.length (Rowd.cells (b11.rows.getD x13.toNat Ty.row.dflt))) then(Bm N (List.getD (Rowd.cells (b11.rows.getD x13.toNat Ty.row.dflt)) (Int.toNat 1) Di)).bind fun r1=>bif(!r1) then((yZ N 5).bind fun r2=>some r2) else((Cv N n (i64.wrap (x13+1)) b6 b11)) else none else none) else(some b11)
def Dt(N:Nat):Nat->Int->Int->Int->Val->Val->Val->Option (Val)
 |0,_,_,_,_,_,_=>none
 |n+1,x9,x10,x12,b5,b6,b11=>bif(decide (x12<(b5.rows.length:Int))) then(if(0:Int)<=x12/\x12<b5.rows.length then if(0:Int)<=x9/\x9<(List.length (Rowd.cells (b5.rows.getD x12.toNat Ty.row.dflt))) then if(0:Int)<=x10/\x10<(List.length (Rowd.cells (b5.rows.getD x12.toNat Ty.row.dflt))) then(Kq N b11.rows (List.getD (Rowd.cells (b5.rows.getD x12.toNat Ty.row.dflt)) x9.toNat Di) (List.getD (Rowd.cells (b5.rows.getD x12.toNat Ty.row.dflt)) x10.toNat Di) (Rowd.frm (b5.rows.getD x12.toNat Ty.row.dflt))).bind fun r1=>(Dt N n x9 x10 (i64.wrap (x12+1)) b5 b6 (Val.mk b11.kind b11.n b11.step b11.text b11.list b11.columns r1)) else none else none else none) else((Cv N N 0 b6 b11))
def Ct(N:Nat)(a0:Val)(a1:Val)(a2:Val):Option (Val):=(BT N [a0.re,a1.re,a2.re] [2,2,5]).bind fun r1=>bif r1.2 then(some r1.1) else((Aw N a2 a0.text).bind fun r2=>(Aw N a2 a1.text).bind fun r3=>bif(decide (r2<0)) then((yZ N 7).bind fun r4=>some r4) else(bif(decide (r3<0)) then((yZ N 7).bind fun r4=>some r4) else(bif(r2==r3) then((yZ N 7).bind fun r4=>some r4) else((Dt N N r2 r3 0 a2 (Val.mk 0 0 0 [] [] [] []) (Val.mk 5 0 0 [] [] [a0.text,a1.text] []))))))
def xOD(a0:Rowd)(a1:Rowd)(a2:Int):List Arg:=[.val (.v true [.sl .ro .int a0.cells,.sl .ro .org a0.frm]),.val (.v true [.sl .ro .int a1.cells,.sl .ro .org a1.frm]),.val (vI a2)]
def xOF(r:Rowd):CallO:=⟨.v true [.sl .own .int (Rowd.cells r),.sl .own .org (Rowd.frm r)],[],[]⟩
def If(N:Nat)(a0:Rowd)(a1:Rowd)(a2:Int):Option (Rowd):=if 0+a0.cells.length<=Lim then(Gj N a0.frm a1.frm).bind fun r1=>if(0:Int)<=a2/\a2<=a1.cells.length then if List.length ([]++a0.cells)+List.length (List.take a2.toNat a1.cells)<=Lim then if(0:Int)<=(i64.wrap (a2+1))/\(i64.wrap (a2+1))<=a1.cells.length then if List.length (([]++a0.cells)++(List.take a2.toNat a1.cells))+List.length (List.drop (Int.toNat (i64.wrap (a2+1))) a1.cells)<=Lim then some (Rowd.mk ((([]++a0.cells)++(List.take a2.toNat a1.cells))++(List.drop (Int.toNat (i64.wrap (a2+1))) a1.cells)) r1) else none else none else none else none else none
def xMs(a0:Val)(a1:Val)(a2:Val):List Arg:=[.val (vV .ro a0),.val (vV .ro a1),.val (vV .ro a2)]
def IJ(r:Val):CallO:=(cO (vV .own r))
def Dx(N:Nat)(k15:Int->Int->Int->Val->Val->Val->Val->Option (Val)):Nat->Int->Int->Int->Int->Val->Val->Val->Val->Option (Val)
 |0,_,_,_,_,_,_,_,_=>none
 |n+1,x9,x10,x12,x13,b4,b5,b6,b11=>bif(decide (x13<(b5.rows.length:Int))) then(if(0:Int)<=x12/\x12<b4.rows.length then if(0:Int)<=x9/\x9<(List.length (Rowd.cells (b4.rows.getD x12.toNat Ty.row.dflt))) then if(0:Int)<=x13/\x13<b5.rows.length then if(0:Int)<=x10/\x10<(List.length (Rowd.cells (b5.rows.getD x13.toNat Ty.row.dflt))) then bif(((List.getD (Rowd.cells (b4.rows.getD x12.toNat Ty.row.dflt)) x9.toNat Di):Int)==(List.getD (Rowd.cells (b5.rows.getD x13.toNat Ty.row.dflt)) x10.toNat Di)) then((If N (b4.rows.getD x12.toNat Ty.row.dflt) (b5.rows.getD x13.toNat Ty.row.dflt) x10).bind fun r1=>if b11.rows.length+ [r1].length<=Lim then(Dx N k15 n x9 x10 x12 (i64.wrap (x13+1)) b4 b5 b6 (Val.mk b11.kind b11.n b11.step b11.text b11.list b11.columns (b11.rows++ [r1]))) else none) else((Dx N k15 n x9 x10 x12 (i64.wrap (x13+1)) b4 b5 b6 b11)) else none else none else none else none) else((k15 x9 x10 (i64.wrap (x12+1)) b4 b5 b6 b11))
def Cx(N:Nat):Nat->Int->Int->Int->Val->Val->Val->Val->Option (Val)
 |0,_,_,_,_,_,_,_=>none
 |n+1,x9,x10,x12,b4,b5,b6,b11=>bif(decide (x12<(b4.rows.length:Int))) then((Dx N (fun z0 z1 z2 z3 z4 z5 z6=>(Cx N n z0 z1 z2 z3 z4 z5 z6)) N x9 x10 x12 0 b4 b5 b6 b11)) else(bif(decide ((b11.rows.length:Int)>12)) then((yZ N 6).bind fun r1=>some r1) else(some b11))
def Dw(N:Nat)(a0:Val)(a1:Val)(a2:Val):Option (Val):=(BT N [a0.re,a1.re,a2.re] [2,5,5]).bind fun r1=>bif r1.2 then(some r1.1) else((Aw N a1 a0.text).bind fun r2=>(Aw N a2 a0.text).bind fun r3=>bif(decide (r2<0)) then((yZ N 7).bind fun r4=>some r4) else(bif(decide (r3<0)) then((yZ N 7).bind fun r4=>some r4) else(if 0+a1.columns.length<=Lim then if(0:Int)<=r3/\r3<=a2.columns.length then if List.length ([]++a1.columns)+List.length (List.take r3.toNat a2.columns)<=Lim then if(0:Int)<=(i64.wrap (r3+1))/\(i64.wrap (r3+1))<=a2.columns.length then if List.length (([]++a1.columns)++(List.take r3.toNat a2.columns))+List.length (List.drop (Int.toNat (i64.wrap (r3+1))) a2.columns)<=Lim then(GW N ((([]++a1.columns)++(List.take r3.toNat a2.columns))++(List.drop (Int.toNat (i64.wrap (r3+1))) a2.columns))).bind fun r4=>bif(!r4) then((yZ N 7).bind fun r5=>some r5) else(bif(decide (((List.length ((([]++a1.columns)++(List.take r3.toNat a2.columns))++(List.drop (Int.toNat (i64.wrap (r3+1))) a2.columns)):Int):Int)>4)) then((yZ N 6).bind fun r5=>some r5) else((Cx N N r2 r3 0 a1 a2 (Val.mk 0 0 0 [] [] [] []) (Val.mk 5 0 0 [] [] ((([]++a1.columns)++(List.take r3.toNat a2.columns))++(List.drop (Int.toNat (i64.wrap (r3+1))) a2.columns)) [])))) else none else none else none else none else none)))
def xLL(a0:Val)(a1:Val)(a2:Val)(a3:Val):List Arg:=[.val (vV .ro a0),.val (vV .ro a1),.val (vV .ro a2),.val (vV .ro a3)]
def Oi(r:Val):CallO:=(cO (vV .own r))
def Cs(N:Nat):Nat->Int->Int->Int->Val->Val->Val->Option (Val)
 |0,_,_,_,_,_,_=>none
 |n+1,x11,x12,x14,b7,b8,b13=>bif(decide (x14<(b13.rows.length:Int))) then(if(0:Int)<=x14/\x14<b7.rows.length then if(0:Int)<=x11/\x11<(List.length (Rowd.cells (b7.rows.getD x14.toNat Ty.row.dflt))) then if(0:Int)<=x12/\x12<(List.length (Rowd.cells (b7.rows.getD x14.toNat Ty.row.dflt))) then(Bm N (i64.wrap ((List.getD (Rowd.cells (b7.rows.getD x14.toNat Ty.row.dflt)) x11.toNat Di)+(List.getD (Rowd.cells (b7.rows.getD x14.toNat Ty.row.dflt)) x12.toNat Di)))).bind fun r1=>bif(!r1) then((yZ N 5).bind fun r2=>some r2) else(if(0:Int)<=x14/\x14<b13.rows.length then if List.length (Rowd.cells (b13.rows.getD x14.toNat Ty.row.dflt))+ [(i64.wrap ((List.getD (Rowd.cells (b7.rows.getD x14.toNat Ty.row.dflt)) x11.toNat Di)+(List.getD (Rowd.cells (b7.rows.getD x14.toNat Ty.row.dflt)) x12.toNat Di)))].length<=Lim then(Cs N n x11 x12 (i64.wrap (x14+1)) b7 b8 (Val.mk b13.kind b13.n b13.step b13.text b13.list b13.columns (b13.rows.set x14.toNat (Rowd.mk ((Rowd.cells (b13.rows.getD x14.toNat Ty.row.dflt))++ [(i64.wrap ((List.getD (Rowd.cells (b7.rows.getD x14.toNat Ty.row.dflt)) x11.toNat Di)+(List.getD (Rowd.cells (b7.rows.getD x14.toNat Ty.row.dflt)) x12.toNat Di)))]) (Rowd.frm (b13.rows.getD x14.toNat Ty.row.dflt)))))) else none else none) else none else none else none) else(some b13)
def Bj(N:Nat)(a0:Val)(a1:Val)(a2:Val)(a3:Val):Option (Val):=(BT N [a0.re,a1.re,a2.re,a3.re] [2,2,2,5]).bind fun r1=>bif r1.2 then(some r1.1) else((Aw N a3 a1.text).bind fun r2=>(Aw N a3 a2.text).bind fun r3=>(GX N a0.text).bind fun r4=>bif(!r4) then((yZ N 7).bind fun r5=>some r5) else((Aw N a3 a0.text).bind fun r5=>bif(decide (r5>=0)) then((yZ N 7).bind fun r6=>some r6) else(bif(decide (r2<0)) then((yZ N 7).bind fun r6=>some r6) else(bif(decide (r3<0)) then((yZ N 7).bind fun r6=>some r6) else(bif((a3.columns.length:Int)==4) then((yZ N 6).bind fun r6=>some r6) else((EH N a3).bind fun r6=>if r6.columns.length+ [a0.text].length<=Lim then(Cs N N r2 r3 0 a3 (Val.mk 0 0 0 [] [] [] []) (Val.mk r6.kind r6.n r6.step r6.text r6.list (r6.columns++ [a0.text]) r6.rows)) else none))))))
def xLQ(a0:Str)(a1:List Val):List Arg:=[.val (vT a0),.val (vS .ro .val a1)]
def xLR(r:Val):CallO:=(cO (vV .ro r))
def Bk(N:Nat)(a0:Str)(a1:List Val):Option (Val):=(BR N a0).bind fun r1=>bif((a1.length:Int) != r1) then((yZ N 4).bind fun r2=>some r2) else(bif((a0:Str)== [108,101,110]) then(if(0:Int)<=0/\(0:Int)<a1.length then(IK N (a1.getD (Int.toNat 0) Dv)).bind fun r2=>some r2 else none) else(bif((a0:Str)== [115,117,109]) then(if(0:Int)<=0/\(0:Int)<a1.length then(IN N (a1.getD (Int.toNat 0) Dv)).bind fun r2=>some r2 else none) else(bif((a0:Str)== [114,111,119,115]) then(if(0:Int)<=0/\(0:Int)<a1.length then(ID N (a1.getD (Int.toNat 0) Dv)).bind fun r2=>some r2 else none) else(bif((a0:Str)== [116,97,107,101]) then(if(0:Int)<=0/\(0:Int)<a1.length then if(0:Int)<=1/\(1:Int)<a1.length then(EB N (a1.getD (Int.toNat 0) Dv) (a1.getD (Int.toNat 1) Dv)).bind fun r2=>some r2 else none else none) else(bif((a0:Str)== [115,107,105,112]) then(if(0:Int)<=0/\(0:Int)<a1.length then if(0:Int)<=1/\(1:Int)<a1.length then(Dz N (a1.getD (Int.toNat 0) Dv) (a1.getD (Int.toNat 1) Dv)).bind fun r2=>some r2 else none else none) else(bif((a0:Str)== [110,116,104]) then(if(0:Int)<=0/\(0:Int)<a1.length then if(0:Int)<=1/\(1:Int)<a1.length then(An N (a1.getD (Int.toNat 0) Dv) (a1.getD (Int.toNat 1) Dv)).bind fun r2=>some r2 else none else none) else(bif((a0:Str)== [114,97,110,103,101]) then(if(0:Int)<=0/\(0:Int)<a1.length then if(0:Int)<=1/\(1:Int)<a1.length then(IQ N (a1.getD (Int.toNat 0) Dv) (a1.getD (Int.toNat 1) Dv)).bind fun r2=>
     some r2 else none else none) else(bif((a0:Str)== [107,101,101,112]) then(if(0:Int)<=0/\(0:Int)<a1.length then if(0:Int)<=1/\(1:Int)<a1.length then(GZ N (a1.getD (Int.toNat 0) Dv) (a1.getD (Int.toNat 1) Dv)).bind fun r2=>some r2 else none else none) else(bif((a0:Str)== [99,111,108,117,109,110]) then(if(0:Int)<=0/\(0:Int)<a1.length then if(0:Int)<=1/\(1:Int)<a1.length then(FM N (a1.getD (Int.toNat 0) Dv) (a1.getD (Int.toNat 1) Dv)).bind fun r2=>some r2 else none else none) else(bif((a0:Str)== [116,97,98,108,101]) then(if(0:Int)<=0/\(0:Int)<a1.length then if(0:Int)<=1/\(1:Int)<a1.length then(G6 N (a1.getD (Int.toNat 0) Dv) (a1.getD (Int.toNat 1) Dv)).bind fun r2=>some r2 else none else none) else(bif((a0:Str)== [119,104,101,114,101]) then(if(0:Int)<=0/\(0:Int)<a1.length then if(0:Int)<=1/\(1:Int)<a1.length then if(0:Int)<=2/\(2:Int)<a1.length then(FQ N (a1.getD (Int.toNat 0) Dv) (a1.getD (Int.toNat 1) Dv) (a1.getD (Int.toNat 2) Dv)).bind fun r2=>some r2 else none else none else none) else(bif((a0:Str)== [103,114,111,117,112]) then(if(0:Int)<=0/\(0:Int)<a1.length then if(0:Int)<=1/\(1:Int)<a1.length then if(0:Int)<=2/\(2:Int)<a1.length then(Ct N (a1.getD (Int.toNat 0) Dv) (a1.getD (Int.toNat 1) Dv) (a1.getD (Int.toNat 2) Dv)).bind fun r2=>some r2 else none else none else none) else(bif((a0:Str)== [106,111,105,110]) then(if(0:Int)<=0/\(0:Int)<a1.length then if(0:Int)<=1/\(1:Int)<a1.length then
              if(0:Int)<=2/\(2:Int)<a1.length then(Dw N (a1.getD (Int.toNat 0) Dv) (a1.getD (Int.toNat 1) Dv) (a1.getD (Int.toNat 2) Dv)).bind fun r2=>some r2 else none else none else none) else(bif((a0:Str)== [97,100,100]) then(if(0:Int)<=0/\(0:Int)<a1.length then if(0:Int)<=1/\(1:Int)<a1.length then if(0:Int)<=2/\(2:Int)<a1.length then if(0:Int)<=3/\(3:Int)<a1.length then(Bj N (a1.getD (Int.toNat 0) Dv) (a1.getD (Int.toNat 1) Dv) (a1.getD (Int.toNat 2) Dv) (a1.getD (Int.toNat 3) Dv)).bind fun r2=>some r2 else none else none else none else none) else((yZ N 4).bind fun r2=>some r2)))))))))))))))
def xIe(a0:Str):List Arg:=[.val (vT a0)]
def xIg(r:Bool):CallO:=(cO (vB r))
def Hc(N:Nat)(a0:Str):Option (Bool):=bif((a0:Str)== [99,108,111,99,107]) then(some true) else(bif((a0:Str)== [99,104,97,110,99,101]) then(some true) else(some ((a0:Str)== [102,105,108,101])))
def xGu(a0:Str):List Arg:=[.val (vT a0)]
def xGw(r:Int):CallO:=(cO (vI r))
def E8(N:Nat)(a0:Str):Option (Int):=bif((a0:Str)== [99,108,111,99,107]) then(some 0) else(bif((a0:Str)== [108,101,110]) then(some 1) else(bif((a0:Str)== [115,117,109]) then(some 1) else(bif((a0:Str)== [114,111,119,115]) then(some 1) else(bif((a0:Str)== [99,104,97,110,99,101]) then(some 1) else(bif((a0:Str)== [102,105,108,101]) then(some 1) else(bif((a0:Str)== [116,97,107,101]) then(some 2) else(bif((a0:Str)== [115,107,105,112]) then(some 2) else(bif((a0:Str)== [114,97,110,103,101]) then(some 2) else(bif((a0:Str)== [110,116,104]) then(some 2) else(bif((a0:Str)== [107,101,101,112]) then(some 2) else(bif((a0:Str)== [99,111,108,117,109,110]) then(some 2) else(bif((a0:Str)== [116,97,98,108,101]) then(some 2) else(bif((a0:Str)== [119,104,101,114,101]) then(some 3) else(bif((a0:Str)== [103,114,111,117,112]) then(some 3) else(bif((a0:Str)== [106,111,105,110]) then(some 3) else(bif((a0:Str)== [97,100,100]) then(some 4) else(some (-1))))))))))))))))))
def xGR(a0:Int):List Arg:=[.val (vI a0)]
def xGS(r:Val):CallO:=(cO (vV .own r))
def yV(N:Nat)(a0:Int):Option (Val):=some (Val.mk 6 a0 0 [] [] [] [])
def xIP(a0:Int)(a1:Int)(a2:Int):List Arg:=[.val (vI a0),.val (vI a1),.val (vI a2)]
def xIQ(r:Bool):CallO:=(cO (vB r))
def CE(N:Nat)(a0:Int)(a1:Int)(a2:Int):Option (Bool):=bif(decide (a1<=a0)) then(some (decide (a0<=a2))) else(some false)
def xIh(a0:Int):List Arg:=[.val (vI a0)]
def xIi(r:Bool):CallO:=(cO (vB r))
def Be(N:Nat)(a0:Int):Option (Bool):=(CE N a0 (-1000000000) 1000000000).bind fun r1=>some r1
def xG4(a0:Str):List Arg:=[.val (vT a0)]
def NF(r:Bool):CallO:=(cO (vB r))
def Fw(N:Nat):Nat->Str->Int->Option (Bool)
 |0,_,_=>none
 |n+1,x0,x3=>bif(decide (x3<(x0.length:Int))) then(if(0:Int)<=x3/\x3<x0.length then bif(decide ((((x0.getD x3.toNat 0).toNat:Int):Int)<32)) then(some false) else(bif(decide ((((x0.getD x3.toNat 0).toNat:Int):Int)>126)) then(some false) else(bif((((x0.getD x3.toNat 0).toNat:Int):Int)==34) then(some false) else((Fw N n x0 (i64.wrap (x3+1)))))) else none) else(some (decide ((x0.length:Int)<=20)))
def J3(N:Nat)(a0:Str):Option (Bool):=(Fw N N a0 0)
def xIn(a0:Str):List Arg:=[.val (vT a0)]
def NX(r:Bool):CallO:=(cO (vB r))
def CA(N:Nat):Nat->Str->Int->Option (Bool)
 |0,_,_=>none
 |n+1,x0,x3=>bif(decide (x3<(x0.length:Int))) then(if(0:Int)<=x3/\x3<x0.length then bif(decide ((((x0.getD x3.toNat 0).toNat:Int):Int)>=97)) then(bif(!(decide ((((x0.getD x3.toNat 0).toNat:Int):Int)<=122))) then(bif(x3==0) then(some false) else(bif(decide ((((x0.getD x3.toNat 0).toNat:Int):Int)<48)) then(some false) else(bif(decide ((((x0.getD x3.toNat 0).toNat:Int):Int)>57)) then(some false) else((CA N n x0 (i64.wrap (x3+1))))))) else((CA N n x0 (i64.wrap (x3+1))))) else(bif(x3==0) then(some false) else(bif(decide ((((x0.getD x3.toNat 0).toNat:Int):Int)<48)) then(some false) else(bif(decide ((((x0.getD x3.toNat 0).toNat:Int):Int)>57)) then(some false) else((CA N n x0 (i64.wrap (x3+1))))))) else none) else((CE N (x0.length:Int) 1 8).bind fun r1=>some r1)
def Jc(N:Nat)(a0:Str):Option (Bool):=(CA N N a0 0)
def xGY(a0:Str):List Arg:=[.val (vT a0)]
def xG1(r:Bool):CallO:=(cO (vB r))
def HS(N:Nat)(a0:Str):Option (Bool):=bif((a0:Str)== [108,101,116]) then(some true) else(bif((a0:Str)== [105,110]) then(some true) else(bif((a0:Str)== [105,102]) then(some true) else(bif((a0:Str)== [116,104,101,110]) then(some true) else(bif((a0:Str)== [101,108,115,101]) then(some true) else(bif((a0:Str)== [102,111,114]) then(some true) else(bif((a0:Str)== [100,111]) then(some true) else((E8 N a0).bind fun r1=>some (decide (r1>=0)))))))))
def xG2(a0:Str):List Arg:=[.val (vT a0)]
def xG3(r:Bool):CallO:=(cO (vB r))
def Eb(N:Nat)(a0:Str):Option (Bool):=(Jc N a0).bind fun r1=>bif r1 then((HS N a0).bind fun r2=>some (!r2)) else(some false)
def xGX(a0:List Str)(a1:Str):List Arg:=[.val (vS .ro .str a0),.val (vT a1)]
def ND(r:Int):CallO:=(cO (vI r))
def DP(N:Nat):Nat->Str->(List Str)->Int->Int->Option (Int)
 |0,_,_,_,_=>none
 |n+1,x1,x7,x8,x9=>bif(decide (x9<x8)) then(if(0:Int)<=x9/\x9<x7.length then bif(((x7.getD x9.toNat Ds):Str)==x1) then(some x9) else((DP N n x1 x7 x8 (i64.wrap (x9+1)))) else none) else(some (-1))
def Fv(N:Nat)(a0:List Str)(a1:Str):Option (Int):=(DP N N a1 a0 (a0.length:Int) 0)
def xGt(a0:List Str):List Arg:=[.val (vS .ro .str a0)]
def Mx(r:Bool):CallO:=(cO (vB r))
def DN(N:Nat):Nat->(List Str)->(List Str)->Int->Int->Option (Bool)
 |0,_,_,_,_=>none
 |n+1,x0,x5,x6,x7=>bif(decide (x7<x6)) then(if(0:Int)<=x7/\x7<x5.length then(Fv N x0 (x5.getD x7.toNat Ds)).bind fun r1=>bif(r1 != x7) then(some false) else((DN N n x0 x5 x6 (i64.wrap (x7+1)))) else none) else(some true)
def E7(N:Nat)(a0:List Str):Option (Bool):=(DN N N a0 a0 (a0.length:Int) 0)
def xH3(a0:List Str):List Arg:=[.val (vS .ro .str a0)]
def NQ(r:Bool):CallO:=(cO (vB r))
def Eg(N:Nat):Nat->(List Str)->(List Str)->Int->Int->Option (Bool)
 |0,_,_,_,_=>none
 |n+1,x0,x5,x6,x7=>bif(decide (x7<x6)) then(if(0:Int)<=x7/\x7<x5.length then(Eb N (x5.getD x7.toNat Ds)).bind fun r1=>bif(!r1) then(some false) else((Eg N n x0 x5 x6 (i64.wrap (x7+1)))) else none) else((CE N (x0.length:Int) 1 4).bind fun r1=>bif r1 then((E7 N x0).bind fun r2=>some r2) else(some false))
def GB(N:Nat)(a0:List Str):Option (Bool):=(Eg N N a0 a0 (a0.length:Int) 0)
def xIj(a0:Val):List Arg:=[.val (vV .ro a0)]
def Ei(r:Bool):CallO:=(cO (vB r))
def Ch(N:Nat)(k4:(List Rowd)->Int->Int->Val->Option (Bool)):Nat->(List Rowd)->Int->Int->(List Org)->Int->Int->Val->Rowd->Option (Bool)
 |0,_,_,_,_,_,_,_,_=>none
 |n+1,x20,x21,x22,x45,x46,x47,b1,b4=>bif(decide (x47<x46)) then(if(0:Int)<=x47/\x47<x45.length then bif(decide (((Org.cell (x45.getD x47.toNat Do)):Int)<0)) then(some false) else(bif(decide (((Org.row (x45.getD x47.toNat Do)):Int)<0)) then(some false) else(bif(decide (x47>0)) then(if(0:Int)<=(i64.wrap (x47 - 1))/\(i64.wrap (x47 - 1))<b4.frm.length then(Ek N (b4.frm.getD (Int.toNat (i64.wrap (x47 - 1))) Do) (x45.getD x47.toNat Do)).bind fun r1=>bif(!r1) then(some false) else((Ch N k4 n x20 x21 x22 x45 x46 (i64.wrap (x47+1)) b1 b4)) else none) else((Ch N k4 n x20 x21 x22 x45 x46 (i64.wrap (x47+1)) b1 b4)))) else none) else((k4 x20 x21 (i64.wrap (x22+1)) b1))
def D2(N:Nat)(k4:(List Rowd)->Int->Int->Val->Option (Bool)):Nat->(List Rowd)->Int->Int->(List Int)->Int->Int->Val->Rowd->Option (Bool)
 |0,_,_,_,_,_,_,_,_=>none
 |n+1,x20,x21,x22,x34,x35,x36,b1,b4=>bif(decide (x36<x35)) then(if(0:Int)<=x36/\x36<x34.length then(Be N (x34.getD x36.toNat Di)).bind fun r1=>bif(!r1) then(some false) else((D2 N k4 n x20 x21 x22 x34 x35 (i64.wrap (x36+1)) b1 b4)) else none) else((Ch N k4 N x20 x21 x22 b4.frm (b4.frm.length:Int) 0 b1 b4))
def D1(N:Nat):Nat->(List Rowd)->Int->Int->Val->Option (Bool)
 |0,_,_,_,_=>none
 |n+1,x20,x21,x22,b1=>bif(decide (x22<x21)) then(if(0:Int)<=x22/\x22<x20.length then bif(((List.length (Rowd.cells (x20.getD x22.toNat Ty.row.dflt)):Int):Int) != (b1.columns.length:Int)) then(some false) else((D2 N (fun z0 z1 z2 z3=>(D1 N n z0 z1 z2 z3)) N x20 x21 x22 (Rowd.cells (x20.getD x22.toNat Ty.row.dflt)) (List.length (Rowd.cells (x20.getD x22.toNat Ty.row.dflt)):Int) 0 b1 (x20.getD x22.toNat Ty.row.dflt))) else none) else(some true)
def GC(N:Nat)(a0:Val):Option (Bool):=(GB N a0.columns).bind fun r1=>bif(!r1) then(some false) else(bif(decide ((a0.rows.length:Int)>12)) then(some false) else((D1 N N a0.rows (a0.rows.length:Int) 0 a0)))
def JY(a0:Val):List Arg:=[.val (vV .ro a0)]
def HP(r:Int):CallO:=(cO (vI r))
def Ea(N:Nat)(q0:Val->Option (Int)):Nat->Int->(List Val)->Int->Int->Option (Int)
 |0,_,_,_,_=>none
 |n+1,x3,x7,x8,x9=>bif(decide (x9<x8)) then(if(0:Int)<=x9/\x9<x7.length then(q0 (x7.getD x9.toNat Dv)).bind fun r1=>(Ea N q0 n (if r1>x3 then r1 else x3) x7 x8 (i64.wrap (x9+1))) else none) else(some (i64.wrap (x3+1)))
def NB(N:Nat)(q0:Val->Option (Int))(a0:Val):Option (Int):=(Ea N q0 N 0 a0.list (a0.list.length:Int) 0)
def DO(N:Nat):Nat->Val->Option (Int)
 |0,_=>none
 |d+1,a0=>NB N (DO N d) a0
def Fu(N:Nat)(a0:Val):Option (Int):=DO N N a0
def J5(a0:Val):List Arg:=[.val (vV .ro a0)]
def HU(r:Bool):CallO:=(cO (vB r))
def BL(N:Nat)(q0:Val->Option (Bool)):Nat->(List Val)->Int->Int->Val->Option (Bool)
 |0,_,_,_,_=>none
 |n+1,x124,x125,x126,b1=>bif(decide (x126<x125)) then(if(0:Int)<=x126/\x126<x124.length then bif(((Val.kind (x124.getD x126.toNat Dv)):Int) != 1) then(bif(((Val.kind (x124.getD x126.toNat Dv)):Int) != 2) then(bif(((Val.kind (x124.getD x126.toNat Dv)):Int) != 3) then(some false) else((q0 (x124.getD x126.toNat Dv)).bind fun r1=>bif(!r1) then(some false) else((BL N q0 n x124 x125 (i64.wrap (x126+1)) b1)))) else((q0 (x124.getD x126.toNat Dv)).bind fun r1=>bif(!r1) then(some false) else((BL N q0 n x124 x125 (i64.wrap (x126+1)) b1)))) else((q0 (x124.getD x126.toNat Dv)).bind fun r1=>bif(!r1) then(some false) else((BL N q0 n x124 x125 (i64.wrap (x126+1)) b1))) else none) else(bif(b1.n==0) then(bif(b1.step==0) then(bif((b1.text:Str)== []) then(bif((b1.columns.length:Int)==0) then(bif((b1.rows.length:Int)==0) then(bif(decide ((b1.list.length:Int)<=8)) then((Fu N b1).bind fun r1=>some (decide (r1<=3))) else(some false)) else(some false)) else(some false)) else(some false)) else(some false)) else(some false))
def HT(N:Nat)(q0:Val->Option (Bool))(a0:Val):Option (Bool):=bif((a0.list.length:Int)==0) then(bif((a0.columns.length:Int)==0) then(bif(a0.kind==1) then(bif((a0.rows.length:Int)==0) then(bif(a0.step==0) then(bif((a0.text:Str)== []) then((Be N a0.n).bind fun r1=>some r1) else(some false)) else(some false)) else(some false)) else(bif(a0.kind==2) then(bif((a0.rows.length:Int)==0) then(bif(a0.n==0) then(bif(a0.step==0) then((J3 N a0.text).bind fun r1=>some r1) else(some false)) else(some false)) else(some false)) else(bif(a0.kind==4) then(bif((a0.rows.length:Int)==0) then(bif((a0.text:Str)== []) then((Be N a0.n).bind fun r1=>bif r1 then((Be N a0.step).bind fun r2=>some r2) else(some false)) else(some false)) else(some false)) else(bif(a0.kind==6) then(bif((a0.rows.length:Int)==0) then(bif(a0.step==0) then(bif((a0.text:Str)== []) then((CE N a0.n 1 8).bind fun r1=>some r1) else(some false)) else(some false)) else(some false)) else(bif(a0.kind==5) then(bif(a0.n==0) then(bif(a0.step==0) then(bif((a0.text:Str)== []) then((GC N a0).bind fun r1=>some r1) else(some false)) else(some false)) else(some false)) else(bif(a0.kind==3) then((BL N q0 N a0.list (a0.list.length:Int) 0 a0)) else(some false))))))) else(bif(a0.kind==1) then(some false) else(bif(a0.kind==2) then(some false) else(bif(a0.kind==4) then(some false) else(bif(a0.kind==6) then(
     some false) else(bif(a0.kind==5) then(bif(a0.n==0) then(bif(a0.step==0) then(bif((a0.text:Str)== []) then((GC N a0).bind fun r1=>some r1) else(some false)) else(some false)) else(some false)) else(bif(a0.kind==3) then((BL N q0 N a0.list (a0.list.length:Int) 0 a0)) else(some false)))))))) else(bif(a0.kind==1) then(some false) else(bif(a0.kind==2) then(some false) else(bif(a0.kind==4) then(some false) else(bif(a0.kind==6) then(some false) else(bif(a0.kind==5) then(bif(a0.n==0) then(bif(a0.step==0) then(bif((a0.text:Str)== []) then(some false) else(some false)) else(some false)) else(some false)) else(bif(a0.kind==3) then((BL N q0 N a0.list (a0.list.length:Int) 0 a0)) else(some false)))))))
def BM(N:Nat):Nat->Val->Option (Bool)
 |0,_=>none
 |d+1,a0=>HT N (BM N d) a0
def J4(N:Nat)(a0:Val):Option (Bool):=BM N N a0
def xIz(a0:List Val):List Arg:=[.val (vS .ro .val a0)]
def Je(r:Val×Bool×Bool):CallO:=⟨.tup [(true,[.int .i64 (Val.kind r.1),.int .i64 (Val.n r.1),.int .i64 (Val.step r.1),.str (Val.text r.1),.sl .ro .val (Val.list r.1),.sl .ro .str (Val.columns r.1),.sl .ro .row (Val.rows r.1)]),(false,[.bool r.2.1])],[],[]⟩
def xIB(r:Val×Bool×Bool):CallO:=⟨.tup [(true,[.int .i64 (Val.kind r.1),.int .i64 (Val.n r.1),.int .i64 (Val.step r.1),.str (Val.text r.1),.sl .own .val (Val.list r.1),.sl .own .str (Val.columns r.1),.sl .own .row (Val.rows r.1)]),(false,[.bool r.2.1])],[],[]⟩
def xIA(r:Val×Bool×Bool):CallO:=⟨.tup [(true,[.int .i64 (Val.kind r.1),.int .i64 (Val.n r.1),.int .i64 (Val.step r.1),.str (Val.text r.1),.sl .ro .val [],.sl .ro .str [],.sl .ro .row []]),(false,[.bool r.2.1])],[],[]⟩
def GE(r:Val×Bool×Bool):CallO:=bif r.2.2 then Je r else xIB r
def Ci(N:Nat):Nat->(List Val)->Int->Int->Val->Option (Val×Bool×Bool)
 |0,_,_,_,_=>none
 |n+1,x6,x7,x8,b2=>bif(decide (x8<x7)) then(if(0:Int)<=x8/\x8<x6.length then(J4 N (x6.getD x8.toNat Dv)).bind fun r1=>bif(!r1) then((yV N 4).bind fun r2=>some (r2,true,false)) else(bif(((Val.kind (x6.getD x8.toNat Dv)):Int)==6) then(some ((x6.getD x8.toNat Dv),true,true)) else((Ci N n x6 x7 (i64.wrap (x8+1)) b2))) else none) else(some ((Val.mk 0 0 0 [] [] [] []),false,false))
def Ej(N:Nat)(a0:List Val):Option (Val×Bool×Bool):=(Ci N N a0 (a0.length:Int) 0 (Val.mk 0 0 0 [] [] [] []))
def xHu(a0:Int):List Arg:=[.val (vI a0)]
def xHv(r:Val):CallO:=(cO (vV .own r))
def Ae(N:Nat)(a0:Int):Option (Val):=some (Val.mk 1 a0 0 [] [] [] [])
def xHi(a0:Val):List Arg:=[.val (vV .ro a0)]
def xHm(r:Val×Bool):CallO:=⟨.v true [.int .i64 (Val.kind r.1),.int .i64 (Val.n r.1),.int .i64 (Val.step r.1),.str (Val.text r.1),.sl .ro .val (Val.list r.1),.sl .ro .str (Val.columns r.1),.sl .ro .row (Val.rows r.1)],[],[]⟩
def xHl(r:Val×Bool):CallO:=⟨.v true [.int .i64 (Val.kind r.1),.int .i64 (Val.n r.1),.int .i64 (Val.step r.1),.str (Val.text r.1),.sl .own .val (Val.list r.1),.sl .own .str (Val.columns r.1),.sl .own .row (Val.rows r.1)],[],[]⟩
def xHk(r:Val×Bool):CallO:=bif r.2 then xHm r else xHl r
def HW(N:Nat)(a0:Val):Option (Val×Bool):=(Ej N [a0.re]).bind fun r1=>bif r1.2.2 then(if List.isEmpty r1.1.list=true then if List.isEmpty r1.1.columns=true then if List.isEmpty r1.1.rows=true then bif r1.2.1 then(some ((Val.mk r1.1.kind r1.1.n r1.1.step r1.1.text [] [] []),true)) else(bif(a0.kind==3) then((Ae N (a0.list.length:Int)).bind fun r2=>some (r2,false)) else(bif(a0.kind==2) then((Ae N (a0.text.length:Int)).bind fun r2=>some (r2,false)) else((yV N 4).bind fun r2=>some (r2,false)))) else none else none else none) else(bif r1.2.1 then(some (r1.1,false)) else(bif(a0.kind==3) then((Ae N (a0.list.length:Int)).bind fun r2=>some (r2,false)) else(bif(a0.kind==2) then((Ae N (a0.text.length:Int)).bind fun r2=>some (r2,false)) else((yV N 4).bind fun r2=>some (r2,false)))))
def xHF(a0:Val):List Arg:=[.val (vV .ro a0)]
def xHI(r:Val×Bool):CallO:=⟨.v true [.int .i64 (Val.kind r.1),.int .i64 (Val.n r.1),.int .i64 (Val.step r.1),.str (Val.text r.1),.sl .ro .val (Val.list r.1),.sl .ro .str (Val.columns r.1),.sl .ro .row (Val.rows r.1)],[],[]⟩
def xHH(r:Val×Bool):CallO:=⟨.v true [.int .i64 (Val.kind r.1),.int .i64 (Val.n r.1),.int .i64 (Val.step r.1),.str (Val.text r.1),.sl .own .val (Val.list r.1),.sl .own .str (Val.columns r.1),.sl .own .row (Val.rows r.1)],[],[]⟩
def NI(r:Val×Bool):CallO:=bif r.2 then xHI r else xHH r
def Bc(N:Nat):Nat->Int->(List Val)->Int->Int->Val->Option (Val×Bool)
 |0,_,_,_,_,_=>none
 |n+1,x5,x21,x22,x23,b2=>bif(decide (x23<x22)) then(if(0:Int)<=x23/\x23<x21.length then bif(((Val.kind (x21.getD x23.toNat Dv)):Int) != 1) then((yV N 4).bind fun r1=>some (r1,false)) else((Be N (i64.wrap (x5+(Val.n (x21.getD x23.toNat Dv))))).bind fun r1=>bif(!r1) then((yV N 5).bind fun r2=>some (r2,false)) else((Bc N n (i64.wrap (x5+(Val.n (x21.getD x23.toNat Dv)))) x21 x22 (i64.wrap (x23+1)) b2))) else none) else((Ae N x5).bind fun r1=>some (r1,false))
def H1(N:Nat)(a0:Val):Option (Val×Bool):=(Ej N [a0.re]).bind fun r1=>bif r1.2.2 then(if List.isEmpty r1.1.list=true then if List.isEmpty r1.1.columns=true then if List.isEmpty r1.1.rows=true then bif r1.2.1 then(some ((Val.mk r1.1.kind r1.1.n r1.1.step r1.1.text [] [] []),true)) else(bif(a0.kind != 3) then((yV N 4).bind fun r2=>some (r2,false)) else((Bc N N 0 a0.list (a0.list.length:Int) 0 (Val.mk 0 0 0 [] [] [] [])))) else none else none else none) else(bif r1.2.1 then(some (r1.1,false)) else(bif(a0.kind != 3) then((yV N 4).bind fun r2=>some (r2,false)) else((Bc N N 0 a0.list (a0.list.length:Int) 0 (Val.mk 0 0 0 [] [] [] [])))))
def xIv(a0:List Int)(a1:List Val):List Arg:=[.val (vS .ro .int a0),.val (vS .ro .val a1)]
def Jd(r:Val×Bool×Bool):CallO:=⟨.tup [(true,[.int .i64 (Val.kind r.1),.int .i64 (Val.n r.1),.int .i64 (Val.step r.1),.str (Val.text r.1),.sl .ro .val (Val.list r.1),.sl .ro .str (Val.columns r.1),.sl .ro .row (Val.rows r.1)]),(false,[.bool r.2.1])],[],[]⟩
def xIx(r:Val×Bool×Bool):CallO:=⟨.tup [(true,[.int .i64 (Val.kind r.1),.int .i64 (Val.n r.1),.int .i64 (Val.step r.1),.str (Val.text r.1),.sl .own .val (Val.list r.1),.sl .own .str (Val.columns r.1),.sl .own .row (Val.rows r.1)]),(false,[.bool r.2.1])],[],[]⟩
def xIw(r:Val×Bool×Bool):CallO:=⟨.tup [(true,[.int .i64 (Val.kind r.1),.int .i64 (Val.n r.1),.int .i64 (Val.step r.1),.str (Val.text r.1),.sl .ro .val [],.sl .ro .str [],.sl .ro .row []]),(false,[.bool r.2.1])],[],[]⟩
def GD(r:Val×Bool×Bool):CallO:=bif r.2.2 then Jd r else xIx r
def CB(N:Nat):Nat->(List Int)->(List Val)->Int->Int->Val->Option (Val×Bool×Bool)
 |0,_,_,_,_,_=>none
 |n+1,x0,x17,x18,x19,b4=>bif(decide (x19<x18)) then(if(0:Int)<=x19/\x19<x17.length then if(0:Int)<=x19/\x19<x0.length then bif(((Val.kind (x17.getD x19.toNat Dv)):Int) != (x0.getD x19.toNat Di)) then((yV N 4).bind fun r1=>some (r1,true,false)) else((CB N n x0 x17 x18 (i64.wrap (x19+1)) b4)) else none else none) else(some ((Val.mk 0 0 0 [] [] [] []),false,false))
def BE(N:Nat)(a0:List Int)(a1:List Val):Option (Val×Bool×Bool):=(Ej N a1).bind fun r1=>bif r1.2.2 then(bif r1.2.1 then(some (r1.1,true,true)) else((CB N N a0 a1 (a1.length:Int) 0 (Val.mk 0 0 0 [] [] [] [])))) else(bif r1.2.1 then(some (r1.1,true,false)) else((CB N N a0 a1 (a1.length:Int) 0 (Val.mk 0 0 0 [] [] [] []))))
def xGJ(a0:Val):List Arg:=[.val (vV .ro a0)]
def xGN(r:Val×Bool):CallO:=⟨.v true [.int .i64 (Val.kind r.1),.int .i64 (Val.n r.1),.int .i64 (Val.step r.1),.str (Val.text r.1),.sl .ro .val (Val.list r.1),.sl .ro .str (Val.columns r.1),.sl .ro .row (Val.rows r.1)],[],[]⟩
def xGM(r:Val×Bool):CallO:=⟨.v true [.int .i64 (Val.kind r.1),.int .i64 (Val.n r.1),.int .i64 (Val.step r.1),.str (Val.text r.1),.sl .own .val (Val.list r.1),.sl .own .str (Val.columns r.1),.sl .own .row (Val.rows r.1)],[],[]⟩
def xGL(r:Val×Bool):CallO:=bif r.2 then xGN r else xGM r
def HO(N:Nat)(a0:Val):Option (Val×Bool):=(BE N [5] [a0.re]).bind fun r1=>bif r1.2.2 then(if List.isEmpty r1.1.list=true then if List.isEmpty r1.1.columns=true then if List.isEmpty r1.1.rows=true then bif r1.2.1 then(some ((Val.mk r1.1.kind r1.1.n r1.1.step r1.1.text [] [] []),true)) else((Ae N (a0.rows.length:Int)).bind fun r2=>some (r2,false)) else none else none else none) else(bif r1.2.1 then(some (r1.1,false)) else((Ae N (a0.rows.length:Int)).bind fun r2=>some (r2,false)))
def xIH(a0:Val)(a1:Val):List Arg:=[.val (vV .ro a0),.val (vV .ro a1)]
def xIK(r:Val×Bool×Bool):CallO:=⟨.tup [(true,[.int .i64 (Val.kind r.1),.int .i64 (Val.n r.1),.int .i64 (Val.step r.1),.str (Val.text r.1),.sl .ro .val (Val.list r.1),.sl .ro .str (Val.columns r.1),.sl .ro .row (Val.rows r.1)]),(false,[.bool r.2.1])],[],[]⟩
def xIJ(r:Val×Bool×Bool):CallO:=⟨.tup [(true,[.int .i64 (Val.kind r.1),.int .i64 (Val.n r.1),.int .i64 (Val.step r.1),.str (Val.text r.1),.sl .own .val (Val.list r.1),.sl .own .str (Val.columns r.1),.sl .own .row (Val.rows r.1)]),(false,[.bool r.2.1])],[],[]⟩
def xII(r:Val×Bool×Bool):CallO:=bif r.2.2 then xIK r else xIJ r
def El(N:Nat)(a0:Val)(a1:Val):Option (Val×Bool×Bool):=(Ej N [a0.re,a1.re]).bind fun r1=>bif r1.2.2 then(if List.isEmpty r1.1.list=true then if List.isEmpty r1.1.columns=true then if List.isEmpty r1.1.rows=true then bif r1.2.1 then(some ((Val.mk r1.1.kind r1.1.n r1.1.step r1.1.text [] [] []),true,true)) else((yV N 4).bind fun r2=>bif(a0.kind != 1) then(some (r2,true,false)) else(bif(a1.kind != 3) then(some (r2,(a1.kind != 4),false)) else(some (r2,false,false)))) else none else none else none) else(bif r1.2.1 then(some (r1.1,true,false)) else((yV N 4).bind fun r2=>bif(a0.kind != 1) then(some (r2,true,false)) else(bif(a1.kind != 3) then(some (r2,(a1.kind != 4),false)) else(some (r2,false,false)))))
def xH6(a0:Rowd):List Arg:=[.val (.v true [.sl .ro .int a0.cells,.sl .ro .org a0.frm])]
def xH7(r:Rowd):CallO:=⟨.v true [.sl .own .int (Rowd.cells r),.sl .own .org (Rowd.frm r)],[],[]⟩
def H6(N:Nat)(a0:Rowd):Option (Rowd):=if 0+a0.cells.length<=Lim then if 0+a0.frm.length<=Lim then some (Rowd.mk ([]++a0.cells) ([]++a0.frm)) else none else none
def J8(a0:Val):List Arg:=[.val (vV .ro a0)]
def H9(r:Val):CallO:=(cO (vV .own r))
def DY(N:Nat)(q0:Val->Option (Val))(q1:(List Val)->Option ((List Val))):Nat->(List Rowd)->Int->Int->Val->Val->Option (Val)
 |0,_,_,_,_,_=>none
 |n+1,x18,x19,x20,b2,b3=>bif(decide (x20<x19)) then(if(0:Int)<=x20/\x20<x18.length then(H6 N (x18.getD x20.toNat Ty.row.dflt)).bind fun r1=>if b3.rows.length+ [r1].length<=Lim then(DY N q0 q1 n x18 x19 (i64.wrap (x20+1)) b2 (Val.mk b3.kind b3.n b3.step b3.text b3.list b3.columns (b3.rows++ [r1]))) else none else none) else(some b3)
def H7(N:Nat)(q0:Val->Option (Val))(q1:(List Val)->Option ((List Val)))(a0:Val):Option (Val):=(q1 a0.list).bind fun r1=>if 0+a0.columns.length<=Lim then(DY N q0 q1 N a0.rows (a0.rows.length:Int) 0 (Val.mk 0 0 0 [] [] [] []) (Val.mk a0.kind a0.n a0.step a0.text r1 ([]++a0.columns) [])) else none
def Ja(a0:List Val):List Arg:=[.val (vS .ro .val a0)]
def Hb(r:(List Val)):CallO:=(cO (vS .own .val r))
def Eh(N:Nat)(q0:Val->Option (Val))(q1:(List Val)->Option ((List Val))):Nat->(List Val)->(List Val)->Int->Int->Option ((List Val))
 |0,_,_,_,_=>none
 |n+1,x3,x7,x8,x9=>bif(decide (x9<x8)) then(if(0:Int)<=x9/\x9<x7.length then(q0 (x7.getD x9.toNat Dv)).bind fun r1=>if x3.length+ [r1.re].length<=Lim then(Eh N q0 q1 n (x3++ [r1.re]) x7 x8 (i64.wrap (x9+1))) else none else none) else(some x3)
def Ha(N:Nat)(q0:Val->Option (Val))(q1:(List Val)->Option ((List Val)))(a0:List Val):Option ((List Val)):=(Eh N q0 q1 N [] a0 (a0.length:Int) 0)
structure impl_copyValue_rec where
 c_impl_copyValue:Val->Option (Val)
 c_impl_copyValues:(List Val)->Option ((List Val))
def AQ(N:Nat):Nat->impl_copyValue_rec
 |0=>⟨fun _=>none,fun _=>none⟩
 |d+1=>⟨H7 N (AQ N d).c_impl_copyValue (AQ N d).c_impl_copyValues,Ha N (AQ N d).c_impl_copyValue (AQ N d).c_impl_copyValues⟩
def DX(N:Nat)(a0:Val):Option (Val):=(AQ N N).c_impl_copyValue a0
def J9(N:Nat)(a0:List Val):Option ((List Val)):=(AQ N N).c_impl_copyValues a0
def xHn(a0:List Val):List Arg:=[.val (vS .ro .val a0)]
def xHo(r:Val):CallO:=(cO (vV .own r))
def DT(N:Nat)(a0:List Val):Option (Val):=(J9 N a0).bind fun r1=>some (Val.mk 3 0 0 [] r1 [] [])
def xGB(a0:Int):List Arg:=[.val (vI a0)]
def xGC(r:Val):CallO:=(cO (vV .own r))
def Ft(N:Nat)(a0:Int):Option (Val):=(Be N a0).bind fun r1=>bif(!r1) then((yV N 5).bind fun r2=>some r2) else((Ae N a0).bind fun r2=>some r2)
def xHp(a0:Val)(a1:Val):List Arg:=[.val (vV .ro a0),.val (vV .ro a1)]
def J6(r:Val×Bool):CallO:=⟨.v true [.int .i64 (Val.kind r.1),.int .i64 (Val.n r.1),.int .i64 (Val.step r.1),.str (Val.text r.1),.sl .ro .val (Val.list r.1),.sl .ro .str (Val.columns r.1),.sl .ro .row (Val.rows r.1)],[],[]⟩
def xHr(r:Val×Bool):CallO:=⟨.v true [.int .i64 (Val.kind r.1),.int .i64 (Val.n r.1),.int .i64 (Val.step r.1),.str (Val.text r.1),.sl .own .val (Val.list r.1),.sl .own .str (Val.columns r.1),.sl .own .row (Val.rows r.1)],[],[]⟩
def xHq(r:Val×Bool):CallO:=⟨.v true [.int .i64 (Val.kind r.1),.int .i64 (Val.n r.1),.int .i64 (Val.step r.1),.str (Val.text r.1),.sl .ro .val [],.sl .ro .str [],.sl .ro .row []],[],[]⟩
def HZ(r:Val×Bool):CallO:=bif r.2 then J6 r else xHr r
def Ar(N:Nat)(a0:Val)(a1:Val):Option (Val×Bool):=(El N a0 a1).bind fun r1=>bif r1.2.2 then(bif r1.2.1 then(some (r1.1,true)) else(bif(decide (a0.n<0)) then((yV N 5).bind fun r2=>some (r2,false)) else(bif(a1.kind==3) then(bif(decide (a0.n>=(a1.list.length:Int))) then((yV N 5).bind fun r2=>some (r2,false)) else(if(0:Int)<=a0.n/\a0.n<a1.list.length then(DX N (a1.list.getD a0.n.toNat Dv)).bind fun r2=>some (r2,false) else none)) else((Ft N (i64.wrap (a1.n+(i64.wrap (a0.n*a1.step))))).bind fun r2=>some (r2,false))))) else(bif r1.2.1 then(some (r1.1,false)) else(bif(decide (a0.n<0)) then((yV N 5).bind fun r2=>some (r2,false)) else(bif(a1.kind==3) then(bif(decide (a0.n>=(a1.list.length:Int))) then((yV N 5).bind fun r2=>some (r2,false)) else(if(0:Int)<=a0.n/\a0.n<a1.list.length then(DX N (a1.list.getD a0.n.toNat Dv)).bind fun r2=>some (r2,false) else none)) else((Ft N (i64.wrap (a1.n+(i64.wrap (a0.n*a1.step))))).bind fun r2=>some (r2,false)))))
def xHN(a0:Val)(a1:Val):List Arg:=[.val (vV .ro a0),.val (vV .ro a1)]
def xHQ(r:Val×Bool):CallO:=⟨.v true [.int .i64 (Val.kind r.1),.int .i64 (Val.n r.1),.int .i64 (Val.step r.1),.str (Val.text r.1),.sl .ro .val (Val.list r.1),.sl .ro .str (Val.columns r.1),.sl .ro .row (Val.rows r.1)],[],[]⟩
def xHP(r:Val×Bool):CallO:=⟨.v true [.int .i64 (Val.kind r.1),.int .i64 (Val.n r.1),.int .i64 (Val.step r.1),.str (Val.text r.1),.sl .own .val (Val.list r.1),.sl .own .str (Val.columns r.1),.sl .own .row (Val.rows r.1)],[],[]⟩
def NJ(r:Val×Bool):CallO:=bif r.2 then xHQ r else xHP r
def Ed(N:Nat):Nat->Int->Val->Val->Val->Val->Option (Val×Bool)
 |0,_,_,_,_,_=>none
 |n+1,x8,b2,b3,b4,b7=>bif(decide (x8<b2.n)) then((Ae N x8).bind fun r1=>(Ar N r1 b3).bind fun r2=>bif r2.2 then(if List.isEmpty r2.1.list=true then if List.isEmpty r2.1.columns=true then if List.isEmpty r2.1.rows=true then bif(r2.1.kind==6) then(some ((Val.mk r2.1.kind r2.1.n r2.1.step r2.1.text [] [] []),true)) else(if b7.list.length+List.length [(Val.mk r2.1.kind r2.1.n r2.1.step r2.1.text [] [] [])]<=Lim then none else none) else none else none else none) else(bif(r2.1.kind==6) then(some (r2.1,false)) else(if b7.list.length+ [r2.1.re].length<=Lim then(Ed N n (i64.wrap (x8+1)) b2 b3 b4 (Val.mk b7.kind b7.n b7.step b7.text (b7.list++ [r2.1.re]) b7.columns b7.rows)) else none))) else(some (b7,false))
def DW(N:Nat)(a0:Val)(a1:Val):Option (Val×Bool):=(El N a0 a1).bind fun r1=>bif r1.2.2 then(bif r1.2.1 then(some (r1.1,true)) else((CE N a0.n 0 8).bind fun r2=>bif(!r2) then((yV N 5).bind fun r3=>some (r3,false)) else(bif(a1.kind==3) then(if(0:Int)<=(if(a1.list.length:Int)<a0.n then(a1.list.length:Int) else a0.n)/\(if(a1.list.length:Int)<a0.n then(a1.list.length:Int) else a0.n)<=a1.list.length then(DT N (List.take (Int.toNat (if(a1.list.length:Int)<a0.n then(a1.list.length:Int) else a0.n)) a1.list)).bind fun r3=>some (r3,false) else none) else(none)))) else(bif r1.2.1 then(some (r1.1,false)) else((CE N a0.n 0 8).bind fun r2=>bif(!r2) then((yV N 5).bind fun r3=>some (r3,false)) else(bif(a1.kind==3) then(if(0:Int)<=(if(a1.list.length:Int)<a0.n then(a1.list.length:Int) else a0.n)/\(if(a1.list.length:Int)<a0.n then(a1.list.length:Int) else a0.n)<=a1.list.length then(DT N (List.take (Int.toNat (if(a1.list.length:Int)<a0.n then(a1.list.length:Int) else a0.n)) a1.list)).bind fun r3=>some (r3,false) else none) else((Ed N N 0 a0 a1 (Val.mk 0 0 0 [] [] [] []) (Val.mk 3 0 0 [] [] [] []))))))
def xHD(a0:Int)(a1:Int):List Arg:=[.val (vI a0),.val (vI a1)]
def xHE(r:Val):CallO:=(cO (vV .own r))
def Ce(N:Nat)(a0:Int)(a1:Int):Option (Val):=some (Val.mk 4 a0 a1 [] [] [] [])
def xHw(a0:Val)(a1:Val):List Arg:=[.val (vV .ro a0),.val (vV .ro a1)]
def xHA(r:Val×Bool):CallO:=⟨.v true [.int .i64 (Val.kind r.1),.int .i64 (Val.n r.1),.int .i64 (Val.step r.1),.str (Val.text r.1),.sl .ro .val (Val.list r.1),.sl .ro .str (Val.columns r.1),.sl .ro .row (Val.rows r.1)],[],[]⟩
def xHz(r:Val×Bool):CallO:=⟨.v true [.int .i64 (Val.kind r.1),.int .i64 (Val.n r.1),.int .i64 (Val.step r.1),.str (Val.text r.1),.sl .own .val (Val.list r.1),.sl .own .str (Val.columns r.1),.sl .own .row (Val.rows r.1)],[],[]⟩
def xHy(r:Val×Bool):CallO:=bif r.2 then xHA r else xHz r
def DU(N:Nat)(a0:Val)(a1:Val):Option (Val×Bool):=(El N a0 a1).bind fun r1=>bif r1.2.2 then(bif r1.2.1 then(some (r1.1,true)) else(bif(decide (a0.n<0)) then((yV N 5).bind fun r2=>some (r2,false)) else(bif(a1.kind==3) then(if(0:Int)<=(if(a1.list.length:Int)<a0.n then(a1.list.length:Int) else a0.n)/\(if(a1.list.length:Int)<a0.n then(a1.list.length:Int) else a0.n)<=a1.list.length then(DT N (List.drop (Int.toNat (if(a1.list.length:Int)<a0.n then(a1.list.length:Int) else a0.n)) a1.list)).bind fun r2=>some (r2,false) else none) else((Ar N a0 a1).bind fun r2=>bif r2.2 then(bif(r2.1.kind==6) then(some (r2.1,true)) else((Ce N r2.1.n a1.step).bind fun r3=>some (r3,false))) else(bif(r2.1.kind==6) then(some (r2.1,false)) else((Ce N r2.1.n a1.step).bind fun r3=>some (r3,false))))))) else(bif r1.2.1 then(some (r1.1,false)) else(bif(decide (a0.n<0)) then((yV N 5).bind fun r2=>some (r2,false)) else(bif(a1.kind==3) then(if(0:Int)<=(if(a1.list.length:Int)<a0.n then(a1.list.length:Int) else a0.n)/\(if(a1.list.length:Int)<a0.n then(a1.list.length:Int) else a0.n)<=a1.list.length then(DT N (List.drop (Int.toNat (if(a1.list.length:Int)<a0.n then(a1.list.length:Int) else a0.n)) a1.list)).bind fun r2=>some (r2,false) else none) else((Ar N a0 a1).bind fun r2=>bif r2.2 then(bif(r2.1.kind==6) then(some (r2.1,true)) else((Ce N r2.1.n a1.step).bind fun r3=>
     some (r3,false))) else(bif(r2.1.kind==6) then(some (r2.1,false)) else((Ce N r2.1.n a1.step).bind fun r3=>some (r3,false)))))))
def xOW(a0:Str)(a1:Str):List Arg:=[.val (vT a0),.val (vT a1)]
def xOZ(r:(List Str)):CallO:=(cO (vS .own .str r))
def Ih(N:Nat)(a0:Str)(a1:Str):Option (List Str):=qL a0 a1
def xHB(a0:Str)(a1:Int):List Arg:=[.val (vT a0),.val (.v false [.int .u8 a1])]
def xHC(r:(List Str)):CallO:=(cO (vS .own .str r))
def DV(N:Nat)(a0:Str)(a1:Int):Option ((List Str)):=(Ih N a0 (List.map (fun n=>UInt8.ofNat (Int.toNat n)) [a1])).bind fun r1=>some r1
def xGD(a0:Val)(a1:Str):List Arg:=[.val (vV .ro a0),.val (vT a1)]
def xGE(r:Int):CallO:=(cO (vI r))
def AG(N:Nat)(a0:Val)(a1:Str):Option (Int):=(Fv N a0.columns a1).bind fun r1=>some r1
def xHe(a0:Val)(a1:Val):List Arg:=[.val (vV .ro a0),.val (vV .ro a1)]
def xHh(r:Val×Bool):CallO:=⟨.v true [.int .i64 (Val.kind r.1),.int .i64 (Val.n r.1),.int .i64 (Val.step r.1),.str (Val.text r.1),.sl .ro .val (Val.list r.1),.sl .ro .str (Val.columns r.1),.sl .ro .row (Val.rows r.1)],[],[]⟩
def xHg(r:Val×Bool):CallO:=⟨.v true [.int .i64 (Val.kind r.1),.int .i64 (Val.n r.1),.int .i64 (Val.step r.1),.str (Val.text r.1),.sl .own .val (Val.list r.1),.sl .own .str (Val.columns r.1),.sl .own .row (Val.rows r.1)],[],[]⟩
def Fy(r:Val×Bool):CallO:=bif r.2 then xHh r else xHg r
def DS(N:Nat)(k17:(List Int)->(List Rowd)->Int->Int->Val->Val->Option (Val×Bool)):Nat->(List Int)->(List Rowd)->Int->Int->(List Int)->Int->Int->Val->Val->Rowd->Rowd->Option (Val×Bool)
 |0,_,_,_,_,_,_,_,_,_,_,_=>none
 |n+1,x8,x56,x57,x58,x67,x68,x69,b4,b7,b13,b14=>bif(decide (x69<x68)) then(if(0:Int)<=x69/\x69<x67.length then if(0:Int)<=(x67.getD x69.toNat Di)/\(x67.getD x69.toNat Di)<b13.cells.length then if b14.cells.length+ [(b13.cells.getD (Int.toNat (x67.getD x69.toNat Di)) Di)].length<=Lim then(DS N k17 n x8 x56 x57 x58 x67 x68 (i64.wrap (x69+1)) b4 b7 b13 (Rowd.mk (b14.cells++ [(b13.cells.getD (Int.toNat (x67.getD x69.toNat Di)) Di)]) b14.frm)) else none else none else none) else(if b7.rows.length+ [b14].length<=Lim then(k17 x8 x56 x57 (i64.wrap (x58+1)) b4 (Val.mk b7.kind b7.n b7.step b7.text b7.list b7.columns (b7.rows++ [b14]))) else none)
def By(N:Nat):Nat->(List Int)->(List Rowd)->Int->Int->Val->Val->Option (Val×Bool)
 |0,_,_,_,_,_,_=>none
 |n+1,x8,x56,x57,x58,b4,b7=>bif(decide (x58<x57)) then(if(0:Int)<=x58/\x58<x56.length then if 0+List.length (Rowd.frm (x56.getD x58.toNat Ty.row.dflt))<=Lim then(DS N (fun z0 z1 z2 z3 z4 z5=>(By N n z0 z1 z2 z3 z4 z5)) N x8 x56 x57 x58 x8 (x8.length:Int) 0 b4 b7 (x56.getD x58.toNat Ty.row.dflt) (Rowd.mk [] ([]++(Rowd.frm (x56.getD x58.toNat Ty.row.dflt))))) else none else none) else(some (b7,false))
def Bz(N:Nat):Nat->(List Int)->(List Str)->Int->Int->Val->Val->Val->Option (Val×Bool)
 |0,_,_,_,_,_,_,_=>none
 |n+1,x8,x33,x34,x35,b3,b4,b7=>bif(decide (x35<x34)) then(if(0:Int)<=x35/\x35<x33.length then(AG N b3 (x33.getD x35.toNat Ds)).bind fun r1=>bif(decide (r1<0)) then((yV N 7).bind fun r2=>some (r2,false)) else(if x8.length+ [r1].length<=Lim then(Bz N n (x8++ [r1]) x33 x34 (i64.wrap (x35+1)) b3 b4 b7) else none) else none) else((E7 N b7.columns).bind fun r1=>bif(!r1) then((yV N 7).bind fun r2=>some (r2,false)) else((By N N x8 b3.rows (b3.rows.length:Int) 0 b4 b7)))
def Fx(N:Nat)(a0:Val)(a1:Val):Option (Val×Bool):=(BE N [2,5] [a0.re,a1.re]).bind fun r1=>bif r1.2.2 then(if List.isEmpty r1.1.list=true then if List.isEmpty r1.1.columns=true then if List.isEmpty r1.1.rows=true then bif r1.2.1 then(some ((Val.mk r1.1.kind r1.1.n r1.1.step r1.1.text [] [] []),true)) else((DV N a0.text 32).bind fun r2=>(Bz N N [] r2 (r2.length:Int) 0 a1 (Val.mk 0 0 0 [] [] [] []) (Val.mk 5 0 0 [] [] r2 []))) else none else none else none) else(bif r1.2.1 then(some (r1.1,false)) else((DV N a0.text 32).bind fun r2=>(Bz N N [] r2 (r2.length:Int) 0 a1 (Val.mk 0 0 0 [] [] [] []) (Val.mk 5 0 0 [] [] r2 []))))
def xGF(a0:Val)(a1:Val):List Arg:=[.val (vV .ro a0),.val (vV .ro a1)]
def xGI(r:Val×Bool):CallO:=⟨.v true [.int .i64 (Val.kind r.1),.int .i64 (Val.n r.1),.int .i64 (Val.step r.1),.str (Val.text r.1),.sl .ro .val (Val.list r.1),.sl .ro .str (Val.columns r.1),.sl .ro .row (Val.rows r.1)],[],[]⟩
def xGH(r:Val×Bool):CallO:=⟨.v true [.int .i64 (Val.kind r.1),.int .i64 (Val.n r.1),.int .i64 (Val.step r.1),.str (Val.text r.1),.sl .own .val (Val.list r.1),.sl .own .str (Val.columns r.1),.sl .own .row (Val.rows r.1)],[],[]⟩
def NA(r:Val×Bool):CallO:=bif r.2 then xGI r else xGH r
def Cc(N:Nat):Nat->Int->(List Rowd)->Int->Int->Val->Val->Option (Val×Bool)
 |0,_,_,_,_,_,_=>none
 |n+1,x7,x35,x36,x37,b4,b8=>bif(decide (x37<x36)) then(if(0:Int)<=x37/\x37<x35.length then if(0:Int)<=x7/\x7<(List.length (Rowd.cells (x35.getD x37.toNat Ty.row.dflt))) then(Ae N (List.getD (Rowd.cells (x35.getD x37.toNat Ty.row.dflt)) x7.toNat Di)).bind fun r1=>if b8.list.length+ [r1.re].length<=Lim then(Cc N n x7 x35 x36 (i64.wrap (x37+1)) b4 (Val.mk b8.kind b8.n b8.step b8.text (b8.list++ [r1.re]) b8.columns b8.rows)) else none else none else none) else(some (b8,false))
def E9(N:Nat)(a0:Val)(a1:Val):Option (Val×Bool):=(BE N [2,5] [a0.re,a1.re]).bind fun r1=>bif r1.2.2 then(if List.isEmpty r1.1.list=true then if List.isEmpty r1.1.columns=true then if List.isEmpty r1.1.rows=true then bif r1.2.1 then(some ((Val.mk r1.1.kind r1.1.n r1.1.step r1.1.text [] [] []),true)) else((AG N a1 a0.text).bind fun r2=>bif(decide (r2<0)) then((yV N 7).bind fun r3=>some (r3,false)) else(bif(decide ((a1.rows.length:Int)>8)) then((yV N 6).bind fun r3=>some (r3,false)) else((Cc N N r2 a1.rows (a1.rows.length:Int) 0 (Val.mk 0 0 0 [] [] [] []) (Val.mk 3 0 0 [] [] [] []))))) else none else none else none) else(bif r1.2.1 then(some (r1.1,false)) else((AG N a1 a0.text).bind fun r2=>bif(decide (r2<0)) then((yV N 7).bind fun r3=>some (r3,false)) else(bif(decide ((a1.rows.length:Int)>8)) then((yV N 6).bind fun r3=>some (r3,false)) else((Cc N N r2 a1.rows (a1.rows.length:Int) 0 (Val.mk 0 0 0 [] [] [] []) (Val.mk 3 0 0 [] [] [] []))))))
def xHJ(a0:Val)(a1:Val):List Arg:=[.val (vV .ro a0),.val (vV .ro a1)]
def xHM(r:Val×Bool):CallO:=⟨.v true [.int .i64 (Val.kind r.1),.int .i64 (Val.n r.1),.int .i64 (Val.step r.1),.str (Val.text r.1),.sl .ro .val (Val.list r.1),.sl .ro .str (Val.columns r.1),.sl .ro .row (Val.rows r.1)],[],[]⟩
def xHL(r:Val×Bool):CallO:=⟨.v true [.int .i64 (Val.kind r.1),.int .i64 (Val.n r.1),.int .i64 (Val.step r.1),.str (Val.text r.1),.sl .own .val (Val.list r.1),.sl .own .str (Val.columns r.1),.sl .own .row (Val.rows r.1)],[],[]⟩
def H3(r:Val×Bool):CallO:=bif r.2 then xHM r else xHL r
def Cf(N:Nat)(k8:(List Val)->Int->Int->Val->Val->Option (Val×Bool)):Nat->(List Val)->Int->Int->(List Val)->Int->Int->Val->Val->Rowd->Option (Val×Bool)
 |0,_,_,_,_,_,_,_,_,_=>none
 |n+1,x33,x34,x35,x54,x55,x56,b4,b7,b10=>bif(decide (x56<x55)) then(if(0:Int)<=x56/\x56<x54.length then bif(((Val.kind (x54.getD x56.toNat Dv)):Int) != 1) then((yV N 4).bind fun r1=>some (r1,false)) else(if b10.cells.length+ [(Val.n (x54.getD x56.toNat Dv))].length<=Lim then(Cf N k8 n x33 x34 x35 x54 x55 (i64.wrap (x56+1)) b4 b7 (Rowd.mk (b10.cells++ [(Val.n (x54.getD x56.toNat Dv))]) b10.frm)) else none) else none) else(if b7.rows.length+ [b10].length<=Lim then(k8 x33 x34 (i64.wrap (x35+1)) b4 (Val.mk b7.kind b7.n b7.step b7.text b7.list b7.columns (b7.rows++ [b10]))) else none)
def BN(N:Nat):Nat->(List Val)->Int->Int->Val->Val->Option (Val×Bool)
 |0,_,_,_,_,_=>none
 |n+1,x33,x34,x35,b4,b7=>bif(decide (x35<x34)) then(if(0:Int)<=x35/\x35<x33.length then bif(((Val.kind (x33.getD x35.toNat Dv)):Int) != 3) then((yV N 4).bind fun r1=>some (r1,false)) else(bif(((List.length (Val.list (x33.getD x35.toNat Dv)):Int):Int) != (b7.columns.length:Int)) then((yV N 4).bind fun r1=>some (r1,false)) else((Cf N (fun z0 z1 z2 z3 z4=>(BN N n z0 z1 z2 z3 z4)) N x33 x34 x35 (Val.list (x33.getD x35.toNat Dv)) (List.length (Val.list (x33.getD x35.toNat Dv)):Int) 0 b4 b7 (Rowd.mk [] [])))) else none) else(some (b7,false))
def Fz(N:Nat)(a0:Val)(a1:Val):Option (Val×Bool):=(BE N [2,3] [a0.re,a1.re]).bind fun r1=>bif r1.2.2 then(if List.isEmpty r1.1.list=true then if List.isEmpty r1.1.columns=true then if List.isEmpty r1.1.rows=true then bif r1.2.1 then(some ((Val.mk r1.1.kind r1.1.n r1.1.step r1.1.text [] [] []),true)) else((DV N a0.text 32).bind fun r2=>(GB N r2).bind fun r3=>bif(!r3) then((yV N 7).bind fun r4=>some (r4,false)) else((BN N N a1.list (a1.list.length:Int) 0 (Val.mk 0 0 0 [] [] [] []) (Val.mk 5 0 0 [] [] r2 [])))) else none else none else none) else(bif r1.2.1 then(some (r1.1,false)) else((DV N a0.text 32).bind fun r2=>(GB N r2).bind fun r3=>bif(!r3) then((yV N 7).bind fun r4=>some (r4,false)) else((BN N N a1.list (a1.list.length:Int) 0 (Val.mk 0 0 0 [] [] [] []) (Val.mk 5 0 0 [] [] r2 [])))))
def xHW(a0:Val)(a1:Val)(a2:Val):List Arg:=[.val (vV .ro a0),.val (vV .ro a1),.val (vV .ro a2)]
def xHZ(r:Val×Bool):CallO:=⟨.v true [.int .i64 (Val.kind r.1),.int .i64 (Val.n r.1),.int .i64 (Val.step r.1),.str (Val.text r.1),.sl .ro .val (Val.list r.1),.sl .ro .str (Val.columns r.1),.sl .ro .row (Val.rows r.1)],[],[]⟩
def xHY(r:Val×Bool):CallO:=⟨.v true [.int .i64 (Val.kind r.1),.int .i64 (Val.n r.1),.int .i64 (Val.step r.1),.str (Val.text r.1),.sl .own .val (Val.list r.1),.sl .own .str (Val.columns r.1),.sl .own .row (Val.rows r.1)],[],[]⟩
def NM(r:Val×Bool):CallO:=bif r.2 then xHZ r else xHY r
def Bd(N:Nat):Nat->Int->(List Rowd)->Int->Int->Val->Val->Val->Option (Val×Bool)
 |0,_,_,_,_,_,_,_=>none
 |n+1,x9,x37,x38,x39,b4,b6,b10=>bif(decide (x39<x38)) then(if(0:Int)<=x39/\x39<x37.length then if(0:Int)<=x9/\x9<(List.length (Rowd.cells (x37.getD x39.toNat Ty.row.dflt))) then bif(((List.getD (Rowd.cells (x37.getD x39.toNat Ty.row.dflt)) x9.toNat Di):Int)==b4.n) then((H6 N (x37.getD x39.toNat Ty.row.dflt)).bind fun r1=>if b10.rows.length+ [r1].length<=Lim then(Bd N n x9 x37 x38 (i64.wrap (x39+1)) b4 b6 (Val.mk b10.kind b10.n b10.step b10.text b10.list b10.columns (b10.rows++ [r1]))) else none) else((Bd N n x9 x37 x38 (i64.wrap (x39+1)) b4 b6 b10)) else none else none) else(some (b10,false))
def Ee(N:Nat)(a0:Val)(a1:Val)(a2:Val):Option (Val×Bool):=(BE N [2,1,5] [a0.re,a1.re,a2.re]).bind fun r1=>bif r1.2.2 then(if List.isEmpty r1.1.list=true then if List.isEmpty r1.1.columns=true then if List.isEmpty r1.1.rows=true then bif r1.2.1 then(some ((Val.mk r1.1.kind r1.1.n r1.1.step r1.1.text [] [] []),true)) else((AG N a2 a0.text).bind fun r2=>bif(decide (r2<0)) then((yV N 7).bind fun r3=>some (r3,false)) else(if 0+a2.columns.length<=Lim then(Bd N N r2 a2.rows (a2.rows.length:Int) 0 a1 (Val.mk 0 0 0 [] [] [] []) (Val.mk 5 0 0 [] [] ([]++a2.columns) [])) else none)) else none else none else none) else(bif r1.2.1 then(some (r1.1,false)) else((AG N a2 a0.text).bind fun r2=>bif(decide (r2<0)) then((yV N 7).bind fun r3=>some (r3,false)) else(if 0+a2.columns.length<=Lim then(Bd N N r2 a2.rows (a2.rows.length:Int) 0 a1 (Val.mk 0 0 0 [] [] [] []) (Val.mk 5 0 0 [] [] ([]++a2.columns) [])) else none)))
def NK(a0:List Org)(a1:List Org):List Arg:=[.val (vS .ro .org a0),.val (vS .ro .org a1)]
def NL(r:(List Org)):CallO:=(cO (vS .own .org r))
def H5(N:Nat)(a0 a1:List Org):Option (List Org):=zAt a0 a1
def xGT(a0:Val)(a1:Val)(a2:Val):List Arg:=[.val (vV .ro a0),.val (vV .ro a1),.val (vV .ro a2)]
def xGW(r:Val×Bool):CallO:=⟨.v true [.int .i64 (Val.kind r.1),.int .i64 (Val.n r.1),.int .i64 (Val.step r.1),.str (Val.text r.1),.sl .ro .val (Val.list r.1),.sl .ro .str (Val.columns r.1),.sl .ro .row (Val.rows r.1)],[],[]⟩
def xGV(r:Val×Bool):CallO:=⟨.v true [.int .i64 (Val.kind r.1),.int .i64 (Val.n r.1),.int .i64 (Val.step r.1),.str (Val.text r.1),.sl .own .val (Val.list r.1),.sl .own .str (Val.columns r.1),.sl .own .row (Val.rows r.1)],[],[]⟩
def JZ(r:Val×Bool):CallO:=bif r.2 then xGW r else xGV r
def HQ(N:Nat)(x9:Int)(x10:Int)(b3:Val)(b4:Val)(b5:Val)(b6:Val):Option (Val×Bool):=zAj x9 x10 b3 b4 b5
def Cd(N:Nat)(a0:Val)(a1:Val)(a2:Val):Option (Val×Bool):=(BE N [2,2,5] [a0.re,a1.re,a2.re]).bind fun r1=>bif r1.2.2 then(if List.isEmpty r1.1.list=true then if List.isEmpty r1.1.columns=true then if List.isEmpty r1.1.rows=true then bif r1.2.1 then(some ((Val.mk r1.1.kind r1.1.n r1.1.step r1.1.text [] [] []),true)) else((AG N a2 a0.text).bind fun r2=>(AG N a2 a1.text).bind fun r3=>bif(decide (r2<0)) then((yV N 7).bind fun r4=>some (r4,false)) else(bif(decide (r3<0)) then((yV N 7).bind fun r4=>some (r4,false)) else(bif((a0.text:Str)==a1.text) then((yV N 7).bind fun r4=>some (r4,false)) else((HQ N r2 r3 a0 a1 a2 (Val.mk 0 0 0 [] [] [] [])))))) else none else none else none) else(bif r1.2.1 then(some (r1.1,false)) else((AG N a2 a0.text).bind fun r2=>(AG N a2 a1.text).bind fun r3=>bif(decide (r2<0)) then((yV N 7).bind fun r4=>some (r4,false)) else(bif(decide (r3<0)) then((yV N 7).bind fun r4=>some (r4,false)) else(bif((a0.text:Str)==a1.text) then((yV N 7).bind fun r4=>some (r4,false)) else((HQ N r2 r3 a0 a1 a2 (Val.mk 0 0 0 [] [] [] [])))))))
def xH0(a0:List Str)(a1:List Str):List Arg:=[.val (vS .ro .str a0),.val (vS .ro .str a1)]
def NO(r:(List Str)):CallO:=(cO (vS .own .str r))
def Cg(N:Nat):Nat->(List Str)->(List Str)->(List Str)->Int->Int->Option ((List Str))
 |0,_,_,_,_,_=>none
 |n+1,x1,x5,x9,x10,x11=>bif(decide (x11<x10)) then(if(0:Int)<=x11/\x11<x9.length then(Fv N x1 (x9.getD x11.toNat Ds)).bind fun r1=>bif(decide (r1<0)) then(if x5.length+ [(x9.getD x11.toNat Ds)].length<=Lim then(Cg N n x1 (x5++ [(x9.getD x11.toNat Ds)]) x9 x10 (i64.wrap (x11+1))) else none) else((Cg N n x1 x5 x9 x10 (i64.wrap (x11+1)))) else none) else(some x5)
def GA(N:Nat)(a0:List Str)(a1:List Str):Option ((List Str)):=(Cg N N a1 [] a0 (a0.length:Int) 0)
def xHa(a0:Val)(a1:Val)(a2:Val):List Arg:=[.val (vV .ro a0),.val (vV .ro a1),.val (vV .ro a2)]
def xHd(r:Val×Bool):CallO:=⟨.v true [.int .i64 (Val.kind r.1),.int .i64 (Val.n r.1),.int .i64 (Val.step r.1),.str (Val.text r.1),.sl .ro .val (Val.list r.1),.sl .ro .str (Val.columns r.1),.sl .ro .row (Val.rows r.1)],[],[]⟩
def xHc(r:Val×Bool):CallO:=⟨.v true [.int .i64 (Val.kind r.1),.int .i64 (Val.n r.1),.int .i64 (Val.step r.1),.str (Val.text r.1),.sl .own .val (Val.list r.1),.sl .own .str (Val.columns r.1),.sl .own .row (Val.rows r.1)],[],[]⟩
def HV(r:Val×Bool):CallO:=bif r.2 then xHd r else xHc r
def DR(N:Nat)(k13:Int->Int->(List Rowd)->Int->Int->Val->Val->Val->Option (Val×Bool)):Nat->Int->Int->(List Rowd)->Int->Int->(List Rowd)->Int->Int->Val->Val->Val->Rowd->Option (Val×Bool)
 |0,_,_,_,_,_,_,_,_,_,_,_,_=>none
 |n+1,x9,x10,x69,x70,x71,x76,x77,x78,b5,b6,b12,b14=>bif(decide (x78<x77)) then(if(0:Int)<=x78/\x78<x76.length then if(0:Int)<=x9/\x9<b14.cells.length then if(0:Int)<=x10/\x10<(List.length (Rowd.cells (x76.getD x78.toNat Ty.row.dflt))) then bif((b14.cells.getD x9.toNat Di) != (List.getD (Rowd.cells (x76.getD x78.toNat Ty.row.dflt)) x10.toNat Di)) then((DR N k13 n x9 x10 x69 x70 x71 x76 x77 (i64.wrap (x78+1)) b5 b6 b12 b14)) else(if 0+b14.cells.length<=Lim then if(0:Int)<=x10/\x10<=(List.length (Rowd.cells (x76.getD x78.toNat Ty.row.dflt))) then if List.length ([]++b14.cells)+List.length (List.take x10.toNat (Rowd.cells (x76.getD x78.toNat Ty.row.dflt)))<=Lim then if(0:Int)<=(i64.wrap (x10+1))/\(i64.wrap (x10+1))<=(List.length (Rowd.cells (x76.getD x78.toNat Ty.row.dflt))) then if List.length (([]++b14.cells)++(List.take x10.toNat (Rowd.cells (x76.getD x78.toNat Ty.row.dflt))))+List.length (List.drop (Int.toNat (i64.wrap (x10+1))) (Rowd.cells (x76.getD x78.toNat Ty.row.dflt)))<=Lim then(H5 N b14.frm (Rowd.frm (x76.getD x78.toNat Ty.row.dflt))).bind fun r1=>if b12.rows.length+List.length [(Rowd.mk ((([]++b14.cells)++(List.take x10.toNat (Rowd.cells (x76.getD x78.toNat Ty.row.dflt))))++(List.drop (Int.toNat (i64.wrap (x10+1))) (Rowd.cells (x76.getD x78.toNat Ty.row.dflt)))) r1)]<=Lim then(DR N k13 n x9 x10 x69 x70 x71 x76 x77 (i64.wrap (x78+1)) b5 b6 (Val.mk b12.kind b12.n b12.step b12.text b12.list b12.columns (b12.rows++ [(Rowd.mk ((([]++b14.cells)++(List.take x10.toNat (Rowd.cells (x76.getD x78.toNat Ty.row.dflt))))++(List.drop (Int.toNat (i64.wrap (x10+1))) (Rowd.cells (x76.getD x78.toNat Ty.row.dflt)))) r1)])) b14)
    else none else none else none else none else none else none) else none else none else none) else((k13 x9 x10 x69 x70 (i64.wrap (x71+1)) b5 b6 b12))
def Bx(N:Nat):Nat->Int->Int->(List Rowd)->Int->Int->Val->Val->Val->Option (Val×Bool)
 |0,_,_,_,_,_,_,_,_=>none
 |n+1,x9,x10,x69,x70,x71,b5,b6,b12=>bif(decide (x71<x70)) then(if(0:Int)<=x71/\x71<x69.length then(DR N (fun z0 z1 z2 z3 z4 z5 z6 z7=>(Bx N n z0 z1 z2 z3 z4 z5 z6 z7)) N x9 x10 x69 x70 x71 b5.rows (b5.rows.length:Int) 0 b5 b6 b12 (x69.getD x71.toNat Ty.row.dflt)) else none) else(bif(decide ((b12.rows.length:Int)>12)) then((yV N 6).bind fun r1=>some (r1,false)) else(some (b12,false)))
def DQ(N:Nat)(a0:Val)(a1:Val)(a2:Val):Option (Val×Bool):=(BE N [2,5,5] [a0.re,a1.re,a2.re]).bind fun r1=>bif r1.2.2 then(if List.isEmpty r1.1.list=true then if List.isEmpty r1.1.columns=true then if List.isEmpty r1.1.rows=true then bif r1.2.1 then(some ((Val.mk r1.1.kind r1.1.n r1.1.step r1.1.text [] [] []),true)) else((AG N a1 a0.text).bind fun r2=>(AG N a2 a0.text).bind fun r3=>(GA N a2.columns [a0.text]).bind fun r4=>if 0+a1.columns.length<=Lim then if List.length ([]++a1.columns)+r4.length<=Lim then bif(decide (r2<0)) then((yV N 7).bind fun r5=>some (r5,false)) else(bif(decide (r3<0)) then((yV N 7).bind fun r5=>some (r5,false)) else((E7 N (([]++a1.columns)++r4)).bind fun r5=>bif(!r5) then((yV N 7).bind fun r6=>some (r6,false)) else(bif(decide (((List.length (([]++a1.columns)++r4):Int):Int)>4)) then((yV N 6).bind fun r6=>some (r6,false)) else((Bx N N r2 r3 a1.rows (a1.rows.length:Int) 0 a2 (Val.mk 0 0 0 [] [] [] []) (Val.mk 5 0 0 [] [] (([]++a1.columns)++r4) [])))))) else none else none) else none else none else none) else(bif r1.2.1 then(some (r1.1,false)) else((AG N a1 a0.text).bind fun r2=>(AG N a2 a0.text).bind fun r3=>(GA N a2.columns [a0.text]).bind fun r4=>if 0+a1.columns.length<=Lim then if List.length ([]++a1.columns)+r4.length<=Lim then bif(decide (r2<0)) then((yV N 7).bind fun r5=>some (r5,false)) else(bif(decide (r3<0)) then((yV N 7).bind fun r5=>
     some (r5,false)) else((E7 N (([]++a1.columns)++r4)).bind fun r5=>bif(!r5) then((yV N 7).bind fun r6=>some (r6,false)) else(bif(decide (((List.length (([]++a1.columns)++r4):Int):Int)>4)) then((yV N 6).bind fun r6=>some (r6,false)) else((Bx N N r2 r3 a1.rows (a1.rows.length:Int) 0 a2 (Val.mk 0 0 0 [] [] [] []) (Val.mk 5 0 0 [] [] (([]++a1.columns)++r4) [])))))) else none else none))
def xGp(a0:Val)(a1:Val)(a2:Val)(a3:Val):List Arg:=[.val (vV .ro a0),.val (vV .ro a1),.val (vV .ro a2),.val (vV .ro a3)]
def xGs(r:Val×Bool):CallO:=⟨.v true [.int .i64 (Val.kind r.1),.int .i64 (Val.n r.1),.int .i64 (Val.step r.1),.str (Val.text r.1),.sl .ro .val (Val.list r.1),.sl .ro .str (Val.columns r.1),.sl .ro .row (Val.rows r.1)],[],[]⟩
def xGr(r:Val×Bool):CallO:=⟨.v true [.int .i64 (Val.kind r.1),.int .i64 (Val.n r.1),.int .i64 (Val.step r.1),.str (Val.text r.1),.sl .own .val (Val.list r.1),.sl .own .str (Val.columns r.1),.sl .own .row (Val.rows r.1)],[],[]⟩
def Mw(r:Val×Bool):CallO:=bif r.2 then xGs r else xGr r
def Bv(N:Nat):Nat->Int->Int->(List Rowd)->Int->Int->Val->Val->Option (Val×Bool)
 |0,_,_,_,_,_,_,_=>none
 |n+1,x11,x12,x72,x73,x74,b8,b13=>bif(decide (x74<x73)) then(if(0:Int)<=x74/\x74<x72.length then if(0:Int)<=x11/\x11<(List.length (Rowd.cells (x72.getD x74.toNat Ty.row.dflt))) then if(0:Int)<=x12/\x12<(List.length (Rowd.cells (x72.getD x74.toNat Ty.row.dflt))) then(Be N (i64.wrap ((List.getD (Rowd.cells (x72.getD x74.toNat Ty.row.dflt)) x11.toNat Di)+(List.getD (Rowd.cells (x72.getD x74.toNat Ty.row.dflt)) x12.toNat Di)))).bind fun r1=>bif(!r1) then((yV N 5).bind fun r2=>some (r2,false)) else(if(0:Int)<=x74/\x74<b13.rows.length then if List.length (Rowd.cells (b13.rows.getD x74.toNat Ty.row.dflt))+ [(i64.wrap ((List.getD (Rowd.cells (x72.getD x74.toNat Ty.row.dflt)) x11.toNat Di)+(List.getD (Rowd.cells (x72.getD x74.toNat Ty.row.dflt)) x12.toNat Di)))].length<=Lim then(Bv N n x11 x12 x72 x73 (i64.wrap (x74+1)) b8 (Val.mk b13.kind b13.n b13.step b13.text b13.list b13.columns (b13.rows.set x74.toNat (Rowd.mk ((Rowd.cells (b13.rows.getD x74.toNat Ty.row.dflt))++ [(i64.wrap ((List.getD (Rowd.cells (x72.getD x74.toNat Ty.row.dflt)) x11.toNat Di)+(List.getD (Rowd.cells (x72.getD x74.toNat Ty.row.dflt)) x12.toNat Di)))]) (Rowd.frm (b13.rows.getD x74.toNat Ty.row.dflt)))))) else none else none) else none else none else none) else(some (b13,false))
def Ba(N:Nat)(a0:Val)(a1:Val)(a2:Val)(a3:Val):Option (Val×Bool):=(BE N [2,2,2,5] [a0.re,a1.re,a2.re,a3.re]).bind fun r1=>bif r1.2.2 then(if List.isEmpty r1.1.list=true then if List.isEmpty r1.1.columns=true then if List.isEmpty r1.1.rows=true then bif r1.2.1 then(some ((Val.mk r1.1.kind r1.1.n r1.1.step r1.1.text [] [] []),true)) else((AG N a3 a1.text).bind fun r2=>(AG N a3 a2.text).bind fun r3=>(Eb N a0.text).bind fun r4=>bif(!r4) then((yV N 7).bind fun r5=>some (r5,false)) else((AG N a3 a0.text).bind fun r5=>bif(decide (r5>=0)) then((yV N 7).bind fun r6=>some (r6,false)) else(bif(decide (r2<0)) then((yV N 7).bind fun r6=>some (r6,false)) else(bif(decide (r3<0)) then((yV N 7).bind fun r6=>some (r6,false)) else(bif(decide ((a3.columns.length:Int)>=4)) then((yV N 6).bind fun r6=>some (r6,false)) else((DX N a3).bind fun r6=>if r6.columns.length+ [a0.text].length<=Lim then(Bv N N r2 r3 a3.rows (a3.rows.length:Int) 0 (Val.mk 0 0 0 [] [] [] []) (Val.mk r6.kind r6.n r6.step r6.text r6.list (r6.columns++ [a0.text]) r6.rows)) else none)))))) else none else none else none) else(bif r1.2.1 then(some (r1.1,false)) else((AG N a3 a1.text).bind fun r2=>(AG N a3 a2.text).bind fun r3=>(Eb N a0.text).bind fun r4=>bif(!r4) then((yV N 7).bind fun r5=>some (r5,false)) else((AG N a3 a0.text).bind fun r5=>
     bif(decide (r5>=0)) then((yV N 7).bind fun r6=>some (r6,false)) else(bif(decide (r2<0)) then((yV N 7).bind fun r6=>some (r6,false)) else(bif(decide (r3<0)) then((yV N 7).bind fun r6=>some (r6,false)) else(bif(decide ((a3.columns.length:Int)>=4)) then((yV N 6).bind fun r6=>some (r6,false)) else((DX N a3).bind fun r6=>if r6.columns.length+ [a0.text].length<=Lim then(Bv N N r2 r3 a3.rows (a3.rows.length:Int) 0 (Val.mk 0 0 0 [] [] [] []) (Val.mk r6.kind r6.n r6.step r6.text r6.list (r6.columns++ [a0.text]) r6.rows)) else none)))))))
def xGx(a0:Str)(a1:List Val):List Arg:=[.val (vT a0),.val (vS .ro .val a1)]
def JW(r:Val×Bool):CallO:=⟨.v true [.int .i64 (Val.kind r.1),.int .i64 (Val.n r.1),.int .i64 (Val.step r.1),.str (Val.text r.1),.sl .ro .val (Val.list r.1),.sl .ro .str (Val.columns r.1),.sl .ro .row (Val.rows r.1)],[],[]⟩
def xGz(r:Val×Bool):CallO:=⟨.v true [.int .i64 (Val.kind r.1),.int .i64 (Val.n r.1),.int .i64 (Val.step r.1),.str (Val.text r.1),.sl .own .val (Val.list r.1),.sl .own .str (Val.columns r.1),.sl .own .row (Val.rows r.1)],[],[]⟩
def xGy(r:Val×Bool):CallO:=⟨.v true [.int .i64 (Val.kind r.1),.int .i64 (Val.n r.1),.int .i64 (Val.step r.1),.str (Val.text r.1),.sl .ro .val [],.sl .ro .str [],.sl .ro .row []],[],[]⟩
def HN(r:Val×Bool):CallO:=bif r.2 then JW r else xGz r
def BV(N:Nat)(a0:Str)(a1:List Val):Option (Val×Bool):=(Hc N a0).bind fun r1=>bif r1 then((yV N 4).bind fun r2=>some (r2,false)) else((E8 N a0).bind fun r2=>bif((a1.length:Int) != r2) then((yV N 4).bind fun r3=>some (r3,false)) else(bif((a0:Str)== [108,101,110]) then(if(0:Int)<=0/\(0:Int)<a1.length then(HW N (a1.getD (Int.toNat 0) Dv)).bind fun r3=>bif r3.2 then(some (r3.1,true)) else(some (r3.1,false)) else none) else(bif((a0:Str)== [115,117,109]) then(if(0:Int)<=0/\(0:Int)<a1.length then(H1 N (a1.getD (Int.toNat 0) Dv)).bind fun r3=>bif r3.2 then(some (r3.1,true)) else(some (r3.1,false)) else none) else(bif((a0:Str)== [114,111,119,115]) then(if(0:Int)<=0/\(0:Int)<a1.length then(HO N (a1.getD (Int.toNat 0) Dv)).bind fun r3=>bif r3.2 then(some (r3.1,true)) else(some (r3.1,false)) else none) else(bif((a0:Str)== [116,97,107,101]) then(if(0:Int)<=0/\(0:Int)<a1.length then if(0:Int)<=1/\(1:Int)<a1.length then(DW N (a1.getD (Int.toNat 0) Dv) (a1.getD (Int.toNat 1) Dv)).bind fun r3=>bif r3.2 then(some (r3.1,true)) else(some (r3.1,false)) else none else none) else(bif((a0:Str)== [115,107,105,112]) then(if(0:Int)<=0/\(0:Int)<a1.length then if(0:Int)<=1/\(1:Int)<a1.length then(DU N (a1.getD (Int.toNat 0) Dv) (a1.getD (Int.toNat 1) Dv)).bind fun r3=>bif r3.2 then(some (r3.1,true)) else(some (r3.1,false)) else none else none) else(bif((a0:Str)== [110,116,104]) then(if(0:Int)<=0/\(0:Int)<a1.length then if(0:Int)<=1/\(1:Int)<a1.length then
     (Ar N (a1.getD (Int.toNat 0) Dv) (a1.getD (Int.toNat 1) Dv)).bind fun r3=>bif r3.2 then(some (r3.1,true)) else(some (r3.1,false)) else none else none) else(bif((a0:Str)== [107,101,101,112]) then(if(0:Int)<=0/\(0:Int)<a1.length then if(0:Int)<=1/\(1:Int)<a1.length then(Fx N (a1.getD (Int.toNat 0) Dv) (a1.getD (Int.toNat 1) Dv)).bind fun r3=>bif r3.2 then(some (r3.1,true)) else(some (r3.1,false)) else none else none) else(bif((a0:Str)== [99,111,108,117,109,110]) then(if(0:Int)<=0/\(0:Int)<a1.length then if(0:Int)<=1/\(1:Int)<a1.length then(E9 N (a1.getD (Int.toNat 0) Dv) (a1.getD (Int.toNat 1) Dv)).bind fun r3=>bif r3.2 then(some (r3.1,true)) else(some (r3.1,false)) else none else none) else(bif((a0:Str)== [116,97,98,108,101]) then(if(0:Int)<=0/\(0:Int)<a1.length then if(0:Int)<=1/\(1:Int)<a1.length then(Fz N (a1.getD (Int.toNat 0) Dv) (a1.getD (Int.toNat 1) Dv)).bind fun r3=>bif r3.2 then(some (r3.1,true)) else(some (r3.1,false)) else none else none) else(bif((a0:Str)== [119,104,101,114,101]) then(if(0:Int)<=0/\(0:Int)<a1.length then if(0:Int)<=1/\(1:Int)<a1.length then if(0:Int)<=2/\(2:Int)<a1.length then(Ee N (a1.getD (Int.toNat 0) Dv) (a1.getD (Int.toNat 1) Dv) (a1.getD (Int.toNat 2) Dv)).bind fun r3=>bif r3.2 then(some (r3.1,true)) else(some (r3.1,false)) else none else none else none) else(bif((a0:Str)== [103,114,111,117,112]) then(if(0:Int)<=0/\(0:Int)<a1.length then if(0:Int)<=1/\(1:Int)<a1.length then if(0:Int)<=2/\(2:Int)<a1.length then
       (Cd N (a1.getD (Int.toNat 0) Dv) (a1.getD (Int.toNat 1) Dv) (a1.getD (Int.toNat 2) Dv)).bind fun r3=>bif r3.2 then(some (r3.1,true)) else(some (r3.1,false)) else none else none else none) else(bif((a0:Str)== [106,111,105,110]) then(if(0:Int)<=0/\(0:Int)<a1.length then if(0:Int)<=1/\(1:Int)<a1.length then if(0:Int)<=2/\(2:Int)<a1.length then(DQ N (a1.getD (Int.toNat 0) Dv) (a1.getD (Int.toNat 1) Dv) (a1.getD (Int.toNat 2) Dv)).bind fun r3=>bif r3.2 then(some (r3.1,true)) else(some (r3.1,false)) else none else none else none) else(bif((a0:Str)== [97,100,100]) then(if(0:Int)<=0/\(0:Int)<a1.length then if(0:Int)<=1/\(1:Int)<a1.length then if(0:Int)<=2/\(2:Int)<a1.length then if(0:Int)<=3/\(3:Int)<a1.length then(Ba N (a1.getD (Int.toNat 0) Dv) (a1.getD (Int.toNat 1) Dv) (a1.getD (Int.toNat 2) Dv) (a1.getD (Int.toNat 3) Dv)).bind fun r3=>bif r3.2 then(some (r3.1,true)) else(some (r3.1,false)) else none else none else none else none) else((BE N [1,1] a1).bind fun r3=>bif r3.2.2 then(if List.isEmpty r3.1.list=true then if List.isEmpty r3.1.columns=true then if List.isEmpty r3.1.rows=true then bif r3.2.1 then(some ((Val.mk r3.1.kind r3.1.n r3.1.step r3.1.text [] [] []),true)) else(if(0:Int)<=0/\(0:Int)<a1.length then if(0:Int)<=1/\(1:Int)<a1.length then(Ce N (Val.n (a1.getD (Int.toNat 0) Dv)) (Val.n (a1.getD (Int.toNat 1) Dv))).bind fun r4=>some (r4,false) else none else none) else none else none else none) else(bif r3.2.1 then(
         some (r3.1,false)) else(if(0:Int)<=0/\(0:Int)<a1.length then if(0:Int)<=1/\(1:Int)<a1.length then(Ce N (Val.n (a1.getD (Int.toNat 0) Dv)) (Val.n (a1.getD (Int.toNat 1) Dv))).bind fun r4=>some (r4,false) else none else none)))))))))))))))))
def xJC(a0:Int):List Arg:=[.val (vI a0)]
def Nj(r:Str):CallO:=(cO (vT r))
def Jp(N:Nat):Nat->Int->Str->Option (Str)
 |0,_,_=>none
 |n+1,x0,x3=>bif(decide (x0>0)) then(if List.length (List.map (fun n=>UInt8.ofNat (Int.toNat n)) [(IntKind.u8.wrap ((i64.wrap (48+(Int.tmod x0 10)))))])+x3.length<=Lim then(Jp N n (i64.wrap (Int.tdiv x0 10)) ((List.map (fun n=>UInt8.ofNat (Int.toNat n)) [(IntKind.u8.wrap ((i64.wrap (48+(Int.tmod x0 10)))))])++x3)) else none) else(if [109].length+x3.length<=Lim then some ([109]++x3) else none)
def Jo(N:Nat)(a0:Int):Option (Str):=bif(decide (a0<=0)) then(some [109,48]) else((Jp N N a0 []))
def xJA(a0:List Str)(a1:Int):List Arg:=[.val (vS (.lnt 0) .str a0),.val (vI a1)]
def Nh(r:Int×(List Str)):CallO:=⟨(vI r.1),[],[.sl (.lnt 0) .str r.2]⟩
def Jn(N:Nat):Nat->(List Str)->Int->Int->Option (Int×(List Str))
 |0,_,_,_=>none
 |n+1,x0,x1,x5=>bif(decide (x5<(x0.length:Int))) then((Jo N x1).bind fun r1=>if(0:Int)<=x5/\x5<x0.length then(Jn N n (x0.set x5.toNat r1) (i64.wrap (x1+1)) (i64.wrap (x5+1))) else none) else(some (x1,x0))
def Ng(N:Nat)(a0:List Str)(a1:Int):Option (Int×(List Str)):=(Jn N N a0 a1 0)
def xJu(a0:List Int)(a1:Int):List Arg:=[.val (vS (.lnt 0) .int a0),.val (vI a1)]
def Na(r:Int×(List Int)):CallO:=⟨(vI r.1),[],[.sl (.lnt 0) .int r.2]⟩
def Jk(N:Nat):Nat->(List Int)->Int->Int->Option (Int×(List Int))
 |0,_,_,_=>none
 |n+1,x0,x1,x5=>bif(decide (x5<(x0.length:Int))) then(if(0:Int)<=x5/\x5<x0.length then(Jk N n (x0.set x5.toNat x1) (i64.wrap (x1+1)) (i64.wrap (x5+1))) else none) else(some (x1,x0))
def N9(N:Nat)(a0:List Int)(a1:Int):Option (Int×(List Int)):=(Jk N N a0 a1 0)
def xJw(a0:List Org)(a1:Int):List Arg:=[.val (vS (.lnt 0) .org a0),.val (vI a1)]
def Nc(r:Int×(List Org)):CallO:=⟨(vI r.1),[],[.sl (.lnt 0) .org r.2]⟩
def Jl(N:Nat):Nat->(List Org)->Int->Int->Option (Int×(List Org))
 |0,_,_,_=>none
 |n+1,x0,x1,x5=>bif(decide (x5<(x0.length:Int))) then(if(0:Int)<=x5/\x5<x0.length then if(0:Int)<=x5/\x5<(List.length (x0.set x5.toNat (Org.mk x1 (Org.row (x0.getD x5.toNat Do))))) then(Jl N n ((fun(z1:List Org)=>z1.set x5.toNat (Org.mk (Org.cell (z1.getD x5.toNat Do)) (i64.wrap (x1+1)))) (x0.set x5.toNat (Org.mk x1 (Org.row (x0.getD x5.toNat Do))))) (i64.wrap ((i64.wrap (x1+1))+1)) (i64.wrap (x5+1))) else none else none) else(some (x1,x0))
def Nb(N:Nat)(a0:List Org)(a1:Int):Option (Int×(List Org)):=(Jl N N a0 a1 0)
def xJy(a0:List Rowd)(a1:Int):List Arg:=[.val (vS (.lnt 0) .row a0),.val (vI a1)]
def Nf(r:Int×(List Rowd)):CallO:=⟨(vI r.1),[],[.sl (.lnt 0) .row r.2]⟩
def Jm(N:Nat):Nat->(List Rowd)->Int->Int->Option (Int×(List Rowd))
 |0,_,_,_=>none
 |n+1,x0,x1,x5=>bif(decide (x5<(x0.length:Int))) then(if(0:Int)<=x5/\x5<x0.length then(N9 N (Rowd.cells (x0.getD x5.toNat Ty.row.dflt)) x1).bind fun r1=>if r1.2.length=List.length (Rowd.cells (x0.getD x5.toNat Ty.row.dflt)) then if(0:Int)<=x5/\x5<(List.length (x0.set x5.toNat (Rowd.mk r1.2 (Rowd.frm (x0.getD x5.toNat Ty.row.dflt))))) then(Nb N (Rowd.frm (List.getD (x0.set x5.toNat (Rowd.mk r1.2 (Rowd.frm (x0.getD x5.toNat Ty.row.dflt)))) x5.toNat Ty.row.dflt)) r1.1).bind fun r2=>if r2.2.length=List.length (Rowd.frm (List.getD (x0.set x5.toNat (Rowd.mk r1.2 (Rowd.frm (x0.getD x5.toNat Ty.row.dflt)))) x5.toNat Ty.row.dflt)) then(Jm N n ((fun(z1:List Rowd)=>z1.set x5.toNat (Rowd.mk (Rowd.cells (z1.getD x5.toNat Ty.row.dflt)) r2.2)) (x0.set x5.toNat (Rowd.mk r1.2 (Rowd.frm (x0.getD x5.toNat Ty.row.dflt))))) r2.1 (i64.wrap (x5+1))) else none else none else none else none) else(some (x1,x0))
def Nd(N:Nat)(a0:List Rowd)(a1:Int):Option (Int×(List Rowd)):=(Jm N N a0 a1 0)
def Nk(a0:List Val)(a1:Int):List Arg:=[.val (vS (.lnt 0) .val a0),.val (vI a1)]
def Jr(r:Int×(List Val)):CallO:=⟨(vI r.1),[],[.sl (.lnt 0) .val r.2]⟩
def Jq(N:Nat)(q0:(List Val)->Int->Option (Int×(List Val))):Nat->(List Val)->Int->Int->Option (Int×(List Val))
 |0,_,_,_=>none
 |n+1,x0,x1,x5=>bif(decide (x5<(x0.length:Int))) then(if(0:Int)<=x5/\x5<x0.length then if(0:Int)<=x5/\x5<(List.length (x0.set x5.toNat (Val.mk x1 (Val.n (x0.getD x5.toNat Dv)) (Val.step (x0.getD x5.toNat Dv)) (Val.text (x0.getD x5.toNat Dv)) (Val.list (x0.getD x5.toNat Dv)) (Val.columns (x0.getD x5.toNat Dv)) (Val.rows (x0.getD x5.toNat Dv))))) then if(0:Int)<=x5/\x5<(List.length ((fun(z40:List Val)=>z40.set x5.toNat (Val.mk (Val.kind (z40.getD x5.toNat Dv)) (i64.wrap (x1+1)) (Val.step (z40.getD x5.toNat Dv)) (Val.text (z40.getD x5.toNat Dv)) (Val.list (z40.getD x5.toNat Dv)) (Val.columns (z40.getD x5.toNat Dv)) (Val.rows (z40.getD x5.toNat Dv)))) (x0.set x5.toNat (Val.mk x1 (Val.n (x0.getD x5.toNat Dv)) (Val.step (x0.getD x5.toNat Dv)) (Val.text (x0.getD x5.toNat Dv)) (Val.list (x0.getD x5.toNat Dv)) (Val.columns (x0.getD x5.toNat Dv)) (Val.rows (x0.getD x5.toNat Dv)))))) then(Jo N (i64.wrap ((i64.wrap ((i64.wrap (x1+1))+1))+1))).bind fun r1=>if(0:Int)<=x5/\x5<(List.length ((fun(z41:List Val)=>z41.set x5.toNat (Val.mk (Val.kind (z41.getD x5.toNat Dv)) (Val.n (z41.getD x5.toNat Dv)) (i64.wrap ((i64.wrap (x1+1))+1)) (Val.text (z41.getD x5.toNat Dv)) (Val.list (z41.getD x5.toNat Dv)) (Val.columns (z41.getD x5.toNat Dv)) (Val.rows (z41.getD x5.toNat Dv)))) ((fun(z40:List Val)=>z40.set x5.toNat (Val.mk (Val.kind (z40.getD x5.toNat Dv)) (i64.wrap (x1+1)) (Val.step (z40.getD x5.toNat Dv)) (Val.text (z40.getD x5.toNat Dv)) (Val.list (z40.getD x5.toNat Dv)) (Val.columns (z40.getD x5.toNat Dv)) (Val.rows (z40.getD x5.toNat Dv)))) (x0.set x5.toNat (Val.mk x1 (Val.n (x0.getD x5.toNat Dv)) (Val.step (x0.getD x5.toNat Dv)) (Val.text (x0.getD x5.toNat Dv)) (Val.list (x0.getD x5.toNat Dv)) (Val.columns (x0.getD x5.toNat Dv)) (Val.rows (x0.getD x5.toNat Dv))))))) then
   if(0:Int)<=x5/\x5<(List.length ((fun(z42:List Val)=>z42.set x5.toNat (Val.mk (Val.kind (z42.getD x5.toNat Dv)) (Val.n (z42.getD x5.toNat Dv)) (Val.step (z42.getD x5.toNat Dv)) r1 (Val.list (z42.getD x5.toNat Dv)) (Val.columns (z42.getD x5.toNat Dv)) (Val.rows (z42.getD x5.toNat Dv)))) ((fun(z41:List Val)=>z41.set x5.toNat (Val.mk (Val.kind (z41.getD x5.toNat Dv)) (Val.n (z41.getD x5.toNat Dv)) (i64.wrap ((i64.wrap (x1+1))+1)) (Val.text (z41.getD x5.toNat Dv)) (Val.list (z41.getD x5.toNat Dv)) (Val.columns (z41.getD x5.toNat Dv)) (Val.rows (z41.getD x5.toNat Dv)))) ((fun(z40:List Val)=>z40.set x5.toNat (Val.mk (Val.kind (z40.getD x5.toNat Dv)) (i64.wrap (x1+1)) (Val.step (z40.getD x5.toNat Dv)) (Val.text (z40.getD x5.toNat Dv)) (Val.list (z40.getD x5.toNat Dv)) (Val.columns (z40.getD x5.toNat Dv)) (Val.rows (z40.getD x5.toNat Dv)))) (x0.set x5.toNat (Val.mk x1 (Val.n (x0.getD x5.toNat Dv)) (Val.step (x0.getD x5.toNat Dv)) (Val.text (x0.getD x5.toNat Dv)) (Val.list (x0.getD x5.toNat Dv)) (Val.columns (x0.getD x5.toNat Dv)) (Val.rows (x0.getD x5.toNat Dv)))))))) then(q0 (Val.list (List.getD ((fun(z42:List Val)=>z42.set x5.toNat (Val.mk (Val.kind (z42.getD x5.toNat Dv)) (Val.n (z42.getD x5.toNat Dv)) (Val.step (z42.getD x5.toNat Dv)) r1 (Val.list (z42.getD x5.toNat Dv)) (Val.columns (z42.getD x5.toNat Dv)) (Val.rows (z42.getD x5.toNat Dv)))) ((fun(z41:List Val)=>z41.set x5.toNat (Val.mk (Val.kind (z41.getD x5.toNat Dv)) (Val.n (z41.getD x5.toNat Dv)) (i64.wrap ((i64.wrap (x1+1))+1)) (Val.text (z41.getD x5.toNat Dv)) (Val.list (z41.getD x5.toNat Dv)) (Val.columns (z41.getD x5.toNat Dv)) (Val.rows (z41.getD x5.toNat Dv)))) ((fun(z40:List Val)=>z40.set x5.toNat (Val.mk (Val.kind (z40.getD x5.toNat Dv)) (i64.wrap (x1+1)) (Val.step (z40.getD x5.toNat Dv)) (Val.text (z40.getD x5.toNat Dv)) (Val.list (z40.getD x5.toNat Dv)) (Val.columns (z40.getD x5.toNat Dv)) (Val.rows (z40.getD x5.toNat Dv)))) (x0.set x5.toNat (Val.mk x1 (Val.n (x0.getD x5.toNat Dv)) (Val.step (x0.getD x5.toNat Dv)) (Val.text (x0.getD x5.toNat Dv)) (Val.list (x0.getD x5.toNat Dv)) (Val.columns (x0.getD x5.toNat Dv)) (Val.rows (x0.getD x5.toNat Dv))))))) x5.toNat Dv)) (i64.wrap ((i64.wrap ((i64.wrap ((i64.wrap (x1+1))+1))+1))+1))).bind fun r2=>
   if r2.2.length=List.length (Val.list (List.getD ((fun(z42:List Val)=>z42.set x5.toNat (Val.mk (Val.kind (z42.getD x5.toNat Dv)) (Val.n (z42.getD x5.toNat Dv)) (Val.step (z42.getD x5.toNat Dv)) r1 (Val.list (z42.getD x5.toNat Dv)) (Val.columns (z42.getD x5.toNat Dv)) (Val.rows (z42.getD x5.toNat Dv)))) ((fun(z41:List Val)=>z41.set x5.toNat (Val.mk (Val.kind (z41.getD x5.toNat Dv)) (Val.n (z41.getD x5.toNat Dv)) (i64.wrap ((i64.wrap (x1+1))+1)) (Val.text (z41.getD x5.toNat Dv)) (Val.list (z41.getD x5.toNat Dv)) (Val.columns (z41.getD x5.toNat Dv)) (Val.rows (z41.getD x5.toNat Dv)))) ((fun(z40:List Val)=>z40.set x5.toNat (Val.mk (Val.kind (z40.getD x5.toNat Dv)) (i64.wrap (x1+1)) (Val.step (z40.getD x5.toNat Dv)) (Val.text (z40.getD x5.toNat Dv)) (Val.list (z40.getD x5.toNat Dv)) (Val.columns (z40.getD x5.toNat Dv)) (Val.rows (z40.getD x5.toNat Dv)))) (x0.set x5.toNat (Val.mk x1 (Val.n (x0.getD x5.toNat Dv)) (Val.step (x0.getD x5.toNat Dv)) (Val.text (x0.getD x5.toNat Dv)) (Val.list (x0.getD x5.toNat Dv)) (Val.columns (x0.getD x5.toNat Dv)) (Val.rows (x0.getD x5.toNat Dv))))))) x5.toNat Dv)) then if(0:Int)<=x5/\x5<(List.length ((fun(z43:List Val)=>z43.set x5.toNat (Val.mk (Val.kind (z43.getD x5.toNat Dv)) (Val.n (z43.getD x5.toNat Dv)) (Val.step (z43.getD x5.toNat Dv)) (Val.text (z43.getD x5.toNat Dv)) r2.2 (Val.columns (z43.getD x5.toNat Dv)) (Val.rows (z43.getD x5.toNat Dv)))) ((fun(z42:List Val)=>z42.set x5.toNat (Val.mk (Val.kind (z42.getD x5.toNat Dv)) (Val.n (z42.getD x5.toNat Dv)) (Val.step (z42.getD x5.toNat Dv)) r1 (Val.list (z42.getD x5.toNat Dv)) (Val.columns (z42.getD x5.toNat Dv)) (Val.rows (z42.getD x5.toNat Dv)))) ((fun(z41:List Val)=>z41.set x5.toNat (Val.mk (Val.kind (z41.getD x5.toNat Dv)) (Val.n (z41.getD x5.toNat Dv)) (i64.wrap ((i64.wrap (x1+1))+1)) (Val.text (z41.getD x5.toNat Dv)) (Val.list (z41.getD x5.toNat Dv)) (Val.columns (z41.getD x5.toNat Dv)) (Val.rows (z41.getD x5.toNat Dv)))) ((fun(z40:List Val)=>z40.set x5.toNat (Val.mk (Val.kind (z40.getD x5.toNat Dv)) (i64.wrap (x1+1)) (Val.step (z40.getD x5.toNat Dv)) (Val.text (z40.getD x5.toNat Dv)) (Val.list (z40.getD x5.toNat Dv)) (Val.columns (z40.getD x5.toNat Dv)) (Val.rows (z40.getD x5.toNat Dv)))) (x0.set x5.toNat (Val.mk x1 (Val.n (x0.getD x5.toNat Dv)) (Val.step (x0.getD x5.toNat Dv)) (Val.text (x0.getD x5.toNat Dv)) (Val.list (x0.getD x5.toNat Dv)) (Val.columns (x0.getD x5.toNat Dv)) (Val.rows (x0.getD x5.toNat Dv))))))))) then
   (Ng N (Val.columns (List.getD ((fun(z43:List Val)=>z43.set x5.toNat (Val.mk (Val.kind (z43.getD x5.toNat Dv)) (Val.n (z43.getD x5.toNat Dv)) (Val.step (z43.getD x5.toNat Dv)) (Val.text (z43.getD x5.toNat Dv)) r2.2 (Val.columns (z43.getD x5.toNat Dv)) (Val.rows (z43.getD x5.toNat Dv)))) ((fun(z42:List Val)=>z42.set x5.toNat (Val.mk (Val.kind (z42.getD x5.toNat Dv)) (Val.n (z42.getD x5.toNat Dv)) (Val.step (z42.getD x5.toNat Dv)) r1 (Val.list (z42.getD x5.toNat Dv)) (Val.columns (z42.getD x5.toNat Dv)) (Val.rows (z42.getD x5.toNat Dv)))) ((fun(z41:List Val)=>z41.set x5.toNat (Val.mk (Val.kind (z41.getD x5.toNat Dv)) (Val.n (z41.getD x5.toNat Dv)) (i64.wrap ((i64.wrap (x1+1))+1)) (Val.text (z41.getD x5.toNat Dv)) (Val.list (z41.getD x5.toNat Dv)) (Val.columns (z41.getD x5.toNat Dv)) (Val.rows (z41.getD x5.toNat Dv)))) ((fun(z40:List Val)=>z40.set x5.toNat (Val.mk (Val.kind (z40.getD x5.toNat Dv)) (i64.wrap (x1+1)) (Val.step (z40.getD x5.toNat Dv)) (Val.text (z40.getD x5.toNat Dv)) (Val.list (z40.getD x5.toNat Dv)) (Val.columns (z40.getD x5.toNat Dv)) (Val.rows (z40.getD x5.toNat Dv)))) (x0.set x5.toNat (Val.mk x1 (Val.n (x0.getD x5.toNat Dv)) (Val.step (x0.getD x5.toNat Dv)) (Val.text (x0.getD x5.toNat Dv)) (Val.list (x0.getD x5.toNat Dv)) (Val.columns (x0.getD x5.toNat Dv)) (Val.rows (x0.getD x5.toNat Dv)))))))) x5.toNat Dv)) r2.1).bind fun r3=>
   if r3.2.length=List.length (Val.columns (List.getD ((fun(z43:List Val)=>z43.set x5.toNat (Val.mk (Val.kind (z43.getD x5.toNat Dv)) (Val.n (z43.getD x5.toNat Dv)) (Val.step (z43.getD x5.toNat Dv)) (Val.text (z43.getD x5.toNat Dv)) r2.2 (Val.columns (z43.getD x5.toNat Dv)) (Val.rows (z43.getD x5.toNat Dv)))) ((fun(z42:List Val)=>z42.set x5.toNat (Val.mk (Val.kind (z42.getD x5.toNat Dv)) (Val.n (z42.getD x5.toNat Dv)) (Val.step (z42.getD x5.toNat Dv)) r1 (Val.list (z42.getD x5.toNat Dv)) (Val.columns (z42.getD x5.toNat Dv)) (Val.rows (z42.getD x5.toNat Dv)))) ((fun(z41:List Val)=>z41.set x5.toNat (Val.mk (Val.kind (z41.getD x5.toNat Dv)) (Val.n (z41.getD x5.toNat Dv)) (i64.wrap ((i64.wrap (x1+1))+1)) (Val.text (z41.getD x5.toNat Dv)) (Val.list (z41.getD x5.toNat Dv)) (Val.columns (z41.getD x5.toNat Dv)) (Val.rows (z41.getD x5.toNat Dv)))) ((fun(z40:List Val)=>z40.set x5.toNat (Val.mk (Val.kind (z40.getD x5.toNat Dv)) (i64.wrap (x1+1)) (Val.step (z40.getD x5.toNat Dv)) (Val.text (z40.getD x5.toNat Dv)) (Val.list (z40.getD x5.toNat Dv)) (Val.columns (z40.getD x5.toNat Dv)) (Val.rows (z40.getD x5.toNat Dv)))) (x0.set x5.toNat (Val.mk x1 (Val.n (x0.getD x5.toNat Dv)) (Val.step (x0.getD x5.toNat Dv)) (Val.text (x0.getD x5.toNat Dv)) (Val.list (x0.getD x5.toNat Dv)) (Val.columns (x0.getD x5.toNat Dv)) (Val.rows (x0.getD x5.toNat Dv)))))))) x5.toNat Dv)) then
   if(0:Int)<=x5/\x5<(List.length ((fun(z44:List Val)=>z44.set x5.toNat (Val.mk (Val.kind (z44.getD x5.toNat Dv)) (Val.n (z44.getD x5.toNat Dv)) (Val.step (z44.getD x5.toNat Dv)) (Val.text (z44.getD x5.toNat Dv)) (Val.list (z44.getD x5.toNat Dv)) r3.2 (Val.rows (z44.getD x5.toNat Dv)))) ((fun(z43:List Val)=>z43.set x5.toNat (Val.mk (Val.kind (z43.getD x5.toNat Dv)) (Val.n (z43.getD x5.toNat Dv)) (Val.step (z43.getD x5.toNat Dv)) (Val.text (z43.getD x5.toNat Dv)) r2.2 (Val.columns (z43.getD x5.toNat Dv)) (Val.rows (z43.getD x5.toNat Dv)))) ((fun(z42:List Val)=>z42.set x5.toNat (Val.mk (Val.kind (z42.getD x5.toNat Dv)) (Val.n (z42.getD x5.toNat Dv)) (Val.step (z42.getD x5.toNat Dv)) r1 (Val.list (z42.getD x5.toNat Dv)) (Val.columns (z42.getD x5.toNat Dv)) (Val.rows (z42.getD x5.toNat Dv)))) ((fun(z41:List Val)=>z41.set x5.toNat (Val.mk (Val.kind (z41.getD x5.toNat Dv)) (Val.n (z41.getD x5.toNat Dv)) (i64.wrap ((i64.wrap (x1+1))+1)) (Val.text (z41.getD x5.toNat Dv)) (Val.list (z41.getD x5.toNat Dv)) (Val.columns (z41.getD x5.toNat Dv)) (Val.rows (z41.getD x5.toNat Dv)))) ((fun(z40:List Val)=>z40.set x5.toNat (Val.mk (Val.kind (z40.getD x5.toNat Dv)) (i64.wrap (x1+1)) (Val.step (z40.getD x5.toNat Dv)) (Val.text (z40.getD x5.toNat Dv)) (Val.list (z40.getD x5.toNat Dv)) (Val.columns (z40.getD x5.toNat Dv)) (Val.rows (z40.getD x5.toNat Dv)))) (x0.set x5.toNat (Val.mk x1 (Val.n (x0.getD x5.toNat Dv)) (Val.step (x0.getD x5.toNat Dv)) (Val.text (x0.getD x5.toNat Dv)) (Val.list (x0.getD x5.toNat Dv)) (Val.columns (x0.getD x5.toNat Dv)) (Val.rows (x0.getD x5.toNat Dv)))))))))) then
   (Nd N (Val.rows (List.getD ((fun(z44:List Val)=>z44.set x5.toNat (Val.mk (Val.kind (z44.getD x5.toNat Dv)) (Val.n (z44.getD x5.toNat Dv)) (Val.step (z44.getD x5.toNat Dv)) (Val.text (z44.getD x5.toNat Dv)) (Val.list (z44.getD x5.toNat Dv)) r3.2 (Val.rows (z44.getD x5.toNat Dv)))) ((fun(z43:List Val)=>z43.set x5.toNat (Val.mk (Val.kind (z43.getD x5.toNat Dv)) (Val.n (z43.getD x5.toNat Dv)) (Val.step (z43.getD x5.toNat Dv)) (Val.text (z43.getD x5.toNat Dv)) r2.2 (Val.columns (z43.getD x5.toNat Dv)) (Val.rows (z43.getD x5.toNat Dv)))) ((fun(z42:List Val)=>z42.set x5.toNat (Val.mk (Val.kind (z42.getD x5.toNat Dv)) (Val.n (z42.getD x5.toNat Dv)) (Val.step (z42.getD x5.toNat Dv)) r1 (Val.list (z42.getD x5.toNat Dv)) (Val.columns (z42.getD x5.toNat Dv)) (Val.rows (z42.getD x5.toNat Dv)))) ((fun(z41:List Val)=>z41.set x5.toNat (Val.mk (Val.kind (z41.getD x5.toNat Dv)) (Val.n (z41.getD x5.toNat Dv)) (i64.wrap ((i64.wrap (x1+1))+1)) (Val.text (z41.getD x5.toNat Dv)) (Val.list (z41.getD x5.toNat Dv)) (Val.columns (z41.getD x5.toNat Dv)) (Val.rows (z41.getD x5.toNat Dv)))) ((fun(z40:List Val)=>z40.set x5.toNat (Val.mk (Val.kind (z40.getD x5.toNat Dv)) (i64.wrap (x1+1)) (Val.step (z40.getD x5.toNat Dv)) (Val.text (z40.getD x5.toNat Dv)) (Val.list (z40.getD x5.toNat Dv)) (Val.columns (z40.getD x5.toNat Dv)) (Val.rows (z40.getD x5.toNat Dv)))) (x0.set x5.toNat (Val.mk x1 (Val.n (x0.getD x5.toNat Dv)) (Val.step (x0.getD x5.toNat Dv)) (Val.text (x0.getD x5.toNat Dv)) (Val.list (x0.getD x5.toNat Dv)) (Val.columns (x0.getD x5.toNat Dv)) (Val.rows (x0.getD x5.toNat Dv))))))))) x5.toNat Dv)) r3.1).bind fun r4=>
   if r4.2.length=List.length (Val.rows (List.getD ((fun(z44:List Val)=>z44.set x5.toNat (Val.mk (Val.kind (z44.getD x5.toNat Dv)) (Val.n (z44.getD x5.toNat Dv)) (Val.step (z44.getD x5.toNat Dv)) (Val.text (z44.getD x5.toNat Dv)) (Val.list (z44.getD x5.toNat Dv)) r3.2 (Val.rows (z44.getD x5.toNat Dv)))) ((fun(z43:List Val)=>z43.set x5.toNat (Val.mk (Val.kind (z43.getD x5.toNat Dv)) (Val.n (z43.getD x5.toNat Dv)) (Val.step (z43.getD x5.toNat Dv)) (Val.text (z43.getD x5.toNat Dv)) r2.2 (Val.columns (z43.getD x5.toNat Dv)) (Val.rows (z43.getD x5.toNat Dv)))) ((fun(z42:List Val)=>z42.set x5.toNat (Val.mk (Val.kind (z42.getD x5.toNat Dv)) (Val.n (z42.getD x5.toNat Dv)) (Val.step (z42.getD x5.toNat Dv)) r1 (Val.list (z42.getD x5.toNat Dv)) (Val.columns (z42.getD x5.toNat Dv)) (Val.rows (z42.getD x5.toNat Dv)))) ((fun(z41:List Val)=>z41.set x5.toNat (Val.mk (Val.kind (z41.getD x5.toNat Dv)) (Val.n (z41.getD x5.toNat Dv)) (i64.wrap ((i64.wrap (x1+1))+1)) (Val.text (z41.getD x5.toNat Dv)) (Val.list (z41.getD x5.toNat Dv)) (Val.columns (z41.getD x5.toNat Dv)) (Val.rows (z41.getD x5.toNat Dv)))) ((fun(z40:List Val)=>z40.set x5.toNat (Val.mk (Val.kind (z40.getD x5.toNat Dv)) (i64.wrap (x1+1)) (Val.step (z40.getD x5.toNat Dv)) (Val.text (z40.getD x5.toNat Dv)) (Val.list (z40.getD x5.toNat Dv)) (Val.columns (z40.getD x5.toNat Dv)) (Val.rows (z40.getD x5.toNat Dv)))) (x0.set x5.toNat (Val.mk x1 (Val.n (x0.getD x5.toNat Dv)) (Val.step (x0.getD x5.toNat Dv)) (Val.text (x0.getD x5.toNat Dv)) (Val.list (x0.getD x5.toNat Dv)) (Val.columns (x0.getD x5.toNat Dv)) (Val.rows (x0.getD x5.toNat Dv))))))))) x5.toNat Dv)) then
   (Jq N q0 n ((fun(z45:List Val)=>z45.set x5.toNat (Val.mk (Val.kind (z45.getD x5.toNat Dv)) (Val.n (z45.getD x5.toNat Dv)) (Val.step (z45.getD x5.toNat Dv)) (Val.text (z45.getD x5.toNat Dv)) (Val.list (z45.getD x5.toNat Dv)) (Val.columns (z45.getD x5.toNat Dv)) r4.2)) ((fun(z44:List Val)=>z44.set x5.toNat (Val.mk (Val.kind (z44.getD x5.toNat Dv)) (Val.n (z44.getD x5.toNat Dv)) (Val.step (z44.getD x5.toNat Dv)) (Val.text (z44.getD x5.toNat Dv)) (Val.list (z44.getD x5.toNat Dv)) r3.2 (Val.rows (z44.getD x5.toNat Dv)))) ((fun(z43:List Val)=>z43.set x5.toNat (Val.mk (Val.kind (z43.getD x5.toNat Dv)) (Val.n (z43.getD x5.toNat Dv)) (Val.step (z43.getD x5.toNat Dv)) (Val.text (z43.getD x5.toNat Dv)) r2.2 (Val.columns (z43.getD x5.toNat Dv)) (Val.rows (z43.getD x5.toNat Dv)))) ((fun(z42:List Val)=>z42.set x5.toNat (Val.mk (Val.kind (z42.getD x5.toNat Dv)) (Val.n (z42.getD x5.toNat Dv)) (Val.step (z42.getD x5.toNat Dv)) r1 (Val.list (z42.getD x5.toNat Dv)) (Val.columns (z42.getD x5.toNat Dv)) (Val.rows (z42.getD x5.toNat Dv)))) ((fun(z41:List Val)=>z41.set x5.toNat (Val.mk (Val.kind (z41.getD x5.toNat Dv)) (Val.n (z41.getD x5.toNat Dv)) (i64.wrap ((i64.wrap (x1+1))+1)) (Val.text (z41.getD x5.toNat Dv)) (Val.list (z41.getD x5.toNat Dv)) (Val.columns (z41.getD x5.toNat Dv)) (Val.rows (z41.getD x5.toNat Dv)))) ((fun(z40:List Val)=>z40.set x5.toNat (Val.mk (Val.kind (z40.getD x5.toNat Dv)) (i64.wrap (x1+1)) (Val.step (z40.getD x5.toNat Dv)) (Val.text (z40.getD x5.toNat Dv)) (Val.list (z40.getD x5.toNat Dv)) (Val.columns (z40.getD x5.toNat Dv)) (Val.rows (z40.getD x5.toNat Dv)))) (x0.set x5.toNat (Val.mk x1 (Val.n (x0.getD x5.toNat Dv)) (Val.step (x0.getD x5.toNat Dv)) (Val.text (x0.getD x5.toNat Dv)) (Val.list (x0.getD x5.toNat Dv)) (Val.columns (x0.getD x5.toNat Dv)) (Val.rows (x0.getD x5.toNat Dv)))))))))) r4.1 (i64.wrap (x5+1)))
   else none else none else none else none else none else none else none else none else none else none) else(some (x1,x0))
def Nl(N:Nat)(q0:(List Val)->Int->Option (Int×(List Val)))(a0:List Val)(a1:Int):Option (Int×(List Val)):=(Jq N q0 N a0 a1 0)
def Nm(N:Nat):Nat->(List Val)->Int->Option (Int×(List Val))
 |0,_,_=>none
 |d+1,a0,a1=>Nl N (Nm N d) a0 a1
def xJr(a0:List Int):List Arg:=[.val (vS .ro .byte a0)]
def xJt(r:Bool):CallO:=(cO (vB r))
def GG(N:Nat)(a0:List Int):Option (Bool):=some (decide ((a0.length:Int)>1048576))
def xNr(a0:List Int):List Arg:=[.val (vS .ro .byte a0)]
def xAw(r:Cur):CallO:=⟨.tup [(false,[.ptr 0 0]),(true,(Cu .ro r))],[],[]⟩
def FU(N:Nat):Nat->(List Int)->Int->Int->Option (Cur)
 |0,_,_,_=>none
 |n+1,x0,x3,x4=>bif(decide (x4<(x0.length:Int))) then(bif(decide (x4<4000)) then(if(0:Int)<=x4/\x4<x0.length then(FU N n x0 (rT .i64 (i64.wrap ((i64.wrap ((i64.wrap (x3*131))+(i64.wrap ((x0.getD x4.toNat Ty.byte.dflt)))))+7)) 1073741823) (i64.wrap (x4+1))) else none) else(some (Cur.mk x0 0 x3))) else(some (Cur.mk x0 0 x3))
def FT(N:Nat)(a0:List Int):Option (Cur):=(FU N N a0 (i64.wrap (26583+(a0.length:Int))) 0)
def xNe(a0:Cur):List Arg:=[.box (Cu .ro a0)]
def xNf(r:Int×Cur):CallO:=⟨(vI r.1),[(Cu .ro r.2)],[]⟩
def Cy(N:Nat)(a0:Cur):Option (Int×Cur):=bif(decide (a0.i<(a0.b.length:Int))) then(if(0:Int)<=a0.i/\a0.i<a0.b.length then some ((rT .i64 (i64.wrap ((rT .i64 (zAc .i64 (Int.fdiv (i64.wrap ((i64.wrap (a0.h*6364136223846793005))+1442695040888963407)) ((2:Int) ^ (Int.toNat 33))) (Int.fdiv (i64.wrap ((i64.wrap (a0.h*6364136223846793005))+1442695040888963407)) ((2:Int) ^ (Int.toNat 45)))) 255)+(i64.wrap ((a0.b.getD a0.i.toNat Ty.byte.dflt))))) 255),(Cur.mk a0.b (i64.wrap (a0.i+1)) (i64.wrap ((i64.wrap (a0.h*6364136223846793005))+1442695040888963407)))) else none) else(some ((rT .i64 (zAc .i64 (Int.fdiv (i64.wrap ((i64.wrap (a0.h*6364136223846793005))+1442695040888963407)) ((2:Int) ^ (Int.toNat 33))) (Int.fdiv (i64.wrap ((i64.wrap (a0.h*6364136223846793005))+1442695040888963407)) ((2:Int) ^ (Int.toNat 45)))) 255),(Cur.mk a0.b a0.i (i64.wrap ((i64.wrap (a0.h*6364136223846793005))+1442695040888963407)))))
def xNc(a0:Cur)(a1:Int):List Arg:=[.box (Cu .ro a0),.val (vI a1)]
def xNd(r:Int×Cur):CallO:=⟨(vI r.1),[(Cu .ro r.2)],[]⟩
def zU(N:Nat)(a0:Cur)(a1:Int):Option (Int×Cur):=bif(decide (a1<=0)) then(some (0,a0)) else(bif(decide (a1<=256)) then((Cy N a0).bind fun r1=>if a1≠(0:Int) then some ((Int.tmod r1.1 a1),r1.2) else none) else((Cy N a0).bind fun r1=>(Cy N r1.2).bind fun r2=>(Cy N r2.2).bind fun r3=>(Cy N r3.2).bind fun r4=>if a1≠(0:Int) then some ((Int.tmod (i64.wrap ((i64.wrap ((i64.wrap ((i64.wrap (r1.1*16777216))+(i64.wrap (r2.1*65536))))+(i64.wrap (r3.1*256))))+r4.1)) a1),r4.2) else none))
def xNw(a0:Cur)(a1:List Str):List Arg:=[.box (Cu .ro a0),.val (vS .ro .str a1)]
def xNx(r:Str×Cur):CallO:=⟨(vT r.1),[(Cu .ro r.2)],[]⟩
def CT(N:Nat)(a0:Cur)(a1:List Str):Option (Str×Cur):=(zU N a0 (a1.length:Int)).bind fun r1=>if(0:Int)<=r1.1/\r1.1<a1.length then some ((a1.getD r1.1.toNat Ds),r1.2) else none
def xL4(a0:List Int):List Arg:=[.val (vS .ro .byte a0)]
def xL6(r:Str):CallO:=(cO (vT r))
def KX(N:Nat)(a0:List Int):Option (Str):=(FT N a0).bind fun r1=>(CT N r1 [[99,108,111,99,107],[108,101,110],[115,117,109],[114,111,119,115],[99,104,97,110,99,101],[102,105,108,101],[116,97,107,101],[115,107,105,112],[114,97,110,103,101],[110,116,104],[107,101,101,112],[99,111,108,117,109,110],[116,97,98,108,101],[119,104,101,114,101],[103,114,111,117,112],[106,111,105,110],[97,100,100],[108,101,116],[120],[]]).bind fun r2=>some r2.1
def xNs(a0:Cur)(a1:Int):List Arg:=[.box (Cu .ro a0),.val (vI a1)]
def xNt(r:Bool×Cur):CallO:=⟨(vB r.1),[(Cu .ro r.2)],[]⟩
def AY(N:Nat)(a0:Cur)(a1:Int):Option (Bool×Cur):=(zU N a0 a1).bind fun r1=>some ((r1.1==0),r1.2)
def xN2(a0:Cur):List Arg:=[.box (Cu .ro a0)]
def xAK(r:(List Org)×Cur):CallO:=⟨(vS .own .org r.1),[(Cu .ro r.2)],[]⟩
def F3(N:Nat):Nat->(List Org)->Int->Int->Int->Cur->Option ((List Org)×Cur)
 |0,_,_,_,_,_=>none
 |n+1,x3,x4,x5,x6,b0=>bif(decide (x6<x5)) then((zU N b0 2).bind fun r1=>if x3.length+ [(Org.mk x4 (i64.wrap (x6+(i64.wrap (r1.1*2)))))].length<=Lim then(zU N r1.2 2).bind fun r2=>(F3 N n (x3++ [(Org.mk x4 (i64.wrap (x6+(i64.wrap (r1.1*2)))))]) (i64.wrap ((i64.wrap (x4+1))+r2.1)) x5 (i64.wrap (x6+1)) r2.2) else none) else(some (x3,b0))
def Kj(N:Nat)(a0:Cur):Option ((List Org)×Cur):=(zU N a0 3).bind fun r1=>(F3 N N [] 1 r1.1 0 r1.2)
def xNu(a0:Cur)(a1:List Int):List Arg:=[.box (Cu .ro a0),.val (vS .ro .int a1)]
def xNv(r:Int×Cur):CallO:=⟨(vI r.1),[(Cu .ro r.2)],[]⟩
def FV(N:Nat)(a0:Cur)(a1:List Int):Option (Int×Cur):=(zU N a0 (a1.length:Int)).bind fun r1=>if(0:Int)<=r1.1/\r1.1<a1.length then some ((a1.getD r1.1.toNat Di),r1.2) else none
def xN5(a0:Cur):List Arg:=[.box (Cu .ro a0)]
def xN6(r:Int×Cur):CallO:=⟨(vI r.1),[(Cu .ro r.2)],[]⟩
def Ah(N:Nat)(a0:Cur):Option (Int×Cur):=(AY N a0 12).bind fun r1=>bif r1.1 then((FV N r1.2 [1000000000,(-1000000000),999999999,500000000,40000]).bind fun r2=>some (r2.1,r2.2)) else((zU N r1.2 12).bind fun r2=>some ((i64.wrap (r2.1 - 3)),r2.2))
def xNV(a0:Cur):List Arg:=[.box (Cu .ro a0)]
def I3(r:Val×Cur):CallO:=⟨(vV .own r.1),[(Cu .ro r.2)],[]⟩
def FZ(N:Nat)(k10:Int->Int->Int->Cur->Val->Val->Option (Val×Cur)):Nat->Int->Int->Int->Int->Cur->Val->Val->Rowd->Option (Val×Cur)
 |0,_,_,_,_,_,_,_,_=>none
 |n+1,x4,x6,x7,x9,b0,b2,b5,b8=>bif(decide (x9<x4)) then((Ah N b0).bind fun r1=>if b8.cells.length+ [r1.1].length<=Lim then(FZ N k10 n x4 x6 x7 (i64.wrap (x9+1)) r1.2 b2 b5 (Rowd.mk (b8.cells++ [r1.1]) b8.frm)) else none) else(if b5.rows.length+ [b8].length<=Lim then(k10 x4 x6 (i64.wrap (x7+1)) b0 b2 (Val.mk b5.kind b5.n b5.step b5.text b5.list b5.columns (b5.rows++ [b8]))) else none)
def CU(N:Nat):Nat->Int->Int->Int->Cur->Val->Val->Option (Val×Cur)
 |0,_,_,_,_,_,_=>none
 |n+1,x4,x6,x7,b0,b2,b5=>bif(decide (x7<x6)) then((Kj N b0).bind fun r1=>(FZ N (fun z0 z1 z2 z3 z4 z5=>(CU N n z0 z1 z2 z3 z4 z5)) N x4 x6 x7 0 r1.2 b2 b5 (Rowd.mk [] r1.1))) else(some (b5,b0))
def Gb(N:Nat)(a0:Cur):Option (Val×Cur):=(zU N a0 3).bind fun r1=>if(0:Int)<=(i64.wrap (1+r1.1))/\(i64.wrap (1+r1.1))<=(List.length ([[97],[98],[99],[120]]:List Str)) then if 0+List.length (List.take (Int.toNat (i64.wrap (1+r1.1))) ([[97],[98],[99],[120]]:List Str))<=Lim then(AY N r1.2 5).bind fun r2=>bif r2.1 then(if(0:Int)<=0/\(0:Int)<(List.length ([]++(List.take (Int.toNat (i64.wrap (1+r1.1))) ([[97],[98],[99],[120]]:List Str)))) then if(0:Int)<=1/\(1:Int)<=(List.length ((fun(z8:List Str)=>z8.set (Int.toNat 0) [120]) ([]++(List.take (Int.toNat (i64.wrap (1+r1.1))) ([[97],[98],[99],[120]]:List Str))))) then(zU N r2.2 6).bind fun r3=>(CU N N 1 r3.1 0 r3.2 (Val.mk 0 0 0 [] [] [] []) (Val.mk 5 0 0 [] [] (List.take (Int.toNat 1) ((fun(z8:List Str)=>z8.set (Int.toNat 0) [120]) ([]++(List.take (Int.toNat (i64.wrap (1+r1.1))) ([[97],[98],[99],[120]]:List Str))))) [])) else none else none) else((zU N r2.2 6).bind fun r3=>(CU N N (i64.wrap (1+r1.1)) r3.1 0 r3.2 (Val.mk 0 0 0 [] [] [] []) (Val.mk 5 0 0 [] [] ([]++(List.take (Int.toNat (i64.wrap (1+r1.1))) ([[97],[98],[99],[120]]:List Str))) []))) else none else none
def xOk(a0:Cur):List Arg:=[.box (Cu .ro a0)]
def xOl(r:Str×Cur):CallO:=⟨(vT r.1),[(Cu .ro r.2)],[]⟩
def F8(N:Nat)(a0:Cur):Option (Str×Cur):=(CT N a0 [[],[97],[98],[97,98],[104,101,108,108,111],[116,119,101,110,116,121,32,99,104,97,114,97,99,116,101,114,115,32,111,107],[110,105,110,101,116,101,101,110,32,99,104,97,114,97,99,116,101,114,46]]).bind fun r1=>some (r1.1,r1.2)
def xMS(a0:Str):List Arg:=[.val (vT a0)]
def xMT(r:Val):CallO:=(cO (vV .own r))
def EC(N:Nat)(a0:Str):Option (Val):=some (Val.mk 2 0 0 a0 [] [] [])
def Kh(a0:Cur)(a1:Int):List Arg:=[.box (Cu .ro a0),.val (vI a1)]
def I2(r:Val×Cur):CallO:=⟨(vV .own r.1),[(Cu .ro r.2)],[]⟩
def FY(N:Nat)(q0:Cur->Int->Option (Val×Cur))(q1:Cur->Int->Option (Val×Cur)):Nat->Int->Int->Int->Cur->Val->Val->Option (Val×Cur)
 |0,_,_,_,_,_,_=>none
 |n+1,x1,x6,x7,b0,b4,b5=>bif(decide (x7<x6)) then((q1 b0 x1).bind fun r1=>if b5.list.length+ [r1.1.re].length<=Lim then(FY N q0 q1 n x1 x6 (i64.wrap (x7+1)) r1.2 b4 (Val.mk b5.kind b5.n b5.step b5.text (b5.list++ [r1.1.re]) b5.columns b5.rows)) else none) else(some (b5,b0))
def I1(N:Nat)(q0:Cur->Int->Option (Val×Cur))(q1:Cur->Int->Option (Val×Cur))(a0:Cur)(a1:Int):Option (Val×Cur):=(FV N a0 [0,1,2,3,3,4,5,8]).bind fun r1=>(FY N q0 q1 N a1 r1.1 0 r1.2 (Val.mk 0 0 0 [] [] [] []) (Val.mk 3 0 0 [] [] [] []))
def xAI(a0:Cur)(a1:Int):List Arg:=[.box (Cu .ro a0),.val (vI a1)]
def xAJ(r:Val×Cur):CallO:=⟨(vV .own r.1),[(Cu .ro r.2)],[]⟩
def I4(N:Nat)(q0:Cur->Int->Option (Val×Cur))(q1:Cur->Int->Option (Val×Cur))(a0:Cur)(a1:Int):Option (Val×Cur):=bif(decide (a1>1)) then((AY N a0 4).bind fun r1=>bif r1.1 then((q0 r1.2 (i64.wrap (a1 - 1))).bind fun r2=>some (r2.1,r2.2)) else((AY N r1.2 4).bind fun r2=>bif r2.1 then((F8 N r2.2).bind fun r3=>(EC N r3.1).bind fun r4=>some (r4,r3.2)) else((Ah N r2.2).bind fun r3=>(zK N r3.1).bind fun r4=>some (r4,r3.2)))) else((AY N a0 4).bind fun r1=>bif r1.1 then((F8 N r1.2).bind fun r2=>(EC N r2.1).bind fun r3=>some (r3,r2.2)) else((Ah N r1.2).bind fun r2=>(zK N r2.1).bind fun r3=>some (r3,r2.2)))
structure spec_l3DrawList_rec where
 c_spec_l3DrawList:Cur->Int->Option (Val×Cur)
 c_spec_l3Element2:Cur->Int->Option (Val×Cur)
def AZ(N:Nat):Nat->spec_l3DrawList_rec
 |0=>⟨fun _ _=>none,fun _ _=>none⟩
 |d+1=>⟨I1 N (AZ N d).c_spec_l3DrawList (AZ N d).c_spec_l3Element2,I4 N (AZ N d).c_spec_l3DrawList (AZ N d).c_spec_l3Element2⟩
def I0(N:Nat)(a0:Cur)(a1:Int):Option (Val×Cur):=(AZ N N).c_spec_l3DrawList a0 a1
def xN9(a0:Cur):List Arg:=[.box (Cu .ro a0)]
def xAO(r:Val×Cur):CallO:=⟨(vV .own r.1),[(Cu .ro r.2)],[]⟩
def F5(N:Nat):Nat->Int->Int->Cur->Val->Val->Option (Val×Cur)
 |0,_,_,_,_,_=>none
 |n+1,x4,x5,b0,b2,b3=>bif(decide (x5<x4)) then((Ah N b0).bind fun r1=>(zK N r1.1).bind fun r2=>if b3.list.length+ [r2.re].length<=Lim then(F5 N n x4 (i64.wrap (x5+1)) r1.2 b2 (Val.mk b3.kind b3.n b3.step b3.text (b3.list++ [r2.re]) b3.columns b3.rows)) else none) else(some (b3,b0))
def I5(N:Nat)(a0:Cur):Option (Val×Cur):=(zU N a0 9).bind fun r1=>(F5 N N r1.1 0 r1.2 (Val.mk 0 0 0 [] [] [] []) (Val.mk 3 0 0 [] [] [] []))
def xNW(a0:Cur):List Arg:=[.box (Cu .ro a0)]
def xNX(r:Val×Cur):CallO:=⟨(vV .own r.1),[(Cu .ro r.2)],[]⟩
def Ga(N:Nat)(a0:Cur):Option (Val×Cur):=(zU N a0 10).bind fun r1=>bif(r1.1==0) then((Ah N r1.2).bind fun r2=>(zK N r2.1).bind fun r3=>some (r3,r2.2)) else(bif(r1.1==1) then((Ah N r1.2).bind fun r2=>(zK N r2.1).bind fun r3=>some (r3,r2.2)) else(bif(r1.1==2) then((Ah N r1.2).bind fun r2=>(zK N r2.1).bind fun r3=>some (r3,r2.2)) else(bif(r1.1==3) then((F8 N r1.2).bind fun r2=>(EC N r2.1).bind fun r3=>some (r3,r2.2)) else(bif(r1.1==4) then((I0 N r1.2 3).bind fun r2=>some (r2.1,r2.2)) else(bif(r1.1==5) then((I5 N r1.2).bind fun r2=>some (r2.1,r2.2)) else(bif(r1.1==6) then((Ah N r1.2).bind fun r2=>(Ah N r2.2).bind fun r3=>(EA N r2.1 r3.1).bind fun r4=>some (r4,r3.2)) else(bif(r1.1==7) then((zU N r1.2 8).bind fun r2=>(yZ N (i64.wrap (1+r2.1))).bind fun r3=>some (r3,r2.2)) else((Gb N r1.2).bind fun r2=>some (r2.1,r2.2)))))))))
def xNB(a0:Cur):List Arg:=[.box (Cu .ro a0)]
def xND(r:Str×Cur):CallO:=⟨(vT r.1),[(Cu .ro r.2)],[]⟩
def xAy(N:Nat)(a0:Cur):Option (Str×Cur):=(CT N a0 [[97],[98],[99],[100],[120],[121],[116],[117]]).bind fun r1=>some (r1.1,r1.2)
def xNy(a0:Cur):List Arg:=[.box (Cu .ro a0)]
def xNA(r:Str×Cur):CallO:=⟨(vT r.1),[(Cu .ro r.2)],[]⟩
def Ka(N:Nat)(a0:Cur):Option (Str×Cur):=(AY N a0 2).bind fun r1=>bif r1.1 then((xAy N r1.2).bind fun r2=>some (r2.1,r2.2)) else((CT N r1.2 [[],[49,97],[97,49],[97,98,99,100,101,102,103,104],[97,98,99,100,101,102,103,104,105],[108,101,116],[116,97,98,108,101],[115,117,109],[115,117,109,115],[65],[97,95,98],[108,101,110]]).bind fun r2=>some (r2.1,r2.2))
def xNP(a0:Cur):List Arg:=[.box (Cu .ro a0)]
def xNQ(r:Val×Cur):CallO:=⟨(vV .own r.1),[(Cu .ro r.2)],[]⟩
def EG(N:Nat)(a0:Cur):Option (Val×Cur):=(Ga N a0).bind fun r1=>(zU N r1.2 16).bind fun r2=>bif(r2.1==0) then(some ((Val.mk r1.1.kind (i64.wrap (r1.1.n+1000000000)) r1.1.step r1.1.text r1.1.list r1.1.columns r1.1.rows),r2.2)) else(bif(r2.1==1) then(if r1.1.text.length+ [120,34,121].length<=Lim then some ((Val.mk r1.1.kind r1.1.n r1.1.step (r1.1.text++ [120,34,121]) r1.1.list r1.1.columns r1.1.rows),r2.2) else none) else(bif(r2.1==2) then((zU N r2.2 8).bind fun r3=>some ((Val.mk r3.1 r1.1.n r1.1.step r1.1.text r1.1.list r1.1.columns r1.1.rows),r3.2)) else(bif(r2.1==3) then((Ga N r2.2).bind fun r3=>if r1.1.list.length+ [r3.1.re].length<=Lim then some ((Val.mk r1.1.kind r1.1.n r1.1.step r1.1.text (r1.1.list++ [r3.1.re]) r1.1.columns r1.1.rows),r3.2) else none) else(bif(r2.1==4) then(if r1.1.rows.length+List.length [(Rowd.mk [1] [(Org.mk 2 1),(Org.mk 1 1)])]<=Lim then some ((Val.mk r1.1.kind r1.1.n r1.1.step r1.1.text r1.1.list r1.1.columns (r1.1.rows++ [(Rowd.mk [1] [(Org.mk 2 1),(Org.mk 1 1)])])),r2.2) else none) else(bif(r2.1==5) then((Ka N r2.2).bind fun r3=>if r1.1.columns.length+ [r3.1].length<=Lim then some ((Val.mk r1.1.kind r1.1.n r1.1.step r1.1.text r1.1.list (r1.1.columns++ [r3.1]) r1.1.rows),r3.2) else none) else(bif(r2.1==6) then(some ((Val.mk r1.1.kind r1.1.n 7 r1.1.text r1.1.list r1.1.columns r1.1.rows),r2.2)) else(some (r1.1,r2.2))))))))
def xOJ(a0:Cur):List Arg:=[.box (Cu .ro a0)]
def Ig(r:Val×Cur):CallO:=⟨(vV .own r.1),[(Cu .ro r.2)],[]⟩
def EP(N:Nat)(k3:Int->Cur->Val->Val->Option (Val×Cur)):Nat->Int->Int->Cur->Val->Val->Option (Val×Cur)
 |0,_,_,_,_,_=>none
 |n+1,x4,x5,b0,b2,b3=>if(0:Int)<=x4/\x4<b3.rows.length then bif(decide (x5<(List.length (Rowd.cells (b3.rows.getD x4.toNat Ty.row.dflt)):Int))) then((AY N b0 8).bind fun r1=>bif(!r1.1) then((zU N r1.2 4).bind fun r2=>if(0:Int)<=x5/\x5<(List.length (Rowd.cells (b3.rows.getD x4.toNat Ty.row.dflt))) then(EP N k3 n x4 (i64.wrap (x5+1)) r2.2 b2 (Val.mk b3.kind b3.n b3.step b3.text b3.list b3.columns (b3.rows.set x4.toNat (Rowd.mk ((fun(z1:List Int)=>z1.set x5.toNat r2.1) (Rowd.cells (b3.rows.getD x4.toNat Ty.row.dflt))) (Rowd.frm (b3.rows.getD x4.toNat Ty.row.dflt)))))) else none) else((EP N k3 n x4 (i64.wrap (x5+1)) r1.2 b2 b3))) else((k3 (i64.wrap (x4+1)) b0 b2 b3)) else none
def EO(N:Nat):Nat->Int->Cur->Val->Val->Option (Val×Cur)
 |0,_,_,_,_=>none
 |n+1,x4,b0,b2,b3=>bif(decide (x4<(b3.rows.length:Int))) then((EP N (fun z0 z1 z2 z3=>(EO N n z0 z1 z2 z3)) N x4 0 b0 b2 b3)) else((AY N b0 12).bind fun r1=>bif r1.1 then((EG N r1.2).bind fun r2=>some (r2.1,r2.2)) else(some (b3,r1.2)))
def Gi(N:Nat)(a0:Cur):Option (Val×Cur):=(Gb N a0).bind fun r1=>(EO N N 0 r1.2 (Val.mk 0 0 0 [] [] [] []) r1.1)
def xOs(a0:Cur):List Arg:=[.box (Cu .ro a0)]
def xOu(r:Val×Cur):CallO:=⟨(vV .own r.1),[(Cu .ro r.2)],[]⟩
def Gg(N:Nat)(a0:Cur):Option (Val×Cur):=(zU N a0 5).bind fun r1=>bif(r1.1==0) then((I5 N r1.2).bind fun r2=>some (r2.1,r2.2)) else(bif(r1.1==1) then((I0 N r1.2 3).bind fun r2=>some (r2.1,r2.2)) else(bif(r1.1==2) then((Ah N r1.2).bind fun r2=>(Ah N r2.2).bind fun r3=>(EA N r2.1 r3.1).bind fun r4=>some (r4,r3.2)) else((EG N r1.2).bind fun r2=>some (r2.1,r2.2))))
def xOy(a0:Cur):List Arg:=[.box (Cu .ro a0)]
def xOA(r:Val×Cur):CallO:=⟨(vV .own r.1),[(Cu .ro r.2)],[]⟩
def Gh(N:Nat)(a0:Cur):Option (Val×Cur):=(AY N a0 16).bind fun r1=>bif r1.1 then((EG N r1.2).bind fun r2=>some (r2.1,r2.2)) else((CT N r1.2 [[97],[97],[97],[98],[98],[99],[120],[122],[]]).bind fun r2=>(EC N r2.1).bind fun r3=>some (r3,r2.2))
def xOp(a0:Cur):List Arg:=[.box (Cu .ro a0)]
def xOr(r:Val×Cur):CallO:=⟨(vV .own r.1),[(Cu .ro r.2)],[]⟩
def Gf(N:Nat)(a0:Cur):Option (Val×Cur):=(AY N a0 8).bind fun r1=>bif r1.1 then((EG N r1.2).bind fun r2=>some (r2.1,r2.2)) else((zU N r1.2 12).bind fun r2=>(zK N (i64.wrap (r2.1 - 1))).bind fun r3=>some (r3,r2.2))
def xL7(a0:List Int):List Arg:=[.val (vS .ro .byte a0)]
def xAb(r:Str×(List Val)):CallO:=⟨.tup [(false,[.str r.1]),(false,[.sl .own .val r.2])],[],[]⟩
def A3(N:Nat):Nat->Str->(List Val)->Int->Int->Cur->Option (Str×(List Val))
 |0,_,_,_,_,_=>none
 |n+1,x5,x6,x7,x8,b10=>bif(decide (x8<x7)) then(bif(x8==(i64.wrap (x7 - 1))) then((AY N b10 2).bind fun r1=>bif r1.1 then((Gi N r1.2).bind fun r2=>if x6.length+ [r2.1.re].length<=Lim then(A3 N n x5 (x6++ [r2.1.re]) x7 (i64.wrap (x8+1)) r2.2) else none) else((Gg N r1.2).bind fun r2=>if x6.length+ [r2.1.re].length<=Lim then(A3 N n x5 (x6++ [r2.1.re]) x7 (i64.wrap (x8+1)) r2.2) else none)) else((AY N b10 2).bind fun r1=>bif r1.1 then((Gh N r1.2).bind fun r2=>if x6.length+ [r2.1.re].length<=Lim then(A3 N n x5 (x6++ [r2.1.re]) x7 (i64.wrap (x8+1)) r2.2) else none) else((Gf N r1.2).bind fun r2=>if x6.length+ [r2.1.re].length<=Lim then(A3 N n x5 (x6++ [r2.1.re]) x7 (i64.wrap (x8+1)) r2.2) else none))) else(some (x5,x6))
def IG(N:Nat)(a0:List Int):Option (Str×(List Val)):=(FT N a0).bind fun r1=>(KX N a0).bind fun r2=>(BR N r2).bind fun r3=>bif(decide (r3<0)) then((zU N r1 4).bind fun r4=>(A3 N N r2 [] r4.1 0 r4.2)) else((AY N r1 12).bind fun r4=>bif r4.1 then((zU N r4.2 4).bind fun r5=>(A3 N N r2 [] r5.1 0 r5.2)) else((A3 N N r2 [] r3 0 r4.2)))
def xOm(a0:List Str)(a1:List Str):List Arg:=[.val (vS .ro .str a0),.val (vS .ro .str a1)]
def xAS(r:Bool):CallO:=(cO (vB r))
def F9(N:Nat):Nat->(List Str)->(List Str)->Int->Option (Bool)
 |0,_,_,_=>none
 |n+1,x0,x1,x5=>bif(decide (x5<(x0.length:Int))) then(if(0:Int)<=x5/\x5<x0.length then if(0:Int)<=x5/\x5<x1.length then bif(!(((x0.getD x5.toNat Ds):Str)==(x1.getD x5.toNat Ds))) then(some false) else((F9 N n x0 x1 (i64.wrap (x5+1)))) else none else none) else(some true)
def Ib(N:Nat)(a0:List Str)(a1:List Str):Option (Bool):=bif((a0.length:Int) != (a1.length:Int)) then(some false) else((F9 N N a0 a1 0))
def xNj(a0:List Int)(a1:List Int):List Arg:=[.val (vS .ro .int a0),.val (vS .ro .int a1)]
def xAu(r:Bool):CallO:=(cO (vB r))
def FSq(N:Nat):Nat->(List Int)->(List Int)->Int->Option (Bool)
 |0,_,_,_=>none
 |n+1,x0,x1,x5=>bif(decide (x5<(x0.length:Int))) then(if(0:Int)<=x5/\x5<x0.length then if(0:Int)<=x5/\x5<x1.length then bif((x0.getD x5.toNat Di) != (x1.getD x5.toNat Di)) then(some false) else((FSq N n x0 x1 (i64.wrap (x5+1)))) else none else none) else(some true)
def IT(N:Nat)(a0:List Int)(a1:List Int):Option (Bool):=bif((a0.length:Int) != (a1.length:Int)) then(some false) else((FSq N N a0 a1 0))
def xOa(a0:List Org)(a1:List Org):List Arg:=[.val (vS .ro .org a0),.val (vS .ro .org a1)]
def xAP(r:Bool):CallO:=(cO (vB r))
def F6(N:Nat):Nat->(List Org)->(List Org)->Int->Option (Bool)
 |0,_,_,_=>none
 |n+1,x0,x1,x5=>bif(decide (x5<(x0.length:Int))) then(if(0:Int)<=x5/\x5<x0.length then if(0:Int)<=x5/\x5<x1.length then bif(!((((Org.cell (x0.getD x5.toNat Do)):Int)==(Org.cell (x1.getD x5.toNat Do)))&&(((Org.row (x0.getD x5.toNat Do)):Int)==(Org.row (x1.getD x5.toNat Do))))) then(some false) else((F6 N n x0 x1 (i64.wrap (x5+1)))) else none else none) else(some true)
def I6(N:Nat)(a0:List Org)(a1:List Org):Option (Bool):=bif((a0.length:Int) != (a1.length:Int)) then(some false) else((F6 N N a0 a1 0))
def Km(a0:Val)(a1:Val)(a2:Bool):List Arg:=[.val (vV .ro a0),.val (vV .ro a1),.val (vB a2)]
def Gd(r:Bool):CallO:=(cO (vB r))
def DB(N:Nat)(q0:Val->Val->Bool->Option (Bool)):Nat->Bool->Int->Val->Val->Option (Bool)
 |0,_,_,_,_=>none
 |n+1,x2,x8,b3,b4=>bif(decide (x8<(b3.rows.length:Int))) then(if(0:Int)<=x8/\x8<b3.rows.length then if(0:Int)<=x8/\x8<b4.rows.length then(IT N (Rowd.cells (b3.rows.getD x8.toNat Ty.row.dflt)) (Rowd.cells (b4.rows.getD x8.toNat Ty.row.dflt))).bind fun r1=>bif(!r1) then(some false) else(bif x2 then((I6 N (Rowd.frm (b3.rows.getD x8.toNat Ty.row.dflt)) (Rowd.frm (b4.rows.getD x8.toNat Ty.row.dflt))).bind fun r2=>bif(!r2) then(some false) else((DB N q0 n x2 (i64.wrap (x8+1)) b3 b4))) else((DB N q0 n x2 (i64.wrap (x8+1)) b3 b4))) else none else none) else(some true)
def F7(N:Nat)(q0:Val->Val->Bool->Option (Bool)):Nat->Bool->Int->Val->Val->Option (Bool)
 |0,_,_,_,_=>none
 |n+1,x2,x7,b3,b4=>bif(decide (x7<(b3.list.length:Int))) then(if(0:Int)<=x7/\x7<b3.list.length then if(0:Int)<=x7/\x7<b4.list.length then(q0 (b3.list.getD x7.toNat Dv) (b4.list.getD x7.toNat Dv) x2).bind fun r1=>bif(!r1) then(some false) else((F7 N q0 n x2 (i64.wrap (x7+1)) b3 b4)) else none else none) else((DB N q0 N x2 0 b3 b4))
def I8(N:Nat)(q0:Val->Val->Bool->Option (Bool))(a0:Val)(a1:Val)(a2:Bool):Option (Bool):=bif(a0.kind != a1.kind) then(some false) else(bif(a0.n != a1.n) then(some false) else(bif(a0.step != a1.step) then(some false) else(bif(!((a0.text:Str)==a1.text)) then(some false) else(bif((a0.list.length:Int) != (a1.list.length:Int)) then(some false) else((Ib N a0.columns a1.columns).bind fun r1=>bif(!r1) then(some false) else(bif((a0.rows.length:Int) != (a1.rows.length:Int)) then(some false) else((F7 N q0 N a2 0 a0 a1))))))))
def Bn(N:Nat):Nat->Val->Val->Bool->Option (Bool)
 |0,_,_,_=>none
 |d+1,a0,a1,a2=>I8 N (Bn N d) a0 a1 a2
def I7(N:Nat)(a0:Val)(a1:Val)(a2:Bool):Option (Bool):=Bn N N a0 a1 a2
def xL9(a0:Val)(a1:Val):List Arg:=[.val (vV .ro a0),.val (vV .ro a1)]
def xMa(r:Bool):CallO:=(cO (vB r))
def BS(N:Nat)(a0:Val)(a1:Val):Option (Bool):=(I7 N a0 a1 true).bind fun r1=>some r1
def xJo(a0:List Int):List Arg:=[.val (vS .ro .byte a0)]
def xJp(r:Bool):CallO:=(cO (vB r))
def GF(N:Nat)(a0:List Int):Option (Bool):=(GG N a0).bind fun r1=>bif r1 then(some true) else((IG N a0).bind fun r2=>(BV N r2.1 r2.2).bind fun r3=>bif r3.2 then(if List.isEmpty r3.1.list=true then if List.isEmpty r3.1.columns=true then if List.isEmpty r3.1.rows=true then(Bk N r2.1 r2.2).bind fun r4=>(BS N (Val.mk r3.1.kind r3.1.n r3.1.step r3.1.text [] [] []) r4).bind fun r5=>bif(!r5) then(some false) else((GY N (Val.mk r3.1.kind r3.1.n r3.1.step r3.1.text [] [] [])).bind fun r6=>bif(!r6) then(some false) else(if 0+r2.2.length<=Lim then(zK N 1).bind fun r7=>(zK N 2).bind fun r8=>(zK N 3).bind fun r9=>(zK N 4).bind fun r10=>(zK N 5).bind fun r11=>if List.length ([]++r2.2)+ [r7.re,r8.re,r9.re,r10.re,r11.re].length<=Lim then(BV N r2.1 (([]++r2.2)++ [r7.re,r8.re,r9.re,r10.re,r11.re])).bind fun r12=>bif r12.2 then(if List.isEmpty r12.1.list=true then if List.isEmpty r12.1.columns=true then if List.isEmpty r12.1.rows=true then(yZ N 4).bind fun r13=>(BS N (Val.mk r12.1.kind r12.1.n r12.1.step r12.1.text [] [] []) r13).bind fun r14=>some r14 else none else none else none) else((yZ N 4).bind fun r13=>(BS N r12.1 r13).bind fun r14=>some r14) else none else none)) else none else none else none) else((Bk N r2.1 r2.2).bind fun r4=>(BS N r3.1 r4).bind fun r5=>bif(!r5) then(some false) else((GY N r3.1).bind fun r6=>
     bif(!r6) then(some false) else(if 0+r2.2.length<=Lim then(zK N 1).bind fun r7=>(zK N 2).bind fun r8=>(zK N 3).bind fun r9=>(zK N 4).bind fun r10=>(zK N 5).bind fun r11=>if List.length ([]++r2.2)+ [r7.re,r8.re,r9.re,r10.re,r11.re].length<=Lim then(BV N r2.1 (([]++r2.2)++ [r7.re,r8.re,r9.re,r10.re,r11.re])).bind fun r12=>bif r12.2 then(if List.isEmpty r12.1.list=true then if List.isEmpty r12.1.columns=true then if List.isEmpty r12.1.rows=true then(yZ N 4).bind fun r13=>(BS N (Val.mk r12.1.kind r12.1.n r12.1.step r12.1.text [] [] []) r13).bind fun r14=>some r14 else none else none else none) else((yZ N 4).bind fun r13=>(BS N r12.1 r13).bind fun r14=>some r14) else none else none))))
end Go.Ab
end
section
namespace Go.Ab
open Go.Proofs Go.Shelf
variable {P:Program} {ρ:Ren}
theorem xED(L:Lays.n125 P ρ):∀args w,(callFunc (ρ.f 125) args).run P w= .ok (.enter (ρ.f 125) args) w:=enters_of L.f125 (by kernel_rfl) rfl
end Go.Ab
end
section
namespace Go.Ab
open Go.Lib Go.Extern Go.Proofs Go.Shelf
variable [Inhabited Lb]
def OrgRow(w:World)(br cap:Nat)(xs:List Org):Prop:=
 xs.length<=cap/\∃cs ty lo hi,w.heap[br]? =some (.cells cs ty (lo,hi))/\cap*2=cs.size/\(∀o,lo<=o->o<hi->cap*2<=o)/\
  ∀m (hm:m<xs.length) k (hk:k<2),cs[m*2+k]? =some ((bH xs[m])[k]'hk)
theorem OrgRow.rd{E:Env}{br cap:Nat}{xs:List Org}(h:OrgRow E.w br cap xs){pl:Pl}{c:Nat}(ho:E.ow br=some (.arr pl c []))(hw:E.hw br=xs.length*2)(n:Nat)(hh:E.hdr n= .slice (some ⟨br,0,none⟩) xs.length cap):
 RdP E.w (okF E pl c (.lnt n)) (qF E pl c (.lnt n)) (.slice (some ⟨br,0,none⟩) xs.length cap) (.sl 2 (xs.map Ty.org.toD)):=by
 obtain⟨hcap,cs,ty,lo,hi,t4,t5,t6,hc⟩:=h;refine .sl br 0 xs.length cap 2 _ (fun m k=>if h:m<xs.length/\k<2 then(bH xs[m])[k]'h.2 else .bool false) (by simp) hcap (fun r hr=> ?_) ⟨⟨ho,hw,hcap,cs,ty,lo,hi,t4,t5,t6⟩,fun _=>hh.symm⟩ (fun m k hm hk=> ?_) (fun m k hm hk=> ?_)
 ·obtain⟨y,_,rfl⟩:=Zk.1 hr;exact Ty.toD_length .org y
 ·rw [dif_pos ⟨hm,hk⟩];refine⟨?_,?_,ho⟩
  ·simp only [World.cell?,t4];rw [Zj];exact hc m hm k hk
  ·rw [hw];omega
 ·have hm' :m<xs.length:=by simpa using hm
  have hr:(xs.map Ty.org.toD)[m]=Ty.org.toD xs[m]:=by rw [Z7]
  have hk' :k<2:=by rw [hr] at hk;exact hk
  rw [dif_pos ⟨hm',hk'⟩];simp only [hr]
  match k,hk' with
  |0,_=>exact .int .i64 _
  |1,_=>exact .int .i64 _
theorem OrgRow.of{E:Env}{pl:Pl}{c n br cap:Nat}{xs:List Org}(hx:xs≠ [])(h:RdP E.w (okF E pl c (.lnt n)) (qF E pl c (.lnt n)) (.slice (some ⟨br,0,none⟩) xs.length cap) (.sl 2 (xs.map Ty.org.toD))):OrgRow E.w br cap xs:=by
 obtain⟨b,off,cap',e,hcap,hrl,hq,u,hcl,hk⟩:=RdP.cells h (by simpa using hx);rw [Zr] at e;obtain⟨rfl,rfl,rfl⟩:br=b/\0=off/\cap=cap' :=by injection e with e1 e2 e3;injection e1 with e1;injection e1 with e1 e4;exact⟨e1,e4,e3⟩
 obtain⟨t1,t2,t3,cs,ty,lo,hi',t4,t5,t6⟩:=hq.1;rw [Zr] at hcap;refine⟨hcap,cs,ty,lo,hi',t4,t5,t6,fun m hm k hk2=> ?_⟩;have g1:=(hcl m k (by simpa using hm) hk2).1;have hr:((xs.map Ty.org.toD)[m]'(by simpa using hm))=Ty.org.toD xs[m]:=by rw [Z7]
 have g2:=hk m k (by simpa using hm) (by rw [hr];exact hk2);rw [Zj] at g1;simp only [World.cell?,t4] at g1;simp only [hr] at g2
 match k,hk2,g1,g2 with
 |0,_,g1,g2=>generalize u m 0=x at g1 g2;simp only [Ty.toD,List.getElem_cons_zero] at g2;cases g2;exact g1
 |1,_,g1,g2=>generalize u m 1=x at g1 g2;simp only [Ty.toD,List.getElem_cons_succ,List.getElem_cons_zero] at g2;cases g2;exact g1
structure Sorted (w:World) (bo br cap:Nat) (xs ys:List Org) (w' :World):Prop where
 os:w'.os=w.os
 tape:w'.tape=w.tape
 output:w'.output=w.output
 size:w.heap.size<=w'.heap.size
 old:∀b,b<w.heap.size->b≠bo->b≠br->w'.heap[b]? =w.heap[b]?
 box:∃ty,w'.heap[bo]? =some (.cells #[.slice (some ⟨br,0,none⟩) xs.length cap] ty (0,0))
 row:OrgRow w' br cap ys
theorem xK8{P:Program}{ρ:Ren}(L:LaysGg.n6 P ρ)(t e:TypeId)(i ie:TypeInfo)(hi:P.info? t=some i)(hd:i.desc= .slice e)(hpk:P.packed t=false)(hie:P.info? e=some ie)(ke:Nat)
 (hke:∀w,(Extern.Rtype.kind e).run P w= .ok ke w) (hnp:ie.hasPointers=false) (hby:ie.bytes=16) (f lf:Nat) (hf:P.funcs.findIdx? (·.name== "internal/reflectlite" ++ ".Swapper$9")=some f)
 {xs ys:List Org} (hl:ys.length=xs.length) (h2:2<=xs.length) (hlen:xs.length<4611686018427387904)
 (hpdq:AbsCalls P (ρ.f 14) [.val (.v true [.clo lf [gi 4],.swp f 0 (typeHandle P e) (gi 4)]),.val (.v false [.int .i64 0]),.val (.v false [.int .i64 xs.length]),.val (.v false [.int .i64 (Lib.bitLen xs.length)]),.gbox [.sl (.lnt 0) .org xs]] ⟨.tup [],[[.sl (.lnt 0) .org ys]],[]⟩)
 {w:World} {bo br cap:Nat} {ty:TypeId} (hbo:w.heap[bo]? =some (.cells #[.slice (some ⟨br,0,none⟩) xs.length cap] ty (0,0))) (hbr:OrgRow w br cap xs) (hne:bo≠br)
 (hbase:∀x∈jW,x.1<w.heap.size/\x.1≠bo/\x.1≠br/\w.heap[x.1]? =some x.2):
 Calls P (ρ.f 6) #[.iface t (.slice (some ⟨br,0,none⟩) xs.length cap),.func (.func lf) #[] #[.pointer (some ⟨bo,0,none⟩)]] w fun en w' =>en= .returned (.tuple #[])/\Sorted w bo br cap xs ys w' :=by
 have hk9:swapperK xs.length ie ke=9:=by
  unfold swapperK;have e0:(xs.length==0)=false:=ZV.2 (by omega);have e1:(xs.length==1)=false:=ZV.2 (by omega);simp [e0,e1,hnp,hby]
 have hbol:bo<w.heap.size:=(Zg.1 hbo).1;have hbrl:br<w.heap.size:=by
  obtain⟨_,cs,ty,lo,hi,h,_⟩:=hbr;exact(Zg.1 h).1
 refine Any.sort_Slice_of_pdq L t e i ie hi hd hpk hie ke hke (some ⟨br,0,none⟩) xs.length cap hlen f (by rw [hk9];exact hf) (.func lf) #[] #[.pointer (some ⟨bo,0,none⟩)] w (Sorted w bo br cap xs ys) ?_;generalize hW:sliceWorld P ρ t (some ⟨br,0,none⟩) xs.length cap w=W;have hWs:W.heap.size=w.heap.size+2:=by rw [<-hW];unfold sliceWorld;rw [gG,gG]
 have hWo:∀b,b<w.heap.size->W.heap[b]? =w.heap[b]? :=by
  intro b hb;rw [<-hW];unfold sliceWorld;have al:∀(w:World) (o:Obj) (b:Nat),b<w.heap.size->(w.alloc o).heap[b]? =w.heap[b]? :=fun w o b hb=>by
   show(w.heap.push o)[b]? =_;rw [ZU,Zf (by omega)]
  rw [al _ _ _ (by rw [gG];omega),al _ _ _ hb]
 have hWos:W.os=w.os/\W.tape=w.tape/\W.output=w.output:=by rw [<-hW];exact⟨rfl,rfl,rfl⟩
 let E:Env:= { w:=W,hw:=fun b=>if b=br then xs.length*2 else if b=bo then 0 else match w.heap[b]? with |some o=>mB o|none=>0,
               ow:=fun b=>if b=bo then some (.box (gi 4)) else if b=br then some (.arr (.k (2*gi 4+1)) 0 []) else none,bx:=fun _=>bo,hdr:=fun _=> .slice (some ⟨br,0,none⟩) xs.length cap }
 have o1:E.ow bo=some (.box (gi 4)):=Zw rfl;have o2:E.ow br=some (.arr (.k (2*gi 4+1)) 0 []):=by show(if br=bo then _ else _)=_;rw [Zf (Ne.symm hne),Zw rfl]
 have o3:∀b,b≠bo->b≠br->E.ow b=none:=fun b h1 h2=>by show(if b=bo then _ else _)=_;rw [Zf h1,Zf h2]
 have hw2:E.hw br=xs.length*2:=Zw rfl;have hE:EnvOk E:=by
  refine⟨fun b hb=> ?_,fun b b' l h1 h2=> ?_,fun b s h=> ?_⟩
  ·have hb:W.heap.size<=b:=hb;refine⟨o3 b (by omega) (by omega),?_⟩;show(if b=br then _ else _)=_;rw [Zf (by omega),Zf (by omega),Yr (by omega)]
  ·by_cases c1:b=bo
   ·subst c1;rw [o1] at h1;cases h1;by_cases c2:b' =b
    ·exact c2.symm
    ·by_cases c3:b' =br
     ·subst c3;rw [o2] at h2;cases h2
     ·rw [o3 b' c2 c3] at h2;cases h2
   ·by_cases c2:b=br
    ·subst c2;rw [o2] at h1;cases h1;by_cases c3:b' =bo
     ·subst c3;rw [o1] at h2;cases h2
     ·by_cases c4:b' =b
      ·exact c4.symm
      ·rw [o3 b' c3 c4] at h2;cases h2
    ·rw [o3 b c1 c2] at h1;cases h1
  ·by_cases c1:b=bo
   ·subst c1;show(if b=br then _ else _)=_;rw [Zf hne,Zw rfl]
   ·by_cases c2:b=br
    ·subst c2;rw [o2] at h;cases h
    ·rw [o3 b c1 c2] at h;cases h
 have hB:eY E:=by
  intro x hx;obtain⟨b1,b2,b3,b4⟩:=hbase x hx;refine⟨by show _<W.heap.size;omega,o3 _ b2 b3,(hWo _ b1).trans b4,?_⟩;show(if x.1=br then _ else _)=_;rw [Zf b3,Zf b2,b4]
 have hrow:OrgRow E.w br cap xs:=by
  obtain⟨h1,cs,ty',lo,hi',h3,h4⟩:=hbr;exact⟨h1,cs,ty',lo,hi',(hWo br hbrl).trans h3,h4⟩
 have hsb:sliceBound P e ie ke (some ⟨br,0,none⟩) xs.length cap= #[.slice (some ⟨br,0,none⟩) xs.length cap,typeHandle P e]:=by
  unfold sliceBound;rw [hk9]
  rfl
 rw [hsb]
 have hA:ArgsAt E 0 [.val (.v true [.clo lf [gi 4],.swp f 0 (typeHandle P e) (gi 4)]),.val (.v false [.int .i64 0]),.val (.v false [.int .i64 xs.length]),.val (.v false [.int .i64 (Lib.bitLen xs.length)]),.gbox [.sl (.lnt 0) .org xs]]
  (#[.agg #[.func (.func lf) #[] #[.pointer (some ⟨bo,0,none⟩)],.func (.func f) #[] #[.slice (some ⟨br,0,none⟩) xs.length cap,typeHandle P e]],.int .i64 0,.int .i64 xs.length,.int .i64 (Lib.bitLen xs.length)]:Array Value).toList:=by
  refine⟨⟨_,rfl,⟨rfl,fun _ _=>trivial⟩,⟨⟨rfl,rfl⟩,fun ad l c he h=>rfl⟩,trivial⟩,⟨rfl,trivial⟩,⟨rfl,trivial⟩,⟨rfl,trivial⟩,⟨o1,_,ty,(hWo bo hbol).trans hbo,?_,trivial⟩,trivial⟩;exact OrgRow.rd hrow o2 hw2 0 rfl
 have hdo:=hpdq E _ hE hB hA;have e14:∀args w,(callFunc (ρ.f 14) args).run P w= .ok (.enter (ρ.f 14) args) w:=enters_of L.f14 (by kernel_rfl) rfl;rcases hdo with ⟨v,w',h1,_⟩|⟨_,h1⟩
 ·rw [e14] at h1;cases h1
 refine h1.mono fun en w' hen=> ?_;cases en with
 |returned v=>
  obtain⟨E',rfl,hx⟩:=hen;have hv:v= .tuple #[]:=by
   obtain⟨vs,rfl,hvs⟩:=(hx.res.vr rfl:VR E' aJ (.h 0) (.tup []) v);cases vs with
   |mk l=>cases l with
    |nil=>rfl
    |cons x l=>exact hvs.elim
  subst hv;obtain⟨⟨b1,vals,ty',b2,b3⟩,_⟩:=(hx.outs:bM E' (gi 4) bo [.sl (.lnt 0) .org ys]/\True);have hhdr:E'.hdr 0= .slice (some ⟨br,0,none⟩) xs.length cap:=by rw [hx.hdr]
  cases vals with
  |mk l=>
   match l,b3 with
   | [hv],b3=>
     have b4:RdP E'.w (okF E' (.k (2*gi 4+1)) 0 (.lnt 0)) (qF E' (.k (2*gi 4+1)) 0 (.lnt 0)) hv (.sl 2 (ys.map Ty.org.toD)):=b3.1;have b5:hv=E'.hdr 0:=(RdP.top b4).2 rfl;rw [hhdr] at b5;subst b5;refine⟨rfl,hx.os.trans hWos.1,hx.tape.trans hWos.2.1,hx.output.trans hWos.2.2,by have:=hx.size;show _<=E'.w.heap.size;have h3:W.heap.size<=E'.w.heap.size:=this;omega,fun b hb hb1 hb2=> ?_,⟨ty',b2⟩,?_⟩
     ·exact((hx.old b (by show b<W.heap.size;omega) (o3 b hb1 hb2)).1).trans (hWo b hb)
     ·have:ys≠ []:=by intro e;rw [e] at hl;simp at hl;omega
      rw [<-hl] at b4;exact OrgRow.of this b4
   | [],b3=>exact b3.elim
   |_::_::_,b3=>exact b3.2.elim
 |_=>exact hen.elim
end Go.Ab
end
section
namespace Go.Ab
open Go.Proofs Go.RowKit
structure OrgT (P:Program) (te ti tm tb ts:TypeId):Prop where
 key:P.underlying te=some (.struct #[{ name:= "Cell",type:=ti,offset:=0,embedded:=false,tag:= "",pkgPath:= "",byteOffset:=0 },{ name:= "Row",type:=ti,offset:=1,embedded:=false,tag:= "",pkgPath:= "",byteOffset:=8 }])
 held:P.stoodInHeld te=false
 int:P.underlying ti=some (.int .i64)
 map:P.underlying tm=some (.map te tb)
 zero:∀w,(zeroValue tb).run P w= .ok (.bool false) w
 slice:P.underlying ts=some (.slice te)
def Ac(o:Org):Value:= .agg #[.int .i64 o.cell,.int .i64 o.row]
section
variable {P:Program} {te ti tm tb ts:TypeId} (T:OrgT P te ti tm tb ts) {w:World}
include T
theorem OU:P.plainKey ti=true:=by simp [Program.plainKey,T.int]
theorem OJ(o:Org):(part ti #[.int .i64 o.cell,.int .i64 o.row] 0).run P w= .ok (.int .i64 o.cell) w:=run_part_plain w (OU T) rfl
theorem OK(o:Org):(part ti #[.int .i64 o.cell,.int .i64 o.row] 1).run P w= .ok (.int .i64 o.row) w:=run_part_plain w (OU T) rfl
theorem xKP(em:Bool)(n:Nat)(k:IntKind)(x:Int):(Instr.checkKey em (n+1) ti (.int k x)).run P w= .ok () w:=by
 unfold Instr.checkKey;simp [run_underlying T.int]
theorem O3(em:Bool)(n:Nat)(o:Org):(Instr.checkKey em (n+2) te (Ac o)).run P w= .ok () w:=by
 unfold Instr.checkKey Ac;simp [run_underlying T.key,OJ T,OK T,xKP T,Result.andThen]
theorem O4(a b:Org):(Op.equal te (Ac a) (Ac b)).run P w= .ok (a==b) w:=by
 have hf:P.fieldsOf te= #[{ name:= "Cell",type:=ti,offset:=0,embedded:=false,tag:= "",pkgPath:= "",byteOffset:=0 },{ name:= "Row",type:=ti,offset:=1,embedded:=false,tag:= "",pkgPath:= "",byteOffset:=8 }]:=by unfold Program.fieldsOf;rw [T.key]
 show(Op.equalIn 10000 te (.agg _) (.agg _)).run P w=_;rw [run_equalIn_agg w 9999 te _ _ (by rw [hf];exact T.key) T.held,hf];have e1:=run_equalIn_int (P:=P) w 9998 ti .i64 .i64 a.cell b.cell T.int;have e2:=run_equalIn_int (P:=P) w 9998 ti .i64 .i64 a.row b.row T.int;have h:(a==b)=((a.cell==b.cell)&&(a.row==b.row)):=by
  cases a;cases b;rw [YV];simp
 rw [h];simp [Op.eqFields,OJ T,OK T,e1,e2,Result.andThen];by_cases h1:a.cell=b.cell <;>by_cases h2:a.row=b.row <;>simp [h1,h2]
end
def SetMap(w:World)(b:Nat)(ks:List Org):Prop:=
 ∃es clock,w.heap[b]? =some (.map es clock)/\es.toList.map (·.key)=ks.map Ac/\∀e∈es.toList,e.val= .bool true
theorem SetMap.kept{w w' :World}{b:Nat}{ks:List Org}(h:SetMap w b ks)(e:w'.heap[b]? =w.heap[b]?):SetMap w' b ks:=by
 obtain⟨es,c,h1,h2⟩:=h;exact⟨es,c,e.trans h1,h2⟩
section
variable {P:Program} {te ti tm tb ts:TypeId} (T:OrgT P te ti tm tb ts) {w:World}
include T
theorem xEF(o:Org):∀(es:List MapEntry) (ks:List Org) (i:Nat),es.map (·.key)=ks.map Ac->(∀e∈es,e.val= .bool true)->
 ∃r,(Instr.findAsking te (Ac o) es i).run P w= .ok r w/\(ks.contains o=true->∃j,r=some (j,.bool true))/\(ks.contains o=false->r=none):=by
 intro es
 induction es with
 |nil=>
  intro ks i h _;have:ks=[]:=by simpa using h.symm
  subst this;exact⟨none,by simp [Instr.findAsking],by simp,fun _=>rfl⟩
 |cons e es ih=>
  intro ks i h hv;cases ks with
  |nil=>simp at h
  |cons k ks=>
   simp only [ZX,Y6] at h;obtain⟨h1,h2⟩:=h;obtain⟨r,hr,p1,p2⟩:=ih ks (i+1) h2 (fun x hx=>hv x (Zq _ hx));by_cases hk:o=k
   ·subst hk;refine⟨some (i,.bool true),?_,fun _=>⟨i,rfl⟩,by simp⟩;unfold Instr.findAsking;simp [h1,O4 T,Result.andThen,hv e Zp]
   ·have hb:(o==k)=false:=by simpa using hk
    refine⟨r,?_,fun hc=>p1 ?_,fun hc=>p2 ?_⟩
    ·unfold Instr.findAsking;simp [h1,O4 T,Result.andThen,hb,hr]
    ·rw [YK,hb,ZE] at hc;exact hc
    ·rw [YK,hb,ZE] at hc;exact hc
theorem Lm(o:Org)(es:List MapEntry)(ks:List Org)(h:es.map (·.key)=ks.map Ac)(hv:∀e∈es,e.val= .bool true):
 ∃r,(Instr.findKey te (Ac o) es).run P w= .ok r w/\(ks.contains o=true->∃j,r=some (j,.bool true))/\(ks.contains o=false->r=none):=by
 cases es with
 |nil=>
  have:ks=[]:=by simpa using h.symm
  subst this;exact⟨none,by simp [Instr.findKey,run_underlying T.key,Instr.findNow,Result.andThen],by simp,fun _=>rfl⟩
 |cons e es=>
  cases ks with
  |nil=>simp at h
  |cons k ks=>
   obtain⟨r,hr,p⟩:=xEF T (w:=w) o (e::es) (k::ks) 0 h hv;refine⟨r,?_,p⟩;have:Instr.findNow (.struct #[{ name:= "Cell",type:=ti,offset:=0,embedded:=false,tag:= "",pkgPath:= "",byteOffset:=0 },{ name:= "Row",type:=ti,offset:=1,embedded:=false,tag:= "",pkgPath:= "",byteOffset:=8 }]) (Ac o) (e::es) 0=none:=by
    simp [Instr.findNow,Instr.sameNow]
   simp [Instr.findKey,run_underlying T.key,this,Result.andThen,hr]
theorem xKQ{b:Nat}{ks:List Org}(h:SetMap w b ks)(o:Org):(Instr.lookup tm (.map (some b)) (Ac o) false).run P w= .ok (.bool (ks.contains o)) w:=by
 obtain⟨es,c,h1,h2,h3⟩:=h;obtain⟨r,hr,p1,p2⟩:=Lm T (w:=w) o es.toList ks h2 h3;unfold Instr.lookup;have hg:(getObj b).run P w= .ok (.map es c) w:=by simp [getObj,Sem.run,h1]
 have hck:(Instr.checkKey es.isEmpty 10000 te (Ac o)).run P w= .ok () w:=O3 T es.isEmpty 9998 o;cases hc:ks.contains o with
 |true=>
  obtain⟨j,rfl⟩:=p1 hc;simp [run_underlying T.map,hg,hck,hr,Result.andThen]
 |false=>
  obtain rfl:=p2 hc;simp [run_underlying T.map,hg,hck,hr,T.zero,Result.andThen]
theorem xKS{b:Nat}{ks:List Org}(h:SetMap w b ks)(o:Org)(hc:ks.contains o=false):
 ∃w',(Instr.mapUpdate tm (.map (some b)) (Ac o) (.bool true)).run P w= .ok () w' /\SetMap w' b (ks++ [o])/\w.grownBy w' (some b)/\w'.heap.size=w.heap.size:=by
 obtain⟨es,c,h1,h2,h3⟩:=h;obtain⟨r,hr,p1,p2⟩:=Lm T (w:=w) o es.toList ks h2 h3;obtain rfl:=p2 hc;have hb:b<w.heap.size:=(Zg.1 h1).1;have hg:(getObj b).run P w= .ok (.map es c) w:=by simp [getObj,Sem.run,h1]
 have hck:(Instr.checkKey false 10000 te (Ac o)).run P w= .ok () w:=O3 T false 9998 o;have hs:∀ob,(setObj b ob).run P w= .ok () { w with heap:=w.heap.setIfInBounds b ob }:=by
  intro ob;simp [setObj,Sem.run,h1]
 refine⟨{ w with heap:=w.heap.setIfInBounds b (.map (es.push { key:=Ac o,val:= .bool true,born:=c }) (c+1)) },?_,?_,⟨rfl,rfl,rfl,by simp,fun k hk hne=> ?_⟩,by simp⟩
 ·unfold Instr.mapUpdate;simp [run_underlying T.map,hg,hck,hr,hs,Result.andThen]
 ·refine⟨_,_,by simp [hb];exact⟨rfl,rfl⟩,?_,?_⟩
  ·simp [h2]
  ·intro e he;simp at he;rcases he with he|rfl
   ·exact h3 e (by simpa using he)
   ·rfl
 ·have:b≠k:=fun e=>hne (by rw [e]);simp [YU,this]
end
section
variable {P:Program} {te ti tm tb ts:TypeId} (w:World) {ops:Array Oper} {rest:List Oper} {o:Oper} {a:Act} {Q:Exit->Act->World->Prop}
theorem xBf(T:OrgT P te ti tm tb ts)(hg:o.guard=none)(m x:Operand)(hop:o.op=Op.lookup tm m x false)(b:Nat)(ks:List Org)(hm:a.eval m= .map (some b))(hs:SetMap w b ks)(c:Org)(hx:a.eval x=Ac c)(bv:Bool)(hbv:ks.contains c=bv)
 (hK:wpList P ops Q rest (a.put o.dst (.bool bv)) w):wpList P ops Q (o::rest) a w:=by
 refine wpList_plain hg fun K' hK' => ?_;have hrun:=xKQ T hs c;rw [hbv] at hrun;unfold Oper.wp;simp [execOp,hop,hm,hx,hrun,Result.andThen];exact hK' _ _ hK
theorem xPz(T:OrgT P te ti tm tb ts)(hg:o.guard=none)(m x v:Operand)(hop:o.op=Op.mapUpdate tm m x v)(b:Nat)(ks:List Org)(hm:a.eval m= .map (some b))(hs:SetMap w b ks)(c:Org)(hx:a.eval x=Ac c)(hv:a.eval v= .bool true)
 (hc:ks.contains c=false) (hK:∀w',SetMap w' b (ks++ [c])->w.grownBy w' (some b)->w'.heap.size=w.heap.size->wpList P ops Q rest (a.put o.dst undef) w'):wpList P ops Q (o::rest) a w:=by
 refine wpList_plain hg fun K' hK' => ?_;obtain⟨w',hrun,r1,r2,r3⟩:=xKS T hs c hc;unfold Oper.wp;simp [execOp,hop,hm,hx,hv,hrun,Result.andThen];exact hK' _ _ (hK w' r1 r2 r3)
end
def AD(os:List Org):List Value:=os.flatMap bH
theorem Ep:∀os:List Org,(AD os).length=os.length*2
 | []=>rfl
 |o::os=>by
  show(bH o++AD os).length=_;rw [jA,Ep os];simp [bH];omega
theorem xKg(a b:List Org):AD (a++b)=AD a++AD b:=List.flatMap_append
theorem Da:∀(os:List Org) (m:Nat) (hm:m<os.length) (k:Nat) (hk:k<2),(AD os)[m*2+k]? =some ((bH os[m])[k]'hk)
 | [],m,hm,_,_=>absurd hm (by simp)
 |o::os,0,hm,k,hk=>by
  show(bH o++AD os)[0*2+k]? =_;rw [X8,Zj,Ze hk];exact Zx hk
 |o::os,m+1,hm,k,hk=>by
  show(bH o++AD os)[(m+1)*2+k]? =_;rw [Z3 (by show 2<=_;omega)];have e:(m+1)*2+k - (bH o).length=m*2+k:=by show(m+1)*2+k - 2=_;omega
  rw [e];exact Da os m (by simpa using hm) k hk
theorem xKh(os:List Org):∀u∈AD os,u.oneCell' =true:=by
 intro u hu;obtain⟨o,_,hu⟩:=YP.1 hu;simp only [bH,Zo,Z2,or_false] at hu;rcases hu with rfl|rfl <;>rfl
def RowIn(w:World)(v:Value)(os:List Org):Prop:=
 ∃p c,v= .slice p os.length c/\(os=[]\/∃a:Addr,p=some a/\a.block<w.heap.size/\∀j u,(AD os)[j]? =some u->w.cell? (a.add j)=some u)
theorem xKO{P:Program}(w:World)(t ty e:TypeId)(i:TypeInfo)(ht:P.underlying t=some (.slice e))(hi:P.info? e=some i)(b:Option Addr)(n cap c:Nat)(h:n<=cap):
 (Builtin.append_ #[t,t] ty #[.slice b n cap,.slice none 0 c]).run P w= .ok (.slice b n cap) w:=by
 cases b with
 |none=>simp [Builtin.append_,run_underlying ht,sizeOf,typeInfo,hi,Builtin.lenOf,Builtin.firstCells,h,Result.andThen]
 |some ad=>simp [Builtin.append_,run_underlying ht,sizeOf,typeInfo,hi,Builtin.lenOf,Builtin.firstCells,storeCells,h,Result.andThen]
def OwnRow(w:World)(te g cap:Nat)(xs:List Org):Prop:=
 ∃cur,w.heap[g]? =some (.cells cur te (0,0))/\xs.length<=cap/\cap<=maxLen/\cur.size=cap*2/\cur.toList.take (xs.length*2)=AD xs
theorem OwnRow.kept{w w' :World}{te g cap:Nat}{xs:List Org}(h:OwnRow w te g cap xs)(e:w'.heap[g]? =w.heap[g]?):OwnRow w' te g cap xs:=by
 obtain⟨cur,h1,h2⟩:=h;exact⟨cur,e.trans h1,h2⟩
theorem OwnRow.lt{w:World}{te g cap:Nat}{xs:List Org}(h:OwnRow w te g cap xs):g<w.heap.size:=by
 obtain⟨cur,h1,h2⟩:=h;exact(Zg.1 h1).1
theorem OwnRow.cell{w:World}{te g cap:Nat}{xs:List Org}(h:OwnRow w te g cap xs){j:Nat}{u:Value}(hj:(AD xs)[j]? =some u):w.cell? ⟨g,j,none⟩=some u:=by
 obtain⟨cur,h1,h2,h3,h4,h5⟩:=h;simp only [World.cell?,h1];rw [<-h5,YL] at hj;split at hj
 ·simpa using hj
 ·cases hj
theorem OwnRow.org{w:World}{te g cap:Nat}{xs:List Org}(h:OwnRow w te g cap xs):OrgRow w g cap xs:=by
 have hc:=fun j u=>h.cell (j:=j) (u:=u);obtain⟨cur,h1,h2,h3,h4,h5⟩:=h;refine⟨h2,cur,te,0,0,h1,h4.symm,fun o a b=>by omega,fun m hm k hk=> ?_⟩;have:=hc _ _ (Da xs m hm k hk);simpa [World.cell?,h1] using this
theorem xKN{P:Program}{te ti tm tb ts:TypeId}(T:OrgT P te ti tm tb ts)(w:World)(ty:Nat)(i:TypeInfo)(hi:P.info? te=some i){z:Value}(hz:i.zero=some z)(hsize:i.size=2)(hby:i.bytes=16)(hzs:z.cells.size=2)
 {g cap:Nat} {xs:List Org} (hown:OwnRow w te g cap xs) {u:Value} {ys:List Org} (hin:RowIn w u ys) (hlen:xs.length+ys.length<=1000000000000):
 ∃g' cap' w',(Builtin.append_ #[ts,ts] ty #[.slice (some ⟨g,0,none⟩) xs.length cap,u]).run P w= .ok (.slice (some ⟨g',0,none⟩) (xs++ys).length cap') w' /\OwnRow w' te g' cap' (xs++ys)/\w.grownBy w' (some g)/\(g' =g\/g' =w.heap.size):=by
 obtain⟨p,c,rfl,hp⟩:=hin
 have hown0:w.ownsRow 0 te 2 (.slice (some ⟨g,0,none⟩) xs.length cap) xs.length (AD xs):=by
  obtain⟨cur,h1,h2,h3,h4,h5⟩:=hown;exact⟨Ep xs,.inr ⟨g,cap,cur,rfl,Z9 _,h1,h2,h3,h4,h5⟩⟩
 have main:∀ad:Addr,(∀j u,(AD ys)[j]? =some u->w.cell? (ad.add j)=some u)->∃g' cap' w',(Builtin.append_ #[ts,ts] ty #[.slice (some ⟨g,0,none⟩) xs.length cap,.slice (some ad) ys.length c]).run P w= .ok (.slice (some ⟨g',0,none⟩) (xs++ys).length cap') w' /\
  OwnRow w' te g' cap' (xs++ys)/\w.grownBy w' (some g)/\(g' =g\/g' =w.heap.size):=by
  intro ad had;obtain⟨v',w',hr,h2,h3,h4,h5⟩:=run_append_own_at (P:=P) w 0 ts ty te i z 2 16 T.slice hi hz hsize hby hzs (by decide) _ xs.length (AD xs) hown0 ad ys.length c (AD ys) (Ep ys) had (xKh ys) (by unfold maxLen;omega) (by omega) (Z9 _);rcases h2.2 with ⟨rfl,_⟩|⟨g',cap',cur,rfl,_,q1,q2,q3,q4,q5⟩
  ·have:=h4.1 rfl;exact absurd this.1 (by simp)
  ·refine⟨g',cap',w',by rw [hr,jA],⟨cur,q1,by rw [jA];exact q2,q3,q4,by rw [jA,xKg];exact q5⟩,h3,?_⟩;simpa [Value.ownBlock] using h5
 rcases hp with hnil|⟨ad,rfl,_,had⟩
 ·subst hnil;cases p with
  |some ad=>exact main ad (fun j u h=>by simp [AD] at h)
  |none=>
   have hn:xs.length<=cap:=by obtain⟨cur,h1,h2,_⟩:=hown;exact h2
   refine⟨g,cap,w,?_,by rw [Zb];exact hown,⟨rfl,rfl,rfl,Zi _,fun _ _ _=>rfl⟩,.inl rfl⟩;rw [Zb];exact xKO w ts ty te i T.slice hi (some ⟨g,0,none⟩) xs.length cap c hn
 ·exact main ad had
theorem Kw{P:Program}{te ti tm tb ts:TypeId}(w:World){ops:Array Oper}{rest:List Oper}{o:Oper}{a:Act}{Q:Exit->Act->World->Prop}(T:OrgT P te ti tm tb ts)(hg:o.guard=none)(s x:Operand)
 (hop:o.op= .call { callee:= .builtin .append,args:= #[s,x],argTypes:= #[ts,ts] }) (i:TypeInfo) (hi:P.info? te=some i) {z:Value} (hz:i.zero=some z) (hsize:i.size=2) (hby:i.bytes=16) (hzs:z.cells.size=2)
 (g cap:Nat) (xs:List Org) (hs:a.eval s= .slice (some ⟨g,0,none⟩) xs.length cap) (hown:OwnRow w te g cap xs) (u:Value) (hx:a.eval x=u) (ys:List Org) (hin:RowIn w u ys) (hlen:xs.length+ys.length<=1000000000000)
 (hK:∀g' cap' w',OwnRow w' te g' cap' (xs++ys)->w.grownBy w' (some g)->(g' =g\/g' =w.heap.size)->wpList P ops Q rest (a.put o.dst (.slice (some ⟨g',0,none⟩) (xs++ys).length cap')) w'):
 wpList P ops Q (o::rest) a w:=by
 refine wpList_plain hg fun K' hK' => ?_;obtain⟨g',cap',w',hr,h2,h3,h4⟩:=xKN (P:=P) T w o.type i hi hz hsize hby hzs hown hin hlen;unfold Oper.wp execOp;simp only [hop,resolve,invoke,builtin,Sem.run_bind,Sem.run_pure,Result.andThen_ok,List.map_toArray,ZX,Ys,hs,hx,hr];exact hK' _ _ (hK g' cap' w' h2 h3 h4)
theorem RowIn.kept{w w' :World}{v:Value}{os:List Org}(h:RowIn w v os)(hs:w.heap.size<=w'.heap.size)(ho:∀b,b<w.heap.size->w'.heap[b]? =w.heap[b]?):RowIn w' v os:=by
 obtain⟨p,c,rfl,h⟩:=h;refine⟨p,c,rfl,h.imp id ?_⟩;rintro ⟨a,rfl,ha,hc⟩;refine⟨a,rfl,by omega,fun j u hj=> ?_⟩;rw [<-hc j u hj];have e:(a.add j).block=a.block:=by unfold Addr.add;split <;>rfl
 simp only [World.cell?,e,ho _ ha]
theorem AA{w:World}{o:Obj}{b:Nat}(hb:b<w.heap.size):(w.alloc o).heap[b]? =w.heap[b]? :=Below.heap_alloc w o b hb
theorem zD(w:World)(o:Obj):(w.alloc o).heap.size=w.heap.size+1:=YC _
theorem RowIn.below{w w' :World}{v:Value}{os:List Org}(h:RowIn w v os)(hb:Below w.heap.size w w'):RowIn w' v os:=h.kept hb.size hb.block
theorem xKY(w:World)(o1 o2 o3:Obj)(te:TypeId):OwnRow ((((w.alloc o1).alloc o2).alloc o3).alloc (.cells #[] te)) te (w.heap.size+1+1+1) 0 []:=by
 refine⟨#[],?_,Zi _,by decide,rfl,rfl⟩;have e:w.heap.size+1+1+1=(((w.alloc o1).alloc o2).alloc o3).heap.size:=by rw [zD,zD,zD]
 rw [e];show(Array.push _ _)[_]? =_;rw [ZU,Zw rfl]
theorem Iz(w:World)(o1 o2 o3 o4:Obj):Below w.heap.size w ((((w.alloc o1).alloc o2).alloc o3).alloc o4):=
 ((((Below.refl w.heap.size w).alloc (Zi _) o1).alloc (by rw [zD];omega) o2).alloc (by rw [zD,zD];omega) o3).alloc (by rw [zD,zD,zD];omega) o4
theorem Lh(os:List Org)(k:Nat)(hk:k<os.length):ded (os.take (k+1))=tH (ded (os.take k)) os[k]:=by
 unfold ded;rw [Yl hk,Y5]
 rfl
theorem JJ(os:List Org):(ded os).length<=os.length:=by
 unfold ded;have:∀(os acc:List Org),(os.foldl tH acc).length<=acc.length+os.length:=by
  intro os
  induction os with
  |nil=>intro acc;simp
  |cons o os ih=>
   intro acc;rw [List.foldl_cons];refine ZF (ih _) ?_;unfold tH;split <;>simp <;>omega
 simpa using this os []
structure URel (w:World) (te ts B S ga ca:Nat) (all:List Org) (k g cap:Nat) (wr:World):Prop where
 set:SetMap wr B (ded (all.take k))
 box:wr.heap[B+1+1]? =some (.cells #[.slice (some ⟨g,0,none⟩) (ded (all.take k)).length cap] ts (0,0))
 row:OwnRow wr te g cap (ded (all.take k))
 all:OwnRow wr te ga ca all
 below:Below B w wr
 size:S<=wr.heap.size
 hg:g=B+1\/S<=g
 hga:B+3<=ga/\ga<S
theorem URel.cell{w wr:World}{te ts B S ga ca k g cap:Nat}{all:List Org}(h:URel w te ts B S ga ca all k g cap wr):wr.cell? ⟨B+1+1,0,none⟩=some (.slice (some ⟨g,0,none⟩) (ded (all.take k)).length cap):=by
 simp [World.cell?,h.box]
theorem URel.old{w wr:World}{te ts B S ga ca k g cap:Nat}{all:List Org}(h:URel w te ts B S ga ca all k g cap wr)(hk:k<all.length)(hc:(ded (all.take k)).contains all[k]=true)(o:Obj):URel w te ts B S ga ca all (k+1) g cap (wr.alloc o):=by
 have hsz:=h.size;have hal:∀b,b<wr.heap.size->(wr.alloc o).heap[b]? =wr.heap[b]? :=fun b hb=>AA (by omega);have e:ded (all.take (k+1))=ded (all.take k):=by rw [Lh _ _ hk];unfold tH;rw [Zw hc]
 have h1:=h.hga;refine⟨by rw [e];exact h.set.kept (hal _ (by omega)),by rw [e,hal _ (by omega)];exact h.box,by rw [e];exact h.row.kept (hal _ h.row.lt),h.all.kept (hal _ h.all.lt),h.below.alloc (by omega) _,by rw [zD];omega,h.hg,h1⟩
theorem xKZ{w:World}{b:Nat}{v0 v:Value}{ty:TypeId}(h:w.heap[b]? =some (.cells #[v0] ty (0,0))):(w.setCell ⟨b,0,none⟩ v).heap[b]? =some (.cells #[v] ty (0,0))/\∀k,k≠b->(w.setCell ⟨b,0,none⟩ v).heap[k]? =w.heap[k]? :=by
 refine⟨?_,fun k hk=>Below.heap_setCell w _ v k hk⟩;have hb:b<w.heap.size:=(Zg.1 h).1;simp [World.setCell,Yo,h]
theorem URel.new{w wr w2 w4:World}{te ts B S ga ca k g cap g' cap' :Nat}{all:List Org}(h:URel w te ts B S ga ca all k g cap wr)(hk:k<all.length)(hc:(ded (all.take k)).contains all[k]=false){o1 o3:Obj}
 (s2:SetMap w2 B (ded (all.take k)++ [all[k]])) (g2:(wr.alloc o1).grownBy w2 (some B)) (z2:w2.heap.size=(wr.alloc o1).heap.size)
 (r4:OwnRow w4 te g' cap' (ded (all.take k)++ [all[k]])) (g4:(w2.alloc o3).grownBy w4 (some g)) (hg' :g' =g\/g' =(w2.alloc o3).heap.size):
 URel w te ts B S ga ca all (k+1) g' cap' (w4.setCell ⟨B+1+1,0,none⟩ (.slice (some ⟨g',0,none⟩) (ded (all.take k)++ [all[k]]).length cap')):=by
 have hsz:=h.size;have e:ded (all.take (k+1))=ded (all.take k)++ [all[k]]:=by rw [Lh _ _ hk];unfold tH;rw [Zf (by rw [hc];simp)]
 have h1:=h.hga;have h2:=h.hg;have hgl:=h.row.lt;have zs1:(wr.alloc o1).heap.size=wr.heap.size+1:=zD _ _;have zs3:(w2.alloc o3).heap.size=w2.heap.size+1:=zD _ _;have z4:=g4.size;have q1:∀b,b<wr.heap.size->b≠B->w2.heap[b]? =wr.heap[b]? :=fun b hb hne=>(g2.block b (by omega) (by simp;omega)).trans (AA (by omega));have q4:∀b,b<wr.heap.size->b≠B->b≠g->w4.heap[b]? =wr.heap[b]? :=fun b hb hne hne2=>((g4.block b (by omega) (by simp;omega)).trans (AA (by omega))).trans (q1 b hb hne);have hbx:w4.heap[B+1+1]? =some (.cells #[.slice (some ⟨g,0,none⟩) (ded (all.take k)).length cap] ts (0,0)):=(q4 _ (by omega) (by omega) (by omega)).trans h.box;obtain⟨b1,b2⟩:=xKZ (v:= .slice (some ⟨g',0,none⟩) (ded (all.take k)++ [all[k]]).length cap') hbx;refine⟨?_,?_,?_,?_,?_,?_,?_,h1⟩
 ·rw [e];exact s2.kept ((b2 _ (by omega)).trans ((g4.block B (by omega) (by simp;omega)).trans (AA (by omega))))
 ·rw [e];exact b1
 ·rw [e];exact r4.kept (b2 _ (by omega))
 ·exact h.all.kept ((b2 _ (by omega)).trans (q4 _ h.all.lt (by omega) (by omega)))
 ·refine Below.setCell ?_ (by show B<=B+1+1;omega) _;refine Below.grown ?_ g4 (by omega) (fun k hk=>by cases hk;omega);refine Below.alloc ?_ (by omega) _;refine Below.grown ?_ g2 (by omega) (fun k hk=>by cases hk;omega);exact h.below.alloc (by omega) _
 ·have:(w4.setCell ⟨B+1+1,0,none⟩ (.slice (some ⟨g',0,none⟩) (ded (all.take k)++ [all[k]]).length cap')).heap.size=w4.heap.size:=by simp [World.setCell]
  omega
 ·omega
theorem URel.start{w w1 w2:World}{te ts g1 g2 c2:Nat}{xs ys:List Org}(r2:OwnRow w2 te g2 c2 ([]++xs++ys))
 (gr1:((((w.alloc (.map #[] 0)).alloc (.cells #[] te)).alloc (.cells #[.slice (some { block:=w.heap.size+1,off:=0 }) 0 0] ts)).alloc (.cells #[] te)).grownBy w1 (some (w.heap.size+1+1+1)))
 (e1:g1=w.heap.size+1+1+1\/g1=((((w.alloc (.map #[] 0)).alloc (.cells #[] te)).alloc (.cells #[.slice (some { block:=w.heap.size+1,off:=0 }) 0 0] ts)).alloc (.cells #[] te)).heap.size)
 (gr2:w1.grownBy w2 (some g1)) (e2:g2=g1\/g2=w1.heap.size):URel w te ts w.heap.size w2.heap.size g2 c2 (xs++ys) 0 (w.heap.size+1) 0 w2:=by
 generalize hA:((w.alloc (.map #[] 0)).alloc (.cells #[] te)).alloc (.cells #[.slice (some { block:=w.heap.size+1,off:=0 }) 0 0] ts)=A at gr1 e1;have za:A.heap.size=w.heap.size+3:=by rw [<-hA,zD,zD,zD]
 have z4:(A.alloc (.cells #[] te)).heap.size=w.heap.size+4:=by rw [zD,za]
 have s1:=gr1.size;have s2:=gr2.size;have a0:A.heap[w.heap.size]? =some (.map #[] 0):=by
  rw [<-hA,AA (by rw [zD,zD];omega),AA (by rw [zD];omega)];show(Array.push _ _)[_]? =_;rw [ZU,Zw rfl]
 have a1:A.heap[w.heap.size+1]? =some (.cells #[] te):=by
  rw [<-hA,AA (by rw [zD,zD];omega)];show(Array.push _ _)[_]? =_;rw [ZU,Zw (zD _ _).symm]
 have a2:A.heap[w.heap.size+1+1]? =some (.cells #[.slice (some { block:=w.heap.size+1,off:=0 }) 0 0] ts):=by
  rw [<-hA];show(Array.push _ _)[_]? =_;rw [ZU,Zw (by rw [zD,zD])]
 have keep:∀b,b<w.heap.size+3->w2.heap[b]? =A.heap[b]? :=fun b hb=>
  (gr2.block b (by omega) (by simp;omega)).trans ((gr1.block b (by omega) (by simp;omega)).trans (AA (by omega)))
 have hd:ded ((xs++ys).take 0)=[]:=by simp [ded]
 refine⟨?_,?_,?_,by simpa using r2,?_,Zi _,.inl rfl,by omega,?_⟩
 ·rw [hd];exact⟨#[],0,(keep _ (by omega)).trans a0,rfl,by simp⟩
 ·rw [hd];exact(keep _ (by omega)).trans a2
 ·rw [hd];exact⟨#[],(keep _ (by omega)).trans a1,Zi _,by decide,rfl,rfl⟩
 ·refine Below.grown (Below.grown ?_ gr1 (by omega) (fun k hk=>by cases hk;omega)) gr2 (by omega) (fun k hk=>by cases hk;omega);rw [<-hA];exact Iz w _ _ _ _
 ·exact r2.lt
theorem URel.mid{w wr w3:World}{te ts B S ga ca k g cap:Nat}{all:List Org}(h:URel w te ts B S ga ca all k g cap wr){a b:Value}(g3:(wr.alloc (.cells #[a,b] te)).grownBy w3 (some B))(z3:w3.heap.size=(wr.alloc (.cells #[a,b] te)).heap.size):
 w3.cell? ⟨B+1+1,0,none⟩=some (.slice (some ⟨g,0,none⟩) (ded (all.take k)).length cap)/\w3.cell? ⟨wr.heap.size,0,none⟩=some a/\w3.cell? ⟨wr.heap.size,1,none⟩=some b/\∀o,OwnRow (w3.alloc o) te g cap (ded (all.take k)):=by
 have hsz:=h.size;have h1:=h.hga;have h2:=h.hg;have hgl:=h.row.lt;have zs1:=zD wr (.cells #[a,b] te);have q1:∀b,b<wr.heap.size->b≠B->w3.heap[b]? =wr.heap[b]? :=fun b hb hne=>(g3.block b (by omega) (by simp;omega)).trans (AA (by omega));have qn:w3.heap[wr.heap.size]? =some (.cells #[a,b] te):=by
  rw [g3.block _ (by omega) (by simp;omega)];show(Array.push _ _)[_]? =_;rw [ZU,Zw rfl]
 refine⟨?_,by simp [World.cell?,qn],by simp [World.cell?,qn],fun o=> ?_⟩
 ·simp only [World.cell?,q1 (B+1+1) (by omega) (by omega),h.box]
  rfl
 ·exact h.row.kept ((AA (by omega)).trans (q1 g hgl (by omega)))
theorem xKH(w:World)(te:Nat)(c:Org):RowIn (w.alloc (.cells #[.int .i64 c.cell,.int .i64 c.row] te)) (.slice (some ⟨w.heap.size,0,none⟩) 1 1) [c]:=by
 refine⟨_,1,rfl,.inr ⟨_,rfl,by rw [zD];exact Nat.lt_succ_self _,fun j u hj=> ?_⟩⟩;have hq:∀i,(w.alloc (.cells #[.int .i64 c.cell,.int .i64 c.row] te)).cell? ⟨w.heap.size,i,none⟩=(#[.int .i64 c.cell,.int .i64 c.row]:Array Value)[i]? :=fun i=>by
  have hq:(w.alloc (.cells #[.int .i64 c.cell,.int .i64 c.row] te)).heap[w.heap.size]? =some (.cells #[.int .i64 c.cell,.int .i64 c.row] te):=by
   show(Array.push _ _)[_]? =_;rw [ZU,Zw rfl]
  simp only [World.cell?,hq]
  rfl
 match j,hj with
 |0,hj=>
  simp [AD,bH] at hj;subst hj;simp only [Addr.add];exact hq _
 |1,hj=>
  simp [AD,bH] at hj;subst hj;simp only [Addr.add];exact hq _
 |j+2,hj=>simp [AD,bH] at hj
theorem URel.mid4{w wr w3 w4:World}{te ts B S ga ca k g cap:Nat}{all:List Org}(h:URel w te ts B S ga ca all k g cap wr){o1 o3:Obj}(g3:(wr.alloc o1).grownBy w3 (some B))(z3:w3.heap.size=(wr.alloc o1).heap.size)
 (g4:(w3.alloc o3).grownBy w4 (some g)):
 w4.cell? ⟨B+1+1,0,none⟩=some (.slice (some ⟨g,0,none⟩) (ded (all.take k)).length cap)/\w4.frozen? ⟨B+1+1,0,none⟩=false:=by
 have hsz:=h.size;have h1:=h.hga;have h2:=h.hg;have hgl:=h.row.lt;have zs1:=zD wr o1;have zs3:=zD w3 o3
 have q:w4.heap[B+1+1]? =wr.heap[B+1+1]? :=
  (g4.block _ (by omega) (by simp;omega)).trans ((AA (by omega)).trans ((g3.block _ (by omega) (by simp;omega)).trans (AA (by omega))))
 constructor
 ·simp only [World.cell?,q,h.box]
  rfl
 ·simp [World.frozen?,q,h.box]
end Go.Ab
end
section
namespace Go.Ab
open Go.Lib Go.Extern Go.Proofs Go.Shelf Go.RowKit
variable [Inhabited Lb]
theorem xK7{P:Program}{ρ:Ren}(L:LaysGg.n6 P ρ)(t e:TypeId)(i ie:TypeInfo)(hi:P.info? t=some i)(hd:i.desc= .slice e)(hpk:P.packed t=false)(hie:P.info? e=some ie)(ke:Nat)
 (hke:∀w,(Extern.Rtype.kind e).run P w= .ok ke w) (hnp:ie.hasPointers=false) (hby:ie.bytes=16) (f1 f2 f lf:Nat) (hf1:P.funcs.findIdx? (·.name== "internal/reflectlite" ++ ".Swapper$1")=some f1)
 (hf2:P.funcs.findIdx? (·.name== "internal/reflectlite" ++ ".Swapper$2")=some f2) (hf:P.funcs.findIdx? (·.name== "internal/reflectlite" ++ ".Swapper$9")=some f)
 (hpdq:∀xs:List Org,2<=xs.length->xs.length<=1000000000000->AbsCalls P (ρ.f 14) [.val (.v true [.clo lf [gi 4],.swp f 0 (typeHandle P e) (gi 4)]),.val (.v false [.int .i64 0]),.val (.v false [.int .i64 xs.length]),.val (.v false [.int .i64 (Lib.bitLen xs.length)]),.gbox [.sl (.lnt 0) .org xs]]
   ⟨.tup [],[[.sl (.lnt 0) .org (xs.mergeSort fun x y=> !olt y x)]],[]⟩)
 {w:World} {bo br cap:Nat} {ty:TypeId} {xs:List Org} (hlen:xs.length<=1000000000000) (hbo:w.heap[bo]? =some (.cells #[.slice (some ⟨br,0,none⟩) xs.length cap] ty (0,0))) (hbr:OrgRow w br cap xs) (hne:bo≠br)
 (hbase:∀x∈jW,x.1<w.heap.size/\x.1≠bo/\x.1≠br/\w.heap[x.1]? =some x.2):
 Calls P (ρ.f 6) #[.iface t (.slice (some ⟨br,0,none⟩) xs.length cap),.func (.func lf) #[] #[.pointer (some ⟨bo,0,none⟩)]] w fun en w' =>en= .returned (.tuple #[])/\Sorted w bo br cap xs (xs.mergeSort fun x y=> !olt y x) w' :=by
 by_cases h2:2<=xs.length
 ·exact xK8 L t e i ie hi hd hpk hie ke hke hnp hby f lf hf (by simp) h2 (by omega) (hpdq xs h2 hlen) hbo hbr hne hbase
 ·have hn:xs.length<=1:=by omega
  have hms:(xs.mergeSort fun x y=> !olt y x)=xs:=by
   match xs,hn with
   | [],_=>simp
   | [a],_=>simp
  rw [hms];have hfi:∃f0,P.funcs.findIdx? (·.name== "internal/reflectlite" ++ ".Swapper$" ++toString (swapperK xs.length ie ke))=some f0:=by
   match h:xs.length,hn with
   |0,_=>exact⟨f1,by rw [show swapperK 0 ie ke=1 from rfl];exact hf1⟩
   |1,_=>exact⟨f2,by rw [show swapperK 1 ie ke=2 from rfl];exact hf2⟩
  obtain⟨f0,hf0⟩:=hfi;refine(Any.sort_Slice_tiny L t e i ie hi hd hpk hie ke hke (some ⟨br,0,none⟩) xs.length cap hn f0 hf0 (.func lf) #[] #[.pointer (some ⟨bo,0,none⟩)] w).mono ?_;rintro en w' ⟨rfl,os,rfl⟩;have hbol:bo<w.heap.size:=(Zg.1 hbo).1;have hbrl:br<w.heap.size:=by
   obtain⟨_,cs,ty,lo,hi,h,_⟩:=hbr;exact(Zg.1 h).1
  refine⟨rfl,rfl,rfl,rfl,by rw [Sort.size_grow];omega,fun b hb _ _=>Sort.heap_grow_old _ _ hb,⟨ty,(Sort.heap_grow_old _ _ hbol).trans hbo⟩,?_⟩;obtain⟨h1,cs,ty',lo,hi',h3,h4⟩:=hbr;exact⟨h1,cs,ty',lo,hi',(Sort.heap_grow_old _ _ hbrl).trans h3,h4⟩
theorem Lc{w:World}{ok:List (Nat×Nat)->Nat->Nat->Prop}{q:List (Nat×Nat)->Value->Nat->Prop}{x:Org}{y:Value}:∀ {k:Nat} {hk:k<(Ty.org.toD x).length},RdP w ok q y ((Ty.org.toD x)[k])->y=(bH x)[k]'hk
 |0,_,h=>by simp only [Ty.toD,List.getElem_cons_zero] at h;cases h;rfl
 |1,_,h=>by simp only [Ty.toD,List.getElem_cons_succ,List.getElem_cons_zero] at h;cases h;rfl
 |k+2,hk,_=>absurd hk (by show ¬k+2<2;omega)
theorem O1{E:Env}{pl:Pl}{c:Nat}{v:Value}{os:List Org}(h:RdP E.w (okF E pl c .ro) (qF E pl c .ro) v (.sl 2 (os.map Ty.org.toD))):RowIn E.w v os:=by
 by_cases hx:os=[]
 ·subst hx;obtain⟨ad,cap,rfl,_⟩:=RdP.shape h;exact⟨ad,cap,rfl,.inl rfl⟩
 ·obtain⟨b,off,cap,rfl,hcap,hrl,hq,u,hcl,hk⟩:=RdP.cells h (by simpa using hx);refine⟨some ⟨b,off,none⟩,cap,by rw [Zr],.inr ⟨_,rfl,?_,fun j x hj=> ?_⟩⟩
  ·have hpos:0<(os.map Ty.org.toD).length:=by
    cases os with
    |nil=>exact absurd rfl hx
    |cons _ _=>simp
   have h0:=(hcl 0 0 hpos (by decide)).1;by_cases hlt:b<E.w.heap.size
   ·exact hlt
   ·simp [World.cell?,Yr (XX hlt)] at h0
  ·have hj2:j<(AD os).length:=(Zt.1 hj).1;rw [Ep] at hj2;have e:j=j / 2*2+j % 2:=by omega
   have hm:j / 2<os.length:=by omega
   have hk2:j % 2<2:=Xk _ (by decide);have h1:=Da os (j / 2) hm (j % 2) hk2;rw [<-e,hj] at h1;cases h1;have g1:=(hcl (j / 2) (j % 2) (by simpa using hm) hk2).1;have hr:((os.map Ty.org.toD)[j / 2]'(by simpa using hm))=Ty.org.toD os[j / 2]:=by rw [Z7]
   have g2:=hk (j / 2) (j % 2) (by simpa using hm) (by rw [hr];exact hk2);have ha:(⟨b,off,none⟩:Addr).add j=⟨b,off+(j / 2)*2+j % 2,none⟩:=by
    rw [show off+j / 2*2+j % 2=off+j by omega];unfold Addr.add;split
    ·rename_i h0;rw [h0];rfl
    ·rfl
   rw [ha,g1];simp only [hr] at g2;exact Zd some (Lc g2)
theorem xJY{P:Program}{f:FuncId}(hf:∀args w,(callFunc f args).run P w= .ok (.enter f args) w)
 (hc:∀(xs ys:List Org) (u v:Value) (w:World),RowIn w u xs->RowIn w v ys->xs.length+ys.length<=1000000000000->(∀x∈jW,x.1<w.heap.size/\w.heap[x.1]? =some x.2)->
   Calls P f #[u,v] w fun e w' =>∃br cap,e= .returned (.slice (some ⟨br,0,none⟩) (qX xs ys).length cap)/\Below w.heap.size w w' /\w.heap.size<=br/\OrgRow w' br cap (qX xs ys))
 {xs ys zs:List Org} (h:zAt xs ys=some zs):AbsCalls P f [.val (.v false [.sl .ro .org xs]),.val (.v false [.sl .ro .org ys])] ⟨.v false [.sl .own .org zs],[],[]⟩:=by
 unfold zAt at h;split at h
 case isFalse=>cases h
 rename_i hlen;cases h;refine AbsCalls.of_enter hf fun E args hE hB hA=> ?_
 match args,hA with
 |⟨[v1,v2]⟩,hA=>
  obtain⟨⟨hv1,_⟩,⟨hv2,_⟩,_⟩:=hA;refine(hc xs ys v1 v2 E.w (O1 hv1) (O1 hv2) hlen fun x hx=>⟨(hB x hx).1,(hB x hx).2.2.1⟩).mono ?_;rintro e w' ⟨br,cap,rfl,hb,hbr,hrow⟩;generalize qX xs ys=zs at hrow;have hbl:br<w'.heap.size:=by
   obtain⟨_,cs,ty,lo,hi,h,_⟩:=hrow;exact(Zg.1 h).1
  have h0:=hE.new br hbr
  let E' :Env:= { w:=w',hw:=fun b=>if b=br then zs.length*2 else E.hw b,ow:=fun b=>if b=br then some (.arr (.h 0) 0 []) else(E.ow b).bind (fun l=>if l= .arr (.h 0) 0 [] then none else some l),bx:=E.bx,hdr:=fun _=> .slice (some ⟨br,0,none⟩) zs.length cap }
  have hrd:=OrgRow.rd (E:=E') (pl:= .h 0) (c:=0) hrow (Zw rfl) (Zw rfl) 0 rfl;refine⟨_,{ E' with hdr:=E.hdr },rfl,rfl,?_⟩;refine { os:=hb.os,tape:=hb.tape,output:=hb.output,size:=hb.size,hdr:=rfl,old:=fun b hlt h1=> ?_,env:=⟨fun b hbb=> ?_,fun b b' l g1 g2=> ?_,fun b s h=> ?_⟩,res:= ?_,outs:=trivial,lents:=trivial,bx:=fun _ _=>rfl }
  ·have e:b≠br:=by omega
   exact⟨hb.block b hlt,by simp [E',e],by simp [E',e,h1]⟩
  ·have hbb:w'.heap.size<=b:=hbb;have e:b≠br:=by omega
   have:=hE.new b (by have:=hb.size;omega);exact⟨by simp [E',e,this.1],by simp [E',e,this.2]⟩
  ·simp only [E'] at g1 g2;split at g1 <;>split at g2
   ·rename_i e1 e2;rw [e1,e2]
   ·cases g1;simp only [Zm] at g2;obtain⟨l2,_,c2⟩:=g2;split at c2
    ·cases c2
    ·rename_i hne;cases c2;exact absurd rfl hne
   ·cases g2;simp only [Zm] at g1;obtain⟨l2,_,c2⟩:=g1;split at c2
    ·cases c2
    ·rename_i hne;cases c2;exact absurd rfl hne
   ·simp only [Zm] at g1 g2;obtain⟨l1,a1,c1⟩:=g1;obtain⟨l2,a2,c2⟩:=g2;split at c1
    ·cases c1
    ·split at c2
     ·cases c2
     ·cases c1;cases c2;exact hE.inj _ _ _ a1 a2
  ·simp only [E'] at h ⊢;split at h
   ·cases h
   ·rename_i hne;rw [Zf hne];rw [Zm] at h;obtain⟨l,a1,c1⟩:=h;split at c1
    ·cases c1
    ·cases c1;exact hE.boxhw b s a1
  ·refine ResAt.of ?_ rfl;refine⟨?_,trivial⟩;exact RdP.mono hrd (fun p b o ho=>⟨rfl,ho⟩) (fun p v sz ht=>ht.1)
 |⟨[]⟩,hA=>exact hA.elim
 |⟨[_]⟩,hA=>exact hA.2.elim
 |⟨_::_::_::_⟩,hA=>exact hA.2.2.elim
end Go.Ab
end
section
namespace Go.Ab
end Go.Ab
namespace Go.Ab
variable [Inhabited Lb]
open Go.Proofs Go.Shelf Go.RowKit Go.Lib
variable {P:Program} {ρ:Ren}
theorem xIT(s:List UInt8)(c:UInt8):Lib.index s [c]=Lib.indexByte s c:=by
 induction s with
 |nil=>rfl
 |cons b l ih=>
  unfold Lib.index Lib.indexByte;rw [ih];by_cases h:b=c
  ·subst h;simp [List.isPrefixOf]
  ·have h2:¬c=b:=fun e=>h e.symm;simp [List.isPrefixOf,h,h2]
set_option maxHeartbeats 1000000 in
theorem xOV(L:Lays.n146 P ρ)(hi9:(P.info? (ρ.t 9)).map (fun i=>(i.zero,i.size,i.bytes))=some (some (.string ByteArray.empty),1,16))(s:ByteArray)(c:UInt8)(w:World)(hs:s.size<4294967281):
 Calls P (ρ.f 146) #[.string s,.string ⟨#[c]⟩] w fun e w' =>
  e= .returned (.slice (some ⟨w.heap.size,0,none⟩) (Lib.countB s ⟨#[c]⟩+1) (Lib.countB s ⟨#[c]⟩+1))/\w' =w.alloc (.cells ((Lib.splitB ⟨#[c]⟩ 0 (Lib.countB s ⟨#[c]⟩) s).map Value.string).toArray (ρ.t 9)):=by
 have h1:1<=(⟨#[c]⟩:ByteArray).size:=Zi 1;have hle:=Lib.countB_le ⟨#[c]⟩ h1 s.size s (Zi _);have hlen:=Lib.splitB_all ⟨#[c]⟩ h1 0 _ s rfl;have hI:∀(x:ByteArray) (cc:Array Value),x.size<=s.size->Calls P (ρ.f 143) #[.string x,.string ⟨#[c]⟩] (w.alloc (.cells cc (ρ.t 9))) fun e w' =>e= .returned (.int .i64 (Lib.indexB x ⟨#[c]⟩))/\w' =w.alloc (.cells cc (ρ.t 9)):=by
  intro x cc _;refine(Any.strings_Index_one { L with } x c _).mono fun e w' ⟨he,hw⟩=>⟨?_,hw⟩;rw [he];show _=Ending.returned (Value.int .i64 (Lib.index x.data.toList [c]));rw [xIT]
 have hC:Calls P (ρ.f 138) #[.string s,.string ⟨#[c]⟩] w fun e w' =>e= .returned (.int .i64 (Lib.countB s ⟨#[c]⟩))/\w' =w:=by
  refine(Any.strings_Count_one { L with } s c w).mono fun e w' ⟨he,hw⟩=>⟨?_,hw⟩;rw [he];show _=Ending.returned (Value.int .i64 ((Lib.count s.data.toList [c]:Nat):Int));rw [Lib.count_one]
  rfl
 have cc:=Any.strings_genSplit_core { L with } hi9 s ⟨#[c]⟩ 0 (-1) (Lib.countB s ⟨#[c]⟩+1) w hs h1 (Z9 _) hI hC (by decide) (by decide) (by rw [Zw (by decide)];omega);rw [X9,hlen] at cc;have e2:Lib.cellsOf (Lib.splitB ⟨#[c]⟩ 0 (Lib.countB s ⟨#[c]⟩) s) (Lib.countB s ⟨#[c]⟩+1)=((Lib.splitB ⟨#[c]⟩ 0 (Lib.countB s ⟨#[c]⟩) s).map Value.string).toArray:=by rw [<-hlen];exact Lib.cellsOf_full _
 rw [e2] at cc;have t3:=L.t3;have t9:=L.t9;have t31:=L.t31;have a3:=L.a3;have a9:=L.a9;have a31:=L.a31;have z3:=L.z3;have v3:=L.v3;have z9:=L.z9;have v9:=L.v9;have z31:=L.z31;have v31:=L.v31;have e221:∀args w,(callFunc (ρ.f 221) args).run P w= .ok (.enter (ρ.f 221) args) w:=enters_of L.f221 (by kernel_rfl) rfl
 go_enter L.f146,Body.n146_ntmps ρ
 go_wp2_with (go_at_fn (ρ.f 221);refine cc.mono ?_;rintro e w' ⟨rfl,hw⟩;rw [hw])
 go_ret
 exact⟨rfl,rfl⟩
theorem xEC(L:Lays.n146 P ρ):∀args w,(callFunc (ρ.f 146) args).run P w= .ok (.enter (ρ.f 146) args) w:=enters_of L.f146 (by kernel_rfl) rfl
end Go.Ab
end
section
namespace Go.Proofs
open Go.Shelf
def Tryz.lays125_ren:Go.Shelf.Ren:=⟨fun |125=>169|128=>190|129=>191|n=>n,fun |46=>109|3=>3|51=>152|53=>154|4=>4|5=>5|9=>9|n=>n,fun |n=>n⟩
theorem Tryz.lays125:Go.Proofs.Lays.n125 Tryz.prog Tryz.lays125_ren:= {
 mixed:=by kernel_rfl
 f125:=Tryz.func169.trans (Zd some (by kernel_rfl))
 f128:=Tryz.func190.trans (Zd some (by kernel_rfl))
 f129:=Tryz.func191.trans (Zd some (by kernel_rfl))
 t3:=Tryz.underlying3
 a3:=Tryz.isAgg3
 z3:=Tryz.sizeOf3
 v3:=Tryz.zeroValue3
 t4:=Tryz.underlying4
 a4:=Tryz.isAgg4
 z4:=Tryz.sizeOf4
 v4:=Tryz.zeroValue4
 t5:=Tryz.underlying5
 a5:=Tryz.isAgg5
 z5:=Tryz.sizeOf5
 v5:=Tryz.zeroValue5
 t9:=Tryz.underlying9
 a9:=Tryz.isAgg9
 z9:=Tryz.sizeOf9
 v9:=Tryz.zeroValue9
 t46:=Tryz.underlying109
 a46:=Tryz.isAgg109
 z46:=Tryz.sizeOf109
 v46:=Tryz.zeroValue109
 t51:=Tryz.underlying152
 a51:=Tryz.isAgg152
 z51:=Tryz.sizeOf152
 v51:=Tryz.zeroValue152
 t53:=Tryz.underlying154
 a53:=Tryz.isAgg154
 z53:=Tryz.sizeOf154
 v53:=Tryz.zeroValue154 }
def Tryz.lays191_ren:Go.Shelf.Ren:=⟨fun |191=>100|189=>146|125=>169|257=>171|128=>190|129=>191|294=>200|295=>201|296=>202|297=>203|298=>204|299=>205|216=>206|300=>207|301=>208|328=>219|329=>220|330=>221|331=>222|332=>223|215=>224|343=>231|n=>n,fun |28=>56|0=>0|3=>3|46=>109|51=>152|53=>154|4=>4|183=>165|182=>164|131=>161|5=>5|9=>9|218=>181|222=>179|228=>188|229=>186|n=>n,fun |n=>n⟩
theorem Tryz.lays191:Go.Proofs.Lays.n191 Tryz.prog Tryz.lays191_ren:= {
 mixed:=by kernel_rfl
 f125:=Tryz.func169.trans (Zd some (by kernel_rfl))
 f128:=Tryz.func190.trans (Zd some (by kernel_rfl))
 f129:=Tryz.func191.trans (Zd some (by kernel_rfl))
 f189:=Tryz.func146.trans (Zd some (by kernel_rfl))
 f191:=Tryz.func100.trans (Zd some (by kernel_rfl))
 f215:=Tryz.func224.trans (Zd some (by kernel_rfl))
 f216:=Tryz.func206.trans (Zd some (by kernel_rfl))
 f257:=Tryz.func171.trans (Zd some (by kernel_rfl))
 f294:=Tryz.func200.trans (Zd some (by kernel_rfl))
 f295:=Tryz.func201.trans (Zd some (by kernel_rfl))
 f296:=Tryz.func202.trans (Zd some (by kernel_rfl))
 f297:=Tryz.func203.trans (Zd some (by kernel_rfl))
 f298:=Tryz.func204.trans (Zd some (by kernel_rfl))
 f299:=Tryz.func205.trans (Zd some (by kernel_rfl))
 f300:=Tryz.func207.trans (Zd some (by kernel_rfl))
 f301:=Tryz.func208.trans (Zd some (by kernel_rfl))
 f328:=Tryz.func219.trans (Zd some (by kernel_rfl))
 f329:=Tryz.func220.trans (Zd some (by kernel_rfl))
 f330:=Tryz.func221.trans (Zd some (by kernel_rfl))
 f331:=Tryz.func222.trans (Zd some (by kernel_rfl))
 f332:=Tryz.func223.trans (Zd some (by kernel_rfl))
 f343:=Tryz.func231.trans (Zd some (by kernel_rfl))
 t0:=Tryz.underlying0
 a0:=Tryz.isAgg0
 z0:=Tryz.sizeOf0
 v0:=Tryz.zeroValue0
 t3:=Tryz.underlying3
 a3:=Tryz.isAgg3
 z3:=Tryz.sizeOf3
 v3:=Tryz.zeroValue3
 t4:=Tryz.underlying4
 a4:=Tryz.isAgg4
 z4:=Tryz.sizeOf4
 v4:=Tryz.zeroValue4
 t5:=Tryz.underlying5
 a5:=Tryz.isAgg5
 z5:=Tryz.sizeOf5
 v5:=Tryz.zeroValue5
 t9:=Tryz.underlying9
 a9:=Tryz.isAgg9
 z9:=Tryz.sizeOf9
 v9:=Tryz.zeroValue9
 t28:=Tryz.underlying56
 a28:=Tryz.isAgg56
 z28:=Tryz.sizeOf56
 v28:=Tryz.zeroValue56
 t46:=Tryz.underlying109
 a46:=Tryz.isAgg109
 z46:=Tryz.sizeOf109
 v46:=Tryz.zeroValue109
 t51:=Tryz.underlying152
 a51:=Tryz.isAgg152
 z51:=Tryz.sizeOf152
 v51:=Tryz.zeroValue152
 t53:=Tryz.underlying154
 a53:=Tryz.isAgg154
 z53:=Tryz.sizeOf154
 v53:=Tryz.zeroValue154
 t131:=Tryz.underlying161
 a131:=Tryz.isAgg161
 z131:=Tryz.sizeOf161
 v131:=Tryz.zeroValue161
 t182:=Tryz.underlying164
 a182:=Tryz.isAgg164
 z182:=Tryz.sizeOf164
 v182:=Tryz.zeroValue164
 t183:=Tryz.underlying165
 a183:=Tryz.isAgg165
 z183:=Tryz.sizeOf165
 v183:=Tryz.zeroValue165
 t218:=Tryz.underlying181
 a218:=Tryz.isAgg181
 z218:=Tryz.sizeOf181
 v218:=Tryz.zeroValue181
 t222:=Tryz.underlying179
 a222:=Tryz.isAgg179
 z222:=Tryz.sizeOf179
 v222:=Tryz.zeroValue179
 t228:=Tryz.underlying188
 a228:=Tryz.isAgg188
 z228:=Tryz.sizeOf188
 v228:=Tryz.zeroValue188
 t229:=Tryz.underlying186
 a229:=Tryz.isAgg186
 z229:=Tryz.sizeOf186
 v229:=Tryz.zeroValue186 }
def Tryz.laysGg6_ren:Go.Shelf.Ren:=⟨fun |6=>143|10=>166|11=>167|12=>168|13=>169|14=>170|24=>190|25=>191|26=>192|27=>193|28=>194|29=>195|30=>196|31=>197|32=>198|33=>199|34=>214|35=>215|36=>216|37=>217|38=>218|39=>230|n=>n,fun |20=>20|26=>121|35=>132|0=>0|37=>134|3=>3|41=>109|44=>140|49=>152|51=>154|4=>4|54=>157|53=>156|58=>161|5=>5|9=>9|60=>175|64=>179|66=>185|67=>186|17=>17|32=>129|33=>130|82=>209|12=>12|75=>202|76=>203|77=>204|78=>205|79=>206|80=>207|n=>n,fun |n=>n⟩
theorem Tryz.laysGg6:Go.Proofs.LaysGg.n6 Tryz.prog Tryz.laysGg6_ren:= {
 mixed:=by kernel_rfl
 f6:=Tryz.func143.trans (Zd some (by kernel_rfl))
 f10:=Tryz.func166.trans (Zd some (by kernel_rfl))
 f11:=Tryz.func167.trans (Zd some (by kernel_rfl))
 f12:=Tryz.func168.trans (Zd some (by kernel_rfl))
 f13:=Tryz.func169.trans (Zd some (by kernel_rfl))
 f14:=Tryz.func170.trans (Zd some (by kernel_rfl))
 f24:=Tryz.func190.trans (Zd some (by kernel_rfl))
 f25:=Tryz.func191.trans (Zd some (by kernel_rfl))
 f26:=Tryz.func192.trans (Zd some (by kernel_rfl))
 f27:=Tryz.func193.trans (Zd some (by kernel_rfl))
 f28:=Tryz.func194.trans (Zd some (by kernel_rfl))
 f29:=Tryz.func195.trans (Zd some (by kernel_rfl))
 f30:=Tryz.func196.trans (Zd some (by kernel_rfl))
 f31:=Tryz.func197.trans (Zd some (by kernel_rfl))
 f32:=Tryz.func198.trans (Zd some (by kernel_rfl))
 f33:=Tryz.func199.trans (Zd some (by kernel_rfl))
 f34:=Tryz.func214.trans (Zd some (by kernel_rfl))
 f35:=Tryz.func215.trans (Zd some (by kernel_rfl))
 f36:=Tryz.func216.trans (Zd some (by kernel_rfl))
 f37:=Tryz.func217.trans (Zd some (by kernel_rfl))
 f38:=Tryz.func218.trans (Zd some (by kernel_rfl))
 f39:=Tryz.func230.trans (Zd some (by kernel_rfl))
 t0:=Tryz.underlying0
 a0:=Tryz.isAgg0
 z0:=Tryz.sizeOf0
 v0:=Tryz.zeroValue0
 i0:=by kernel_rfl
 t3:=Tryz.underlying3
 a3:=Tryz.isAgg3
 z3:=Tryz.sizeOf3
 v3:=Tryz.zeroValue3
 i3:=by kernel_rfl
 t4:=Tryz.underlying4
 a4:=Tryz.isAgg4
 z4:=Tryz.sizeOf4
 v4:=Tryz.zeroValue4
 i4:=by kernel_rfl
 t5:=Tryz.underlying5
 a5:=Tryz.isAgg5
 z5:=Tryz.sizeOf5
 v5:=Tryz.zeroValue5
 i5:=by kernel_rfl
 t9:=Tryz.underlying9
 a9:=Tryz.isAgg9
 z9:=Tryz.sizeOf9
 v9:=Tryz.zeroValue9
 i9:=by kernel_rfl
 t12:=Tryz.underlying12
 a12:=Tryz.isAgg12
 z12:=Tryz.sizeOf12
 v12:=Tryz.zeroValue12
 i12:=by kernel_rfl
 t17:=Tryz.underlying17
 a17:=Tryz.isAgg17
 z17:=Tryz.sizeOf17
 v17:=Tryz.zeroValue17
 i17:=by kernel_rfl
 t20:=Tryz.underlying20
 a20:=Tryz.isAgg20
 z20:=Tryz.sizeOf20
 v20:=Tryz.zeroValue20
 i20:=by kernel_rfl
 t26:=Tryz.underlying121
 a26:=Tryz.isAgg121
 z26:=Tryz.sizeOf121
 v26:=Tryz.zeroValue121
 i26:=by kernel_rfl
 t32:=Tryz.underlying129
 a32:=Tryz.isAgg129
 z32:=Tryz.sizeOf129
 v32:=Tryz.zeroValue129
 i32:=by kernel_rfl
 t33:=Tryz.underlying130
 a33:=Tryz.isAgg130
 z33:=Tryz.sizeOf130
 v33:=Tryz.zeroValue130
 i33:=by kernel_rfl
 t35:=Tryz.underlying132
 a35:=Tryz.isAgg132
 z35:=Tryz.sizeOf132
 v35:=Tryz.zeroValue132
 i35:=by kernel_rfl
 t37:=Tryz.underlying134
 a37:=Tryz.isAgg134
 z37:=Tryz.sizeOf134
 v37:=Tryz.zeroValue134
 i37:=by kernel_rfl
 t41:=Tryz.underlying109
 a41:=Tryz.isAgg109
 z41:=Tryz.sizeOf109
 v41:=Tryz.zeroValue109
 i41:=by kernel_rfl
 t44:=Tryz.underlying140
 a44:=Tryz.isAgg140
 z44:=Tryz.sizeOf140
 v44:=Tryz.zeroValue140
 i44:=by kernel_rfl
 t49:=Tryz.underlying152
 a49:=Tryz.isAgg152
 z49:=Tryz.sizeOf152
 v49:=Tryz.zeroValue152
 i49:=by kernel_rfl
 t51:=Tryz.underlying154
 a51:=Tryz.isAgg154
 z51:=Tryz.sizeOf154
 v51:=Tryz.zeroValue154
 i51:=by kernel_rfl
 t53:=Tryz.underlying156
 a53:=Tryz.isAgg156
 z53:=Tryz.sizeOf156
 v53:=Tryz.zeroValue156
 i53:=by kernel_rfl
 t54:=Tryz.underlying157
 a54:=Tryz.isAgg157
 z54:=Tryz.sizeOf157
 v54:=Tryz.zeroValue157
 i54:=by kernel_rfl
 t58:=Tryz.underlying161
 a58:=Tryz.isAgg161
 z58:=Tryz.sizeOf161
 v58:=Tryz.zeroValue161
 i58:=by kernel_rfl
 t60:=Tryz.underlying175
 a60:=Tryz.isAgg175
 z60:=Tryz.sizeOf175
 v60:=Tryz.zeroValue175
 i60:=by kernel_rfl
 t64:=Tryz.underlying179
 a64:=Tryz.isAgg179
 z64:=Tryz.sizeOf179
 v64:=Tryz.zeroValue179
 i64:=by kernel_rfl
 t66:=Tryz.underlying185
 a66:=Tryz.isAgg185
 z66:=Tryz.sizeOf185
 v66:=Tryz.zeroValue185
 i66:=by kernel_rfl
 t67:=Tryz.underlying186
 a67:=Tryz.isAgg186
 z67:=Tryz.sizeOf186
 v67:=Tryz.zeroValue186
 i67:=by kernel_rfl
 t75:=Tryz.underlying202
 a75:=Tryz.isAgg202
 z75:=Tryz.sizeOf202
 v75:=Tryz.zeroValue202
 i75:=by kernel_rfl
 t76:=Tryz.underlying203
 a76:=Tryz.isAgg203
 z76:=Tryz.sizeOf203
 v76:=Tryz.zeroValue203
 i76:=by kernel_rfl
 t77:=Tryz.underlying204
 a77:=Tryz.isAgg204
 z77:=Tryz.sizeOf204
 v77:=Tryz.zeroValue204
 i77:=by kernel_rfl
 t78:=Tryz.underlying205
 a78:=Tryz.isAgg205
 z78:=Tryz.sizeOf205
 v78:=Tryz.zeroValue205
 i78:=by kernel_rfl
 t79:=Tryz.underlying206
 a79:=Tryz.isAgg206
 z79:=Tryz.sizeOf206
 v79:=Tryz.zeroValue206
 i79:=by kernel_rfl
 t80:=Tryz.underlying207
 a80:=Tryz.isAgg207
 z80:=Tryz.sizeOf207
 v80:=Tryz.zeroValue207
 i80:=by kernel_rfl
 t82:=Tryz.underlying209
 a82:=Tryz.isAgg209
 z82:=Tryz.sizeOf209
 v82:=Tryz.zeroValue209
 i82:=by kernel_rfl }
def Tryz.lays146_ren:Go.Shelf.Ren:=⟨fun |146=>141|221=>165|268=>178|138=>179|143=>180|195=>210|197=>211|218=>212|219=>213|260=>225|217=>226|225=>227|224=>228|267=>229|266=>232|314=>233|n=>n,fun |9=>9|31=>27|3=>3|4=>4|0=>0|105=>172|21=>21|5=>5|46=>109|119=>190|139=>193|138=>192|146=>194|51=>152|n=>n,fun |1=>0|3=>1|4=>2|n=>n⟩
theorem Tryz.lays146:Go.Proofs.Lays.n146 Tryz.prog Tryz.lays146_ren:= {
 mixed:=by kernel_rfl
 f138:=Tryz.func179.trans (Zd some (by kernel_rfl))
 f143:=Tryz.func180.trans (Zd some (by kernel_rfl))
 f146:=Tryz.func141.trans (Zd some (by kernel_rfl))
 f195:=Tryz.func210.trans (Zd some (by kernel_rfl))
 f197:=Tryz.func211.trans (Zd some (by kernel_rfl))
 f217:=Tryz.func226.trans (Zd some (by kernel_rfl))
 f218:=Tryz.func212.trans (Zd some (by kernel_rfl))
 f219:=Tryz.func213.trans (Zd some (by kernel_rfl))
 f221:=Tryz.func165.trans (Zd some (by kernel_rfl))
 f224:=Tryz.func228.trans (Zd some (by kernel_rfl))
 f225:=Tryz.func227.trans (Zd some (by kernel_rfl))
 f260:=Tryz.func225.trans (Zd some (by kernel_rfl))
 f266:=Tryz.func232.trans (Zd some (by kernel_rfl))
 f267:=Tryz.func229.trans (Zd some (by kernel_rfl))
 f268:=Tryz.func178.trans (Zd some (by kernel_rfl))
 f314:=Tryz.func233.trans (Zd some (by kernel_rfl))
 t0:=Tryz.underlying0
 a0:=Tryz.isAgg0
 z0:=Tryz.sizeOf0
 v0:=Tryz.zeroValue0
 t3:=Tryz.underlying3
 a3:=Tryz.isAgg3
 z3:=Tryz.sizeOf3
 v3:=Tryz.zeroValue3
 t4:=Tryz.underlying4
 a4:=Tryz.isAgg4
 z4:=Tryz.sizeOf4
 v4:=Tryz.zeroValue4
 t5:=Tryz.underlying5
 a5:=Tryz.isAgg5
 z5:=Tryz.sizeOf5
 v5:=Tryz.zeroValue5
 t9:=Tryz.underlying9
 a9:=Tryz.isAgg9
 z9:=Tryz.sizeOf9
 v9:=Tryz.zeroValue9
 t21:=Tryz.underlying21
 a21:=Tryz.isAgg21
 z21:=Tryz.sizeOf21
 v21:=Tryz.zeroValue21
 t31:=Tryz.underlying27
 a31:=Tryz.isAgg27
 z31:=Tryz.sizeOf27
 v31:=Tryz.zeroValue27
 t46:=Tryz.underlying109
 a46:=Tryz.isAgg109
 z46:=Tryz.sizeOf109
 v46:=Tryz.zeroValue109
 t51:=Tryz.underlying152
 a51:=Tryz.isAgg152
 z51:=Tryz.sizeOf152
 v51:=Tryz.zeroValue152
 t105:=Tryz.underlying172
 a105:=Tryz.isAgg172
 z105:=Tryz.sizeOf172
 v105:=Tryz.zeroValue172
 t119:=Tryz.underlying190
 a119:=Tryz.isAgg190
 z119:=Tryz.sizeOf190
 t138:=Tryz.underlying192
 a138:=Tryz.isAgg192
 z138:=Tryz.sizeOf192
 v138:=Tryz.zeroValue192
 t139:=Tryz.underlying193
 a139:=Tryz.isAgg193
 z139:=Tryz.sizeOf193
 v139:=Tryz.zeroValue193
 t146:=Tryz.underlying194
 a146:=Tryz.isAgg194
 z146:=Tryz.sizeOf194
 v146:=Tryz.zeroValue194
 g1:=by kernel_rfl
 g3:=by kernel_rfl
 g4:=by kernel_rfl }
end Go.Proofs
end
section
open Go.Proofs
namespace Go.Ab.T
variable [Inhabited Lb]
abbrev AbC(f:FuncId)(a:List Arg)(r:CallO):Prop:=AbsCalls Tryz.prog f a r
abbrev W(x:Int):Int:=IntKind.i64.wrap x
abbrev Ln{α:Type}(l:List α):Nat:=List.length l
abbrev tN(x:Int):Nat:=Int.toNat x
abbrev gD{α:Type}(l:List α)(i:Nat)(d:α):α:=List.getD l i d
abbrev iY(b:Bool):Prop:=b=true
abbrev iN(b:Bool):Prop:=b=false
abbrev dc(p:Prop) [Decidable p]:Bool:=decide p
abbrev vd:Val:=Dv
abbrev rd:Rowd:=Ty.row.dflt
end Go.Ab.T
end
section
open Go.Proofs
namespace Go.Ab.T
set_option maxRecDepth 100000
variable [Inhabited Lb]
def tt:TT:=[(3,{ zero:=some [.int .i64 0],ik:=some .i64 }),
 (4,{ zero:=some [.bool false],isBool:=true }),
 (5,{ zero:=some [.int .u8 0],ik:=some .u8 }),
 (9,{ zero:=some [.str []],isStr:=true }),
 (22,{ zero:=some [.sl .own .byte []],elem:=some (5,.byte) }),
 (24,{ zero:=some [.sl .own .val []],elem:=some (30,.val) }),
 (27,{ zero:=some [.sl .own .str []],elem:=some (9,.str) }),
 (28,{ zero:=some [.sl .own .row []],elem:=some (77,.row) }),
 (30,{ sz:=7,agg:=true,zero:=some [.int .i64 0,.int .i64 0,.int .i64 0,.str [],.sl .own .val [],.sl .own .str [],.sl .own .row []],offs:=[0,1,2,3,4,5,6],fsz:=[1,1,1,1,1,1,1] }),
 (35,{ zero:=some [.sl .own .val []],elem:=some (64,.val) }),
 (56,{ zero:=some [.sl .own .int []],elem:=some (3,.int) }),
 (62,{ zero:=some [.sl .own .row []],elem:=some (126,.row) }),
 (64,{ sz:=7,agg:=true,zero:=some [.int .i64 0,.int .i64 0,.int .i64 0,.str [],.sl .own .val [],.sl .own .str [],.sl .own .row []],offs:=[0,1,2,3,4,5,6],fsz:=[1,1,1,1,1,1,1] }),
 (72,{ sz:=3,agg:=true,zero:=some [.sl .own .byte [],.int .i64 0,.int .i64 0],offs:=[0,1,2],fsz:=[1,1,1] }),
 (75,{ zero:=some [.sl .own .org []],elem:=some (112,.org) }),
 (77,{ sz:=2,agg:=true,zero:=some [.sl .own .int [],.sl .own .org []],offs:=[0,1],fsz:=[1,1] }),
 (109,{ zero:=some [.int .u64 0],ik:=some .u64 }),
 (112,{ sz:=2,agg:=true,zero:=some [.int .i64 0,.int .i64 0],offs:=[0,1],fsz:=[1,1],same:=true }),
 (121,{ zero:=some [.val .nilFunc],isFn:=true }),
 (124,{ zero:=some [.sl .own .org []],elem:=some (171,.org) }),
 (126,{ sz:=2,agg:=true,zero:=some [.sl .own .int [],.sl .own .org []],offs:=[0,1],fsz:=[1,1] }),
 (134,{ zero:=some [.val .nilFunc],isFn:=true }),
 (140,{ sz:=2,agg:=true,zero:=some [.val .nilFunc,.val .nilFunc],offs:=[0,1],fsz:=[1,1] }),
 (154,{ zero:=some [.int .u64 0],ik:=some .u64 }),
 (156,{ zero:=some [.int .i64 0],ik:=some .i64 }),
 (171,{ sz:=2,agg:=true,zero:=some [.int .i64 0,.int .i64 0],offs:=[0,1],fsz:=[1,1],same:=true }),
 (175,{ zero:=some [.int .u64 0],ik:=some .u64 })]
theorem Ik:aO Tryz.prog tt:=zAs (by kernel_rfl)
theorem mix:Tryz.prog.follows .mixedOrders=true:=by kernel_rfl
def F:Bool:=false
def cl(r:CallO):CallO:=⟨r.res,r.outs,[.clo 0 []]⟩
def Y:Bool:=true
noncomputable def mI (fn:Func) (nt:Nat) (results:List ResultVar) (keep:List Nat) (live:List (Nat×List Nat)) (modes:List (Nat×List (Nat×Md×Bool))) (ext:List Nat:=[]) (lnt:List (Nat×Nat):=[]) (casts:List (Nat×List (Nat×Nat×Bool)):=[]) (fcast:List (Nat×Nat×Bool):=[]):Info:= { body:=fn.body.getD .skip,nt:=nt,results:=results,keep:=keep,live:=live,modes:=modes,ext:=ext,lnt:=lnt,casts:=casts,fcast:=fcast }
noncomputable def rE (I:Info) (ag:List Arg) (bs:List Bool) (cs:List CallO):Option Res:=run tt (AbsCalls Tryz.prog) I 3000 false [.code I.body] ⟨aW 0 ag,bs,cs,[]⟩
noncomputable def rS (k:Nat) (I:Info) (σ:St) (bs:List Bool) (cs:List CallO):Option Res:=run tt (AbsCalls Tryz.prog) I 3000 true (zAr k I.body) ⟨σ,bs,cs,[]⟩
noncomputable def dn (r:CallO) (ob:List Prop):Option Res:=some (.done r ob)
noncomputable def st (k:Nat) (I:Info) (σ:St) (ob:List Prop):Option Res:=some (.stop (zAr k I.body) σ ob)
def H{α:Type}(bs:List Bool)(cs:List CallO)(ob:List Prop)(x:Option α)(r:α):Prop:=(∀p∈ob,p)/\x=some r
def nth:List Prop->Nat->Prop
 | [],_=>True
 |p::_,0=>p
 |_::l,n+1=>nth l n
theorem gt0:∀ {ob:List Prop} (_:∀p∈ob,p) (n:Nat),nth ob n
 | [],_,_=>trivial
 |_::_,a,0=>a _ Zp
 |_::_,a,n+1=>gt0 (fun q h=>a q (Zq _ h)) n
section
variable {α ρ:Type} {f g:FuncId} {fn:Func} {I:Info} {ag az:List Arg} {bs:List Bool} {cs:List CallO} {k j:Nat} {σ σ' :St} {ob:List Prop} {ro:ρ->CallO} {q R O E:CallO} {b c:Bool} {p C:Prop} {x y:Option α} {r:α}
def RE(hf:FnOk Tryz.prog f fn I)(ag:List Arg)(r:CallO):Prop:=Reach Tryz.prog fn I [.code I.body] (aW 0 ag) r
def RS(hf:FnOk Tryz.prog f fn I)(k:Nat)(σ:St)(r:CallO):Prop:=Reach Tryz.prog fn I (zAr k I.body) σ r
theorem fO(h1:Tryz.prog.funcs[f]? =some fn)(h2:fn.body=some I.body:=by kernel_rfl)(h3:fn.ntmps=I.nt:=by kernel_rfl)(h4:fn.results.toList=I.results:=by kernel_rfl)(h5:(fn.name== "runtime.NumGoroutine")=false:=by kernel_rfl):FnOk Tryz.prog f fn I:=⟨h1,h2,h3,h4,h5⟩
theorem oK(hf:FnOk Tryz.prog f fn I)(h:RE hf ag q)(h1:sB ag=true:=by kernel_rfl)(h2:I.ext=aF 0 ag:=by kernel_rfl)(h3:(bA 0 ag).length=I.lnt.length:=by kernel_rfl)(h4:Nat.ble ag.length I.nt=true:=by kernel_rfl):AbC f ag q:=AbsCalls.of_reach hf h1 h2 h3 (jL h4) h
theorem oA(h:x=some r):H [] [] [] x r:=⟨(fun _ h=>by cases h),h⟩
theorem H.rev(a:H bs cs ob x r):∀p∈ob.reverse,p:=fun p h=>a.1 p (Xm.1 h)
theorem ap(h:p)(a:H bs cs ob x r):H bs cs (p::ob) x r:=⟨zAp h a.1,a.2⟩
theorem ab(h:b=c)(a:H bs cs ob x r):H (c::bs) cs ((b=c)::ob) x r:=⟨zAp h a.1,a.2⟩
theorem gt(n:Nat)(a:H bs cs ob x r):nth ob n:=gt0 a.1 n
theorem rp(n:Nat)(a:H bs cs ob x r):H bs cs (nth ob n::ob) x r:=⟨zAp (gt n a) a.1,a.2⟩
theorem rb(c:Bool)(n:Nat)(a:H bs cs ob x r):H (c::bs) cs (nth ob n::ob) x r:=⟨zAp (gt n a) a.1,a.2⟩
theorem cb(c:Bool)(a:H bs cs ob x r):H (c::bs) cs ((c=c)::ob) x r:=⟨zAp rfl a.1,a.2⟩
theorem ax(b c:Bool)(h:b=c)(a:H bs cs ob x r):H (c::bs) cs ((b=c)::ob) x r:=⟨zAp h a.1,a.2⟩
theorem iE [Decidable p](h:H bs cs ob (if p then x else none) r):H bs cs (p::ob) x r:=(zAk h.2).elim fun h1 h2=>⟨zAp h1 h.1,h2⟩
theorem cE(h:H bs cs ob (cond b x y) r)(f:H (true::bs) cs ((b=true)::ob) x r->C)(g:H (false::bs) cs ((b=false)::ob) y r->C):C:=(zAh h.2).elim (fun e=>f ⟨zAp e.1 h.1,e.2⟩) fun e=>g ⟨zAp e.1 h.1,e.2⟩
theorem cM(k:AbC g az (cond b R O))(h:H bs cs ob (cond b x y) r)(f:H bs (R::cs) (AbC g az R::ob) x r->C)(g:H bs (O::cs) (AbC g az O::ob) y r->C):C:=by
 rcases zAh h.2 with ⟨h1,e⟩|⟨h1,e⟩ <;>subst h1
 ·exact f ⟨zAp k h.1,e⟩
 ·exact g ⟨zAp k h.1,e⟩
theorem cN{e0 e1 e2:Bool}(k:AbC g az (cond b R O))(h:H bs cs ob (cond b (if e0=true then if e1=true then if e2=true then x else none else none else none) y) r)(t:b=true->e0=true->e1=true->e2=true->AbC g az E)(f:H bs (E::cs) (AbC g az E::ob) x r->C)(g:H bs (O::cs) (AbC g az O::ob) y r->C):C:=by
 rcases zAh h.2 with ⟨h1,e⟩|⟨h1,e⟩
 ·obtain⟨h2,e⟩:=zAk e;obtain⟨h3,e⟩:=zAk e;obtain⟨h4,e⟩:=zAk e;exact f ⟨zAp (t h1 h2 h3 h4) h.1,e⟩
 ·subst h1;exact g ⟨zAp k h.1,e⟩
section
variable {o:Option ρ} {x:ρ->Option α} {r:α}
theorem bE(h:H bs cs ob (Option.bind o x) r)(k:∀ {v},o=some v->AbC g az (ro v))(f:∀v,H bs (ro v::cs) (AbC g az (ro v)::ob) (x v) r->C):C:=(zAf h.2).elim fun v e=>f v ⟨zAp (k e.1) h.1,e.2⟩
theorem bL(h:H bs cs ob (Option.bind o x) r)(k:∀ {v},o=some v->AbC g az (ro v))(f:∀v,H bs (cl (ro v)::cs) (AbC g az (ro v)::ob) (x v) r->C):C:=(zAf h.2).elim fun v e=>f v ⟨zAp (k e.1) h.1,e.2⟩
theorem bK(h:H bs cs ob (Option.bind o x) r)(k:∀ {v},o=some v->AbC g az (ro v))(f:∀v,AbC g az (ro v)->H bs cs ob (x v) r->C):C:=(zAf h.2).elim fun v e=>f v (k e.1) ⟨h.1,e.2⟩
end
theorem nE{r:α}(h:none=some r):C:=by cases h
section
variable {x r:ρ} {hf:FnOk Tryz.prog f fn I}
theorem dE(a:H bs cs ob (some x) r)(h:rE I ag bs.reverse cs.reverse=dn (ro x) ob.reverse:=by kernel_rfl):RE hf ag (ro r):=by
 have e:=a.2;cases e;exact Reach.done Ik mix hf h a.rev
theorem dS(a:H bs cs ob (some x) r)(h:rS k I σ bs.reverse cs.reverse=dn (ro x) ob.reverse:=by kernel_rfl):RS hf k σ (ro r):=by
 have e:=a.2;cases e;exact Reach.done Ik mix hf h a.rev
end
theorem tE{hf:FnOk Tryz.prog f fn I}(a:H bs cs ob x r)(t:RS hf k σ q)(h:rE I ag bs.reverse cs.reverse=st k I σ ob.reverse:=by kernel_rfl):RE hf ag q:=Reach.stop Ik mix hf h a.rev t
theorem tS{hf:FnOk Tryz.prog f fn I}(a:H bs cs ob x r)(t:RS hf k σ q)(h:rS j I σ' bs.reverse cs.reverse=st k I σ ob.reverse:=by kernel_rfl):RS hf j σ' q:=Reach.stop Ik mix hf h a.rev t
theorem nI{P:Nat->Prop}(z:P 0)(s:∀n,P n->P (n+1)):∀n,P n:=fun n=>Nat.rec z s n
end
theorem xE9:FnOk Tryz.prog 216 Tryz.f216 (mI Tryz.f216 33 [.tmp 2] [0,4,1] [] [] (ext:=[0])):=fO Tryz.func216
theorem xLE{N a0 r}(h:IB N a0=some r):AbC 216 (xLD a0) (xLF r):=
 oK xE9 <| dE (ap (show(0:Int)<=17/\(17:Int)<64 by decide) (ap (show(0:Int)<=7/\(7:Int)<64 by decide) (ap (show(0:Int)<=13/\(13:Int)<64 by decide) (oA h))))
theorem xJ1{N:Nat}{a0 r:Int}(h:Ju N a0=some r):AbC 169 (xJ0 a0) (xJ2 r):=
 zAl (xED Tryz.lays125) (Any.bits_Len Tryz.lays125) h
theorem xE8:FnOk Tryz.prog 215 Tryz.f215 (mI Tryz.f215 10 [.tmp 2] [0,4,6] [] [(2,[(0,.take,false)])]):=fO Tryz.func215
theorem xLo{N a0 r}(h:Hv N a0=some r):AbC 215 (xLn a0) (xLp r):=
 oK xE8 <| bE (oA h) xJ1 fun r1 h=>dE (iE h)
theorem AB{N:Nat}{a0 a1:Int}{a2 r:List Org}(h:zR N a0 a1 a2=some r):AbC 189 (xIZ a0 a1 a2) (xI0 r):=
 zAn (run_callFunc_extern Tryz.func189 (by kernel_rfl) (by kernel_rfl) (by kernel_rfl) (by kernel_rfl)) 112 _ (Option.some_get (by kernel_rfl:(Tryz.prog.info? 112).isSome=true)).symm (by kernel_rfl) Tryz.isAgg112 h
theorem Ma:FnOk Tryz.prog 196 Tryz.f196 (mI Tryz.f196 23 [] [0,2,4,6,12,14,26,2000006,7,2000007] [(3,[6,12,14,2000006,7,2000007])] [] (ext:=[1000003])):=fO Tryz.func196
def xCv(x6 x7:Int)(g003:List Org):St:=[(6,(vP 3)),(12,(vI x6)),(14,(vI x7)),(7,.v true [.clo 144 [1000003],.swp 189 0 (.pointer (some ⟨3,112,none⟩)) 1000003]),(2000007,.v true [.sl (.lnt 0) .org g003])]
theorem xD2{N}:∀n x6 x7 g003 r,FK N n x6 x7 g003=some r->RS Ma 3 (xCv x6 x7 g003) (Oe r):=
 nI (fun _ _ _ _ h=>nE h) fun n ih x6 x7 g003 r h=>cE (oA h) (fun h=>bE h AB fun r1 h=>tS (iE (iE h)) (ih _ _ _ _ (iE (iE h)).2)) fun h=>dS h
theorem xLB{N a0 a1 a2 r}(h:IA N a0 a1 a2=some r):AbC 196 (xLA a0 a1 a2) (Oe r):=
 oK Ma <| tE (oA h) (xD2 _ _ _ _ _ h)
theorem M2:FnOk Tryz.prog 194 Tryz.f194 (mI Tryz.f194 54 [] [0,2,4,6,12,14,16,18,20,30,66,86,2000006,7,15,2000007] [(6,[2,6,12,14,16,18,2000006,7,15,2000007])] [(8,[(1,.take,false)])] (ext:=[1000003])):=fO Tryz.func194
def xCg(x1 x6 x8 x9 b7:Int)(g003:List Org):St:=[(2,(vI x1)),(6,(vP 3)),(12,(vI x6)),(14,(vP 7)),(16,.v false [.int .u64 x8]),(18,(vI x9)),(7,.v true [.clo 144 [1000003],.swp 189 0 (.pointer (some ⟨3,112,none⟩)) 1000003]),(15,.v true [.int .u64 b7]),(2000007,.v true [.sl (.lnt 0) .org g003])]
theorem xDL{N}:∀n x1 x6 x8 x9 b7 g003 r,Df N n x1 x6 x8 x9 b7 g003=some r->RS M2 6 (xCg x1 x6 x8 x9 b7 g003) (Ob r):=
 nI (fun _ _ _ _ _ _ _ h=>nE h) fun n ih x1 x6 x8 x9 b7 g003 r h=>cE (ap (show 4≠(0:Int) by decide) (oA h)) (fun h=>bE h xLE fun r1 h=>cE h (fun h=>bE h AB fun r2 h=>tS (iE (iE h)) (ih _ _ _ _ _ _ _ (iE (iE h)).2)) fun h=>bE h AB fun r2 h=>tS (iE (iE h)) (ih _ _ _ _ _ _ _ (iE (iE h)).2)) fun h=>dS h
theorem xLa{N a0 a1 a2 r}(h:Hq N a0 a1 a2=some r):AbC 194 (xK9 a0 a1 a2) (Ob r):=
 oK M2 <| cE (oA h) (fun h=>bE h xLo fun r1 h=>tE (ap (show 4≠(0:Int) by decide) h) (xDL _ _ _ _ _ _ _ _ (ap (show 4≠(0:Int) by decide) h).2)) fun h=>dE h
theorem xEY:FnOk Tryz.prog 145 Tryz.f145 (mI Tryz.f145 24 [.tmp 4] [0,2,4,6,8,5,7] [] [(1,[(5,.take,false),(11,.take,false)])]):=fO Tryz.func145
theorem NY{N a0 a1 r}(h:Ek N a0 a1=some r):AbC 145 (xID a0 a1) (xIF r):=
 oK xEY <| cE (oA h) (fun h=>dE h) fun h=>cE h (fun h=>dE h) fun h=>dE h
theorem xFG:FnOk Tryz.prog 144 Tryz.f144 (mI Tryz.f144 15 [.tmp 5] [0,2,4,10,5] [] [] (ext:=[2])):=fO Tryz.func144
theorem Af{N a0 a1 a2 r}(h:AJ N a0 a1 a2=some r):AbC 144 (xHR a0 a1 a2) (xHS r):=
 oK xFG <| bE (iE (iE (oA h))) NY fun r1 h=>dE h
theorem EY:FnOk Tryz.prog 199 Tryz.f199 (mI Tryz.f199 107 [.tmp 8,.tmp 9] [0,2,4,6,8,16,18,20,22,60,86,96,146,172,182,2000008,9,2000009] [(3,[2,8,20,22,2000008,9,2000009]),(5,[2,8,20,22,2000008,9,2000009]),(13,[2,8,20,22,2000008,9,2000009]),(15,[2,8,20,22,2000008,9,2000009])] [(3,[(3,.take,false)]),(5,[(3,.take,false)]),(13,[(3,.take,false)]),(15,[(3,.take,false)])] (ext:=[1000004])):=fO Tryz.func199
def xBq(x1 x10 x11:Int)(g004:List Org):St:=[(2,(vI x1)),(8,(vP 4)),(20,(vI x10)),(22,(vI x11)),(9,.v true [.clo 144 [1000004],.swp 189 0 (.pointer (some ⟨3,112,none⟩)) 1000004]),(2000009,.v true [.sl (.lnt 0) .org g004])]
def xBr(x1 x10 x11:Int)(g004:List Org):St:=[(2,(vI x1)),(8,(vP 4)),(20,(vI x10)),(22,(vI x11)),(9,.v true [.clo 144 [1000004],.swp 189 0 (.pointer (some ⟨3,112,none⟩)) 1000004]),(2000009,.v true [.sl (.lnt 0) .org g004])]
def LA(x1 x10 x11:Int)(g004:List Org):St:=[(2,(vI x1)),(8,(vP 4)),(20,(vI x10)),(22,(vI x11)),(9,.v true [.clo 144 [1000004],.swp 189 0 (.pointer (some ⟨3,112,none⟩)) 1000004]),(2000009,.v true [.sl (.lnt 0) .org g004])]
def xBp(x1 x10 x11:Int)(g004:List Org):St:=[(2,(vI x1)),(8,(vP 4)),(20,(vI x10)),(22,(vI x11)),(9,.v true [.clo 144 [1000004],.swp 189 0 (.pointer (some ⟨3,112,none⟩)) 1000004]),(2000009,.v true [.sl (.lnt 0) .org g004])]
theorem LS{N}{k13}(hk13:∀z0 z1 z2 z3 r,k13 z0 z1 z2 z3=some r->RS EY 13 (LA z0 z1 z2 z3) (FJ r)):∀n x1 x10 x11 g004 r,Cp N k13 n x1 x10 x11 g004=some r->RS EY 15 (xBp x1 x10 x11 g004) (FJ r):=
 nI (fun _ _ _ _ _ h=>nE h) fun n ih x1 x10 x11 g004 r h=>cE (oA h) (fun h=>bE h Af fun r1 h=>cE h (fun h=>tS h (ih _ _ _ _ _ h.2)) fun h=>cE h (fun h=>bE h AB fun r2 h=>dS (iE (iE h))) fun h=>bE h AB fun r2 h=>tS (iE (iE h)) (hk13 _ _ _ _ _ (iE (iE h)).2)) fun h=>cE (cb F h) (fun h=>bE h AB fun r1 h=>dS (iE (iE h))) fun h=>bE h AB fun r1 h=>tS (iE (iE h)) (hk13 _ _ _ _ _ (iE (iE h)).2)
theorem LR{N}:∀n x1 x10 x11 g004 r,Bi N n x1 x10 x11 g004=some r->RS EY 13 (LA x1 x10 x11 g004) (FJ r):=
 nI (fun _ _ _ _ _ h=>nE h) fun n ih x1 x10 x11 g004 r h=>cE (oA h) (fun h=>bE h Af fun r1 h=>cE h (fun h=>tS h (ih _ _ _ _ _ h.2)) fun h=>tS h (LS ih _ _ _ _ _ _ h.2)) fun h=>tS (cb F h) (LS ih _ _ _ _ _ _ (cb F h).2)
theorem LT{N}:∀n x1 x10 x11 g004 r,Cq N n x1 x10 x11 g004=some r->RS EY 5 (xBr x1 x10 x11 g004) (FJ r):=
 nI (fun _ _ _ _ _ h=>nE h) fun n ih x1 x10 x11 g004 r h=>cE (oA h) (fun h=>bE h Af fun r1 h=>cE h (fun h=>tS h (ih _ _ _ _ _ h.2)) fun h=>cE h (fun h=>bE h AB fun r2 h=>dS (iE (iE h))) fun h=>bE h AB fun r2 h=>tS (iE (iE h)) (LR _ _ _ _ _ _ (iE (iE h)).2)) fun h=>cE (cb F h) (fun h=>bE h AB fun r1 h=>dS (iE (iE h))) fun h=>bE h AB fun r1 h=>tS (iE (iE h)) (LR _ _ _ _ _ _ (iE (iE h)).2)
theorem xC3{N}:∀n x1 x10 x11 g004 r,FI N n x1 x10 x11 g004=some r->RS EY 3 (xBq x1 x10 x11 g004) (FJ r):=
 nI (fun _ _ _ _ _ h=>nE h) fun n ih x1 x10 x11 g004 r h=>cE (oA h) (fun h=>bE h Af fun r1 h=>cE h (fun h=>tS h (ih _ _ _ _ _ h.2)) fun h=>tS h (LT _ _ _ _ _ _ h.2)) fun h=>tS (cb F h) (LT _ _ _ _ _ _ (cb F h).2)
theorem xLx{N a0 a1 a2 a3 r}(h:Hz N a0 a1 a2 a3=some r):AbC 199 (xLw a0 a1 a2 a3) (FJ r):=
 oK EY <| bE (oA h) AB fun r1 h=>tE (iE (iE h)) (xC3 _ _ _ _ _ _ (iE (iE h)).2)
theorem HA:FnOk Tryz.prog 198 Tryz.f198 (mI Tryz.f198 58 [.tmp 8] [0,2,4,6,8,16,18,20,60,84,94,2000008,9,2000009] [(3,[2,8,18,20,2000008,9,2000009]),(5,[2,8,18,20,2000008,9,2000009])] [(3,[(3,.take,false)]),(5,[(3,.take,false)])] (ext:=[1000004])):=fO Tryz.func198
def Kz(x1 x9 x10:Int)(g004:List Org):St:=[(2,(vI x1)),(8,(vP 4)),(18,(vI x9)),(20,(vI x10)),(9,.v true [.clo 144 [1000004],.swp 189 0 (.pointer (some ⟨3,112,none⟩)) 1000004]),(2000009,.v true [.sl (.lnt 0) .org g004])]
def xBi(x1 x9 x10:Int)(g004:List Org):St:=[(2,(vI x1)),(8,(vP 4)),(18,(vI x9)),(20,(vI x10)),(9,.v true [.clo 144 [1000004],.swp 189 0 (.pointer (some ⟨3,112,none⟩)) 1000004]),(2000009,.v true [.sl (.lnt 0) .org g004])]
theorem LQ{N}{k3}(hk3:∀z0 z1 z2 z3 r,k3 z0 z1 z2 z3=some r->RS HA 3 (Kz z0 z1 z2 z3) (Hy r)):∀n x1 x9 x10 g004 r,Co N k3 n x1 x9 x10 g004=some r->RS HA 5 (xBi x1 x9 x10 g004) (Hy r):=
 nI (fun _ _ _ _ _ h=>nE h) fun n ih x1 x9 x10 g004 r h=>cE (oA h) (fun h=>bE h Af fun r1 h=>cE h (fun h=>tS h (ih _ _ _ _ _ h.2)) fun h=>cE h (fun h=>dS h) fun h=>bE h AB fun r2 h=>tS (iE (iE h)) (hk3 _ _ _ _ _ (iE (iE h)).2)) fun h=>cE (cb F h) (fun h=>dS h) fun h=>bE h AB fun r1 h=>tS (iE (iE h)) (hk3 _ _ _ _ _ (iE (iE h)).2)
theorem xCW{N}:∀n x1 x9 x10 g004 r,Cn N n x1 x9 x10 g004=some r->RS HA 3 (Kz x1 x9 x10 g004) (Hy r):=
 nI (fun _ _ _ _ _ h=>nE h) fun n ih x1 x9 x10 g004 r h=>cE (oA h) (fun h=>bE h Af fun r1 h=>cE h (fun h=>tS h (ih _ _ _ _ _ h.2)) fun h=>tS h (LQ ih _ _ _ _ _ _ h.2)) fun h=>tS (cb F h) (LQ ih _ _ _ _ _ _ (cb F h).2)
theorem xLv{N a0 a1 a2 a3 r}(h:Hx N a0 a1 a2 a3=some r):AbC 198 (xLu a0 a1 a2 a3) (Hy r):=
 oK HA <| bE (oA h) AB fun r1 h=>tE (iE (iE h)) (xCW _ _ _ _ _ _ (iE (iE h)).2)
theorem BJ:FnOk Tryz.prog 197 Tryz.f197 (mI Tryz.f197 91 [.tmp 6] [0,2,4,6,12,14,16,18,20,28,56,66,74,94,102,120,140,150,168,2000006,7,2000007] [(3,[2,4,6,14,16,2000006,7,2000007]),(5,[2,4,6,14,16,2000006,7,2000007]),(7,[2,4,6,14,16,2000006,7,2000007]),(14,[2,4,6,14,16,18,2000006,7,2000007]),(18,[2,4,6,14,16,2000006,7,2000007]),(20,[2,4,6,14,16,20,2000006,7,2000007])] [(5,[(3,.take,false)])] (ext:=[1000003])):=fO Tryz.func197
def EV(x1 x2 x7 x8:Int)(g003:List Org):St:=[(2,(vI x1)),(4,(vI x2)),(6,(vP 3)),(14,(vI x7)),(16,(vI x8)),(7,.v true [.clo 144 [1000003],.swp 189 0 (.pointer (some ⟨3,112,none⟩)) 1000003]),(2000007,.v true [.sl (.lnt 0) .org g003])]
def xCD(x1 x2 x7 x8:Int)(g003:List Org):St:=[(2,(vI x1)),(4,(vI x2)),(6,(vP 3)),(14,(vI x7)),(16,(vI x8)),(7,.v true [.clo 144 [1000003],.swp 189 0 (.pointer (some ⟨3,112,none⟩)) 1000003]),(2000007,.v true [.sl (.lnt 0) .org g003])]
def xCE(x1 x2 x7 x8:Int)(g003:List Org):St:=[(2,(vI x1)),(4,(vI x2)),(6,(vP 3)),(14,(vI x7)),(16,(vI x8)),(7,.v true [.clo 144 [1000003],.swp 189 0 (.pointer (some ⟨3,112,none⟩)) 1000003]),(2000007,.v true [.sl (.lnt 0) .org g003])]
def xCA(x1 x2 x7 x8 x9:Int)(g003:List Org):St:=[(2,(vI x1)),(4,(vI x2)),(6,(vP 3)),(14,(vI x7)),(16,(vI x8)),(18,(vI x9)),(7,.v true [.clo 144 [1000003],.swp 189 0 (.pointer (some ⟨3,112,none⟩)) 1000003]),(2000007,.v true [.sl (.lnt 0) .org g003])]
def xCB(x1 x2 x7 x8:Int)(g003:List Org):St:=[(2,(vI x1)),(4,(vI x2)),(6,(vP 3)),(14,(vI x7)),(16,(vI x8)),(7,.v true [.clo 144 [1000003],.swp 189 0 (.pointer (some ⟨3,112,none⟩)) 1000003]),(2000007,.v true [.sl (.lnt 0) .org g003])]
def xCC(x1 x2 x7 x8 x10:Int)(g003:List Org):St:=[(2,(vI x1)),(4,(vI x2)),(6,(vP 3)),(14,(vI x7)),(16,(vI x8)),(20,(vI x10)),(7,.v true [.clo 144 [1000003],.swp 189 0 (.pointer (some ⟨3,112,none⟩)) 1000003]),(2000007,.v true [.sl (.lnt 0) .org g003])]
theorem xD8{N}{k3}(hk3:∀z0 z1 z2 z3 z4 r,k3 z0 z1 z2 z3 z4=some r->RS BJ 3 (EV z0 z1 z2 z3 z4) (BP r)):∀n x1 x2 x7 x8 x10 g003 r,FE N k3 n x1 x2 x7 x8 x10 g003=some r->RS BJ 20 (xCC x1 x2 x7 x8 x10 g003) (BP r):=
 nI (fun _ _ _ _ _ _ _ h=>nE h) fun n ih x1 x2 x7 x8 x10 g003 r h=>cE (oA h) (fun h=>bE h Af fun r1 h=>cE h (fun h=>tS h (hk3 _ _ _ _ _ _ h.2)) fun h=>bE h AB fun r2 h=>tS (iE (iE h)) (ih _ _ _ _ _ _ _ (iE (iE h)).2)) fun h=>tS h (hk3 _ _ _ _ _ _ h.2)
theorem JD{N}{k3}(hk3:∀z0 z1 z2 z3 z4 r,k3 z0 z1 z2 z3 z4=some r->RS BJ 3 (EV z0 z1 z2 z3 z4) (BP r)):∀x1 x2 x7 x8 g003 r,Dg N k3 x1 x2 x7 x8 g003=some r->RS BJ 18 (xCB x1 x2 x7 x8 g003) (BP r):=
 fun x1 x2 x7 x8 g003 r h=>cE (oA h) (fun h=>tS h (xD8 hk3 _ _ _ _ _ _ _ _ h.2)) fun h=>tS h (hk3 _ _ _ _ _ _ h.2)
theorem xD7{N}{k3}(hk3:∀z0 z1 z2 z3 z4 r,k3 z0 z1 z2 z3 z4=some r->RS BJ 3 (EV z0 z1 z2 z3 z4) (BP r)):∀n x1 x2 x7 x8 x9 g003 r,FD N k3 n x1 x2 x7 x8 x9 g003=some r->RS BJ 14 (xCA x1 x2 x7 x8 x9 g003) (BP r):=
 nI (fun _ _ _ _ _ _ _ h=>nE h) fun n ih x1 x2 x7 x8 x9 g003 r h=>cE (oA h) (fun h=>bE h Af fun r1 h=>cE h (fun h=>tS h (JD hk3 _ _ _ _ _ _ h.2)) fun h=>bE h AB fun r2 h=>tS (iE (iE h)) (ih _ _ _ _ _ _ _ (iE (iE h)).2)) fun h=>tS h (JD hk3 _ _ _ _ _ _ h.2)
theorem L8{N}{k3}(hk3:∀z0 z1 z2 z3 z4 r,k3 z0 z1 z2 z3 z4=some r->RS BJ 3 (EV z0 z1 z2 z3 z4) (BP r)):∀x1 x2 x7 x8 g003 r,FH N k3 x1 x2 x7 x8 g003=some r->RS BJ 7 (xCE x1 x2 x7 x8 g003) (BP r):=
 fun x1 x2 x7 x8 g003 r h=>cE (oA h) (fun h=>dS h) fun h=>cE h (fun h=>dS h) fun h=>bE h AB fun r1 h=>cE (iE (iE h)) (fun h=>tS h (xD7 hk3 _ _ _ _ _ _ _ _ h.2)) fun h=>tS h (JD hk3 _ _ _ _ _ _ h.2)
theorem xEa{N}{k3}(hk3:∀z0 z1 z2 z3 z4 r,k3 z0 z1 z2 z3 z4=some r->RS BJ 3 (EV z0 z1 z2 z3 z4) (BP r)):∀n x1 x2 x7 x8 g003 r,FG N k3 n x1 x2 x7 x8 g003=some r->RS BJ 5 (xCD x1 x2 x7 x8 g003) (BP r):=
 nI (fun _ _ _ _ _ _ h=>nE h) fun n ih x1 x2 x7 x8 g003 r h=>cE (oA h) (fun h=>bE h Af fun r1 h=>cE h (fun h=>tS h (ih _ _ _ _ _ _ h.2)) fun h=>tS h (L8 hk3 _ _ _ _ _ _ h.2)) fun h=>tS (cb F h) (L8 hk3 _ _ _ _ _ _ (cb F h).2)
theorem xD9{N}:∀n x1 x2 x7 x8 g003 r,Dh N n x1 x2 x7 x8 g003=some r->RS BJ 3 (EV x1 x2 x7 x8 g003) (BP r):=
 nI (fun _ _ _ _ _ _ h=>nE h) fun n ih x1 x2 x7 x8 g003 r h=>cE (oA h) (fun h=>tS h (xEa ih _ _ _ _ _ _ _ h.2)) fun h=>dS h
theorem xLt{N a0 a1 a2 r}(h:Hw N a0 a1 a2=some r):AbC 197 (xLs a0 a1 a2) (BP r):=
 oK BJ <| tE (oA h) (xD9 _ _ _ _ _ _ _ h)
theorem xE0:FnOk Tryz.prog 230 Tryz.f230 (mI Tryz.f230 24 [.tmp 8,.tmp 9] [0,2,4,6,8,16,18,28,2000008,7,9,2000009] [] [] (ext:=[3,1000004])):=fO Tryz.func230
theorem KQ{N a0 a1 a2 a3 r}(h:FC N a0 a1 a2 a3=some r):AbC 230 (xLq a0 a1 a2 a3) (xLr r):=
 oK xE0 <| bE (oA h) Af fun r1 h=>cE h (fun h=>dE h) fun h=>dE h
theorem xEX:FnOk Tryz.prog 218 Tryz.f218 (mI Tryz.f218 36 [.tmp 10] [0,2,4,6,8,10,20,2000010,9,11,2000011] [] [(1,[(5,.take,false)]),(2,[(5,.take,false)]),(3,[(5,.take,false)])] (ext:=[4,1000005])):=fO Tryz.func218
theorem KP{N a0 a1 a2 a3 a4 r}(h:FB N a0 a1 a2 a3 a4=some r):AbC 218 (xLl a0 a1 a2 a3 a4) (xLm r):=
 oK xEX <| bL (oA h) KQ fun r1 h=>bL h KQ fun r2 h=>bL h KQ fun r3 h=>dE h
theorem xES:FnOk Tryz.prog 217 Tryz.f217 (mI Tryz.f217 15 [.tmp 6] [0,2,4,6,12,2000006,5,7,2000007] [] [] (ext:=[2,1000003])):=fO Tryz.func217
theorem KO{N a0 a1 a2 r}(h:FA N a0 a1 a2=some r):AbC 217 (xLj a0 a1 a2) (xLk r):=
 oK xES <| bL (oA h) KP fun r1 h=>dE h
theorem xFt:FnOk Tryz.prog 195 Tryz.f195 (mI Tryz.f195 57 [.tmp 6,.tmp 7] [0,2,4,6,12,14,16,18,20,22,24,64,68,98,102,108,2000006,7,19,2000007] [] [] (ext:=[1000003])):=fO Tryz.func195
theorem xLd{N a0 a1 a2 r}(h:Hr N a0 a1 a2=some r):AbC 195 (xLc a0 a1 a2) (xLe r):=
 oK xFt <| cE (rp 1 (rp 0 (ap (show 4≠(0:Int) by decide) (oA h)))) (fun h=>cE h (fun h=>bL h KO fun r1 h=>bL h KO fun r2 h=>bL h KO fun r3 h=>bL h KP fun r4 h=>cE h (fun h=>dE h) fun h=>cE h (fun h=>dE h) fun h=>dE h) fun h=>bL h KP fun r1 h=>cE h (fun h=>dE h) fun h=>cE h (fun h=>dE h) fun h=>dE h) fun h=>cE h (fun h=>dE h) fun h=>cE h (fun h=>dE h) fun h=>dE h
theorem MC:FnOk Tryz.prog 214 Tryz.f214 (mI Tryz.f214 55 [] [0,2,4,6,8,16,18,32,64,88,2000008,9,2000009] [(2,[4,6,8,16,2000008,9,2000009])] [(4,[(4,.take,false)])] (ext:=[1000004])):=fO Tryz.func214
def xBA(x2 x3 x8:Int)(g004:List Org):St:=[(4,(vI x2)),(6,(vI x3)),(8,(vP 4)),(16,(vI x8)),(9,.v true [.clo 144 [1000004],.swp 189 0 (.pointer (some ⟨3,112,none⟩)) 1000004]),(2000009,.v true [.sl (.lnt 0) .org g004])]
theorem xDc{N}:∀n x2 x3 x8 g004 r,Cr N n x2 x3 x8 g004=some r->RS MC 2 (xBA x2 x3 x8 g004) (Og r):=
 nI (fun _ _ _ _ _ h=>nE h) fun n ih x2 x3 x8 g004 r h=>cE (oA h) (fun h=>dS h) fun h=>cE h (fun h=>bE h Af fun r1 h=>cE h (fun h=>bE h Af fun r2 h=>cE h (fun h=>dS h) fun h=>bE h AB fun r3 h=>tS (iE (iE h)) (ih _ _ _ _ _ (iE (iE h)).2)) fun h=>bE h Af fun r2 h=>cE h (fun h=>dS h) fun h=>bE h AB fun r3 h=>tS (iE (iE h)) (ih _ _ _ _ _ (iE (iE h)).2)) fun h=>bE (cb F h) Af fun r1 h=>cE h (fun h=>dS h) fun h=>bE h AB fun r2 h=>tS (iE (iE h)) (ih _ _ _ _ _ (iE (iE h)).2)
theorem Of{N a0 a1 a2 a3 r}(h:FL N a0 a1 a2 a3=some r):AbC 214 (xLC a0 a1 a2 a3) (Og r):=
 oK MC <| tE (oA h) (xDc _ _ _ _ _ _ h)
theorem JM:FnOk Tryz.prog 193 Tryz.f193 (mI Tryz.f193 45 [] [0,2,4,6,12,14,16,18,20,38,60,2000006,7,2000007] [(5,[6,12,14,16,18,2000006,7,2000007]),(9,[6,12,14,20,2000006,7,2000007])] [(12,[(1,.take,false)])] (ext:=[1000003])):=fO Tryz.func193
def xB5(x6 x7 x8 x9:Int)(g003:List Org):St:=[(6,(vP 3)),(12,(vI x6)),(14,(vI x7)),(16,(vI x8)),(18,(vI x9)),(7,.v true [.clo 144 [1000003],.swp 189 0 (.pointer (some ⟨3,112,none⟩)) 1000003]),(2000007,.v true [.sl (.lnt 0) .org g003])]
def xB6(x6 x7 x10:Int)(g003:List Org):St:=[(6,(vP 3)),(12,(vI x6)),(14,(vI x7)),(20,(vI x10)),(7,.v true [.clo 144 [1000003],.swp 189 0 (.pointer (some ⟨3,112,none⟩)) 1000003]),(2000007,.v true [.sl (.lnt 0) .org g003])]
theorem xDF{N}:∀n x6 x7 x10 g003 r,Ex N n x6 x7 x10 g003=some r->RS JM 9 (xB6 x6 x7 x10 g003) (KN r):=
 nI (fun _ _ _ _ _ h=>nE h) fun n ih x6 x7 x10 g003 r h=>cE (oA h) (fun h=>bE h AB fun r1 h=>bL (iE (iE h)) Of fun r2 h=>tS h (ih _ _ _ _ _ h.2)) fun h=>dS h
theorem xDE{N}:∀n x6 x7 x8 x9 g003 r,Ew N n x6 x7 x8 x9 g003=some r->RS JM 5 (xB5 x6 x7 x8 x9 g003) (KN r):=
 nI (fun _ _ _ _ _ _ h=>nE h) fun n ih x6 x7 x8 x9 g003 r h=>cE (oA h) (fun h=>bL h Of fun r1 h=>tS h (ih _ _ _ _ _ _ h.2)) fun h=>tS h (xDF _ _ _ _ _ _ h.2)
theorem xLg{N a0 a1 a2 r}(h:Hs N a0 a1 a2=some r):AbC 193 (xLf a0 a1 a2) (KN r):=
 oK JM <| tE (ap (show 2≠(0:Int) by decide) (oA h)) (xDE _ _ _ _ _ _ _ (ap (show 2≠(0:Int) by decide) (oA h)).2)
theorem HC:FnOk Tryz.prog 192 Tryz.f192 (mI Tryz.f192 35 [] [0,2,4,6,12,14,24,52,2000006,7,2000007] [(2,[2,4,6,12,2000006,7,2000007]),(5,[2,4,6,12,14,2000006,7,2000007])] [(5,[(3,.take,false)])] (ext:=[1000003])):=fO Tryz.func192
def LC(x1 x2 x6:Int)(g003:List Org):St:=[(2,(vI x1)),(4,(vI x2)),(6,(vP 3)),(12,(vI x6)),(7,.v true [.clo 144 [1000003],.swp 189 0 (.pointer (some ⟨3,112,none⟩)) 1000003]),(2000007,.v true [.sl (.lnt 0) .org g003])]
def xBZ(x1 x2 x6 x7:Int)(g003:List Org):St:=[(2,(vI x1)),(4,(vI x2)),(6,(vP 3)),(12,(vI x6)),(14,(vI x7)),(7,.v true [.clo 144 [1000003],.swp 189 0 (.pointer (some ⟨3,112,none⟩)) 1000003]),(2000007,.v true [.sl (.lnt 0) .org g003])]
theorem xDA{N}{k2}(hk2:∀z0 z1 z2 z3 r,k2 z0 z1 z2 z3=some r->RS HC 2 (LC z0 z1 z2 z3) (Hu r)):∀n x1 x2 x6 x7 g003 r,Ez N k2 n x1 x2 x6 x7 g003=some r->RS HC 5 (xBZ x1 x2 x6 x7 g003) (Hu r):=
 nI (fun _ _ _ _ _ _ h=>nE h) fun n ih x1 x2 x6 x7 g003 r h=>cE (oA h) (fun h=>bE h Af fun r1 h=>cE h (fun h=>bE h AB fun r2 h=>tS (iE (iE h)) (ih _ _ _ _ _ _ (iE (iE h)).2)) fun h=>tS h (hk2 _ _ _ _ _ h.2)) fun h=>tS (cb F h) (hk2 _ _ _ _ _ (cb F h).2)
theorem xDz{N}:∀n x1 x2 x6 g003 r,Ey N n x1 x2 x6 g003=some r->RS HC 2 (LC x1 x2 x6 g003) (Hu r):=
 nI (fun _ _ _ _ _ h=>nE h) fun n ih x1 x2 x6 g003 r h=>cE (oA h) (fun h=>tS h (xDA ih _ _ _ _ _ _ _ h.2)) fun h=>dS h
theorem xLi{N a0 a1 a2 r}(h:Ht N a0 a1 a2=some r):AbC 192 (xLh a0 a1 a2) (Hu r):=
 oK HC <| tE (oA h) (xDz _ _ _ _ _ _ h)
def DE(q:Int->Int->Int->(List Org)->Option ((List Org))):Prop:=∀a0 a1 a2 a3 r,q a0 a1 a2 a3=some r->AbC 170 (KS a0 a1 a2 a3) (BQ r)
theorem B9:FnOk Tryz.prog 170 Tryz.f170 (mI Tryz.f170 130 [] [0,2,4,6,8,16,18,20,22,24,26,28,30,32,34,36,46,58,70,100,136,144,166,218,2000008,9,2000009] [(3,[2,4,6,8,16,18,2000008,9,2000009]),(11,[2,4,6,8,16,18,20,2000008,9,2000009]),(16,[2,4,6,8,16,18,20,22,24,2000008,9,2000009]),(18,[2,4,6,8,16,18,20,22,2000008,9,2000009]),(21,[2,4,6,8,20,22,2000008,9,2000009])] [(11,[(4,.take,false)]),(16,[(1,.take,false),(2,.take,false),(4,.take,false)]),(18,[(2,.take,false)]),(20,[(0,.take,false)]),(21,[(5,.take,false)]),(22,[(0,.take,false)])] (ext:=[1000004])):=fO Tryz.func170
def Fh(x1 x2 x3:Int)(x8 x9:Bool)(g004:List Org):St:=[(2,(vI x1)),(4,(vI x2)),(6,(vI x3)),(8,(vP 4)),(16,(vB x8)),(18,(vB x9)),(9,.v true [.clo 144 [1000004],.swp 189 0 (.pointer (some ⟨3,112,none⟩)) 1000004]),(2000009,.v true [.sl (.lnt 0) .org g004])]
def xBT(x1 x2 x3:Int)(x8 x9:Bool)(x10:Int)(g004:List Org):St:=[(2,(vI x1)),(4,(vI x2)),(6,(vI x3)),(8,(vP 4)),(16,(vB x8)),(18,(vB x9)),(20,(vI x10)),(9,.v true [.clo 144 [1000004],.swp 189 0 (.pointer (some ⟨3,112,none⟩)) 1000004]),(2000009,.v true [.sl (.lnt 0) .org g004])]
def xBU(x1 x2 x3:Int)(x8 x9:Bool)(x10 x11 x12:Int)(g004:List Org):St:=[(2,(vI x1)),(4,(vI x2)),(6,(vI x3)),(8,(vP 4)),(16,(vB x8)),(18,(vB x9)),(20,(vI x10)),(22,(vI x11)),(24,(vI x12)),(9,.v true [.clo 144 [1000004],.swp 189 0 (.pointer (some ⟨3,112,none⟩)) 1000004]),(2000009,.v true [.sl (.lnt 0) .org g004])]
def xBV(x1 x2 x3:Int)(x8 x9:Bool)(x10 x11:Int)(g004:List Org):St:=[(2,(vI x1)),(4,(vI x2)),(6,(vI x3)),(8,(vP 4)),(16,(vB x8)),(18,(vB x9)),(20,(vI x10)),(22,(vI x11)),(9,.v true [.clo 144 [1000004],.swp 189 0 (.pointer (some ⟨3,112,none⟩)) 1000004]),(2000009,.v true [.sl (.lnt 0) .org g004])]
def xBW(x1 x2 x3 x10 x11:Int)(g004:List Org):St:=[(2,(vI x1)),(4,(vI x2)),(6,(vI x3)),(8,(vP 4)),(20,(vI x10)),(22,(vI x11)),(9,.v true [.clo 144 [1000004],.swp 189 0 (.pointer (some ⟨3,112,none⟩)) 1000004]),(2000009,.v true [.sl (.lnt 0) .org g004])]
theorem LW{N}{q0}(g0:DE q0){k3}(hk3:∀z0 z1 z2 z3 z4 z5 r,k3 z0 z1 z2 z3 z4 z5=some r->RS B9 3 (Fh z0 z1 z2 z3 z4 z5) (BQ r)):∀x1 x2 x3 x10 x11 g004 r,GV N q0 k3 x1 x2 x3 x10 x11 g004=some r->RS B9 21 (xBW x1 x2 x3 x10 x11 g004) (BQ r):=
 fun x1 x2 x3 x10 x11 g004 r h=>bL (oA h) xLx fun r1 h=>cE (ap (show 8≠(0:Int) by decide) h) (fun h=>bL h (g0 _ _ _ _ _) fun r2 h=>tS h (hk3 _ _ _ _ _ _ _ h.2)) fun h=>bL h (g0 _ _ _ _ _) fun r2 h=>tS h (hk3 _ _ _ _ _ _ _ h.2)
theorem Gv{N}{q0}(g0:DE q0){k3}(hk3:∀z0 z1 z2 z3 z4 z5 r,k3 z0 z1 z2 z3 z4 z5=some r->RS B9 3 (Fh z0 z1 z2 z3 z4 z5) (BQ r)):∀x1 x2 x3 x8 x9 x10 x11 g004 r,Dj N q0 k3 x1 x2 x3 x8 x9 x10 x11 g004=some r->RS B9 18 (xBV x1 x2 x3 x8 x9 x10 x11 g004) (BQ r):=
 fun x1 x2 x3 x8 x9 x10 x11 g004 r h=>cE (oA h) (fun h=>bE h Af fun r1 h=>cE h (fun h=>bL h xLv fun r2 h=>tS h (hk3 _ _ _ _ _ _ _ h.2)) fun h=>tS h (LW g0 hk3 _ _ _ _ _ _ _ h.2)) fun h=>tS (cb F h) (LW g0 hk3 _ _ _ _ _ _ _ (cb F h).2)
theorem LV{N}{q0}(g0:DE q0){k3}(hk3:∀z0 z1 z2 z3 z4 z5 r,k3 z0 z1 z2 z3 z4 z5=some r->RS B9 3 (Fh z0 z1 z2 z3 z4 z5) (BQ r)):∀x1 x2 x3 x8 x9 x10 x11 x12 g004 r,GU N q0 k3 x1 x2 x3 x8 x9 x10 x11 x12 g004=some r->RS B9 16 (xBU x1 x2 x3 x8 x9 x10 x11 x12 g004) (BQ r):=
 fun x1 x2 x3 x8 x9 x10 x11 x12 g004 r h=>cE (oA h) (fun h=>cE h (fun h=>cE h (fun h=>bL h xLt fun r1 h=>cE h (fun h=>dS h) fun h=>tS h (Gv g0 hk3 _ _ _ _ _ _ _ _ _ h.2)) fun h=>tS h (Gv g0 hk3 _ _ _ _ _ _ _ _ _ h.2)) fun h=>tS (cb F h) (Gv g0 hk3 _ _ _ _ _ _ _ _ _ (cb F h).2)) fun h=>tS (cb F (cb F h)) (Gv g0 hk3 _ _ _ _ _ _ _ _ _ (cb F (cb F h)).2)
theorem LU{N}{q0}(g0:DE q0){k3}(hk3:∀z0 z1 z2 z3 z4 z5 r,k3 z0 z1 z2 z3 z4 z5=some r->RS B9 3 (Fh z0 z1 z2 z3 z4 z5) (BQ r)):∀x1 x2 x3 x8 x9 x10 g004 r,GT N q0 k3 x1 x2 x3 x8 x9 x10 g004=some r->RS B9 11 (xBT x1 x2 x3 x8 x9 x10 g004) (BQ r):=
 fun x1 x2 x3 x8 x9 x10 g004 r h=>bL (oA h) xLd fun r1 h=>cE h (fun h=>bL h xLB fun r2 h=>tS h (LV g0 hk3 _ _ _ _ _ _ _ _ _ _ h.2)) fun h=>tS h (LV g0 hk3 _ _ _ _ _ _ _ _ _ _ h.2)
theorem xDv{N}{q0}(g0:DE q0):∀n x1 x2 x3 x8 x9 g004 r,Dk N q0 n x1 x2 x3 x8 x9 g004=some r->RS B9 3 (Fh x1 x2 x3 x8 x9 g004) (BQ r):=
 nI (fun _ _ _ _ _ _ _ h=>nE h) fun n ih x1 x2 x3 x8 x9 g004 r h=>cE (oA h) (fun h=>bL h xLi fun r1 h=>dS h) fun h=>cE h (fun h=>bL h xLg fun r1 h=>dS h) fun h=>cE h (fun h=>bL h xLa fun r1 h=>tS h (LU g0 ih _ _ _ _ _ _ _ _ h.2)) fun h=>tS h (LU g0 ih _ _ _ _ _ _ _ _ h.2)
theorem xLy{N}{q0}(g0:DE q0){a0 a1 a2 a3 r}(h:Oc N q0 a0 a1 a2 a3=some r):AbC 170 (KS a0 a1 a2 a3) (BQ r):=
 oK B9 <| tE (oA h) (xDv g0 _ _ _ _ _ _ _ _ h)
theorem Od{N:Nat}:∀d,DE (Dl N d)
 |0=>fun _ _ _ _ _ h=>nE h
 |d+1=>fun _ _ _ _ _ h=>xLy (N:=N) (Od d) h
theorem sort_pdqsort_func_cUnionOrigins_1_ok{N:Nat}{a0:Int}{a1:Int}{a2:Int}{a3:List Org}{r:(List Org)}(h:KR N a0 a1 a2 a3=some r):AbC 170 (KS a0 a1 a2 a3) (BQ r):=Od N _ _ _ _ r h
end Go.Ab.T
end
section
namespace Go.Ab
def Big(p:Nat->Prop):Prop:=∃k,∀N,k<=N->p N
def Big2(p:Nat->Nat->Prop):Prop:=∃k,∀N n,k<=N->k<=n->p N n
theorem Big.imp{p q:Nat->Prop}(h:Big p)(f:∀N,p N->q N):Big q:=h.elim fun k hk=>⟨k,fun N hN=>f N (hk N hN)⟩
theorem Big2.imp{p q:Nat->Nat->Prop}(h:Big2 p)(f:∀N n,p N n->q N n):Big2 q:=h.elim fun k hk=>⟨k,fun N n h1 h2=>f N n (hk N n h1 h2)⟩
theorem Big.of{p:Nat->Prop}(h:∀N,p N):Big p:=⟨0,fun N _=>h N⟩
theorem Big2.of{p:Nat->Nat->Prop}(h:∀N n,p N n):Big2 p:=⟨0,fun N n _ _=>h N n⟩
theorem Big.and{p q:Nat->Prop}(h:Big p)(h' :Big q):Big fun N=>p N/\q N:=by
 obtain⟨a,ha⟩:=h;obtain⟨b,hb⟩:=h';exact⟨max a b,fun N hN=>⟨ha N (by omega),hb N (by omega)⟩⟩
theorem Big2.and{p q:Nat->Nat->Prop}(h:Big2 p)(h' :Big2 q):Big2 fun N n=>p N n/\q N n:=by
 obtain⟨a,ha⟩:=h;obtain⟨b,hb⟩:=h';exact⟨max a b,fun N n h1 h2=>⟨ha N n (by omega) (by omega),hb N n (by omega) (by omega)⟩⟩
theorem Big.two{p:Nat->Prop}(h:Big p):Big2 fun N _=>p N:=h.elim fun k hk=>⟨k,fun N _ h _=>hk N h⟩
theorem Big2.diag{p:Nat->Nat->Prop}(h:Big2 p):Big fun N=>p N N:=h.elim fun k hk=>⟨k,fun N h=>hk N N h h⟩
theorem Big2.succ{p:Nat->Nat->Prop}(h:Big2 fun N n=>p N (n+1)):Big2 p:=by
 obtain⟨k,hk⟩:=h;refine⟨k+1,fun N n h1 h2=> ?_⟩;obtain⟨m,rfl⟩:∃m,n=m+1:=⟨n - 1,by omega⟩;exact hk N m (by omega) (by omega)
theorem Big.list{α:Type}{p:α->Nat->Prop}{l:List α}(h:∀x∈l,Big (p x)):Big fun N=>∀x∈l,p x N:=by
 induction l with
 |nil=>exact .of fun N x hx=>by cases hx
 |cons a l ih=>
  refine((h a Zp).and (ih fun x hx=>h x (Zq _ hx))).imp fun N ⟨h1,h2⟩ x hx=> ?_;rcases Zo.1 hx with rfl|hx
  ·exact h1
  ·exact h2 x hx
theorem Big2.list{α:Type}{p:α->Nat->Nat->Prop}{l:List α}(h:∀x∈l,Big2 (p x)):Big2 fun N n=>∀x∈l,p x N n:=by
 induction l with
 |nil=>exact .of fun N n x hx=>by cases hx
 |cons a l ih=>
  refine((h a Zp).and (ih fun x hx=>h x (Zq _ hx))).imp fun N n ⟨h1,h2⟩ x hx=> ?_;rcases Zo.1 hx with rfl|hx
  ·exact h1
  ·exact h2 x hx
theorem Big.get{p:Nat->Prop}(h:Big p):∃N,p N:=h.elim fun k hk=>⟨k,hk k (Zi k)⟩
def I64(x:Int):Prop:= -9223372036854775808<=x/\x<=9223372036854775807
theorem xBh(x:Int):IntKind.i64.wrap x=if x % 18446744073709551616>=9223372036854775808 then x % 18446744073709551616 - 18446744073709551616 else x % 18446744073709551616:=by
 show(if(true&&decide (x % 18446744073709551616>=9223372036854775808))=true then x % 18446744073709551616 - 18446744073709551616 else x % 18446744073709551616)=_;simp only [ZN,Z1]
theorem zX{x:Int}(h1: -9223372036854775808<=x)(h2:x<=9223372036854775807):IntKind.i64.wrap x=x:=by
 rw [xBh];split <;>omega
theorem DL(x:Int):I64 (IntKind.i64.wrap x):=by
 rw [xBh];unfold I64;split <;>omega
theorem Ak{α:Type}{xs:List α}{i:Nat}{x:α}{l:List α}(h:xs.drop i=x::l):i<xs.length/\xs[i]? =some x/\xs.drop (i+1)=l:=by
 have h1:i<xs.length:=by
  rcases ZG i xs.length with h1|h1
  ·exact h1
  ·rw [XE h1] at h;cases h
 rw [Yy h1] at h;cases h;exact⟨h1,by simp [h1],rfl⟩
theorem BI{α:Type}{xs:List α}{i:Nat}(h:xs.drop i=[]):xs.length<=i:=by simpa using h
end Go.Ab
end
section
open Go.IntKind (i64)
namespace Go.Ab
open Go.Sort
theorem OF{a b:Org}:olt a b=true↔a.cell<b.cell\/(a.cell=b.cell/\a.row<b.row):=by
 unfold olt;by_cases h1:a.cell<b.cell
 ·simp [h1]
 ·by_cases h2:a.cell=b.cell
  ·have:(a.cell==b.cell)=true:=by simpa using h2
   simp [this,h2]
  ·have:(a.cell==b.cell)=false:=by simpa using h2
   simp [h1,h2,this]
theorem KE{a b:Org}:olt a b=false↔b.cell<a.cell\/(a.cell=b.cell/\b.row<=a.row):=by
 rw [<-Bool.not_eq_true,OF];omega
theorem Bf:SWO olt where
 irrefl:=fun x=>KE.2 (by omega)
 trans:=fun x y z h1 h2=>by rw [OF] at h1 h2 ⊢;omega
 ntrans:=fun x y z h1 h2=>by rw [KE] at h1 h2 ⊢;omega
theorem KD(x y:Org)(h1:olt x y=false)(h2:olt y x=false):x=y:=by
 rw [KE] at h1 h2;cases x;cases y;simp at h1 h2 ⊢;omega
theorem xKi(N:Nat)(a b:Org):Ek N a b=some (olt a b):=by
 unfold Ek olt;by_cases h1:a.cell<b.cell
 ·simp [h1]
 ·cases h2:(a.cell==b.cell) <;>simp [h1]
theorem Mp{d:Array Org}{i:Nat}(hi:i<d.size):d.toList.getD (Int.toNat (i:Int)) Do=d[i]! :=by
 rw [jI,ZW];simp [hi]
theorem xJX(N:Nat){i j:Nat}{d:Array Org}(hi:i<d.size)(hj:j<d.size):AJ N (i:Int) (j:Int) d.toList=some (olt d[i]! d[j]!,d.toList):=by
 unfold AJ;rw [Zw ⟨Xv _,by simpa using hi⟩,Zw ⟨Xv _,by simpa using hj⟩,xKi,Mp hi,Mp hj]
 rfl
theorem xO4(N:Nat){i j:Nat}{d:Array Org}(hi:i<d.size)(hj:j<d.size):zR N (i:Int) (j:Int) d.toList=some (swp d i j).toList:=by
 unfold zR qS;rw [Zw ⟨Xv _,by simpa using hi,Xv _,by simpa using hj⟩]
 rfl
theorem wn{x:Int}(n:Nat)(h:x=n)(hn:n<9223372036854775808):i64.wrap x=(n:Int):=by rw [h];exact zX (by omega) (by omega)
theorem As{β:Type}(N:Nat){x y:Int}{i j:Nat}{d:Array Org}(hx:x=i)(hy:y=j)(hi:i<d.size)(hj:j<d.size)(k:Bool×List Org->Option β):
 Option.bind (AJ N x y d.toList) k=k (olt d[i]! d[j]!,d.toList):=by rw [hx,hy,xJX N hi hj];rfl
theorem A5{β:Type}(N:Nat){x y:Int}{i j:Nat}{d:Array Org}(hx:x=i)(hy:y=j)(hi:i<d.size)(hj:j<d.size)(h2:2<=d.size)(k:List Org->Option β):
 (Option.bind (zR N x y d.toList) fun r=>if 2<=List.length d.toList then if List.length r=List.length d.toList then k r else none else none)=k (swp d i j).toList:=by
 rw [hx,hy,xO4 N hi hj];show(if 2<=List.length d.toList then if List.length (swp d i j).toList=List.length d.toList then k (swp d i j).toList else none else none)=_;rw [Zw (by simpa using h2),Zw (by simp [swp])]
theorem y8{d:Array Org}{i j:Nat}:(swp d i j).size=d.size:=by simp [swp]
theorem Gk(lt:Org->Org->Bool)(a:Nat):∀(j:Nat) (d:Array Org),(insInner lt a j d).size=d.size
 |0,d=>rfl
 |j+1,d=>by
  unfold insInner;split
  ·rw [Gk lt a j,y8]
  ·rfl
theorem NZ(N:Nat)(k:Int->Int->Int->List Org->Option (List Org)){a b i:Nat}(hi:i<4611686018427387904):∀(j n:Nat) (d:Array Org),j<d.size->2<=d.size->d.size<4611686018427387904->j<n->
 Ez N k n (a:Int) (b:Int) (i:Int) (j:Int) d.toList=k (a:Int) (b:Int) ((i+1:Nat):Int) (insInner olt a j d).toList
 |0,n,d,hj,h2,hs,hn=>by
  obtain⟨n,rfl⟩:∃m,n=m+1:=⟨n - 1,by omega⟩;have e:(decide (((0:Nat):Int)>(a:Int)))=false:=Zy (by omega);rw [Ez,e,jF,wn (i+1) (by omega) (by omega)]
  rfl
 |j+1,n,d,hj,h2,hs,hn=>by
  obtain⟨n,rfl⟩:∃m,n=m+1:=⟨n - 1,by omega⟩;rw [Ez,insInner];by_cases ha:j+1>a
  ·have e:(decide (((j+1:Nat):Int)>(a:Int)))=true:=Zz (by omega);rw [e,jT,wn (n:=j) (by omega) (by omega),As N rfl rfl hj (by omega)];dsimp only;cases hl:olt d[j+1]! d[j]! with
   |true=>
    rw [jT,A5 N rfl rfl hj (by omega) h2,NZ N k hi j n _ (by rw [y8];omega) (by rw [y8];exact h2) (by rw [y8];exact hs) (by omega)];rw [Zw (by simp [ha])]
   |false=>
    rw [jF,wn (i+1) (by omega) (by omega),Zf (by simp)]
  ·have e:(decide (((j+1:Nat):Int)>(a:Int)))=false:=Zy (by omega);rw [e,jF,wn (i+1) (by omega) (by omega),Zf (by simp [ha])]
theorem xIX(N:Nat){a b:Nat}:∀(m i n:Nat) (d:Array Org),b - i=m->b<=d.size->2<=d.size->d.size<4611686018427387904->i<4611686018427387904->m<n->d.size<N->
 Ey N n (a:Int) (b:Int) (i:Int) d.toList=some (insOuter olt a b i d).toList:=by
 intro m
 induction m with
 |zero=>
  intro i n d hm hb h2 hs hi hn hN;obtain⟨n,rfl⟩:∃m,n=m+1:=⟨n - 1,by omega⟩;have e:(decide ((i:Int)<(b:Int)))=false:=Zy (by omega);rw [Ey,e,jF,insOuter,Zf (by omega)]
 |succ m ih=>
  intro i n d hm hb h2 hs hi hn hN;obtain⟨n,rfl⟩:∃m,n=m+1:=⟨n - 1,by omega⟩;have e:(decide ((i:Int)<(b:Int)))=true:=Zz (by omega);rw [Ey,e,jT,NZ N _ hi i N d (by omega) h2 hs (by omega),insOuter,Zw (by omega)];exact ih (i+1) n _ (by omega) (by rw [Gk];exact hb) (by rw [Gk];exact h2) (by rw [Gk];exact hs) (by omega) (by omega) (by rw [Gk];exact hN)
theorem xIY(N:Nat){a b:Nat}{d:Array Org}(hab:a<=b)(hb:b<=d.size)(h2:2<=d.size)(hs:d.size<1152921504606846976)(hN:d.size<N):
 Ht N (a:Int) (b:Int) d.toList=some (insertionSort olt d a b).toList:=by
 unfold Ht insertionSort;rw [wn (a+1) (by omega) (by omega)];exact xIX N _ _ N d rfl hb h2 (by omega) (by omega) (by omega) hN
theorem xK1(N:Nat){hi first:Nat}(x:Int):∀(m root n:Nat) (d:Array Org),hi - root=m->root<=hi->first+hi<=d.size->2<=d.size->d.size<1152921504606846976->m<n->
 Cr N n (hi:Int) (first:Int) (root:Int) d.toList=some (siftDown olt hi first root d).toList/\(siftDown olt hi first root d).size=d.size:=by
 intro m
 induction m using Nat.strongRecOn with
 |_ m ih=>
  intro root n d hm hr hf h2 hs hn;obtain⟨n,rfl⟩:∃m,n=m+1:=⟨n - 1,by omega⟩;have w1:i64.wrap (i64.wrap (2*(root:Int))+1)=((2*root+1:Nat):Int):=by
   have e:i64.wrap (2*(root:Int))=((2*root:Nat):Int):=wn _ (by omega) (by omega);rw [e];exact wn _ (by omega) (by omega)
  have w2:i64.wrap (((2*root+1:Nat):Int)+1)=((2*root+2:Nat):Int):=wn _ (by omega) (by omega);rw [Cr,siftDown,w1,w2];by_cases hc:2*root+1>=hi
  ·have e:(decide (((2*root+1:Nat):Int)>=(hi:Int)))=true:=Zz (by omega);rw [e,jT,dif_pos hc];exact⟨rfl,rfl⟩
  ·have e:(decide (((2*root+1:Nat):Int)>=(hi:Int)))=false:=Zy (by omega);rw [e,jF,dif_neg hc];have w3:i64.wrap ((first:Int)+((2*root+1:Nat):Int))=((first+(2*root+1):Nat):Int):=wn _ (by omega) (by omega);have w4:i64.wrap (((first+(2*root+1):Nat):Int)+1)=((first+(2*root+1)+1:Nat):Int):=wn _ (by omega) (by omega);have w5:i64.wrap ((first:Int)+(root:Int))=((first+root:Nat):Int):=wn _ (by omega) (by omega);rw [w3,w4,w5]
   have one:∀(c:Nat),c<hi->root<c->(Option.bind (AJ N ((first+root:Nat):Int) ((first+c:Nat):Int) d.toList) fun r2=>
    bif(!r2.1) then some r2.2 else
     Option.bind (zR N ((first+root:Nat):Int) ((first+c:Nat):Int) r2.2) fun r3=>
     if 2<=List.length r2.2 then
     if List.length r3=List.length r2.2 then
     (Cr N n (hi:Int) (first:Int) (c:Int) r3)
     else none
     else none)=some (if !olt d[first+root]! d[first+c]! then d else siftDown olt hi first c (swp d (first+root) (first+c))).toList/\
    (if !olt d[first+root]! d[first+c]! then d else siftDown olt hi first c (swp d (first+root) (first+c))).size=d.size:=by
    intro c hc1 hc2;rw [As N rfl rfl (by omega) (by omega)];dsimp only;cases hl:olt d[first+root]! d[first+c]! with
    |false=>exact⟨rfl,rfl⟩
    |true=>
     have:=ih (hi - c) (by omega) c n (swp d (first+root) (first+c)) rfl (by omega) (by rw [y8];exact hf) (by rw [y8];exact h2) (by rw [y8];exact hs) (by omega);rw [jU,jF,A5 N rfl rfl (by omega) (by omega) h2];rw [y8] at this;exact this
   by_cases hd:2*root+1+1<hi
   ·have e:(decide (((2*root+2:Nat):Int)<(hi:Int)))=true:=Zz (by omega);have w6:i64.wrap ((first:Int)+((2*root+2:Nat):Int))=((first+(2*root+2):Nat):Int):=wn _ (by omega) (by omega);rw [e,jT,As N rfl rfl (by omega) (by omega),w6];dsimp only;cases hl:olt d[first+(2*root+1)]! d[first+(2*root+1)+1]! with
    |true=>
     rw [jT];have:=one (2*root+2) (by omega) (by omega);rw [Zw (by simp [hd]),dif_pos (by omega:2*root+2<hi)];exact this
    |false=>
     rw [jF];have:=one (2*root+1) (by omega) (by omega);rw [Zf (by simp)];exact this
   ·have e:(decide (((2*root+2:Nat):Int)<(hi:Int)))=false:=Zy (by omega);rw [e,jF,Zf (by simp [hd])];exact one (2*root+1) (by omega) (by omega)
end Go.Ab
end
