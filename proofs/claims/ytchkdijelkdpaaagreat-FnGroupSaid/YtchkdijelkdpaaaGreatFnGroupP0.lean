/- The statement FnGroup holds: plain functions, certificates, laws. Conditions: none. -/
import Derived.Maps.AppendAt
import Derived.Maps.OwnSet
import Derived.OrdersHeld
import Derived.Shelf.GgSortFunc.Slice
import Derived.Shelf.GgSortFunc.Tiny
import Derived.Shelf.Slices.In.SortNone2
import Derived.Shelf.Small.Bits
import Derived.Shelf.Sort.Plain
import Derived.Sort.AssemblyPlain
import Derived.Test.YtchkdijelkdpaaaGreatChecked
import Derived.Test.YtchkdijelkdpaaaGreatProg
import Derived.Test.YtchkdijelkdpaaaGreatRows
import Derived.WalkKit
import Derived.Test.YtchkdijelkdpaaaGreatL2
set_option linter.all false
section
namespace Go.Ab
abbrev Cu(f:Fl)(e:Cur):List CV:=[.sl f .byte (Cur.b e),.int .i64 (Cur.i e),.int .i64 (Cur.h e)]
abbrev Va(f:Fl)(e:Val):List CV:=[.int .i64 (Val.kind e),.int .i64 (Val.n e),.int .i64 (Val.step e),.str (Val.text e),.sl f .val (Val.list e),.sl f .str (Val.columns e),.sl f .row (Val.rows e)]
end Go.Ab
end
section
open Go.IntKind (i64)
namespace Go.Ab
def xEf(a0:Int):List Arg:=[.box [.int .u64 a0]]
def xCP(r:Int×Int):CallO:=⟨.v false [.int .u64 r.1],[[.int .u64 r.2]],[]⟩
def xFs(N:Nat)(a0:Int):Option (Int×Int):=some ((xorI .u64 (xorI .u64 (xorI .u64 a0 (IntKind.u64.wrap (a0*2 ^ (Int.toNat 13)))) (Int.fdiv (xorI .u64 a0 (IntKind.u64.wrap (a0*2 ^ (Int.toNat 13)))) ((2:Int) ^ (Int.toNat 7)))) (IntKind.u64.wrap ((xorI .u64 (xorI .u64 a0 (IntKind.u64.wrap (a0*2 ^ (Int.toNat 13)))) (Int.fdiv (xorI .u64 a0 (IntKind.u64.wrap (a0*2 ^ (Int.toNat 13)))) ((2:Int) ^ (Int.toNat 7))))*2 ^ (Int.toNat 17)))),(xorI .u64 (xorI .u64 (xorI .u64 a0 (IntKind.u64.wrap (a0*2 ^ (Int.toNat 13)))) (Int.fdiv (xorI .u64 a0 (IntKind.u64.wrap (a0*2 ^ (Int.toNat 13)))) ((2:Int) ^ (Int.toNat 7)))) (IntKind.u64.wrap ((xorI .u64 (xorI .u64 a0 (IntKind.u64.wrap (a0*2 ^ (Int.toNat 13)))) (Int.fdiv (xorI .u64 a0 (IntKind.u64.wrap (a0*2 ^ (Int.toNat 13)))) ((2:Int) ^ (Int.toNat 7))))*2 ^ (Int.toNat 17)))))
def xKo(a0:Int):List Arg:=[.val (.v false [.int .u64 a0])]
def xIq(r:Int):CallO:=⟨.v false [.int .i64 r],[],[]⟩
def xJ7(N:Nat)(a0:Int):Option Int:=zFJ a0
def xFc(a0:Int):List Arg:=[.val (.v false [.int .i64 a0])]
def xDU(r:Int):CallO:=⟨.v false [.int .u64 r],[],[]⟩
def xE1(N:Nat)(a0:Int):Option (Int):=(xJ7 N (IntKind.u64.wrap (a0))).bind fun r1=>if(0:Int)<=(IntKind.u64.wrap (r1))/\(IntKind.u64.wrap (r1))<64 then some (IntKind.u64.wrap (1*2 ^ (Int.toNat (IntKind.u64.wrap (r1))))) else none
def xAn(a0 a1:Int)(a2:List Org):List Arg:=[.val (.v false [.int .i64 a0]),.val (.v false [.int .i64 a1]),.val (.v false [.sl (.lnt 0) .org a2]),.val (.v false [.val (.pointer (some ⟨0,80,none⟩))])]
def xAa(r:(List Org)):CallO:=⟨.tup [],[],[.sl (.lnt 0) .org r]⟩
def xAf(N:Nat)(a0 a1:Int)(a2:List Org):Option (List Org):=zJb a0 a1 a2
def xB5(a0:Int)(a1:Int)(a2:List Org):List Arg:=[.val (.v true [.clo 64 [1000003],.swp 141 0 (.pointer (some ⟨0,80,none⟩)) 1000003]),.val (.v false [.int .i64 a0]),.val (.v false [.int .i64 a1]),.gbox [.sl (.lnt 0) .org a2]]
def xBc(r:(List Org)):CallO:=⟨.tup [],[[.sl (.lnt 0) .org r]],[]⟩
def xBb(N:Nat):Nat->Int->Int->(List Org)->Option ((List Org))
 |0,_,_,_=>none
 |n+1,x6,x7,g003=>bif(decide (x6<x7)) then((xAf N x6 x7 g003).bind fun r1=>if 2<=g003.length then if r1.length=g003.length then(xBb N n (i64.wrap (x6+1)) (i64.wrap (x7 - 1)) r1) else none else none) else(some g003)
def xBP(N:Nat)(a0:Int)(a1:Int)(a2:List Org):Option ((List Org)):=(xBb N N a0 (i64.wrap (a1 - 1)) a2)
def xBx(a0:Int)(a1:Int)(a2:List Org):List Arg:=[.val (.v true [.clo 64 [1000003],.swp 141 0 (.pointer (some ⟨0,80,none⟩)) 1000003]),.val (.v false [.int .i64 a0]),.val (.v false [.int .i64 a1]),.gbox [.sl (.lnt 0) .org a2]]
def xAT(r:(List Org)):CallO:=⟨.tup [],[[.sl (.lnt 0) .org r]],[]⟩
def xAS(N:Nat):Nat->Int->Int->Int->Int->Int->(List Org)->Option ((List Org))
 |0,_,_,_,_,_,_=>none
 |n+1,x1,x6,x8,x9,b7,g003=>bif(decide (x9<=(i64.wrap ((i64.wrap (x1+(i64.wrap ((i64.wrap (Int.tdiv x6 4))*2))))+1)))) then((xFs N b7).bind fun r1=>bif(decide (((i64.wrap ((andI .u64 r1.1 (IntKind.u64.wrap (x8 - 1))))):Int)>=x6)) then((xAf N x9 (i64.wrap (x1+(i64.wrap ((i64.wrap ((andI .u64 r1.1 (IntKind.u64.wrap (x8 - 1))))) - x6)))) g003).bind fun r2=>if 2<=g003.length then if r2.length=g003.length then(xAS N n x1 x6 x8 (i64.wrap (x9+1)) r1.2 r2) else none else none) else((xAf N x9 (i64.wrap (x1+(i64.wrap ((andI .u64 r1.1 (IntKind.u64.wrap (x8 - 1))))))) g003).bind fun r2=>if 2<=g003.length then if r2.length=g003.length then(xAS N n x1 x6 x8 (i64.wrap (x9+1)) r1.2 r2) else none else none)) else(some g003)
def xBJ(N:Nat)(a0:Int)(a1:Int)(a2:List Org):Option ((List Org)):=bif(decide ((i64.wrap (a1 - a0))>=8)) then((xE1 N (i64.wrap (a1 - a0))).bind fun r1=>(xAS N N a0 (i64.wrap (a1 - a0)) r1 (i64.wrap ((i64.wrap (a0+(i64.wrap ((i64.wrap (Int.tdiv (i64.wrap (a1 - a0)) 4))*2)))) - 1)) (IntKind.u64.wrap ((i64.wrap (a1 - a0)))) a2)) else(some a2)
def xCJ(a0:Org)(a1:Org):List Arg:=[.val (.v true [.int .i64 a0.cell,.int .i64 a0.row]),.val (.v true [.int .i64 a1.cell,.int .i64 a1.row])]
def xBR(r:Bool):CallO:=⟨.v false [.bool r],[],[]⟩
def xDZ(N:Nat)(a0:Org)(a1:Org):Option (Bool):=bif(decide (a0.cell<a1.cell)) then(some true) else(bif(a0.cell==a1.cell) then(some (decide (a0.row<a1.row))) else(some false))
def xAZ(a0:Int)(a1:Int)(a2:List Org):List Arg:=[.val (.v false [.int .i64 a0]),.val (.v false [.int .i64 a1]),.box [.sl (.lnt 0) .org a2]]
def xAc(r:Bool×(List Org)):CallO:=⟨.v false [.bool r.1],[[.sl (.lnt 0) .org r.2]],[]⟩
def xAC(N:Nat)(a0:Int)(a1:Int)(a2:List Org):Option (Bool×(List Org)):=if(0:Int)<=a0/\a0<a2.length then if(0:Int)<=a1/\a1<a2.length then(xDZ N (a2.getD a0.toNat Ty.org.dflt) (a2.getD a1.toNat Ty.org.dflt)).bind fun r1=>some (r1,a2) else none else none
def xBO(a0:Int)(a1:Int)(a2:Int)(a3:List Org):List Arg:=[.val (.v true [.clo 64 [1000004],.swp 141 0 (.pointer (some ⟨0,80,none⟩)) 1000004]),.val (.v false [.int .i64 a0]),.val (.v false [.int .i64 a1]),.val (.v false [.int .i64 a2]),.gbox [.sl (.lnt 0) .org a3]]
def xAo(r:Int×Bool×(List Org)):CallO:=⟨.tup [(false,[.int .i64 r.1]),(false,[.bool r.2.1])],[[.sl (.lnt 0) .org r.2.2]],[]⟩
def xAM(N:Nat)(k13:Int->Int->Int->(List Org)->Option (Int×Bool×(List Org))):Nat->Int->Int->Int->(List Org)->Option (Int×Bool×(List Org))
 |0,_,_,_,_=>none
 |n+1,x1,x10,x11,g004=>bif(decide (x10<=x11)) then((xAC N x11 x1 g004).bind fun r1=>bif(!r1.1) then((xAM N k13 n x1 x10 (i64.wrap (x11 - 1)) r1.2)) else(bif(decide (x10>x11)) then((xAf N x11 x1 r1.2).bind fun r2=>if 2<=r1.2.length then if r2.length=r1.2.length then some (x11,false,r2) else none else none) else((xAf N x10 x11 r1.2).bind fun r2=>if 2<=r1.2.length then if r2.length=r1.2.length then(k13 x1 (i64.wrap (x10+1)) (i64.wrap (x11 - 1)) r2) else none else none))) else(bif(decide (x10>x11)) then((xAf N x11 x1 g004).bind fun r1=>if 2<=g004.length then if r1.length=g004.length then some (x11,false,r1) else none else none) else((xAf N x10 x11 g004).bind fun r1=>if 2<=g004.length then if r1.length=g004.length then(k13 x1 (i64.wrap (x10+1)) (i64.wrap (x11 - 1)) r1) else none else none))
def xAy(N:Nat):Nat->Int->Int->Int->(List Org)->Option (Int×Bool×(List Org))
 |0,_,_,_,_=>none
 |n+1,x1,x10,x11,g004=>bif(decide (x10<=x11)) then((xAC N x10 x1 g004).bind fun r1=>bif r1.1 then((xAy N n x1 (i64.wrap (x10+1)) x11 r1.2)) else((xAM N (fun z0 z1 z2 z3=>(xAy N n z0 z1 z2 z3)) N x1 x10 x11 r1.2))) else((xAM N (fun z0 z1 z2 z3=>(xAy N n z0 z1 z2 z3)) N x1 x10 x11 g004))
def xAR(N:Nat):Nat->Int->Int->Int->(List Org)->Option (Int×Bool×(List Org))
 |0,_,_,_,_=>none
 |n+1,x1,x10,x11,g004=>bif(decide (x10<=x11)) then((xAC N x11 x1 g004).bind fun r1=>bif(!r1.1) then((xAR N n x1 x10 (i64.wrap (x11 - 1)) r1.2)) else(bif(decide (x10>x11)) then((xAf N x11 x1 r1.2).bind fun r2=>if 2<=r1.2.length then if r2.length=r1.2.length then some (x11,true,r2) else none else none) else((xAf N x10 x11 r1.2).bind fun r2=>if 2<=r1.2.length then if r2.length=r1.2.length then(xAy N N x1 (i64.wrap (x10+1)) (i64.wrap (x11 - 1)) r2) else none else none))) else(bif(decide (x10>x11)) then((xAf N x11 x1 g004).bind fun r1=>if 2<=g004.length then if r1.length=g004.length then some (x11,true,r1) else none else none) else((xAf N x10 x11 g004).bind fun r1=>if 2<=g004.length then if r1.length=g004.length then(xAy N N x1 (i64.wrap (x10+1)) (i64.wrap (x11 - 1)) r1) else none else none))
def xBn(N:Nat):Nat->Int->Int->Int->(List Org)->Option (Int×Bool×(List Org))
 |0,_,_,_,_=>none
 |n+1,x1,x10,x11,g004=>bif(decide (x10<=x11)) then((xAC N x10 x1 g004).bind fun r1=>bif r1.1 then((xBn N n x1 (i64.wrap (x10+1)) x11 r1.2)) else((xAR N N x1 x10 x11 r1.2))) else((xAR N N x1 x10 x11 g004))
def xB3(N:Nat)(a0:Int)(a1:Int)(a2:Int)(a3:List Org):Option (Int×Bool×(List Org)):=(xAf N a0 a2 a3).bind fun r1=>if 2<=a3.length then if r1.length=a3.length then(xBn N N a0 (i64.wrap (a0+1)) (i64.wrap (a1 - 1)) r1) else none else none
def xBX(a0:Int)(a1:Int)(a2:Int)(a3:List Org):List Arg:=[.val (.v true [.clo 64 [1000004],.swp 141 0 (.pointer (some ⟨0,80,none⟩)) 1000004]),.val (.v false [.int .i64 a0]),.val (.v false [.int .i64 a1]),.val (.v false [.int .i64 a2]),.gbox [.sl (.lnt 0) .org a3]]
def xAw(r:Int×(List Org)):CallO:=⟨.v false [.int .i64 r.1],[[.sl (.lnt 0) .org r.2]],[]⟩
def xAF(N:Nat)(k3:Int->Int->Int->(List Org)->Option (Int×(List Org))):Nat->Int->Int->Int->(List Org)->Option (Int×(List Org))
 |0,_,_,_,_=>none
 |n+1,x1,x9,x10,g004=>bif(decide (x9<=x10)) then((xAC N x1 x10 g004).bind fun r1=>bif r1.1 then((xAF N k3 n x1 x9 (i64.wrap (x10 - 1)) r1.2)) else(bif(decide (x9>x10)) then(some (x9,r1.2)) else((xAf N x9 x10 r1.2).bind fun r2=>if 2<=r1.2.length then if r2.length=r1.2.length then(k3 x1 (i64.wrap (x9+1)) (i64.wrap (x10 - 1)) r2) else none else none))) else(bif(decide (x9>x10)) then(some (x9,g004)) else((xAf N x9 x10 g004).bind fun r1=>if 2<=g004.length then if r1.length=g004.length then(k3 x1 (i64.wrap (x9+1)) (i64.wrap (x10 - 1)) r1) else none else none))
def xAE(N:Nat):Nat->Int->Int->Int->(List Org)->Option (Int×(List Org))
 |0,_,_,_,_=>none
 |n+1,x1,x9,x10,g004=>bif(decide (x9<=x10)) then((xAC N x1 x9 g004).bind fun r1=>bif(!r1.1) then((xAE N n x1 (i64.wrap (x9+1)) x10 r1.2)) else((xAF N (fun z0 z1 z2 z3=>(xAE N n z0 z1 z2 z3)) N x1 x9 x10 r1.2))) else((xAF N (fun z0 z1 z2 z3=>(xAE N n z0 z1 z2 z3)) N x1 x9 x10 g004))
def xBH(N:Nat)(a0:Int)(a1:Int)(a2:Int)(a3:List Org):Option (Int×(List Org)):=(xAf N a0 a2 a3).bind fun r1=>if 2<=a3.length then if r1.length=a3.length then(xAE N N a0 (i64.wrap (a0+1)) (i64.wrap (a1 - 1)) r1) else none else none
def xA1(a0:Int)(a1:Int)(a2:List Org):List Arg:=[.val (.v true [.clo 64 [1000003],.swp 141 0 (.pointer (some ⟨0,80,none⟩)) 1000003]),.val (.v false [.int .i64 a0]),.val (.v false [.int .i64 a1]),.gbox [.sl (.lnt 0) .org a2]]
def xAd(r:Bool×(List Org)):CallO:=⟨.v false [.bool r.1],[[.sl (.lnt 0) .org r.2]],[]⟩
def xAL(N:Nat)(k3:Int->Int->Int->Int->(List Org)->Option (Bool×(List Org))):Nat->Int->Int->Int->Int->Int->(List Org)->Option (Bool×(List Org))
 |0,_,_,_,_,_,_=>none
 |n+1,x1,x2,x7,x8,x10,g003=>bif(decide (x10<x2)) then((xAC N x10 (i64.wrap (x10 - 1)) g003).bind fun r1=>bif(!r1.1) then((k3 x1 x2 x7 (i64.wrap (x8+1)) r1.2)) else((xAf N x10 (i64.wrap (x10 - 1)) r1.2).bind fun r2=>if 2<=r1.2.length then if r2.length=r1.2.length then(xAL N k3 n x1 x2 x7 x8 (i64.wrap (x10+1)) r2) else none else none)) else((k3 x1 x2 x7 (i64.wrap (x8+1)) g003))
def xAB(N:Nat)(k3:Int->Int->Int->Int->(List Org)->Option (Bool×(List Org)))(x1:Int)(x2:Int)(x7:Int)(x8:Int)(g003:List Org):Option (Bool×(List Org)):=bif(decide ((i64.wrap (x2 - x7))>=2)) then((xAL N k3 N x1 x2 x7 x8 (i64.wrap (x7+1)) g003)) else((k3 x1 x2 x7 (i64.wrap (x8+1)) g003))
def xAK(N:Nat)(k3:Int->Int->Int->Int->(List Org)->Option (Bool×(List Org))):Nat->Int->Int->Int->Int->Int->(List Org)->Option (Bool×(List Org))
 |0,_,_,_,_,_,_=>none
 |n+1,x1,x2,x7,x8,x9,g003=>bif(decide (x9>=1)) then((xAC N x9 (i64.wrap (x9 - 1)) g003).bind fun r1=>bif(!r1.1) then((xAB N k3 x1 x2 x7 x8 r1.2)) else((xAf N x9 (i64.wrap (x9 - 1)) r1.2).bind fun r2=>if 2<=r1.2.length then if r2.length=r1.2.length then(xAK N k3 n x1 x2 x7 x8 (i64.wrap (x9 - 1)) r2) else none else none)) else((xAB N k3 x1 x2 x7 x8 g003))
def xAO(N:Nat)(k3:Int->Int->Int->Int->(List Org)->Option (Bool×(List Org)))(x1:Int)(x2:Int)(x7:Int)(x8:Int)(g003:List Org):Option (Bool×(List Org)):=bif(x7==x2) then(some (true,g003)) else(bif(decide ((i64.wrap (x2 - x1))<50)) then(some (false,g003)) else((xAf N x7 (i64.wrap (x7 - 1)) g003).bind fun r1=>if 2<=g003.length then if r1.length=g003.length then bif(decide ((i64.wrap (x7 - x1))>=2)) then((xAK N k3 N x1 x2 x7 x8 (i64.wrap (x7 - 1)) r1)) else((xAB N k3 x1 x2 x7 x8 r1)) else none else none))
def xAN(N:Nat)(k3:Int->Int->Int->Int->(List Org)->Option (Bool×(List Org))):Nat->Int->Int->Int->Int->(List Org)->Option (Bool×(List Org))
 |0,_,_,_,_,_=>none
 |n+1,x1,x2,x7,x8,g003=>bif(decide (x7<x2)) then((xAC N x7 (i64.wrap (x7 - 1)) g003).bind fun r1=>bif(!r1.1) then((xAN N k3 n x1 x2 (i64.wrap (x7+1)) x8 r1.2)) else((xAO N k3 x1 x2 x7 x8 r1.2))) else((xAO N k3 x1 x2 x7 x8 g003))
def xAD(N:Nat):Nat->Int->Int->Int->Int->(List Org)->Option (Bool×(List Org))
 |0,_,_,_,_,_=>none
 |n+1,x1,x2,x7,x8,g003=>bif(decide (x8<5)) then((xAN N (fun z0 z1 z2 z3 z4=>(xAD N n z0 z1 z2 z3 z4)) N x1 x2 x7 x8 g003)) else(some (false,g003))
def xBh(N:Nat)(a0:Int)(a1:Int)(a2:List Org):Option (Bool×(List Org)):=(xAD N N a0 a1 (i64.wrap (a0+1)) 0 a2)
def xBj(a0:Int)(a1:Int)(a2:Int)(a3:List Org):List Arg:=[.val (.v true [.clo 64 [1000004],.swp 141 0 (.pointer (some ⟨0,80,none⟩)) 1000004]),.val (.v false [.int .i64 a0]),.val (.v false [.int .i64 a1]),.box [.int .i64 a2],.gbox [.sl (.lnt 0) .org a3]]
def xAG(r:Int×Int×Int×(List Org)):CallO:=⟨.tup [(false,[.int .i64 r.1]),(false,[.int .i64 r.2.1])],[[.int .i64 r.2.2.1],[.sl (.lnt 0) .org r.2.2.2]],[]⟩
def xBA(N:Nat)(a0:Int)(a1:Int)(a2:Int)(a3:List Org):Option (Int×Int×Int×(List Org)):=(xAC N a1 a0 a3).bind fun r1=>bif r1.1 then(some (a1,a0,(i64.wrap (a2+1)),r1.2)) else(some (a0,a1,a2,r1.2))
def xAY(a0:Int)(a1:Int)(a2:Int)(a3:Int)(a4:List Org):List Arg:=[.val (.v true [.clo 64 [1000005],.swp 141 0 (.pointer (some ⟨0,80,none⟩)) 1000005]),.val (.v false [.int .i64 a0]),.val (.v false [.int .i64 a1]),.val (.v false [.int .i64 a2]),.box [.int .i64 a3],.gbox [.sl (.lnt 0) .org a4]]
def xAr(r:Int×Int×(List Org)):CallO:=⟨.v false [.int .i64 r.1],[[.int .i64 r.2.1],[.sl (.lnt 0) .org r.2.2]],[]⟩
def xBz(N:Nat)(a0:Int)(a1:Int)(a2:Int)(a3:Int)(a4:List Org):Option (Int×Int×(List Org)):=(xBA N a0 a1 a3 a4).bind fun r1=>(xBA N r1.2.1 a2 r1.2.2.1 r1.2.2.2).bind fun r2=>(xBA N r1.1 r2.1 r2.2.2.1 r2.2.2.2).bind fun r3=>some (r3.2.1,r3.2.2.1,r3.2.2.2)
def xA0(a0:Int)(a1:Int)(a2:List Org):List Arg:=[.val (.v true [.clo 64 [1000003],.swp 141 0 (.pointer (some ⟨0,80,none⟩)) 1000003]),.val (.v false [.int .i64 a0]),.box [.int .i64 a1],.gbox [.sl (.lnt 0) .org a2]]
def xAk(r:Int×Int×(List Org)):CallO:=⟨.v false [.int .i64 r.1],[[.int .i64 r.2.1],[.sl (.lnt 0) .org r.2.2]],[]⟩
def xAX(N:Nat)(a0:Int)(a1:Int)(a2:List Org):Option (Int×Int×(List Org)):=(xBz N (i64.wrap (a0 - 1)) a0 (i64.wrap (a0+1)) a1 a2).bind fun r1=>some (r1.1,r1.2.1,r1.2.2)
def xAq(a0:Int)(a1:Int)(a2:List Org):List Arg:=[.val (.v true [.clo 64 [1000003],.swp 141 0 (.pointer (some ⟨0,80,none⟩)) 1000003]),.val (.v false [.int .i64 a0]),.val (.v false [.int .i64 a1]),.gbox [.sl (.lnt 0) .org a2]]
def xAm(r:Int×Int×(List Org)):CallO:=⟨.tup [(false,[.int .i64 r.1]),(false,[.int .i64 r.2.1])],[[.sl (.lnt 0) .org r.2.2]],[]⟩
def xBS(N:Nat)(a0:Int)(a1:Int)(a2:List Org):Option (Int×Int×(List Org)):=bif(decide ((i64.wrap (a1 - a0))>=8)) then(bif(decide ((i64.wrap (a1 - a0))>=50)) then((xAX N (i64.wrap (a0+(i64.wrap ((i64.wrap (Int.tdiv (i64.wrap (a1 - a0)) 4))*1)))) 0 a2).bind fun r1=>(xAX N (i64.wrap (a0+(i64.wrap ((i64.wrap (Int.tdiv (i64.wrap (a1 - a0)) 4))*2)))) r1.2.1 r1.2.2).bind fun r2=>(xAX N (i64.wrap (a0+(i64.wrap ((i64.wrap (Int.tdiv (i64.wrap (a1 - a0)) 4))*3)))) r2.2.1 r2.2.2).bind fun r3=>(xBz N r1.1 r2.1 r3.1 r3.2.1 r3.2.2).bind fun r4=>bif(r4.2.1==0) then(some (r4.1,1,r4.2.2)) else(bif(r4.2.1==12) then(some (r4.1,2,r4.2.2)) else(some (r4.1,0,r4.2.2)))) else((xBz N (i64.wrap (a0+(i64.wrap ((i64.wrap (Int.tdiv (i64.wrap (a1 - a0)) 4))*1)))) (i64.wrap (a0+(i64.wrap ((i64.wrap (Int.tdiv (i64.wrap (a1 - a0)) 4))*2)))) (i64.wrap (a0+(i64.wrap ((i64.wrap (Int.tdiv (i64.wrap (a1 - a0)) 4))*3)))) 0 a2).bind fun r1=>bif(r1.2.1==0) then(some (r1.1,1,r1.2.2)) else(bif(r1.2.1==12) then(some (r1.1,2,r1.2.2)) else(some (r1.1,0,r1.2.2))))) else(bif((0:Int)==0) then(some ((i64.wrap (a0+(i64.wrap ((i64.wrap (Int.tdiv (i64.wrap (a1 - a0)) 4))*2)))),1,a2)) else(bif((0:Int)==12) then(some ((i64.wrap (a0+(i64.wrap ((i64.wrap (Int.tdiv (i64.wrap (a1 - a0)) 4))*2)))),2,a2)) else(some ((i64.wrap (a0+(i64.wrap ((i64.wrap (Int.tdiv (i64.wrap (a1 - a0)) 4))*2)))),0,a2)
     )))
def xBW(a0:Int)(a1:Int)(a2:Int)(a3:List Org):List Arg:=[.val (.v true [.clo 64 [1000004],.swp 141 0 (.pointer (some ⟨0,80,none⟩)) 1000004]),.val (.v false [.int .i64 a0]),.val (.v false [.int .i64 a1]),.val (.v false [.int .i64 a2]),.gbox [.sl (.lnt 0) .org a3]]
def xAu(r:(List Org)):CallO:=⟨.tup [],[[.sl (.lnt 0) .org r]],[]⟩
def xAU(N:Nat):Nat->Int->Int->Int->(List Org)->Option ((List Org))
 |0,_,_,_,_=>none
 |n+1,x2,x3,x8,g004=>bif(decide (((i64.wrap ((i64.wrap (2*x8))+1)):Int)>=x2)) then(some g004) else(bif(decide (((i64.wrap ((i64.wrap ((i64.wrap (2*x8))+1))+1)):Int)<x2)) then((xAC N (i64.wrap (x3+(i64.wrap ((i64.wrap (2*x8))+1)))) (i64.wrap ((i64.wrap (x3+(i64.wrap ((i64.wrap (2*x8))+1))))+1)) g004).bind fun r1=>bif r1.1 then((xAC N (i64.wrap (x3+x8)) (i64.wrap (x3+(i64.wrap ((i64.wrap ((i64.wrap (2*x8))+1))+1)))) r1.2).bind fun r2=>bif(!r2.1) then(some r2.2) else((xAf N (i64.wrap (x3+x8)) (i64.wrap (x3+(i64.wrap ((i64.wrap ((i64.wrap (2*x8))+1))+1)))) r2.2).bind fun r3=>if 2<=r2.2.length then if r3.length=r2.2.length then(xAU N n x2 x3 (i64.wrap ((i64.wrap ((i64.wrap (2*x8))+1))+1)) r3) else none else none)) else((xAC N (i64.wrap (x3+x8)) (i64.wrap (x3+(i64.wrap ((i64.wrap (2*x8))+1)))) r1.2).bind fun r2=>bif(!r2.1) then(some r2.2) else((xAf N (i64.wrap (x3+x8)) (i64.wrap (x3+(i64.wrap ((i64.wrap (2*x8))+1)))) r2.2).bind fun r3=>if 2<=r2.2.length then if r3.length=r2.2.length then(xAU N n x2 x3 (i64.wrap ((i64.wrap (2*x8))+1)) r3) else none else none))) else((xAC N (i64.wrap (x3+x8)) (i64.wrap (x3+(i64.wrap ((i64.wrap (2*x8))+1)))) g004).bind fun r1=>bif(!r1.1) then(some r1.2) else((xAf N (i64.wrap (x3+x8)) (i64.wrap (x3+(i64.wrap ((i64.wrap (2*x8))+1)))) r1.2).bind fun r2=>
      if 2<=r1.2.length then if r2.length=r1.2.length then(xAU N n x2 x3 (i64.wrap ((i64.wrap (2*x8))+1)) r2) else none else none)))
def xBm(N:Nat)(a0:Int)(a1:Int)(a2:Int)(a3:List Org):Option ((List Org)):=(xAU N N a1 a2 a0 a3)
def xCi(a0:Int)(a1:Int)(a2:List Org):List Arg:=[.val (.v true [.clo 64 [1000003],.swp 141 0 (.pointer (some ⟨0,80,none⟩)) 1000003]),.val (.v false [.int .i64 a0]),.val (.v false [.int .i64 a1]),.gbox [.sl (.lnt 0) .org a2]]
def xA6(r:(List Org)):CallO:=⟨.tup [],[[.sl (.lnt 0) .org r]],[]⟩
def xBs(N:Nat):Nat->Int->Int->Int->(List Org)->Option ((List Org))
 |0,_,_,_,_=>none
 |n+1,x6,x7,x10,g003=>bif(decide (x10>=0)) then((xAf N x6 (i64.wrap (x6+x10)) g003).bind fun r1=>if 2<=g003.length then if r1.length=g003.length then(xBm N x7 x10 x6 r1).bind fun r2=>(xBs N n x6 x7 (i64.wrap (x10 - 1)) r2) else none else none) else(some g003)
def xBr(N:Nat):Nat->Int->Int->Int->Int->(List Org)->Option ((List Org))
 |0,_,_,_,_,_=>none
 |n+1,x6,x7,x8,x9,g003=>bif(decide (x9>=0)) then((xBm N x9 x8 x6 g003).bind fun r1=>(xBr N n x6 x7 x8 (i64.wrap (x9 - 1)) r1)) else((xBs N N x6 x7 (i64.wrap (x8 - 1)) g003))
def xB7(N:Nat)(a0:Int)(a1:Int)(a2:List Org):Option ((List Org)):=(xBr N N a0 0 (i64.wrap (a1 - a0)) (i64.wrap (Int.tdiv (i64.wrap ((i64.wrap (a1 - a0)) - 1)) 2)) a2)
def xB1(a0:Int)(a1:Int)(a2:List Org):List Arg:=[.val (.v true [.clo 64 [1000003],.swp 141 0 (.pointer (some ⟨0,80,none⟩)) 1000003]),.val (.v false [.int .i64 a0]),.val (.v false [.int .i64 a1]),.gbox [.sl (.lnt 0) .org a2]]
def xAH(r:(List Org)):CallO:=⟨.tup [],[[.sl (.lnt 0) .org r]],[]⟩
def xA4(N:Nat)(k2:Int->Int->Int->(List Org)->Option ((List Org))):Nat->Int->Int->Int->Int->(List Org)->Option ((List Org))
 |0,_,_,_,_,_=>none
 |n+1,x1,x2,x6,x7,g003=>bif(decide (x7>x1)) then((xAC N x7 (i64.wrap (x7 - 1)) g003).bind fun r1=>bif r1.1 then((xAf N x7 (i64.wrap (x7 - 1)) r1.2).bind fun r2=>if 2<=r1.2.length then if r2.length=r1.2.length then(xA4 N k2 n x1 x2 x6 (i64.wrap (x7 - 1)) r2) else none else none) else((k2 x1 x2 (i64.wrap (x6+1)) r1.2))) else((k2 x1 x2 (i64.wrap (x6+1)) g003))
def xA3(N:Nat):Nat->Int->Int->Int->(List Org)->Option ((List Org))
 |0,_,_,_,_=>none
 |n+1,x1,x2,x6,g003=>bif(decide (x6<x2)) then((xA4 N (fun z0 z1 z2 z3=>(xA3 N n z0 z1 z2 z3)) N x1 x2 x6 x6 g003)) else(some g003)
def xBK(N:Nat)(a0:Int)(a1:Int)(a2:List Org):Option ((List Org)):=(xA3 N N a0 a1 (i64.wrap (a0+1)) a2)
def xBd(a0:Int)(a1:Int)(a2:Int)(a3:List Org):List Arg:=[.val (.v true [.clo 64 [1000004],.swp 141 0 (.pointer (some ⟨0,80,none⟩)) 1000004]),.val (.v false [.int .i64 a0]),.val (.v false [.int .i64 a1]),.val (.v false [.int .i64 a2]),.gbox [.sl (.lnt 0) .org a3]]
def xAi(r:(List Org)):CallO:=⟨.tup [],[[.sl (.lnt 0) .org r]],[]⟩
def xBV(N:Nat)(q0:Int->Int->Int->(List Org)->Option ((List Org)))(k3:Int->Int->Int->Bool->Bool->(List Org)->Option ((List Org)))(x1:Int)(x2:Int)(x3:Int)(x10:Int)(x11:Int)(g004:List Org):Option ((List Org)):=(xB3 N x1 x2 x11 g004).bind fun r1=>bif(decide ((i64.wrap (r1.1 - x1))<(i64.wrap (x2 - r1.1)))) then((q0 x1 r1.1 x3 r1.2.2).bind fun r2=>(k3 (i64.wrap (r1.1+1)) x2 x3 (decide ((i64.wrap (r1.1 - x1))>=(i64.wrap (Int.tdiv x10 8)))) r1.2.1 r2)) else((q0 (i64.wrap (r1.1+1)) x2 x3 r1.2.2).bind fun r2=>(k3 x1 r1.1 x3 (decide ((i64.wrap (x2 - r1.1))>=(i64.wrap (Int.tdiv x10 8)))) r1.2.1 r2))
def xA7(N:Nat)(q0:Int->Int->Int->(List Org)->Option ((List Org)))(k3:Int->Int->Int->Bool->Bool->(List Org)->Option ((List Org)))(x1:Int)(x2:Int)(x3:Int)(x8:Bool)(x9:Bool)(x10:Int)(x11:Int)(g004:List Org):Option ((List Org)):=bif(decide (x1>0)) then((xAC N (i64.wrap (x1 - 1)) x11 g004).bind fun r1=>bif(!r1.1) then((xBH N x1 x2 x11 r1.2).bind fun r2=>(k3 r2.1 x2 x3 x8 x9 r2.2)) else((xBV N q0 k3 x1 x2 x3 x10 x11 r1.2))) else((xBV N q0 k3 x1 x2 x3 x10 x11 g004))
def xBU(N:Nat)(q0:Int->Int->Int->(List Org)->Option ((List Org)))(k3:Int->Int->Int->Bool->Bool->(List Org)->Option ((List Org)))(x1:Int)(x2:Int)(x3:Int)(x8:Bool)(x9:Bool)(x10:Int)(x11:Int)(x12:Int)(g004:List Org):Option ((List Org)):=bif x8 then(bif x9 then(bif(x12==1) then((xBh N x1 x2 g004).bind fun r1=>bif r1.1 then(some r1.2) else((xA7 N q0 k3 x1 x2 x3 x8 x9 x10 x11 r1.2))) else((xA7 N q0 k3 x1 x2 x3 x8 x9 x10 x11 g004))) else((xA7 N q0 k3 x1 x2 x3 x8 x9 x10 x11 g004))) else((xA7 N q0 k3 x1 x2 x3 x8 x9 x10 x11 g004))
def xBT(N:Nat)(q0:Int->Int->Int->(List Org)->Option ((List Org)))(k3:Int->Int->Int->Bool->Bool->(List Org)->Option ((List Org)))(x1:Int)(x2:Int)(x3:Int)(x8:Bool)(x9:Bool)(x10:Int)(g004:List Org):Option ((List Org)):=(xBS N x1 x2 g004).bind fun r1=>bif(r1.2.1==2) then((xBP N x1 x2 r1.2.2).bind fun r2=>(xBU N q0 k3 x1 x2 x3 x8 x9 x10 (i64.wrap ((i64.wrap (x2 - 1)) - (i64.wrap (r1.1 - x1)))) 1 r2)) else((xBU N q0 k3 x1 x2 x3 x8 x9 x10 r1.1 r1.2.1 r1.2.2))
def xBe(N:Nat)(q0:Int->Int->Int->(List Org)->Option ((List Org))):Nat->Int->Int->Int->Bool->Bool->(List Org)->Option ((List Org))
 |0,_,_,_,_,_,_=>none
 |n+1,x1,x2,x3,x8,x9,g004=>bif(decide ((i64.wrap (x2 - x1))<=12)) then((xBK N x1 x2 g004).bind fun r1=>some r1) else(bif(x3==0) then((xB7 N x1 x2 g004).bind fun r1=>some r1) else(bif(!x8) then((xBJ N x1 x2 g004).bind fun r1=>(xBT N q0 (fun z0 z1 z2 z3 z4 z5=>(xBe N q0 n z0 z1 z2 z3 z4 z5)) x1 x2 (i64.wrap (x3 - 1)) x8 x9 (i64.wrap (x2 - x1)) r1)) else((xBT N q0 (fun z0 z1 z2 z3 z4 z5=>(xBe N q0 n z0 z1 z2 z3 z4 z5)) x1 x2 x3 x8 x9 (i64.wrap (x2 - x1)) g004))))
def xCX(N:Nat)(q0:Int->Int->Int->(List Org)->Option ((List Org)))(a0:Int)(a1:Int)(a2:Int)(a3:List Org):Option ((List Org)):=(xBe N q0 N a0 a1 a2 true true a3)
def xA8(N:Nat):Nat->Int->Int->Int->(List Org)->Option ((List Org))
 |0,_,_,_,_=>none
 |d+1,a0,a1,a2,a3=>xCX N (xA8 N d) a0 a1 a2 a3
def xDA(N:Nat)(a0:Int)(a1:Int)(a2:Int)(a3:List Org):Option ((List Org)):=xA8 N N a0 a1 a2 a3
def xJO(N:Nat):Nat->(List Str)->Int->Int->Option (Int)
 |0,_,_,_=>none
 |n+1,x0,x1,x5=>bif(decide (x5<(x0.length:Int))) then(if(0:Int)<=x5/\x5<x0.length then bif(decide (((i64.wrap (x1 - (List.length (x0.getD x5.toNat Ty.str.dflt):Int))):Int)<0)) then(some (-1)) else((xJO N n x0 (i64.wrap (x1 - (List.length (x0.getD x5.toNat Ty.str.dflt):Int))) (i64.wrap (x5+1)))) else none) else(some x1)
def xOg(N:Nat)(a0:List Str)(a1:Int):Option (Int):=bif(decide (((i64.wrap (a1 - (a0.length:Int))):Int)<0)) then(some (-1)) else((xJO N N a0 (i64.wrap (a1 - (a0.length:Int))) 0))
def xSi(N:Nat)(a0:List Int)(a1:Int):Option (Int):=bif(decide (((i64.wrap (a1 - (a0.length:Int))):Int)<0)) then(some (-1)) else(some (i64.wrap (a1 - (a0.length:Int))))
def xOf(N:Nat)(a0:List Org)(a1:Int):Option (Int):=bif(decide (((i64.wrap (a1 - (a0.length:Int))):Int)<0)) then(some (-1)) else(some (i64.wrap (a1 - (a0.length:Int))))
def xTZ(N:Nat)(a0:Rowd)(a1:Int):Option (Int):=(xSi N a0.cells a1).bind fun r1=>bif(decide (r1<0)) then(some (-1)) else((xOf N a0.frm r1).bind fun r2=>bif(decide (r2<0)) then(some (-1)) else(some r2))
def xK9(N:Nat):Nat->(List Rowd)->Int->Int->Option (Int)
 |0,_,_,_=>none
 |n+1,x0,x1,x5=>bif(decide (x5<(x0.length:Int))) then(if(0:Int)<=x5/\x5<x0.length then(xTZ N (x0.getD x5.toNat Ty.row.dflt) x1).bind fun r1=>bif(decide (r1<0)) then(some (-1)) else((xK9 N n x0 r1 (i64.wrap (x5+1)))) else none) else(some x1)
def xSj(N:Nat)(a0:List Rowd)(a1:Int):Option (Int):=bif(decide (((i64.wrap (a1 - (a0.length:Int))):Int)<0)) then(some (-1)) else((xK9 N N a0 (i64.wrap (a1 - (a0.length:Int))) 0))
def xMo(N:Nat)(q0:Val->Int->Option (Int))(q1:(List Val)->Int->Option (Int))(a0:Val)(a1:Int):Option (Int):=bif(decide (((i64.wrap (a1 - (a0.text.length:Int))):Int)<0)) then(some (-1)) else((q1 a0.list (i64.wrap (a1 - (a0.text.length:Int)))).bind fun r1=>bif(decide (r1<0)) then(some (-1)) else((xOg N a0.columns r1).bind fun r2=>bif(decide (r2<0)) then(some (-1)) else((xSj N a0.rows r2).bind fun r3=>bif(decide (r3<0)) then(some (-1)) else(some r3))))
def xKn(N:Nat)(q0:Val->Int->Option (Int))(q1:(List Val)->Int->Option (Int)):Nat->(List Val)->Int->Int->Option (Int)
 |0,_,_,_=>none
 |n+1,x0,x1,x5=>bif(decide (x5<(x0.length:Int))) then(if(0:Int)<=x5/\x5<x0.length then(q0 (x0.getD x5.toNat Ty.val.dflt) x1).bind fun r1=>bif(decide (r1<0)) then(some (-1)) else((xKn N q0 q1 n x0 r1 (i64.wrap (x5+1)))) else none) else(some x1)
def xLU(N:Nat)(q0:Val->Int->Option (Int))(q1:(List Val)->Int->Option (Int))(a0:List Val)(a1:Int):Option (Int):=bif(decide (((i64.wrap (a1 - (a0.length:Int))):Int)<0)) then(some (-1)) else((xKn N q0 q1 N a0 (i64.wrap (a1 - (a0.length:Int))) 0))
structure laws_szValue_rec where
 c_laws_szValue:Val->Int->Option (Int)
 c_laws_szValueS:(List Val)->Int->Option (Int)
def xHc(N:Nat):Nat->laws_szValue_rec
 |0=>⟨fun _ _=>none,fun _ _=>none⟩
 |d+1=>⟨xMo N (xHc N d).c_laws_szValue (xHc N d).c_laws_szValueS,xLU N (xHc N d).c_laws_szValue (xHc N d).c_laws_szValueS⟩
def xMq(N:Nat):Nat->(List Str)->(List Str)->Int->Option ((List Str))
 |0,_,_,_=>none
 |n+1,x0,x3,x4=>bif(decide (x4<(x0.length:Int))) then(if(0:Int)<=x4/\x4<x0.length then if(0:Int)<=x4/\x4<x3.length then(xMq N n x0 (x3.set x4.toNat (x0.getD x4.toNat Ty.str.dflt)) (i64.wrap (x4+1))) else none else none) else(some x3)
def xOh(N:Nat):Nat->(List Int)->(List Int)->Int->Option ((List Int))
 |0,_,_,_=>none
 |n+1,x0,x3,x4=>bif(decide (x4<(x0.length:Int))) then(if(0:Int)<=x4/\x4<x0.length then if(0:Int)<=x4/\x4<x3.length then(xOh N n x0 (x3.set x4.toNat (x0.getD x4.toNat Ty.int.dflt)) (i64.wrap (x4+1))) else none else none) else(some x3)
def xPg(N:Nat)(a0:Org):Option (Org):=some a0
def xMp(N:Nat):Nat->(List Org)->(List Org)->Int->Option ((List Org))
 |0,_,_,_=>none
 |n+1,x0,x3,x4=>bif(decide (x4<(x0.length:Int))) then(if(0:Int)<=x4/\x4<x0.length then(xPg N (x0.getD x4.toNat Ty.org.dflt)).bind fun r1=>if(0:Int)<=x4/\x4<x3.length then(xMp N n x0 (x3.set x4.toNat r1) (i64.wrap (x4+1))) else none else none) else(some x3)
def xFN(a0:Int)(a1:Int)(a2:Int):List Arg:=[.val (.v false [.int .i64 a0]),.val (.v false [.int .i64 a1]),.val (.v false [.int .i64 a2])]
def xDQ(r:Bool):CallO:=⟨.v false [.bool r],[],[]⟩
def xI6(N:Nat)(a0:Int)(a1:Int)(a2:Int):Option (Bool):=bif(decide (a0>=a1)) then(some (decide (a0<=a2))) else(some false)
def xCC(a0:Int):List Arg:=[.val (.v false [.int .i64 a0])]
def xBg(r:Bool):CallO:=⟨.v false [.bool r],[],[]⟩
def xEy(N:Nat)(a0:Int):Option (Bool):=(xI6 N a0 (-1000000000) 1000000000).bind fun r1=>some r1
def xF0(a0:Str):List Arg:=[.val (.v false [.str a0])]
def xCy(r:Bool):CallO:=⟨.v false [.bool r],[],[]⟩
def xCQ(N:Nat):Nat->Str->Int->Option (Bool)
 |0,_,_=>none
 |n+1,x0,x3=>bif(decide (x3<(x0.length:Int))) then(if(0:Int)<=x3/\x3<x0.length then bif(decide ((((x0.getD x3.toNat 0).toNat:Int):Int)<32)) then(some false) else(bif(decide ((((x0.getD x3.toNat 0).toNat:Int):Int)>126)) then(some false) else(bif((((x0.getD x3.toNat 0).toNat:Int):Int)==34) then(some false) else((xCQ N n x0 (i64.wrap (x3+1)))))) else none) else(some (decide ((x0.length:Int)<=20)))
def xHe(N:Nat)(a0:Str):Option (Bool):=(xCQ N N a0 0)
def xDt(a0:Val):List Arg:=[.val (.v true (Va .ro a0))]
def xCn(r:Bool):CallO:=⟨.v false [.bool r],[],[]⟩
def xIb(N:Nat)(a0:Val):Option (Bool):=bif(a0.kind==1) then(some true) else(bif(a0.kind==2) then(some true) else(some (a0.kind==3)))
def xHC(a0:Int)(a1:Int):List Arg:=[.val (.v false [.int .i64 a0]),.val (.v false [.int .i64 a1])]
def xGP(r:Int):CallO:=⟨.v false [.int .i64 r],[],[]⟩
def xJW(N:Nat)(a0:Int)(a1:Int):Option (Int):=bif(decide (a0>a1)) then(some a0) else(some a1)
def xE2(a0:Val):List Arg:=[.val (.v true (Va .ro a0))]
def xC9(r:Int):CallO:=⟨.v false [.int .i64 r],[],[]⟩
def xFF(N:Nat)(q0:Val->Option (Int)):Nat->Int->Int->Val->Option (Int)
 |0,_,_,_=>none
 |n+1,x3,x4,b1=>bif(decide (x4<(b1.list.length:Int))) then(if(0:Int)<=x4/\x4<b1.list.length then(q0 (b1.list.getD x4.toNat Ty.val.dflt)).bind fun r1=>(xJW N x3 r1).bind fun r2=>(xFF N q0 n r2 (i64.wrap (x4+1)) b1) else none) else(some (i64.wrap (x3+1)))
def xHY(N:Nat)(q0:Val->Option (Int))(a0:Val):Option (Int):=(xFF N q0 N 0 0 a0)
def xEq(N:Nat):Nat->Val->Option (Int)
 |0,_=>none
 |d+1,a0=>xHY N (xEq N d) a0
def xJn(N:Nat)(a0:Val):Option (Int):=xEq N N a0
def xFH(a0:Str):List Arg:=[.val (.v false [.str a0])]
def xBD(r:Bool):CallO:=⟨.v false [.bool r],[],[]⟩
def xDc(N:Nat):Nat->Str->Int->Option (Bool)
 |0,_,_=>none
 |n+1,x0,x3=>bif(decide (x3<(x0.length:Int))) then(if(0:Int)<=x3/\x3<x0.length then bif(decide ((((x0.getD x3.toNat 0).toNat:Int):Int)>=97)) then(bif(decide ((((x0.getD x3.toNat 0).toNat:Int):Int)>=48)) then(bif(!(decide ((((x0.getD x3.toNat 0).toNat:Int):Int)<=122))) then(bif(x3==0) then(some false) else(bif(!(decide ((((x0.getD x3.toNat 0).toNat:Int):Int)<=57))) then(some false) else((xDc N n x0 (i64.wrap (x3+1)))))) else((xDc N n x0 (i64.wrap (x3+1))))) else(bif(!(decide ((((x0.getD x3.toNat 0).toNat:Int):Int)<=122))) then(bif(x3==0) then(some false) else(some false)) else((xDc N n x0 (i64.wrap (x3+1)))))) else(bif(decide ((((x0.getD x3.toNat 0).toNat:Int):Int)>=48)) then(bif(x3==0) then(some false) else(bif(!(decide ((((x0.getD x3.toNat 0).toNat:Int):Int)<=57))) then(some false) else((xDc N n x0 (i64.wrap (x3+1)))))) else(bif(x3==0) then(some false) else(some false))) else none) else(some (decide ((x0.length:Int)>0)))
def xJq(N:Nat)(a0:Str):Option (Bool):=(xDc N N a0 0)
def xGs:List Arg:=[]
def xFu(r:(List Str)):CallO:=⟨.v false [.sl .own .str r],[],[]⟩
def xHE(N:Nat):Option ((List Str)):=some [[108,101,116],[105,110],[105,102],[116,104,101,110],[101,108,115,101],[102,111,114],[100,111],[108,101,110],[115,117,109],[116,97,107,101],[115,107,105,112],[114,97,110,103,101],[110,116,104],[119,104,101,114,101],[107,101,101,112],[97,100,100],[103,114,111,117,112],[106,111,105,110],[99,111,108,117,109,110],[114,111,119,115],[99,108,111,99,107],[99,104,97,110,99,101],[102,105,108,101],[116,97,98,108,101]]
def xGO(a0:List Str)(a1:Str):List Arg:=[.val (.v false [.sl .ro .str a0]),.val (.v false [.str a1])]
def xDC(r:Bool):CallO:=⟨.v false [.bool r],[],[]⟩
def xF4(N:Nat):Nat->(List Str)->Str->Int->Option (Bool)
 |0,_,_,_=>none
 |n+1,x0,x1,x5=>bif(decide (x5<(x0.length:Int))) then(if(0:Int)<=x5/\x5<x0.length then bif(((x0.getD x5.toNat Ty.str.dflt):Str)==x1) then(some true) else((xF4 N n x0 x1 (i64.wrap (x5+1)))) else none) else(some false)
def xJV(N:Nat)(a0:List Str)(a1:Str):Option (Bool):=(xF4 N N a0 a1 0)
def xGr(a0:Str):List Arg:=[.val (.v false [.str a0])]
def xFt(r:Bool):CallO:=⟨.v false [.bool r],[],[]⟩
def xGA(N:Nat)(a0:Str):Option (Bool):=(xHE N).bind fun r1=>(xJV N r1 a0).bind fun r2=>some r2
def xDn(a0:Str):List Arg:=[.val (.v false [.str a0])]
def xCx(r:Bool):CallO:=⟨.v false [.bool r],[],[]⟩
def xGd(N:Nat)(a0:Str):Option (Bool):=(xJq N a0).bind fun r1=>bif r1 then(bif(decide ((a0.length:Int)<=8)) then((xGA N a0).bind fun r2=>some (!r2)) else(some false)) else(some false)
def xFY(a0:List Str):List Arg:=[.val (.v false [.sl .ro .str a0])]
def xDm(r:Bool):CallO:=⟨.v false [.bool r],[],[]⟩
def xDl(N:Nat):Nat->(List Str)->Int->Option (Bool)
 |0,_,_=>none
 |n+1,x0,x3=>bif(decide (x3<(x0.length:Int))) then(if(0:Int)<=x3/\x3<=x0.length then if(0:Int)<=x3/\x3<x0.length then(xJV N (List.take x3.toNat x0) (x0.getD x3.toNat Ty.str.dflt)).bind fun r1=>bif r1 then(some false) else((xDl N n x0 (i64.wrap (x3+1)))) else none else none) else(some true)
def xHd(N:Nat)(a0:List Str):Option (Bool):=(xDl N N a0 0)
def xEL(a0:List Str):List Arg:=[.val (.v false [.sl .ro .str a0])]
def xCb(r:Bool):CallO:=⟨.v false [.bool r],[],[]⟩
def xEM(N:Nat):Nat->(List Str)->Int->Option (Bool)
 |0,_,_=>none
 |n+1,x0,x3=>bif(decide (x3<(x0.length:Int))) then(if(0:Int)<=x3/\x3<x0.length then(xGd N (x0.getD x3.toNat Ty.str.dflt)).bind fun r1=>bif(!r1) then(some false) else((xEM N n x0 (i64.wrap (x3+1)))) else none) else((xI6 N (x0.length:Int) 1 4).bind fun r1=>bif r1 then((xHd N x0).bind fun r2=>some r2) else(some false))
def xIa(N:Nat)(a0:List Str):Option (Bool):=(xEM N N a0 0)
def xCT(a0:Org)(a1:Org):List Arg:=[.val (.v true [.int .i64 a0.cell,.int .i64 a0.row]),.val (.v true [.int .i64 a1.cell,.int .i64 a1.row])]
def xAW(r:Bool):CallO:=⟨.v false [.bool r],[],[]⟩
def xEw(N:Nat)(a0:Org)(a1:Org):Option (Bool):=bif(decide (a0.cell<a1.cell)) then(some true) else(bif(a0.cell==a1.cell) then(some (decide (a0.row<a1.row))) else(some false))
def xE7(a0:List Org):List Arg:=[.val (.v false [.sl .ro .org a0])]
def xB4(r:Bool):CallO:=⟨.v false [.bool r],[],[]⟩
def xCR(N:Nat):Nat->(List Org)->Int->Option (Bool)
 |0,_,_=>none
 |n+1,x0,x3=>bif(decide (x3<(x0.length:Int))) then(if(0:Int)<=x3/\x3<x0.length then bif(decide (((Org.cell (x0.getD x3.toNat Ty.org.dflt)):Int)<0)) then(some false) else(bif(decide (((Org.row (x0.getD x3.toNat Ty.org.dflt)):Int)<0)) then(some false) else(bif(decide (x3>0)) then(if(0:Int)<=(i64.wrap (x3 - 1))/\(i64.wrap (x3 - 1))<x0.length then(xEw N (x0.getD (Int.toNat (i64.wrap (x3 - 1))) Ty.org.dflt) (x0.getD x3.toNat Ty.org.dflt)).bind fun r1=>bif(!r1) then(some false) else((xCR N n x0 (i64.wrap (x3+1)))) else none) else((xCR N n x0 (i64.wrap (x3+1)))))) else none) else(some true)
def xHf(N:Nat)(a0:List Org):Option (Bool):=(xCR N N a0 0)
def xFI(a0:Val):List Arg:=[.val (.v true (Va .ro a0))]
def xCo(r:Bool):CallO:=⟨.v false [.bool r],[],[]⟩
def xEr(N:Nat)(k4:Int->Val->Option (Bool)):Nat->Int->Int->Val->Rowd->Option (Bool)
 |0,_,_,_,_=>none
 |n+1,x3,x5,b1,b4=>bif(decide (x5<(b4.cells.length:Int))) then(if(0:Int)<=x5/\x5<b4.cells.length then(xEy N (b4.cells.getD x5.toNat Ty.int.dflt)).bind fun r1=>bif(!r1) then(some false) else((xEr N k4 n x3 (i64.wrap (x5+1)) b1 b4)) else none) else((k4 (i64.wrap (x3+1)) b1))
def xE8(N:Nat):Nat->Int->Val->Option (Bool)
 |0,_,_=>none
 |n+1,x3,b1=>bif(decide (x3<(b1.rows.length:Int))) then(if(0:Int)<=x3/\x3<b1.rows.length then bif(((List.length (Rowd.cells (b1.rows.getD x3.toNat Ty.row.dflt)):Int):Int) != (b1.columns.length:Int)) then(some false) else((xHf N (Rowd.frm (b1.rows.getD x3.toNat Ty.row.dflt))).bind fun r1=>bif(!r1) then(some false) else((xEr N (fun z0 z1=>(xE8 N n z0 z1)) N x3 0 b1 (b1.rows.getD x3.toNat Ty.row.dflt)))) else none) else(some true)
def xIl(N:Nat)(a0:Val):Option (Bool):=(xIa N a0.columns).bind fun r1=>bif(!r1) then(some false) else(bif(decide ((a0.rows.length:Int)>12)) then(some false) else((xE8 N N 0 a0)))
def xAp(a0:Val):List Arg:=[.val (.v true (Va .ro a0))]
def xAl(r:Bool):CallO:=⟨.v false [.bool r],[],[]⟩
def xDV(N:Nat)(q0:Val->Option (Bool))(q1:Val->Option (Bool))(a0:Val):Option (Bool):=bif(a0.kind != 3) then(bif(decide ((a0.list.length:Int)>0)) then(some false) else(bif(a0.kind != 5) then(bif(decide (((i64.wrap ((a0.columns.length:Int)+(a0.rows.length:Int))):Int)>0)) then(some false) else(bif(a0.kind != 2) then(bif(!((a0.text:Str)== [])) then(some false) else(bif(a0.kind != 4) then(bif(a0.step != 0) then(some false) else(bif(a0.kind==1) then((xEy N a0.n).bind fun r1=>some r1) else(bif(a0.kind==6) then((xI6 N a0.n 1 8).bind fun r1=>some r1) else(some false)))) else((xEy N a0.n).bind fun r1=>bif r1 then((xEy N a0.step).bind fun r2=>some r2) else(some false)))) else(bif(a0.step != 0) then(some false) else(bif(a0.n==0) then((xHe N a0.text).bind fun r1=>some r1) else(some false))))) else(bif(!((a0.text:Str)== [])) then(some false) else(bif(a0.step != 0) then(some false) else(bif(a0.n==0) then((xIl N a0).bind fun r1=>some r1) else(some false)))))) else(bif(decide (((i64.wrap ((a0.columns.length:Int)+(a0.rows.length:Int))):Int)>0)) then(some false) else(bif(!((a0.text:Str)== [])) then(some false) else(bif(a0.step != 0) then(some false) else(bif(a0.n==0) then((q1 a0).bind fun r1=>some r1) else(some false)))))
def xG7(a0:Val):List Arg:=[.val (.v true (Va .ro a0))]
def xDu(r:Bool):CallO:=⟨.v false [.bool r],[],[]⟩
def xEC(N:Nat)(q0:Val->Option (Bool))(q1:Val->Option (Bool)):Nat->Int->Val->Option (Bool)
 |0,_,_=>none
 |n+1,x3,b1=>bif(decide (x3<(b1.list.length:Int))) then(if(0:Int)<=x3/\x3<b1.list.length then(xIb N (b1.list.getD x3.toNat Ty.val.dflt)).bind fun r1=>bif(!r1) then(some false) else((q0 (b1.list.getD x3.toNat Ty.val.dflt)).bind fun r2=>bif(!r2) then(some false) else((xEC N q0 q1 n (i64.wrap (x3+1)) b1))) else none) else(bif(decide ((b1.list.length:Int)<=8)) then((xJn N b1).bind fun r1=>some (decide (r1<=3))) else(some false))
def xIs(N:Nat)(q0:Val->Option (Bool))(q1:Val->Option (Bool))(a0:Val):Option (Bool):=(xEC N q0 q1 N 0 a0)
structure spec_IsValidValue_rec where
 c_spec_IsValidValue:Val->Option (Bool)
 c_spec_l3List:Val->Option (Bool)
def xAz(N:Nat):Nat->spec_IsValidValue_rec
 |0=>⟨fun _=>none,fun _=>none⟩
 |d+1=>⟨xDV N (xAz N d).c_spec_IsValidValue (xAz N d).c_spec_l3List,xIs N (xAz N d).c_spec_IsValidValue (xAz N d).c_spec_l3List⟩
def xHZ(N:Nat)(a0:Val):Option (Bool):=(xAz N N).c_spec_IsValidValue a0
def xCd(a0:Int):List Arg:=[.val (.v false [.int .i64 a0])]
def xAV(r:Val):CallO:=⟨.v true (Va .own r),[],[]⟩
def xBL(N:Nat)(a0:Int):Option (Val):=some (Val.mk 6 a0 0 [] [] [] [])
def xGB(a0:List Val):List Arg:=[.val (.v false [.sl .ro .val a0])]
def xDe(r:Val×Bool):CallO:=⟨.tup [(true,(Va .own r.1)),(false,[.bool r.2])],[],[]⟩
def xEg(N:Nat):Nat->(List Val)->Int->Val->Option (Val×Bool)
 |0,_,_,_=>none
 |n+1,x0,x4,b2=>bif(decide (x4<(x0.length:Int))) then(if(0:Int)<=x4/\x4<x0.length then(xHZ N (x0.getD x4.toNat Ty.val.dflt)).bind fun r1=>bif(!r1) then((xBL N 4).bind fun r2=>some (r2,true)) else(bif(((Val.kind (x0.getD x4.toNat Ty.val.dflt)):Int)==6) then((xBL N (Val.n (x0.getD x4.toNat Ty.val.dflt))).bind fun r2=>some (r2,true)) else((xEg N n x0 (i64.wrap (x4+1)) b2))) else none) else(some ((Val.mk 0 0 0 [] [] [] []),false))
def xJs(N:Nat)(a0:List Val):Option (Val×Bool):=(xEg N N a0 0 (Val.mk 0 0 0 [] [] [] []))
def xGC(a0:List Val)(a1:List Int):List Arg:=[.val (.v false [.sl .ro .val a0]),.val (.v false [.sl .ro .int a1])]
def xCE(r:Val×Bool):CallO:=⟨.tup [(true,(Va .own r.1)),(false,[.bool r.2])],[],[]⟩
def xEh(N:Nat):Nat->(List Val)->(List Int)->Int->Val->Option (Val×Bool)
 |0,_,_,_,_=>none
 |n+1,x0,x1,x8,b4=>bif(decide (x8<(x0.length:Int))) then(if(0:Int)<=x8/\x8<x0.length then if(0:Int)<=x8/\x8<x1.length then bif(((Val.kind (x0.getD x8.toNat Ty.val.dflt)):Int) != (x1.getD x8.toNat Ty.int.dflt)) then((xBL N 4).bind fun r1=>some (r1,true)) else((xEh N n x0 x1 (i64.wrap (x8+1)) b4)) else none else none) else(some ((Val.mk 0 0 0 [] [] [] []),false))
def xIn(N:Nat)(a0:List Val)(a1:List Int):Option (Val×Bool):=(xJs N a0).bind fun r1=>bif r1.2 then(some (r1.1,true)) else((xEh N N a0 a1 0 (Val.mk 0 0 0 [] [] [] [])))
def xHB(a0:List Str)(a1:Str):List Arg:=[.val (.v false [.sl .ro .str a0]),.val (.v false [.str a1])]
def xE5(r:Int):CallO:=⟨.v false [.int .i64 r],[],[]⟩
def xE4(N:Nat):Nat->(List Str)->Str->Int->Option (Int)
 |0,_,_,_=>none
 |n+1,x0,x1,x5=>bif(decide (x5<(x0.length:Int))) then(if(0:Int)<=x5/\x5<x0.length then bif(((x0.getD x5.toNat Ty.str.dflt):Str)==x1) then(some x5) else((xE4 N n x0 x1 (i64.wrap (x5+1)))) else none) else(some (-1))
def xJo(N:Nat)(a0:List Str)(a1:Str):Option (Int):=(xE4 N N a0 a1 0)
def xFZ(a0:Val)(a1:Str):List Arg:=[.val (.v true (Va .ro a0)),.val (.v false [.str a1])]
def xBG(r:Int):CallO:=⟨.v false [.int .i64 r],[],[]⟩
def xDO(N:Nat)(a0:Val)(a1:Str):Option (Int):=(xJo N a0.columns a1).bind fun r1=>some r1
def xGE(a0:List Org)(a1:List Org):List Arg:=[.val (.v false [.sl .ro .org a0]),.val (.v false [.sl .ro .org a1])]
def xEi(r:(List Org)):CallO:=⟨.v false [.sl .own .org r],[],[]⟩
def xBE(N:Nat):Nat->(List Org)->(List Org)->(List Org)->Int->Int->Option ((List Org))
 |0,_,_,_,_,_=>none
 |n+1,x0,x1,x5,x6,x7=>bif(decide (x6<(x0.length:Int))) then(bif(x7==(x1.length:Int)) then(if(0:Int)<=x6/\x6<x0.length then if x5.length+ [(x0.getD x6.toNat Ty.org.dflt)].length<=Lim then(xBE N n x0 x1 (x5++ [(x0.getD x6.toNat Ty.org.dflt)]) (i64.wrap (x6+1)) x7) else none else none) else(if(0:Int)<=x6/\x6<x0.length then if(0:Int)<=x7/\x7<x1.length then(xEw N (x0.getD x6.toNat Ty.org.dflt) (x1.getD x7.toNat Ty.org.dflt)).bind fun r1=>bif r1 then(if x5.length+ [(x0.getD x6.toNat Ty.org.dflt)].length<=Lim then(xBE N n x0 x1 (x5++ [(x0.getD x6.toNat Ty.org.dflt)]) (i64.wrap (x6+1)) x7) else none) else(bif(x6==(x0.length:Int)) then(if x5.length+ [(x1.getD x7.toNat Ty.org.dflt)].length<=Lim then(xBE N n x0 x1 (x5++ [(x1.getD x7.toNat Ty.org.dflt)]) x6 (i64.wrap (x7+1))) else none) else((xEw N (x1.getD x7.toNat Ty.org.dflt) (x0.getD x6.toNat Ty.org.dflt)).bind fun r2=>bif r2 then(if x5.length+ [(x1.getD x7.toNat Ty.org.dflt)].length<=Lim then(xBE N n x0 x1 (x5++ [(x1.getD x7.toNat Ty.org.dflt)]) x6 (i64.wrap (x7+1))) else none) else(if x5.length+ [(x0.getD x6.toNat Ty.org.dflt)].length<=Lim then(xBE N n x0 x1 (x5++ [(x0.getD x6.toNat Ty.org.dflt)]) (i64.wrap (x6+1)) (i64.wrap (x7+1))) else none))) else none else none)) else(bif(decide (x7<(x1.length:Int))) then(bif(x7==(x1.length:Int)) then(if(0:Int)<=x6/\x6<x0.length then if x5.length+ [(x0.getD x6.toNat Ty.org.dflt)].length<=Lim then(xBE N n x0 x1 (x5++ [(x0.getD x6.toNat Ty.org.dflt)]) (i64.wrap (x6+1)) x7)
      else none else none) else(bif(x6==(x0.length:Int)) then(if(0:Int)<=x7/\x7<x1.length then if x5.length+ [(x1.getD x7.toNat Ty.org.dflt)].length<=Lim then(xBE N n x0 x1 (x5++ [(x1.getD x7.toNat Ty.org.dflt)]) x6 (i64.wrap (x7+1))) else none else none) else(if(0:Int)<=x7/\x7<x1.length then if(0:Int)<=x6/\x6<x0.length then(xEw N (x1.getD x7.toNat Ty.org.dflt) (x0.getD x6.toNat Ty.org.dflt)).bind fun r1=>bif r1 then(if x5.length+ [(x1.getD x7.toNat Ty.org.dflt)].length<=Lim then(xBE N n x0 x1 (x5++ [(x1.getD x7.toNat Ty.org.dflt)]) x6 (i64.wrap (x7+1))) else none) else(if x5.length+ [(x0.getD x6.toNat Ty.org.dflt)].length<=Lim then(xBE N n x0 x1 (x5++ [(x0.getD x6.toNat Ty.org.dflt)]) (i64.wrap (x6+1)) (i64.wrap (x7+1))) else none) else none else none))) else(some x5))
def xIp(N:Nat)(a0:List Org)(a1:List Org):Option ((List Org)):=(xBE N N a0 a1 [] 0 0)
def xEa(a0:Int)(a1:Int)(a2:Int):List Arg:=[.val (.v false [.int .i64 a0]),.val (.v false [.int .i64 a1]),.val (.v false [.int .i64 a2])]
def xCq(r:Bool):CallO:=⟨.v false [.bool r],[],[]⟩
def xGz(N:Nat)(a0:Int)(a1:Int)(a2:Int):Option (Bool):=bif(decide (a1<=a0)) then(some (decide (a0<=a2))) else(some false)
def xDf(a0:Int):List Arg:=[.val (.v false [.int .i64 a0])]
def xBQ(r:Bool):CallO:=⟨.v false [.bool r],[],[]⟩
def xFn(N:Nat)(a0:Int):Option (Bool):=(xGz N a0 (-1000000000) 1000000000).bind fun r1=>some r1
def xFT(a0:Str):List Arg:=[.val (.v false [.str a0])]
def xCv(r:Bool):CallO:=⟨.v false [.bool r],[],[]⟩
def xEU(N:Nat):Nat->Str->Int->Option (Bool)
 |0,_,_=>none
 |n+1,x0,x3=>bif(decide (x3<(x0.length:Int))) then(if(0:Int)<=x3/\x3<x0.length then bif(decide ((((x0.getD x3.toNat 0).toNat:Int):Int)<32)) then(some false) else(bif(decide ((((x0.getD x3.toNat 0).toNat:Int):Int)>126)) then(some false) else(bif((((x0.getD x3.toNat 0).toNat:Int):Int)==34) then(some false) else((xEU N n x0 (i64.wrap (x3+1)))))) else none) else(some (decide ((x0.length:Int)<=20)))
def xHb(N:Nat)(a0:Str):Option (Bool):=(xEU N N a0 0)
def xG0(a0:Str):List Arg:=[.val (.v false [.str a0])]
def xCp(r:Bool):CallO:=⟨.v false [.bool r],[],[]⟩
def xD9(N:Nat):Nat->Str->Int->Option (Bool)
 |0,_,_=>none
 |n+1,x0,x3=>bif(decide (x3<(x0.length:Int))) then(if(0:Int)<=x3/\x3<x0.length then bif(decide ((((x0.getD x3.toNat 0).toNat:Int):Int)>=97)) then(bif(!(decide ((((x0.getD x3.toNat 0).toNat:Int):Int)<=122))) then(bif(x3==0) then(some false) else(bif(decide ((((x0.getD x3.toNat 0).toNat:Int):Int)<48)) then(some false) else(bif(decide ((((x0.getD x3.toNat 0).toNat:Int):Int)>57)) then(some false) else((xD9 N n x0 (i64.wrap (x3+1))))))) else((xD9 N n x0 (i64.wrap (x3+1))))) else(bif(x3==0) then(some false) else(bif(decide ((((x0.getD x3.toNat 0).toNat:Int):Int)<48)) then(some false) else(bif(decide ((((x0.getD x3.toNat 0).toNat:Int):Int)>57)) then(some false) else((xD9 N n x0 (i64.wrap (x3+1))))))) else none) else((xGz N (x0.length:Int) 1 8).bind fun r1=>some r1)
def xJ4(N:Nat)(a0:Str):Option (Bool):=(xD9 N N a0 0)
def xAx(a0:Str):List Arg:=[.val (.v false [.str a0])]
def xAt(r:Int):CallO:=⟨.v false [.int .i64 r],[],[]⟩
def xGq(N:Nat)(a0:Str):Option (Int):=bif((a0:Str)== [99,108,111,99,107]) then(some 0) else(bif((a0:Str)== [108,101,110]) then(some 1) else(bif((a0:Str)== [115,117,109]) then(some 1) else(bif((a0:Str)== [114,111,119,115]) then(some 1) else(bif((a0:Str)== [99,104,97,110,99,101]) then(some 1) else(bif((a0:Str)== [102,105,108,101]) then(some 1) else(bif((a0:Str)== [116,97,107,101]) then(some 2) else(bif((a0:Str)== [115,107,105,112]) then(some 2) else(bif((a0:Str)== [114,97,110,103,101]) then(some 2) else(bif((a0:Str)== [110,116,104]) then(some 2) else(bif((a0:Str)== [107,101,101,112]) then(some 2) else(bif((a0:Str)== [99,111,108,117,109,110]) then(some 2) else(bif((a0:Str)== [116,97,98,108,101]) then(some 2) else(bif((a0:Str)== [119,104,101,114,101]) then(some 3) else(bif((a0:Str)== [103,114,111,117,112]) then(some 3) else(bif((a0:Str)== [106,111,105,110]) then(some 3) else(bif((a0:Str)== [97,100,100]) then(some 4) else(some (-1))))))))))))))))))
def xCc(a0:Str):List Arg:=[.val (.v false [.str a0])]
def xBZ(r:Bool):CallO:=⟨.v false [.bool r],[],[]⟩
def xGy(N:Nat)(a0:Str):Option (Bool):=bif((a0:Str)== [108,101,116]) then(some true) else(bif((a0:Str)== [105,110]) then(some true) else(bif((a0:Str)== [105,102]) then(some true) else(bif((a0:Str)== [116,104,101,110]) then(some true) else(bif((a0:Str)== [101,108,115,101]) then(some true) else(bif((a0:Str)== [102,111,114]) then(some true) else(bif((a0:Str)== [100,111]) then(some true) else((xGq N a0).bind fun r1=>some (decide (r1>=0)))))))))
def xDY(a0:Str):List Arg:=[.val (.v false [.str a0])]
def xCO(r:Bool):CallO:=⟨.v false [.bool r],[],[]⟩
def xF9(N:Nat)(a0:Str):Option (Bool):=(xJ4 N a0).bind fun r1=>bif r1 then((xGy N a0).bind fun r2=>some (!r2)) else(some false)
def xFE(a0:List Str)(a1:Str):List Arg:=[.val (.v false [.sl .ro .str a0]),.val (.v false [.str a1])]
def xCN(r:Int):CallO:=⟨.v false [.int .i64 r],[],[]⟩
def xET(N:Nat):Nat->Str->(List Str)->Int->Int->Option (Int)
 |0,_,_,_,_=>none
 |n+1,x1,x7,x8,x9=>bif(decide (x9<x8)) then(if(0:Int)<=x9/\x9<x7.length then bif(((x7.getD x9.toNat Ty.str.dflt):Str)==x1) then(some x9) else((xET N n x1 x7 x8 (i64.wrap (x9+1)))) else none) else(some (-1))
def xIf(N:Nat)(a0:List Str)(a1:Str):Option (Int):=(xET N N a1 a0 (a0.length:Int) 0)
def xFR(a0:List Str):List Arg:=[.val (.v false [.sl .ro .str a0])]
def xDj(r:Bool):CallO:=⟨.v false [.bool r],[],[]⟩
def xDi(N:Nat):Nat->(List Str)->(List Str)->Int->Int->Option (Bool)
 |0,_,_,_,_=>none
 |n+1,x0,x5,x6,x7=>bif(decide (x7<x6)) then(if(0:Int)<=x7/\x7<x5.length then(xIf N x0 (x5.getD x7.toNat Ty.str.dflt)).bind fun r1=>bif(r1 != x7) then(some false) else((xDi N n x0 x5 x6 (i64.wrap (x7+1)))) else none) else(some true)
def xG9(N:Nat)(a0:List Str):Option (Bool):=(xDi N N a0 a0 (a0.length:Int) 0)
def xEk(a0:List Str):List Arg:=[.val (.v false [.sl .ro .str a0])]
def xB0(r:Bool):CallO:=⟨.v false [.bool r],[],[]⟩
def xEl(N:Nat):Nat->(List Str)->(List Str)->Int->Int->Option (Bool)
 |0,_,_,_,_=>none
 |n+1,x0,x5,x6,x7=>bif(decide (x7<x6)) then(if(0:Int)<=x7/\x7<x5.length then(xF9 N (x5.getD x7.toNat Ty.str.dflt)).bind fun r1=>bif(!r1) then(some false) else((xEl N n x0 x5 x6 (i64.wrap (x7+1)))) else none) else((xGz N (x0.length:Int) 1 4).bind fun r1=>bif r1 then((xG9 N x0).bind fun r2=>some r2) else(some false))
def xHw(N:Nat)(a0:List Str):Option (Bool):=(xEl N N a0 a0 (a0.length:Int) 0)
def xEV(a0:Val):List Arg:=[.val (.v true (Va .ro a0))]
def xBp(r:Bool):CallO:=⟨.v false [.bool r],[],[]⟩
def xDM(N:Nat)(k4:(List Rowd)->Int->Int->Val->Option (Bool)):Nat->(List Rowd)->Int->Int->(List Org)->Int->Int->Val->Rowd->Option (Bool)
 |0,_,_,_,_,_,_,_,_=>none
 |n+1,x20,x21,x22,x45,x46,x47,b1,b4=>bif(decide (x47<x46)) then(if(0:Int)<=x47/\x47<x45.length then bif(decide (((Org.cell (x45.getD x47.toNat Ty.org.dflt)):Int)<0)) then(some false) else(bif(decide (((Org.row (x45.getD x47.toNat Ty.org.dflt)):Int)<0)) then(some false) else(bif(decide (x47>0)) then(if(0:Int)<=(i64.wrap (x47 - 1))/\(i64.wrap (x47 - 1))<b4.frm.length then(xDZ N (b4.frm.getD (Int.toNat (i64.wrap (x47 - 1))) Ty.org.dflt) (x45.getD x47.toNat Ty.org.dflt)).bind fun r1=>bif(!r1) then(some false) else((xDM N k4 n x20 x21 x22 x45 x46 (i64.wrap (x47+1)) b1 b4)) else none) else((xDM N k4 n x20 x21 x22 x45 x46 (i64.wrap (x47+1)) b1 b4)))) else none) else((k4 x20 x21 (i64.wrap (x22+1)) b1))
def xEX(N:Nat)(k4:(List Rowd)->Int->Int->Val->Option (Bool)):Nat->(List Rowd)->Int->Int->(List Int)->Int->Int->Val->Rowd->Option (Bool)
 |0,_,_,_,_,_,_,_,_=>none
 |n+1,x20,x21,x22,x34,x35,x36,b1,b4=>bif(decide (x36<x35)) then(if(0:Int)<=x36/\x36<x34.length then(xFn N (x34.getD x36.toNat Ty.int.dflt)).bind fun r1=>bif(!r1) then(some false) else((xEX N k4 n x20 x21 x22 x34 x35 (i64.wrap (x36+1)) b1 b4)) else none) else((xDM N k4 N x20 x21 x22 b4.frm (b4.frm.length:Int) 0 b1 b4))
def xEW(N:Nat):Nat->(List Rowd)->Int->Int->Val->Option (Bool)
 |0,_,_,_,_=>none
 |n+1,x20,x21,x22,b1=>bif(decide (x22<x21)) then(if(0:Int)<=x22/\x22<x20.length then bif(((List.length (Rowd.cells (x20.getD x22.toNat Ty.row.dflt)):Int):Int) != (b1.columns.length:Int)) then(some false) else((xEX N (fun z0 z1 z2 z3=>(xEW N n z0 z1 z2 z3)) N x20 x21 x22 (Rowd.cells (x20.getD x22.toNat Ty.row.dflt)) (List.length (Rowd.cells (x20.getD x22.toNat Ty.row.dflt)):Int) 0 b1 (x20.getD x22.toNat Ty.row.dflt))) else none) else(some true)
def xHo(N:Nat)(a0:Val):Option (Bool):=(xHw N a0.columns).bind fun r1=>bif(!r1) then(some false) else(bif(decide ((a0.rows.length:Int)>12)) then(some false) else((xEW N N a0.rows (a0.rows.length:Int) 0 a0)))
def xES(a0:Val):List Arg:=[.val (.v true (Va .ro a0))]
def xC8(r:Int):CallO:=⟨.v false [.int .i64 r],[],[]⟩
def xFD(N:Nat)(q0:Val->Option (Int)):Nat->Int->(List Val)->Int->Int->Option (Int)
 |0,_,_,_,_=>none
 |n+1,x3,x7,x8,x9=>bif(decide (x9<x8)) then(if(0:Int)<=x9/\x9<x7.length then(q0 (x7.getD x9.toNat Ty.val.dflt)).bind fun r1=>(xFD N q0 n (if r1>x3 then r1 else x3) x7 x8 (i64.wrap (x9+1))) else none) else(some (i64.wrap (x3+1)))
def xHQ(N:Nat)(q0:Val->Option (Int))(a0:Val):Option (Int):=(xFD N q0 N 0 a0.list (a0.list.length:Int) 0)
def xEp(N:Nat):Nat->Val->Option (Int)
 |0,_=>none
 |d+1,a0=>xHQ N (xEp N d) a0
def xIe(N:Nat)(a0:Val):Option (Int):=xEp N N a0
def xAe(a0:Val):List Arg:=[.val (.v true (Va .ro a0))]
def xAb(r:Bool):CallO:=⟨.v false [.bool r],[],[]⟩
def xBv(N:Nat)(q0:Val->Option (Bool)):Nat->(List Val)->Int->Int->Val->Option (Bool)
 |0,_,_,_,_=>none
 |n+1,x124,x125,x126,b1=>bif(decide (x126<x125)) then(if(0:Int)<=x126/\x126<x124.length then bif(((Val.kind (x124.getD x126.toNat Ty.val.dflt)):Int) != 1) then(bif(((Val.kind (x124.getD x126.toNat Ty.val.dflt)):Int) != 2) then(bif(((Val.kind (x124.getD x126.toNat Ty.val.dflt)):Int) != 3) then(some false) else((q0 (x124.getD x126.toNat Ty.val.dflt)).bind fun r1=>bif(!r1) then(some false) else((xBv N q0 n x124 x125 (i64.wrap (x126+1)) b1)))) else((q0 (x124.getD x126.toNat Ty.val.dflt)).bind fun r1=>bif(!r1) then(some false) else((xBv N q0 n x124 x125 (i64.wrap (x126+1)) b1)))) else((q0 (x124.getD x126.toNat Ty.val.dflt)).bind fun r1=>bif(!r1) then(some false) else((xBv N q0 n x124 x125 (i64.wrap (x126+1)) b1))) else none) else(bif(b1.n==0) then(bif(b1.step==0) then(bif((b1.text:Str)== []) then(bif((b1.columns.length:Int)==0) then(bif((b1.rows.length:Int)==0) then(bif(decide ((b1.list.length:Int)<=8)) then((xIe N b1).bind fun r1=>some (decide (r1<=3))) else(some false)) else(some false)) else(some false)) else(some false)) else(some false)) else(some false))
def xDT(N:Nat)(q0:Val->Option (Bool))(a0:Val):Option (Bool):=bif((a0.list.length:Int)==0) then(bif((a0.columns.length:Int)==0) then(bif(a0.kind==1) then(bif((a0.rows.length:Int)==0) then(bif(a0.step==0) then(bif((a0.text:Str)== []) then((xFn N a0.n).bind fun r1=>some r1) else(some false)) else(some false)) else(some false)) else(bif(a0.kind==2) then(bif((a0.rows.length:Int)==0) then(bif(a0.n==0) then(bif(a0.step==0) then((xHb N a0.text).bind fun r1=>some r1) else(some false)) else(some false)) else(some false)) else(bif(a0.kind==4) then(bif((a0.rows.length:Int)==0) then(bif((a0.text:Str)== []) then((xFn N a0.n).bind fun r1=>bif r1 then((xFn N a0.step).bind fun r2=>some r2) else(some false)) else(some false)) else(some false)) else(bif(a0.kind==6) then(bif((a0.rows.length:Int)==0) then(bif(a0.step==0) then(bif((a0.text:Str)== []) then((xGz N a0.n 1 8).bind fun r1=>some r1) else(some false)) else(some false)) else(some false)) else(bif(a0.kind==5) then(bif(a0.n==0) then(bif(a0.step==0) then(bif((a0.text:Str)== []) then((xHo N a0).bind fun r1=>some r1) else(some false)) else(some false)) else(some false)) else(bif(a0.kind==3) then((xBv N q0 N a0.list (a0.list.length:Int) 0 a0)) else(some false))))))) else(bif(a0.kind==1) then(some false) else(bif(a0.kind==2) then(some false) else(bif(a0.kind==4) then(some false) else(bif(a0.kind==6) then(
     some false) else(bif(a0.kind==5) then(bif(a0.n==0) then(bif(a0.step==0) then(bif((a0.text:Str)== []) then((xHo N a0).bind fun r1=>some r1) else(some false)) else(some false)) else(some false)) else(bif(a0.kind==3) then((xBv N q0 N a0.list (a0.list.length:Int) 0 a0)) else(some false)))))))) else(bif(a0.kind==1) then(some false) else(bif(a0.kind==2) then(some false) else(bif(a0.kind==4) then(some false) else(bif(a0.kind==6) then(some false) else(bif(a0.kind==5) then(bif(a0.n==0) then(bif(a0.step==0) then(bif((a0.text:Str)== []) then(some false) else(some false)) else(some false)) else(some false)) else(bif(a0.kind==3) then((xBv N q0 N a0.list (a0.list.length:Int) 0 a0)) else(some false)))))))
def xBw(N:Nat):Nat->Val->Option (Bool)
 |0,_=>none
 |d+1,a0=>xDT N (xBw N d) a0
def xHU(N:Nat)(a0:Val):Option (Bool):=xBw N N a0
def xEj(a0:Int):List Arg:=[.val (.v false [.int .i64 a0])]
def xBF(r:Val):CallO:=⟨.v true (Va .own r),[],[]⟩
def xB2(N:Nat)(a0:Int):Option (Val):=some (Val.mk 6 a0 0 [] [] [] [])
def xC0(a0:List Val):List Arg:=[.val (.v false [.sl .ro .val a0])]
def xDr(r:Val×Bool×Bool):CallO:=⟨.tup [(true,[.int .i64 (Val.kind r.1),.int .i64 (Val.n r.1),.int .i64 (Val.step r.1),.str (Val.text r.1),.sl .ro .val (Val.list r.1),.sl .ro .str (Val.columns r.1),.sl .ro .row (Val.rows r.1)]),(false,[.bool r.2.1])],[],[]⟩
def xDq(r:Val×Bool×Bool):CallO:=⟨.tup [(true,[.int .i64 (Val.kind r.1),.int .i64 (Val.n r.1),.int .i64 (Val.step r.1),.str (Val.text r.1),.sl .own .val (Val.list r.1),.sl .own .str (Val.columns r.1),.sl .own .row (Val.rows r.1)]),(false,[.bool r.2.1])],[],[]⟩
def xB6(r:Val×Bool×Bool):CallO:=bif r.2.2 then xDr r else xDq r
def xCI(N:Nat):Nat->(List Val)->Int->Int->Val->Option (Val×Bool×Bool)
 |0,_,_,_,_=>none
 |n+1,x6,x7,x8,b2=>bif(decide (x8<x7)) then(if(0:Int)<=x8/\x8<x6.length then(xHU N (x6.getD x8.toNat Ty.val.dflt)).bind fun r1=>bif(!r1) then((xB2 N 4).bind fun r2=>some (r2,true,false)) else(bif(((Val.kind (x6.getD x8.toNat Ty.val.dflt)):Int)==6) then(some ((x6.getD x8.toNat Ty.val.dflt),true,true)) else((xCI N n x6 x7 (i64.wrap (x8+1)) b2))) else none) else(some ((Val.mk 0 0 0 [] [] [] []),false,false))
def xGJ(N:Nat)(a0:List Val):Option (Val×Bool×Bool):=(xCI N N a0 (a0.length:Int) 0 (Val.mk 0 0 0 [] [] [] []))
def xDp(a0:List Int)(a1:List Val):List Arg:=[.val (.v false [.sl .ro .int a0]),.val (.v false [.sl .ro .val a1])]
def xHy(r:Val×Bool×Bool):CallO:=⟨.tup [(true,[.int .i64 (Val.kind r.1),.int .i64 (Val.n r.1),.int .i64 (Val.step r.1),.str (Val.text r.1),.sl .ro .val (Val.list r.1),.sl .ro .str (Val.columns r.1),.sl .ro .row (Val.rows r.1)]),(false,[.bool r.2.1])],[],[]⟩
def xC3(r:Val×Bool×Bool):CallO:=⟨.tup [(true,[.int .i64 (Val.kind r.1),.int .i64 (Val.n r.1),.int .i64 (Val.step r.1),.str (Val.text r.1),.sl .own .val (Val.list r.1),.sl .own .str (Val.columns r.1),.sl .own .row (Val.rows r.1)]),(false,[.bool r.2.1])],[],[]⟩
def xDw(r:Val×Bool×Bool):CallO:=⟨.tup [(true,[.int .i64 (Val.kind r.1),.int .i64 (Val.n r.1),.int .i64 (Val.step r.1),.str (Val.text r.1),.sl .ro .val [],.sl .ro .str [],.sl .ro .row []]),(false,[.bool r.2.1])],[],[]⟩
def xCa(r:Val×Bool×Bool):CallO:=bif r.2.2 then xHy r else xC3 r
def xCV(N:Nat):Nat->(List Int)->(List Val)->Int->Int->Val->Option (Val×Bool×Bool)
 |0,_,_,_,_,_=>none
 |n+1,x0,x17,x18,x19,b4=>bif(decide (x19<x18)) then(if(0:Int)<=x19/\x19<x17.length then if(0:Int)<=x19/\x19<x0.length then bif(((Val.kind (x17.getD x19.toNat Ty.val.dflt)):Int) != (x0.getD x19.toNat Ty.int.dflt)) then((xB2 N 4).bind fun r1=>some (r1,true,false)) else((xCV N n x0 x17 x18 (i64.wrap (x19+1)) b4)) else none else none) else(some ((Val.mk 0 0 0 [] [] [] []),false,false))
def xG1(N:Nat)(a0:List Int)(a1:List Val):Option (Val×Bool×Bool):=(xGJ N a1).bind fun r1=>bif r1.2.2 then(bif r1.2.1 then(some (r1.1,true,true)) else((xCV N N a0 a1 (a1.length:Int) 0 (Val.mk 0 0 0 [] [] [] [])))) else(bif r1.2.1 then(some (r1.1,true,false)) else((xCV N N a0 a1 (a1.length:Int) 0 (Val.mk 0 0 0 [] [] [] []))))
def xFS(a0:Val)(a1:Str):List Arg:=[.val (.v true (Va .ro a0)),.val (.v false [.str a1])]
def xAI(r:Int):CallO:=⟨.v false [.int .i64 r],[],[]⟩
def xDL(N:Nat)(a0:Val)(a1:Str):Option (Int):=(xIf N a0.columns a1).bind fun r1=>some r1
def xGU(a0:List Org)(a1:List Org):List Arg:=[.val (.v false [.sl .ro .org a0]),.val (.v false [.sl .ro .org a1])]
def xFA(r:(List Org)):CallO:=⟨.v false [.sl .own .org r],[],[]⟩
def xGI(N:Nat)(a0 a1:List Org):Option (List Org):=zJw a0 a1
def xM6(N:Nat):Nat->(List Int)->Int->Int->Option (Int×(List Int))
 |0,_,_,_=>none
 |n+1,x0,x1,x5=>bif(decide (x5<(x0.length:Int))) then(if(0:Int)<=x5/\x5<x0.length then(xM6 N n (x0.set x5.toNat x1) (i64.wrap (x1+1)) (i64.wrap (x5+1))) else none) else(some (x1,x0))
def xJ5(a0:List Int):List Arg:=[.val (.v false [.sl .ro .byte a0])]
def xEZ(r:Bool):CallO:=⟨.v false [.bool r],[],[]⟩
def xKR(N:Nat)(a0:List Int):Option (Bool):=some (decide ((a0.length:Int)>1048576))
def xIA(a0:List Int):List Arg:=[.val (.v false [.sl .ro .byte a0])]
def xF5(r:Cur):CallO:=⟨.tup [(false,[.ptr 0 0]),(true,(Cu .ro r))],[],[]⟩
def xGQ(N:Nat):Nat->(List Int)->Int->Int->Option (Cur)
 |0,_,_,_=>none
 |n+1,x0,x3,x4=>bif(decide (x4<(x0.length:Int))) then(bif(decide (x4<4000)) then(if(0:Int)<=x4/\x4<x0.length then(xGQ N n x0 (andI .i64 (i64.wrap ((i64.wrap ((i64.wrap (x3*131))+(i64.wrap ((x0.getD x4.toNat Ty.byte.dflt)))))+7)) 1073741823) (i64.wrap (x4+1))) else none) else(some (Cur.mk x0 0 x3))) else(some (Cur.mk x0 0 x3))
def xIG(N:Nat)(a0:List Int):Option (Cur):=(xGQ N N a0 (i64.wrap (26583+(a0.length:Int))) 0)
def xEc(a0:Cur):List Arg:=[.box (Cu .ro a0)]
def xCr(r:Int×Cur):CallO:=⟨.v false [.int .i64 r.1],[(Cu .ro r.2)],[]⟩
def xF3(N:Nat)(a0:Cur):Option (Int×Cur):=bif(decide (a0.i<(a0.b.length:Int))) then(if(0:Int)<=a0.i/\a0.i<a0.b.length then some ((andI .i64 (i64.wrap ((andI .i64 (xorI .i64 (Int.fdiv (i64.wrap ((i64.wrap (a0.h*6364136223846793005))+1442695040888963407)) ((2:Int) ^ (Int.toNat 33))) (Int.fdiv (i64.wrap ((i64.wrap (a0.h*6364136223846793005))+1442695040888963407)) ((2:Int) ^ (Int.toNat 45)))) 255)+(i64.wrap ((a0.b.getD a0.i.toNat Ty.byte.dflt))))) 255),(Cur.mk a0.b (i64.wrap (a0.i+1)) (i64.wrap ((i64.wrap (a0.h*6364136223846793005))+1442695040888963407)))) else none) else(some ((andI .i64 (xorI .i64 (Int.fdiv (i64.wrap ((i64.wrap (a0.h*6364136223846793005))+1442695040888963407)) ((2:Int) ^ (Int.toNat 33))) (Int.fdiv (i64.wrap ((i64.wrap (a0.h*6364136223846793005))+1442695040888963407)) ((2:Int) ^ (Int.toNat 45)))) 255),(Cur.mk a0.b a0.i (i64.wrap ((i64.wrap (a0.h*6364136223846793005))+1442695040888963407)))))
def xA2(a0:Cur)(a1:Int):List Arg:=[.box (Cu .ro a0),.val (.v false [.int .i64 a1])]
def xAj(r:Int×Cur):CallO:=⟨.v false [.int .i64 r.1],[(Cu .ro r.2)],[]⟩
def xBM(N:Nat)(a0:Cur)(a1:Int):Option (Int×Cur):=bif(decide (a1<=0)) then(some (0,a0)) else(bif(decide (a1<=256)) then((xF3 N a0).bind fun r1=>if a1≠(0:Int) then some ((Int.tmod r1.1 a1),r1.2) else none) else((xF3 N a0).bind fun r1=>(xF3 N r1.2).bind fun r2=>(xF3 N r2.2).bind fun r3=>(xF3 N r3.2).bind fun r4=>if a1≠(0:Int) then some ((Int.tmod (i64.wrap ((i64.wrap ((i64.wrap ((i64.wrap (r1.1*16777216))+(i64.wrap (r2.1*65536))))+(i64.wrap (r3.1*256))))+r4.1)) a1),r4.2) else none))
def xBk(a0:Cur)(a1:Int):List Arg:=[.box (Cu .ro a0),.val (.v false [.int .i64 a1])]
def xAs(r:Bool×Cur):CallO:=⟨.v false [.bool r.1],[(Cu .ro r.2)],[]⟩
def xDD(N:Nat)(a0:Cur)(a1:Int):Option (Bool×Cur):=(xBM N a0 a1).bind fun r1=>some ((r1.1==0),r1.2)
def xIc(a0:Cur):List Arg:=[.box (Cu .ro a0)]
def xGj(r:(List Org)×Cur):CallO:=⟨.v false [.sl .own .org r.1],[(Cu .ro r.2)],[]⟩
def xGi(N:Nat):Nat->(List Org)->Int->Int->Int->Cur->Option ((List Org)×Cur)
 |0,_,_,_,_,_=>none
 |n+1,x3,x4,x5,x6,b0=>bif(decide (x6<x5)) then((xBM N b0 2).bind fun r1=>if x3.length+ [(Org.mk x4 (i64.wrap (x6+(i64.wrap (r1.1*2)))))].length<=Lim then(xBM N r1.2 2).bind fun r2=>(xGi N n (x3++ [(Org.mk x4 (i64.wrap (x6+(i64.wrap (r1.1*2)))))]) (i64.wrap ((i64.wrap (x4+1))+r2.1)) x5 (i64.wrap (x6+1)) r2.2) else none) else(some (x3,b0))
def xKg(N:Nat)(a0:Cur):Option ((List Org)×Cur):=(xBM N a0 3).bind fun r1=>(xGi N N [] 1 r1.1 0 r1.2)
def xFG(a0:Cur)(a1:List Int):List Arg:=[.box (Cu .ro a0),.val (.v false [.sl .ro .int a1])]
def xD4(r:Int×Cur):CallO:=⟨.v false [.int .i64 r.1],[(Cu .ro r.2)],[]⟩
def xFw(N:Nat)(a0:Cur)(a1:List Int):Option (Int×Cur):=(xBM N a0 (a1.length:Int)).bind fun r1=>if(0:Int)<=r1.1/\r1.1<a1.length then some ((a1.getD r1.1.toNat Ty.int.dflt),r1.2) else none
def xCY(a0:Cur):List Arg:=[.box (Cu .ro a0)]
def xBB(r:Int×Cur):CallO:=⟨.v false [.int .i64 r.1],[(Cu .ro r.2)],[]⟩
def xD6(N:Nat)(a0:Cur):Option (Int×Cur):=(xDD N a0 12).bind fun r1=>bif r1.1 then((xFw N r1.2 [1000000000,(-1000000000),999999999,500000000,40000]).bind fun r2=>some (r2.1,r2.2)) else((xBM N r1.2 12).bind fun r2=>some ((i64.wrap (r2.1 - 3)),r2.2))
def xD5(a0:Cur):List Arg:=[.box (Cu .ro a0)]
def xCf(r:Val×Cur):CallO:=⟨.v true (Va .own r.1),[(Cu .ro r.2)],[]⟩
def xDJ(N:Nat)(k10:Int->Int->Int->Cur->Val->Val->Option (Val×Cur)):Nat->Int->Int->Int->Int->Cur->Val->Val->Rowd->Option (Val×Cur)
 |0,_,_,_,_,_,_,_,_=>none
 |n+1,x4,x6,x7,x9,b0,b2,b5,b8=>bif(decide (x9<x4)) then((xD6 N b0).bind fun r1=>if b8.cells.length+ [r1.1].length<=Lim then(xDJ N k10 n x4 x6 x7 (i64.wrap (x9+1)) r1.2 b2 b5 (Rowd.mk (b8.cells++ [r1.1]) b8.frm)) else none) else(if b5.rows.length+ [b8].length<=Lim then(k10 x4 x6 (i64.wrap (x7+1)) b0 b2 (Val.mk b5.kind b5.n b5.step b5.text b5.list b5.columns (b5.rows++ [b8]))) else none)
def xCk(N:Nat):Nat->Int->Int->Int->Cur->Val->Val->Option (Val×Cur)
 |0,_,_,_,_,_,_=>none
 |n+1,x4,x6,x7,b0,b2,b5=>bif(decide (x7<x6)) then((xKg N b0).bind fun r1=>(xDJ N (fun z0 z1 z2 z3 z4 z5=>(xCk N n z0 z1 z2 z3 z4 z5)) N x4 x6 x7 0 r1.2 b2 b5 (Rowd.mk [] r1.1))) else(some (b5,b0))
def xFl(N:Nat)(a0:Cur):Option (Val×Cur):=(xBM N a0 3).bind fun r1=>if(0:Int)<=(i64.wrap (1+r1.1))/\(i64.wrap (1+r1.1))<=(List.length ([[97],[98],[99],[120]]:List Str)) then if 0+List.length (List.take (Int.toNat (i64.wrap (1+r1.1))) ([[97],[98],[99],[120]]:List Str))<=Lim then(xDD N r1.2 5).bind fun r2=>bif r2.1 then(if(0:Int)<=0/\(0:Int)<(List.length ([]++(List.take (Int.toNat (i64.wrap (1+r1.1))) ([[97],[98],[99],[120]]:List Str)))) then if(0:Int)<=1/\(1:Int)<=(List.length ((fun(z8:List Str)=>z8.set (Int.toNat 0) [120]) ([]++(List.take (Int.toNat (i64.wrap (1+r1.1))) ([[97],[98],[99],[120]]:List Str))))) then(xBM N r2.2 6).bind fun r3=>(xCk N N 1 r3.1 0 r3.2 (Val.mk 0 0 0 [] [] [] []) (Val.mk 5 0 0 [] [] (List.take (Int.toNat 1) ((fun(z8:List Str)=>z8.set (Int.toNat 0) [120]) ([]++(List.take (Int.toNat (i64.wrap (1+r1.1))) ([[97],[98],[99],[120]]:List Str))))) [])) else none else none) else((xBM N r2.2 6).bind fun r3=>(xCk N N (i64.wrap (1+r1.1)) r3.1 0 r3.2 (Val.mk 0 0 0 [] [] [] []) (Val.mk 5 0 0 [] [] ([]++(List.take (Int.toNat (i64.wrap (1+r1.1))) ([[97],[98],[99],[120]]:List Str))) []))) else none else none
def xF1(a0:Int):List Arg:=[.val (.v false [.int .i64 a0])]
def xCe(r:Val):CallO:=⟨.v true (Va .own r),[],[]⟩
def xCS(N:Nat)(a0:Int):Option (Val):=some (Val.mk 1 a0 0 [] [] [] [])
def xFx(a0:Cur)(a1:List Str):List Arg:=[.box (Cu .ro a0),.val (.v false [.sl .ro .str a1])]
def xDb(r:Str×Cur):CallO:=⟨.v false [.str r.1],[(Cu .ro r.2)],[]⟩
def xF6(N:Nat)(a0:Cur)(a1:List Str):Option (Str×Cur):=(xBM N a0 (a1.length:Int)).bind fun r1=>if(0:Int)<=r1.1/\r1.1<a1.length then some ((a1.getD r1.1.toNat Ty.str.dflt),r1.2) else none
def xGl(a0:Cur):List Arg:=[.box (Cu .ro a0)]
def xEe(r:Str×Cur):CallO:=⟨.v false [.str r.1],[(Cu .ro r.2)],[]⟩
def xHm(N:Nat)(a0:Cur):Option (Str×Cur):=(xF6 N a0 [[],[97],[98],[97,98],[104,101,108,108,111],[116,119,101,110,116,121,32,99,104,97,114,97,99,116,101,114,115,32,111,107],[110,105,110,101,116,101,101,110,32,99,104,97,114,97,99,116,101,114,46]]).bind fun r1=>some (r1.1,r1.2)
def xD3(a0:Str):List Arg:=[.val (.v false [.str a0])]
def xCm(r:Val):CallO:=⟨.v true (Va .own r),[],[]⟩
def xEB(N:Nat)(a0:Str):Option (Val):=some (Val.mk 2 0 0 a0 [] [] [])
def xDE(a0:Cur)(a1:Int):List Arg:=[.box (Cu .ro a0),.val (.v false [.int .i64 a1])]
def xCt(r:Val×Cur):CallO:=⟨.v true (Va .own r.1),[(Cu .ro r.2)],[]⟩
def xEn(N:Nat)(q0:Cur->Int->Option (Val×Cur))(q1:Cur->Int->Option (Val×Cur)):Nat->Int->Int->Int->Cur->Val->Val->Option (Val×Cur)
 |0,_,_,_,_,_,_=>none
 |n+1,x1,x6,x7,b0,b4,b5=>bif(decide (x7<x6)) then((q1 b0 x1).bind fun r1=>if b5.list.length+ [r1.1.re].length<=Lim then(xEn N q0 q1 n x1 x6 (i64.wrap (x7+1)) r1.2 b4 (Val.mk b5.kind b5.n b5.step b5.text (b5.list++ [r1.1.re]) b5.columns b5.rows)) else none) else(some (b5,b0))
def xEt(N:Nat)(q0:Cur->Int->Option (Val×Cur))(q1:Cur->Int->Option (Val×Cur))(a0:Cur)(a1:Int):Option (Val×Cur):=(xFw N a0 [0,1,2,3,3,4,5,8]).bind fun r1=>(xEn N q0 q1 N a1 r1.1 0 r1.2 (Val.mk 0 0 0 [] [] [] []) (Val.mk 3 0 0 [] [] [] []))
def xCK(a0:Cur)(a1:Int):List Arg:=[.box (Cu .ro a0),.val (.v false [.int .i64 a1])]
def xCu(r:Val×Cur):CallO:=⟨.v true (Va .own r.1),[(Cu .ro r.2)],[]⟩
def xEu(N:Nat)(q0:Cur->Int->Option (Val×Cur))(q1:Cur->Int->Option (Val×Cur))(a0:Cur)(a1:Int):Option (Val×Cur):=bif(decide (a1>1)) then((xDD N a0 4).bind fun r1=>bif r1.1 then((q0 r1.2 (i64.wrap (a1 - 1))).bind fun r2=>some (r2.1,r2.2)) else((xDD N r1.2 4).bind fun r2=>bif r2.1 then((xHm N r2.2).bind fun r3=>(xEB N r3.1).bind fun r4=>some (r4,r3.2)) else((xD6 N r2.2).bind fun r3=>(xCS N r3.1).bind fun r4=>some (r4,r3.2)))) else((xDD N a0 4).bind fun r1=>bif r1.1 then((xHm N r1.2).bind fun r2=>(xEB N r2.1).bind fun r3=>some (r3,r2.2)) else((xD6 N r1.2).bind fun r2=>(xCS N r2.1).bind fun r3=>some (r3,r2.2)))
structure spec_l3DrawList_rec where
 c_spec_l3DrawList:Cur->Int->Option (Val×Cur)
 c_spec_l3Element2:Cur->Int->Option (Val×Cur)
def xAP(N:Nat):Nat->spec_l3DrawList_rec
 |0=>⟨fun _ _=>none,fun _ _=>none⟩
 |d+1=>⟨xEt N (xAP N d).c_spec_l3DrawList (xAP N d).c_spec_l3Element2,xEu N (xAP N d).c_spec_l3DrawList (xAP N d).c_spec_l3Element2⟩
def xJa(N:Nat)(a0:Cur)(a1:Int):Option (Val×Cur):=(xAP N N).c_spec_l3DrawList a0 a1
def xGS(a0:Cur):List Arg:=[.box (Cu .ro a0)]
def xEO(r:Val×Cur):CallO:=⟨.v true (Va .own r.1),[(Cu .ro r.2)],[]⟩
def xEN(N:Nat):Nat->Int->Int->Cur->Val->Val->Option (Val×Cur)
 |0,_,_,_,_,_=>none
 |n+1,x4,x5,b0,b2,b3=>bif(decide (x5<x4)) then((xD6 N b0).bind fun r1=>(xCS N r1.1).bind fun r2=>if b3.list.length+ [r2.re].length<=Lim then(xEN N n x4 (i64.wrap (x5+1)) r1.2 b2 (Val.mk b3.kind b3.n b3.step b3.text (b3.list++ [r2.re]) b3.columns b3.rows)) else none) else(some (b3,b0))
def xId(N:Nat)(a0:Cur):Option (Val×Cur):=(xBM N a0 9).bind fun r1=>(xEN N N r1.1 0 r1.2 (Val.mk 0 0 0 [] [] [] []) (Val.mk 3 0 0 [] [] [] []))
def xF2(a0:Int)(a1:Int):List Arg:=[.val (.v false [.int .i64 a0]),.val (.v false [.int .i64 a1])]
def xE6(r:Val):CallO:=⟨.v true (Va .own r),[],[]⟩
def xIr(N:Nat)(a0:Int)(a1:Int):Option (Val):=some (Val.mk 4 a0 a1 [] [] [] [])
def xCG(a0:Cur):List Arg:=[.box (Cu .ro a0)]
def xBl(r:Val×Cur):CallO:=⟨.v true (Va .own r.1),[(Cu .ro r.2)],[]⟩
def xH2(N:Nat)(a0:Cur):Option (Val×Cur):=(xBM N a0 10).bind fun r1=>bif(r1.1==0) then((xD6 N r1.2).bind fun r2=>(xCS N r2.1).bind fun r3=>some (r3,r2.2)) else(bif(r1.1==1) then((xD6 N r1.2).bind fun r2=>(xCS N r2.1).bind fun r3=>some (r3,r2.2)) else(bif(r1.1==2) then((xD6 N r1.2).bind fun r2=>(xCS N r2.1).bind fun r3=>some (r3,r2.2)) else(bif(r1.1==3) then((xHm N r1.2).bind fun r2=>(xEB N r2.1).bind fun r3=>some (r3,r2.2)) else(bif(r1.1==4) then((xJa N r1.2 3).bind fun r2=>some (r2.1,r2.2)) else(bif(r1.1==5) then((xId N r1.2).bind fun r2=>some (r2.1,r2.2)) else(bif(r1.1==6) then((xD6 N r1.2).bind fun r2=>(xD6 N r2.2).bind fun r3=>(xIr N r2.1 r3.1).bind fun r4=>some (r4,r3.2)) else(bif(r1.1==7) then((xBM N r1.2 8).bind fun r2=>(xBL N (i64.wrap (1+r2.1))).bind fun r3=>some (r3,r2.2)) else((xFl N r1.2).bind fun r2=>some (r2.1,r2.2)))))))))
def xH9(a0:Cur):List Arg:=[.box (Cu .ro a0)]
def xG6(r:Str×Cur):CallO:=⟨.v false [.str r.1],[(Cu .ro r.2)],[]⟩
def xLE(N:Nat)(a0:Cur):Option (Str×Cur):=(xF6 N a0 [[97],[98],[99],[100],[120],[121],[116],[117]]).bind fun r1=>some (r1.1,r1.2)
def xHD(a0:Cur):List Arg:=[.box (Cu .ro a0)]
def xGR(r:Str×Cur):CallO:=⟨.v false [.str r.1],[(Cu .ro r.2)],[]⟩
def xKV(N:Nat)(a0:Cur):Option (Str×Cur):=(xDD N a0 2).bind fun r1=>bif r1.1 then((xLE N r1.2).bind fun r2=>some (r2.1,r2.2)) else((xF6 N r1.2 [[],[49,97],[97,49],[97,98,99,100,101,102,103,104],[97,98,99,100,101,102,103,104,105],[108,101,116],[116,97,98,108,101],[115,117,109],[115,117,109,115],[65],[97,95,98],[108,101,110]]).bind fun r2=>some (r2.1,r2.2))
def xCU(a0:Cur):List Arg:=[.box (Cu .ro a0)]
def xCs(r:Val×Cur):CallO:=⟨.v true (Va .own r.1),[(Cu .ro r.2)],[]⟩
def xH0(N:Nat)(a0:Cur):Option (Val×Cur):=(xH2 N a0).bind fun r1=>(xBM N r1.2 16).bind fun r2=>bif(r2.1==0) then(some ((Val.mk r1.1.kind (i64.wrap (r1.1.n+1000000000)) r1.1.step r1.1.text r1.1.list r1.1.columns r1.1.rows),r2.2)) else(bif(r2.1==1) then(if r1.1.text.length+ [120,34,121].length<=Lim then some ((Val.mk r1.1.kind r1.1.n r1.1.step (r1.1.text++ [120,34,121]) r1.1.list r1.1.columns r1.1.rows),r2.2) else none) else(bif(r2.1==2) then((xBM N r2.2 8).bind fun r3=>some ((Val.mk r3.1 r1.1.n r1.1.step r1.1.text r1.1.list r1.1.columns r1.1.rows),r3.2)) else(bif(r2.1==3) then((xH2 N r2.2).bind fun r3=>if r1.1.list.length+ [r3.1.re].length<=Lim then some ((Val.mk r1.1.kind r1.1.n r1.1.step r1.1.text (r1.1.list++ [r3.1.re]) r1.1.columns r1.1.rows),r3.2) else none) else(bif(r2.1==4) then(if r1.1.rows.length+List.length [(Rowd.mk [1] [(Org.mk 2 1),(Org.mk 1 1)])]<=Lim then some ((Val.mk r1.1.kind r1.1.n r1.1.step r1.1.text r1.1.list r1.1.columns (r1.1.rows++ [(Rowd.mk [1] [(Org.mk 2 1),(Org.mk 1 1)])])),r2.2) else none) else(bif(r2.1==5) then((xKV N r2.2).bind fun r3=>if r1.1.columns.length+ [r3.1].length<=Lim then some ((Val.mk r1.1.kind r1.1.n r1.1.step r1.1.text r1.1.list (r1.1.columns++ [r3.1]) r1.1.rows),r3.2) else none) else(bif(r2.1==6) then(some ((Val.mk r1.1.kind r1.1.n 7 r1.1.text r1.1.list r1.1.columns r1.1.rows),r2.2)) else(some (r1.1,r2.2))))))))
def xHF(a0:Cur):List Arg:=[.box (Cu .ro a0)]
def xDF(r:Val×Cur):CallO:=⟨.v true (Va .own r.1),[(Cu .ro r.2)],[]⟩
def xFb(N:Nat)(k3:Int->Cur->Val->Val->Option (Val×Cur)):Nat->Int->Int->Cur->Val->Val->Option (Val×Cur)
 |0,_,_,_,_,_=>none
 |n+1,x4,x5,b0,b2,b3=>if(0:Int)<=x4/\x4<b3.rows.length then bif(decide (x5<(List.length (Rowd.cells (b3.rows.getD x4.toNat Ty.row.dflt)):Int))) then((xDD N b0 8).bind fun r1=>bif(!r1.1) then((xBM N r1.2 4).bind fun r2=>if(0:Int)<=x5/\x5<(List.length (Rowd.cells (b3.rows.getD x4.toNat Ty.row.dflt))) then(xFb N k3 n x4 (i64.wrap (x5+1)) r2.2 b2 (Val.mk b3.kind b3.n b3.step b3.text b3.list b3.columns (b3.rows.set x4.toNat (Rowd.mk ((fun(z1:List Int)=>z1.set x5.toNat r2.1) (Rowd.cells (b3.rows.getD x4.toNat Ty.row.dflt))) (Rowd.frm (b3.rows.getD x4.toNat Ty.row.dflt)))))) else none) else((xFb N k3 n x4 (i64.wrap (x5+1)) r1.2 b2 b3))) else((k3 (i64.wrap (x4+1)) b0 b2 b3)) else none
def xFa(N:Nat):Nat->Int->Cur->Val->Val->Option (Val×Cur)
 |0,_,_,_,_=>none
 |n+1,x4,b0,b2,b3=>bif(decide (x4<(b3.rows.length:Int))) then((xFb N (fun z0 z1 z2 z3=>(xFa N n z0 z1 z2 z3)) N x4 0 b0 b2 b3)) else((xDD N b0 12).bind fun r1=>bif r1.1 then((xH0 N r1.2).bind fun r2=>some (r2.1,r2.2)) else(some (b3,r1.2)))
def xIo(N:Nat)(a0:Cur):Option (Val×Cur):=(xFl N a0).bind fun r1=>(xFa N N 0 r1.2 (Val.mk 0 0 0 [] [] [] []) r1.1)
def xGm(a0:Cur):List Arg:=[.box (Cu .ro a0)]
def xEE(r:Val×Cur):CallO:=⟨.v true (Va .own r.1),[(Cu .ro r.2)],[]⟩
def xH4(N:Nat)(a0:Cur):Option (Val×Cur):=(xDD N a0 16).bind fun r1=>bif r1.1 then((xH0 N r1.2).bind fun r2=>some (r2.1,r2.2)) else((xF6 N r1.2 [[97],[97],[97],[98],[98],[99],[120],[122],[]]).bind fun r2=>(xEB N r2.1).bind fun r3=>some (r3,r2.2))
def xE9(a0:List Str)(a1:List Str):List Arg:=[.val (.v false [.sl .ro .str a0]),.val (.v false [.sl .ro .str a1])]
def xCD(r:Bool):CallO:=⟨.v false [.bool r],[],[]⟩
def xFJ(N:Nat):Nat->(List Str)->(List Str)->Int->Option (Bool)
 |0,_,_,_=>none
 |n+1,x0,x1,x5=>bif(decide (x5<(x0.length:Int))) then(if(0:Int)<=x5/\x5<x0.length then if(0:Int)<=x5/\x5<x1.length then bif(!(((x0.getD x5.toNat Ty.str.dflt):Str)==(x1.getD x5.toNat Ty.str.dflt))) then(some false) else((xFJ N n x0 x1 (i64.wrap (x5+1)))) else none else none) else(some true)
def xIm(N:Nat)(a0:List Str)(a1:List Str):Option (Bool):=bif((a0.length:Int) != (a1.length:Int)) then(some false) else((xFJ N N a0 a1 0))
def xG5(a0:List Int)(a1:List Int):List Arg:=[.val (.v false [.sl .ro .int a0]),.val (.v false [.sl .ro .int a1])]
def xDa(r:Bool):CallO:=⟨.v false [.bool r],[],[]⟩
def xGh(N:Nat):Nat->(List Int)->(List Int)->Int->Option (Bool)
 |0,_,_,_=>none
 |n+1,x0,x1,x5=>bif(decide (x5<(x0.length:Int))) then(if(0:Int)<=x5/\x5<x0.length then if(0:Int)<=x5/\x5<x1.length then bif((x0.getD x5.toNat Ty.int.dflt) != (x1.getD x5.toNat Ty.int.dflt)) then(some false) else((xGh N n x0 x1 (i64.wrap (x5+1)))) else none else none) else(some true)
def xI7(N:Nat)(a0:List Int)(a1:List Int):Option (Bool):=bif((a0.length:Int) != (a1.length:Int)) then(some false) else((xGh N N a0 a1 0))
def xEP(a0:List Org)(a1:List Org):List Arg:=[.val (.v false [.sl .ro .org a0]),.val (.v false [.sl .ro .org a1])]
def xCH(r:Bool):CallO:=⟨.v false [.bool r],[],[]⟩
def xEQ(N:Nat):Nat->(List Org)->(List Org)->Int->Option (Bool)
 |0,_,_,_=>none
 |n+1,x0,x1,x5=>bif(decide (x5<(x0.length:Int))) then(if(0:Int)<=x5/\x5<x0.length then if(0:Int)<=x5/\x5<x1.length then bif(!((((Org.cell (x0.getD x5.toNat Ty.org.dflt)):Int)==(Org.cell (x1.getD x5.toNat Ty.org.dflt)))&&(((Org.row (x0.getD x5.toNat Ty.org.dflt)):Int)==(Org.row (x1.getD x5.toNat Ty.org.dflt))))) then(some false) else((xEQ N n x0 x1 (i64.wrap (x5+1)))) else none else none) else(some true)
def xG8(N:Nat)(a0:List Org)(a1:List Org):Option (Bool):=bif((a0.length:Int) != (a1.length:Int)) then(some false) else((xEQ N N a0 a1 0))
def xCg(a0:Val)(a1:Val)(a2:Bool):List Arg:=[.val (.v true (Va .ro a0)),.val (.v true (Va .ro a1)),.val (.v false [.bool a2])]
def xBf(r:Bool):CallO:=⟨.v false [.bool r],[],[]⟩
def xED(N:Nat)(q0:Val->Val->Bool->Option (Bool)):Nat->Bool->Int->Val->Val->Option (Bool)
 |0,_,_,_,_=>none
 |n+1,x2,x8,b3,b4=>bif(decide (x8<(b3.rows.length:Int))) then(if(0:Int)<=x8/\x8<b3.rows.length then if(0:Int)<=x8/\x8<b4.rows.length then(xI7 N (Rowd.cells (b3.rows.getD x8.toNat Ty.row.dflt)) (Rowd.cells (b4.rows.getD x8.toNat Ty.row.dflt))).bind fun r1=>bif(!r1) then(some false) else(bif x2 then((xG8 N (Rowd.frm (b3.rows.getD x8.toNat Ty.row.dflt)) (Rowd.frm (b4.rows.getD x8.toNat Ty.row.dflt))).bind fun r2=>bif(!r2) then(some false) else((xED N q0 n x2 (i64.wrap (x8+1)) b3 b4))) else((xED N q0 n x2 (i64.wrap (x8+1)) b3 b4))) else none else none) else(some true)
def xGk(N:Nat)(q0:Val->Val->Bool->Option (Bool)):Nat->Bool->Int->Val->Val->Option (Bool)
 |0,_,_,_,_=>none
 |n+1,x2,x7,b3,b4=>bif(decide (x7<(b3.list.length:Int))) then(if(0:Int)<=x7/\x7<b3.list.length then if(0:Int)<=x7/\x7<b4.list.length then(q0 (b3.list.getD x7.toNat Ty.val.dflt) (b4.list.getD x7.toNat Ty.val.dflt) x2).bind fun r1=>bif(!r1) then(some false) else((xGk N q0 n x2 (i64.wrap (x7+1)) b3 b4)) else none else none) else((xED N q0 N x2 0 b3 b4))
def xGe(N:Nat)(q0:Val->Val->Bool->Option (Bool))(a0:Val)(a1:Val)(a2:Bool):Option (Bool):=bif(a0.kind != a1.kind) then(some false) else(bif(a0.n != a1.n) then(some false) else(bif(a0.step != a1.step) then(some false) else(bif(!((a0.text:Str)==a1.text)) then(some false) else(bif((a0.list.length:Int) != (a1.list.length:Int)) then(some false) else((xIm N a0.columns a1.columns).bind fun r1=>bif(!r1) then(some false) else(bif((a0.rows.length:Int) != (a1.rows.length:Int)) then(some false) else((xGk N q0 N a2 0 a0 a1))))))))
def xDd(N:Nat):Nat->Val->Val->Bool->Option (Bool)
 |0,_,_,_=>none
 |d+1,a0,a1,a2=>xGe N (xDd N d) a0 a1 a2
def xLH(N:Nat)(a0:Val)(a1:Val)(a2:Bool):Option (Bool):=xDd N N a0 a1 a2
def xC4(a0:Val)(a1:Val):List Arg:=[.val (.v true (Va .ro a0)),.val (.v true (Va .ro a1))]
def xBq(r:Bool):CallO:=⟨.v false [.bool r],[],[]⟩
def xE3(N:Nat)(a0:Val)(a1:Val):Option (Bool):=(xLH N a0 a1 true).bind fun r1=>some r1
def xHz(a0:List Org):List Arg:=[.val (.v false [.sl .ro .org a0])]
def xFV(r:Val):CallO:=⟨.v true [.int .i64 (Val.kind r),.int .i64 (Val.n r),.int .i64 (Val.step r),.str (Val.text r),.sl .own .val (Val.list r),.sl .own .str (Val.columns r),.sl .tip .row (Val.rows r)],[],[]⟩
def xJP(N:Nat)(a0:List Org):Option (Val):=some (Val.mk 0 0 0 [] [] [] [(Rowd.mk [] a0)])
def xFU(a0:List Org)(a1:List Org):List Arg:=[.val (.v false [.sl .ro .org a0]),.val (.v false [.sl .ro .org a1])]
def xE0(r:Bool):CallO:=⟨.v false [.bool r],[],[]⟩
def xFj(N:Nat)(a0:List Org)(a1:List Org):Option (Bool):=(xJP N a0).bind fun r1=>(xJP N a1).bind fun r2=>(xE3 N r1 r2).bind fun r3=>some r3
def xIB(a0:List Rowd)(a1:Int)(a2:Int)(a3:List Org):List Arg:=[.val (.v false [.sl .ro .row a0]),.val (.v false [.int .i64 a1]),.val (.v false [.int .i64 a2]),.val (.v false [.sl .ro .org a3])]
def xF7(r:(List Rowd)):CallO:=⟨.v false [.sl .tip .row r],[],[]⟩
def xCz(N:Nat):Nat->(List Rowd)->Int->Int->(List Org)->(List Rowd)->Bool->Int->Option ((List Rowd))
 |0,_,_,_,_,_,_,_=>none
 |n+1,x0,x1,x2,x3,x9,x10,x11=>bif(decide (x11<(x0.length:Int))) then(if(0:Int)<=x11/\x11<x0.length then if(0:Int)<=0/\(0:Int)<(List.length (Rowd.cells (x0.getD x11.toNat Ty.row.dflt))) then bif(((List.getD (Rowd.cells (x0.getD x11.toNat Ty.row.dflt)) (Int.toNat 0) Ty.int.dflt):Int)==x1) then(if(0:Int)<=1/\(1:Int)<(List.length (Rowd.cells (x0.getD x11.toNat Ty.row.dflt))) then(xIp N (Rowd.frm (x0.getD x11.toNat Ty.row.dflt)) x3).bind fun r1=>if(0:Int)<=0/\(0:Int)<([x1,(i64.wrap ((List.getD (Rowd.cells (x0.getD x11.toNat Ty.row.dflt)) (Int.toNat 1) Ty.int.dflt)+x2))].length) then bif(decide (((List.getD [x1,(i64.wrap ((List.getD (Rowd.cells (x0.getD x11.toNat Ty.row.dflt)) (Int.toNat 1) Ty.int.dflt)+x2))] (Int.toNat 0) Ty.int.dflt):Int)>x1)) then(if x9.length+List.length [(Rowd.mk [x1,(i64.wrap ((List.getD (Rowd.cells (x0.getD x11.toNat Ty.row.dflt)) (Int.toNat 1) Ty.int.dflt)+x2))] r1)]<=Lim then(xCz N n x0 x1 x2 x3 (x9++ [(Rowd.mk [x1,(i64.wrap ((List.getD (Rowd.cells (x0.getD x11.toNat Ty.row.dflt)) (Int.toNat 1) Ty.int.dflt)+x2))] r1)]) true (i64.wrap (x11+1))) else none) else(if x9.length+List.length [(Rowd.mk [x1,(i64.wrap ((List.getD (Rowd.cells (x0.getD x11.toNat Ty.row.dflt)) (Int.toNat 1) Ty.int.dflt)+x2))] r1)]<=Lim then(xCz N n x0 x1 x2 x3 (x9++ [(Rowd.mk [x1,(i64.wrap ((List.getD (Rowd.cells (x0.getD x11.toNat Ty.row.dflt)) (Int.toNat 1) Ty.int.dflt)+x2))] r1)]) true (i64.wrap (x11+1))) else none) else none else none) else(bif(decide (((List.getD (Rowd.cells (x0.getD x11.toNat Ty.row.dflt)) (Int.toNat 0) Ty.int.dflt):Int)>x1)) then(bif(!x10) then(if 0+x3.length<=Lim then if x9.length+List.length [(Rowd.mk [x1,x2] ([]++x3))]<=Lim then
       if List.length (x9++ [(Rowd.mk [x1,x2] ([]++x3))])+ [(x0.getD x11.toNat Ty.row.dflt)].length<=Lim then(xCz N n x0 x1 x2 x3 ((x9++ [(Rowd.mk [x1,x2] ([]++x3))])++ [(x0.getD x11.toNat Ty.row.dflt)]) true (i64.wrap (x11+1))) else none else none else none) else(if x9.length+ [(x0.getD x11.toNat Ty.row.dflt)].length<=Lim then(xCz N n x0 x1 x2 x3 (x9++ [(x0.getD x11.toNat Ty.row.dflt)]) x10 (i64.wrap (x11+1))) else none)) else(if x9.length+ [(x0.getD x11.toNat Ty.row.dflt)].length<=Lim then(xCz N n x0 x1 x2 x3 (x9++ [(x0.getD x11.toNat Ty.row.dflt)]) x10 (i64.wrap (x11+1))) else none)) else none else none) else(bif(!x10) then(if 0+x3.length<=Lim then if x9.length+List.length [(Rowd.mk [x1,x2] ([]++x3))]<=Lim then some (x9++ [(Rowd.mk [x1,x2] ([]++x3))]) else none else none) else(some x9))
def xKW(N:Nat)(a0:List Rowd)(a1:Int)(a2:Int)(a3:List Org):Option ((List Rowd)):=(xCz N N a0 a1 a2 a3 [] false 0)
def xDP(a0:Val)(a1:Val)(a2:Val):List Arg:=[.val (.v true (Va .ro a0)),.val (.v true (Va .ro a1)),.val (.v true (Va .ro a2))]
def xBy(r:Val):CallO:=⟨.v true (Va .ro r),[],[]⟩
def xDs(N:Nat):Nat->Int->Val->Val->Option (Val)
 |0,_,_,_=>none
 |n+1,x13,b6,b11=>bif(decide (x13<(b11.rows.length:Int))) then(if(0:Int)<=x13/\x13<b11.rows.length then if(0:Int)<=1/\(1:Int)<(List.length (Rowd.cells (b11.rows.getD x13.toNat Ty.row.dflt))) then(xEy N (List.getD (Rowd.cells (b11.rows.getD x13.toNat Ty.row.dflt)) (Int.toNat 1) Ty.int.dflt)).bind fun r1=>bif(!r1) then((xBL N 5).bind fun r2=>some r2) else((xDs N n (i64.wrap (x13+1)) b6 b11)) else none else none) else(some b11)
def xD1(N:Nat):Nat->Int->Int->Int->Val->Val->Val->Option (Val)
 |0,_,_,_,_,_,_=>none
 |n+1,x9,x10,x12,b5,b6,b11=>bif(decide (x12<(b5.rows.length:Int))) then(if(0:Int)<=x12/\x12<b5.rows.length then if(0:Int)<=x9/\x9<(List.length (Rowd.cells (b5.rows.getD x12.toNat Ty.row.dflt))) then if(0:Int)<=x10/\x10<(List.length (Rowd.cells (b5.rows.getD x12.toNat Ty.row.dflt))) then(xKW N b11.rows (List.getD (Rowd.cells (b5.rows.getD x12.toNat Ty.row.dflt)) x9.toNat Ty.int.dflt) (List.getD (Rowd.cells (b5.rows.getD x12.toNat Ty.row.dflt)) x10.toNat Ty.int.dflt) (Rowd.frm (b5.rows.getD x12.toNat Ty.row.dflt))).bind fun r1=>(xD1 N n x9 x10 (i64.wrap (x12+1)) b5 b6 (Val.mk b11.kind b11.n b11.step b11.text b11.list b11.columns r1)) else none else none else none) else((xDs N N 0 b6 b11))
def xEb(N:Nat)(a0:Val)(a1:Val)(a2:Val):Option (Val):=(xIn N [a0.re,a1.re,a2.re] [2,2,5]).bind fun r1=>bif r1.2 then(some r1.1) else((xDO N a2 a0.text).bind fun r2=>(xDO N a2 a1.text).bind fun r3=>bif(decide (r2<0)) then((xBL N 7).bind fun r4=>some r4) else(bif(decide (r3<0)) then((xBL N 7).bind fun r4=>some r4) else(bif(r2==r3) then((xBL N 7).bind fun r4=>some r4) else((xD1 N N r2 r3 0 a2 (Val.mk 0 0 0 [] [] [] []) (Val.mk 5 0 0 [] [] [a0.text,a1.text] []))))))
def xB9(a0:Val)(a1:Val)(a2:Val):List Arg:=[.val (.v true (Va .ro a0)),.val (.v true (Va .ro a1)),.val (.v true (Va .ro a2))]
def xHR(r:Val×Bool):CallO:=⟨.v true [.int .i64 (Val.kind r.1),.int .i64 (Val.n r.1),.int .i64 (Val.step r.1),.str (Val.text r.1),.sl .ro .val (Val.list r.1),.sl .ro .str (Val.columns r.1),.sl .ro .row (Val.rows r.1)],[],[]⟩
def xDo(r:Val×Bool):CallO:=⟨.v true [.int .i64 (Val.kind r.1),.int .i64 (Val.n r.1),.int .i64 (Val.step r.1),.str (Val.text r.1),.sl .own .val (Val.list r.1),.sl .own .str (Val.columns r.1),.sl .own .row (Val.rows r.1)],[],[]⟩
def xDX(r:Val×Bool):CallO:=⟨.v true [.int .i64 (Val.kind r.1),.int .i64 (Val.n r.1),.int .i64 (Val.step r.1),.str (Val.text r.1),.sl .ro .val [],.sl .ro .str [],.sl .ro .row []],[],[]⟩
def xBu(r:Val×Bool):CallO:=bif r.2 then xHR r else xDo r
def xHa(N:Nat)(x9:Int)(x10:Int)(b3:Val)(b4:Val)(b5:Val)(b6:Val):Option (Val×Bool):=zJt x9 x10 b3 b4 b5
def xEv(N:Nat)(a0:Val)(a1:Val)(a2:Val):Option (Val×Bool):=(xG1 N [2,2,5] [a0.re,a1.re,a2.re]).bind fun r1=>bif r1.2.2 then(if List.isEmpty r1.1.list=true then if List.isEmpty r1.1.columns=true then if List.isEmpty r1.1.rows=true then bif r1.2.1 then(some ((Val.mk r1.1.kind r1.1.n r1.1.step r1.1.text [] [] []),true)) else((xDL N a2 a0.text).bind fun r2=>(xDL N a2 a1.text).bind fun r3=>bif(decide (r2<0)) then((xB2 N 7).bind fun r4=>some (r4,false)) else(bif(decide (r3<0)) then((xB2 N 7).bind fun r4=>some (r4,false)) else(bif((a0.text:Str)==a1.text) then((xB2 N 7).bind fun r4=>some (r4,false)) else((xHa N r2 r3 a0 a1 a2 (Val.mk 0 0 0 [] [] [] [])))))) else none else none else none) else(bif r1.2.1 then(some (r1.1,false)) else((xDL N a2 a0.text).bind fun r2=>(xDL N a2 a1.text).bind fun r3=>bif(decide (r2<0)) then((xB2 N 7).bind fun r4=>some (r4,false)) else(bif(decide (r3<0)) then((xB2 N 7).bind fun r4=>some (r4,false)) else(bif((a0.text:Str)==a1.text) then((xB2 N 7).bind fun r4=>some (r4,false)) else((xHa N r2 r3 a0 a1 a2 (Val.mk 0 0 0 [] [] [] [])))))))
def xCj(a0:List Int):List Arg:=[.val (.v false [.sl .ro .byte a0])]
def xA9(r:Val×Val×Val):CallO:=⟨.tup [(true,(Va .own r.1)),(true,(Va .own r.2.1)),(true,(Va .own r.2.2))],[],[]⟩
def xEI(N:Nat)(a0:List Int):Option (Val×Val×Val):=(xIG N a0).bind fun r1=>(xH4 N r1).bind fun r2=>(xH4 N r2.2).bind fun r3=>(xIo N r3.2).bind fun r4=>some (r2.1,r3.1,r4.1)
def xGH(a0:Val):List Arg:=[.val (.v true (Va .ro a0))]
def xEH(r:(List Org)):CallO:=⟨.v false [.sl .own .org r],[],[]⟩
def xEG(N:Nat):Nat->(List Org)->(List Rowd)->Int->Int->Option ((List Org))
 |0,_,_,_,_=>none
 |n+1,x3,x8,x9,x10=>bif(decide (x10<x9)) then(if(0:Int)<=x10/\x10<x8.length then(xGI N x3 (Rowd.frm (x8.getD x10.toNat Ty.row.dflt))).bind fun r1=>(xEG N n r1 x8 x9 (i64.wrap (x10+1))) else none) else(some x3)
def xFv(N:Nat)(a0:Val):Option ((List Org)):=(xEG N N [] a0.rows (a0.rows.length:Int) 0)
def xHG(a0:List Org)(a1:Org):List Arg:=[.val (.v false [.sl .ro .org a0]),.val (.v true [.int .i64 a1.cell,.int .i64 a1.row])]
def xEz(r:(List Org)):CallO:=⟨.v false [.sl .own .org r],[],[]⟩
def xDg(N:Nat):Nat->(List Org)->(List Org)->Bool->Int->Org->Option ((List Org))
 |0,_,_,_,_,_=>none
 |n+1,x0,x5,x6,x7,b3=>bif(decide (x7<(x0.length:Int))) then(if(0:Int)<=x7/\x7<x0.length then bif((((Org.cell (x0.getD x7.toNat Ty.org.dflt)):Int)==b3.cell)&&(((Org.row (x0.getD x7.toNat Ty.org.dflt)):Int)==b3.row)) then(if x5.length+ [(x0.getD x7.toNat Ty.org.dflt)].length<=Lim then(xDg N n x0 (x5++ [(x0.getD x7.toNat Ty.org.dflt)]) true (i64.wrap (x7+1)) b3) else none) else(bif(!x6) then((xEw N b3 (x0.getD x7.toNat Ty.org.dflt)).bind fun r1=>bif r1 then(if x5.length+ [b3].length<=Lim then if List.length (x5++ [b3])+ [(x0.getD x7.toNat Ty.org.dflt)].length<=Lim then(xDg N n x0 ((x5++ [b3])++ [(x0.getD x7.toNat Ty.org.dflt)]) true (i64.wrap (x7+1)) b3) else none else none) else(if x5.length+ [(x0.getD x7.toNat Ty.org.dflt)].length<=Lim then(xDg N n x0 (x5++ [(x0.getD x7.toNat Ty.org.dflt)]) x6 (i64.wrap (x7+1)) b3) else none)) else(if x5.length+ [(x0.getD x7.toNat Ty.org.dflt)].length<=Lim then(xDg N n x0 (x5++ [(x0.getD x7.toNat Ty.org.dflt)]) x6 (i64.wrap (x7+1)) b3) else none)) else none) else(bif(!x6) then(if x5.length+ [b3].length<=Lim then some (x5++ [b3]) else none) else(some x5))
def xJZ(N:Nat)(a0:List Org)(a1:Org):Option ((List Org)):=(xDg N N a0 [] false 0 a1)
def xFC(a0:List Org)(a1:List Org):List Arg:=[.val (.v false [.sl .ro .org a0]),.val (.v false [.sl .ro .org a1])]
def xC1(r:(List Org)):CallO:=⟨.v false [.sl .own .org r],[],[]⟩
def xDI(N:Nat):Nat->(List Org)->(List Org)->Int->Option ((List Org))
 |0,_,_,_=>none
 |n+1,x1,x5,x7=>bif(decide (x7<(x1.length:Int))) then(if(0:Int)<=x7/\x7<x1.length then(xJZ N x5 (x1.getD x7.toNat Ty.org.dflt)).bind fun r1=>(xDI N n x1 r1 (i64.wrap (x7+1))) else none) else(some x5)
def xDH(N:Nat):Nat->(List Org)->(List Org)->(List Org)->Int->Option ((List Org))
 |0,_,_,_,_=>none
 |n+1,x0,x1,x5,x6=>bif(decide (x6<(x0.length:Int))) then(if(0:Int)<=x6/\x6<x0.length then(xJZ N x5 (x0.getD x6.toNat Ty.org.dflt)).bind fun r1=>(xDH N n x0 x1 r1 (i64.wrap (x6+1))) else none) else((xDI N N x1 x5 0))
def xGN(N:Nat)(a0:List Org)(a1:List Org):Option ((List Org)):=(xDH N N a0 a1 [] 0)
def xGL(a0:Val):List Arg:=[.val (.v true (Va .ro a0))]
def xEK(r:(List Org)):CallO:=⟨.v false [.sl .own .org r],[],[]⟩
def xEJ(N:Nat):Nat->(List Org)->Int->Val->Option ((List Org))
 |0,_,_,_=>none
 |n+1,x3,x4,b1=>bif(decide (x4<(b1.rows.length:Int))) then(if(0:Int)<=x4/\x4<b1.rows.length then(xGN N x3 (Rowd.frm (b1.rows.getD x4.toNat Ty.row.dflt))).bind fun r1=>(xEJ N n r1 (i64.wrap (x4+1)) b1) else none) else(some x3)
def xGg(N:Nat)(a0:Val):Option ((List Org)):=(xEJ N N [] 0 a0)
def xDx(a0:List Int):List Arg:=[.val (.v false [.sl .ro .byte a0])]
def xCB(r:Bool):CallO:=⟨.v false [.bool r],[],[]⟩
def xDN(N:Nat):Nat->Int->Int->Int->Val->Val->Option (Bool)
 |0,_,_,_,_,_=>none
 |n+1,x7,x9,x10,b5,b6=>bif(decide (x10<(b5.rows.length:Int))) then(if(0:Int)<=x10/\x10<b5.rows.length then if(0:Int)<=x9/\x9<(List.length (Rowd.cells (b5.rows.getD x10.toNat Ty.row.dflt))) then(xDN N n (i64.wrap (x7 - (List.getD (Rowd.cells (b5.rows.getD x10.toNat Ty.row.dflt)) x9.toNat Ty.int.dflt))) x9 (i64.wrap (x10+1)) b5 b6) else none else none) else(bif(x7==0) then((xFv N b6).bind fun r1=>(xGg N b5).bind fun r2=>(xFj N r1 r2).bind fun r3=>some r3) else(some false))
def xCA(N:Nat):Nat->Int->Int->Val->Val->Val->Option (Bool)
 |0,_,_,_,_,_=>none
 |n+1,x7,x8,b4,b5,b6=>bif(decide (x8<(b6.rows.length:Int))) then(bif(decide (x8>0)) then(if(0:Int)<=(i64.wrap (x8 - 1))/\(i64.wrap (x8 - 1))<b6.rows.length then if(0:Int)<=0/\(0:Int)<(List.length (Rowd.cells (b6.rows.getD (Int.toNat (i64.wrap (x8 - 1))) Ty.row.dflt))) then if(0:Int)<=x8/\x8<b6.rows.length then if(0:Int)<=0/\(0:Int)<(List.length (Rowd.cells (b6.rows.getD x8.toNat Ty.row.dflt))) then bif(decide (((List.getD (Rowd.cells (b6.rows.getD (Int.toNat (i64.wrap (x8 - 1))) Ty.row.dflt)) (Int.toNat 0) Ty.int.dflt):Int)>=(List.getD (Rowd.cells (b6.rows.getD x8.toNat Ty.row.dflt)) (Int.toNat 0) Ty.int.dflt))) then(some false) else(if(0:Int)<=1/\(1:Int)<(List.length (Rowd.cells (b6.rows.getD x8.toNat Ty.row.dflt))) then(xCA N n (i64.wrap (x7+(List.getD (Rowd.cells (b6.rows.getD x8.toNat Ty.row.dflt)) (Int.toNat 1) Ty.int.dflt))) (i64.wrap (x8+1)) b4 b5 b6) else none) else none else none else none else none) else(if(0:Int)<=x8/\x8<b6.rows.length then if(0:Int)<=1/\(1:Int)<(List.length (Rowd.cells (b6.rows.getD x8.toNat Ty.row.dflt))) then(xCA N n (i64.wrap (x7+(List.getD (Rowd.cells (b6.rows.getD x8.toNat Ty.row.dflt)) (Int.toNat 1) Ty.int.dflt))) (i64.wrap (x8+1)) b4 b5 b6) else none else none)) else((xDO N b5 b4.text).bind fun r1=>(xDN N N x7 r1 0 b5 b6))
def xIi(N:Nat)(a0:List Int):Option (Bool):=(xKR N a0).bind fun r1=>bif r1 then(some true) else((xEI N a0).bind fun r2=>(xEv N r2.1 r2.2.1 r2.2.2).bind fun r3=>bif r3.2 then(if List.isEmpty r3.1.list=true then if List.isEmpty r3.1.columns=true then if List.isEmpty r3.1.rows=true then(xEb N r2.1 r2.2.1 r2.2.2).bind fun r4=>(xE3 N (Val.mk r3.1.kind r3.1.n r3.1.step r3.1.text [] [] []) r4).bind fun r5=>bif(!r5) then(some false) else(bif(r3.1.kind != 5) then(some (r3.1.kind==6)) else((xCA N N 0 0 r2.2.1 r2.2.2 (Val.mk r3.1.kind r3.1.n r3.1.step r3.1.text [] [] [])))) else none else none else none) else((xEb N r2.1 r2.2.1 r2.2.2).bind fun r4=>(xE3 N r3.1 r4).bind fun r5=>bif(!r5) then(some false) else(bif(r3.1.kind != 5) then(some (r3.1.kind==6)) else((xCA N N 0 0 r2.2.1 r2.2.2 r3.1)))))
end Go.Ab
end
section
namespace Go.Ab
open Go.Proofs Go.Shelf
variable {P:Program} {ρ:Ren}
theorem xO9(L:Lays.n125 P ρ):∀args w,(callFunc (ρ.f 125) args).run P w= .ok (.enter (ρ.f 125) args) w:=enters_of L.f125 (by kernel_rfl) rfl
end Go.Ab
end
section
namespace Go.Ab
open Go.Lib Go.Extern Go.Proofs Go.Shelf
variable [Inhabited Lb]
def OrgRow(w:World)(br cap:Nat)(xs:List Org):Prop:=
 xs.length<=cap/\∃cs ty lo hi,w.heap[br]? =some (.cells cs ty (lo,hi))/\cap*2=cs.size/\(∀o,lo<=o->o<hi->cap*2<=o)/\
  ∀m (hm:m<xs.length) k (hk:k<2),cs[m*2+k]? =some ((zAu xs[m])[k]'hk)
theorem OrgRow.rd{E:Env}{br cap:Nat}{xs:List Org}(h:OrgRow E.w br cap xs){pl:Pl}{c:Nat}(ho:E.ow br=some (.arr pl c []))(hw:E.hw br=xs.length*2)(n:Nat)(hh:E.hdr n= .slice (some ⟨br,0,none⟩) xs.length cap):
 RdP E.w (okF E pl c (.lnt n)) (qF E pl c (.lnt n)) (.slice (some ⟨br,0,none⟩) xs.length cap) (.sl 2 (xs.map Ty.org.toD)):=by
 obtain⟨hcap,cs,ty,lo,hi,t4,t5,t6,hc⟩:=h;refine .sl br 0 xs.length cap 2 _ (fun m k=>if h:m<xs.length/\k<2 then(zAu xs[m])[k]'h.2 else .bool false) (by simp) hcap (fun r hr=> ?_) ⟨⟨ho,hw,hcap,cs,ty,lo,hi,t4,t5,t6⟩,fun _=>hh.symm⟩ (fun m k hm hk=> ?_) (fun m k hm hk=> ?_)
 ·obtain⟨y,_,rfl⟩:=List.mem_map.1 hr;exact Ty.toD_length .org y
 ·rw [dif_pos ⟨hm,hk⟩];refine⟨?_,?_,ho⟩
  ·simp only [World.cell?,t4];rw [Nat.zero_add];exact hc m hm k hk
  ·rw [hw];omega
 ·have hm' :m<xs.length:=by simpa using hm
  have hr:(xs.map Ty.org.toD)[m]=Ty.org.toD xs[m]:=by rw [List.getElem_map]
  have hk' :k<2:=by rw [hr] at hk;exact hk
  rw [dif_pos ⟨hm',hk'⟩];simp only [hr]
  match k,hk' with
  |0,_=>exact .int .i64 _
  |1,_=>exact .int .i64 _
theorem OrgRow.of{E:Env}{pl:Pl}{c n br cap:Nat}{xs:List Org}(hx:xs≠ [])(h:RdP E.w (okF E pl c (.lnt n)) (qF E pl c (.lnt n)) (.slice (some ⟨br,0,none⟩) xs.length cap) (.sl 2 (xs.map Ty.org.toD))):OrgRow E.w br cap xs:=by
 obtain⟨b,off,cap',e,hcap,hrl,hq,u,hcl,hk⟩:=RdP.cells h (by simpa using hx);rw [List.length_map] at e;obtain⟨rfl,rfl,rfl⟩:br=b/\0=off/\cap=cap' :=by injection e with e1 e2 e3;injection e1 with e1;injection e1 with e1 e4;exact⟨e1,e4,e3⟩
 obtain⟨t1,t2,t3,cs,ty,lo,hi',t4,t5,t6⟩:=hq.1;rw [List.length_map] at hcap;refine⟨hcap,cs,ty,lo,hi',t4,t5,t6,fun m hm k hk2=> ?_⟩;have g1:=(hcl m k (by simpa using hm) hk2).1;have hr:((xs.map Ty.org.toD)[m]'(by simpa using hm))=Ty.org.toD xs[m]:=by rw [List.getElem_map]
 have g2:=hk m k (by simpa using hm) (by rw [hr];exact hk2);rw [Nat.zero_add] at g1;simp only [World.cell?,t4] at g1;simp only [hr] at g2
 match k,hk2,g1,g2 with
 |0,_,g1,g2=>generalize u m 0=x at g1 g2;simp only [Ty.toD,List.getElem_cons_zero] at g2;cases g2;exact g1
 |1,_,g1,g2=>generalize u m 1=x at g1 g2;simp only [Ty.toD,List.getElem_cons_succ,List.getElem_cons_zero] at g2;cases g2;exact g1
structure Sorted (w:World) (bo br cap:Nat) (xs ys:List Org) (w' :World):Prop where
 os:w'.os=w.os
 tape:w'.tape=w.tape
 output:w'.output=w.output
 size:w.heap.size<=w'.heap.size
 old:∀b,b<w.heap.size->b≠bo->b≠br->w'.heap[b]? =w.heap[b]?
 box:∃ty,w'.heap[bo]? =some (.cells #[.slice (some ⟨br,0,none⟩) xs.length cap] ty (0,0))
 row:OrgRow w' br cap ys
theorem xNT{P:Program}{ρ:Ren}(L:LaysGg.n6 P ρ)(t e:TypeId)(i ie:TypeInfo)(hi:P.info? t=some i)(hd:i.desc= .slice e)(hpk:P.packed t=false)(hie:P.info? e=some ie)(ke:Nat)
 (hke:∀w,(Extern.Rtype.kind e).run P w= .ok ke w) (hnp:ie.hasPointers=false) (hby:ie.bytes=16) (f lf:Nat) (hf:P.funcs.findIdx? (·.name== "internal/reflectlite" ++ ".Swapper$9")=some f)
 {xs ys:List Org} (hl:ys.length=xs.length) (h2:2<=xs.length) (hlen:xs.length<4611686018427387904)
 (hpdq:AbsCalls P (ρ.f 14) [.val (.v true [.clo lf [gi 4],.swp f 0 (typeHandle P e) (gi 4)]),.val (.v false [.int .i64 0]),.val (.v false [.int .i64 xs.length]),.val (.v false [.int .i64 (Lib.bitLen xs.length)]),.gbox [.sl (.lnt 0) .org xs]] ⟨.tup [],[[.sl (.lnt 0) .org ys]],[]⟩)
 {w:World} {bo br cap:Nat} {ty:TypeId} (hbo:w.heap[bo]? =some (.cells #[.slice (some ⟨br,0,none⟩) xs.length cap] ty (0,0))) (hbr:OrgRow w br cap xs) (hne:bo≠br)
 (hbase:∀x∈zH7,x.1<w.heap.size/\x.1≠bo/\x.1≠br/\w.heap[x.1]? =some x.2):
 Calls P (ρ.f 6) #[.iface t (.slice (some ⟨br,0,none⟩) xs.length cap),.func (.func lf) #[] #[.pointer (some ⟨bo,0,none⟩)]] w fun en w' =>en= .returned (.tuple #[])/\Sorted w bo br cap xs ys w' :=by
 have hk9:swapperK xs.length ie ke=9:=by
  unfold swapperK;have e0:(xs.length==0)=false:=beq_eq_false_iff_ne.2 (by omega);have e1:(xs.length==1)=false:=beq_eq_false_iff_ne.2 (by omega);simp [e0,e1,hnp,hby]
 have hbol:bo<w.heap.size:=(Array.getElem?_eq_some_iff.1 hbo).1;have hbrl:br<w.heap.size:=by
  obtain⟨_,cs,ty,lo,hi,h,_⟩:=hbr;exact(Array.getElem?_eq_some_iff.1 h).1
 refine Any.sort_Slice_of_pdq L t e i ie hi hd hpk hie ke hke (some ⟨br,0,none⟩) xs.length cap hlen f (by rw [hk9];exact hf) (.func lf) #[] #[.pointer (some ⟨bo,0,none⟩)] w (Sorted w bo br cap xs ys) ?_;generalize hW:sliceWorld P ρ t (some ⟨br,0,none⟩) xs.length cap w=W;have hWs:W.heap.size=w.heap.size+2:=by rw [<-hW];unfold sliceWorld;rw [zBs,zBs]
 have hWo:∀b,b<w.heap.size->W.heap[b]? =w.heap[b]? :=by
  intro b hb;rw [<-hW];unfold sliceWorld;have al:∀(w:World) (o:Obj) (b:Nat),b<w.heap.size->(w.alloc o).heap[b]? =w.heap[b]? :=fun w o b hb=>by
   show(w.heap.push o)[b]? =_;rw [Array.getElem?_push,if_neg (by omega)]
  rw [al _ _ _ (by rw [zBs];omega),al _ _ _ hb]
 have hWos:W.os=w.os/\W.tape=w.tape/\W.output=w.output:=by rw [<-hW];exact⟨rfl,rfl,rfl⟩
 let E:Env:= { w:=W,hw:=fun b=>if b=br then xs.length*2 else if b=bo then 0 else match w.heap[b]? with |some o=>zFu o|none=>0,
               ow:=fun b=>if b=bo then some (.box (gi 4)) else if b=br then some (.arr (.k (2*gi 4+1)) 0 []) else none,bx:=fun _=>bo,hdr:=fun _=> .slice (some ⟨br,0,none⟩) xs.length cap }
 have o1:E.ow bo=some (.box (gi 4)):=if_pos rfl;have o2:E.ow br=some (.arr (.k (2*gi 4+1)) 0 []):=by show(if br=bo then _ else _)=_;rw [if_neg (Ne.symm hne),if_pos rfl]
 have o3:∀b,b≠bo->b≠br->E.ow b=none:=fun b h1 h2=>by show(if b=bo then _ else _)=_;rw [if_neg h1,if_neg h2]
 have hw2:E.hw br=xs.length*2:=if_pos rfl;have hE:EnvOk E:=by
  refine⟨fun b hb=> ?_,fun b b' l h1 h2=> ?_,fun b s h=> ?_⟩
  ·have hb:W.heap.size<=b:=hb;refine⟨o3 b (by omega) (by omega),?_⟩;show(if b=br then _ else _)=_;rw [if_neg (by omega),if_neg (by omega),Array.getElem?_eq_none (by omega)]
  ·by_cases c1:b=bo
   ·subst c1;rw [o1] at h1;cases h1;by_cases c2:b' =b
    ·exact c2.symm
    ·by_cases c3:b' =br
     ·subst c3;rw [o2] at h2;cases h2
     ·rw [o3 b' c2 c3] at h2;cases h2
   ·by_cases c2:b=br
    ·subst c2;rw [o2] at h1;cases h1;by_cases c3:b' =bo
     ·subst c3;rw [o1] at h2;cases h2
     ·by_cases c4:b' =b
      ·exact c4.symm
      ·rw [o3 b' c3 c4] at h2;cases h2
    ·rw [o3 b c1 c2] at h1;cases h1
  ·by_cases c1:b=bo
   ·subst c1;show(if b=br then _ else _)=_;rw [if_neg hne,if_pos rfl]
   ·by_cases c2:b=br
    ·subst c2;rw [o2] at h;cases h
    ·rw [o3 b c1 c2] at h;cases h
 have hB:Base E:=by
  intro x hx;obtain⟨b1,b2,b3,b4⟩:=hbase x hx;refine⟨by show _<W.heap.size;omega,o3 _ b2 b3,(hWo _ b1).trans b4,?_⟩;show(if x.1=br then _ else _)=_;rw [if_neg b3,if_neg b2,b4]
 have hrow:OrgRow E.w br cap xs:=by
  obtain⟨h1,cs,ty',lo,hi',h3,h4⟩:=hbr;exact⟨h1,cs,ty',lo,hi',(hWo br hbrl).trans h3,h4⟩
 have hsb:sliceBound P e ie ke (some ⟨br,0,none⟩) xs.length cap= #[.slice (some ⟨br,0,none⟩) xs.length cap,typeHandle P e]:=by
  unfold sliceBound;rw [hk9]
  rfl
 rw [hsb]
 have hA:ArgsAt E 0 [.val (.v true [.clo lf [gi 4],.swp f 0 (typeHandle P e) (gi 4)]),.val (.v false [.int .i64 0]),.val (.v false [.int .i64 xs.length]),.val (.v false [.int .i64 (Lib.bitLen xs.length)]),.gbox [.sl (.lnt 0) .org xs]]
  (#[.agg #[.func (.func lf) #[] #[.pointer (some ⟨bo,0,none⟩)],.func (.func f) #[] #[.slice (some ⟨br,0,none⟩) xs.length cap,typeHandle P e]],.int .i64 0,.int .i64 xs.length,.int .i64 (Lib.bitLen xs.length)]:Array Value).toList:=by
  refine⟨⟨_,rfl,⟨rfl,fun _ _=>trivial⟩,⟨⟨rfl,rfl⟩,fun ad l c he h=>rfl⟩,trivial⟩,⟨rfl,trivial⟩,⟨rfl,trivial⟩,⟨rfl,trivial⟩,⟨o1,_,ty,(hWo bo hbol).trans hbo,?_,trivial⟩,trivial⟩;exact OrgRow.rd hrow o2 hw2 0 rfl
 have hdo:=hpdq E _ hE hB hA;have e14:∀args w,(callFunc (ρ.f 14) args).run P w= .ok (.enter (ρ.f 14) args) w:=enters_of L.f14 (by kernel_rfl) rfl;rcases hdo with ⟨v,w',h1,_⟩|⟨_,h1⟩
 ·rw [e14] at h1;cases h1
 refine h1.mono fun en w' hen=> ?_;cases en with
 |returned v=>
  obtain⟨E',rfl,hx⟩:=hen;have hv:v= .tuple #[]:=by
   obtain⟨vs,rfl,hvs⟩:=(hx.res.vr rfl:VR E' zAI (.h 0) (.tup []) v);cases vs with
   |mk l=>cases l with
    |nil=>rfl
    |cons x l=>exact hvs.elim
  subst hv;obtain⟨⟨b1,vals,ty',b2,b3⟩,_⟩:=(hx.outs:zBr E' (gi 4) bo [.sl (.lnt 0) .org ys]/\True);have hhdr:E'.hdr 0= .slice (some ⟨br,0,none⟩) xs.length cap:=by rw [hx.hdr]
  cases vals with
  |mk l=>
   match l,b3 with
   | [hv],b3=>
     have b4:RdP E'.w (okF E' (.k (2*gi 4+1)) 0 (.lnt 0)) (qF E' (.k (2*gi 4+1)) 0 (.lnt 0)) hv (.sl 2 (ys.map Ty.org.toD)):=b3.1;have b5:hv=E'.hdr 0:=(RdP.top b4).2 rfl;rw [hhdr] at b5;subst b5;refine⟨rfl,hx.os.trans hWos.1,hx.tape.trans hWos.2.1,hx.output.trans hWos.2.2,by have:=hx.size;show _<=E'.w.heap.size;have h3:W.heap.size<=E'.w.heap.size:=this;omega,fun b hb hb1 hb2=> ?_,⟨ty',b2⟩,?_⟩
     ·exact((hx.old b (by show b<W.heap.size;omega) (o3 b hb1 hb2)).1).trans (hWo b hb)
     ·have:ys≠ []:=by intro e;rw [e] at hl;simp at hl;omega
      rw [<-hl] at b4;exact OrgRow.of this b4
   | [],b3=>exact b3.elim
   |_::_::_,b3=>exact b3.2.elim
 |_=>exact hen.elim
end Go.Ab
end
section
namespace Go.Ab
open Go.Proofs Go.RowKit
structure OrgT (P:Program) (te ti tm tb ts:TypeId):Prop where
 key:P.underlying te=some (.struct #[{ name:= "Cell",type:=ti,offset:=0,embedded:=false,tag:= "",pkgPath:= "",byteOffset:=0 },{ name:= "Row",type:=ti,offset:=1,embedded:=false,tag:= "",pkgPath:= "",byteOffset:=8 }])
 held:P.stoodInHeld te=false
 int:P.underlying ti=some (.int .i64)
 map:P.underlying tm=some (.map te tb)
 zero:∀w,(zeroValue tb).run P w= .ok (.bool false) w
 slice:P.underlying ts=some (.slice te)
def orgV(o:Org):Value:= .agg #[.int .i64 o.cell,.int .i64 o.row]
section
variable {P:Program} {te ti tm tb ts:TypeId} (T:OrgT P te ti tm tb ts) {w:World}
include T
theorem xTg:P.plainKey ti=true:=by simp [Program.plainKey,T.int]
theorem vE9(o:Org):(part ti #[.int .i64 o.cell,.int .i64 o.row] 0).run P w= .ok (.int .i64 o.cell) w:=run_part_plain w (xTg T) rfl
theorem vFa(o:Org):(part ti #[.int .i64 o.cell,.int .i64 o.row] 1).run P w= .ok (.int .i64 o.row) w:=run_part_plain w (xTg T) rfl
theorem xM8(em:Bool)(n:Nat)(k:IntKind)(x:Int):(Instr.checkKey em (n+1) ti (.int k x)).run P w= .ok () w:=by
 unfold Instr.checkKey;simp [run_underlying T.int]
theorem xKt(em:Bool)(n:Nat)(o:Org):(Instr.checkKey em (n+2) te (orgV o)).run P w= .ok () w:=by
 unfold Instr.checkKey orgV;simp [run_underlying T.key,vE9 T,vFa T,xM8 T,Result.andThen]
theorem xL4(a b:Org):(Op.equal te (orgV a) (orgV b)).run P w= .ok (a==b) w:=by
 have hf:P.fieldsOf te= #[{ name:= "Cell",type:=ti,offset:=0,embedded:=false,tag:= "",pkgPath:= "",byteOffset:=0 },{ name:= "Row",type:=ti,offset:=1,embedded:=false,tag:= "",pkgPath:= "",byteOffset:=8 }]:=by unfold Program.fieldsOf;rw [T.key]
 show(Op.equalIn 10000 te (.agg _) (.agg _)).run P w=_;rw [run_equalIn_agg w 9999 te _ _ (by rw [hf];exact T.key) T.held,hf];have e1:=run_equalIn_int (P:=P) w 9998 ti .i64 .i64 a.cell b.cell T.int;have e2:=run_equalIn_int (P:=P) w 9998 ti .i64 .i64 a.row b.row T.int;have h:(a==b)=((a.cell==b.cell)&&(a.row==b.row)):=by
  cases a;cases b;rw [Bool.eq_iff_iff];simp
 rw [h];simp [Op.eqFields,vE9 T,vFa T,e1,e2,Result.andThen];by_cases h1:a.cell=b.cell <;>by_cases h2:a.row=b.row <;>simp [h1,h2]
end
def SetMap(w:World)(b:Nat)(ks:List Org):Prop:=
 ∃es clock,w.heap[b]? =some (.map es clock)/\es.toList.map (·.key)=ks.map orgV/\∀e∈es.toList,e.val= .bool true
theorem SetMap.kept{w w' :World}{b:Nat}{ks:List Org}(h:SetMap w b ks)(e:w'.heap[b]? =w.heap[b]?):SetMap w' b ks:=by
 obtain⟨es,c,h1,h2⟩:=h;exact⟨es,c,e.trans h1,h2⟩
section
variable {P:Program} {te ti tm tb ts:TypeId} (T:OrgT P te ti tm tb ts) {w:World}
include T
theorem xOa(o:Org):∀(es:List MapEntry) (ks:List Org) (i:Nat),es.map (·.key)=ks.map orgV->(∀e∈es,e.val= .bool true)->
 ∃r,(Instr.findAsking te (orgV o) es i).run P w= .ok r w/\(ks.contains o=true->∃j,r=some (j,.bool true))/\(ks.contains o=false->r=none):=by
 intro es
 induction es with
 |nil=>
  intro ks i h _;have:ks=[]:=by simpa using h.symm
  subst this;exact⟨none,by simp [Instr.findAsking],by simp,fun _=>rfl⟩
 |cons e es ih=>
  intro ks i h hv;cases ks with
  |nil=>simp at h
  |cons k ks=>
   simp only [List.map_cons,List.cons.injEq] at h;obtain⟨h1,h2⟩:=h;obtain⟨r,hr,p1,p2⟩:=ih ks (i+1) h2 (fun x hx=>hv x (List.mem_cons_of_mem _ hx));by_cases hk:o=k
   ·subst hk;refine⟨some (i,.bool true),?_,fun _=>⟨i,rfl⟩,by simp⟩;unfold Instr.findAsking;simp [h1,xL4 T,Result.andThen,hv e List.mem_cons_self]
   ·have hb:(o==k)=false:=by simpa using hk
    refine⟨r,?_,fun hc=>p1 ?_,fun hc=>p2 ?_⟩
    ·unfold Instr.findAsking;simp [h1,xL4 T,Result.andThen,hb,hr]
    ·rw [List.contains_cons,hb,Bool.false_or] at hc;exact hc
    ·rw [List.contains_cons,hb,Bool.false_or] at hc;exact hc
theorem xNu(o:Org)(es:List MapEntry)(ks:List Org)(h:es.map (·.key)=ks.map orgV)(hv:∀e∈es,e.val= .bool true):
 ∃r,(Instr.findKey te (orgV o) es).run P w= .ok r w/\(ks.contains o=true->∃j,r=some (j,.bool true))/\(ks.contains o=false->r=none):=by
 cases es with
 |nil=>
  have:ks=[]:=by simpa using h.symm
  subst this;exact⟨none,by simp [Instr.findKey,run_underlying T.key,Instr.findNow,Result.andThen],by simp,fun _=>rfl⟩
 |cons e es=>
  cases ks with
  |nil=>simp at h
  |cons k ks=>
   obtain⟨r,hr,p⟩:=xOa T (w:=w) o (e::es) (k::ks) 0 h hv;refine⟨r,?_,p⟩;have:Instr.findNow (.struct #[{ name:= "Cell",type:=ti,offset:=0,embedded:=false,tag:= "",pkgPath:= "",byteOffset:=0 },{ name:= "Row",type:=ti,offset:=1,embedded:=false,tag:= "",pkgPath:= "",byteOffset:=8 }]) (orgV o) (e::es) 0=none:=by
    simp [Instr.findNow,Instr.sameNow]
   simp [Instr.findKey,run_underlying T.key,this,Result.andThen,hr]
theorem xOA{b:Nat}{ks:List Org}(h:SetMap w b ks)(o:Org):(Instr.lookup tm (.map (some b)) (orgV o) false).run P w= .ok (.bool (ks.contains o)) w:=by
 obtain⟨es,c,h1,h2,h3⟩:=h;obtain⟨r,hr,p1,p2⟩:=xNu T (w:=w) o es.toList ks h2 h3;unfold Instr.lookup;have hg:(getObj b).run P w= .ok (.map es c) w:=by simp [getObj,Sem.run,h1]
 have hck:(Instr.checkKey es.isEmpty 10000 te (orgV o)).run P w= .ok () w:=xKt T es.isEmpty 9998 o;cases hc:ks.contains o with
 |true=>
  obtain⟨j,rfl⟩:=p1 hc;simp [run_underlying T.map,hg,hck,hr,Result.andThen]
 |false=>
  obtain rfl:=p2 hc;simp [run_underlying T.map,hg,hck,hr,T.zero,Result.andThen]
theorem xOB{b:Nat}{ks:List Org}(h:SetMap w b ks)(o:Org)(hc:ks.contains o=false):
 ∃w',(Instr.mapUpdate tm (.map (some b)) (orgV o) (.bool true)).run P w= .ok () w' /\SetMap w' b (ks++ [o])/\w.grownBy w' (some b)/\w'.heap.size=w.heap.size:=by
 obtain⟨es,c,h1,h2,h3⟩:=h;obtain⟨r,hr,p1,p2⟩:=xNu T (w:=w) o es.toList ks h2 h3;obtain rfl:=p2 hc;have hb:b<w.heap.size:=(Array.getElem?_eq_some_iff.1 h1).1;have hg:(getObj b).run P w= .ok (.map es c) w:=by simp [getObj,Sem.run,h1]
 have hck:(Instr.checkKey false 10000 te (orgV o)).run P w= .ok () w:=xKt T false 9998 o;have hs:∀ob,(setObj b ob).run P w= .ok () { w with heap:=w.heap.setIfInBounds b ob }:=by
  intro ob;simp [setObj,Sem.run,h1]
 refine⟨{ w with heap:=w.heap.setIfInBounds b (.map (es.push { key:=orgV o,val:= .bool true,born:=c }) (c+1)) },?_,?_,⟨rfl,rfl,rfl,by simp,fun k hk hne=> ?_⟩,by simp⟩
 ·unfold Instr.mapUpdate;simp [run_underlying T.map,hg,hck,hr,hs,Result.andThen]
 ·refine⟨_,_,by simp [hb];exact⟨rfl,rfl⟩,?_,?_⟩
  ·simp [h2]
  ·intro e he;simp at he;rcases he with he|rfl
   ·exact h3 e (by simpa using he)
   ·rfl
 ·have:b≠k:=fun e=>hne (by rw [e]);simp [Array.getElem?_setIfInBounds,this]
end
section
variable {P:Program} {te ti tm tb ts:TypeId} (w:World) {ops:Array Oper} {rest:List Oper} {o:Oper} {a:Act} {Q:Exit->Act->World->Prop}
theorem xJ1(T:OrgT P te ti tm tb ts)(hg:o.guard=none)(m x:Operand)(hop:o.op=Op.lookup tm m x false)(b:Nat)(ks:List Org)(hm:a.eval m= .map (some b))(hs:SetMap w b ks)(c:Org)(hx:a.eval x=orgV c)(bv:Bool)(hbv:ks.contains c=bv)
 (hK:wpList P ops Q rest (a.put o.dst (.bool bv)) w):wpList P ops Q (o::rest) a w:=by
 refine wpList_plain hg fun K' hK' => ?_;have hrun:=xOA T hs c;rw [hbv] at hrun;unfold Oper.wp;simp [execOp,hop,hm,hx,hrun,Result.andThen];exact hK' _ _ hK
theorem xMJ(T:OrgT P te ti tm tb ts)(hg:o.guard=none)(m x v:Operand)(hop:o.op=Op.mapUpdate tm m x v)(b:Nat)(ks:List Org)(hm:a.eval m= .map (some b))(hs:SetMap w b ks)(c:Org)(hx:a.eval x=orgV c)(hv:a.eval v= .bool true)
 (hc:ks.contains c=false) (hK:∀w',SetMap w' b (ks++ [c])->w.grownBy w' (some b)->w'.heap.size=w.heap.size->wpList P ops Q rest (a.put o.dst undef) w'):wpList P ops Q (o::rest) a w:=by
 refine wpList_plain hg fun K' hK' => ?_;obtain⟨w',hrun,r1,r2,r3⟩:=xOB T hs c hc;unfold Oper.wp;simp [execOp,hop,hm,hx,hv,hrun,Result.andThen];exact hK' _ _ (hK w' r1 r2 r3)
end
def orgs(os:List Org):List Value:=os.flatMap zAu
theorem xKS:∀os:List Org,(orgs os).length=os.length*2
 | []=>rfl
 |o::os=>by
  show(zAu o++orgs os).length=_;rw [jA,xKS os];simp [zAu];omega
theorem xV8(a b:List Org):orgs (a++b)=orgs a++orgs b:=List.flatMap_append
theorem xLy:∀(os:List Org) (m:Nat) (hm:m<os.length) (k:Nat) (hk:k<2),(orgs os)[m*2+k]? =some ((zAu os[m])[k]'hk)
 | [],m,hm,_,_=>absurd hm (by simp)
 |o::os,0,hm,k,hk=>by
  show(zAu o++orgs os)[0*2+k]? =_;rw [Nat.zero_mul,Nat.zero_add,List.getElem?_append_left hk];exact List.getElem?_eq_getElem hk
 |o::os,m+1,hm,k,hk=>by
  show(zAu o++orgs os)[(m+1)*2+k]? =_;rw [List.getElem?_append_right (by show 2<=_;omega)];have e:(m+1)*2+k - (zAu o).length=m*2+k:=by show(m+1)*2+k - 2=_;omega
  rw [e];exact xLy os m (by simpa using hm) k hk
theorem xV9(os:List Org):∀u∈orgs os,u.oneCell' =true:=by
 intro u hu;obtain⟨o,_,hu⟩:=List.mem_flatMap.1 hu;simp only [zAu,List.mem_cons,List.not_mem_nil,or_false] at hu;rcases hu with rfl|rfl <;>rfl
def RowIn(w:World)(v:Value)(os:List Org):Prop:=
 ∃p c,v= .slice p os.length c/\(os=[]\/∃a:Addr,p=some a/\a.block<w.heap.size/\∀j u,(orgs os)[j]? =some u->w.cell? (a.add j)=some u)
theorem xNR{P:Program}(w:World)(t ty e:TypeId)(i:TypeInfo)(ht:P.underlying t=some (.slice e))(hi:P.info? e=some i)(b:Option Addr)(n cap c:Nat)(h:n<=cap):
 (Builtin.append_ #[t,t] ty #[.slice b n cap,.slice none 0 c]).run P w= .ok (.slice b n cap) w:=by
 cases b with
 |none=>simp [Builtin.append_,run_underlying ht,sizeOf,typeInfo,hi,Builtin.lenOf,Builtin.firstCells,h,Result.andThen]
 |some ad=>simp [Builtin.append_,run_underlying ht,sizeOf,typeInfo,hi,Builtin.lenOf,Builtin.firstCells,storeCells,h,Result.andThen]
def OwnRow(w:World)(te g cap:Nat)(xs:List Org):Prop:=
 ∃cur,w.heap[g]? =some (.cells cur te (0,0))/\xs.length<=cap/\cap<=maxLen/\cur.size=cap*2/\cur.toList.take (xs.length*2)=orgs xs
theorem OwnRow.kept{w w' :World}{te g cap:Nat}{xs:List Org}(h:OwnRow w te g cap xs)(e:w'.heap[g]? =w.heap[g]?):OwnRow w' te g cap xs:=by
 obtain⟨cur,h1,h2⟩:=h;exact⟨cur,e.trans h1,h2⟩
theorem OwnRow.lt{w:World}{te g cap:Nat}{xs:List Org}(h:OwnRow w te g cap xs):g<w.heap.size:=by
 obtain⟨cur,h1,h2⟩:=h;exact(Array.getElem?_eq_some_iff.1 h1).1
theorem OwnRow.cell{w:World}{te g cap:Nat}{xs:List Org}(h:OwnRow w te g cap xs){j:Nat}{u:Value}(hj:(orgs xs)[j]? =some u):w.cell? ⟨g,j,none⟩=some u:=by
 obtain⟨cur,h1,h2,h3,h4,h5⟩:=h;simp only [World.cell?,h1];rw [<-h5,List.getElem?_take] at hj;split at hj
 ·simpa using hj
 ·cases hj
theorem OwnRow.org{w:World}{te g cap:Nat}{xs:List Org}(h:OwnRow w te g cap xs):OrgRow w g cap xs:=by
 have hc:=fun j u=>h.cell (j:=j) (u:=u);obtain⟨cur,h1,h2,h3,h4,h5⟩:=h;refine⟨h2,cur,te,0,0,h1,h4.symm,fun o a b=>by omega,fun m hm k hk=> ?_⟩;have:=hc _ _ (xLy xs m hm k hk);simpa [World.cell?,h1] using this
theorem xQz{P:Program}{te ti tm tb ts:TypeId}(T:OrgT P te ti tm tb ts)(w:World)(ty:Nat)(i:TypeInfo)(hi:P.info? te=some i){z:Value}(hz:i.zero=some z)(hsize:i.size=2)(hby:i.bytes=16)(hzs:z.cells.size=2)
 {g cap:Nat} {xs:List Org} (hown:OwnRow w te g cap xs) {u:Value} {ys:List Org} (hin:RowIn w u ys) (hlen:xs.length+ys.length<=1000000000000):
 ∃g' cap' w',(Builtin.append_ #[ts,ts] ty #[.slice (some ⟨g,0,none⟩) xs.length cap,u]).run P w= .ok (.slice (some ⟨g',0,none⟩) (xs++ys).length cap') w' /\OwnRow w' te g' cap' (xs++ys)/\w.grownBy w' (some g)/\(g' =g\/g' =w.heap.size):=by
 obtain⟨p,c,rfl,hp⟩:=hin
 have hown0:w.ownsRow 0 te 2 (.slice (some ⟨g,0,none⟩) xs.length cap) xs.length (orgs xs):=by
  obtain⟨cur,h1,h2,h3,h4,h5⟩:=hown;exact⟨xKS xs,.inr ⟨g,cap,cur,rfl,Nat.zero_le _,h1,h2,h3,h4,h5⟩⟩
 have main:∀ad:Addr,(∀j u,(orgs ys)[j]? =some u->w.cell? (ad.add j)=some u)->∃g' cap' w',(Builtin.append_ #[ts,ts] ty #[.slice (some ⟨g,0,none⟩) xs.length cap,.slice (some ad) ys.length c]).run P w= .ok (.slice (some ⟨g',0,none⟩) (xs++ys).length cap') w' /\
  OwnRow w' te g' cap' (xs++ys)/\w.grownBy w' (some g)/\(g' =g\/g' =w.heap.size):=by
  intro ad had;obtain⟨v',w',hr,h2,h3,h4,h5⟩:=run_append_own_at (P:=P) w 0 ts ty te i z 2 16 T.slice hi hz hsize hby hzs (by decide) _ xs.length (orgs xs) hown0 ad ys.length c (orgs ys) (xKS ys) had (xV9 ys) (by unfold maxLen;omega) (by omega) (Nat.zero_le _);rcases h2.2 with ⟨rfl,_⟩|⟨g',cap',cur,rfl,_,q1,q2,q3,q4,q5⟩
  ·have:=h4.1 rfl;exact absurd this.1 (by simp)
  ·refine⟨g',cap',w',by rw [hr,List.length_append],⟨cur,q1,by rw [jA];exact q2,q3,q4,by rw [jA,xV8];exact q5⟩,h3,?_⟩;simpa [Value.ownBlock] using h5
 rcases hp with hnil|⟨ad,rfl,_,had⟩
 ·subst hnil;cases p with
  |some ad=>exact main ad (fun j u h=>by simp [orgs] at h)
  |none=>
   have hn:xs.length<=cap:=by obtain⟨cur,h1,h2,_⟩:=hown;exact h2
   refine⟨g,cap,w,?_,by rw [List.append_nil];exact hown,⟨rfl,rfl,rfl,Nat.le_refl _,fun _ _ _=>rfl⟩,.inl rfl⟩;rw [List.append_nil];exact xNR w ts ty te i T.slice hi (some ⟨g,0,none⟩) xs.length cap c hn
 ·exact main ad had
theorem xIt{P:Program}{te ti tm tb ts:TypeId}(w:World){ops:Array Oper}{rest:List Oper}{o:Oper}{a:Act}{Q:Exit->Act->World->Prop}(T:OrgT P te ti tm tb ts)(hg:o.guard=none)(s x:Operand)
 (hop:o.op= .call { callee:= .builtin .append,args:= #[s,x],argTypes:= #[ts,ts] }) (i:TypeInfo) (hi:P.info? te=some i) {z:Value} (hz:i.zero=some z) (hsize:i.size=2) (hby:i.bytes=16) (hzs:z.cells.size=2)
 (g cap:Nat) (xs:List Org) (hs:a.eval s= .slice (some ⟨g,0,none⟩) xs.length cap) (hown:OwnRow w te g cap xs) (u:Value) (hx:a.eval x=u) (ys:List Org) (hin:RowIn w u ys) (hlen:xs.length+ys.length<=1000000000000)
 (hK:∀g' cap' w',OwnRow w' te g' cap' (xs++ys)->w.grownBy w' (some g)->(g' =g\/g' =w.heap.size)->wpList P ops Q rest (a.put o.dst (.slice (some ⟨g',0,none⟩) (xs++ys).length cap')) w'):
 wpList P ops Q (o::rest) a w:=by
 refine wpList_plain hg fun K' hK' => ?_;obtain⟨g',cap',w',hr,h2,h3,h4⟩:=xQz (P:=P) T w o.type i hi hz hsize hby hzs hown hin hlen;unfold Oper.wp execOp;simp only [hop,resolve,invoke,builtin,Sem.run_bind,Sem.run_pure,Result.andThen_ok,List.map_toArray,List.map_cons,List.map_nil,hs,hx,hr];exact hK' _ _ (hK g' cap' w' h2 h3 h4)
theorem RowIn.kept{w w' :World}{v:Value}{os:List Org}(h:RowIn w v os)(hs:w.heap.size<=w'.heap.size)(ho:∀b,b<w.heap.size->w'.heap[b]? =w.heap[b]?):RowIn w' v os:=by
 obtain⟨p,c,rfl,h⟩:=h;refine⟨p,c,rfl,h.imp id ?_⟩;rintro ⟨a,rfl,ha,hc⟩;refine⟨a,rfl,by omega,fun j u hj=> ?_⟩;rw [<-hc j u hj];have e:(a.add j).block=a.block:=by unfold Addr.add;split <;>rfl
 simp only [World.cell?,e,ho _ ha]
theorem xGv{w:World}{o:Obj}{b:Nat}(hb:b<w.heap.size):(w.alloc o).heap[b]? =w.heap[b]? :=Below.heap_alloc w o b hb
theorem xFd(w:World)(o:Obj):(w.alloc o).heap.size=w.heap.size+1:=Array.size_push _
theorem RowIn.below{w w' :World}{v:Value}{os:List Org}(h:RowIn w v os)(hb:Below w.heap.size w w'):RowIn w' v os:=h.kept hb.size hb.block
theorem set4(w:World)(o1 o2 o3:Obj)(te:TypeId):OwnRow ((((w.alloc o1).alloc o2).alloc o3).alloc (.cells #[] te)) te (w.heap.size+1+1+1) 0 []:=by
 refine⟨#[],?_,Nat.le_refl _,by decide,rfl,rfl⟩;have e:w.heap.size+1+1+1=(((w.alloc o1).alloc o2).alloc o3).heap.size:=by rw [xFd,xFd,xFd]
 rw [e];show(Array.push _ _)[_]? =_;rw [Array.getElem?_push,if_pos rfl]
theorem xUf(w:World)(o1 o2 o3 o4:Obj):Below w.heap.size w ((((w.alloc o1).alloc o2).alloc o3).alloc o4):=
 ((((Below.refl w.heap.size w).alloc (Nat.le_refl _) o1).alloc (by rw [xFd];omega) o2).alloc (by rw [xFd,xFd];omega) o3).alloc (by rw [xFd,xFd,xFd];omega) o4
theorem xSW(os:List Org)(k:Nat)(hk:k<os.length):ded (os.take (k+1))=zIz (ded (os.take k)) os[k]:=by
 unfold ded;rw [List.take_succ_eq_append_getElem hk,List.foldl_append]
 rfl
theorem xUj(os:List Org):(ded os).length<=os.length:=by
 unfold ded;have:∀(os acc:List Org),(os.foldl zIz acc).length<=acc.length+os.length:=by
  intro os
  induction os with
  |nil=>intro acc;simp
  |cons o os ih=>
   intro acc;rw [List.foldl_cons];refine Nat.le_trans (ih _) ?_;unfold zIz;split <;>simp <;>omega
 simpa using this os []
structure URel (w:World) (te ts B S ga ca:Nat) (all:List Org) (k g cap:Nat) (wr:World):Prop where
 set:SetMap wr B (ded (all.take k))
 box:wr.heap[B+1+1]? =some (.cells #[.slice (some ⟨g,0,none⟩) (ded (all.take k)).length cap] ts (0,0))
 row:OwnRow wr te g cap (ded (all.take k))
 all:OwnRow wr te ga ca all
 below:Below B w wr
 size:S<=wr.heap.size
 hg:g=B+1\/S<=g
 hga:B+3<=ga/\ga<S
theorem URel.cell{w wr:World}{te ts B S ga ca k g cap:Nat}{all:List Org}(h:URel w te ts B S ga ca all k g cap wr):wr.cell? ⟨B+1+1,0,none⟩=some (.slice (some ⟨g,0,none⟩) (ded (all.take k)).length cap):=by
 simp [World.cell?,h.box]
theorem URel.old{w wr:World}{te ts B S ga ca k g cap:Nat}{all:List Org}(h:URel w te ts B S ga ca all k g cap wr)(hk:k<all.length)(hc:(ded (all.take k)).contains all[k]=true)(o:Obj):URel w te ts B S ga ca all (k+1) g cap (wr.alloc o):=by
 have hsz:=h.size;have hal:∀b,b<wr.heap.size->(wr.alloc o).heap[b]? =wr.heap[b]? :=fun b hb=>xGv (by omega);have e:ded (all.take (k+1))=ded (all.take k):=by rw [xSW _ _ hk];unfold zIz;rw [if_pos hc]
 have h1:=h.hga;refine⟨by rw [e];exact h.set.kept (hal _ (by omega)),by rw [e,hal _ (by omega)];exact h.box,by rw [e];exact h.row.kept (hal _ h.row.lt),h.all.kept (hal _ h.all.lt),h.below.alloc (by omega) _,by rw [xFd];omega,h.hg,h1⟩
theorem xSQ{w:World}{b:Nat}{v0 v:Value}{ty:TypeId}(h:w.heap[b]? =some (.cells #[v0] ty (0,0))):(w.setCell ⟨b,0,none⟩ v).heap[b]? =some (.cells #[v] ty (0,0))/\∀k,k≠b->(w.setCell ⟨b,0,none⟩ v).heap[k]? =w.heap[k]? :=by
 refine⟨?_,fun k hk=>Below.heap_setCell w _ v k hk⟩;have hb:b<w.heap.size:=(Array.getElem?_eq_some_iff.1 h).1;simp [World.setCell,Array.getElem?_modify,h]
theorem URel.new{w wr w2 w4:World}{te ts B S ga ca k g cap g' cap' :Nat}{all:List Org}(h:URel w te ts B S ga ca all k g cap wr)(hk:k<all.length)(hc:(ded (all.take k)).contains all[k]=false){o1 o3:Obj}
 (s2:SetMap w2 B (ded (all.take k)++ [all[k]])) (g2:(wr.alloc o1).grownBy w2 (some B)) (z2:w2.heap.size=(wr.alloc o1).heap.size)
 (r4:OwnRow w4 te g' cap' (ded (all.take k)++ [all[k]])) (g4:(w2.alloc o3).grownBy w4 (some g)) (hg' :g' =g\/g' =(w2.alloc o3).heap.size):
 URel w te ts B S ga ca all (k+1) g' cap' (w4.setCell ⟨B+1+1,0,none⟩ (.slice (some ⟨g',0,none⟩) (ded (all.take k)++ [all[k]]).length cap')):=by
 have hsz:=h.size;have e:ded (all.take (k+1))=ded (all.take k)++ [all[k]]:=by rw [xSW _ _ hk];unfold zIz;rw [if_neg (by rw [hc];simp)]
 have h1:=h.hga;have h2:=h.hg;have hgl:=h.row.lt;have zs1:(wr.alloc o1).heap.size=wr.heap.size+1:=xFd _ _;have zs3:(w2.alloc o3).heap.size=w2.heap.size+1:=xFd _ _;have z4:=g4.size;have q1:∀b,b<wr.heap.size->b≠B->w2.heap[b]? =wr.heap[b]? :=fun b hb hne=>(g2.block b (by omega) (by simp;omega)).trans (xGv (by omega));have q4:∀b,b<wr.heap.size->b≠B->b≠g->w4.heap[b]? =wr.heap[b]? :=fun b hb hne hne2=>((g4.block b (by omega) (by simp;omega)).trans (xGv (by omega))).trans (q1 b hb hne);have hbx:w4.heap[B+1+1]? =some (.cells #[.slice (some ⟨g,0,none⟩) (ded (all.take k)).length cap] ts (0,0)):=(q4 _ (by omega) (by omega) (by omega)).trans h.box;obtain⟨b1,b2⟩:=xSQ (v:= .slice (some ⟨g',0,none⟩) (ded (all.take k)++ [all[k]]).length cap') hbx;refine⟨?_,?_,?_,?_,?_,?_,?_,h1⟩
 ·rw [e];exact s2.kept ((b2 _ (by omega)).trans ((g4.block B (by omega) (by simp;omega)).trans (xGv (by omega))))
 ·rw [e];exact b1
 ·rw [e];exact r4.kept (b2 _ (by omega))
 ·exact h.all.kept ((b2 _ (by omega)).trans (q4 _ h.all.lt (by omega) (by omega)))
 ·refine Below.setCell ?_ (by show B<=B+1+1;omega) _;refine Below.grown ?_ g4 (by omega) (fun k hk=>by cases hk;omega);refine Below.alloc ?_ (by omega) _;refine Below.grown ?_ g2 (by omega) (fun k hk=>by cases hk;omega);exact h.below.alloc (by omega) _
 ·have:(w4.setCell ⟨B+1+1,0,none⟩ (.slice (some ⟨g',0,none⟩) (ded (all.take k)++ [all[k]]).length cap')).heap.size=w4.heap.size:=by simp [World.setCell]
  omega
 ·omega
theorem URel.start{w w1 w2:World}{te ts g1 g2 c2:Nat}{xs ys:List Org}(r2:OwnRow w2 te g2 c2 ([]++xs++ys))
 (gr1:((((w.alloc (.map #[] 0)).alloc (.cells #[] te)).alloc (.cells #[.slice (some { block:=w.heap.size+1,off:=0 }) 0 0] ts)).alloc (.cells #[] te)).grownBy w1 (some (w.heap.size+1+1+1)))
 (e1:g1=w.heap.size+1+1+1\/g1=((((w.alloc (.map #[] 0)).alloc (.cells #[] te)).alloc (.cells #[.slice (some { block:=w.heap.size+1,off:=0 }) 0 0] ts)).alloc (.cells #[] te)).heap.size)
 (gr2:w1.grownBy w2 (some g1)) (e2:g2=g1\/g2=w1.heap.size):URel w te ts w.heap.size w2.heap.size g2 c2 (xs++ys) 0 (w.heap.size+1) 0 w2:=by
 generalize hA:((w.alloc (.map #[] 0)).alloc (.cells #[] te)).alloc (.cells #[.slice (some { block:=w.heap.size+1,off:=0 }) 0 0] ts)=A at gr1 e1;have za:A.heap.size=w.heap.size+3:=by rw [<-hA,xFd,xFd,xFd]
 have z4:(A.alloc (.cells #[] te)).heap.size=w.heap.size+4:=by rw [xFd,za]
 have s1:=gr1.size;have s2:=gr2.size;have a0:A.heap[w.heap.size]? =some (.map #[] 0):=by
  rw [<-hA,xGv (by rw [xFd,xFd];omega),xGv (by rw [xFd];omega)];show(Array.push _ _)[_]? =_;rw [Array.getElem?_push,if_pos rfl]
 have a1:A.heap[w.heap.size+1]? =some (.cells #[] te):=by
  rw [<-hA,xGv (by rw [xFd,xFd];omega)];show(Array.push _ _)[_]? =_;rw [Array.getElem?_push,if_pos (xFd _ _).symm]
 have a2:A.heap[w.heap.size+1+1]? =some (.cells #[.slice (some { block:=w.heap.size+1,off:=0 }) 0 0] ts):=by
  rw [<-hA];show(Array.push _ _)[_]? =_;rw [Array.getElem?_push,if_pos (by rw [xFd,xFd])]
 have keep:∀b,b<w.heap.size+3->w2.heap[b]? =A.heap[b]? :=fun b hb=>
  (gr2.block b (by omega) (by simp;omega)).trans ((gr1.block b (by omega) (by simp;omega)).trans (xGv (by omega)))
 have hd:ded ((xs++ys).take 0)=[]:=by simp [ded]
 refine⟨?_,?_,?_,by simpa using r2,?_,Nat.le_refl _,.inl rfl,by omega,?_⟩
 ·rw [hd];exact⟨#[],0,(keep _ (by omega)).trans a0,rfl,by simp⟩
 ·rw [hd];exact(keep _ (by omega)).trans a2
 ·rw [hd];exact⟨#[],(keep _ (by omega)).trans a1,Nat.le_refl _,by decide,rfl,rfl⟩
 ·refine Below.grown (Below.grown ?_ gr1 (by omega) (fun k hk=>by cases hk;omega)) gr2 (by omega) (fun k hk=>by cases hk;omega);rw [<-hA];exact xUf w _ _ _ _
 ·exact r2.lt
theorem URel.mid{w wr w3:World}{te ts B S ga ca k g cap:Nat}{all:List Org}(h:URel w te ts B S ga ca all k g cap wr){a b:Value}(g3:(wr.alloc (.cells #[a,b] te)).grownBy w3 (some B))(z3:w3.heap.size=(wr.alloc (.cells #[a,b] te)).heap.size):
 w3.cell? ⟨B+1+1,0,none⟩=some (.slice (some ⟨g,0,none⟩) (ded (all.take k)).length cap)/\w3.cell? ⟨wr.heap.size,0,none⟩=some a/\w3.cell? ⟨wr.heap.size,1,none⟩=some b/\∀o,OwnRow (w3.alloc o) te g cap (ded (all.take k)):=by
 have hsz:=h.size;have h1:=h.hga;have h2:=h.hg;have hgl:=h.row.lt;have zs1:=xFd wr (.cells #[a,b] te);have q1:∀b,b<wr.heap.size->b≠B->w3.heap[b]? =wr.heap[b]? :=fun b hb hne=>(g3.block b (by omega) (by simp;omega)).trans (xGv (by omega));have qn:w3.heap[wr.heap.size]? =some (.cells #[a,b] te):=by
  rw [g3.block _ (by omega) (by simp;omega)];show(Array.push _ _)[_]? =_;rw [Array.getElem?_push,if_pos rfl]
 refine⟨?_,by simp [World.cell?,qn],by simp [World.cell?,qn],fun o=> ?_⟩
 ·simp only [World.cell?,q1 (B+1+1) (by omega) (by omega),h.box]
  rfl
 ·exact h.row.kept ((xGv (by omega)).trans (q1 g hgl (by omega)))
theorem xVE(w:World)(te:Nat)(c:Org):RowIn (w.alloc (.cells #[.int .i64 c.cell,.int .i64 c.row] te)) (.slice (some ⟨w.heap.size,0,none⟩) 1 1) [c]:=by
 refine⟨_,1,rfl,.inr ⟨_,rfl,by rw [xFd];exact Nat.lt_succ_self _,fun j u hj=> ?_⟩⟩;have hq:∀i,(w.alloc (.cells #[.int .i64 c.cell,.int .i64 c.row] te)).cell? ⟨w.heap.size,i,none⟩=(#[.int .i64 c.cell,.int .i64 c.row]:Array Value)[i]? :=fun i=>by
  have hq:(w.alloc (.cells #[.int .i64 c.cell,.int .i64 c.row] te)).heap[w.heap.size]? =some (.cells #[.int .i64 c.cell,.int .i64 c.row] te):=by
   show(Array.push _ _)[_]? =_;rw [Array.getElem?_push,if_pos rfl]
  simp only [World.cell?,hq]
  rfl
 match j,hj with
 |0,hj=>
  simp [orgs,zAu] at hj;subst hj;simp only [Addr.add];exact hq _
 |1,hj=>
  simp [orgs,zAu] at hj;subst hj;simp only [Addr.add];exact hq _
 |j+2,hj=>simp [orgs,zAu] at hj
theorem URel.mid4{w wr w3 w4:World}{te ts B S ga ca k g cap:Nat}{all:List Org}(h:URel w te ts B S ga ca all k g cap wr){o1 o3:Obj}(g3:(wr.alloc o1).grownBy w3 (some B))(z3:w3.heap.size=(wr.alloc o1).heap.size)
 (g4:(w3.alloc o3).grownBy w4 (some g)):
 w4.cell? ⟨B+1+1,0,none⟩=some (.slice (some ⟨g,0,none⟩) (ded (all.take k)).length cap)/\w4.frozen? ⟨B+1+1,0,none⟩=false:=by
 have hsz:=h.size;have h1:=h.hga;have h2:=h.hg;have hgl:=h.row.lt;have zs1:=xFd wr o1;have zs3:=xFd w3 o3
 have q:w4.heap[B+1+1]? =wr.heap[B+1+1]? :=
  (g4.block _ (by omega) (by simp;omega)).trans ((xGv (by omega)).trans ((g3.block _ (by omega) (by simp;omega)).trans (xGv (by omega))))
 constructor
 ·simp only [World.cell?,q,h.box]
  rfl
 ·simp [World.frozen?,q,h.box]
end Go.Ab
end
section
namespace Go.Ab
open Go.Lib Go.Extern Go.Proofs Go.Shelf Go.RowKit
variable [Inhabited Lb]
theorem vDC{P:Program}{ρ:Ren}(L:LaysGg.n6 P ρ)(t e:TypeId)(i ie:TypeInfo)(hi:P.info? t=some i)(hd:i.desc= .slice e)(hpk:P.packed t=false)(hie:P.info? e=some ie)(ke:Nat)
 (hke:∀w,(Extern.Rtype.kind e).run P w= .ok ke w) (hnp:ie.hasPointers=false) (hby:ie.bytes=16) (f1 f2 f lf:Nat) (hf1:P.funcs.findIdx? (·.name== "internal/reflectlite" ++ ".Swapper$1")=some f1)
 (hf2:P.funcs.findIdx? (·.name== "internal/reflectlite" ++ ".Swapper$2")=some f2) (hf:P.funcs.findIdx? (·.name== "internal/reflectlite" ++ ".Swapper$9")=some f)
 (hpdq:∀xs:List Org,2<=xs.length->xs.length<=1000000000000->AbsCalls P (ρ.f 14) [.val (.v true [.clo lf [gi 4],.swp f 0 (typeHandle P e) (gi 4)]),.val (.v false [.int .i64 0]),.val (.v false [.int .i64 xs.length]),.val (.v false [.int .i64 (Lib.bitLen xs.length)]),.gbox [.sl (.lnt 0) .org xs]]
   ⟨.tup [],[[.sl (.lnt 0) .org (xs.mergeSort fun x y=> !olt y x)]],[]⟩)
 {w:World} {bo br cap:Nat} {ty:TypeId} {xs:List Org} (hlen:xs.length<=1000000000000) (hbo:w.heap[bo]? =some (.cells #[.slice (some ⟨br,0,none⟩) xs.length cap] ty (0,0))) (hbr:OrgRow w br cap xs) (hne:bo≠br)
 (hbase:∀x∈zH7,x.1<w.heap.size/\x.1≠bo/\x.1≠br/\w.heap[x.1]? =some x.2):
 Calls P (ρ.f 6) #[.iface t (.slice (some ⟨br,0,none⟩) xs.length cap),.func (.func lf) #[] #[.pointer (some ⟨bo,0,none⟩)]] w fun en w' =>en= .returned (.tuple #[])/\Sorted w bo br cap xs (xs.mergeSort fun x y=> !olt y x) w' :=by
 by_cases h2:2<=xs.length
 ·exact xNT L t e i ie hi hd hpk hie ke hke hnp hby f lf hf (by simp) h2 (by omega) (hpdq xs h2 hlen) hbo hbr hne hbase
 ·have hn:xs.length<=1:=by omega
  have hms:(xs.mergeSort fun x y=> !olt y x)=xs:=by
   match xs,hn with
   | [],_=>simp
   | [a],_=>simp
  rw [hms];have hfi:∃f0,P.funcs.findIdx? (·.name== "internal/reflectlite" ++ ".Swapper$" ++toString (swapperK xs.length ie ke))=some f0:=by
   match h:xs.length,hn with
   |0,_=>exact⟨f1,by rw [show swapperK 0 ie ke=1 from rfl];exact hf1⟩
   |1,_=>exact⟨f2,by rw [show swapperK 1 ie ke=2 from rfl];exact hf2⟩
  obtain⟨f0,hf0⟩:=hfi;refine(Any.sort_Slice_tiny L t e i ie hi hd hpk hie ke hke (some ⟨br,0,none⟩) xs.length cap hn f0 hf0 (.func lf) #[] #[.pointer (some ⟨bo,0,none⟩)] w).mono ?_;rintro en w' ⟨rfl,os,rfl⟩;have hbol:bo<w.heap.size:=(Array.getElem?_eq_some_iff.1 hbo).1;have hbrl:br<w.heap.size:=by
   obtain⟨_,cs,ty,lo,hi,h,_⟩:=hbr;exact(Array.getElem?_eq_some_iff.1 h).1
  refine⟨rfl,rfl,rfl,rfl,by rw [Sort.size_grow];omega,fun b hb _ _=>Sort.heap_grow_old _ _ hb,⟨ty,(Sort.heap_grow_old _ _ hbol).trans hbo⟩,?_⟩;obtain⟨h1,cs,ty',lo,hi',h3,h4⟩:=hbr;exact⟨h1,cs,ty',lo,hi',(Sort.heap_grow_old _ _ hbrl).trans h3,h4⟩
theorem xUh{w:World}{ok:List (Nat×Nat)->Nat->Nat->Prop}{q:List (Nat×Nat)->Value->Nat->Prop}{x:Org}{y:Value}:∀ {k:Nat} {hk:k<(Ty.org.toD x).length},RdP w ok q y ((Ty.org.toD x)[k])->y=(zAu x)[k]'hk
 |0,_,h=>by simp only [Ty.toD,List.getElem_cons_zero] at h;cases h;rfl
 |1,_,h=>by simp only [Ty.toD,List.getElem_cons_succ,List.getElem_cons_zero] at h;cases h;rfl
 |k+2,hk,_=>absurd hk (by show ¬k+2<2;omega)
theorem xTk{E:Env}{pl:Pl}{c:Nat}{v:Value}{os:List Org}(h:RdP E.w (okF E pl c .ro) (qF E pl c .ro) v (.sl 2 (os.map Ty.org.toD))):RowIn E.w v os:=by
 by_cases hx:os=[]
 ·subst hx;obtain⟨ad,cap,rfl,_⟩:=RdP.shape h;exact⟨ad,cap,rfl,.inl rfl⟩
 ·obtain⟨b,off,cap,rfl,hcap,hrl,hq,u,hcl,hk⟩:=RdP.cells h (by simpa using hx);refine⟨some ⟨b,off,none⟩,cap,by rw [List.length_map],.inr ⟨_,rfl,?_,fun j x hj=> ?_⟩⟩
  ·have hpos:0<(os.map Ty.org.toD).length:=by
    cases os with
    |nil=>exact absurd rfl hx
    |cons _ _=>simp
   have h0:=(hcl 0 0 hpos (by decide)).1;by_cases hlt:b<E.w.heap.size
   ·exact hlt
   ·simp [World.cell?,Array.getElem?_eq_none (Nat.le_of_not_lt hlt)] at h0
  ·have hj2:j<(orgs os).length:=(List.getElem?_eq_some_iff.1 hj).1;rw [xKS] at hj2;have e:j=j / 2*2+j % 2:=by omega
   have hm:j / 2<os.length:=by omega
   have hk2:j % 2<2:=Nat.mod_lt _ (by decide);have h1:=xLy os (j / 2) hm (j % 2) hk2;rw [<-e,hj] at h1;cases h1;have g1:=(hcl (j / 2) (j % 2) (by simpa using hm) hk2).1;have hr:((os.map Ty.org.toD)[j / 2]'(by simpa using hm))=Ty.org.toD os[j / 2]:=by rw [List.getElem_map]
   have g2:=hk (j / 2) (j % 2) (by simpa using hm) (by rw [hr];exact hk2);have ha:(⟨b,off,none⟩:Addr).add j=⟨b,off+(j / 2)*2+j % 2,none⟩:=by
    rw [show off+j / 2*2+j % 2=off+j by omega];unfold Addr.add;split
    ·rename_i h0;rw [h0];rfl
    ·rfl
   rw [ha,g1];simp only [hr] at g2;exact congrArg some (xUh g2)
theorem xUA{P:Program}{f:FuncId}(hf:∀args w,(callFunc f args).run P w= .ok (.enter f args) w)
 (hc:∀(xs ys:List Org) (u v:Value) (w:World),RowIn w u xs->RowIn w v ys->xs.length+ys.length<=1000000000000->(∀x∈zH7,x.1<w.heap.size/\w.heap[x.1]? =some x.2)->
   Calls P f #[u,v] w fun e w' =>∃br cap,e= .returned (.slice (some ⟨br,0,none⟩) (zIr xs ys).length cap)/\Below w.heap.size w w' /\w.heap.size<=br/\OrgRow w' br cap (zIr xs ys))
 {xs ys zs:List Org} (h:zJw xs ys=some zs):AbsCalls P f [.val (.v false [.sl .ro .org xs]),.val (.v false [.sl .ro .org ys])] ⟨.v false [.sl .own .org zs],[],[]⟩:=by
 unfold zJw at h;split at h
 case isFalse=>cases h
 rename_i hlen;cases h;refine AbsCalls.of_enter hf fun E args hE hB hA=> ?_
 match args,hA with
 |⟨[v1,v2]⟩,hA=>
  obtain⟨⟨hv1,_⟩,⟨hv2,_⟩,_⟩:=hA;refine(hc xs ys v1 v2 E.w (xTk hv1) (xTk hv2) hlen fun x hx=>⟨(hB x hx).1,(hB x hx).2.2.1⟩).mono ?_;rintro e w' ⟨br,cap,rfl,hb,hbr,hrow⟩;generalize zIr xs ys=zs at hrow;have hbl:br<w'.heap.size:=by
   obtain⟨_,cs,ty,lo,hi,h,_⟩:=hrow;exact(Array.getElem?_eq_some_iff.1 h).1
  have h0:=hE.new br hbr
  let E' :Env:= { w:=w',hw:=fun b=>if b=br then zs.length*2 else E.hw b,ow:=fun b=>if b=br then some (.arr (.h 0) 0 []) else(E.ow b).bind (fun l=>if l= .arr (.h 0) 0 [] then none else some l),bx:=E.bx,hdr:=fun _=> .slice (some ⟨br,0,none⟩) zs.length cap }
  have hrd:=OrgRow.rd (E:=E') (pl:= .h 0) (c:=0) hrow (if_pos rfl) (if_pos rfl) 0 rfl;refine⟨_,{ E' with hdr:=E.hdr },rfl,rfl,?_⟩;refine { os:=hb.os,tape:=hb.tape,output:=hb.output,size:=hb.size,hdr:=rfl,old:=fun b hlt h1=> ?_,env:=⟨fun b hbb=> ?_,fun b b' l g1 g2=> ?_,fun b s h=> ?_⟩,res:= ?_,outs:=trivial,lents:=trivial,bx:=fun _ _=>rfl }
  ·have e:b≠br:=by omega
   exact⟨hb.block b hlt,by simp [E',e],by simp [E',e,h1]⟩
  ·have hbb:w'.heap.size<=b:=hbb;have e:b≠br:=by omega
   have:=hE.new b (by have:=hb.size;omega);exact⟨by simp [E',e,this.1],by simp [E',e,this.2]⟩
  ·simp only [E'] at g1 g2;split at g1 <;>split at g2
   ·rename_i e1 e2;rw [e1,e2]
   ·cases g1;simp only [Option.bind_eq_some_iff] at g2;obtain⟨l2,_,c2⟩:=g2;split at c2
    ·cases c2
    ·rename_i hne;cases c2;exact absurd rfl hne
   ·cases g2;simp only [Option.bind_eq_some_iff] at g1;obtain⟨l2,_,c2⟩:=g1;split at c2
    ·cases c2
    ·rename_i hne;cases c2;exact absurd rfl hne
   ·simp only [Option.bind_eq_some_iff] at g1 g2;obtain⟨l1,a1,c1⟩:=g1;obtain⟨l2,a2,c2⟩:=g2;split at c1
    ·cases c1
    ·split at c2
     ·cases c2
     ·cases c1;cases c2;exact hE.inj _ _ _ a1 a2
  ·simp only [E'] at h ⊢;split at h
   ·cases h
   ·rename_i hne;rw [if_neg hne];rw [Option.bind_eq_some_iff] at h;obtain⟨l,a1,c1⟩:=h;split at c1
    ·cases c1
    ·cases c1;exact hE.boxhw b s a1
  ·refine ResAt.of ?_ rfl;refine⟨?_,trivial⟩;exact RdP.mono hrd (fun p b o ho=>⟨rfl,ho⟩) (fun p v sz ht=>ht.1)
 |⟨[]⟩,hA=>exact hA.elim
 |⟨[_]⟩,hA=>exact hA.2.elim
 |⟨_::_::_::_⟩,hA=>exact hA.2.2.elim
end Go.Ab
end
section
namespace Go.Proofs
open Go.Shelf
def Tryz.lays125_ren:Go.Shelf.Ren:=⟨fun |125=>106|128=>142|129=>143|n=>n,fun |46=>121|3=>3|51=>140|53=>142|4=>4|5=>5|9=>9|n=>n,fun |n=>n⟩
theorem Tryz.lays125:Go.Proofs.Lays.n125 Tryz.prog Tryz.lays125_ren:= {
 mixed:=by kernel_rfl
 f125:=Tryz.func106.trans (congrArg some (by kernel_rfl))
 f128:=Tryz.func142.trans (congrArg some (by kernel_rfl))
 f129:=Tryz.func143.trans (congrArg some (by kernel_rfl))
 t3:=Tryz.underlying3
 a3:=Tryz.isAgg3
 z3:=Tryz.sizeOf3
 v3:=Tryz.zeroValue3
 t4:=Tryz.underlying4
 a4:=Tryz.isAgg4
 z4:=Tryz.sizeOf4
 v4:=Tryz.zeroValue4
 t5:=Tryz.underlying5
 a5:=Tryz.isAgg5
 z5:=Tryz.sizeOf5
 v5:=Tryz.zeroValue5
 t9:=Tryz.underlying9
 a9:=Tryz.isAgg9
 z9:=Tryz.sizeOf9
 v9:=Tryz.zeroValue9
 t46:=Tryz.underlying121
 a46:=Tryz.isAgg121
 z46:=Tryz.sizeOf121
 v46:=Tryz.zeroValue121
 t51:=Tryz.underlying140
 a51:=Tryz.isAgg140
 z51:=Tryz.sizeOf140
 v51:=Tryz.zeroValue140
 t53:=Tryz.underlying142
 a53:=Tryz.isAgg142
 z53:=Tryz.sizeOf142
 v53:=Tryz.zeroValue142 }
def Tryz.lays191_ren:Go.Shelf.Ren:=⟨fun |191=>81|189=>122|125=>106|257=>162|128=>142|129=>143|294=>175|295=>176|296=>177|297=>178|298=>179|299=>180|216=>181|300=>182|301=>183|328=>189|329=>190|330=>191|331=>192|332=>193|215=>194|343=>197|n=>n,fun |28=>42|0=>0|3=>3|46=>121|51=>140|53=>142|4=>4|183=>166|182=>165|131=>149|5=>5|9=>9|218=>174|222=>161|228=>179|229=>172|n=>n,fun |n=>n⟩
theorem Tryz.lays191:Go.Proofs.Lays.n191 Tryz.prog Tryz.lays191_ren:= {
 mixed:=by kernel_rfl
 f125:=Tryz.func106.trans (congrArg some (by kernel_rfl))
 f128:=Tryz.func142.trans (congrArg some (by kernel_rfl))
 f129:=Tryz.func143.trans (congrArg some (by kernel_rfl))
 f189:=Tryz.func122.trans (congrArg some (by kernel_rfl))
 f191:=Tryz.func81.trans (congrArg some (by kernel_rfl))
 f215:=Tryz.func194.trans (congrArg some (by kernel_rfl))
 f216:=Tryz.func181.trans (congrArg some (by kernel_rfl))
 f257:=Tryz.func162.trans (congrArg some (by kernel_rfl))
 f294:=Tryz.func175.trans (congrArg some (by kernel_rfl))
 f295:=Tryz.func176.trans (congrArg some (by kernel_rfl))
 f296:=Tryz.func177.trans (congrArg some (by kernel_rfl))
 f297:=Tryz.func178.trans (congrArg some (by kernel_rfl))
 f298:=Tryz.func179.trans (congrArg some (by kernel_rfl))
 f299:=Tryz.func180.trans (congrArg some (by kernel_rfl))
 f300:=Tryz.func182.trans (congrArg some (by kernel_rfl))
 f301:=Tryz.func183.trans (congrArg some (by kernel_rfl))
 f328:=Tryz.func189.trans (congrArg some (by kernel_rfl))
 f329:=Tryz.func190.trans (congrArg some (by kernel_rfl))
 f330:=Tryz.func191.trans (congrArg some (by kernel_rfl))
 f331:=Tryz.func192.trans (congrArg some (by kernel_rfl))
 f332:=Tryz.func193.trans (congrArg some (by kernel_rfl))
 f343:=Tryz.func197.trans (congrArg some (by kernel_rfl))
 t0:=Tryz.underlying0
 a0:=Tryz.isAgg0
 z0:=Tryz.sizeOf0
 v0:=Tryz.zeroValue0
 t3:=Tryz.underlying3
 a3:=Tryz.isAgg3
 z3:=Tryz.sizeOf3
 v3:=Tryz.zeroValue3
 t4:=Tryz.underlying4
 a4:=Tryz.isAgg4
 z4:=Tryz.sizeOf4
 v4:=Tryz.zeroValue4
 t5:=Tryz.underlying5
 a5:=Tryz.isAgg5
 z5:=Tryz.sizeOf5
 v5:=Tryz.zeroValue5
 t9:=Tryz.underlying9
 a9:=Tryz.isAgg9
 z9:=Tryz.sizeOf9
 v9:=Tryz.zeroValue9
 t28:=Tryz.underlying42
 a28:=Tryz.isAgg42
 z28:=Tryz.sizeOf42
 v28:=Tryz.zeroValue42
 t46:=Tryz.underlying121
 a46:=Tryz.isAgg121
 z46:=Tryz.sizeOf121
 v46:=Tryz.zeroValue121
 t51:=Tryz.underlying140
 a51:=Tryz.isAgg140
 z51:=Tryz.sizeOf140
 v51:=Tryz.zeroValue140
 t53:=Tryz.underlying142
 a53:=Tryz.isAgg142
 z53:=Tryz.sizeOf142
 v53:=Tryz.zeroValue142
 t131:=Tryz.underlying149
 a131:=Tryz.isAgg149
 z131:=Tryz.sizeOf149
 v131:=Tryz.zeroValue149
 t182:=Tryz.underlying165
 a182:=Tryz.isAgg165
 z182:=Tryz.sizeOf165
 v182:=Tryz.zeroValue165
 t183:=Tryz.underlying166
 a183:=Tryz.isAgg166
 z183:=Tryz.sizeOf166
 v183:=Tryz.zeroValue166
 t218:=Tryz.underlying174
 a218:=Tryz.isAgg174
 z218:=Tryz.sizeOf174
 v218:=Tryz.zeroValue174
 t222:=Tryz.underlying161
 a222:=Tryz.isAgg161
 z222:=Tryz.sizeOf161
 v222:=Tryz.zeroValue161
 t228:=Tryz.underlying179
 a228:=Tryz.isAgg179
 z228:=Tryz.sizeOf179
 v228:=Tryz.zeroValue179
 t229:=Tryz.underlying172
 a229:=Tryz.isAgg172
 z229:=Tryz.sizeOf172
 v229:=Tryz.zeroValue172 }
def Tryz.laysGg6_ren:Go.Shelf.Ren:=⟨fun |6=>63|10=>103|11=>104|12=>105|13=>106|14=>107|24=>142|25=>143|26=>144|27=>145|28=>146|29=>147|30=>148|31=>149|32=>150|33=>151|34=>166|35=>167|36=>168|37=>169|38=>170|39=>184|n=>n,fun |20=>20|26=>83|35=>115|0=>0|37=>117|3=>3|41=>121|44=>124|49=>140|51=>142|4=>4|54=>145|53=>144|58=>149|5=>5|9=>9|60=>157|64=>161|66=>171|67=>172|17=>17|32=>112|33=>113|82=>194|12=>12|75=>187|76=>188|77=>189|78=>190|79=>191|80=>192|n=>n,fun |n=>n⟩
theorem Tryz.laysGg6:Go.Proofs.LaysGg.n6 Tryz.prog Tryz.laysGg6_ren:= {
 mixed:=by kernel_rfl
 f6:=Tryz.func63.trans (congrArg some (by kernel_rfl))
 f10:=Tryz.func103.trans (congrArg some (by kernel_rfl))
 f11:=Tryz.func104.trans (congrArg some (by kernel_rfl))
 f12:=Tryz.func105.trans (congrArg some (by kernel_rfl))
 f13:=Tryz.func106.trans (congrArg some (by kernel_rfl))
 f14:=Tryz.func107.trans (congrArg some (by kernel_rfl))
 f24:=Tryz.func142.trans (congrArg some (by kernel_rfl))
 f25:=Tryz.func143.trans (congrArg some (by kernel_rfl))
 f26:=Tryz.func144.trans (congrArg some (by kernel_rfl))
 f27:=Tryz.func145.trans (congrArg some (by kernel_rfl))
 f28:=Tryz.func146.trans (congrArg some (by kernel_rfl))
 f29:=Tryz.func147.trans (congrArg some (by kernel_rfl))
 f30:=Tryz.func148.trans (congrArg some (by kernel_rfl))
 f31:=Tryz.func149.trans (congrArg some (by kernel_rfl))
 f32:=Tryz.func150.trans (congrArg some (by kernel_rfl))
 f33:=Tryz.func151.trans (congrArg some (by kernel_rfl))
 f34:=Tryz.func166.trans (congrArg some (by kernel_rfl))
 f35:=Tryz.func167.trans (congrArg some (by kernel_rfl))
 f36:=Tryz.func168.trans (congrArg some (by kernel_rfl))
 f37:=Tryz.func169.trans (congrArg some (by kernel_rfl))
 f38:=Tryz.func170.trans (congrArg some (by kernel_rfl))
 f39:=Tryz.func184.trans (congrArg some (by kernel_rfl))
 t0:=Tryz.underlying0
 a0:=Tryz.isAgg0
 z0:=Tryz.sizeOf0
 v0:=Tryz.zeroValue0
 i0:=by kernel_rfl
 t3:=Tryz.underlying3
 a3:=Tryz.isAgg3
 z3:=Tryz.sizeOf3
 v3:=Tryz.zeroValue3
 i3:=by kernel_rfl
 t4:=Tryz.underlying4
 a4:=Tryz.isAgg4
 z4:=Tryz.sizeOf4
 v4:=Tryz.zeroValue4
 i4:=by kernel_rfl
 t5:=Tryz.underlying5
 a5:=Tryz.isAgg5
 z5:=Tryz.sizeOf5
 v5:=Tryz.zeroValue5
 i5:=by kernel_rfl
 t9:=Tryz.underlying9
 a9:=Tryz.isAgg9
 z9:=Tryz.sizeOf9
 v9:=Tryz.zeroValue9
 i9:=by kernel_rfl
 t12:=Tryz.underlying12
 a12:=Tryz.isAgg12
 z12:=Tryz.sizeOf12
 v12:=Tryz.zeroValue12
 i12:=by kernel_rfl
 t17:=Tryz.underlying17
 a17:=Tryz.isAgg17
 z17:=Tryz.sizeOf17
 v17:=Tryz.zeroValue17
 i17:=by kernel_rfl
 t20:=Tryz.underlying20
 a20:=Tryz.isAgg20
 z20:=Tryz.sizeOf20
 v20:=Tryz.zeroValue20
 i20:=by kernel_rfl
 t26:=Tryz.underlying83
 a26:=Tryz.isAgg83
 z26:=Tryz.sizeOf83
 v26:=Tryz.zeroValue83
 i26:=by kernel_rfl
 t32:=Tryz.underlying112
 a32:=Tryz.isAgg112
 z32:=Tryz.sizeOf112
 v32:=Tryz.zeroValue112
 i32:=by kernel_rfl
 t33:=Tryz.underlying113
 a33:=Tryz.isAgg113
 z33:=Tryz.sizeOf113
 v33:=Tryz.zeroValue113
 i33:=by kernel_rfl
 t35:=Tryz.underlying115
 a35:=Tryz.isAgg115
 z35:=Tryz.sizeOf115
 v35:=Tryz.zeroValue115
 i35:=by kernel_rfl
 t37:=Tryz.underlying117
 a37:=Tryz.isAgg117
 z37:=Tryz.sizeOf117
 v37:=Tryz.zeroValue117
 i37:=by kernel_rfl
 t41:=Tryz.underlying121
 a41:=Tryz.isAgg121
 z41:=Tryz.sizeOf121
 v41:=Tryz.zeroValue121
 i41:=by kernel_rfl
 t44:=Tryz.underlying124
 a44:=Tryz.isAgg124
 z44:=Tryz.sizeOf124
 v44:=Tryz.zeroValue124
 i44:=by kernel_rfl
 t49:=Tryz.underlying140
 a49:=Tryz.isAgg140
 z49:=Tryz.sizeOf140
 v49:=Tryz.zeroValue140
 i49:=by kernel_rfl
 t51:=Tryz.underlying142
 a51:=Tryz.isAgg142
 z51:=Tryz.sizeOf142
 v51:=Tryz.zeroValue142
 i51:=by kernel_rfl
 t53:=Tryz.underlying144
 a53:=Tryz.isAgg144
 z53:=Tryz.sizeOf144
 v53:=Tryz.zeroValue144
 i53:=by kernel_rfl
 t54:=Tryz.underlying145
 a54:=Tryz.isAgg145
 z54:=Tryz.sizeOf145
 v54:=Tryz.zeroValue145
 i54:=by kernel_rfl
 t58:=Tryz.underlying149
 a58:=Tryz.isAgg149
 z58:=Tryz.sizeOf149
 v58:=Tryz.zeroValue149
 i58:=by kernel_rfl
 t60:=Tryz.underlying157
 a60:=Tryz.isAgg157
 z60:=Tryz.sizeOf157
 v60:=Tryz.zeroValue157
 i60:=by kernel_rfl
 t64:=Tryz.underlying161
 a64:=Tryz.isAgg161
 z64:=Tryz.sizeOf161
 v64:=Tryz.zeroValue161
 i64:=by kernel_rfl
 t66:=Tryz.underlying171
 a66:=Tryz.isAgg171
 z66:=Tryz.sizeOf171
 v66:=Tryz.zeroValue171
 i66:=by kernel_rfl
 t67:=Tryz.underlying172
 a67:=Tryz.isAgg172
 z67:=Tryz.sizeOf172
 v67:=Tryz.zeroValue172
 i67:=by kernel_rfl
 t75:=Tryz.underlying187
 a75:=Tryz.isAgg187
 z75:=Tryz.sizeOf187
 v75:=Tryz.zeroValue187
 i75:=by kernel_rfl
 t76:=Tryz.underlying188
 a76:=Tryz.isAgg188
 z76:=Tryz.sizeOf188
 v76:=Tryz.zeroValue188
 i76:=by kernel_rfl
 t77:=Tryz.underlying189
 a77:=Tryz.isAgg189
 z77:=Tryz.sizeOf189
 v77:=Tryz.zeroValue189
 i77:=by kernel_rfl
 t78:=Tryz.underlying190
 a78:=Tryz.isAgg190
 z78:=Tryz.sizeOf190
 v78:=Tryz.zeroValue190
 i78:=by kernel_rfl
 t79:=Tryz.underlying191
 a79:=Tryz.isAgg191
 z79:=Tryz.sizeOf191
 v79:=Tryz.zeroValue191
 i79:=by kernel_rfl
 t80:=Tryz.underlying192
 a80:=Tryz.isAgg192
 z80:=Tryz.sizeOf192
 v80:=Tryz.zeroValue192
 i80:=by kernel_rfl
 t82:=Tryz.underlying194
 a82:=Tryz.isAgg194
 z82:=Tryz.sizeOf194
 v82:=Tryz.zeroValue194
 i82:=by kernel_rfl }
end Go.Proofs
end
section
open Go.Proofs
namespace Go.Ab.T
variable [Inhabited Lb]
abbrev AbC(f:FuncId)(a:List Arg)(r:CallO):Prop:=AbsCalls Tryz.prog f a r
abbrev W(x:Int):Int:=IntKind.i64.wrap x
abbrev Ln{α:Type}(l:List α):Nat:=List.length l
abbrev tN(x:Int):Nat:=Int.toNat x
abbrev gD{α:Type}(l:List α)(i:Nat)(d:α):α:=List.getD l i d
abbrev iY(b:Bool):Prop:=b=true
abbrev iN(b:Bool):Prop:=b=false
abbrev dc(p:Prop) [Decidable p]:Bool:=decide p
abbrev vd:Val:=Ty.val.dflt
abbrev rd:Rowd:=Ty.row.dflt
end Go.Ab.T
end
section
open Go.Proofs
namespace Go.Ab.T
set_option maxRecDepth 100000
variable [Inhabited Lb]
def tt:TT:=[(3,{ zero:=some [.int .i64 0],ik:=some .i64 }),
 (4,{ zero:=some [.bool false],isBool:=true }),
 (5,{ zero:=some [.int .u8 0],ik:=some .u8 }),
 (9,{ zero:=some [.str []],isStr:=true }),
 (22,{ zero:=some [.sl .own .val []],elem:=some (26,.val) }),
 (23,{ zero:=some [.sl .own .str []],elem:=some (9,.str) }),
 (24,{ zero:=some [.sl .own .row []],elem:=some (99,.row) }),
 (26,{ sz:=7,agg:=true,zero:=some [.int .i64 0,.int .i64 0,.int .i64 0,.str [],.sl .own .val [],.sl .own .str [],.sl .own .row []],offs:=[0,1,2,3,4,5,6],fsz:=[1,1,1,1,1,1,1] }),
 (28,{ zero:=some [.sl .own .val []],elem:=some (31,.val) }),
 (29,{ zero:=some [.sl .own .row []],elem:=some (45,.row) }),
 (31,{ sz:=7,agg:=true,zero:=some [.int .i64 0,.int .i64 0,.int .i64 0,.str [],.sl .own .val [],.sl .own .str [],.sl .own .row []],offs:=[0,1,2,3,4,5,6],fsz:=[1,1,1,1,1,1,1] }),
 (37,{ zero:=some [.sl .own .byte []],elem:=some (5,.byte) }),
 (42,{ zero:=some [.sl .own .int []],elem:=some (3,.int) }),
 (43,{ zero:=some [.sl .own .org []],elem:=some (80,.org) }),
 (45,{ sz:=2,agg:=true,zero:=some [.sl .own .int [],.sl .own .org []],offs:=[0,1],fsz:=[1,1] }),
 (80,{ sz:=2,agg:=true,zero:=some [.int .i64 0,.int .i64 0],offs:=[0,1],fsz:=[1,1],same:=true }),
 (83,{ zero:=some [.val .nilFunc],isFn:=true }),
 (97,{ zero:=some [.sl .own .org []],elem:=some (155,.org) }),
 (99,{ sz:=2,agg:=true,zero:=some [.sl .own .int [],.sl .own .org []],offs:=[0,1],fsz:=[1,1] }),
 (109,{ sz:=3,agg:=true,zero:=some [.sl .own .byte [],.int .i64 0,.int .i64 0],offs:=[0,1,2],fsz:=[1,1,1] }),
 (117,{ zero:=some [.val .nilFunc],isFn:=true }),
 (121,{ zero:=some [.int .u64 0],ik:=some .u64 }),
 (124,{ sz:=2,agg:=true,zero:=some [.val .nilFunc,.val .nilFunc],offs:=[0,1],fsz:=[1,1] }),
 (142,{ zero:=some [.int .u64 0],ik:=some .u64 }),
 (144,{ zero:=some [.int .i64 0],ik:=some .i64 }),
 (155,{ sz:=2,agg:=true,zero:=some [.int .i64 0,.int .i64 0],offs:=[0,1],fsz:=[1,1],same:=true }),
 (157,{ zero:=some [.int .u64 0],ik:=some .u64 })]
theorem ttok:TTok Tryz.prog tt:=zJl (by kernel_rfl)
theorem mix:Tryz.prog.follows .mixedOrders=true:=by kernel_rfl
def F:Bool:=false
def cl(r:CallO):CallO:=⟨r.res,r.outs,[.clo 0 []]⟩
def Y:Bool:=true
noncomputable def rE (I:Info) (ag:List Arg) (bs:List Bool) (cs:List CallO):Option Res:=run tt (AbsCalls Tryz.prog) I 3000 false [.code I.body] ⟨zA9 0 ag,bs,cs,[]⟩
noncomputable def rS (k:Nat) (I:Info) (σ:St) (bs:List Bool) (cs:List CallO):Option Res:=run tt (AbsCalls Tryz.prog) I 3000 true (stkAt k I.body) ⟨σ,bs,cs,[]⟩
noncomputable def dn (r:CallO) (ob:List Prop):Option Res:=some (.done r ob)
noncomputable def st (k:Nat) (I:Info) (σ:St) (ob:List Prop):Option Res:=some (.stop (stkAt k I.body) σ ob)
def RE(fn:Func)(I:Info)(ag:List Arg)(r:CallO):Prop:=Reach Tryz.prog fn I [.code I.body] (zA9 0 ag) r
def RS(fn:Func)(I:Info)(k:Nat)(σ:St)(r:CallO):Prop:=Reach Tryz.prog fn I (stkAt k I.body) σ r
section
variable {ρ:Type} {f:FuncId} {fn:Func} {I:Info} {ag:List Arg} {bs:List Bool} {cs:List CallO} {k j:Nat} {σ σ' :St} {ob:List Prop} {ro:ρ->CallO} {x r:ρ} {q:CallO}
theorem dE(e:some x=some r)(hf:FnOk Tryz.prog f fn I)(h:rE I ag bs cs=dn (ro x) ob)(o:∀p∈ob,p):RE fn I ag (ro r):=by
 cases e;exact Reach.done ttok mix hf h o
theorem dS(e:some x=some r)(hf:FnOk Tryz.prog f fn I)(h:rS k I σ bs cs=dn (ro x) ob)(o:∀p∈ob,p):RS fn I k σ (ro r):=by
 cases e;exact Reach.done ttok mix hf h o
theorem tE(hf:FnOk Tryz.prog f fn I)(h:rE I ag bs cs=st k I σ ob)(o:∀p∈ob,p)(t:RS fn I k σ q):RE fn I ag q:=Reach.stop ttok mix hf h o t
theorem tS(hf:FnOk Tryz.prog f fn I)(h:rS j I σ' bs cs=st k I σ ob)(o:∀p∈ob,p)(t:RS fn I k σ q):RS fn I j σ' q:=Reach.stop ttok mix hf h o t
end
theorem oc{p:Prop}{l:List Prop}(h:p)(t:∀q∈l,q):∀q∈p::l,q:=zJk h t
theorem on:∀q∈([]:List Prop),q:=zJq
theorem oc2{p0 p1:Prop}{l:List Prop}(h0:p0)(h1:p1)(t:∀q∈l,q):∀q∈p0::p1::l,q:=oc h0 (oc h1 t)
theorem oc3{p0 p1 p2:Prop}{l:List Prop}(h0:p0)(h1:p1)(h2:p2)(t:∀q∈l,q):∀q∈p0::p1::p2::l,q:=oc h0 (oc2 h1 h2 t)
theorem oc4{p0 p1 p2 p3:Prop}{l:List Prop}(h0:p0)(h1:p1)(h2:p2)(h3:p3)(t:∀q∈l,q):∀q∈p0::p1::p2::p3::l,q:=oc h0 (oc3 h1 h2 h3 t)
theorem oc5{p0 p1 p2 p3 p4:Prop}{l:List Prop}(h0:p0)(h1:p1)(h2:p2)(h3:p3)(h4:p4)(t:∀q∈l,q):∀q∈p0::p1::p2::p3::p4::l,q:=oc h0 (oc4 h1 h2 h3 h4 t)
theorem oc6{p0 p1 p2 p3 p4 p5:Prop}{l:List Prop}(h0:p0)(h1:p1)(h2:p2)(h3:p3)(h4:p4)(h5:p5)(t:∀q∈l,q):∀q∈p0::p1::p2::p3::p4::p5::l,q:=oc h0 (oc5 h1 h2 h3 h4 h5 t)
theorem oc7{p0 p1 p2 p3 p4 p5 p6:Prop}{l:List Prop}(h0:p0)(h1:p1)(h2:p2)(h3:p3)(h4:p4)(h5:p5)(h6:p6)(t:∀q∈l,q):∀q∈p0::p1::p2::p3::p4::p5::p6::l,q:=oc h0 (oc6 h1 h2 h3 h4 h5 h6 t)
theorem oc8{p0 p1 p2 p3 p4 p5 p6 p7:Prop}{l:List Prop}(h0:p0)(h1:p1)(h2:p2)(h3:p3)(h4:p4)(h5:p5)(h6:p6)(h7:p7)(t:∀q∈l,q):∀q∈p0::p1::p2::p3::p4::p5::p6::p7::l,q:=oc h0 (oc7 h1 h2 h3 h4 h5 h6 h7 t)
theorem oc9{p0 p1 p2 p3 p4 p5 p6 p7 p8:Prop}{l:List Prop}(h0:p0)(h1:p1)(h2:p2)(h3:p3)(h4:p4)(h5:p5)(h6:p6)(h7:p7)(h8:p8)(t:∀q∈l,q):∀q∈p0::p1::p2::p3::p4::p5::p6::p7::p8::l,q:=oc h0 (oc8 h1 h2 h3 h4 h5 h6 h7 h8 t)
theorem oc10{p0 p1 p2 p3 p4 p5 p6 p7 p8 p9:Prop}{l:List Prop}(h0:p0)(h1:p1)(h2:p2)(h3:p3)(h4:p4)(h5:p5)(h6:p6)(h7:p7)(h8:p8)(h9:p9)(t:∀q∈l,q):∀q∈p0::p1::p2::p3::p4::p5::p6::p7::p8::p9::l,q:=oc h0 (oc9 h1 h2 h3 h4 h5 h6 h7 h8 h9 t)
theorem oc11{p0 p1 p2 p3 p4 p5 p6 p7 p8 p9 p10:Prop}{l:List Prop}(h0:p0)(h1:p1)(h2:p2)(h3:p3)(h4:p4)(h5:p5)(h6:p6)(h7:p7)(h8:p8)(h9:p9)(h10:p10)(t:∀q∈l,q):∀q∈p0::p1::p2::p3::p4::p5::p6::p7::p8::p9::p10::l,q:=oc h0 (oc10 h1 h2 h3 h4 h5 h6 h7 h8 h9 h10 t)
theorem oc12{p0 p1 p2 p3 p4 p5 p6 p7 p8 p9 p10 p11:Prop}{l:List Prop}(h0:p0)(h1:p1)(h2:p2)(h3:p3)(h4:p4)(h5:p5)(h6:p6)(h7:p7)(h8:p8)(h9:p9)(h10:p10)(h11:p11)(t:∀q∈l,q):∀q∈p0::p1::p2::p3::p4::p5::p6::p7::p8::p9::p10::p11::l,q:=oc h0 (oc11 h1 h2 h3 h4 h5 h6 h7 h8 h9 h10 h11 t)
theorem cE{α:Type}{C:Prop}{b:Bool}{x y:Option α}{r:α}(h:cond b x y=some r)(f:b=true->x=some r->C)(g:b=false->y=some r->C):C:=(zJi h).elim (fun h=>f h.1 h.2) fun h=>g h.1 h.2
theorem bE{α β:Type}{C:Prop}{o:Option α}{f:α->Option β}{r:β}(h:Option.bind o f=some r)(g:∀a,o=some a->f a=some r->C):C:=(zJg h).elim fun a h=>g a h.1 h.2
theorem iE{α:Type}{C p:Prop} [Decidable p]{x:Option α}{r:α}(h:(if p then x else none)=some r)(g:p->x=some r->C):C:=(zJo h).elim g
theorem nE{α:Type}{C:Prop}{r:α}(h:none=some r):C:=nomatch h
noncomputable def I168:Info:= { body:=(Tryz.f168.body).getD .skip,nt:=33,results:=[.tmp 2],keep:=[0,4,1],live:=[],modes:=[],ext:=[0] }
theorem vEY:FnOk Tryz.prog 168 Tryz.f168 I168:=by refine⟨Tryz.func168,?_,?_,?_,?_⟩<;>kernel_rfl
abbrev xUJ(v0:Int):=xorI .u64 (xorI .u64 (xorI .u64 v0 (IntKind.u64.wrap (v0*2 ^ (tN 13)))) (Int.fdiv (xorI .u64 v0 (IntKind.u64.wrap (v0*2 ^ (tN 13)))) ((2:Int) ^ (tN 7)))) (IntKind.u64.wrap ((xorI .u64 (xorI .u64 v0 (IntKind.u64.wrap (v0*2 ^ (tN 13)))) (Int.fdiv (xorI .u64 v0 (IntKind.u64.wrap (v0*2 ^ (tN 13)))) ((2:Int) ^ (tN 7))))*2 ^ (tN 17)))
def xXZ(a0):rE I168 (xEf a0) [] []=dn (xCP ((xUJ a0),(xUJ a0))) [(0:Int)<=13/\(13:Int)<64,(0:Int)<=7/\(7:Int)<64,(0:Int)<=17/\(17:Int)<64]:=by kernel_rfl
theorem vEy{N:Nat}:∀a0 r,xFs N a0=some r->RE Tryz.f168 I168 (xEf a0) (xCP r):=fun a0 r h=>dE h vEY (xXZ a0) (oc3 (by decide) (by decide) (by decide) on)
theorem xIk{N:Nat}{a0:Int}{r:Int×Int}(h:xFs N  a0=some r):AbC 168 (xEf a0) (xCP r):=
 AbsCalls.of_reach vEY rfl rfl rfl (jL rfl) (vEy a0 r h)
theorem xM7{N:Nat}{a0 r:Int}(h:xJ7 N a0=some r):AbC 106 (xKo a0) (xIq r):=
 zIJ (xO9 Tryz.lays125) (Any.bits_Len Tryz.lays125) h
noncomputable def I167:Info:= { body:=(Tryz.f167.body).getD .skip,nt:=10,results:=[.tmp 2],keep:=[0,4,6],live:=[],modes:=[(2,[(0,.take,false)])] }
theorem vEX:FnOk Tryz.prog 167 Tryz.f167 I167:=by refine⟨Tryz.func167,?_,?_,?_,?_⟩<;>kernel_rfl
def xXY(a0 r1):rE I167 (xFc a0) [] [xIq r1]=dn (xDU (IntKind.u64.wrap (1*2 ^ (tN (IntKind.u64.wrap (r1)))))) [AbC 106 (xKo (IntKind.u64.wrap (a0))) (xIq r1),(0:Int)<=(IntKind.u64.wrap (r1))/\(IntKind.u64.wrap (r1))<64]:=by kernel_rfl
theorem vEx{N:Nat}:∀a0 r,xE1 N a0=some r->RE Tryz.f167 I167 (xFc a0) (xDU r):=fun a0 r h=>bE h fun r1 h0 h=>iE h fun h1 h=>dE h vEX (xXY a0 r1) (oc2 (xM7 h0) h1 on)
theorem xKv{N:Nat}{a0:Int}{r:Int}(h:xE1 N  a0=some r):AbC 167 (xFc a0) (xDU r):=
 AbsCalls.of_reach vEX rfl rfl rfl (jL rfl) (vEx a0 r h)
theorem xAg{N:Nat}{a0 a1:Int}{a2 r:List Org}(h:xAf N a0 a1 a2=some r):AbC 141 (xAn a0 a1 a2) (xAa r):=
 zJj (run_callFunc_extern Tryz.func141 (by kernel_rfl) (by kernel_rfl) (by kernel_rfl) (by kernel_rfl)) 80 _ (Option.some_get (by kernel_rfl:(Tryz.prog.info? 80).isSome=true)).symm (by kernel_rfl) Tryz.isAgg80 h
noncomputable def xJh:Info:= { body:=(Tryz.f148.body).getD .skip,nt:=23,results:=[],keep:=[0,2,4,6,12,14,26,2000006,7,2000007],live:=[(3,[6,12,14,2000006,7,2000007])],modes:=[],ext:=[1000003] }
theorem xLO:FnOk Tryz.prog 148 Tryz.f148 xJh:=by refine⟨Tryz.func148,?_,?_,?_,?_⟩<;>kernel_rfl
def xJH(x6 x7:Int)(g003:List Org):St:=[(6,.v false [.ptr 3 0]),(12,.v false [.int .i64 x6]),(14,.v false [.int .i64 x7]),(7,.v true [.clo 64 [1000003],.swp 141 0 (.pointer (some ⟨0,80,none⟩)) 1000003]),(2000007,.v true [.sl (.lnt 0) .org g003])]
abbrev xFK(v0 v1:Int):Prop:=iY (dc (v0<v1))
abbrev xQ8(v0 v1:Int)(v2:List Org)(v3:(List Org)):Prop:=AbC 141 (xAn v0 v1 v2) (xAa v3)
def xRH(x6 x7 g003 r1):rS 3 xJh (xJH x6 x7 g003) [Y] [xAa r1]=st 3 xJh (xJH (W (x6+1)) (W (x7 - 1)) r1) [xFK x6 x7,xQ8 x6 x7 g003 r1,2<=Ln g003,Ln r1=Ln g003]:=by kernel_rfl
abbrev xHX(v0 v1:Int):Prop:=iN (dc (v0<v1))
def xRI(x6 x7 g003):rS 3 xJh (xJH x6 x7 g003) [F] []=dn (xBc g003) [xHX x6 x7]:=by kernel_rfl
def xRJ(a0 a1 a2):rE xJh (xB5 a0 a1 a2) [] []=st 3 xJh (xJH a0 (W (a1 - 1)) a2) []:=by kernel_rfl
theorem xTJ{N:Nat}:∀n x6 x7 g003 r,xBb N n x6 x7 g003=some r->RS Tryz.f148 xJh 3 (xJH x6 x7 g003) (xBc r):=by
 intro n
 induction n with
 |zero=>exact fun _ _ _ _ h=>nE h
 |succ n ih=>
  exact fun x6 x7 g003 r h=>cE h (fun h0 h=>bE h fun r1 h1 h=>iE h fun h2 h=>iE h fun h3 h=>tS xLO (xRH x6 x7 g003 r1) (oc4 h0 (xAg h1) h2 h3 on) (ih _ _ _ _ h)) fun h0 h=>dS h xLO (xRI x6 x7 g003) (oc h0 on)
theorem xTK{N:Nat}:∀a0 a1 a2 r,xBP N a0 a1 a2=some r->RE Tryz.f148 xJh (xB5 a0 a1 a2) (xBc r):=fun a0 a1 a2 r h=>tE xLO (xRJ a0 a1 a2) on (xTJ _ _ _ _ _ h)
theorem xGp{N:Nat}{a0:Int}{a1:Int}{a2:List Org}{r:(List Org)}(h:xBP N  a0 a1 a2=some r):AbC 148 (xB5 a0 a1 a2) (xBc r):=
 AbsCalls.of_reach xLO rfl rfl rfl (jL rfl) (xTK a0 a1 a2 r h)
noncomputable def xHr:Info:= { body:=(Tryz.f146.body).getD .skip,nt:=54,results:=[],keep:=[0,2,4,6,12,14,16,18,20,30,66,86,2000006,7,15,2000007],live:=[(6,[2,6,12,14,16,18,2000006,7,15,2000007])],modes:=[(8,[(1,.take,false)])],ext:=[1000003] }
theorem xJL:FnOk Tryz.prog 146 Tryz.f146 xHr:=by refine⟨Tryz.func146,?_,?_,?_,?_⟩<;>kernel_rfl
def xHK(x1 x6 x8 x9 b7:Int)(g003:List Org):St:=[(2,.v false [.int .i64 x1]),(6,.v false [.ptr 3 0]),(12,.v false [.int .i64 x6]),(14,.v false [.ptr 7 0]),(16,.v false [.int .u64 x8]),(18,.v false [.int .i64 x9]),(7,.v true [.clo 64 [1000003],.swp 141 0 (.pointer (some ⟨0,80,none⟩)) 1000003]),(15,.v true [.int .u64 b7]),(2000007,.v true [.sl (.lnt 0) .org g003])]
abbrev xSo(v0 v1 v2:Int):=dc (v0<=(W ((W (v1+(W ((W (Int.tdiv v2 4))*2))))+1)))
abbrev xPo(v0:Int×Int)(v1:Int):=W ((andI .u64 v0.1 (IntKind.u64.wrap (v1 - 1))))
def xRt(x1 x6 x8 x9 b7 g003 r1 r2):rS 6 xHr (xHK x1 x6 x8 x9 b7 g003) [Y,Y] [xCP r1,xAa r2]=st 6 xHr (xHK x1 x6 x8 (W (x9+1)) r1.2 r2) [4≠(0:Int),iY (xSo x9 x1 x6),AbC 168 (xEf b7) (xCP r1),iY (dc (((xPo r1 x8):Int)>=x6)),AbC 141 (xAn x9 (W (x1+(W ((xPo r1 x8) - x6)))) g003) (xAa r2),2<=Ln g003,Ln r2=Ln g003]:=by kernel_rfl
def xRu(x1 x6 x8 x9 b7 g003 r1 r2):rS 6 xHr (xHK x1 x6 x8 x9 b7 g003) [Y,F] [xCP r1,xAa r2]=st 6 xHr (xHK x1 x6 x8 (W (x9+1)) r1.2 r2) [4≠(0:Int),iY (xSo x9 x1 x6),AbC 168 (xEf b7) (xCP r1),iN (dc (((xPo r1 x8):Int)>=x6)),AbC 141 (xAn x9 (W (x1+(xPo r1 x8))) g003) (xAa r2),2<=Ln g003,Ln r2=Ln g003]:=by kernel_rfl
def xRv(x1 x6 x8 x9 b7 g003):rS 6 xHr (xHK x1 x6 x8 x9 b7 g003) [F] []=dn (xAT g003) [4≠(0:Int),iN (xSo x9 x1 x6)]:=by kernel_rfl
abbrev xSN(v0 v1:Int):Prop:=iY (dc ((W (v0 - v1))>=8))
abbrev xMu(v0 v1:Int):=W (v0+(W ((W (Int.tdiv (W (v1 - v0)) 4))*2)))
def xRw(a0 a1 a2 r1):rE xHr (xBx a0 a1 a2) [Y] [xDU r1]=st 6 xHr (xHK a0 (W (a1 - a0)) r1 (W ((xMu a0 a1) - 1)) (IntKind.u64.wrap ((W (a1 - a0)))) a2) [xSN a1 a0,AbC 167 (xFc (W (a1 - a0))) (xDU r1),4≠(0:Int)]:=by kernel_rfl
def xRx(a0 a1 a2):rE xHr (xBx a0 a1 a2) [F] []=dn (xAT a2) [iN (dc ((W (a1 - a0))>=8))]:=by kernel_rfl
theorem xTG{N:Nat}:∀n x1 x6 x8 x9 b7 g003 r,xAS N n x1 x6 x8 x9 b7 g003=some r->RS Tryz.f146 xHr 6 (xHK x1 x6 x8 x9 b7 g003) (xAT r):=by
 intro n
 induction n with
 |zero=>exact fun _ _ _ _ _ _ _ h=>nE h
 |succ n ih=>
  exact fun x1 x6 x8 x9 b7 g003 r h=>cE h (fun h1 h=>bE h fun r1 h2 h=>cE h (fun h3 h=>bE h fun r2 h4 h=>iE h fun h5 h=>iE h fun h6 h=>tS xJL (xRt x1 x6 x8 x9 b7 g003 r1 r2) (oc7 (by decide) h1 (xIk h2) h3 (xAg h4) h5 h6 on) (ih _ _ _ _ _ _ _ h)) fun h3 h=>bE h fun r2 h4 h=>iE h fun h5 h=>iE h fun h6 h=>tS xJL (xRu x1 x6 x8 x9 b7 g003 r1 r2) (oc7 (by decide) h1 (xIk h2) h3 (xAg h4) h5 h6 on) (ih _ _ _ _ _ _ _ h)) fun h1 h=>dS h xJL (xRv x1 x6 x8 x9 b7 g003) (oc2 (by decide) h1 on)
theorem xTH{N:Nat}:∀a0 a1 a2 r,xBJ N a0 a1 a2=some r->RE Tryz.f146 xHr (xBx a0 a1 a2) (xAT r):=fun a0 a1 a2 r h=>cE h (fun h0 h=>bE h fun r1 h1 h=>tE xJL (xRw a0 a1 a2 r1) (oc3 h0 (xKv h1) (by decide) on) (xTG _ _ _ _ _ _ _ _ h)) fun h0 h=>dE h xJL (xRx a0 a1 a2) (oc h0 on)
theorem xGb{N:Nat}{a0:Int}{a1:Int}{a2:List Org}{r:(List Org)}(h:xBJ N  a0 a1 a2=some r):AbC 146 (xBx a0 a1 a2) (xAT r):=
 AbsCalls.of_reach xJL rfl rfl rfl (jL rfl) (xTH a0 a1 a2 r h)
noncomputable def I65:Info:= { body:=(Tryz.f65.body).getD .skip,nt:=24,results:=[.tmp 4],keep:=[0,2,4,6,8,5,7],live:=[],modes:=[(1,[(5,.take,false),(11,.take,false)])] }
theorem fk65:FnOk Tryz.prog 65 Tryz.f65 I65:=by refine⟨Tryz.func65,?_,?_,?_,?_⟩<;>kernel_rfl
def vCb(a0 a1):rE I65 (xCJ a0 a1) [Y] []=dn (xBR true) [iY (dc (a0.cell<a1.cell))]:=by kernel_rfl
def vCc(a0 a1):rE I65 (xCJ a0 a1) [F,Y] []=dn (xBR (dc (a0.row<a1.row))) [iN (dc (a0.cell<a1.cell)),iY (a0.cell==a1.cell)]:=by kernel_rfl
def vCd(a0 a1):rE I65 (xCJ a0 a1) [F,F] []=dn (xBR false) [iN (dc (a0.cell<a1.cell)),iN (a0.cell==a1.cell)]:=by kernel_rfl
theorem vFW{N:Nat}:∀a0 a1 r,xDZ N a0 a1=some r->RE Tryz.f65 I65 (xCJ a0 a1) (xBR r):=fun a0 a1 r h=>cE h (fun h0 h=>dE h fk65 (vCb a0 a1) (oc h0 on)) fun h0 h=>cE h (fun h1 h=>dE h fk65 (vCc a0 a1) (oc2 h0 h1 on)) fun h1 h=>dE h fk65 (vCd a0 a1) (oc2 h0 h1 on)
theorem xGV{N:Nat}{a0:Org}{a1:Org}{r:Bool}(h:xDZ N  a0 a1=some r):AbC 65 (xCJ a0 a1) (xBR r):=
 AbsCalls.of_reach fk65 rfl rfl rfl (jL rfl) (vFW a0 a1 r h)
noncomputable def xO2:Info:= { body:=(Tryz.f64.body).getD .skip,nt:=15,results:=[.tmp 5],keep:=[0,2,4,10,5],live:=[],modes:=[],ext:=[2] }
theorem xQZ:FnOk Tryz.prog 64 Tryz.f64 xO2:=by refine⟨Tryz.func64,?_,?_,?_,?_⟩<;>kernel_rfl
abbrev xDz(v0:Int)(v1:List Org):Prop:=(0:Int)<=v0/\v0<(Ln v1)
abbrev vAQ(v0:List Org)(v1:Int):=gD v0 (tN v1) Ty.org.dflt
abbrev xD0(v0:List Org)(v1:Int):=vAQ v0 v1
def xRM(a0 a1 a2 r1):rE xO2 (xAZ a0 a1 a2) [] [xBR r1]=dn (xAc (r1,a2)) [xDz a0 a2,xDz a1 a2,AbC 65 (xCJ (xD0 a2 a0) (xD0 a2 a1)) (xBR r1)]:=by kernel_rfl
theorem xTO{N:Nat}:∀a0 a1 a2 r,xAC N a0 a1 a2=some r->RE Tryz.f64 xO2 (xAZ a0 a1 a2) (xAc r):=fun a0 a1 a2 r h=>iE h fun h0 h=>iE h fun h1 h=>bE h fun r1 h2 h=>dE h xQZ (xRM a0 a1 a2 r1) (oc3 h0 h1 (xGV h2) on)
theorem xAh{N:Nat}{a0:Int}{a1:Int}{a2:List Org}{r:Bool×(List Org)}(h:xAC N  a0 a1 a2=some r):AbC 64 (xAZ a0 a1 a2) (xAc r):=
 AbsCalls.of_reach xQZ rfl rfl rfl (jL rfl) (xTO a0 a1 a2 r h)
noncomputable def xBC:Info:= { body:=(Tryz.f151.body).getD .skip,nt:=107,results:=[.tmp 8,.tmp 9],keep:=[0,2,4,6,8,16,18,20,22,60,86,96,146,172,182,2000008,9,2000009],live:=[(3,[2,8,20,22,2000008,9,2000009]),(5,[2,8,20,22,2000008,9,2000009]),(13,[2,8,20,22,2000008,9,2000009]),(15,[2,8,20,22,2000008,9,2000009])],modes:=[(3,[(3,.take,false)]),(5,[(3,.take,false)]),(13,[(3,.take,false)]),(15,[(3,.take,false)])],ext:=[1000004] }
theorem xC6:FnOk Tryz.prog 151 Tryz.f151 xBC:=by refine⟨Tryz.func151,?_,?_,?_,?_⟩<;>kernel_rfl
def xHI(x1 x10 x11:Int)(g004:List Org):St:=[(2,.v false [.int .i64 x1]),(8,.v false [.ptr 4 0]),(20,.v false [.int .i64 x10]),(22,.v false [.int .i64 x11]),(9,.v true [.clo 64 [1000004],.swp 141 0 (.pointer (some ⟨0,80,none⟩)) 1000004]),(2000009,.v true [.sl (.lnt 0) .org g004])]
def xFQ(x1 x10 x11:Int)(g004:List Org):St:=[(2,.v false [.int .i64 x1]),(8,.v false [.ptr 4 0]),(20,.v false [.int .i64 x10]),(22,.v false [.int .i64 x11]),(9,.v true [.clo 64 [1000004],.swp 141 0 (.pointer (some ⟨0,80,none⟩)) 1000004]),(2000009,.v true [.sl (.lnt 0) .org g004])]
def xEA(x1 x10 x11:Int)(g004:List Org):St:=[(2,.v false [.int .i64 x1]),(8,.v false [.ptr 4 0]),(20,.v false [.int .i64 x10]),(22,.v false [.int .i64 x11]),(9,.v true [.clo 64 [1000004],.swp 141 0 (.pointer (some ⟨0,80,none⟩)) 1000004]),(2000009,.v true [.sl (.lnt 0) .org g004])]
def xFm(x1 x10 x11:Int)(g004:List Org):St:=[(2,.v false [.int .i64 x1]),(8,.v false [.ptr 4 0]),(20,.v false [.int .i64 x10]),(22,.v false [.int .i64 x11]),(9,.v true [.clo 64 [1000004],.swp 141 0 (.pointer (some ⟨0,80,none⟩)) 1000004]),(2000009,.v true [.sl (.lnt 0) .org g004])]
abbrev xK3(v0 v1:Int):Prop:=iY (dc (v0<=v1))
abbrev xKH(v0 v1:Int)(v2:List Org)(v3:Bool×(List Org)):Prop:=AbC 64 (xAZ v0 v1 v2) (xAc v3)
def xOm(x1 x10 x11 g004 r1):rS 15 xBC (xFm x1 x10 x11 g004) [Y,Y] [xAc r1]=st 15 xBC (xFm x1 x10 (W (x11 - 1)) r1.2) [xK3 x10 x11,xKH x11 x1 g004 r1,iY (!r1.1)]:=by kernel_rfl
def xOn(x1 x10 x11 g004 r1 r2):rS 15 xBC (xFm x1 x10 x11 g004) [Y,F,Y] [xAc r1,xAa r2]=dn (xAo (x11,false,r2)) [xK3 x10 x11,xKH x11 x1 g004 r1,iN (!r1.1),iY (dc (x10>x11)),AbC 141 (xAn x11 x1 r1.2) (xAa r2),2<=Ln r1.2,Ln r2=Ln r1.2]:=by kernel_rfl
def xOo(x1 x10 x11 g004 r1 r2):rS 15 xBC (xFm x1 x10 x11 g004) [Y,F,F] [xAc r1,xAa r2]=st 13 xBC (xEA x1 (W (x10+1)) (W (x11 - 1)) r2) [xK3 x10 x11,xKH x11 x1 g004 r1,iN (!r1.1),iN (dc (x10>x11)),AbC 141 (xAn x10 x11 r1.2) (xAa r2),2<=Ln r1.2,Ln r2=Ln r1.2]:=by kernel_rfl
abbrev xOi(v0 v1:Int):Prop:=iN (dc (v0<=v1))
def xOp(x1 x10 x11 g004 r1):rS 15 xBC (xFm x1 x10 x11 g004) [F,F,Y] [xAa r1]=dn (xAo (x11,false,r1)) [xOi x10 x11,iN false,iY (dc (x10>x11)),xQ8 x11 x1 g004 r1,2<=Ln g004,Ln r1=Ln g004]:=by kernel_rfl
def xOq(x1 x10 x11 g004 r1):rS 15 xBC (xFm x1 x10 x11 g004) [F,F,F] [xAa r1]=st 13 xBC (xEA x1 (W (x10+1)) (W (x11 - 1)) r1) [xOi x10 x11,iN false,iN (dc (x10>x11)),xQ8 x10 x11 g004 r1,2<=Ln g004,Ln r1=Ln g004]:=by kernel_rfl
def xOj(x1 x10 x11 g004 r1):rS 13 xBC (xEA x1 x10 x11 g004) [Y,Y] [xAc r1]=st 13 xBC (xEA x1 (W (x10+1)) x11 r1.2) [xK3 x10 x11,xKH x10 x1 g004 r1,iY r1.1]:=by kernel_rfl
def xOk(x1 x10 x11 g004 r1):rS 13 xBC (xEA x1 x10 x11 g004) [Y,F] [xAc r1]=st 15 xBC (xFm x1 x10 x11 r1.2) [xK3 x10 x11,xKH x10 x1 g004 r1,iN r1.1]:=by kernel_rfl
def xOl(x1 x10 x11 g004):rS 13 xBC (xEA x1 x10 x11 g004) [F,F] []=st 15 xBC (xFm x1 x10 x11 g004) [xOi x10 x11,iN false]:=by kernel_rfl
def xPO(x1 x10 x11 g004 r1):rS 5 xBC (xFQ x1 x10 x11 g004) [Y,Y] [xAc r1]=st 5 xBC (xFQ x1 x10 (W (x11 - 1)) r1.2) [xK3 x10 x11,xKH x11 x1 g004 r1,iY (!r1.1)]:=by kernel_rfl
def xPP(x1 x10 x11 g004 r1 r2):rS 5 xBC (xFQ x1 x10 x11 g004) [Y,F,Y] [xAc r1,xAa r2]=dn (xAo (x11,true,r2)) [xK3 x10 x11,xKH x11 x1 g004 r1,iN (!r1.1),iY (dc (x10>x11)),AbC 141 (xAn x11 x1 r1.2) (xAa r2),2<=Ln r1.2,Ln r2=Ln r1.2]:=by kernel_rfl
def xOu(x1 x10 x11 g004 r1 r2):rS 5 xBC (xFQ x1 x10 x11 g004) [Y,F,F] [xAc r1,xAa r2]=st 13 xBC (xEA x1 (W (x10+1)) (W (x11 - 1)) r2) [xK3 x10 x11,xKH x11 x1 g004 r1,iN (!r1.1),iN (dc (x10>x11)),AbC 141 (xAn x10 x11 r1.2) (xAa r2),2<=Ln r1.2,Ln r2=Ln r1.2]:=by kernel_rfl
def xOv(x1 x10 x11 g004 r1):rS 5 xBC (xFQ x1 x10 x11 g004) [F,F,Y] [xAa r1]=dn (xAo (x11,true,r1)) [xOi x10 x11,iN false,iY (dc (x10>x11)),xQ8 x11 x1 g004 r1,2<=Ln g004,Ln r1=Ln g004]:=by kernel_rfl
def xOw(x1 x10 x11 g004 r1):rS 5 xBC (xFQ x1 x10 x11 g004) [F,F,F] [xAa r1]=st 13 xBC (xEA x1 (W (x10+1)) (W (x11 - 1)) r1) [xOi x10 x11,iN false,iN (dc (x10>x11)),xQ8 x10 x11 g004 r1,2<=Ln g004,Ln r1=Ln g004]:=by kernel_rfl
def xOr(x1 x10 x11 g004 r1):rS 3 xBC (xHI x1 x10 x11 g004) [Y,Y] [xAc r1]=st 3 xBC (xHI x1 (W (x10+1)) x11 r1.2) [xK3 x10 x11,xKH x10 x1 g004 r1,iY r1.1]:=by kernel_rfl
def xOs(x1 x10 x11 g004 r1):rS 3 xBC (xHI x1 x10 x11 g004) [Y,F] [xAc r1]=st 5 xBC (xFQ x1 x10 x11 r1.2) [xK3 x10 x11,xKH x10 x1 g004 r1,iN r1.1]:=by kernel_rfl
def xOt(x1 x10 x11 g004):rS 3 xBC (xHI x1 x10 x11 g004) [F,F] []=st 5 xBC (xFQ x1 x10 x11 g004) [xOi x10 x11,iN false]:=by kernel_rfl
def xOx(a0 a1 a2 a3 r1):rE xBC (xBO a0 a1 a2 a3) [] [xAa r1]=st 3 xBC (xHI a0 (W (a0+1)) (W (a1 - 1)) r1) [xQ8 a0 a2 a3 r1,2<=Ln a3,Ln r1=Ln a3]:=by kernel_rfl
theorem xMR{N:Nat}{k13:Int->Int->Int->(List Org)->Option (Int×Bool×(List Org))}(hk13:∀z0 z1 z2 z3 r,k13 z0 z1 z2 z3=some r->RS Tryz.f151 xBC 13 (xEA z0 z1 z2 z3) (xAo r)):∀n x1 x10 x11 g004 r,xAM N k13 n x1 x10 x11 g004=some r->RS Tryz.f151 xBC 15 (xFm x1 x10 x11 g004) (xAo r):=by
 intro n
 induction n with
 |zero=>exact fun _ _ _ _ _ h=>nE h
 |succ n ih=>
  exact fun x1 x10 x11 g004 r h=>cE h (fun h0 h=>bE h fun r1 h1 h=>cE h (fun h2 h=>tS xC6 (xOm x1 x10 x11 g004 r1) (oc3 h0 (xAh h1) h2 on) (ih _ _ _ _ _ h)) fun h2 h=>cE h (fun h3 h=>bE h fun r2 h4 h=>iE h fun h5 h=>iE h fun h6 h=>dS h xC6 (xOn x1 x10 x11 g004 r1 r2) (oc7 h0 (xAh h1) h2 h3 (xAg h4) h5 h6 on)) fun h3 h=>bE h fun r2 h4 h=>iE h fun h5 h=>iE h fun h6 h=>tS xC6 (xOo x1 x10 x11 g004 r1 r2) (oc7 h0 (xAh h1) h2 h3 (xAg h4) h5 h6 on) (hk13 _ _ _ _ _ h)) fun h0 h=>cE h (fun h2 h=>bE h fun r1 h3 h=>iE h fun h4 h=>iE h fun h5 h=>dS h xC6 (xOp x1 x10 x11 g004 r1) (oc6 h0 rfl h2 (xAg h3) h4 h5 on)) fun h2 h=>bE h fun r1 h3 h=>iE h fun h4 h=>iE h fun h5 h=>tS xC6 (xOq x1 x10 x11 g004 r1) (oc6 h0 rfl h2 (xAg h3) h4 h5 on) (hk13 _ _ _ _ _ h)
theorem xMQ{N:Nat}:∀n x1 x10 x11 g004 r,xAy N n x1 x10 x11 g004=some r->RS Tryz.f151 xBC 13 (xEA x1 x10 x11 g004) (xAo r):=by
 intro n
 induction n with
 |zero=>exact fun _ _ _ _ _ h=>nE h
 |succ n ih=>
  exact fun x1 x10 x11 g004 r h=>cE h (fun h0 h=>bE h fun r1 h1 h=>cE h (fun h2 h=>tS xC6 (xOj x1 x10 x11 g004 r1) (oc3 h0 (xAh h1) h2 on) (ih _ _ _ _ _ h)) fun h2 h=>tS xC6 (xOk x1 x10 x11 g004 r1) (oc3 h0 (xAh h1) h2 on) (xMR ih _ _ _ _ _ _ h)) fun h0 h=>tS xC6 (xOl x1 x10 x11 g004) (oc2 h0 rfl on) (xMR ih _ _ _ _ _ _ h)
theorem xNn{N:Nat}:∀n x1 x10 x11 g004 r,xAR N n x1 x10 x11 g004=some r->RS Tryz.f151 xBC 5 (xFQ x1 x10 x11 g004) (xAo r):=by
 intro n
 induction n with
 |zero=>exact fun _ _ _ _ _ h=>nE h
 |succ n ih=>
  exact fun x1 x10 x11 g004 r h=>cE h (fun h0 h=>bE h fun r1 h1 h=>cE h (fun h2 h=>tS xC6 (xPO x1 x10 x11 g004 r1) (oc3 h0 (xAh h1) h2 on) (ih _ _ _ _ _ h)) fun h2 h=>cE h (fun h3 h=>bE h fun r2 h4 h=>iE h fun h5 h=>iE h fun h6 h=>dS h xC6 (xPP x1 x10 x11 g004 r1 r2) (oc7 h0 (xAh h1) h2 h3 (xAg h4) h5 h6 on)) fun h3 h=>bE h fun r2 h4 h=>iE h fun h5 h=>iE h fun h6 h=>tS xC6 (xOu x1 x10 x11 g004 r1 r2) (oc7 h0 (xAh h1) h2 h3 (xAg h4) h5 h6 on) (xMQ _ _ _ _ _ _ h)) fun h0 h=>cE h (fun h2 h=>bE h fun r1 h3 h=>iE h fun h4 h=>iE h fun h5 h=>dS h xC6 (xOv x1 x10 x11 g004 r1) (oc6 h0 rfl h2 (xAg h3) h4 h5 on)) fun h2 h=>bE h fun r1 h3 h=>iE h fun h4 h=>iE h fun h5 h=>tS xC6 (xOw x1 x10 x11 g004 r1) (oc6 h0 rfl h2 (xAg h3) h4 h5 on) (xMQ _ _ _ _ _ _ h)
theorem xR2{N:Nat}:∀n x1 x10 x11 g004 r,xBn N n x1 x10 x11 g004=some r->RS Tryz.f151 xBC 3 (xHI x1 x10 x11 g004) (xAo r):=by
 intro n
 induction n with
 |zero=>exact fun _ _ _ _ _ h=>nE h
 |succ n ih=>
  exact fun x1 x10 x11 g004 r h=>cE h (fun h0 h=>bE h fun r1 h1 h=>cE h (fun h2 h=>tS xC6 (xOr x1 x10 x11 g004 r1) (oc3 h0 (xAh h1) h2 on) (ih _ _ _ _ _ h)) fun h2 h=>tS xC6 (xOs x1 x10 x11 g004 r1) (oc3 h0 (xAh h1) h2 on) (xNn _ _ _ _ _ _ h)) fun h0 h=>tS xC6 (xOt x1 x10 x11 g004) (oc2 h0 rfl on) (xNn _ _ _ _ _ _ h)
theorem xR3{N:Nat}:∀a0 a1 a2 a3 r,xB3 N a0 a1 a2 a3=some r->RE Tryz.f151 xBC (xBO a0 a1 a2 a3) (xAo r):=fun a0 a1 a2 a3 r h=>bE h fun r1 h0 h=>iE h fun h1 h=>iE h fun h2 h=>tE xC6 (xOx a0 a1 a2 a3 r1) (oc3 (xAg h0) h1 h2 on) (xR2 _ _ _ _ _ _ h)
theorem xEm{N:Nat}{a0:Int}{a1:Int}{a2:Int}{a3:List Org}{r:Int×Bool×(List Org)}(h:xB3 N  a0 a1 a2 a3=some r):AbC 151 (xBO a0 a1 a2 a3) (xAo r):=
 AbsCalls.of_reach xC6 rfl rfl rfl (jL rfl) (xR3 a0 a1 a2 a3 r h)
noncomputable def xC7:Info:= { body:=(Tryz.f150.body).getD .skip,nt:=58,results:=[.tmp 8],keep:=[0,2,4,6,8,16,18,20,60,84,94,2000008,9,2000009],live:=[(3,[2,8,18,20,2000008,9,2000009]),(5,[2,8,18,20,2000008,9,2000009])],modes:=[(3,[(3,.take,false)]),(5,[(3,.take,false)])],ext:=[1000004] }
theorem xGf:FnOk Tryz.prog 150 Tryz.f150 xC7:=by refine⟨Tryz.func150,?_,?_,?_,?_⟩<;>kernel_rfl
def xFO(x1 x9 x10:Int)(g004:List Org):St:=[(2,.v false [.int .i64 x1]),(8,.v false [.ptr 4 0]),(18,.v false [.int .i64 x9]),(20,.v false [.int .i64 x10]),(9,.v true [.clo 64 [1000004],.swp 141 0 (.pointer (some ⟨0,80,none⟩)) 1000004]),(2000009,.v true [.sl (.lnt 0) .org g004])]
def xFP(x1 x9 x10:Int)(g004:List Org):St:=[(2,.v false [.int .i64 x1]),(8,.v false [.ptr 4 0]),(18,.v false [.int .i64 x9]),(20,.v false [.int .i64 x10]),(9,.v true [.clo 64 [1000004],.swp 141 0 (.pointer (some ⟨0,80,none⟩)) 1000004]),(2000009,.v true [.sl (.lnt 0) .org g004])]
def xPI(x1 x9 x10 g004 r1):rS 5 xC7 (xFP x1 x9 x10 g004) [Y,Y] [xAc r1]=st 5 xC7 (xFP x1 x9 (W (x10 - 1)) r1.2) [xK3 x9 x10,xKH x1 x10 g004 r1,iY r1.1]:=by kernel_rfl
def xPJ(x1 x9 x10 g004 r1):rS 5 xC7 (xFP x1 x9 x10 g004) [Y,F,Y] [xAc r1]=dn (xAw (x9,r1.2)) [xK3 x9 x10,xKH x1 x10 g004 r1,iN r1.1,iY (dc (x9>x10))]:=by kernel_rfl
def xPK(x1 x9 x10 g004 r1 r2):rS 5 xC7 (xFP x1 x9 x10 g004) [Y,F,F] [xAc r1,xAa r2]=st 3 xC7 (xFO x1 (W (x9+1)) (W (x10 - 1)) r2) [xK3 x9 x10,xKH x1 x10 g004 r1,iN r1.1,iN (dc (x9>x10)),AbC 141 (xAn x9 x10 r1.2) (xAa r2),2<=Ln r1.2,Ln r2=Ln r1.2]:=by kernel_rfl
def xPL(x1 x9 x10 g004):rS 5 xC7 (xFP x1 x9 x10 g004) [F,F,Y] []=dn (xAw (x9,g004)) [xOi x9 x10,iN false,iY (dc (x9>x10))]:=by kernel_rfl
def xPM(x1 x9 x10 g004 r1):rS 5 xC7 (xFP x1 x9 x10 g004) [F,F,F] [xAa r1]=st 3 xC7 (xFO x1 (W (x9+1)) (W (x10 - 1)) r1) [xOi x9 x10,iN false,iN (dc (x9>x10)),xQ8 x9 x10 g004 r1,2<=Ln g004,Ln r1=Ln g004]:=by kernel_rfl
def xPF(x1 x9 x10 g004 r1):rS 3 xC7 (xFO x1 x9 x10 g004) [Y,Y] [xAc r1]=st 3 xC7 (xFO x1 (W (x9+1)) x10 r1.2) [xK3 x9 x10,xKH x1 x9 g004 r1,iY (!r1.1)]:=by kernel_rfl
def xPG(x1 x9 x10 g004 r1):rS 3 xC7 (xFO x1 x9 x10 g004) [Y,F] [xAc r1]=st 5 xC7 (xFP x1 x9 x10 r1.2) [xK3 x9 x10,xKH x1 x9 g004 r1,iN (!r1.1)]:=by kernel_rfl
def xPH(x1 x9 x10 g004):rS 3 xC7 (xFO x1 x9 x10 g004) [F,F] []=st 5 xC7 (xFP x1 x9 x10 g004) [xOi x9 x10,iN false]:=by kernel_rfl
def xPN(a0 a1 a2 a3 r1):rE xC7 (xBX a0 a1 a2 a3) [] [xAa r1]=st 3 xC7 (xFO a0 (W (a0+1)) (W (a1 - 1)) r1) [xQ8 a0 a2 a3 r1,2<=Ln a3,Ln r1=Ln a3]:=by kernel_rfl
theorem xNm{N:Nat}{k3:Int->Int->Int->(List Org)->Option (Int×(List Org))}(hk3:∀z0 z1 z2 z3 r,k3 z0 z1 z2 z3=some r->RS Tryz.f150 xC7 3 (xFO z0 z1 z2 z3) (xAw r)):∀n x1 x9 x10 g004 r,xAF N k3 n x1 x9 x10 g004=some r->RS Tryz.f150 xC7 5 (xFP x1 x9 x10 g004) (xAw r):=by
 intro n
 induction n with
 |zero=>exact fun _ _ _ _ _ h=>nE h
 |succ n ih=>
  exact fun x1 x9 x10 g004 r h=>cE h (fun h0 h=>bE h fun r1 h1 h=>cE h (fun h2 h=>tS xGf (xPI x1 x9 x10 g004 r1) (oc3 h0 (xAh h1) h2 on) (ih _ _ _ _ _ h)) fun h2 h=>cE h (fun h3 h=>dS h xGf (xPJ x1 x9 x10 g004 r1) (oc4 h0 (xAh h1) h2 h3 on)) fun h3 h=>bE h fun r2 h4 h=>iE h fun h5 h=>iE h fun h6 h=>tS xGf (xPK x1 x9 x10 g004 r1 r2) (oc7 h0 (xAh h1) h2 h3 (xAg h4) h5 h6 on) (hk3 _ _ _ _ _ h)) fun h0 h=>cE h (fun h2 h=>dS h xGf (xPL x1 x9 x10 g004) (oc3 h0 rfl h2 on)) fun h2 h=>bE h fun r1 h3 h=>iE h fun h4 h=>iE h fun h5 h=>tS xGf (xPM x1 x9 x10 g004 r1) (oc6 h0 rfl h2 (xAg h3) h4 h5 on) (hk3 _ _ _ _ _ h)
theorem xR0{N:Nat}:∀n x1 x9 x10 g004 r,xAE N n x1 x9 x10 g004=some r->RS Tryz.f150 xC7 3 (xFO x1 x9 x10 g004) (xAw r):=by
 intro n
 induction n with
 |zero=>exact fun _ _ _ _ _ h=>nE h
 |succ n ih=>
  exact fun x1 x9 x10 g004 r h=>cE h (fun h0 h=>bE h fun r1 h1 h=>cE h (fun h2 h=>tS xGf (xPF x1 x9 x10 g004 r1) (oc3 h0 (xAh h1) h2 on) (ih _ _ _ _ _ h)) fun h2 h=>tS xGf (xPG x1 x9 x10 g004 r1) (oc3 h0 (xAh h1) h2 on) (xNm ih _ _ _ _ _ _ h)) fun h0 h=>tS xGf (xPH x1 x9 x10 g004) (oc2 h0 rfl on) (xNm ih _ _ _ _ _ _ h)
theorem xR1{N:Nat}:∀a0 a1 a2 a3 r,xBH N a0 a1 a2 a3=some r->RE Tryz.f150 xC7 (xBX a0 a1 a2 a3) (xAw r):=fun a0 a1 a2 a3 r h=>bE h fun r1 h0 h=>iE h fun h1 h=>iE h fun h2 h=>tE xGf (xPN a0 a1 a2 a3 r1) (oc3 (xAg h0) h1 h2 on) (xR0 _ _ _ _ _ _ h)
theorem xFX{N:Nat}{a0:Int}{a1:Int}{a2:Int}{a3:List Org}{r:Int×(List Org)}(h:xBH N  a0 a1 a2 a3=some r):AbC 150 (xBX a0 a1 a2 a3) (xAw r):=
 AbsCalls.of_reach xGf rfl rfl rfl (jL rfl) (xR1 a0 a1 a2 a3 r h)
noncomputable def xBt:Info:= { body:=(Tryz.f149.body).getD .skip,nt:=91,results:=[.tmp 6],keep:=[0,2,4,6,12,14,16,18,20,28,56,66,74,94,102,120,140,150,168,2000006,7,2000007],live:=[(3,[2,4,6,14,16,2000006,7,2000007]),(5,[2,4,6,14,16,2000006,7,2000007]),(7,[2,4,6,14,16,2000006,7,2000007]),(14,[2,4,6,14,16,18,2000006,7,2000007]),(18,[2,4,6,14,16,2000006,7,2000007]),(20,[2,4,6,14,16,20,2000006,7,2000007])],modes:=[(5,[(3,.take,false)])],ext:=[1000003] }
theorem xDv:FnOk Tryz.prog 149 Tryz.f149 xBt:=by refine⟨Tryz.func149,?_,?_,?_,?_⟩<;>kernel_rfl
def xFg(x1 x2 x7 x8:Int)(g003:List Org):St:=[(2,.v false [.int .i64 x1]),(4,.v false [.int .i64 x2]),(6,.v false [.ptr 3 0]),(14,.v false [.int .i64 x7]),(16,.v false [.int .i64 x8]),(7,.v true [.clo 64 [1000003],.swp 141 0 (.pointer (some ⟨0,80,none⟩)) 1000003]),(2000007,.v true [.sl (.lnt 0) .org g003])]
def xID(x1 x2 x7 x8:Int)(g003:List Org):St:=[(2,.v false [.int .i64 x1]),(4,.v false [.int .i64 x2]),(6,.v false [.ptr 3 0]),(14,.v false [.int .i64 x7]),(16,.v false [.int .i64 x8]),(7,.v true [.clo 64 [1000003],.swp 141 0 (.pointer (some ⟨0,80,none⟩)) 1000003]),(2000007,.v true [.sl (.lnt 0) .org g003])]
def xHO(x1 x2 x7 x8:Int)(g003:List Org):St:=[(2,.v false [.int .i64 x1]),(4,.v false [.int .i64 x2]),(6,.v false [.ptr 3 0]),(14,.v false [.int .i64 x7]),(16,.v false [.int .i64 x8]),(7,.v true [.clo 64 [1000003],.swp 141 0 (.pointer (some ⟨0,80,none⟩)) 1000003]),(2000007,.v true [.sl (.lnt 0) .org g003])]
def xHL(x1 x2 x7 x8 x9:Int)(g003:List Org):St:=[(2,.v false [.int .i64 x1]),(4,.v false [.int .i64 x2]),(6,.v false [.ptr 3 0]),(14,.v false [.int .i64 x7]),(16,.v false [.int .i64 x8]),(18,.v false [.int .i64 x9]),(7,.v true [.clo 64 [1000003],.swp 141 0 (.pointer (some ⟨0,80,none⟩)) 1000003]),(2000007,.v true [.sl (.lnt 0) .org g003])]
def xHM(x1 x2 x7 x8:Int)(g003:List Org):St:=[(2,.v false [.int .i64 x1]),(4,.v false [.int .i64 x2]),(6,.v false [.ptr 3 0]),(14,.v false [.int .i64 x7]),(16,.v false [.int .i64 x8]),(7,.v true [.clo 64 [1000003],.swp 141 0 (.pointer (some ⟨0,80,none⟩)) 1000003]),(2000007,.v true [.sl (.lnt 0) .org g003])]
def xHN(x1 x2 x7 x8 x10:Int)(g003:List Org):St:=[(2,.v false [.int .i64 x1]),(4,.v false [.int .i64 x2]),(6,.v false [.ptr 3 0]),(14,.v false [.int .i64 x7]),(16,.v false [.int .i64 x8]),(20,.v false [.int .i64 x10]),(7,.v true [.clo 64 [1000003],.swp 141 0 (.pointer (some ⟨0,80,none⟩)) 1000003]),(2000007,.v true [.sl (.lnt 0) .org g003])]
abbrev xRd(v0:Int)(v1:List Org)(v2:Bool×(List Org)):Prop:=AbC 64 (xAZ v0 (W (v0 - 1)) v1) (xAc v2)
def xQm(x1 x2 x7 x8 x10 g003 r1):rS 20 xBt (xHN x1 x2 x7 x8 x10 g003) [Y,Y] [xAc r1]=st 3 xBt (xFg x1 x2 x7 (W (x8+1)) r1.2) [xFK x10 x2,xRd x10 g003 r1,iY (!r1.1)]:=by kernel_rfl
def xQn(x1 x2 x7 x8 x10 g003 r1 r2):rS 20 xBt (xHN x1 x2 x7 x8 x10 g003) [Y,F] [xAc r1,xAa r2]=st 20 xBt (xHN x1 x2 x7 x8 (W (x10+1)) r2) [xFK x10 x2,xRd x10 g003 r1,iN (!r1.1),AbC 141 (xAn x10 (W (x10 - 1)) r1.2) (xAa r2),2<=Ln r1.2,Ln r2=Ln r1.2]:=by kernel_rfl
def xQo(x1 x2 x7 x8 x10 g003):rS 20 xBt (xHN x1 x2 x7 x8 x10 g003) [F] []=st 3 xBt (xFg x1 x2 x7 (W (x8+1)) g003) [xHX x10 x2]:=by kernel_rfl
def xQk(x1 x2 x7 x8 g003):rS 18 xBt (xHM x1 x2 x7 x8 g003) [Y] []=st 20 xBt (xHN x1 x2 x7 x8 (W (x7+1)) g003) [iY (dc ((W (x2 - x7))>=2))]:=by kernel_rfl
def xQl(x1 x2 x7 x8 g003):rS 18 xBt (xHM x1 x2 x7 x8 g003) [F] []=st 3 xBt (xFg x1 x2 x7 (W (x8+1)) g003) [iN (dc ((W (x2 - x7))>=2))]:=by kernel_rfl
def xQh(x1 x2 x7 x8 x9 g003 r1):rS 14 xBt (xHL x1 x2 x7 x8 x9 g003) [Y,Y] [xAc r1]=st 18 xBt (xHM x1 x2 x7 x8 r1.2) [iY (dc (x9>=1)),xRd x9 g003 r1,iY (!r1.1)]:=by kernel_rfl
def xQi(x1 x2 x7 x8 x9 g003 r1 r2):rS 14 xBt (xHL x1 x2 x7 x8 x9 g003) [Y,F] [xAc r1,xAa r2]=st 14 xBt (xHL x1 x2 x7 x8 (W (x9 - 1)) r2) [iY (dc (x9>=1)),xRd x9 g003 r1,iN (!r1.1),AbC 141 (xAn x9 (W (x9 - 1)) r1.2) (xAa r2),2<=Ln r1.2,Ln r2=Ln r1.2]:=by kernel_rfl
def xQj(x1 x2 x7 x8 x9 g003):rS 14 xBt (xHL x1 x2 x7 x8 x9 g003) [F] []=st 18 xBt (xHM x1 x2 x7 x8 g003) [iN (dc (x9>=1))]:=by kernel_rfl
def xRK(x1 x2 x7 x8 g003):rS 7 xBt (xHO x1 x2 x7 x8 g003) [Y] []=dn (xAd (true,g003)) [iY (x7==x2)]:=by kernel_rfl
def xRL(x1 x2 x7 x8 g003):rS 7 xBt (xHO x1 x2 x7 x8 g003) [F,Y] []=dn (xAd (false,g003)) [iN (x7==x2),iY (dc ((W (x2 - x1))<50))]:=by kernel_rfl
def xQu(x1 x2 x7 x8 g003 r1):rS 7 xBt (xHO x1 x2 x7 x8 g003) [F,F,Y] [xAa r1]=st 14 xBt (xHL x1 x2 x7 x8 (W (x7 - 1)) r1) [iN (x7==x2),iN (dc ((W (x2 - x1))<50)),AbC 141 (xAn x7 (W (x7 - 1)) g003) (xAa r1),2<=Ln g003,Ln r1=Ln g003,iY (dc ((W (x7 - x1))>=2))]:=by kernel_rfl
def xQv(x1 x2 x7 x8 g003 r1):rS 7 xBt (xHO x1 x2 x7 x8 g003) [F,F,F] [xAa r1]=st 18 xBt (xHM x1 x2 x7 x8 r1) [iN (x7==x2),iN (dc ((W (x2 - x1))<50)),AbC 141 (xAn x7 (W (x7 - 1)) g003) (xAa r1),2<=Ln g003,Ln r1=Ln g003,iN (dc ((W (x7 - x1))>=2))]:=by kernel_rfl
def xQr(x1 x2 x7 x8 g003 r1):rS 5 xBt (xID x1 x2 x7 x8 g003) [Y,Y] [xAc r1]=st 5 xBt (xID x1 x2 (W (x7+1)) x8 r1.2) [xFK x7 x2,xRd x7 g003 r1,iY (!r1.1)]:=by kernel_rfl
def xQs(x1 x2 x7 x8 g003 r1):rS 5 xBt (xID x1 x2 x7 x8 g003) [Y,F] [xAc r1]=st 7 xBt (xHO x1 x2 x7 x8 r1.2) [xFK x7 x2,xRd x7 g003 r1,iN (!r1.1)]:=by kernel_rfl
def xQt(x1 x2 x7 x8 g003):rS 5 xBt (xID x1 x2 x7 x8 g003) [F,F] []=st 7 xBt (xHO x1 x2 x7 x8 g003) [xHX x7 x2,iN false]:=by kernel_rfl
def xQp(x1 x2 x7 x8 g003):rS 3 xBt (xFg x1 x2 x7 x8 g003) [Y] []=st 5 xBt (xID x1 x2 x7 x8 g003) [iY (dc (x8<5))]:=by kernel_rfl
def xQq(x1 x2 x7 x8 g003):rS 3 xBt (xFg x1 x2 x7 x8 g003) [F] []=dn (xAd (false,g003)) [iN (dc (x8<5))]:=by kernel_rfl
def xQw(a0 a1 a2):rE xBt (xA1 a0 a1 a2) [] []=st 3 xBt (xFg a0 a1 (W (a0+1)) 0 a2) []:=by kernel_rfl
theorem xSa{N:Nat}{k3:Int->Int->Int->Int->(List Org)->Option (Bool×(List Org))}(hk3:∀z0 z1 z2 z3 z4 r,k3 z0 z1 z2 z3 z4=some r->RS Tryz.f149 xBt 3 (xFg z0 z1 z2 z3 z4) (xAd r)):∀n x1 x2 x7 x8 x10 g003 r,xAL N k3 n x1 x2 x7 x8 x10 g003=some r->RS Tryz.f149 xBt 20 (xHN x1 x2 x7 x8 x10 g003) (xAd r):=by
 intro n
 induction n with
 |zero=>exact fun _ _ _ _ _ _ _ h=>nE h
 |succ n ih=>
  exact fun x1 x2 x7 x8 x10 g003 r h=>cE h (fun h0 h=>bE h fun r1 h1 h=>cE h (fun h2 h=>tS xDv (xQm x1 x2 x7 x8 x10 g003 r1) (oc3 h0 (xAh h1) h2 on) (hk3 _ _ _ _ _ _ h)) fun h2 h=>bE h fun r2 h3 h=>iE h fun h4 h=>iE h fun h5 h=>tS xDv (xQn x1 x2 x7 x8 x10 g003 r1 r2) (oc6 h0 (xAh h1) h2 (xAg h3) h4 h5 on) (ih _ _ _ _ _ _ _ h)) fun h0 h=>tS xDv (xQo x1 x2 x7 x8 x10 g003) (oc h0 on) (hk3 _ _ _ _ _ _ h)
theorem xLi{N:Nat}{k3:Int->Int->Int->Int->(List Org)->Option (Bool×(List Org))}(hk3:∀z0 z1 z2 z3 z4 r,k3 z0 z1 z2 z3 z4=some r->RS Tryz.f149 xBt 3 (xFg z0 z1 z2 z3 z4) (xAd r)):∀x1 x2 x7 x8 g003 r,xAB N k3 x1 x2 x7 x8 g003=some r->RS Tryz.f149 xBt 18 (xHM x1 x2 x7 x8 g003) (xAd r):=fun x1 x2 x7 x8 g003 r h=>cE h (fun h0 h=>tS xDv (xQk x1 x2 x7 x8 g003) (oc h0 on) (xSa hk3 _ _ _ _ _ _ _ _ h)) fun h0 h=>tS xDv (xQl x1 x2 x7 x8 g003) (oc h0 on) (hk3 _ _ _ _ _ _ h)
theorem xR9{N:Nat}{k3:Int->Int->Int->Int->(List Org)->Option (Bool×(List Org))}(hk3:∀z0 z1 z2 z3 z4 r,k3 z0 z1 z2 z3 z4=some r->RS Tryz.f149 xBt 3 (xFg z0 z1 z2 z3 z4) (xAd r)):∀n x1 x2 x7 x8 x9 g003 r,xAK N k3 n x1 x2 x7 x8 x9 g003=some r->RS Tryz.f149 xBt 14 (xHL x1 x2 x7 x8 x9 g003) (xAd r):=by
 intro n
 induction n with
 |zero=>exact fun _ _ _ _ _ _ _ h=>nE h
 |succ n ih=>
  exact fun x1 x2 x7 x8 x9 g003 r h=>cE h (fun h0 h=>bE h fun r1 h1 h=>cE h (fun h2 h=>tS xDv (xQh x1 x2 x7 x8 x9 g003 r1) (oc3 h0 (xAh h1) h2 on) (xLi hk3 _ _ _ _ _ _ h)) fun h2 h=>bE h fun r2 h3 h=>iE h fun h4 h=>iE h fun h5 h=>tS xDv (xQi x1 x2 x7 x8 x9 g003 r1 r2) (oc6 h0 (xAh h1) h2 (xAg h3) h4 h5 on) (ih _ _ _ _ _ _ _ h)) fun h0 h=>tS xDv (xQj x1 x2 x7 x8 x9 g003) (oc h0 on) (xLi hk3 _ _ _ _ _ _ h)
theorem xOM{N:Nat}{k3:Int->Int->Int->Int->(List Org)->Option (Bool×(List Org))}(hk3:∀z0 z1 z2 z3 z4 r,k3 z0 z1 z2 z3 z4=some r->RS Tryz.f149 xBt 3 (xFg z0 z1 z2 z3 z4) (xAd r)):∀x1 x2 x7 x8 g003 r,xAO N k3 x1 x2 x7 x8 g003=some r->RS Tryz.f149 xBt 7 (xHO x1 x2 x7 x8 g003) (xAd r):=fun x1 x2 x7 x8 g003 r h=>cE h (fun h0 h=>dS h xDv (xRK x1 x2 x7 x8 g003) (oc h0 on)) fun h0 h=>cE h (fun h1 h=>dS h xDv (xRL x1 x2 x7 x8 g003) (oc2 h0 h1 on)) fun h1 h=>bE h fun r1 h2 h=>iE h fun h3 h=>iE h fun h4 h=>cE h (fun h5 h=>tS xDv (xQu x1 x2 x7 x8 g003 r1) (oc6 h0 h1 (xAg h2) h3 h4 h5 on) (xR9 hk3 _ _ _ _ _ _ _ _ h)) fun h5 h=>tS xDv (xQv x1 x2 x7 x8 g003 r1) (oc6 h0 h1 (xAg h2) h3 h4 h5 on) (xLi hk3 _ _ _ _ _ _ h)
theorem xTM{N:Nat}{k3:Int->Int->Int->Int->(List Org)->Option (Bool×(List Org))}(hk3:∀z0 z1 z2 z3 z4 r,k3 z0 z1 z2 z3 z4=some r->RS Tryz.f149 xBt 3 (xFg z0 z1 z2 z3 z4) (xAd r)):∀n x1 x2 x7 x8 g003 r,xAN N k3 n x1 x2 x7 x8 g003=some r->RS Tryz.f149 xBt 5 (xID x1 x2 x7 x8 g003) (xAd r):=by
 intro n
 induction n with
 |zero=>exact fun _ _ _ _ _ _ h=>nE h
 |succ n ih=>
  exact fun x1 x2 x7 x8 g003 r h=>cE h (fun h0 h=>bE h fun r1 h1 h=>cE h (fun h2 h=>tS xDv (xQr x1 x2 x7 x8 g003 r1) (oc3 h0 (xAh h1) h2 on) (ih _ _ _ _ _ _ h)) fun h2 h=>tS xDv (xQs x1 x2 x7 x8 g003 r1) (oc3 h0 (xAh h1) h2 on) (xOM hk3 _ _ _ _ _ _ h)) fun h0 h=>tS xDv (xQt x1 x2 x7 x8 g003) (oc2 h0 rfl on) (xOM hk3 _ _ _ _ _ _ h)
theorem xTL{N:Nat}:∀n x1 x2 x7 x8 g003 r,xAD N n x1 x2 x7 x8 g003=some r->RS Tryz.f149 xBt 3 (xFg x1 x2 x7 x8 g003) (xAd r):=by
 intro n
 induction n with
 |zero=>exact fun _ _ _ _ _ _ h=>nE h
 |succ n ih=>
  exact fun x1 x2 x7 x8 g003 r h=>cE h (fun h0 h=>tS xDv (xQp x1 x2 x7 x8 g003) (oc h0 on) (xTM ih _ _ _ _ _ _ _ h)) fun h0 h=>dS h xDv (xQq x1 x2 x7 x8 g003) (oc h0 on)
theorem xTN{N:Nat}:∀a0 a1 a2 r,xBh N a0 a1 a2=some r->RE Tryz.f149 xBt (xA1 a0 a1 a2) (xAd r):=fun a0 a1 a2 r h=>tE xDv (xQw a0 a1 a2) on (xTL _ _ _ _ _ _ _ h)
theorem xCZ{N:Nat}{a0:Int}{a1:Int}{a2:List Org}{r:Bool×(List Org)}(h:xBh N  a0 a1 a2=some r):AbC 149 (xA1 a0 a1 a2) (xAd r):=
 AbsCalls.of_reach xDv rfl rfl rfl (jL rfl) (xTN a0 a1 a2 r h)
noncomputable def xLM:Info:= { body:=(Tryz.f184.body).getD .skip,nt:=24,results:=[.tmp 8,.tmp 9],keep:=[0,2,4,6,8,16,18,28,2000008,7,9,2000009],live:=[],modes:=[],ext:=[3,1000004] }
theorem xMh:FnOk Tryz.prog 184 Tryz.f184 xLM:=by refine⟨Tryz.func184,?_,?_,?_,?_⟩<;>kernel_rfl
def xP0(a0 a1 a2 a3 r1):rE xLM (xBj a0 a1 a2 a3) [Y] [xAc r1]=dn (xAG (a1,a0,(W (a2+1)),r1.2)) [xKH a1 a0 a3 r1,iY r1.1]:=by kernel_rfl
def xP1(a0 a1 a2 a3 r1):rE xLM (xBj a0 a1 a2 a3) [F] [xAc r1]=dn (xAG (a0,a1,a2,r1.2)) [xKH a1 a0 a3 r1,iN r1.1]:=by kernel_rfl
theorem xR8{N:Nat}:∀a0 a1 a2 a3 r,xBA N a0 a1 a2 a3=some r->RE Tryz.f184 xLM (xBj a0 a1 a2 a3) (xAG r):=fun a0 a1 a2 a3 r h=>bE h fun r1 h0 h=>cE h (fun h1 h=>dE h xMh (xP0 a0 a1 a2 a3 r1) (oc2 (xAh h0) h1 on)) fun h1 h=>dE h xMh (xP1 a0 a1 a2 a3 r1) (oc2 (xAh h0) h1 on)
theorem xDk{N:Nat}{a0:Int}{a1:Int}{a2:Int}{a3:List Org}{r:Int×Int×Int×(List Org)}(h:xBA N  a0 a1 a2 a3=some r):AbC 184 (xBj a0 a1 a2 a3) (xAG r):=
 AbsCalls.of_reach xMh rfl rfl rfl (jL rfl) (xR8 a0 a1 a2 a3 r h)
noncomputable def xNh:Info:= { body:=(Tryz.f170.body).getD .skip,nt:=36,results:=[.tmp 10],keep:=[0,2,4,6,8,10,20,2000010,9,11,2000011],live:=[],modes:=[(1,[(5,.take,false)]),(2,[(5,.take,false)]),(3,[(5,.take,false)])],ext:=[4,1000005] }
theorem xOO:FnOk Tryz.prog 170 Tryz.f170 xNh:=by refine⟨Tryz.func170,?_,?_,?_,?_⟩<;>kernel_rfl
def xPZ(a0 a1 a2 a3 a4 r1 r2 r3):rE xNh (xAY a0 a1 a2 a3 a4) [] [cl (xAG r1),cl (xAG r2),cl (xAG r3)]=dn (xAr (r3.2.1,r3.2.2.1,r3.2.2.2)) [AbC 184 (xBj a0 a1 a3 a4) (xAG r1),AbC 184 (xBj r1.2.1 a2 r1.2.2.1 r1.2.2.2) (xAG r2),AbC 184 (xBj r1.1 r2.1 r2.2.2.1 r2.2.2.2) (xAG r3)]:=by kernel_rfl
theorem xR7{N:Nat}:∀a0 a1 a2 a3 a4 r,xBz N a0 a1 a2 a3 a4=some r->RE Tryz.f170 xNh (xAY a0 a1 a2 a3 a4) (xAr r):=fun a0 a1 a2 a3 a4 r h=>bE h fun r1 h0 h=>bE h fun r2 h1 h=>bE h fun r3 h2 h=>dE h xOO (xPZ a0 a1 a2 a3 a4 r1 r2 r3) (oc3 (xDk h0) (xDk h1) (xDk h2) on)
theorem xBi{N:Nat}{a0:Int}{a1:Int}{a2:Int}{a3:Int}{a4:List Org}{r:Int×Int×(List Org)}(h:xBz N  a0 a1 a2 a3 a4=some r):AbC 170 (xAY a0 a1 a2 a3 a4) (xAr r):=
 AbsCalls.of_reach xOO rfl rfl rfl (jL rfl) (xR7 a0 a1 a2 a3 a4 r h)
noncomputable def xNg:Info:= { body:=(Tryz.f169.body).getD .skip,nt:=15,results:=[.tmp 6],keep:=[0,2,4,6,12,2000006,5,7,2000007],live:=[],modes:=[],ext:=[2,1000003] }
theorem xON:FnOk Tryz.prog 169 Tryz.f169 xNg:=by refine⟨Tryz.func169,?_,?_,?_,?_⟩<;>kernel_rfl
def xPY(a0 a1 a2 r1):rE xNg (xA0 a0 a1 a2) [] [cl (xAr r1)]=dn (xAk (r1.1,r1.2.1,r1.2.2)) [AbC 170 (xAY (W (a0 - 1)) a0 (W (a0+1)) a1 a2) (xAr r1)]:=by kernel_rfl
theorem xR6{N:Nat}:∀a0 a1 a2 r,xAX N a0 a1 a2=some r->RE Tryz.f169 xNg (xA0 a0 a1 a2) (xAk r):=fun a0 a1 a2 r h=>bE h fun r1 h0 h=>dE h xON (xPY a0 a1 a2 r1) (oc (xBi h0) on)
theorem xAv{N:Nat}{a0:Int}{a1:Int}{a2:List Org}{r:Int×Int×(List Org)}(h:xAX N  a0 a1 a2=some r):AbC 169 (xA0 a0 a1 a2) (xAk r):=
 AbsCalls.of_reach xON rfl rfl rfl (jL rfl) (xR6 a0 a1 a2 r h)
noncomputable def xHs:Info:= { body:=(Tryz.f147.body).getD .skip,nt:=57,results:=[.tmp 6,.tmp 7],keep:=[0,2,4,6,12,14,16,18,20,22,24,64,68,98,102,108,2000006,7,19,2000007],live:=[],modes:=[],ext:=[1000003] }
theorem xGZ:FnOk Tryz.prog 147 Tryz.f147 xHs:=by refine⟨Tryz.func147,?_,?_,?_,?_⟩<;>kernel_rfl
abbrev xPp(v0 v1:Int):=W (Int.tdiv (W (v0 - v1)) 4)
abbrev vAT(v0 v1:Int)(v2:List Org)(v3:Int×Int×(List Org)):Prop:=AbC 169 (xA0 (W (v0+(W ((xPp v1 v0)*1)))) 0 v2) (xAk v3)
abbrev xUF(v0 v1:Int)(v2 v3:Int×Int×(List Org)):Prop:=AbC 169 (xA0 (xMu v0 v1) v2.2.1 v2.2.2) (xAk v3)
abbrev xUG(v0 v1:Int)(v2 v3:Int×Int×(List Org)):Prop:=AbC 169 (xA0 (W (v0+(W ((xPp v1 v0)*3)))) v2.2.1 v2.2.2) (xAk v3)
abbrev xMv(v0 v1:Int):=dc ((W (v0 - v1))>=50)
def xRy(a0 a1 a2 r1 r2 r3 r4):rE xHs (xAq a0 a1 a2) [Y,Y,Y] [cl (xAk r1),cl (xAk r2),cl (xAk r3),cl (xAr r4)]=dn (xAm (r4.1,1,r4.2.2)) [4≠(0:Int),4≠(0:Int),4≠(0:Int),xSN a1 a0,iY (xMv a1 a0),vAT a0 a1 a2 r1,xUF a0 a1 r1 r2,xUG a0 a1 r2 r3,AbC 170 (xAY r1.1 r2.1 r3.1 r3.2.1 r3.2.2) (xAr r4),iY (r4.2.1==0)]:=by kernel_rfl
def xRz(a0 a1 a2 r1 r2 r3 r4):rE xHs (xAq a0 a1 a2) [Y,Y,F,Y] [cl (xAk r1),cl (xAk r2),cl (xAk r3),cl (xAr r4)]=dn (xAm (r4.1,2,r4.2.2)) [4≠(0:Int),4≠(0:Int),4≠(0:Int),xSN a1 a0,iY (xMv a1 a0),vAT a0 a1 a2 r1,xUF a0 a1 r1 r2,xUG a0 a1 r2 r3,AbC 170 (xAY r1.1 r2.1 r3.1 r3.2.1 r3.2.2) (xAr r4),iN (r4.2.1==0),iY (r4.2.1==12)]:=by kernel_rfl
def xRA(a0 a1 a2 r1 r2 r3 r4):rE xHs (xAq a0 a1 a2) [Y,Y,F,F] [cl (xAk r1),cl (xAk r2),cl (xAk r3),cl (xAr r4)]=dn (xAm (r4.1,0,r4.2.2)) [4≠(0:Int),4≠(0:Int),4≠(0:Int),xSN a1 a0,iY (xMv a1 a0),vAT a0 a1 a2 r1,xUF a0 a1 r1 r2,xUG a0 a1 r2 r3,AbC 170 (xAY r1.1 r2.1 r3.1 r3.2.1 r3.2.2) (xAr r4),iN (r4.2.1==0),iN (r4.2.1==12)]:=by kernel_rfl
abbrev xUH(v0 v1:Int)(v2:List Org)(v3:Int×Int×(List Org)):Prop:=AbC 170 (xAY (W (v0+(W ((xPp v1 v0)*1)))) (xMu v0 v1) (W (v0+(W ((xPp v1 v0)*3)))) 0 v2) (xAr v3)
def xRB(a0 a1 a2 r1):rE xHs (xAq a0 a1 a2) [Y,F,Y] [cl (xAr r1)]=dn (xAm (r1.1,1,r1.2.2)) [4≠(0:Int),4≠(0:Int),4≠(0:Int),xSN a1 a0,iN (xMv a1 a0),xUH a0 a1 a2 r1,iY (r1.2.1==0)]:=by kernel_rfl
def xRC(a0 a1 a2 r1):rE xHs (xAq a0 a1 a2) [Y,F,F,Y] [cl (xAr r1)]=dn (xAm (r1.1,2,r1.2.2)) [4≠(0:Int),4≠(0:Int),4≠(0:Int),xSN a1 a0,iN (xMv a1 a0),xUH a0 a1 a2 r1,iN (r1.2.1==0),iY (r1.2.1==12)]:=by kernel_rfl
def xRD(a0 a1 a2 r1):rE xHs (xAq a0 a1 a2) [Y,F,F,F] [cl (xAr r1)]=dn (xAm (r1.1,0,r1.2.2)) [4≠(0:Int),4≠(0:Int),4≠(0:Int),xSN a1 a0,iN (xMv a1 a0),xUH a0 a1 a2 r1,iN (r1.2.1==0),iN (r1.2.1==12)]:=by kernel_rfl
def xRE(a0 a1 a2):rE xHs (xAq a0 a1 a2) [F,Y] []=dn (xAm ((xMu a0 a1),1,a2)) [4≠(0:Int),4≠(0:Int),4≠(0:Int),iN (dc ((W (a1 - a0))>=8)),iY ((0:Int)==0)]:=by kernel_rfl
def xRF(a0 a1 a2):rE xHs (xAq a0 a1 a2) [F,F,Y] []=dn (xAm ((xMu a0 a1),2,a2)) [4≠(0:Int),4≠(0:Int),4≠(0:Int),iN (dc ((W (a1 - a0))>=8)),iN ((0:Int)==0),iY ((0:Int)==12)]:=by kernel_rfl
def xRG(a0 a1 a2):rE xHs (xAq a0 a1 a2) [F,F,F] []=dn (xAm ((xMu a0 a1),0,a2)) [4≠(0:Int),4≠(0:Int),4≠(0:Int),iN (dc ((W (a1 - a0))>=8)),iN ((0:Int)==0),iN ((0:Int)==12)]:=by kernel_rfl
theorem xTI{N:Nat}:∀a0 a1 a2 r,xBS N a0 a1 a2=some r->RE Tryz.f147 xHs (xAq a0 a1 a2) (xAm r):=fun a0 a1 a2 r h=>cE h (fun h3 h=>cE h (fun h4 h=>bE h fun r1 h5 h=>bE h fun r2 h6 h=>bE h fun r3 h7 h=>bE h fun r4 h8 h=>cE h (fun h9 h=>dE h xGZ (xRy a0 a1 a2 r1 r2 r3 r4) (oc10 (by decide) (by decide) (by decide) h3 h4 (xAv h5) (xAv h6) (xAv h7) (xBi h8) h9 on)) fun h9 h=>cE h (fun h10 h=>dE h xGZ (xRz a0 a1 a2 r1 r2 r3 r4) (oc11 (by decide) (by decide) (by decide) h3 h4 (xAv h5) (xAv h6) (xAv h7) (xBi h8) h9 h10 on)) fun h10 h=>dE h xGZ (xRA a0 a1 a2 r1 r2 r3 r4) (oc11 (by decide) (by decide) (by decide) h3 h4 (xAv h5) (xAv h6) (xAv h7) (xBi h8) h9 h10 on)) fun h4 h=>bE h fun r1 h5 h=>cE h (fun h6 h=>dE h xGZ (xRB a0 a1 a2 r1) (oc7 (by decide) (by decide) (by decide) h3 h4 (xBi h5) h6 on)) fun h6 h=>cE h (fun h7 h=>dE h xGZ (xRC a0 a1 a2 r1) (oc8 (by decide) (by decide) (by decide) h3 h4 (xBi h5) h6 h7 on)) fun h7 h=>dE h xGZ (xRD a0 a1 a2 r1) (oc8 (by decide) (by decide) (by decide) h3 h4 (xBi h5) h6 h7 on)) fun h3 h=>cE h (fun h4 h=>dE h xGZ (xRE a0 a1 a2) (oc5 (by decide) (by decide) (by decide) h3 h4 on)) fun h4 h=>cE h (fun h5 h=>dE h xGZ (xRF a0 a1 a2) (oc6 (by decide) (by decide) (by decide) h3 h4 h5 on)) fun h5 h=>dE h xGZ (xRG a0 a1 a2) (oc6 (by decide) (by decide) (by decide) h3 h4 h5 on)
theorem xD7{N:Nat}{a0:Int}{a1:Int}{a2:List Org}{r:Int×Int×(List Org)}(h:xBS N  a0 a1 a2=some r):AbC 147 (xAq a0 a1 a2) (xAm r):=
 AbsCalls.of_reach xGZ rfl rfl rfl (jL rfl) (xTI a0 a1 a2 r h)
noncomputable def xER:Info:= { body:=(Tryz.f166.body).getD .skip,nt:=55,results:=[],keep:=[0,2,4,6,8,16,18,32,64,88,2000008,9,2000009],live:=[(2,[4,6,8,16,2000008,9,2000009])],modes:=[(4,[(4,.take,false)])],ext:=[1000004] }
theorem xGG:FnOk Tryz.prog 166 Tryz.f166 xER:=by refine⟨Tryz.func166,?_,?_,?_,?_⟩<;>kernel_rfl
def xEo(x2 x3 x8:Int)(g004:List Org):St:=[(4,.v false [.int .i64 x2]),(6,.v false [.int .i64 x3]),(8,.v false [.ptr 4 0]),(16,.v false [.int .i64 x8]),(9,.v true [.clo 64 [1000004],.swp 141 0 (.pointer (some ⟨0,80,none⟩)) 1000004]),(2000009,.v true [.sl (.lnt 0) .org g004])]
abbrev xPq(v0:Int):=W ((W (2*v0))+1)
def xPQ(x2 x3 x8 g004):rS 2 xER (xEo x2 x3 x8 g004) [Y] []=dn (xAu g004) [iY (dc (((xPq x8):Int)>=x2))]:=by kernel_rfl
abbrev xOR(v0 v1:Int):Prop:=iN (dc (((xPq v0):Int)>=v1))
abbrev xSp(v0 v1:Int):=dc (((W ((W ((W (2*v0))+1))+1)):Int)<v1)
abbrev xS7(v0 v1:Int):Prop:=iY (xSp v0 v1)
abbrev xKE(v0 v1:Int):=W (v0+(W ((W (2*v1))+1)))
abbrev xS8(v0 v1:Int)(v2:List Org)(v3:Bool×(List Org)):Prop:=AbC 64 (xAZ (xKE v0 v1) (W ((xKE v0 v1)+1)) v2) (xAc v3)
abbrev xPr(v0:Int):=W ((W ((W (2*v0))+1))+1)
def xPR(x2 x3 x8 g004 r1 r2):rS 2 xER (xEo x2 x3 x8 g004) [F,Y,Y,Y] [xAc r1,xAc r2]=dn (xAu r2.2) [xOR x8 x2,xS7 x8 x2,xS8 x3 x8 g004 r1,iY r1.1,AbC 64 (xAZ (W (x3+x8)) (W (x3+(xPr x8))) r1.2) (xAc r2),iY (!r2.1)]:=by kernel_rfl
def xPS(x2 x3 x8 g004 r1 r2 r3):rS 2 xER (xEo x2 x3 x8 g004) [F,Y,Y,F] [xAc r1,xAc r2,xAa r3]=st 2 xER (xEo x2 x3 (xPr x8) r3) [xOR x8 x2,xS7 x8 x2,xS8 x3 x8 g004 r1,iY r1.1,AbC 64 (xAZ (W (x3+x8)) (W (x3+(xPr x8))) r1.2) (xAc r2),iN (!r2.1),AbC 141 (xAn (W (x3+x8)) (W (x3+(xPr x8))) r2.2) (xAa r3),2<=Ln r2.2,Ln r3=Ln r2.2]:=by kernel_rfl
def xPT(x2 x3 x8 g004 r1 r2):rS 2 xER (xEo x2 x3 x8 g004) [F,Y,F,Y] [xAc r1,xAc r2]=dn (xAu r2.2) [xOR x8 x2,xS7 x8 x2,xS8 x3 x8 g004 r1,iN r1.1,AbC 64 (xAZ (W (x3+x8)) (xKE x3 x8) r1.2) (xAc r2),iY (!r2.1)]:=by kernel_rfl
def xPU(x2 x3 x8 g004 r1 r2 r3):rS 2 xER (xEo x2 x3 x8 g004) [F,Y,F,F] [xAc r1,xAc r2,xAa r3]=st 2 xER (xEo x2 x3 (xPq x8) r3) [xOR x8 x2,xS7 x8 x2,xS8 x3 x8 g004 r1,iN r1.1,AbC 64 (xAZ (W (x3+x8)) (xKE x3 x8) r1.2) (xAc r2),iN (!r2.1),AbC 141 (xAn (W (x3+x8)) (xKE x3 x8) r2.2) (xAa r3),2<=Ln r2.2,Ln r3=Ln r2.2]:=by kernel_rfl
def xPV(x2 x3 x8 g004 r1):rS 2 xER (xEo x2 x3 x8 g004) [F,F,F,Y] [xAc r1]=dn (xAu r1.2) [xOR x8 x2,iN (xSp x8 x2),iN false,AbC 64 (xAZ (W (x3+x8)) (xKE x3 x8) g004) (xAc r1),iY (!r1.1)]:=by kernel_rfl
def xPW(x2 x3 x8 g004 r1 r2):rS 2 xER (xEo x2 x3 x8 g004) [F,F,F,F] [xAc r1,xAa r2]=st 2 xER (xEo x2 x3 (xPq x8) r2) [xOR x8 x2,iN (xSp x8 x2),iN false,AbC 64 (xAZ (W (x3+x8)) (xKE x3 x8) g004) (xAc r1),iN (!r1.1),AbC 141 (xAn (W (x3+x8)) (xKE x3 x8) r1.2) (xAa r2),2<=Ln r1.2,Ln r2=Ln r1.2]:=by kernel_rfl
def xPX(a0 a1 a2 a3):rE xER (xBW a0 a1 a2 a3) [] []=st 2 xER (xEo a1 a2 a0 a3) []:=by kernel_rfl
theorem xR4{N:Nat}:∀n x2 x3 x8 g004 r,xAU N n x2 x3 x8 g004=some r->RS Tryz.f166 xER 2 (xEo x2 x3 x8 g004) (xAu r):=by
 intro n
 induction n with
 |zero=>exact fun _ _ _ _ _ h=>nE h
 |succ n ih=>
  exact fun x2 x3 x8 g004 r h=>cE h (fun h0 h=>dS h xGG (xPQ x2 x3 x8 g004) (oc h0 on)) fun h0 h=>cE h (fun h1 h=>bE h fun r1 h2 h=>cE h (fun h3 h=>bE h fun r2 h4 h=>cE h (fun h5 h=>dS h xGG (xPR x2 x3 x8 g004 r1 r2) (oc6 h0 h1 (xAh h2) h3 (xAh h4) h5 on)) fun h5 h=>bE h fun r3 h6 h=>iE h fun h7 h=>iE h fun h8 h=>tS xGG (xPS x2 x3 x8 g004 r1 r2 r3) (oc9 h0 h1 (xAh h2) h3 (xAh h4) h5 (xAg h6) h7 h8 on) (ih _ _ _ _ _ h)) fun h3 h=>bE h fun r2 h4 h=>cE h (fun h5 h=>dS h xGG (xPT x2 x3 x8 g004 r1 r2) (oc6 h0 h1 (xAh h2) h3 (xAh h4) h5 on)) fun h5 h=>bE h fun r3 h6 h=>iE h fun h7 h=>iE h fun h8 h=>tS xGG (xPU x2 x3 x8 g004 r1 r2 r3) (oc9 h0 h1 (xAh h2) h3 (xAh h4) h5 (xAg h6) h7 h8 on) (ih _ _ _ _ _ h)) fun h1 h=>bE h fun r1 h3 h=>cE h (fun h4 h=>dS h xGG (xPV x2 x3 x8 g004 r1) (oc5 h0 h1 rfl (xAh h3) h4 on)) fun h4 h=>bE h fun r2 h5 h=>iE h fun h6 h=>iE h fun h7 h=>tS xGG (xPW x2 x3 x8 g004 r1 r2) (oc8 h0 h1 rfl (xAh h3) h4 (xAg h5) h6 h7 on) (ih _ _ _ _ _ h)
theorem xR5{N:Nat}:∀a0 a1 a2 a3 r,xBm N a0 a1 a2 a3=some r->RE Tryz.f166 xER (xBW a0 a1 a2 a3) (xAu r):=fun a0 a1 a2 a3 r h=>tE xGG (xPX a0 a1 a2 a3) on (xR4 _ _ _ _ _ _ h)
theorem xEs{N:Nat}{a0:Int}{a1:Int}{a2:Int}{a3:List Org}{r:(List Org)}(h:xBm N  a0 a1 a2 a3=some r):AbC 166 (xBW a0 a1 a2 a3) (xAu r):=
 AbsCalls.of_reach xGG rfl rfl rfl (jL rfl) (xR5 a0 a1 a2 a3 r h)
noncomputable def xGF:Info:= { body:=(Tryz.f145.body).getD .skip,nt:=45,results:=[],keep:=[0,2,4,6,12,14,16,18,20,38,60,2000006,7,2000007],live:=[(5,[6,12,14,16,18,2000006,7,2000007]),(9,[6,12,14,20,2000006,7,2000007])],modes:=[(12,[(1,.take,false)])],ext:=[1000003] }
theorem xJK:FnOk Tryz.prog 145 Tryz.f145 xGF:=by refine⟨Tryz.func145,?_,?_,?_,?_⟩<;>kernel_rfl
def xJF(x6 x7 x8 x9:Int)(g003:List Org):St:=[(6,.v false [.ptr 3 0]),(12,.v false [.int .i64 x6]),(14,.v false [.int .i64 x7]),(16,.v false [.int .i64 x8]),(18,.v false [.int .i64 x9]),(7,.v true [.clo 64 [1000003],.swp 141 0 (.pointer (some ⟨0,80,none⟩)) 1000003]),(2000007,.v true [.sl (.lnt 0) .org g003])]
def xJG(x6 x7 x10:Int)(g003:List Org):St:=[(6,.v false [.ptr 3 0]),(12,.v false [.int .i64 x6]),(14,.v false [.int .i64 x7]),(20,.v false [.int .i64 x10]),(7,.v true [.clo 64 [1000003],.swp 141 0 (.pointer (some ⟨0,80,none⟩)) 1000003]),(2000007,.v true [.sl (.lnt 0) .org g003])]
def xRq(x6 x7 x10 g003 r1 r2):rS 9 xGF (xJG x6 x7 x10 g003) [Y] [xAa r1,cl (xAu r2)]=st 9 xGF (xJG x6 x7 (W (x10 - 1)) r2) [iY (dc (x10>=0)),AbC 141 (xAn x6 (W (x6+x10)) g003) (xAa r1),2<=Ln g003,Ln r1=Ln g003,AbC 166 (xBW x7 x10 x6 r1) (xAu r2)]:=by kernel_rfl
def xRr(x6 x7 x10 g003):rS 9 xGF (xJG x6 x7 x10 g003) [F] []=dn (xA6 g003) [iN (dc (x10>=0))]:=by kernel_rfl
def xRo(x6 x7 x8 x9 g003 r1):rS 5 xGF (xJF x6 x7 x8 x9 g003) [Y] [cl (xAu r1)]=st 5 xGF (xJF x6 x7 x8 (W (x9 - 1)) r1) [iY (dc (x9>=0)),AbC 166 (xBW x9 x8 x6 g003) (xAu r1)]:=by kernel_rfl
def xRp(x6 x7 x8 x9 g003):rS 5 xGF (xJF x6 x7 x8 x9 g003) [F] []=st 9 xGF (xJG x6 x7 (W (x8 - 1)) g003) [iN (dc (x9>=0))]:=by kernel_rfl
def xRs(a0 a1 a2):rE xGF (xCi a0 a1 a2) [] []=st 5 xGF (xJF a0 0 (W (a1 - a0)) (W (Int.tdiv (W ((W (a1 - a0)) - 1)) 2)) a2) [2≠(0:Int)]:=by kernel_rfl
theorem xTE{N:Nat}:∀n x6 x7 x10 g003 r,xBs N n x6 x7 x10 g003=some r->RS Tryz.f145 xGF 9 (xJG x6 x7 x10 g003) (xA6 r):=by
 intro n
 induction n with
 |zero=>exact fun _ _ _ _ _ h=>nE h
 |succ n ih=>
  exact fun x6 x7 x10 g003 r h=>cE h (fun h0 h=>bE h fun r1 h1 h=>iE h fun h2 h=>iE h fun h3 h=>bE h fun r2 h4 h=>tS xJK (xRq x6 x7 x10 g003 r1 r2) (oc5 h0 (xAg h1) h2 h3 (xEs h4) on) (ih _ _ _ _ _ h)) fun h0 h=>dS h xJK (xRr x6 x7 x10 g003) (oc h0 on)
theorem xTD{N:Nat}:∀n x6 x7 x8 x9 g003 r,xBr N n x6 x7 x8 x9 g003=some r->RS Tryz.f145 xGF 5 (xJF x6 x7 x8 x9 g003) (xA6 r):=by
 intro n
 induction n with
 |zero=>exact fun _ _ _ _ _ _ h=>nE h
 |succ n ih=>
  exact fun x6 x7 x8 x9 g003 r h=>cE h (fun h0 h=>bE h fun r1 h1 h=>tS xJK (xRo x6 x7 x8 x9 g003 r1) (oc2 h0 (xEs h1) on) (ih _ _ _ _ _ _ h)) fun h0 h=>tS xJK (xRp x6 x7 x8 x9 g003) (oc h0 on) (xTE _ _ _ _ _ _ h)
theorem xTF{N:Nat}:∀a0 a1 a2 r,xB7 N a0 a1 a2=some r->RE Tryz.f145 xGF (xCi a0 a1 a2) (xA6 r):=fun a0 a1 a2 r h=>tE xJK (xRs a0 a1 a2) (oc (by decide) on) (xTD _ _ _ _ _ _ _ h)
theorem xGX{N:Nat}{a0:Int}{a1:Int}{a2:List Org}{r:(List Org)}(h:xB7 N  a0 a1 a2=some r):AbC 145 (xCi a0 a1 a2) (xA6 r):=
 AbsCalls.of_reach xJK rfl rfl rfl (jL rfl) (xTF a0 a1 a2 r h)
noncomputable def xFz:Info:= { body:=(Tryz.f144.body).getD .skip,nt:=35,results:=[],keep:=[0,2,4,6,12,14,24,52,2000006,7,2000007],live:=[(2,[2,4,6,12,2000006,7,2000007]),(5,[2,4,6,12,14,2000006,7,2000007])],modes:=[(5,[(3,.take,false)])],ext:=[1000003] }
theorem xIM:FnOk Tryz.prog 144 Tryz.f144 xFz:=by refine⟨Tryz.func144,?_,?_,?_,?_⟩<;>kernel_rfl
def xHJ(x1 x2 x6:Int)(g003:List Org):St:=[(2,.v false [.int .i64 x1]),(4,.v false [.int .i64 x2]),(6,.v false [.ptr 3 0]),(12,.v false [.int .i64 x6]),(7,.v true [.clo 64 [1000003],.swp 141 0 (.pointer (some ⟨0,80,none⟩)) 1000003]),(2000007,.v true [.sl (.lnt 0) .org g003])]
def xIC(x1 x2 x6 x7:Int)(g003:List Org):St:=[(2,.v false [.int .i64 x1]),(4,.v false [.int .i64 x2]),(6,.v false [.ptr 3 0]),(12,.v false [.int .i64 x6]),(14,.v false [.int .i64 x7]),(7,.v true [.clo 64 [1000003],.swp 141 0 (.pointer (some ⟨0,80,none⟩)) 1000003]),(2000007,.v true [.sl (.lnt 0) .org g003])]
def xRk(x1 x2 x6 x7 g003 r1 r2):rS 5 xFz (xIC x1 x2 x6 x7 g003) [Y,Y] [xAc r1,xAa r2]=st 5 xFz (xIC x1 x2 x6 (W (x7 - 1)) r2) [iY (dc (x7>x1)),xRd x7 g003 r1,iY r1.1,AbC 141 (xAn x7 (W (x7 - 1)) r1.2) (xAa r2),2<=Ln r1.2,Ln r2=Ln r1.2]:=by kernel_rfl
def xRl(x1 x2 x6 x7 g003 r1):rS 5 xFz (xIC x1 x2 x6 x7 g003) [Y,F] [xAc r1]=st 2 xFz (xHJ x1 x2 (W (x6+1)) r1.2) [iY (dc (x7>x1)),xRd x7 g003 r1,iN r1.1]:=by kernel_rfl
def xRm(x1 x2 x6 x7 g003):rS 5 xFz (xIC x1 x2 x6 x7 g003) [F,F] []=st 2 xFz (xHJ x1 x2 (W (x6+1)) g003) [iN (dc (x7>x1)),iN false]:=by kernel_rfl
def xRi(x1 x2 x6 g003):rS 2 xFz (xHJ x1 x2 x6 g003) [Y] []=st 5 xFz (xIC x1 x2 x6 x6 g003) [xFK x6 x2]:=by kernel_rfl
def xRj(x1 x2 x6 g003):rS 2 xFz (xHJ x1 x2 x6 g003) [F] []=dn (xAH g003) [xHX x6 x2]:=by kernel_rfl
def xRn(a0 a1 a2):rE xFz (xB1 a0 a1 a2) [] []=st 2 xFz (xHJ a0 a1 (W (a0+1)) a2) []:=by kernel_rfl
theorem xTB{N:Nat}{k2:Int->Int->Int->(List Org)->Option ((List Org))}(hk2:∀z0 z1 z2 z3 r,k2 z0 z1 z2 z3=some r->RS Tryz.f144 xFz 2 (xHJ z0 z1 z2 z3) (xAH r)):∀n x1 x2 x6 x7 g003 r,xA4 N k2 n x1 x2 x6 x7 g003=some r->RS Tryz.f144 xFz 5 (xIC x1 x2 x6 x7 g003) (xAH r):=by
 intro n
 induction n with
 |zero=>exact fun _ _ _ _ _ _ h=>nE h
 |succ n ih=>
  exact fun x1 x2 x6 x7 g003 r h=>cE h (fun h0 h=>bE h fun r1 h1 h=>cE h (fun h2 h=>bE h fun r2 h3 h=>iE h fun h4 h=>iE h fun h5 h=>tS xIM (xRk x1 x2 x6 x7 g003 r1 r2) (oc6 h0 (xAh h1) h2 (xAg h3) h4 h5 on) (ih _ _ _ _ _ _ h)) fun h2 h=>tS xIM (xRl x1 x2 x6 x7 g003 r1) (oc3 h0 (xAh h1) h2 on) (hk2 _ _ _ _ _ h)) fun h0 h=>tS xIM (xRm x1 x2 x6 x7 g003) (oc2 h0 rfl on) (hk2 _ _ _ _ _ h)
theorem xTA{N:Nat}:∀n x1 x2 x6 g003 r,xA3 N n x1 x2 x6 g003=some r->RS Tryz.f144 xFz 2 (xHJ x1 x2 x6 g003) (xAH r):=by
 intro n
 induction n with
 |zero=>exact fun _ _ _ _ _ h=>nE h
 |succ n ih=>
  exact fun x1 x2 x6 g003 r h=>cE h (fun h0 h=>tS xIM (xRi x1 x2 x6 g003) (oc h0 on) (xTB ih _ _ _ _ _ _ _ h)) fun h0 h=>dS h xIM (xRj x1 x2 x6 g003) (oc h0 on)
theorem xTC{N:Nat}:∀a0 a1 a2 r,xBK N a0 a1 a2=some r->RE Tryz.f144 xFz (xB1 a0 a1 a2) (xAH r):=fun a0 a1 a2 r h=>tE xIM (xRn a0 a1 a2) on (xTA _ _ _ _ _ _ h)
theorem xGc{N:Nat}{a0:Int}{a1:Int}{a2:List Org}{r:(List Org)}(h:xBK N  a0 a1 a2=some r):AbC 144 (xB1 a0 a1 a2) (xAH r):=
 AbsCalls.of_reach xIM rfl rfl rfl (jL rfl) (xTC a0 a1 a2 r h)
def xJg(q:Int->Int->Int->(List Org)->Option ((List Org))):Prop:=∀a0 a1 a2 a3 r,q a0 a1 a2 a3=some r->AbC 107 (xBd a0 a1 a2 a3) (xAi r)
noncomputable def xBN:Info:= { body:=(Tryz.f107.body).getD .skip,nt:=130,results:=[],keep:=[0,2,4,6,8,16,18,20,22,24,26,28,30,32,34,36,46,58,70,100,136,144,166,218,2000008,9,2000009],live:=[(3,[2,4,6,8,16,18,2000008,9,2000009]),(11,[2,4,6,8,16,18,20,2000008,9,2000009]),(16,[2,4,6,8,16,18,20,22,24,2000008,9,2000009]),(18,[2,4,6,8,16,18,20,22,2000008,9,2000009]),(21,[2,4,6,8,20,22,2000008,9,2000009])],modes:=[(11,[(4,.take,false)]),(16,[(1,.take,false),(2,.take,false),(4,.take,false)]),(18,[(2,.take,false)]),(20,[(0,.take,false)]),(21,[(5,.take,false)]),(22,[(0,.take,false)])],ext:=[1000004] }
theorem xDS:FnOk Tryz.prog 107 Tryz.f107 xBN:=by refine⟨Tryz.func107,?_,?_,?_,?_⟩<;>kernel_rfl
def xEF(x1 x2 x3:Int)(x8 x9:Bool)(g004:List Org):St:=[(2,.v false [.int .i64 x1]),(4,.v false [.int .i64 x2]),(6,.v false [.int .i64 x3]),(8,.v false [.ptr 4 0]),(16,.v false [.bool x8]),(18,.v false [.bool x9]),(9,.v true [.clo 64 [1000004],.swp 141 0 (.pointer (some ⟨0,80,none⟩)) 1000004]),(2000009,.v true [.sl (.lnt 0) .org g004])]
def xII(x1 x2 x3:Int)(x8 x9:Bool)(x10:Int)(g004:List Org):St:=[(2,.v false [.int .i64 x1]),(4,.v false [.int .i64 x2]),(6,.v false [.int .i64 x3]),(8,.v false [.ptr 4 0]),(16,.v false [.bool x8]),(18,.v false [.bool x9]),(20,.v false [.int .i64 x10]),(9,.v true [.clo 64 [1000004],.swp 141 0 (.pointer (some ⟨0,80,none⟩)) 1000004]),(2000009,.v true [.sl (.lnt 0) .org g004])]
def xGt(x1 x2 x3:Int)(x8 x9:Bool)(x10 x11 x12:Int)(g004:List Org):St:=[(2,.v false [.int .i64 x1]),(4,.v false [.int .i64 x2]),(6,.v false [.int .i64 x3]),(8,.v false [.ptr 4 0]),(16,.v false [.bool x8]),(18,.v false [.bool x9]),(20,.v false [.int .i64 x10]),(22,.v false [.int .i64 x11]),(24,.v false [.int .i64 x12]),(9,.v true [.clo 64 [1000004],.swp 141 0 (.pointer (some ⟨0,80,none⟩)) 1000004]),(2000009,.v true [.sl (.lnt 0) .org g004])]
def xGu(x1 x2 x3:Int)(x8 x9:Bool)(x10 x11:Int)(g004:List Org):St:=[(2,.v false [.int .i64 x1]),(4,.v false [.int .i64 x2]),(6,.v false [.int .i64 x3]),(8,.v false [.ptr 4 0]),(16,.v false [.bool x8]),(18,.v false [.bool x9]),(20,.v false [.int .i64 x10]),(22,.v false [.int .i64 x11]),(9,.v true [.clo 64 [1000004],.swp 141 0 (.pointer (some ⟨0,80,none⟩)) 1000004]),(2000009,.v true [.sl (.lnt 0) .org g004])]
def xIJ(x1 x2 x3 x10 x11:Int)(g004:List Org):St:=[(2,.v false [.int .i64 x1]),(4,.v false [.int .i64 x2]),(6,.v false [.int .i64 x3]),(8,.v false [.ptr 4 0]),(20,.v false [.int .i64 x10]),(22,.v false [.int .i64 x11]),(9,.v true [.clo 64 [1000004],.swp 141 0 (.pointer (some ⟨0,80,none⟩)) 1000004]),(2000009,.v true [.sl (.lnt 0) .org g004])]
def xQa(x1 x2 x3 x10 x11 g004 r1 r2):rS 21 xBN (xIJ x1 x2 x3 x10 x11 g004) [Y] [cl (xAo r1),cl (xAi r2)]=st 3 xBN (xEF (W (r1.1+1)) x2 x3 (dc ((W (r1.1 - x1))>=(W (Int.tdiv x10 8)))) r1.2.1 r2) [AbC 151 (xBO x1 x2 x11 g004) (xAo r1),8≠(0:Int),iY (dc ((W (r1.1 - x1))<(W (x2 - r1.1)))),AbC 107 (xBd x1 r1.1 x3 r1.2.2) (xAi r2)]:=by kernel_rfl
def xQb(x1 x2 x3 x10 x11 g004 r1 r2):rS 21 xBN (xIJ x1 x2 x3 x10 x11 g004) [F] [cl (xAo r1),cl (xAi r2)]=st 3 xBN (xEF x1 r1.1 x3 (dc ((W (x2 - r1.1))>=(W (Int.tdiv x10 8)))) r1.2.1 r2) [AbC 151 (xBO x1 x2 x11 g004) (xAo r1),8≠(0:Int),iN (dc ((W (r1.1 - x1))<(W (x2 - r1.1)))),AbC 107 (xBd (W (r1.1+1)) x2 x3 r1.2.2) (xAi r2)]:=by kernel_rfl
abbrev xMU(v0:Int):Prop:=iY (dc (v0>0))
def xP7(x1 x2 x3 x8 x9 x10 x11 g004 r1 r2):rS 18 xBN (xGu x1 x2 x3 x8 x9 x10 x11 g004) [Y,Y] [xAc r1,cl (xAw r2)]=st 3 xBN (xEF r2.1 x2 x3 x8 x9 r2.2) [xMU x1,AbC 64 (xAZ (W (x1 - 1)) x11 g004) (xAc r1),iY (!r1.1),AbC 150 (xBX x1 x2 x11 r1.2) (xAw r2)]:=by kernel_rfl
def xP8(x1 x2 x3 x8 x9 x10 x11 g004 r1):rS 18 xBN (xGu x1 x2 x3 x8 x9 x10 x11 g004) [Y,F] [xAc r1]=st 21 xBN (xIJ x1 x2 x3 x10 x11 r1.2) [xMU x1,AbC 64 (xAZ (W (x1 - 1)) x11 g004) (xAc r1),iN (!r1.1)]:=by kernel_rfl
def xP9(x1 x2 x3 x8 x9 x10 x11 g004):rS 18 xBN (xGu x1 x2 x3 x8 x9 x10 x11 g004) [F,F] []=st 21 xBN (xIJ x1 x2 x3 x10 x11 g004) [iN (dc (x1>0)),iN false]:=by kernel_rfl
def xP2(x1 x2 x3 x8 x9 x10 x11 x12 g004 r1):rS 16 xBN (xGt x1 x2 x3 x8 x9 x10 x11 x12 g004) [Y,Y,Y,Y] [cl (xAd r1)]=dn (xAi r1.2) [iY x8,iY x9,iY (x12==1),AbC 149 (xA1 x1 x2 g004) (xAd r1),iY r1.1]:=by kernel_rfl
def xP3(x1 x2 x3 x8 x9 x10 x11 x12 g004 r1):rS 16 xBN (xGt x1 x2 x3 x8 x9 x10 x11 x12 g004) [Y,Y,Y,F] [cl (xAd r1)]=st 18 xBN (xGu x1 x2 x3 x8 x9 x10 x11 r1.2) [iY x8,iY x9,iY (x12==1),AbC 149 (xA1 x1 x2 g004) (xAd r1),iN r1.1]:=by kernel_rfl
def xP4(x1 x2 x3 x8 x9 x10 x11 x12 g004):rS 16 xBN (xGt x1 x2 x3 x8 x9 x10 x11 x12 g004) [Y,Y,F] []=st 18 xBN (xGu x1 x2 x3 x8 x9 x10 x11 g004) [iY x8,iY x9,iN (x12==1)]:=by kernel_rfl
def xP5(x1 x2 x3 x8 x9 x10 x11 x12 g004):rS 16 xBN (xGt x1 x2 x3 x8 x9 x10 x11 x12 g004) [Y,F,F] []=st 18 xBN (xGu x1 x2 x3 x8 x9 x10 x11 g004) [iY x8,iN x9,iN false]:=by kernel_rfl
def xP6(x1 x2 x3 x8 x9 x10 x11 x12 g004):rS 16 xBN (xGt x1 x2 x3 x8 x9 x10 x11 x12 g004) [F,F,F] []=st 18 xBN (xGu x1 x2 x3 x8 x9 x10 x11 g004) [iN x8,iN false,iN false]:=by kernel_rfl
def xOy(x1 x2 x3 x8 x9 x10 g004 r1 r2):rS 11 xBN (xII x1 x2 x3 x8 x9 x10 g004) [Y] [cl (xAm r1),cl (xBc r2)]=st 16 xBN (xGt x1 x2 x3 x8 x9 x10 (W ((W (x2 - 1)) - (W (r1.1 - x1)))) 1 r2) [AbC 147 (xAq x1 x2 g004) (xAm r1),iY (r1.2.1==2),AbC 148 (xB5 x1 x2 r1.2.2) (xBc r2)]:=by kernel_rfl
def xOz(x1 x2 x3 x8 x9 x10 g004 r1):rS 11 xBN (xII x1 x2 x3 x8 x9 x10 g004) [F] [cl (xAm r1)]=st 16 xBN (xGt x1 x2 x3 x8 x9 x10 r1.1 r1.2.1 r1.2.2) [AbC 147 (xAq x1 x2 g004) (xAm r1),iN (r1.2.1==2)]:=by kernel_rfl
def xQc(x1 x2 x3 x8 x9 g004 r1):rS 3 xBN (xEF x1 x2 x3 x8 x9 g004) [Y] [cl (xAH r1)]=dn (xAi r1) [iY (dc ((W (x2 - x1))<=12)),AbC 144 (xB1 x1 x2 g004) (xAH r1)]:=by kernel_rfl
def xQd(x1 x2 x3 x8 x9 g004 r1):rS 3 xBN (xEF x1 x2 x3 x8 x9 g004) [F,Y] [cl (xA6 r1)]=dn (xAi r1) [iN (dc ((W (x2 - x1))<=12)),iY (x3==0),AbC 145 (xCi x1 x2 g004) (xA6 r1)]:=by kernel_rfl
abbrev xIW(v0:Int):Prop:=iN (v0==0)
def xQe(x1 x2 x3 x8 x9 g004 r1):rS 3 xBN (xEF x1 x2 x3 x8 x9 g004) [F,F,Y] [cl (xAT r1)]=st 11 xBN (xII x1 x2 (W (x3 - 1)) x8 x9 (W (x2 - x1)) r1) [iN (dc ((W (x2 - x1))<=12)),xIW x3,iY (!x8),AbC 146 (xBx x1 x2 g004) (xAT r1)]:=by kernel_rfl
def xQf(x1 x2 x3 x8 x9 g004):rS 3 xBN (xEF x1 x2 x3 x8 x9 g004) [F,F,F] []=st 11 xBN (xII x1 x2 x3 x8 x9 (W (x2 - x1)) g004) [iN (dc ((W (x2 - x1))<=12)),xIW x3,iN (!x8)]:=by kernel_rfl
def xQg(a0 a1 a2 a3):rE xBN (xBd a0 a1 a2 a3) [] []=st 3 xBN (xEF a0 a1 a2 true true a3) []:=by kernel_rfl
theorem xNq{N q0}(g0:xJg q0){k3:Int->Int->Int->Bool->Bool->(List Org)->Option ((List Org))}(hk3:∀z0 z1 z2 z3 z4 z5 r,k3 z0 z1 z2 z3 z4 z5=some r->RS Tryz.f107 xBN 3 (xEF z0 z1 z2 z3 z4 z5) (xAi r)):∀x1 x2 x3 x10 x11 g004 r,xBV N q0 k3 x1 x2 x3 x10 x11 g004=some r->RS Tryz.f107 xBN 21 (xIJ x1 x2 x3 x10 x11 g004) (xAi r):=fun x1 x2 x3 x10 x11 g004 r h=>bE h fun r1 h0 h=>cE h (fun h2 h=>bE h fun r2 h3 h=>tS xDS (xQa x1 x2 x3 x10 x11 g004 r1 r2) (oc4 (xEm h0) (by decide) h2 (g0 _ _ _ _ _ h3) on) (hk3 _ _ _ _ _ _ _ h)) fun h2 h=>bE h fun r2 h3 h=>tS xDS (xQb x1 x2 x3 x10 x11 g004 r1 r2) (oc4 (xEm h0) (by decide) h2 (g0 _ _ _ _ _ h3) on) (hk3 _ _ _ _ _ _ _ h)
theorem xJ2{N q0}(g0:xJg q0){k3:Int->Int->Int->Bool->Bool->(List Org)->Option ((List Org))}(hk3:∀z0 z1 z2 z3 z4 z5 r,k3 z0 z1 z2 z3 z4 z5=some r->RS Tryz.f107 xBN 3 (xEF z0 z1 z2 z3 z4 z5) (xAi r)):∀x1 x2 x3 x8 x9 x10 x11 g004 r,xA7 N q0 k3 x1 x2 x3 x8 x9 x10 x11 g004=some r->RS Tryz.f107 xBN 18 (xGu x1 x2 x3 x8 x9 x10 x11 g004) (xAi r):=fun x1 x2 x3 x8 x9 x10 x11 g004 r h=>cE h (fun h0 h=>bE h fun r1 h1 h=>cE h (fun h2 h=>bE h fun r2 h3 h=>tS xDS (xP7 x1 x2 x3 x8 x9 x10 x11 g004 r1 r2) (oc4 h0 (xAh h1) h2 (xFX h3) on) (hk3 _ _ _ _ _ _ _ h)) fun h2 h=>tS xDS (xP8 x1 x2 x3 x8 x9 x10 x11 g004 r1) (oc3 h0 (xAh h1) h2 on) (xNq g0 hk3 _ _ _ _ _ _ _ h)) fun h0 h=>tS xDS (xP9 x1 x2 x3 x8 x9 x10 x11 g004) (oc2 h0 rfl on) (xNq g0 hk3 _ _ _ _ _ _ _ h)
theorem xNp{N q0}(g0:xJg q0){k3:Int->Int->Int->Bool->Bool->(List Org)->Option ((List Org))}(hk3:∀z0 z1 z2 z3 z4 z5 r,k3 z0 z1 z2 z3 z4 z5=some r->RS Tryz.f107 xBN 3 (xEF z0 z1 z2 z3 z4 z5) (xAi r)):∀x1 x2 x3 x8 x9 x10 x11 x12 g004 r,xBU N q0 k3 x1 x2 x3 x8 x9 x10 x11 x12 g004=some r->RS Tryz.f107 xBN 16 (xGt x1 x2 x3 x8 x9 x10 x11 x12 g004) (xAi r):=fun x1 x2 x3 x8 x9 x10 x11 x12 g004 r h=>cE h (fun h0 h=>cE h (fun h1 h=>cE h (fun h2 h=>bE h fun r1 h3 h=>cE h (fun h4 h=>dS h xDS (xP2 x1 x2 x3 x8 x9 x10 x11 x12 g004 r1) (oc5 h0 h1 h2 (xCZ h3) h4 on)) fun h4 h=>tS xDS (xP3 x1 x2 x3 x8 x9 x10 x11 x12 g004 r1) (oc5 h0 h1 h2 (xCZ h3) h4 on) (xJ2 g0 hk3 _ _ _ _ _ _ _ _ _ h)) fun h2 h=>tS xDS (xP4 x1 x2 x3 x8 x9 x10 x11 x12 g004) (oc3 h0 h1 h2 on) (xJ2 g0 hk3 _ _ _ _ _ _ _ _ _ h)) fun h1 h=>tS xDS (xP5 x1 x2 x3 x8 x9 x10 x11 x12 g004) (oc3 h0 h1 rfl on) (xJ2 g0 hk3 _ _ _ _ _ _ _ _ _ h)) fun h0 h=>tS xDS (xP6 x1 x2 x3 x8 x9 x10 x11 x12 g004) (oc3 h0 rfl rfl on) (xJ2 g0 hk3 _ _ _ _ _ _ _ _ _ h)
theorem xNo{N q0}(g0:xJg q0){k3:Int->Int->Int->Bool->Bool->(List Org)->Option ((List Org))}(hk3:∀z0 z1 z2 z3 z4 z5 r,k3 z0 z1 z2 z3 z4 z5=some r->RS Tryz.f107 xBN 3 (xEF z0 z1 z2 z3 z4 z5) (xAi r)):∀x1 x2 x3 x8 x9 x10 g004 r,xBT N q0 k3 x1 x2 x3 x8 x9 x10 g004=some r->RS Tryz.f107 xBN 11 (xII x1 x2 x3 x8 x9 x10 g004) (xAi r):=fun x1 x2 x3 x8 x9 x10 g004 r h=>bE h fun r1 h0 h=>cE h (fun h1 h=>bE h fun r2 h2 h=>tS xDS (xOy x1 x2 x3 x8 x9 x10 g004 r1 r2) (oc3 (xD7 h0) h1 (xGp h2) on) (xNp g0 hk3 _ _ _ _ _ _ _ _ _ _ h)) fun h1 h=>tS xDS (xOz x1 x2 x3 x8 x9 x10 g004 r1) (oc2 (xD7 h0) h1 on) (xNp g0 hk3 _ _ _ _ _ _ _ _ _ _ h)
theorem xTy{N q0}(g0:xJg q0):∀n x1 x2 x3 x8 x9 g004 r,xBe N q0 n x1 x2 x3 x8 x9 g004=some r->RS Tryz.f107 xBN 3 (xEF x1 x2 x3 x8 x9 g004) (xAi r):=by
 intro n
 induction n with
 |zero=>exact fun _ _ _ _ _ _ _ h=>nE h
 |succ n ih=>
  exact fun x1 x2 x3 x8 x9 g004 r h=>cE h (fun h0 h=>bE h fun r1 h1 h=>dS h xDS (xQc x1 x2 x3 x8 x9 g004 r1) (oc2 h0 (xGc h1) on)) fun h0 h=>cE h (fun h1 h=>bE h fun r1 h2 h=>dS h xDS (xQd x1 x2 x3 x8 x9 g004 r1) (oc3 h0 h1 (xGX h2) on)) fun h1 h=>cE h (fun h2 h=>bE h fun r1 h3 h=>tS xDS (xQe x1 x2 x3 x8 x9 g004 r1) (oc4 h0 h1 h2 (xGb h3) on) (xNo g0 ih _ _ _ _ _ _ _ _ h)) fun h2 h=>tS xDS (xQf x1 x2 x3 x8 x9 g004) (oc3 h0 h1 h2 on) (xNo g0 ih _ _ _ _ _ _ _ _ h)
theorem xTz{N q0}(g0:xJg q0):∀a0 a1 a2 a3 r,xCX N q0 a0 a1 a2 a3=some r->RE Tryz.f107 xBN (xBd a0 a1 a2 a3) (xAi r):=fun a0 a1 a2 a3 r h=>tE xDS (xQg a0 a1 a2 a3) on (xTy g0 _ _ _ _ _ _ _ _ h)
theorem xGo{N q0}(g0:xJg q0){a0}{a1}{a2}{a3}{r}(h:xCX N q0 a0 a1 a2 a3=some r):AbC 107 (xBd a0 a1 a2 a3) (xAi r):=
 AbsCalls.of_reach xDS rfl rfl rfl (jL rfl) (xTz g0 a0 a1 a2 a3 r h)
theorem xD8{N:Nat}:∀d,xJg (xA8 N d)
 |0=>fun _ _ _ _ _ h=>nE h
 |d+1=>fun _ _ _ _ _ h=>xGo (N:=N) (xD8 d) h
theorem sort_pdqsort_func_cUnionOrigins_1_ok{N:Nat}{a0:Int}{a1:Int}{a2:Int}{a3:List Org}{r:(List Org)}(h:xDA N a0 a1 a2 a3=some r):AbC 107 (xBd a0 a1 a2 a3) (xAi r):=xD8 N _ _ _ _ r h
end Go.Ab.T
end
section
namespace Go.Ab
def Big(p:Nat->Prop):Prop:=∃k,∀N,k<=N->p N
def Big2(p:Nat->Nat->Prop):Prop:=∃k,∀N n,k<=N->k<=n->p N n
theorem Big.imp{p q:Nat->Prop}(h:Big p)(f:∀N,p N->q N):Big q:=h.elim fun k hk=>⟨k,fun N hN=>f N (hk N hN)⟩
theorem Big2.imp{p q:Nat->Nat->Prop}(h:Big2 p)(f:∀N n,p N n->q N n):Big2 q:=h.elim fun k hk=>⟨k,fun N n h1 h2=>f N n (hk N n h1 h2)⟩
theorem Big.of{p:Nat->Prop}(h:∀N,p N):Big p:=⟨0,fun N _=>h N⟩
theorem Big2.of{p:Nat->Nat->Prop}(h:∀N n,p N n):Big2 p:=⟨0,fun N n _ _=>h N n⟩
theorem Big.and{p q:Nat->Prop}(h:Big p)(h' :Big q):Big fun N=>p N/\q N:=by
 obtain⟨a,ha⟩:=h;obtain⟨b,hb⟩:=h';exact⟨max a b,fun N hN=>⟨ha N (by omega),hb N (by omega)⟩⟩
theorem Big2.and{p q:Nat->Nat->Prop}(h:Big2 p)(h' :Big2 q):Big2 fun N n=>p N n/\q N n:=by
 obtain⟨a,ha⟩:=h;obtain⟨b,hb⟩:=h';exact⟨max a b,fun N n h1 h2=>⟨ha N n (by omega) (by omega),hb N n (by omega) (by omega)⟩⟩
theorem Big.two{p:Nat->Prop}(h:Big p):Big2 fun N _=>p N:=h.elim fun k hk=>⟨k,fun N _ h _=>hk N h⟩
theorem Big2.diag{p:Nat->Nat->Prop}(h:Big2 p):Big fun N=>p N N:=h.elim fun k hk=>⟨k,fun N h=>hk N N h h⟩
theorem Big2.succ{p:Nat->Nat->Prop}(h:Big2 fun N n=>p N (n+1)):Big2 p:=by
 obtain⟨k,hk⟩:=h;refine⟨k+1,fun N n h1 h2=> ?_⟩;obtain⟨m,rfl⟩:∃m,n=m+1:=⟨n - 1,by omega⟩;exact hk N m (by omega) (by omega)
theorem Big.list{α:Type}{p:α->Nat->Prop}{l:List α}(h:∀x∈l,Big (p x)):Big fun N=>∀x∈l,p x N:=by
 induction l with
 |nil=>exact .of fun N x hx=>by cases hx
 |cons a l ih=>
  refine((h a List.mem_cons_self).and (ih fun x hx=>h x (List.mem_cons_of_mem _ hx))).imp fun N ⟨h1,h2⟩ x hx=> ?_;rcases List.mem_cons.1 hx with rfl|hx
  ·exact h1
  ·exact h2 x hx
theorem Big2.list{α:Type}{p:α->Nat->Nat->Prop}{l:List α}(h:∀x∈l,Big2 (p x)):Big2 fun N n=>∀x∈l,p x N n:=by
 induction l with
 |nil=>exact .of fun N n x hx=>by cases hx
 |cons a l ih=>
  refine((h a List.mem_cons_self).and (ih fun x hx=>h x (List.mem_cons_of_mem _ hx))).imp fun N n ⟨h1,h2⟩ x hx=> ?_;rcases List.mem_cons.1 hx with rfl|hx
  ·exact h1
  ·exact h2 x hx
theorem Big.get{p:Nat->Prop}(h:Big p):∃N,p N:=h.elim fun k hk=>⟨k,hk k (Nat.le_refl k)⟩
def I64(x:Int):Prop:= -9223372036854775808<=x/\x<=9223372036854775807
theorem xM4(x:Int):IntKind.i64.wrap x=if x % 18446744073709551616>=9223372036854775808 then x % 18446744073709551616 - 18446744073709551616 else x % 18446744073709551616:=by
 show(if(true&&decide (x % 18446744073709551616>=9223372036854775808))=true then x % 18446744073709551616 - 18446744073709551616 else x % 18446744073709551616)=_;simp only [Bool.true_and,decide_eq_true_eq]
theorem xDh{x:Int}(h1: -9223372036854775808<=x)(h2:x<=9223372036854775807):IntKind.i64.wrap x=x:=by
 rw [xM4];split <;>omega
theorem xNe(x:Int):I64 (IntKind.i64.wrap x):=by
 rw [xM4];unfold I64;split <;>omega
theorem xJJ{α:Type}{xs:List α}{i:Nat}{x:α}{l:List α}(h:xs.drop i=x::l):i<xs.length/\xs[i]? =some x/\xs.drop (i+1)=l:=by
 have h1:i<xs.length:=by
  rcases Nat.lt_or_ge i xs.length with h1|h1
  ·exact h1
  ·rw [List.drop_eq_nil_of_le h1] at h;cases h
 rw [List.drop_eq_getElem_cons h1] at h;cases h;exact⟨h1,by simp [h1],rfl⟩
theorem xNd{α:Type}{xs:List α}{i:Nat}(h:xs.drop i=[]):xs.length<=i:=by simpa using h
end Go.Ab
end
section
open Go.IntKind (i64)
namespace Go.Ab
open Go.Sort
theorem xUW{a b:Org}:olt a b=true↔a.cell<b.cell\/(a.cell=b.cell/\a.row<b.row):=by
 unfold olt;by_cases h1:a.cell<b.cell
 ·simp [h1]
 ·by_cases h2:a.cell=b.cell
  ·have:(a.cell==b.cell)=true:=by simpa using h2
   simp [this,h2]
  ·have:(a.cell==b.cell)=false:=by simpa using h2
   simp [h1,h2,this]
theorem xNN{a b:Org}:olt a b=false↔b.cell<a.cell\/(a.cell=b.cell/\b.row<=a.row):=by
 rw [<-Bool.not_eq_true,xUW];omega
theorem xJB:SWO olt where
 irrefl:=fun x=>xNN.2 (by omega)
 trans:=fun x y z h1 h2=>by rw [xUW] at h1 h2 ⊢;omega
 ntrans:=fun x y z h1 h2=>by rw [xNN] at h1 h2 ⊢;omega
theorem xNf(x y:Org)(h1:olt x y=false)(h2:olt y x=false):x=y:=by
 rw [xNN] at h1 h2;cases x;cases y;simp at h1 h2 ⊢;omega
theorem xNQ(N:Nat)(a b:Org):xDZ N a b=some (olt a b):=by
 unfold xDZ olt;by_cases h1:a.cell<b.cell
 ·simp [h1]
 ·cases h2:(a.cell==b.cell) <;>simp [h1]
theorem xS2{d:Array Org}{i:Nat}(hi:i<d.size):d.toList.getD (Int.toNat (i:Int)) Ty.org.dflt=d[i]! :=by
 rw [Int.toNat_natCast,List.getD_eq_getElem?_getD];simp [hi]
theorem vAP(N:Nat){i j:Nat}{d:Array Org}(hi:i<d.size)(hj:j<d.size):xAC N (i:Int) (j:Int) d.toList=some (olt d[i]! d[j]!,d.toList):=by
 unfold xAC;rw [if_pos ⟨Int.natCast_nonneg _,by simpa using hi⟩,if_pos ⟨Int.natCast_nonneg _,by simpa using hj⟩,xNQ,xS2 hi,xS2 hj]
 rfl
theorem vDD(N:Nat){i j:Nat}{d:Array Org}(hi:i<d.size)(hj:j<d.size):xAf N (i:Int) (j:Int) d.toList=some (swp d i j).toList:=by
 unfold xAf zJb;rw [if_pos ⟨Int.natCast_nonneg _,by simpa using hi,Int.natCast_nonneg _,by simpa using hj⟩]
 rfl
theorem wn{x:Int}(n:Nat)(h:x=n)(hn:n<9223372036854775808):i64.wrap x=(n:Int):=by rw [h];exact xDh (by omega) (by omega)
theorem xFq{β:Type}(N:Nat){x y:Int}{i j:Nat}{d:Array Org}(hx:x=i)(hy:y=j)(hi:i<d.size)(hj:j<d.size)(k:Bool×List Org->Option β):
 Option.bind (xAC N x y d.toList) k=k (olt d[i]! d[j]!,d.toList):=by rw [hx,hy,vAP N hi hj];rfl
theorem xDW{β:Type}(N:Nat){x y:Int}{i j:Nat}{d:Array Org}(hx:x=i)(hy:y=j)(hi:i<d.size)(hj:j<d.size)(h2:2<=d.size)(k:List Org->Option β):
 (Option.bind (xAf N x y d.toList) fun r=>if 2<=List.length d.toList then if List.length r=List.length d.toList then k r else none else none)=k (swp d i j).toList:=by
 rw [hx,hy,vDD N hi hj];show(if 2<=List.length d.toList then if List.length (swp d i j).toList=List.length d.toList then k (swp d i j).toList else none else none)=_;rw [if_pos (by simpa using h2),if_pos (by simp [swp])]
theorem xB8{d:Array Org}{i j:Nat}:(swp d i j).size=d.size:=by simp [swp]
theorem xJd(lt:Org->Org->Bool)(a:Nat):∀(j:Nat) (d:Array Org),(insInner lt a j d).size=d.size
 |0,d=>rfl
 |j+1,d=>by
  unfold insInner;split
  ·rw [xJd lt a j,xB8]
  ·rfl
theorem ins5(N:Nat)(k:Int->Int->Int->List Org->Option (List Org)){a b i:Nat}(hi:i<4611686018427387904):∀(j n:Nat) (d:Array Org),j<d.size->2<=d.size->d.size<4611686018427387904->j<n->
 xA4 N k n (a:Int) (b:Int) (i:Int) (j:Int) d.toList=k (a:Int) (b:Int) ((i+1:Nat):Int) (insInner olt a j d).toList
 |0,n,d,hj,h2,hs,hn=>by
  obtain⟨n,rfl⟩:∃m,n=m+1:=⟨n - 1,by omega⟩;have e:(decide (((0:Nat):Int)>(a:Int)))=false:=decide_eq_false (by omega);rw [xA4,e,cond_false,wn (i+1) (by omega) (by omega)]
  rfl
 |j+1,n,d,hj,h2,hs,hn=>by
  obtain⟨n,rfl⟩:∃m,n=m+1:=⟨n - 1,by omega⟩;rw [xA4,insInner];by_cases ha:j+1>a
  ·have e:(decide (((j+1:Nat):Int)>(a:Int)))=true:=decide_eq_true (by omega);rw [e,cond_true,wn (n:=j) (by omega) (by omega),xFq N rfl rfl hj (by omega)];dsimp only;cases hl:olt d[j+1]! d[j]! with
   |true=>
    rw [jT,xDW N rfl rfl hj (by omega) h2,ins5 N k hi j n _ (by rw [xB8];omega) (by rw [xB8];exact h2) (by rw [xB8];exact hs) (by omega)];rw [if_pos (by simp [ha])]
   |false=>
    rw [jF,wn (i+1) (by omega) (by omega),if_neg (by simp)]
  ·have e:(decide (((j+1:Nat):Int)>(a:Int)))=false:=decide_eq_false (by omega);rw [e,cond_false,wn (i+1) (by omega) (by omega),if_neg (by simp [ha])]
theorem ins2(N:Nat){a b:Nat}:∀(m i n:Nat) (d:Array Org),b - i=m->b<=d.size->2<=d.size->d.size<4611686018427387904->i<4611686018427387904->m<n->d.size<N->
 xA3 N n (a:Int) (b:Int) (i:Int) d.toList=some (insOuter olt a b i d).toList:=by
 intro m
 induction m with
 |zero=>
  intro i n d hm hb h2 hs hi hn hN;obtain⟨n,rfl⟩:∃m,n=m+1:=⟨n - 1,by omega⟩;have e:(decide ((i:Int)<(b:Int)))=false:=decide_eq_false (by omega);rw [xA3,e,cond_false,insOuter,if_neg (by omega)]
 |succ m ih=>
  intro i n d hm hb h2 hs hi hn hN;obtain⟨n,rfl⟩:∃m,n=m+1:=⟨n - 1,by omega⟩;have e:(decide ((i:Int)<(b:Int)))=true:=decide_eq_true (by omega);rw [xA3,e,cond_true,ins5 N _ hi i N d (by omega) h2 hs (by omega),insOuter,if_pos (by omega)];exact ih (i+1) n _ (by omega) (by rw [xJd];exact hb) (by rw [xJd];exact h2) (by rw [xJd];exact hs) (by omega) (by omega) (by rw [xJd];exact hN)
theorem vE3(N:Nat){a b:Nat}{d:Array Org}(hab:a<=b)(hb:b<=d.size)(h2:2<=d.size)(hs:d.size<1152921504606846976)(hN:d.size<N):
 xBK N (a:Int) (b:Int) d.toList=some (insertionSort olt d a b).toList:=by
 unfold xBK insertionSort;rw [wn (a+1) (by omega) (by omega)];exact ins2 N _ _ N d rfl hb h2 (by omega) (by omega) (by omega) hN
theorem vDB(N:Nat){hi first:Nat}(x:Int):∀(m root n:Nat) (d:Array Org),hi - root=m->root<=hi->first+hi<=d.size->2<=d.size->d.size<1152921504606846976->m<n->
 xAU N n (hi:Int) (first:Int) (root:Int) d.toList=some (siftDown olt hi first root d).toList/\(siftDown olt hi first root d).size=d.size:=by
 intro m
 induction m using Nat.strongRecOn with
 |_ m ih=>
  intro root n d hm hr hf h2 hs hn;obtain⟨n,rfl⟩:∃m,n=m+1:=⟨n - 1,by omega⟩;have w1:i64.wrap (i64.wrap (2*(root:Int))+1)=((2*root+1:Nat):Int):=by
   have e:i64.wrap (2*(root:Int))=((2*root:Nat):Int):=wn _ (by omega) (by omega);rw [e];exact wn _ (by omega) (by omega)
  have w2:i64.wrap (((2*root+1:Nat):Int)+1)=((2*root+2:Nat):Int):=wn _ (by omega) (by omega);rw [xAU,siftDown,w1,w2];by_cases hc:2*root+1>=hi
  ·have e:(decide (((2*root+1:Nat):Int)>=(hi:Int)))=true:=decide_eq_true (by omega);rw [e,cond_true,dif_pos hc];exact⟨rfl,rfl⟩
  ·have e:(decide (((2*root+1:Nat):Int)>=(hi:Int)))=false:=decide_eq_false (by omega);rw [e,cond_false,dif_neg hc];have w3:i64.wrap ((first:Int)+((2*root+1:Nat):Int))=((first+(2*root+1):Nat):Int):=wn _ (by omega) (by omega);have w4:i64.wrap (((first+(2*root+1):Nat):Int)+1)=((first+(2*root+1)+1:Nat):Int):=wn _ (by omega) (by omega);have w5:i64.wrap ((first:Int)+(root:Int))=((first+root:Nat):Int):=wn _ (by omega) (by omega);rw [w3,w4,w5]
   have one:∀(c:Nat),c<hi->root<c->(Option.bind (xAC N ((first+root:Nat):Int) ((first+c:Nat):Int) d.toList) fun r2=>
    bif(!r2.1) then some r2.2 else
     Option.bind (xAf N ((first+root:Nat):Int) ((first+c:Nat):Int) r2.2) fun r3=>
     if 2<=List.length r2.2 then
     if List.length r3=List.length r2.2 then
     (xAU N n (hi:Int) (first:Int) (c:Int) r3)
     else none
     else none)=some (if !olt d[first+root]! d[first+c]! then d else siftDown olt hi first c (swp d (first+root) (first+c))).toList/\
    (if !olt d[first+root]! d[first+c]! then d else siftDown olt hi first c (swp d (first+root) (first+c))).size=d.size:=by
    intro c hc1 hc2;rw [xFq N rfl rfl (by omega) (by omega)];dsimp only;cases hl:olt d[first+root]! d[first+c]! with
    |false=>exact⟨rfl,rfl⟩
    |true=>
     have:=ih (hi - c) (by omega) c n (swp d (first+root) (first+c)) rfl (by omega) (by rw [xB8];exact hf) (by rw [xB8];exact h2) (by rw [xB8];exact hs) (by omega);rw [Bool.not_true,cond_false,xDW N rfl rfl (by omega) (by omega) h2];rw [xB8] at this;exact this
   by_cases hd:2*root+1+1<hi
   ·have e:(decide (((2*root+2:Nat):Int)<(hi:Int)))=true:=decide_eq_true (by omega);have w6:i64.wrap ((first:Int)+((2*root+2:Nat):Int))=((first+(2*root+2):Nat):Int):=wn _ (by omega) (by omega);rw [e,cond_true,xFq N rfl rfl (by omega) (by omega),w6];dsimp only;cases hl:olt d[first+(2*root+1)]! d[first+(2*root+1)+1]! with
    |true=>
     rw [jT];have:=one (2*root+2) (by omega) (by omega);rw [if_pos (by simp [hd]),dif_pos (by omega:2*root+2<hi)];exact this
    |false=>
     rw [jF];have:=one (2*root+1) (by omega) (by omega);rw [if_neg (by simp)];exact this
   ·have e:(decide (((2*root+2:Nat):Int)<(hi:Int)))=false:=decide_eq_false (by omega);rw [e,cond_false,if_neg (by simp [hd])];exact one (2*root+1) (by omega) (by omega)
end Go.Ab
end
section
open Go.IntKind (i64)
namespace Go.Ab
open Go.Sort
theorem xTm(N:Nat){hi first root:Nat}{d:Array Org}(hr:root<=hi)(hf:first+hi<=d.size)(h2:2<=d.size)(hs:d.size<1152921504606846976)(hN:d.size<N):
 xBm N (root:Int) (hi:Int) (first:Int) d.toList=some (siftDown olt hi first root d).toList/\(siftDown olt hi first root d).size=d.size:=by
 unfold xBm;exact vDB N 0 _ root N d rfl hr hf h2 hs (by omega)
theorem vE2(N:Nat){first:Nat}(z:Int):∀(k n:Nat) (d:Array Org),first+k<=d.size->2<=d.size->d.size<1152921504606846976->k<n->d.size<N->
 xBs N n (first:Int) 0 ((k:Int) - 1) d.toList=some (heapPop olt first k d).toList
 |0,n,d,hf,h2,hs,hn,hN=>by
  obtain⟨n,rfl⟩:∃m,n=m+1:=⟨n - 1,by omega⟩;have e:(decide (((0:Nat):Int) - 1>=0))=false:=decide_eq_false (by omega);rw [xBs,e,cond_false]
  rfl
 |k+1,n,d,hf,h2,hs,hn,hN=>by
  obtain⟨n,rfl⟩:∃m,n=m+1:=⟨n - 1,by omega⟩;have e:(decide (((k+1:Nat):Int) - 1>=0))=true:=decide_eq_true (by omega);have e1:((k+1:Nat):Int) - 1=(k:Int):=by omega
  have w:i64.wrap ((first:Int)+(k:Int))=((first+k:Nat):Int):=wn _ (by omega) (by omega);have w2:i64.wrap ((k:Int) - 1)=(k:Int) - 1:=xDh (by omega) (by omega);rw [xBs,e,cond_true,e1,w,xDW N rfl rfl (by omega) (by omega) h2,w2];obtain⟨s1,s2⟩:=xTm N (hi:=k) (first:=first) (root:=0) (d:=swp d first (first+k)) (by omega) (by rw [xB8];omega) (by rw [xB8];exact h2) (by rw [xB8];exact hs) (by rw [xB8];exact hN);have s1:xBm N 0 (k:Int) (first:Int) (swp d first (first+k)).toList=_:=s1;rw [s1,heapPop];exact vE2 N z k n _ (by rw [s2,xB8];omega) (by rw [s2,xB8];exact h2) (by rw [s2,xB8];exact hs) (by omega) (by rw [s2,xB8];exact hN)
theorem vE1(N:Nat){first hi:Nat}:∀(k n:Nat) (d:Array Org),k<=hi+1->first+hi<=d.size->2<=d.size->d.size<1152921504606846976->k<n->d.size<N->
 xBr N n (first:Int) 0 (hi:Int) ((k:Int) - 1) d.toList=some (heapPop olt first hi (heapBuild olt hi first k d)).toList
 |0,n,d,hk,hf,h2,hs,hn,hN=>by
  obtain⟨n,rfl⟩:∃m,n=m+1:=⟨n - 1,by omega⟩;have e:(decide (((0:Nat):Int) - 1>=0))=false:=decide_eq_false (by omega);have w2:i64.wrap ((hi:Int) - 1)=(hi:Int) - 1:=xDh (by omega) (by omega);rw [xBr,e,cond_false,w2];exact vE2 N 0 hi N d hf h2 hs (by omega) hN
 |k+1,n,d,hk,hf,h2,hs,hn,hN=>by
  obtain⟨n,rfl⟩:∃m,n=m+1:=⟨n - 1,by omega⟩;have e:(decide (((k+1:Nat):Int) - 1>=0))=true:=decide_eq_true (by omega);have e1:((k+1:Nat):Int) - 1=(k:Int):=by omega
  have w2:i64.wrap ((k:Int) - 1)=(k:Int) - 1:=xDh (by omega) (by omega);rw [xBr,e,cond_true,e1,w2];obtain⟨s1,s2⟩:=xTm N (hi:=hi) (first:=first) (root:=k) (d:=d) (by omega) hf h2 hs hN;rw [s1,heapBuild];exact vE1 N k n _ (by omega) (by rw [s2];exact hf) (by rw [s2];exact h2) (by rw [s2];exact hs) (by omega) (by rw [s2];exact hN)
theorem vAJ(N:Nat){a b:Nat}{d:Array Org}(hab:a<b)(hb:b<=d.size)(h2:2<=d.size)(hs:d.size<1152921504606846976)(hN:d.size+1<N):
 xB7 N (a:Int) (b:Int) d.toList=some (heapSort olt d a b).toList:=by
 unfold xB7 heapSort;have w1:i64.wrap ((b:Int) - (a:Int))=((b - a:Nat):Int):=wn _ (by omega) (by omega);have w2:i64.wrap (((b - a:Nat):Int) - 1)=((b - a - 1:Nat):Int):=wn _ (by omega) (by omega);have w3:i64.wrap (Int.tdiv ((b - a - 1:Nat):Int) 2)=(((b - a - 1) / 2+1:Nat):Int) - 1:=by
  have:Int.tdiv ((b - a - 1:Nat):Int) 2=(((b - a - 1) / 2:Nat):Int):=rfl;rw [this,wn ((b - a - 1) / 2) rfl (by omega)];omega
 rw [w1,w2,w3];exact vE1 N _ N d (by omega) (by omega) h2 hs (by omega) (by omega)
theorem rev3(N:Nat):∀(m i j n:Nat) (d:Array Org),j - i<=m->i<d.size->j<d.size->2<=d.size->d.size<1152921504606846976->m<n->
 xBb N n (i:Int) (j:Int) d.toList=some (reverseLoop i j d).toList:=by
 intro m
 induction m with
 |zero=>
  intro i j n d hm hi hj h2 hs hn;obtain⟨n,rfl⟩:∃m,n=m+1:=⟨n - 1,by omega⟩;have e:(decide ((i:Int)<(j:Int)))=false:=decide_eq_false (by omega);rw [xBb,e,cond_false,reverseLoop,if_neg (by omega)]
 |succ m ih=>
  intro i j n d hm hi hj h2 hs hn;obtain⟨n,rfl⟩:∃m,n=m+1:=⟨n - 1,by omega⟩;rw [xBb,reverseLoop];by_cases h:i<j
  ·have e:(decide ((i:Int)<(j:Int)))=true:=decide_eq_true (by omega);have w1:i64.wrap ((i:Int)+1)=((i+1:Nat):Int):=wn _ (by omega) (by omega);have w2:i64.wrap ((j:Int) - 1)=((j - 1:Nat):Int):=wn _ (by omega) (by omega);rw [e,cond_true,xDW N rfl rfl hi hj h2,if_pos h,w1,w2];exact ih (i+1) (j - 1) n _ (by omega) (by rw [xB8];omega) (by rw [xB8];omega) (by rw [xB8];exact h2) (by rw [xB8];exact hs) (by omega)
  ·have e:(decide ((i:Int)<(j:Int)))=false:=decide_eq_false (by omega);rw [e,cond_false,if_neg h]
theorem vFi(N:Nat){a b:Nat}{d:Array Org}(hab:a<b)(hb:b<=d.size)(h2:2<=d.size)(hs:d.size<1152921504606846976)(hN:d.size<N):
 xBP N (a:Int) (b:Int) d.toList=some (reverseRange d a b).toList:=by
 unfold xBP reverseRange;have w2:i64.wrap ((b:Int) - 1)=((b - 1:Nat):Int):=wn _ (by omega) (by omega);rw [w2];exact rev3 N _ a (b - 1) N d (Nat.le_refl _) (by omega) (by omega) h2 hs (by omega)
theorem xKM{p:Org->Bool}{d:Array Org}{j i:Nat}(h:i<=j)(hp:p d[i]! =true):scanUp p d j i=scanUp p d j (i+1):=by
 rw [scanUp,if_pos (by simp [h,hp])]
theorem xHq{p:Org->Bool}{d:Array Org}{j i:Nat}(h:¬(i<=j/\p d[i]! =true)):scanUp p d j i=i:=by
 rw [scanUp,if_neg (by simpa using h)]
theorem xI2{p:Org->Bool}{d:Array Org}{j i:Nat}(h:i<=j+1)(hp:p d[j+1]! =true):scanDown p d i (j+1)=scanDown p d i j:=by
 rw [scanDown,if_pos (by simp [h,hp])]
theorem xFM{p:Org->Bool}{d:Array Org}{j i:Nat}(h:¬(i<=j+1/\p d[j+1]! =true)):scanDown p d i (j+1)=j+1:=by
 rw [scanDown,if_neg (by simpa using h)]
abbrev pUp(d:Array Org)(a:Nat):Org->Bool:=fun x=>olt x d[a]!
abbrev pDn(d:Array Org)(a:Nat):Org->Bool:=fun x=> !olt x d[a]!
theorem xRQ{p:Org->Bool}{d:Array Org}:∀(m i j:Nat),j+1 - i=m->i<=j+1->i<=scanUp p d j i/\scanUp p d j i<=j+1:=by
 intro m
 induction m with
 |zero=>intro i j hm hi;rw [xHq (by omega)];omega
 |succ m ih=>
  intro i j hm hi;by_cases h:i<=j/\p d[i]! =true
  ·rw [xKM h.1 h.2];have:=ih (i+1) j (by omega) (by omega);omega
  ·rw [xHq h];omega
theorem xH6{p:Org->Bool}{d:Array Org}{i:Nat}(hi:0<i):∀(j:Nat),i<=j+1->i<=scanDown p d i j+1/\scanDown p d i j<=j
 |0,h=>by simp [scanDown];omega
 |j+1,h=>by
  by_cases h2:i<=j+1/\p d[j+1]! =true
  ·rw [xI2 h2.1 h2.2];have:=xH6 (p:=p) (d:=d) hi j (by omega);omega
  ·rw [xFM h2];omega
theorem xIz{p:Org->Bool}{d:Array Org}{i:Nat}(hi:0<i):∀(j:Nat),i<=j+1->i<=scanDown p d i j->p d[scanDown p d i j]! =false
 |0,h,h3=>by simp [scanDown] at h3;omega
 |j+1,h,h3=>by
  by_cases h2:i<=j+1/\p d[j+1]! =true
  ·rw [xI2 h2.1 h2.2] at h3 ⊢;exact xIz hi j (by omega) h3
  ·rw [xFM h2] at h3 ⊢;cases hp:p d[j+1]! with
   |false=>rfl
   |true=>exact absurd ⟨h3,hp⟩ h2
theorem xSP{p:Org->Bool}{d:Array Org}:∀(m i j:Nat),j+1 - i=m->scanUp p d j i<=j->p d[scanUp p d j i]! =false:=by
 intro m
 induction m with
 |zero=>intro i j hm h;rw [xHq (by omega)] at h;omega
 |succ m ih=>
  intro i j hm h;by_cases h2:i<=j/\p d[i]! =true
  ·rw [xKM h2.1 h2.2] at h ⊢;exact ih (i+1) j (by omega) h
  ·rw [xHq h2] at h ⊢;cases hp:p d[i]! with
   |false=>rfl
   |true=>exact absurd ⟨h,hp⟩ h2
theorem vAr(N:Nat)(k:Int->Int->Int->List Org->Option (Int×Bool×List Org)){a i:Nat}:∀(j n:Nat) (d:Array Org),a<i->i<=j+1->j<d.size->2<=d.size->d.size<1152921504606846976->j<n->
 xAM N k n (a:Int) (i:Int) (j:Int) d.toList=
  (if i>scanDown (pDn d a) d i j then some (((scanDown (pDn d a) d i j:Nat):Int),false,(swp d (scanDown (pDn d a) d i j) a).toList)
   else k (a:Int) ((i+1:Nat):Int) ((scanDown (pDn d a) d i j - 1:Nat):Int) (swp d i (scanDown (pDn d a) d i j)).toList)
 |0,n,d,ha,hij,hj,h2,hs,hn=>by
  obtain⟨n,rfl⟩:∃m,n=m+1:=⟨n - 1,by omega⟩;have e:(decide ((i:Int)<=((0:Nat):Int)))=false:=decide_eq_false (by omega);have e2:(decide ((i:Int)>((0:Nat):Int)))=true:=decide_eq_true (by omega);rw [xAM,e,cond_false,e2,cond_true,xDW N rfl rfl hj (by omega) h2,scanDown,if_pos (by omega)]
 |j+1,n,d,ha,hij,hj,h2,hs,hn=>by
  obtain⟨n,rfl⟩:∃m,n=m+1:=⟨n - 1,by omega⟩;have wi:i64.wrap ((i:Int)+1)=((i+1:Nat):Int):=wn _ (by omega) (by omega);have wj:i64.wrap (((j+1:Nat):Int) - 1)=((j:Nat):Int):=wn _ (by omega) (by omega);rw [xAM,wi,wj];by_cases h:i<=j+1
  ·have e:(decide ((i:Int)<=((j+1:Nat):Int)))=true:=decide_eq_true (by omega);have e2:(decide ((i:Int)>((j+1:Nat):Int)))=false:=decide_eq_false (by omega);rw [e,cond_true,xFq N rfl rfl hj (by omega),e2,cond_false];dsimp only;cases hl:olt d[j+1]! d[a]! with
   |false=>
    rw [Bool.not_false,cond_true,vAr N k j n d ha (by omega) (by omega) h2 hs (by omega),xI2 (p:=pDn d a) h (by simp [pDn,hl])]
   |true=>
    rw [Bool.not_true,cond_false,xDW N rfl rfl (by omega) hj h2,xFM (p:=pDn d a) (by simp [pDn,hl]),if_neg (by omega)]
    rfl
  ·have e:(decide ((i:Int)<=((j+1:Nat):Int)))=false:=decide_eq_false (by omega);have e2:(decide ((i:Int)>((j+1:Nat):Int)))=true:=decide_eq_true (by omega);rw [e,cond_false,e2,cond_true,xDW N rfl rfl hj (by omega) h2,xFM (p:=pDn d a) (by omega),if_pos (by omega)]
theorem vFb(N:Nat){a:Nat}:∀(m i j n:Nat) (d:Array Org),j+1 - i=m->a<i->i<=j+1->j<d.size->2<=d.size->d.size<1152921504606846976->m<n->d.size<N->
 xAy N n (a:Int) (i:Int) (j:Int) d.toList=some (((partLoop olt a i j d).1:Int),false,(swp (partLoop olt a i j d).2 (partLoop olt a i j d).1 a).toList):=by
 intro m
 induction m using Nat.strongRecOn with
 |_ m ih=>
  intro i j n d hm ha hij hj h2 hs hn hN;obtain⟨n,rfl⟩:∃m,n=m+1:=⟨n - 1,by omega⟩;have wi:i64.wrap ((i:Int)+1)=((i+1:Nat):Int):=wn _ (by omega) (by omega);rw [xAy,wi]
  have stop:∀(hc:¬(i<=j/\pUp d a d[i]! =true)),xAM N (fun z0 z1 z2 z3=>(xAy N n z0 z1 z2 z3)) N (a:Int) (i:Int) (j:Int) d.toList=
   some (((partLoop olt a i j d).1:Int),false,(swp (partLoop olt a i j d).2 (partLoop olt a i j d).1 a).toList):=by
   intro hc;rw [vAr N _ j N d ha hij hj h2 hs (by omega),partLoop_eq,xHq (p:=pUp d a) hc];have hb:=xH6 (p:=pDn d a) (d:=d) (by omega:0<i) j hij;split
   ·rfl
   ·rename_i hg;have hne:i≠scanDown (pDn d a) d i j:=by
     intro e;have h1:=xIz (p:=pDn d a) (d:=d) (by omega:0<i) j hij (by omega);rw [<-e] at h1;have h2:pUp d a d[i]! =true:=by simpa [pDn,pUp] using h1
     exact hc ⟨by omega,h2⟩
    exact ih (scanDown (pDn d a) d i j - 1+1 - (i+1)) (by omega) (i+1) (scanDown (pDn d a) d i j - 1) n _ rfl (by omega) (by omega) (by rw [xB8];omega) (by rw [xB8];exact h2) (by rw [xB8];exact hs) (by omega) (by rw [xB8];exact hN)
  by_cases h:i<=j
  ·have e:(decide ((i:Int)<=(j:Int)))=true:=decide_eq_true (by omega);rw [e,cond_true,xFq N rfl rfl (by omega) (by omega)];dsimp only;cases hl:olt d[i]! d[a]! with
   |true=>
    rw [jT,ih (m - 1) (by omega) (i+1) j n d (by omega) (by omega) (by omega) hj h2 hs (by omega) hN];have:partLoop olt a i j d=partLoop olt a (i+1) j d:=by
     rw [partLoop_eq,partLoop_eq (i:=i+1),xKM (p:=pUp d a) h (by simp [pUp,hl])]
    rw [this]
   |false=>rw [jF];exact stop (by simp [pUp,hl])
  ·have e:(decide ((i:Int)<=(j:Int)))=false:=decide_eq_false (by omega);rw [e,cond_false];exact stop (by omega)
theorem vFc(N:Nat){a i:Nat}:∀(j n:Nat) (d:Array Org),a<i->i<=j+1->j<d.size->2<=d.size->d.size<1152921504606846976->j<n->
 xAR N n (a:Int) (i:Int) (j:Int) d.toList=
  (if i>scanDown (pDn d a) d i j then some (((scanDown (pDn d a) d i j:Nat):Int),true,(swp d (scanDown (pDn d a) d i j) a).toList)
   else xAy N N (a:Int) ((i+1:Nat):Int) ((scanDown (pDn d a) d i j - 1:Nat):Int) (swp d i (scanDown (pDn d a) d i j)).toList)
 |0,n,d,ha,hij,hj,h2,hs,hn=>by
  obtain⟨n,rfl⟩:∃m,n=m+1:=⟨n - 1,by omega⟩;have e:(decide ((i:Int)<=((0:Nat):Int)))=false:=decide_eq_false (by omega);have e2:(decide ((i:Int)>((0:Nat):Int)))=true:=decide_eq_true (by omega);rw [xAR,e,cond_false,e2,cond_true,xDW N rfl rfl hj (by omega) h2,scanDown,if_pos (by omega)]
 |j+1,n,d,ha,hij,hj,h2,hs,hn=>by
  obtain⟨n,rfl⟩:∃m,n=m+1:=⟨n - 1,by omega⟩;have wi:i64.wrap ((i:Int)+1)=((i+1:Nat):Int):=wn _ (by omega) (by omega);have wj:i64.wrap (((j+1:Nat):Int) - 1)=((j:Nat):Int):=wn _ (by omega) (by omega);rw [xAR,wi,wj];by_cases h:i<=j+1
  ·have e:(decide ((i:Int)<=((j+1:Nat):Int)))=true:=decide_eq_true (by omega);have e2:(decide ((i:Int)>((j+1:Nat):Int)))=false:=decide_eq_false (by omega);rw [e,cond_true,xFq N rfl rfl hj (by omega),e2,cond_false];dsimp only;cases hl:olt d[j+1]! d[a]! with
   |false=>
    rw [Bool.not_false,cond_true,vFc N j n d ha (by omega) (by omega) h2 hs (by omega),xI2 (p:=pDn d a) h (by simp [pDn,hl])]
   |true=>
    rw [Bool.not_true,cond_false,xDW N rfl rfl (by omega) hj h2,xFM (p:=pDn d a) (by simp [pDn,hl]),if_neg (by omega)]
    rfl
  ·have e:(decide ((i:Int)<=((j+1:Nat):Int)))=false:=decide_eq_false (by omega);have e2:(decide ((i:Int)>((j+1:Nat):Int)))=true:=decide_eq_true (by omega);rw [e,cond_false,e2,cond_true,xDW N rfl rfl hj (by omega) h2,xFM (p:=pDn d a) (by omega),if_pos (by omega)]
theorem vGP(N:Nat){a j:Nat}:∀(m i n:Nat) (d:Array Org),j+1 - i=m->a<i->i<=j+1->j<d.size->2<=d.size->d.size<1152921504606846976->m<n->d.size<N->
 xBn N n (a:Int) (i:Int) (j:Int) d.toList=xAR N N (a:Int) ((scanUp (pUp d a) d j i:Nat):Int) (j:Int) d.toList:=by
 intro m
 induction m with
 |zero=>
  intro i n d hm ha hij hj h2 hs hn hN;obtain⟨n,rfl⟩:∃m,n=m+1:=⟨n - 1,by omega⟩;have e:(decide ((i:Int)<=(j:Int)))=false:=decide_eq_false (by omega);rw [xBn,e,cond_false,xHq (by omega)]
 |succ m ih=>
  intro i n d hm ha hij hj h2 hs hn hN;obtain⟨n,rfl⟩:∃m,n=m+1:=⟨n - 1,by omega⟩;have wi:i64.wrap ((i:Int)+1)=((i+1:Nat):Int):=wn _ (by omega) (by omega);have e:(decide ((i:Int)<=(j:Int)))=true:=decide_eq_true (by omega);rw [xBn,wi,e,cond_true,xFq N rfl rfl (by omega) (by omega)];dsimp only;cases hl:olt d[i]! d[a]! with
  |true=>rw [jT,ih (i+1) n d (by omega) (by omega) (by omega) hj h2 hs (by omega) hN,xKM (p:=pUp d a) (i:=i) (j:=j) (by omega) (by simp [pUp,hl])]
  |false=>rw [jF,xHq (p:=pUp d a) (by simp [pUp,hl])]
theorem vDw(N:Nat){a b pivot:Nat}{d:Array Org}(hp1:a<=pivot)(hp2:pivot<b)(hb:b<=d.size)(hab:a+1<b)(h2:2<=d.size)(hs:d.size<1152921504606846976)(hN:d.size<N):
 xB3 N (a:Int) (b:Int) (pivot:Int) d.toList=some (((partition olt d a b pivot).1:Int),(partition olt d a b pivot).2.1,(partition olt d a b pivot).2.2.toList):=by
 have wa:i64.wrap ((a:Int)+1)=((a+1:Nat):Int):=wn _ (by omega) (by omega);have wb:i64.wrap ((b:Int) - 1)=((b - 1:Nat):Int):=wn _ (by omega) (by omega);have hs1:(swp d a pivot).size=d.size:=xB8;unfold xB3 partition;rw [xDW N rfl rfl (by omega) (by omega) h2,wa,wb];generalize swp d a pivot=d1 at hs1;have hu:=xRQ (p:=pUp d1 a) (d:=d1) _ (a+1) (b - 1) rfl (by omega);rw [vGP N _ (a+1) N d1 rfl (by omega) (by omega) (by omega) (by omega) (by omega) (by omega) (by omega),vFc N (b - 1) N d1 (by omega) (by omega) (by omega) (by omega) (by omega) (by omega)];have hd:=xH6 (p:=pDn d1 a) (d:=d1) (i:=scanUp (pUp d1 a) d1 (b - 1) (a+1)) (by omega) (b - 1) (by omega);dsimp only;by_cases hc:scanUp (pUp d1 a) d1 (b - 1) (a+1)>scanDown (pDn d1 a) d1 (scanUp (pUp d1 a) d1 (b - 1) (a+1)) (b - 1)
 ·rw [if_pos hc,if_pos hc]
 ·have hne:scanUp (pUp d1 a) d1 (b - 1) (a+1)≠scanDown (pDn d1 a) d1 (scanUp (pUp d1 a) d1 (b - 1) (a+1)) (b - 1):=by
   intro e;have h1:=xIz (p:=pDn d1 a) (d:=d1) (i:=scanUp (pUp d1 a) d1 (b - 1) (a+1)) (by omega) (b - 1) (by omega) (by omega);rw [<-e] at h1;have h2:=xSP (p:=pUp d1 a) (d:=d1) _ (a+1) (b - 1) rfl (by omega);simp only [pDn,pUp] at h1 h2;rw [h2] at h1;cases h1
  rw [if_neg hc,if_neg hc];exact vFb N _ _ _ N _ rfl (by omega) (by omega) (by rw [xB8];omega) (by rw [xB8];omega) (by rw [xB8];omega) (by omega) (by rw [xB8];omega)
end Go.Ab
end
section
open Go.IntKind (i64)
namespace Go.Ab
open Go.Sort
abbrev qUp(d:Array Org)(a:Nat):Org->Bool:=fun x=> !olt d[a]! x
abbrev qDn(d:Array Org)(a:Nat):Org->Bool:=fun x=>olt d[a]! x
theorem xVx(N:Nat)(k:Int->Int->Int->List Org->Option (Int×List Org)){a i:Nat}:∀(j n:Nat) (d:Array Org),a<i->i<=j+1->j<d.size->2<=d.size->d.size<1152921504606846976->j<n->
 xAF N k n (a:Int) (i:Int) (j:Int) d.toList=
  (if i>scanDown (qDn d a) d i j then some ((i:Int),d.toList)
   else k (a:Int) ((i+1:Nat):Int) ((scanDown (qDn d a) d i j - 1:Nat):Int) (swp d i (scanDown (qDn d a) d i j)).toList)
 |0,n,d,ha,hij,hj,h2,hs,hn=>by
  obtain⟨n,rfl⟩:∃m,n=m+1:=⟨n - 1,by omega⟩;have e:(decide ((i:Int)<=((0:Nat):Int)))=false:=decide_eq_false (by omega);have e2:(decide ((i:Int)>((0:Nat):Int)))=true:=decide_eq_true (by omega);rw [xAF,e,cond_false,e2,cond_true,scanDown,if_pos (by omega)]
 |j+1,n,d,ha,hij,hj,h2,hs,hn=>by
  obtain⟨n,rfl⟩:∃m,n=m+1:=⟨n - 1,by omega⟩;have wi:i64.wrap ((i:Int)+1)=((i+1:Nat):Int):=wn _ (by omega) (by omega);have wj:i64.wrap (((j+1:Nat):Int) - 1)=((j:Nat):Int):=wn _ (by omega) (by omega);rw [xAF,wi,wj];by_cases h:i<=j+1
  ·have e:(decide ((i:Int)<=((j+1:Nat):Int)))=true:=decide_eq_true (by omega);have e2:(decide ((i:Int)>((j+1:Nat):Int)))=false:=decide_eq_false (by omega);rw [e,cond_true,xFq N rfl rfl (by omega) hj,e2,cond_false];dsimp only;cases hl:olt d[a]! d[j+1]! with
   |true=>
    rw [jT,xVx N k j n d ha (by omega) (by omega) h2 hs (by omega),xI2 (p:=qDn d a) h (by simp [qDn,hl])]
   |false=>
    rw [jF,xDW N rfl rfl (by omega) hj h2,xFM (p:=qDn d a) (by simp [qDn,hl]),if_neg (by omega)]
    rfl
  ·have e:(decide ((i:Int)<=((j+1:Nat):Int)))=false:=decide_eq_false (by omega);have e2:(decide ((i:Int)>((j+1:Nat):Int)))=true:=decide_eq_true (by omega);rw [e,cond_false,e2,cond_true,xFM (p:=qDn d a) (by omega),if_pos (by omega)]
theorem vDx(N:Nat){a:Nat}:∀(m i j n:Nat) (d:Array Org),j+1 - i=m->a<i->i<=j+1->j<d.size->2<=d.size->d.size<1152921504606846976->m<n->d.size<N->
 xAE N n (a:Int) (i:Int) (j:Int) d.toList=some (((partEqLoop olt a i j d).1:Int),(partEqLoop olt a i j d).2.toList):=by
 intro m
 induction m using Nat.strongRecOn with
 |_ m ih=>
  intro i j n d hm ha hij hj h2 hs hn hN;obtain⟨n,rfl⟩:∃m,n=m+1:=⟨n - 1,by omega⟩;have wi:i64.wrap ((i:Int)+1)=((i+1:Nat):Int):=wn _ (by omega) (by omega);rw [xAE,wi]
  have stop:∀(hc:¬(i<=j/\qUp d a d[i]! =true)),xAF N (fun z0 z1 z2 z3=>(xAE N n z0 z1 z2 z3)) N (a:Int) (i:Int) (j:Int) d.toList=
   some (((partEqLoop olt a i j d).1:Int),(partEqLoop olt a i j d).2.toList):=by
   intro hc;rw [xVx N _ j N d ha hij hj h2 hs (by omega),partEqLoop_eq,xHq (p:=qUp d a) hc];have hb:=xH6 (p:=qDn d a) (d:=d) (by omega:0<i) j hij;split
   ·rfl
   ·rename_i hg;have hne:i≠scanDown (qDn d a) d i j:=by
     intro e;have h1:=xIz (p:=qDn d a) (d:=d) (by omega:0<i) j hij (by omega);rw [<-e] at h1;have h2:qUp d a d[i]! =true:=by simpa [qDn,qUp] using h1
     exact hc ⟨by omega,h2⟩
    exact ih (scanDown (qDn d a) d i j - 1+1 - (i+1)) (by omega) (i+1) (scanDown (qDn d a) d i j - 1) n _ rfl (by omega) (by omega) (by rw [xB8];omega) (by rw [xB8];exact h2) (by rw [xB8];exact hs) (by omega) (by rw [xB8];exact hN)
  by_cases h:i<=j
  ·have e:(decide ((i:Int)<=(j:Int)))=true:=decide_eq_true (by omega);rw [e,cond_true,xFq N rfl rfl (by omega) (by omega)];dsimp only;cases hl:olt d[a]! d[i]! with
   |false=>
    rw [Bool.not_false,cond_true,ih (m - 1) (by omega) (i+1) j n d (by omega) (by omega) (by omega) hj h2 hs (by omega) hN];have:partEqLoop olt a i j d=partEqLoop olt a (i+1) j d:=by
     rw [partEqLoop_eq,partEqLoop_eq (i:=i+1),xKM (p:=qUp d a) h (by simp [qUp,hl])]
    rw [this]
   |true=>rw [Bool.not_true,cond_false];exact stop (by simp [qUp,hl])
  ·have e:(decide ((i:Int)<=(j:Int)))=false:=decide_eq_false (by omega);rw [e,cond_false];exact stop (by omega)
theorem xVy(N:Nat){a b pivot:Nat}{d:Array Org}(hp1:a<=pivot)(hp2:pivot<b)(hb:b<=d.size)(hab:a+1<b)(h2:2<=d.size)(hs:d.size<1152921504606846976)(hN:d.size<N):
 xBH N (a:Int) (b:Int) (pivot:Int) d.toList=some (((partitionEqual olt d a b pivot).1:Int),(partitionEqual olt d a b pivot).2.toList):=by
 have wa:i64.wrap ((a:Int)+1)=((a+1:Nat):Int):=wn _ (by omega) (by omega);have wb:i64.wrap ((b:Int) - 1)=((b - 1:Nat):Int):=wn _ (by omega) (by omega);have hs1:(swp d a pivot).size=d.size:=xB8;unfold xBH partitionEqual;rw [xDW N rfl rfl (by omega) (by omega) h2,wa,wb];exact vDx N _ (a+1) (b - 1) N _ rfl (by omega) (by omega) (by omega) (by omega) (by omega) (by omega) (by omega)
theorem vFj(N:Nat)(k:Int->Int->Int->Int->List Org->Option (Bool×List Org)){a b i:Nat}{s:Nat}(hs5:s<100):∀(m j n:Nat) (d:Array Org),b - j=m->0<j->j<1152921504606846976->b<=d.size->2<=d.size->d.size<1152921504606846976->m<n->
 xAL N k n (a:Int) (b:Int) (i:Int) (s:Int) (j:Int) d.toList=k (a:Int) (b:Int) (i:Int) ((s+1:Nat):Int) (shiftUp olt b j d).toList/\(shiftUp olt b j d).size=d.size:=by
 have ws:i64.wrap ((s:Int)+1)=((s+1:Nat):Int):=wn _ (by omega) (by omega);intro m
 induction m with
 |zero=>
  intro j n d hm hj hjb hb h2 hs hn;obtain⟨n,rfl⟩:∃m,n=m+1:=⟨n - 1,by omega⟩;have e:(decide ((j:Int)<(b:Int)))=false:=decide_eq_false (by omega);rw [xAL,e,cond_false,shiftUp,if_neg (by omega),ws];exact⟨rfl,rfl⟩
 |succ m ih=>
  intro j n d hm hj hjb hb h2 hs hn;obtain⟨n,rfl⟩:∃m,n=m+1:=⟨n - 1,by omega⟩;have e:(decide ((j:Int)<(b:Int)))=true:=decide_eq_true (by omega);have w1:i64.wrap ((j:Int) - 1)=((j - 1:Nat):Int):=wn _ (by omega) (by omega);have w2:i64.wrap ((j:Int)+1)=((j+1:Nat):Int):=wn _ (by omega) (by omega);rw [xAL,e,cond_true,w1,w2,ws,xFq N rfl rfl (by omega) (by omega),shiftUp,if_pos (by omega)];dsimp only;cases hl:olt d[j]! d[j - 1]! with
  |false=>exact⟨rfl,rfl⟩
  |true=>
   rw [Bool.not_true,cond_false,xDW N rfl rfl (by omega) (by omega) h2];have:=ih (j+1) n (swp d j (j - 1)) (by omega) (by omega) (by omega) (by rw [xB8];exact hb) (by rw [xB8];exact h2) (by rw [xB8];exact hs) (by omega);rw [xB8] at this;exact this
def up18(b i:Nat)(d:Array Org):Array Org:=if b - i>=2 then shiftUp olt b (i+1) d else d
theorem xTl(N:Nat)(k:Int->Int->Int->Int->List Org->Option (Bool×List Org)){a b i:Nat}{s:Nat}(hs5:s<100)(d:Array Org)(hib:i<=b)(hb:b<=d.size)(h2:2<=d.size)(hs:d.size<1152921504606846976)(hN:d.size<N):
 xAB N k (a:Int) (b:Int) (i:Int) (s:Int) d.toList=k (a:Int) (b:Int) (i:Int) ((s+1:Nat):Int) (up18 b i d).toList/\(up18 b i d).size=d.size:=by
 have ws:i64.wrap ((s:Int)+1)=((s+1:Nat):Int):=wn _ (by omega) (by omega);have w1:i64.wrap ((b:Int) - (i:Int))=((b - i:Nat):Int):=wn _ (by omega) (by omega);have w2:i64.wrap ((i:Int)+1)=((i+1:Nat):Int):=wn _ (by omega) (by omega);unfold xAB up18;rw [ws,w1,w2];by_cases h:b - i>=2
 ·have e:(decide (((b - i:Nat):Int)>=2))=true:=decide_eq_true (by omega);rw [e,cond_true,if_pos h];exact vFj N k hs5 _ (i+1) N d rfl (by omega) (by omega) hb h2 hs (by omega)
 ·have e:(decide (((b - i:Nat):Int)>=2))=false:=decide_eq_false (by omega);rw [e,cond_false,if_neg h];exact⟨rfl,rfl⟩
theorem vAs(N:Nat)(k:Int->Int->Int->Int->List Org->Option (Bool×List Org)){a b i:Nat}{s:Nat}:∀(j n:Nat) (d:Array Org),j<d.size->2<=d.size->d.size<1152921504606846976->j<n->
 xAK N k n (a:Int) (b:Int) (i:Int) (s:Int) (j:Int) d.toList=xAB N k (a:Int) (b:Int) (i:Int) (s:Int) (shiftDown olt j d).toList/\(shiftDown olt j d).size=d.size
 |0,n,d,hj,h2,hs,hn=>by
  obtain⟨n,rfl⟩:∃m,n=m+1:=⟨n - 1,by omega⟩;have e:(decide (((0:Nat):Int)>=1))=false:=decide_eq_false (by omega);rw [xAK,e,cond_false];exact⟨rfl,rfl⟩
 |j+1,n,d,hj,h2,hs,hn=>by
  obtain⟨n,rfl⟩:∃m,n=m+1:=⟨n - 1,by omega⟩;have e:(decide (((j+1:Nat):Int)>=1))=true:=decide_eq_true (by omega);have w1:i64.wrap (((j+1:Nat):Int) - 1)=((j:Nat):Int):=wn _ (by omega) (by omega);rw [xAK,e,cond_true,w1,xFq N rfl rfl hj (by omega),shiftDown];dsimp only;cases hl:olt d[j+1]! d[j]! with
  |false=>exact⟨rfl,rfl⟩
  |true=>
   rw [Bool.not_true,cond_false,xDW N rfl rfl hj (by omega) h2];have:=vAs N k (a:=a) (b:=b) (i:=i) (s:=s) j n (swp d (j+1) j) (by rw [xB8];omega) (by rw [xB8];exact h2) (by rw [xB8];exact hs) (by omega);rw [xB8] at this;exact this
theorem xNa(d:Array Org)(b:Nat):∀(m i:Nat),b - i=m->i<=b->i<=scanSorted olt d b i/\scanSorted olt d b i<=b:=by
 intro m
 induction m with
 |zero=>intro i hm hi;rw [scanSorted,if_neg (by simp;omega)];omega
 |succ m ih=>
  intro i hm hi;rw [scanSorted];split
  ·have:=ih (i+1) (by omega) (by omega);omega
  ·omega
theorem vGS(N:Nat)(k:Int->Int->Int->Int->List Org->Option (Bool×List Org)){a b:Nat}{s:Nat}:∀(m i n:Nat) (d:Array Org),b - i=m->0<i->i<=b->b<=d.size->2<=d.size->d.size<1152921504606846976->m<n->
 xAN N k n (a:Int) (b:Int) (i:Int) (s:Int) d.toList=xAO N k (a:Int) (b:Int) ((scanSorted olt d b i:Nat):Int) (s:Int) d.toList:=by
 intro m
 induction m with
 |zero=>
  intro i n d hm hi hib hb h2 hs hn;obtain⟨n,rfl⟩:∃m,n=m+1:=⟨n - 1,by omega⟩;have e:(decide ((i:Int)<(b:Int)))=false:=decide_eq_false (by omega);rw [xAN,e,cond_false,scanSorted,if_neg (by simp;omega)]
 |succ m ih=>
  intro i n d hm hi hib hb h2 hs hn;obtain⟨n,rfl⟩:∃m,n=m+1:=⟨n - 1,by omega⟩;have e:(decide ((i:Int)<(b:Int)))=true:=decide_eq_true (by omega);have w1:i64.wrap ((i:Int) - 1)=((i - 1:Nat):Int):=wn _ (by omega) (by omega);have w2:i64.wrap ((i:Int)+1)=((i+1:Nat):Int):=wn _ (by omega) (by omega);rw [xAN,e,cond_true,w1,w2,xFq N rfl rfl (by omega) (by omega),scanSorted];dsimp only;cases hl:olt d[i]! d[i - 1]! with
  |false=>
   rw [Bool.not_false,cond_true,if_pos (by simp;omega)];exact ih (i+1) n d (by omega) (by omega) (by omega) hb h2 hs (by omega)
  |true=>rw [Bool.not_true,cond_false,if_neg (by simp)]
theorem vGQ(N:Nat)(k:Int->Int->Int->Int->List Org->Option (Bool×List Org)){a b i:Nat}{s:Nat}(hs5:s<100)(d:Array Org)(hai:a<i)(hib:i<=b)(hb:b<=d.size)(h2:2<=d.size)(hs:d.size<1152921504606846976)(hN:d.size<N):
 xAO N k (a:Int) (b:Int) (i:Int) (s:Int) d.toList=
  (if i=b then some (true,d.toList) else if b - a<50 then some (false,d.toList) else
    k (a:Int) (b:Int) (i:Int) ((s+1:Nat):Int) (up18 b i (if i - a>=2 then shiftDown olt (i - 1) (swp d i (i - 1)) else swp d i (i - 1))).toList)/\
 (i≠b->(up18 b i (if i - a>=2 then shiftDown olt (i - 1) (swp d i (i - 1)) else swp d i (i - 1))).size=d.size):=by
 have w1:i64.wrap ((b:Int) - (a:Int))=((b - a:Nat):Int):=wn _ (by omega) (by omega);have w2:i64.wrap ((i:Int) - 1)=((i - 1:Nat):Int):=wn _ (by omega) (by omega);have w3:i64.wrap ((i:Int) - (a:Int))=((i - a:Nat):Int):=wn _ (by omega) (by omega);unfold xAO;rw [w1,w2,w3];by_cases h:i=b
 ·have e:(((i:Int))==(b:Int))=true:=by simp [h]
  rw [e,cond_true,if_pos h];exact⟨rfl,fun g=>absurd h g⟩
 ·have e:(((i:Int))==(b:Int))=false:=by simp;omega
  rw [e,cond_false,if_neg h];have hlt:i<b:=by omega
  have d1:=vAs N k (a:=a) (b:=b) (i:=i) (s:=s) (i - 1) N (swp d i (i - 1)) (by rw [xB8];omega) (by rw [xB8];exact h2) (by rw [xB8];exact hs) (by omega);rw [xB8] at d1;by_cases h50:b - a<50
  ·have e2:(decide (((b - a:Nat):Int)<50))=true:=decide_eq_true (by omega);rw [e2,cond_true,if_pos h50];refine⟨rfl,fun _=> ?_⟩;by_cases h3:i - a>=2
   ·rw [if_pos h3];rw [(xTl N k (a:=a) (i:=i) hs5 (shiftDown olt (i - 1) (swp d i (i - 1))) hib (by rw [d1.2];exact hb) (by rw [d1.2];exact h2) (by rw [d1.2];exact hs) (by rw [d1.2];exact hN)).2,d1.2]
   ·rw [if_neg h3];rw [(xTl N k (a:=a) (i:=i) hs5 (swp d i (i - 1)) hib (by rw [xB8];exact hb) (by rw [xB8];exact h2) (by rw [xB8];exact hs) (by rw [xB8];exact hN)).2,xB8]
  ·have e2:(decide (((b - a:Nat):Int)<50))=false:=decide_eq_false (by omega);rw [e2,cond_false,if_neg h50,xDW N rfl rfl (by omega) (by omega) h2];by_cases h3:i - a>=2
   ·have e3:(decide (((i - a:Nat):Int)>=2))=true:=decide_eq_true (by omega);have u:=xTl N k (a:=a) (i:=i) hs5 (shiftDown olt (i - 1) (swp d i (i - 1))) hib (by rw [d1.2];exact hb) (by rw [d1.2];exact h2) (by rw [d1.2];exact hs) (by rw [d1.2];exact hN);rw [e3,cond_true,if_pos h3,d1.1,u.1,u.2,d1.2];exact⟨rfl,fun _=>rfl⟩
   ·have e3:(decide (((i - a:Nat):Int)>=2))=false:=decide_eq_false (by omega);have u:=xTl N k (a:=a) (i:=i) hs5 (swp d i (i - 1)) hib (by rw [xB8];exact hb) (by rw [xB8];exact h2) (by rw [xB8];exact hs) (by rw [xB8];exact hN);rw [e3,cond_false,if_neg h3,u.1,u.2,xB8];exact⟨rfl,fun _=>rfl⟩
theorem vFh(N:Nat){a b:Nat}:∀(q s i n:Nat) (d:Array Org),s+q=5->a<i->i<=b->b<=d.size->2<=d.size->d.size<1152921504606846976->q<n->d.size<N->
 xAD N n (a:Int) (b:Int) (i:Int) (s:Int) d.toList=some ((partialIns olt a b q i d).2,(partialIns olt a b q i d).1.toList)
 |0,s,i,n,d,hq,hai,hib,hb,h2,hs,hn,hN=>by
  obtain⟨n,rfl⟩:∃m,n=m+1:=⟨n - 1,by omega⟩;have e:(decide ((s:Int)<5))=false:=decide_eq_false (by omega);rw [xAD,e,cond_false]
  rfl
 |q+1,s,i,n,d,hq,hai,hib,hb,h2,hs,hn,hN=>by
  obtain⟨n,rfl⟩:∃m,n=m+1:=⟨n - 1,by omega⟩;have e:(decide ((s:Int)<5))=true:=decide_eq_true (by omega);have hsc:=xNa d b _ i rfl hib;rw [xAD,e,cond_true,vGS N _ _ i N d rfl (by omega) hib hb h2 hs (by omega),partialIns];generalize scanSorted olt d b i=i2 at hsc;obtain⟨p1,p2⟩:=vGQ N (fun z0 z1 z2 z3 z4=>(xAD N n z0 z1 z2 z3 z4)) (a:=a) (b:=b) (i:=i2) (s:=s) (by omega) d (by omega) (by omega) hb h2 hs hN;rw [p1];dsimp only;by_cases h:i2=b
  ·rw [if_pos h,if_pos h]
  ·rw [if_neg h,if_neg h];by_cases h50:b - a<50
   ·rw [if_pos h50,if_pos h50]
   ·rw [if_neg h50,if_neg h50];have hsz:=p2 h;exact vFh N q (s+1) i2 n _ (by omega) (by omega) (by omega) (by rw [hsz];exact hb) (by rw [hsz];exact h2) (by rw [hsz];exact hs) (by omega) (by rw [hsz];exact hN)
theorem vDy(N:Nat){a b:Nat}{d:Array Org}(hab:a<b)(hb:b<=d.size)(h2:2<=d.size)(hs:d.size<1152921504606846976)(hN:d.size+10<N):
 xBh N (a:Int) (b:Int) d.toList=some ((partialInsertionSort olt d a b).2,(partialInsertionSort olt d a b).1.toList):=by
 have wa:i64.wrap ((a:Int)+1)=((a+1:Nat):Int):=wn _ (by omega) (by omega);unfold xBh partialInsertionSort;rw [wa];exact vFh N 5 0 (a+1) N d rfl (by omega) (by omega) hb h2 hs (by omega) (by omega)
end Go.Ab
end
section
open Go.IntKind (i64)
namespace Go.Ab
open Go.Sort
theorem xNP(N:Nat){x y:Int}{i j:Nat}(s:Int){d:Array Org}(hx:x=i)(hy:y=j)(hi:i<d.size)(hj:j<d.size):
 ∃(i' j' :Nat) (s' :Int),xBA N x y s d.toList=some ((i' :Int),(j' :Int),s',d.toList)/\((i' =i/\j' =j)\/(i' =j/\j' =i)):=by
 subst hx hy;unfold xBA;rw [xFq N rfl rfl hj hi];dsimp only;cases olt d[j]! d[i]! with
 |true=>exact⟨j,i,_,rfl,.inr ⟨rfl,rfl⟩⟩
 |false=>exact⟨i,j,_,rfl,.inl ⟨rfl,rfl⟩⟩
theorem xND(N:Nat){x y z:Int}{i j k:Nat}(s:Int){d:Array Org}(hx:x=i)(hy:y=j)(hz:z=k)(hi:i<d.size)(hj:j<d.size)(hk:k<d.size):
 ∃(m:Nat) (s' :Int),xBz N x y z s d.toList=some ((m:Int),s',d.toList)/\(m=i\/m=j\/m=k):=by
 unfold xBz;obtain⟨i1,j1,s1,e1,h1⟩:=xNP N s hx hy hi hj;rw [e1];obtain⟨i2,j2,s2,e2,h2⟩:=xNP N s1 (x:=(j1:Int)) (y:=z) rfl hz (by omega) hk;simp only [jS];rw [e2];obtain⟨i3,j3,s3,e3,h3⟩:=xNP N s2 (x:=(i1:Int)) (y:=(i2:Int)) (d:=d) rfl rfl (by omega) (by omega);simp only [jS];rw [e3];exact⟨j3,s3,rfl,by omega⟩
theorem xNC(N:Nat){x:Int}{i:Nat}(s:Int){d:Array Org}(hx:x=i)(h0:0<i)(hi:i+1<d.size)(hs:d.size<1152921504606846976):
 ∃(m:Nat) (s' :Int),xAX N x s d.toList=some ((m:Int),s',d.toList)/\(m=i - 1\/m=i\/m=i+1):=by
 subst hx;unfold xAX;have w1:i64.wrap ((i:Int) - 1)=((i - 1:Nat):Int):=wn _ (by omega) (by omega);have w2:i64.wrap ((i:Int)+1)=((i+1:Nat):Int):=wn _ (by omega) (by omega);rw [w1,w2];obtain⟨m,s1,e1,h1⟩:=xND N s (x:=((i - 1:Nat):Int)) (y:=(i:Int)) (z:=((i+1:Nat):Int)) (d:=d) rfl rfl rfl (by omega) (by omega) hi;rw [e1];exact⟨m,s1,rfl,h1⟩
theorem xUi(N:Nat){a b:Nat}{d:Array Org}(hab:a+12<b)(hb:b<=d.size)(hs:d.size<1152921504606846976):
 ∃(p:Nat) (h:Int),xBS N (a:Int) (b:Int) d.toList=some ((p:Int),h,d.toList)/\(a<=p/\p<b):=by
 have w1:i64.wrap ((b:Int) - (a:Int))=((b - a:Nat):Int):=wn _ (by omega) (by omega);have t:Int.tdiv ((b - a:Nat):Int) 4=(((b - a) / 4:Nat):Int):=rfl;have w2:i64.wrap (Int.tdiv ((b - a:Nat):Int) 4)=(((b - a) / 4:Nat):Int):=by rw [t];exact wn _ rfl (by omega)
 have q:∀c:Nat,c<=3->i64.wrap ((a:Int)+i64.wrap ((((b - a) / 4:Nat):Int)*(c:Int)))=((a+(b - a) / 4*c:Nat):Int):=by
  intro c hc;have hle:(b - a) / 4*c<=(b - a) / 4*3:=Nat.mul_le_mul_left _ hc;have e:i64.wrap ((((b - a) / 4:Nat):Int)*(c:Int))=(((b - a) / 4*c:Nat):Int):=wn _ (by simp) (by omega);rw [e];exact wn _ (by simp) (by omega)
 have q1:=q 1 (by omega);have q2:=q 2 (by omega);have q3:=q 3 (by omega);have q1:i64.wrap ((a:Int)+i64.wrap ((((b - a) / 4:Nat):Int)*1))=_:=q1;have q2:i64.wrap ((a:Int)+i64.wrap ((((b - a) / 4:Nat):Int)*2))=_:=q2;have q3:i64.wrap ((a:Int)+i64.wrap ((((b - a) / 4:Nat):Int)*3))=_:=q3;unfold xBS;rw [w1,w2,q1,q2,q3];have e8:(decide (((b - a:Nat):Int)>=8))=true:=decide_eq_true (by omega);rw [e8,cond_true];have k1:3<=(b - a) / 4:=by omega
 have k2:(b - a) / 4*4<=b - a:=by omega
 clear q q1 q2 q3 w2 t;generalize (b - a) / 4=q at k1 k2;by_cases h50:b - a>=50
 ·have e50:(decide (((b - a:Nat):Int)>=50))=true:=decide_eq_true (by omega);rw [e50,cond_true];obtain⟨m1,s1,e1,h1⟩:=xNC N 0 (x:=((a+q*1:Nat):Int)) (d:=d) rfl (by omega) (by omega) hs;rw [e1];simp only [jS];obtain⟨m2,s2,e2,h2⟩:=xNC N s1 (x:=((a+q*2:Nat):Int)) (d:=d) rfl (by omega) (by omega) hs;rw [e2];simp only [jS];obtain⟨m3,s3,e3,h3⟩:=xNC N s2 (x:=((a+q*3:Nat):Int)) (d:=d) rfl (by omega) (by omega) hs;rw [e3];simp only [jS];obtain⟨m4,s4,e4,h4⟩:=xND N s3 (x:=(m1:Int)) (y:=(m2:Int)) (z:=(m3:Int)) (d:=d) rfl rfl rfl (by omega) (by omega) (by omega);rw [e4];simp only [jS];have hm:a<=m4/\m4<b:=by omega
  generalize (s4==(0:Int))=c1;generalize (s4==(12:Int))=c2;cases c1 <;>cases c2 <;>exact⟨m4,_,rfl,hm⟩
 ·have e50:(decide (((b - a:Nat):Int)>=50))=false:=decide_eq_false (by omega);rw [e50,cond_false];obtain⟨m4,s4,e4,h4⟩:=xND N 0 (x:=((a+q*1:Nat):Int)) (y:=((a+q*2:Nat):Int)) (z:=((a+q*3:Nat):Int)) (d:=d) rfl rfl rfl (by omega) (by omega) (by omega);rw [e4];simp only [jS];have hm:a<=m4/\m4<b:=by omega
  generalize (s4==(0:Int))=c1;generalize (s4==(12:Int))=c2;cases c1 <;>cases c2 <;>exact⟨m4,_,rfl,hm⟩
theorem xMf{x:Int}(h1:0<=x)(h2:x<18446744073709551616):IntKind.u64.wrap x=x:=by
 have:IntKind.u64.wrap x=x % 18446744073709551616:=by
  unfold IntKind.wrap;simp [IntKind.bits,IntKind.signed]
 rw [this];exact Int.emod_eq_of_lt h1 h2
theorem vAy{r y:Int}{m:Nat}(hy:y=m)(hm:m<9223372036854775808):∃o:Nat,andI .u64 r y=(o:Int)/\o<=m:=by
 subst hy;unfold andI;refine⟨(BitVec.ofInt 64 r &&& BitVec.ofInt 64 (m:Int)).toNat,?_,?_⟩
 ·show IntKind.u64.wrap (((BitVec.ofInt 64 r &&& BitVec.ofInt 64 (m:Int)).toNat:Nat):Int)=_;refine xMf (by omega) ?_;have:=(BitVec.ofInt 64 r &&& BitVec.ofInt 64 (m:Int)).isLt;omega
 ·rw [BitVec.toNat_and];refine Nat.le_trans Nat.and_le_right ?_;rw [BitVec.toNat_ofInt];omega
theorem brk6(N:Nat){a b M:Nat}(hl:12<b - a)(hM:M<=2*(b - a))(hM0:0<M):∀(m idx n:Nat) (st:Int) (d:Array Org),a+(b - a) / 4*2+2 - idx=m->a<=idx->b<=d.size->d.size<1152921504606846976->m<n->
 ∃d',xAS N n (a:Int) ((b - a:Nat):Int) (M:Int) (idx:Int) st d.toList=some d'.toList/\PermIn a b d d' :=by
 intro m
 induction m with
 |zero=>
  intro idx n st d hm hidx hb hs hn;obtain⟨n,rfl⟩:∃m,n=m+1:=⟨n - 1,by omega⟩;have t:Int.tdiv ((b - a:Nat):Int) 4=(((b - a) / 4:Nat):Int):=rfl;have w2:i64.wrap (Int.tdiv ((b - a:Nat):Int) 4)=(((b - a) / 4:Nat):Int):=by rw [t];exact wn _ rfl (by omega)
  have w3:i64.wrap ((((b - a) / 4:Nat):Int)*2)=(((b - a) / 4*2:Nat):Int):=wn _ (by simp) (by omega);have w4:i64.wrap ((a:Int)+(((b - a) / 4*2:Nat):Int))=((a+(b - a) / 4*2:Nat):Int):=wn _ (by simp) (by omega);have w5:i64.wrap (((a+(b - a) / 4*2:Nat):Int)+1)=((a+(b - a) / 4*2+1:Nat):Int):=wn _ (by simp) (by omega);rw [xAS,w2,w3,w4,w5];have e:(decide ((idx:Int)<=((a+(b - a) / 4*2+1:Nat):Int)))=false:=decide_eq_false (by omega);rw [e,cond_false];exact⟨d,rfl,permIn_refl d a b⟩
 |succ m ih=>
  intro idx n st d hm hidx hb hs hn;obtain⟨n,rfl⟩:∃m,n=m+1:=⟨n - 1,by omega⟩;have t:Int.tdiv ((b - a:Nat):Int) 4=(((b - a) / 4:Nat):Int):=rfl;have w2:i64.wrap (Int.tdiv ((b - a:Nat):Int) 4)=(((b - a) / 4:Nat):Int):=by rw [t];exact wn _ rfl (by omega)
  have w3:i64.wrap ((((b - a) / 4:Nat):Int)*2)=(((b - a) / 4*2:Nat):Int):=wn _ (by simp) (by omega);have w4:i64.wrap ((a:Int)+(((b - a) / 4*2:Nat):Int))=((a+(b - a) / 4*2:Nat):Int):=wn _ (by simp) (by omega);have w5:i64.wrap (((a+(b - a) / 4*2:Nat):Int)+1)=((a+(b - a) / 4*2+1:Nat):Int):=wn _ (by simp) (by omega);have w6:IntKind.u64.wrap ((M:Int) - 1)=((M - 1:Nat):Int):=by rw [xMf (by omega) (by omega)];omega
  have w7:i64.wrap ((idx:Int)+1)=((idx+1:Nat):Int):=wn _ (by omega) (by omega);rw [xAS,w2,w3,w4,w5,w6,w7];have e:(decide ((idx:Int)<=((a+(b - a) / 4*2+1:Nat):Int)))=true:=decide_eq_true (by omega);rw [e,cond_true];cases hx:xFs N st with
  |none=>unfold xFs at hx;cases hx
  |some r=>
   rw [jS];obtain⟨o,ho1,ho2⟩:=vAy (r:=r.1) (y:=((M - 1:Nat):Int)) (m:=M - 1) rfl (by omega);have w8:i64.wrap (andI .u64 r.1 ((M - 1:Nat):Int))=(o:Int):=by rw [ho1];exact wn o rfl (by omega)
   rw [w8];by_cases hc:o>=b - a
   ·have e2:(decide ((o:Int)>=((b - a:Nat):Int)))=true:=decide_eq_true (by omega);have w9:i64.wrap ((o:Int) - ((b - a:Nat):Int))=((o - (b - a):Nat):Int):=wn _ (by omega) (by omega);have w10:i64.wrap ((a:Int)+((o - (b - a):Nat):Int))=((a+(o - (b - a)):Nat):Int):=wn _ (by omega) (by omega);rw [e2,cond_true,w9,w10,xDW N rfl rfl (by omega) (by omega) (by omega)];obtain⟨d',h1,h2⟩:=ih (idx+1) n r.2 (swp d idx (a+(o - (b - a)))) (by omega) (by omega) (by rw [xB8];exact hb) (by rw [xB8];exact hs) (by omega);exact⟨d',h1,permIn_trans _ _ _ a b (swp_permIn d a b idx (a+(o - (b - a))) hidx (by omega) (by omega) (by omega) hb) h2⟩
   ·have e2:(decide ((o:Int)>=((b - a:Nat):Int)))=false:=decide_eq_false (by omega);have w10:i64.wrap ((a:Int)+(o:Int))=((a+o:Nat):Int):=wn _ (by omega) (by omega);rw [e2,cond_false,w10,xDW N rfl rfl (by omega) (by omega) (by omega)];obtain⟨d',h1,h2⟩:=ih (idx+1) n r.2 (swp d idx (a+o)) (by omega) (by omega) (by rw [xB8];exact hb) (by rw [xB8];exact hs) (by omega);exact⟨d',h1,permIn_trans _ _ _ a b (swp_permIn d a b idx (a+o) hidx (by omega) (by omega) (by omega) hb) h2⟩
theorem xQT{x:Nat}(h0:0<x)(h:x<1152921504606846976):0<Lib.bitLen x/\Lib.bitLen x<=60/\2 ^ Lib.bitLen x<=2*x:=by
 obtain⟨h1,h2,h3⟩:=Lib.bitLenAux_bounds 64 x (by omega) (by omega);have h1:1<=Lib.bitLen x:=h1;have h2:2 ^ (Lib.bitLen x - 1)<=x:=h2;refine⟨by omega,Lib.bitLen_le x 60 (by omega) (by omega),?_⟩;obtain⟨k,hk⟩:∃k,Lib.bitLen x=k+1:=⟨Lib.bitLen x - 1,by omega⟩;rw [hk] at h2 ⊢;rw [Nat.add_sub_cancel] at h2;rw [Nat.pow_succ];omega
theorem xT0(N:Nat){l:Nat}(h0:0<l)(h:l<1152921504606846976):∃M:Nat,xE1 N (l:Int)=some (M:Int)/\0<M/\M<=2*l:=by
 obtain⟨f1,f2,f3⟩:=xQT h0 h;have w1:IntKind.u64.wrap (l:Int)=(l:Int):=xMf (by omega) (by omega);have w2:IntKind.u64.wrap ((Lib.bitLen l:Nat):Int)=((Lib.bitLen l:Nat):Int):=xMf (by omega) (by omega);have hp:(2:Nat) ^ Lib.bitLen l<18446744073709551616:=by omega
 unfold xE1 xJ7 zFJ;rw [w1,if_pos (by omega),Option.bind_some,Int.toNat_natCast,w2,if_pos (by omega),Int.toNat_natCast];refine⟨2 ^ Lib.bitLen l,?_,Nat.pos_of_ne_zero (by simp),f3⟩;have e:(1:Int)*2 ^ Lib.bitLen l=((2 ^ Lib.bitLen l:Nat):Int):=by simp
 rw [e];generalize (2:Nat) ^ Lib.bitLen l=P at hp;rw [xMf (by omega) (by omega)]
theorem vDL(N:Nat){a b:Nat}{d:Array Org}(hab:a+12<b)(hb:b<=d.size)(hs:d.size<1152921504606846976)(hN:5<N):
 ∃d',xBJ N (a:Int) (b:Int) d.toList=some d'.toList/\PermIn a b d d' :=by
 have w1:i64.wrap ((b:Int) - (a:Int))=((b - a:Nat):Int):=wn _ (by omega) (by omega);have t:Int.tdiv ((b - a:Nat):Int) 4=(((b - a) / 4:Nat):Int):=rfl;have w2:i64.wrap (Int.tdiv ((b - a:Nat):Int) 4)=(((b - a) / 4:Nat):Int):=by rw [t];exact wn _ rfl (by omega)
 have w3:i64.wrap ((((b - a) / 4:Nat):Int)*2)=(((b - a) / 4*2:Nat):Int):=wn _ (by simp) (by omega);have w4:i64.wrap ((a:Int)+(((b - a) / 4*2:Nat):Int))=((a+(b - a) / 4*2:Nat):Int):=wn _ (by simp) (by omega);have w5:i64.wrap (((a+(b - a) / 4*2:Nat):Int) - 1)=((a+(b - a) / 4*2 - 1:Nat):Int):=wn _ (by omega) (by omega);unfold xBJ;rw [w1,w2,w3,w4,w5];have e8:(decide (((b - a:Nat):Int)>=8))=true:=decide_eq_true (by omega);obtain⟨M,m1,m2,m3⟩:=xT0 N (l:=b - a) (by omega) (by omega);rw [e8,cond_true,m1,Option.bind_some];exact brk6 N (by omega) m3 m2 _ _ N _ d rfl (by omega) hb hs (by omega)
def Sorts(a b:Nat)(d:Array Org)(o:Option (List Org)):Prop:=∃d',o=some d'.toList/\PermIn a b d d' /\SortedIn olt a b d'
theorem Sorts.after{a b:Nat}{d d1:Array Org}{o:Option (List Org)}(h:PermIn a b d d1)(hs:Sorts a b d1 o):Sorts a b d o:=
 hs.elim fun d' ⟨h1,h2,h3⟩=>⟨d',h1,permIn_trans _ _ _ a b h h2,h3⟩
theorem vFg(N:Nat){q:Int->Int->Int->List Org->Option (List Org)}{k:Int->Int->Int->Bool->Bool->List Org->Option (List Org)}{a b p:Nat}(lim x10:Int){d:Array Org}
 (hp1:a<=p) (hp2:p<b) (hb:b<=d.size) (hab:a+12<b) (hs:d.size<1152921504606846976) (hN:d.size<N) (hB:Below olt a b d)
 (hq:∀(a' b' :Nat) (d' :Array Org),b' - a' <b - a->a' <=b' ->b' <=d'.size->d'.size=d.size->Below olt a' b' d' ->Sorts a' b' d' (q (a' :Int) (b' :Int) lim d'.toList))
 (hk:∀(a' b' :Nat) (wb wp:Bool) (d' :Array Org),b' - a' <b - a->a' <=b' ->b' <=d'.size->d'.size=d.size->Below olt a' b' d' ->Sorts a' b' d' (k (a' :Int) (b' :Int) lim wb wp d'.toList)):
 Sorts a b d (xBV N q k (a:Int) (b:Int) lim x10 (p:Int) d.toList):=by
 unfold xBV;rw [vDw N hp1 hp2 hb (by omega) (by omega) hs hN,Option.bind_some];obtain⟨mid,ap,d4,hx⟩:∃mid ap d4,partition olt d a b p=(mid,ap,d4):=⟨_,_,_,rfl⟩;rw [hx];obtain⟨g1,g2,hs4,hBa,hBr,hleft,hright⟩:=round_part xJB (partition_holds olt) hp1 hp2 hb hB hx;dsimp only;have w1:i64.wrap ((mid:Int) - (a:Int))=((mid - a:Nat):Int):=wn _ (by omega) (by omega);have w2:i64.wrap ((b:Int) - (mid:Int))=((b - mid:Nat):Int):=wn _ (by omega) (by omega);have w3:i64.wrap ((mid:Int)+1)=((mid+1:Nat):Int):=wn _ (by omega) (by omega);rw [w1,w2,w3];cases decide (((mid - a:Nat):Int)<((b - mid:Nat):Int)) with
 |true=>
  rw [jT];obtain⟨L,l1,l2,l3⟩:=hq a mid d4 (by omega) g1 (by omega) hs4 hBa;rw [l1,Option.bind_some];obtain⟨hBL,hfin⟩:=hleft L l2 l3;obtain⟨R,r1,r2,r3⟩:=hk (mid+1) b (decide (((mid - a:Nat):Int)>=i64.wrap (Int.tdiv x10 8))) ap L (by omega) (by omega) (by rw [l2.1];omega) (by rw [l2.1];exact hs4) hBL;exact⟨R,r1,hfin R r2 r3⟩
 |false=>
  rw [jF];obtain⟨L,l1,l2,l3⟩:=hq (mid+1) b d4 (by omega) (by omega) (by omega) hs4 hBr;rw [l1,Option.bind_some];obtain⟨hBL,hfin⟩:=hright L l2 l3;obtain⟨R,r1,r2,r3⟩:=hk a mid (decide (((b - mid:Nat):Int)>=i64.wrap (Int.tdiv x10 8))) ap L (by omega) g1 (by rw [l2.1];omega) (by rw [l2.1];exact hs4) hBL;exact⟨R,r1,hfin R r2 r3⟩
theorem vFf(N:Nat){q:Int->Int->Int->List Org->Option (List Org)}{k:Int->Int->Int->Bool->Bool->List Org->Option (List Org)}{a b p:Nat}(lim x10:Int)(wb wp:Bool){d:Array Org}
 (hp1:a<=p) (hp2:p<b) (hb:b<=d.size) (hab:a+12<b) (hs:d.size<1152921504606846976) (hN:d.size<N) (hB:Below olt a b d)
 (hq:∀(a' b' :Nat) (d' :Array Org),b' - a' <b - a->a' <=b' ->b' <=d'.size->d'.size=d.size->Below olt a' b' d' ->Sorts a' b' d' (q (a' :Int) (b' :Int) lim d'.toList))
 (hk:∀(a' b' :Nat) (wb wp:Bool) (d' :Array Org),b' - a' <b - a->a' <=b' ->b' <=d'.size->d'.size=d.size->Below olt a' b' d' ->Sorts a' b' d' (k (a' :Int) (b' :Int) lim wb wp d'.toList)):
 Sorts a b d (xA7 N q k (a:Int) (b:Int) lim wb wp x10 (p:Int) d.toList):=by
 unfold xA7;by_cases ha:0<a
 ·have e:(decide ((a:Int)>0))=true:=decide_eq_true (by omega);have w1:i64.wrap ((a:Int) - 1)=((a - 1:Nat):Int):=wn _ (by omega) (by omega);rw [e,cond_true,w1,xFq N rfl rfl (by omega) (by omega)];dsimp only;cases hl:olt d[a - 1]! d[p]! with
  |true=>rw [Bool.not_true,cond_false];exact vFg N lim x10 hp1 hp2 hb hab hs hN hB hq hk
  |false=>
   rw [Bool.not_false,cond_true,xVy N hp1 hp2 hb (by omega) (by omega) hs hN,Option.bind_some];obtain⟨mid,d4,hx⟩:∃mid d4,partitionEqual olt d a b p=(mid,d4):=⟨_,_,rfl⟩;rw [hx];obtain⟨g1,g2,hs4,hB4,hfin⟩:=round_eq xJB (partitionEqual_holds olt) ha hp1 hp2 hb hB hl hx;obtain⟨R,r1,r2,r3⟩:=hk mid b wb wp d4 (by omega) g2 (by omega) hs4 hB4;exact⟨R,r1,hfin R r2 r3⟩
 ·have e:(decide ((a:Int)>0))=false:=decide_eq_false (by omega);rw [e,cond_false];exact vFg N lim x10 hp1 hp2 hb hab hs hN hB hq hk
theorem vFe(N:Nat){q:Int->Int->Int->List Org->Option (List Org)}{k:Int->Int->Int->Bool->Bool->List Org->Option (List Org)}{a b p:Nat}(lim x10 x12:Int)(wb wp:Bool){d:Array Org}
 (hp1:a<=p) (hp2:p<b) (hb:b<=d.size) (hab:a+12<b) (hs:d.size<1152921504606846976) (hN:d.size+10<N) (hB:Below olt a b d)
 (hq:∀(a' b' :Nat) (d' :Array Org),b' - a' <b - a->a' <=b' ->b' <=d'.size->d'.size=d.size->Below olt a' b' d' ->Sorts a' b' d' (q (a' :Int) (b' :Int) lim d'.toList))
 (hk:∀(a' b' :Nat) (wb wp:Bool) (d' :Array Org),b' - a' <b - a->a' <=b' ->b' <=d'.size->d'.size=d.size->Below olt a' b' d' ->Sorts a' b' d' (k (a' :Int) (b' :Int) lim wb wp d'.toList)):
 Sorts a b d (xBU N q k (a:Int) (b:Int) lim wb wp x10 (p:Int) x12 d.toList):=by
 have go:=vFf N lim x10 wb wp hp1 hp2 hb hab hs (by omega) hB hq hk;unfold xBU;cases wb with
 |false=>exact go
 |true=>
  cases wp with
  |false=>exact go
  |true=>
   simp only [jT];cases (x12:Int)==1 with
   |false=>exact go
   |true=>
    rw [jT,vDy N (by omega) hb (by omega) hs hN,Option.bind_some];obtain⟨i1,i2⟩:=partialInsertionSort_holds xJB d a b (by omega) hb hB;dsimp only;cases hc:(partialInsertionSort olt d a b).2 with
    |true=>exact⟨_,rfl,i1,i2 hc⟩
    |false=>
     rw [jF];refine Sorts.after i1 ?_;exact vFf N lim x10 true true hp1 hp2 (by rw [i1.1];exact hb) hab (by rw [i1.1];exact hs) (by rw [i1.1];omega) (hB.perm hb i1) (fun a' b' d' g1 g2 g3 g4=>hq a' b' d' g1 g2 g3 (g4.trans i1.1)) (fun a' b' wb wp d' g1 g2 g3 g4=>hk a' b' wb wp d' g1 g2 g3 (g4.trans i1.1))
theorem vFd(N:Nat){q:Int->Int->Int->List Org->Option (List Org)}{k:Int->Int->Int->Bool->Bool->List Org->Option (List Org)}{a b:Nat}(lim x10:Int)(wb wp:Bool){d:Array Org}
 (hb:b<=d.size) (hab:a+12<b) (hs:d.size<1152921504606846976) (hN:d.size+10<N) (hB:Below olt a b d)
 (hq:∀(a' b' :Nat) (d' :Array Org),b' - a' <b - a->a' <=b' ->b' <=d'.size->d'.size=d.size->Below olt a' b' d' ->Sorts a' b' d' (q (a' :Int) (b' :Int) lim d'.toList))
 (hk:∀(a' b' :Nat) (wb wp:Bool) (d' :Array Org),b' - a' <b - a->a' <=b' ->b' <=d'.size->d'.size=d.size->Below olt a' b' d' ->Sorts a' b' d' (k (a' :Int) (b' :Int) lim wb wp d'.toList)):
 Sorts a b d (xBT N q k (a:Int) (b:Int) lim wb wp x10 d.toList):=by
 unfold xBT;obtain⟨p,h,e,hp1,hp2⟩:=xUi N hab hb hs;rw [e,Option.bind_some];dsimp only;cases h==(2:Int) with
 |false=>rw [jF];exact vFe N lim x10 h wb wp hp1 hp2 hb hab hs hN hB hq hk
 |true=>
  have i1:=reverseRange_holds d a b (by omega) hb;have w1:i64.wrap ((b:Int) - 1)=((b - 1:Nat):Int):=wn _ (by omega) (by omega);have w2:i64.wrap ((p:Int) - (a:Int))=((p - a:Nat):Int):=wn _ (by omega) (by omega);have w3:i64.wrap (((b - 1:Nat):Int) - ((p - a:Nat):Int))=((b - 1 - (p - a):Nat):Int):=wn _ (by omega) (by omega);rw [jT,vFi N (by omega) hb (by omega) hs (by omega),Option.bind_some,w1,w2,w3];refine Sorts.after i1 ?_;exact vFe N lim x10 1 wb wp (by omega) (by omega) (by rw [i1.1];exact hb) hab (by rw [i1.1];exact hs) (by rw [i1.1];omega) (hB.perm hb i1) (fun a' b' d' g1 g2 g3 g4=>hq a' b' d' g1 g2 g3 (g4.trans i1.1)) (fun a' b' wb wp d' g1 g2 g3 g4=>hk a' b' wb wp d' g1 g2 g3 (g4.trans i1.1))
theorem pdq3(N:Nat):∀(m a b n dep:Nat) (lim:Int) (wb wp:Bool) (d:Array Org),b - a=m->a<=b->b<=d.size->2<=d.size->d.size<1152921504606846976->m<n->m<=dep->d.size+10<N->Below olt a b d->
 Sorts a b d (xBe N (xA8 N dep) n (a:Int) (b:Int) lim wb wp d.toList):=by
 intro m
 induction m using Nat.strongRecOn with
 |_ m ih=>
  intro a b n dep lim wb wp d hm hab hb h2 hs hn hdep hN hB;obtain⟨n,rfl⟩:∃m,n=m+1:=⟨n - 1,by omega⟩;have w1:i64.wrap ((b:Int) - (a:Int))=((b - a:Nat):Int):=wn _ (by omega) (by omega);rw [xBe,w1];by_cases h12:b - a<=12
  ·have e:(decide (((b - a:Nat):Int)<=12))=true:=decide_eq_true (by omega);rw [e,cond_true,vE3 N hab hb h2 hs (by omega),Option.bind_some];exact⟨_,rfl,insertionSort_holds xJB d a b hab hb⟩
  ·have e:(decide (((b - a:Nat):Int)<=12))=false:=decide_eq_false (by omega);rw [e,cond_false];cases (lim==(0:Int)) with
   |true=>
    rw [jT,vAJ N (by omega) hb h2 hs (by omega),Option.bind_some];exact⟨_,rfl,heapSort_holds xJB d a b hab hb⟩
   |false=>
    rw [jF];have hq:∀(lim:Int) (a' b' :Nat) (d' :Array Org),b' - a' <b - a->a' <=b' ->b' <=d'.size->d'.size=d.size->Below olt a' b' d' ->Sorts a' b' d' (xA8 N dep (a' :Int) (b' :Int) lim d'.toList):=by
     intro lim a' b' d' g1 g2 g3 g4 g5;obtain⟨dep,rfl⟩:∃m,dep=m+1:=⟨dep - 1,by omega⟩;rw [xA8];exact ih (b' - a') (by omega) a' b' N dep lim true true d' rfl g2 g3 (by omega) (by omega) (by omega) (by omega) (by omega) g5
    have hk:∀(lim:Int) (a' b' :Nat) (wb wp:Bool) (d' :Array Org),b' - a' <b - a->a' <=b' ->b' <=d'.size->d'.size=d.size->Below olt a' b' d' ->Sorts a' b' d' (xBe N (xA8 N dep) n (a' :Int) (b' :Int) lim wb wp d'.toList):=
     fun lim a' b' wb wp d' g1 g2 g3 g4 g5=>ih (b' - a') (by omega) a' b' n dep lim wb wp d' rfl g2 g3 (by omega) (by omega) (by omega) (by omega) (by omega) g5
    cases wb with
    |true=>exact vFd N lim _ true wp hb (by omega) hs hN hB (hq lim) (hk lim)
    |false=>
     obtain⟨d1,e1,i1⟩:=vDL N (a:=a) (b:=b) (d:=d) (by omega) hb hs (by omega);rw [Bool.not_false,cond_true,e1,Option.bind_some];refine Sorts.after i1 ?_
     exact vFd N _ _ false wp (by rw [i1.1];exact hb) (by omega) (by rw [i1.1];exact hs) (by rw [i1.1];exact hN) (hB.perm hb i1)
      (fun a' b' d' g1 g2 g3 g4=>hq _ a' b' d' g1 g2 g3 (g4.trans i1.1)) (fun a' b' wb wp d' g1 g2 g3 g4=>hk _ a' b' wb wp d' g1 g2 g3 (g4.trans i1.1))
theorem xVz{xs:List Org}(h2:2<=xs.length)(hs:xs.length<1152921504606846976)(lim:Int):
 xDA (xs.length+11) 0 (xs.length:Int) lim xs=some (xs.mergeSort fun x y=> !olt y x):=by
 have h:=pdq3 (xs.length+11) xs.length 0 xs.length (xs.length+11) (xs.length+10) lim true true xs.toArray rfl (Nat.zero_le _) (by simp) (by simpa using h2) (by simpa using hs) (by omega) (by omega) (by simp) (.inl rfl);obtain⟨d',e,h1,h3⟩:=h;have hu:=sorted_unique_holds (lt:=olt) xJB xNf xs.toArray d' (by simpa using h1) (by simpa using h3);rw [show xDA (xs.length+11) 0 (xs.length:Int) lim xs=_ from e,hu]
end Go.Ab
end
section
namespace Go.Ab
open Go.Proofs Go.RowKit Go.Shelf
theorem orgT:OrgT Tryz.prog 80 3 78 4 43:=⟨Tryz.underlying80,by kernel_rfl,Tryz.underlying3,Tryz.underlying78,Tryz.zeroValue4,Tryz.underlying43⟩
theorem vGJ:(Tryz.prog.info? 80).map (fun i=>(i.zero,i.size,i.bytes))=some (some (.agg #[.int .i64 0,.int .i64 0]),2,16):=by kernel_rfl
set_option maxRecDepth 100000 in
set_option maxHeartbeats 4000000 in
theorem xT6 [Inhabited Lb](srt:List Org->List Org)(hsl:∀l,(srt l).length=l.length)(xs ys:List Org)(u v:Value)(w:World)(hu:RowIn w u xs)(hv:RowIn w v ys)(hlen:xs.length+ys.length<=1000000000000)
 (hsort:∀(W:World) (g cap:Nat) (zs:List Org),zs.length<=1000000000000->Below w.heap.size w W->w.heap.size<=g->w.heap.size+1+1≠g->W.heap[w.heap.size+1+1]? =some (.cells #[.slice (some ⟨g,0,none⟩) zs.length cap] 43 (0,0))->OrgRow W g cap zs->
   Calls Tryz.prog 63 #[.iface 43 (.slice (some ⟨g,0,none⟩) zs.length cap),.func (.func 64) #[] #[.pointer (some ⟨w.heap.size+1+1,0,none⟩)]] W fun en W' =>en= .returned (.tuple #[])/\Sorted W (w.heap.size+1+1) g cap zs (srt zs) W'):
 Calls Tryz.prog 20 #[u,v] w fun e w' =>∃br cap,e= .returned (.slice (some ⟨br,0,none⟩) (srt (ded (xs++ys))).length cap)/\Below w.heap.size w w' /\w.heap.size<=br/\OrgRow w' br cap (srt (ded (xs++ys))):=by
 obtain⟨i0,hi,hz0,hz1,hz2⟩:=info_parts vGJ;have hmm:= @run_makeMap Tryz.prog
 go_enter Tryz.func20,Tryz.ntmps20
 go_wp2_with (first
  |(at_builtin;refine xIt _ orgT rfl _ _ rfl i0 hi hz0 hz1 hz2 rfl (w.heap.size+1+1+1) 0 [] rfl (set4 w _ _ _ 80) u rfl xs (hu.below (xUf w _ _ _ _)) (by simp;omega) ?_;intro g1 c1 w1 r1 gr1 e1)
  |(at_builtin;refine xIt _ orgT rfl _ _ rfl i0 hi hz0 hz1 hz2 rfl g1 c1 ([]++xs) rfl r1 v rfl ys (hv.below (Below.grown (xUf w _ _ _ _) gr1 (by simp;omega) (fun k hk=>by cases hk;omega))) (by simpa using hlen) ?_;intro g2 c2 w2 r2 gr2 e2))
 have hst:=URel.start r2 gr1 e1 gr2 e2;have hl2:(xs++ys).length=xs.length+ys.length:=List.length_append;clear r1 gr1 e1 r2 gr2 e2 hu hv
 go_loopw [17] (fun i wr=>∃k g cap:Nat,k<=xs.length+ys.length/\i= .int .i64 k/\URel w 80 43 w.heap.size w2.heap.size g2 c2 (xs++ys) k g cap wr) (fun i _=>xs.length+ys.length - (RowKit.intOf i).toNat)
 case atStart=>exact⟨0,_,_,Nat.zero_le _,rfl,hst⟩
 case round=>
  obtain⟨k,g,cap,hk,rfl,hr⟩:=hrel;clear hst;by_cases hlt:k<xs.length+ys.length
  ·obtain⟨c,hc⟩:∃c,(xs++ys)[k]'(by omega)=c:=⟨_,rfl⟩;have hc0:wr.cell? ⟨g2,k*2,none⟩=some (.int .i64 c.cell):=by
    have:=hr.all.cell (xLy (xs++ys) k (by omega) 0 (by decide));rw [hc] at this;exact this
   have hc1:wr.cell? ⟨g2,k*2+1,none⟩=some (.int .i64 c.row):=by
    have:=hr.all.cell (xLy (xs++ys) k (by omega) 1 (by decide));rw [hc] at this;exact this
   have hcb:=hr.cell;have hgl:=hr.row.lt;have hsz:=hr.size;have hga:=hr.hga;have hgg:=hr.hg;cases hct:(ded ((xs++ys).take k)).contains c with
   |true=>
    go_wp2_with (at_lookup;refine xJ1 _ orgT rfl _ _ rfl w.heap.size (ded ((xs++ys).take k)) rfl (hr.set.kept (xGv (by omega))) c rfl true hct ?_)
    go_roundw
    case rel=>exact⟨k+1,g,cap,by omega,by go_num,hr.old (by omega) (by rw [hc];exact hct) _⟩
    case measure=>simp [RowKit.intOf];omega
   |false=>
    go_wp2_with (first
     |(at_lookup;refine xJ1 _ orgT rfl _ _ rfl w.heap.size (ded ((xs++ys).take k)) rfl (hr.set.kept (xGv (by omega))) c rfl false hct ?_)
     |(at_mapUpdate;refine xMJ _ orgT rfl _ _ _ rfl w.heap.size (ded ((xs++ys).take k)) rfl (hr.set.kept (xGv (by omega))) c rfl rfl hct ?_;intro w3 hs3 hg3 hz3;obtain⟨m1,m2,m3,m4⟩:=hr.mid hg3 hz3)
     |(at_builtin;refine xIt _ orgT rfl _ _ rfl i0 hi hz0 hz1 hz2 rfl g cap (ded ((xs++ys).take k)) rfl (m4 _) (.slice (some ⟨wr.heap.size+1,0,none⟩) 1 1) rfl [c] (by have h:=xVE w3 80 c;rw [hz3,xFd] at h;exact h) (by have:=xUj ((xs++ys).take k);simp at this ⊢;omega) ?_;intro g' cap' w4 r4 g4 e4;obtain⟨n1,n2⟩:=hr.mid4 hg3 hz3 g4))
    go_roundw
    case rel=>exact⟨k+1,g',cap',by omega,by go_num,by
     have:=hr.new (by omega) (by rw [hc];exact hct) (by rw [hc];exact hs3) hg3 hz3 (by rw [hc];exact r4) g4 e4;rw [hc] at this;simpa using this⟩
    case measure=>simp [RowKit.intOf];omega
  ·have hk2:k=(xs++ys).length:=by omega
   have ht:(xs++ys).take k=xs++ys:=by rw [hk2];exact List.take_length
   have hcb:=hr.cell;have hsz:=hr.size;have hga:=hr.hga;have hgg:=hr.hg;have hs:=hsort wr g cap (ded (xs++ys)) (by have:=xUj (xs++ys);omega) hr.below (by omega) (by omega) (by have:=hr.box;rw [ht] at this;exact this) (by have:=hr.row.org;rw [ht] at this;exact this);have hgr:=hr.below;rw [ht] at hcb;clear hr hsort
   go_wp2_with (go_at_call 63;refine hs.mono ?_;rintro e W' ⟨rfl,hS⟩;obtain⟨ty',hbx⟩:=hS.box;have hcb2:W'.cell? ⟨w.heap.size+1+1,0,none⟩=some (.slice (some ⟨g,0,none⟩) (ded (xs++ys)).length cap):=by(simp only [World.cell?,hbx];rfl))
   go_ret
   exact⟨g,cap,by rw [hsl];rfl,hgr.trans ⟨hS.os,hS.tape,hS.output,hS.size,fun k hk=>hS.old k (by have:=hgr.size;omega) (by omega) (by omega)⟩,by omega,hS.row⟩
theorem vGM:∀w,(Extern.Rtype.kind 80).run Tryz.prog w= .ok 25 w:=by intro w;kernel_rfl
theorem vGn:(Tryz.prog.info? 43).map (fun i=>i.desc)=some (.slice 80):=by kernel_rfl
theorem vGR:(Tryz.prog.info? 80).map (fun i=>(i.hasPointers,i.bytes))=some (false,16):=by kernel_rfl
theorem vGO:Tryz.prog.packed 43=false:=by kernel_rfl
theorem sw1:Tryz.prog.funcs.findIdx? (·.name== "internal/reflectlite" ++ ".Swapper$1")=some 133:=by kernel_rfl
theorem sw2:Tryz.prog.funcs.findIdx? (·.name== "internal/reflectlite" ++ ".Swapper$2")=some 134:=by kernel_rfl
theorem sw9:Tryz.prog.funcs.findIdx? (·.name== "internal/reflectlite" ++ ".Swapper$9")=some 141:=by kernel_rfl
theorem vAI:typeHandle Tryz.prog 80= .pointer (some ⟨0,80,none⟩):=by kernel_rfl
theorem xN6 [Inhabited Lb](xs ys:List Org)(u v:Value)(w:World)(hu:RowIn w u xs)(hv:RowIn w v ys)(hlen:xs.length+ys.length<=1000000000000)(hb:∀x∈zH7,x.1<w.heap.size/\w.heap[x.1]? =some x.2):
 Calls Tryz.prog 20 #[u,v] w fun e w' =>∃br cap,e= .returned (.slice (some ⟨br,0,none⟩) (zIr xs ys).length cap)/\Below w.heap.size w w' /\w.heap.size<=br/\OrgRow w' br cap (zIr xs ys):=by
 obtain⟨i,hi,hd⟩:=Option.map_eq_some_iff.1 vGn;obtain⟨ie,hie,he⟩:=Option.map_eq_some_iff.1 vGR;simp only [Prod.mk.injEq] at he;refine xT6 (fun l=>l.mergeSort fun x y=> !olt y x) (fun l=>by simp) xs ys u v w hu hv hlen fun W g cap zs hz hB hg hne hbo hrow=> ?_;refine vDC Tryz.laysGg6 43 80 i ie hi hd vGO hie 25 vGM he.1 he.2 133 134 141 64 sw1 sw2 sw9 (fun l h2 hl=> ?_) hz hbo hrow hne (fun x hx=> ?_)
 ·rw [vAI];exact T.sort_pdqsort_func_cUnionOrigins_1_ok (xVz h2 (by omega) (Lib.bitLen l.length))
 ·obtain⟨b1,b2⟩:=hb x hx;exact⟨Nat.lt_of_lt_of_le b1 hB.size,by omega,by omega,(hB.block _ b1).trans b2⟩
theorem vAi [Inhabited Lb]{a0 a1 r:List Org}(h:zJw a0 a1=some r):AbsCalls Tryz.prog 20 (xGU a0 a1) (xFA r):=
 xUA (enters_of Tryz.func20 (by kernel_rfl) rfl) xN6 h
end Go.Ab
end
