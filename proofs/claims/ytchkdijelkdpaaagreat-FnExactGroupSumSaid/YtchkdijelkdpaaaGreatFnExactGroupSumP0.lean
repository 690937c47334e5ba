/- The statement FnExactGroupSum holds: plain functions, certificates, laws. Conditions: none. -/
import Derived.Maps.AppendAt
import Derived.Maps.OwnSet
import Derived.OrdersHeld
import Derived.Shelf.GgSortFunc.Slice
import Derived.Shelf.GgSortFunc.Tiny
import Derived.Shelf.Slices.In.SortNone2
import Derived.Shelf.Small.Bits
import Derived.Shelf.Sort.Plain
import Derived.Sort.AssemblyPlain
import Derived.Test.YtchkdijelkdpaaaGreatChecked
import Derived.Test.YtchkdijelkdpaaaGreatProg
import Derived.Test.YtchkdijelkdpaaaGreatRows
import Derived.WalkKit
import Derived.Test.YtchkdijelkdpaaaGreatL2
set_option linter.all false
section
namespace Go.Ab
abbrev Va(f:Fl)(e:Val):List CV:=[.int .i64 (Val.kind e),.int .i64 (Val.n e),.int .i64 (Val.step e),.str (Val.text e),.sl f .val (Val.list e),.sl f .str (Val.columns e),.sl f .row (Val.rows e)]
end Go.Ab
end
section
open Go.IntKind (i64)
namespace Go.Ab
def xEB(a0:Int):List Arg:=[.box [.int .u64 a0]]
def xDe(r:Int×Int):CallO:=⟨.v false [.int .u64 r.1],[[.int .u64 r.2]],[]⟩
def xFX(N:Nat)(a0:Int):Option (Int×Int):=some ((xorI .u64 (xorI .u64 (xorI .u64 a0 (IntKind.u64.wrap (a0*2 ^ (Int.toNat 13)))) (Int.fdiv (xorI .u64 a0 (IntKind.u64.wrap (a0*2 ^ (Int.toNat 13)))) ((2:Int) ^ (Int.toNat 7)))) (IntKind.u64.wrap ((xorI .u64 (xorI .u64 a0 (IntKind.u64.wrap (a0*2 ^ (Int.toNat 13)))) (Int.fdiv (xorI .u64 a0 (IntKind.u64.wrap (a0*2 ^ (Int.toNat 13)))) ((2:Int) ^ (Int.toNat 7))))*2 ^ (Int.toNat 17)))),(xorI .u64 (xorI .u64 (xorI .u64 a0 (IntKind.u64.wrap (a0*2 ^ (Int.toNat 13)))) (Int.fdiv (xorI .u64 a0 (IntKind.u64.wrap (a0*2 ^ (Int.toNat 13)))) ((2:Int) ^ (Int.toNat 7)))) (IntKind.u64.wrap ((xorI .u64 (xorI .u64 a0 (IntKind.u64.wrap (a0*2 ^ (Int.toNat 13)))) (Int.fdiv (xorI .u64 a0 (IntKind.u64.wrap (a0*2 ^ (Int.toNat 13)))) ((2:Int) ^ (Int.toNat 7))))*2 ^ (Int.toNat 17)))))
def xLf(a0:Int):List Arg:=[.val (.v false [.int .u64 a0])]
def xI7(r:Int):CallO:=⟨.v false [.int .i64 r],[],[]⟩
def xK3(N:Nat)(a0:Int):Option Int:=zFJ a0
def xFy(a0:Int):List Arg:=[.val (.v false [.int .i64 a0])]
def xEi(r:Int):CallO:=⟨.v false [.int .u64 r],[],[]⟩
def xFs(N:Nat)(a0:Int):Option (Int):=(xK3 N (IntKind.u64.wrap (a0))).bind fun r1=>if(0:Int)<=(IntKind.u64.wrap (r1))/\(IntKind.u64.wrap (r1))<64 then some (IntKind.u64.wrap (1*2 ^ (Int.toNat (IntKind.u64.wrap (r1))))) else none
def xAA(a0 a1:Int)(a2:List Org):List Arg:=[.val (.v false [.int .i64 a0]),.val (.v false [.int .i64 a1]),.val (.v false [.sl (.lnt 0) .org a2]),.val (.v false [.val (.pointer (some ⟨0,80,none⟩))])]
def xAg(r:(List Org)):CallO:=⟨.tup [],[],[.sl (.lnt 0) .org r]⟩
def xAo(N:Nat)(a0 a1:Int)(a2:List Org):Option (List Org):=zJa a0 a1 a2
def xCu(a0:Int)(a1:Int)(a2:List Org):List Arg:=[.val (.v true [.clo 64 [1000003],.swp 141 0 (.pointer (some ⟨0,80,none⟩)) 1000003]),.val (.v false [.int .i64 a0]),.val (.v false [.int .i64 a1]),.gbox [.sl (.lnt 0) .org a2]]
def xBy(r:(List Org)):CallO:=⟨.tup [],[[.sl (.lnt 0) .org r]],[]⟩
def xBx(N:Nat):Nat->Int->Int->(List Org)->Option ((List Org))
 |0,_,_,_=>none
 |n+1,x6,x7,g003=>bif(decide (x6<x7)) then((xAo N x6 x7 g003).bind fun r1=>if 2<=g003.length then if r1.length=g003.length then(xBx N n (i64.wrap (x6+1)) (i64.wrap (x7 - 1)) r1) else none else none) else(some g003)
def xB7(N:Nat)(a0:Int)(a1:Int)(a2:List Org):Option ((List Org)):=(xBx N N a0 (i64.wrap (a1 - 1)) a2)
def xBT(a0:Int)(a1:Int)(a2:List Org):List Arg:=[.val (.v true [.clo 64 [1000003],.swp 141 0 (.pointer (some ⟨0,80,none⟩)) 1000003]),.val (.v false [.int .i64 a0]),.val (.v false [.int .i64 a1]),.gbox [.sl (.lnt 0) .org a2]]
def xBc(r:(List Org)):CallO:=⟨.tup [],[[.sl (.lnt 0) .org r]],[]⟩
def xBb(N:Nat):Nat->Int->Int->Int->Int->Int->(List Org)->Option ((List Org))
 |0,_,_,_,_,_,_=>none
 |n+1,x1,x6,x8,x9,b7,g003=>bif(decide (x9<=(i64.wrap ((i64.wrap (x1+(i64.wrap ((i64.wrap (Int.tdiv x6 4))*2))))+1)))) then((xFX N b7).bind fun r1=>bif(decide (((i64.wrap ((andI .u64 r1.1 (IntKind.u64.wrap (x8 - 1))))):Int)>=x6)) then((xAo N x9 (i64.wrap (x1+(i64.wrap ((i64.wrap ((andI .u64 r1.1 (IntKind.u64.wrap (x8 - 1))))) - x6)))) g003).bind fun r2=>if 2<=g003.length then if r2.length=g003.length then(xBb N n x1 x6 x8 (i64.wrap (x9+1)) r1.2 r2) else none else none) else((xAo N x9 (i64.wrap (x1+(i64.wrap ((andI .u64 r1.1 (IntKind.u64.wrap (x8 - 1))))))) g003).bind fun r2=>if 2<=g003.length then if r2.length=g003.length then(xBb N n x1 x6 x8 (i64.wrap (x9+1)) r1.2 r2) else none else none)) else(some g003)
def xB3(N:Nat)(a0:Int)(a1:Int)(a2:List Org):Option ((List Org)):=bif(decide ((i64.wrap (a1 - a0))>=8)) then((xFs N (i64.wrap (a1 - a0))).bind fun r1=>(xBb N N a0 (i64.wrap (a1 - a0)) r1 (i64.wrap ((i64.wrap (a0+(i64.wrap ((i64.wrap (Int.tdiv (i64.wrap (a1 - a0)) 4))*2)))) - 1)) (IntKind.u64.wrap ((i64.wrap (a1 - a0)))) a2)) else(some a2)
def xC4(a0:Org)(a1:Org):List Arg:=[.val (.v true [.int .i64 a0.cell,.int .i64 a0.row]),.val (.v true [.int .i64 a1.cell,.int .i64 a1.row])]
def xCb(r:Bool):CallO:=⟨.v false [.bool r],[],[]⟩
def xEm(N:Nat)(a0:Org)(a1:Org):Option (Bool):=bif(decide (a0.cell<a1.cell)) then(some true) else(bif(a0.cell==a1.cell) then(some (decide (a0.row<a1.row))) else(some false))
def xBl(a0:Int)(a1:Int)(a2:List Org):List Arg:=[.val (.v false [.int .i64 a0]),.val (.v false [.int .i64 a1]),.box [.sl (.lnt 0) .org a2]]
def xAl(r:Bool×(List Org)):CallO:=⟨.v false [.bool r.1],[[.sl (.lnt 0) .org r.2]],[]⟩
def xAU(N:Nat)(a0:Int)(a1:Int)(a2:List Org):Option (Bool×(List Org)):=if(0:Int)<=a0/\a0<a2.length then if(0:Int)<=a1/\a1<a2.length then(xEm N (a2.getD a0.toNat Ty.org.dflt) (a2.getD a1.toNat Ty.org.dflt)).bind fun r1=>some (r1,a2) else none else none
def xB6(a0:Int)(a1:Int)(a2:Int)(a3:List Org):List Arg:=[.val (.v true [.clo 64 [1000004],.swp 141 0 (.pointer (some ⟨0,80,none⟩)) 1000004]),.val (.v false [.int .i64 a0]),.val (.v false [.int .i64 a1]),.val (.v false [.int .i64 a2]),.gbox [.sl (.lnt 0) .org a3]]
def xAB(r:Int×Bool×(List Org)):CallO:=⟨.tup [(false,[.int .i64 r.1]),(false,[.bool r.2.1])],[[.sl (.lnt 0) .org r.2.2]],[]⟩
def xA6(N:Nat)(k13:Int->Int->Int->(List Org)->Option (Int×Bool×(List Org))):Nat->Int->Int->Int->(List Org)->Option (Int×Bool×(List Org))
 |0,_,_,_,_=>none
 |n+1,x1,x10,x11,g004=>bif(decide (x10<=x11)) then((xAU N x11 x1 g004).bind fun r1=>bif(!r1.1) then((xA6 N k13 n x1 x10 (i64.wrap (x11 - 1)) r1.2)) else(bif(decide (x10>x11)) then((xAo N x11 x1 r1.2).bind fun r2=>if 2<=r1.2.length then if r2.length=r1.2.length then some (x11,false,r2) else none else none) else((xAo N x10 x11 r1.2).bind fun r2=>if 2<=r1.2.length then if r2.length=r1.2.length then(k13 x1 (i64.wrap (x10+1)) (i64.wrap (x11 - 1)) r2) else none else none))) else(bif(decide (x10>x11)) then((xAo N x11 x1 g004).bind fun r1=>if 2<=g004.length then if r1.length=g004.length then some (x11,false,r1) else none else none) else((xAo N x10 x11 g004).bind fun r1=>if 2<=g004.length then if r1.length=g004.length then(k13 x1 (i64.wrap (x10+1)) (i64.wrap (x11 - 1)) r1) else none else none))
def xAP(N:Nat):Nat->Int->Int->Int->(List Org)->Option (Int×Bool×(List Org))
 |0,_,_,_,_=>none
 |n+1,x1,x10,x11,g004=>bif(decide (x10<=x11)) then((xAU N x10 x1 g004).bind fun r1=>bif r1.1 then((xAP N n x1 (i64.wrap (x10+1)) x11 r1.2)) else((xA6 N (fun z0 z1 z2 z3=>(xAP N n z0 z1 z2 z3)) N x1 x10 x11 r1.2))) else((xA6 N (fun z0 z1 z2 z3=>(xAP N n z0 z1 z2 z3)) N x1 x10 x11 g004))
def xBa(N:Nat):Nat->Int->Int->Int->(List Org)->Option (Int×Bool×(List Org))
 |0,_,_,_,_=>none
 |n+1,x1,x10,x11,g004=>bif(decide (x10<=x11)) then((xAU N x11 x1 g004).bind fun r1=>bif(!r1.1) then((xBa N n x1 x10 (i64.wrap (x11 - 1)) r1.2)) else(bif(decide (x10>x11)) then((xAo N x11 x1 r1.2).bind fun r2=>if 2<=r1.2.length then if r2.length=r1.2.length then some (x11,true,r2) else none else none) else((xAo N x10 x11 r1.2).bind fun r2=>if 2<=r1.2.length then if r2.length=r1.2.length then(xAP N N x1 (i64.wrap (x10+1)) (i64.wrap (x11 - 1)) r2) else none else none))) else(bif(decide (x10>x11)) then((xAo N x11 x1 g004).bind fun r1=>if 2<=g004.length then if r1.length=g004.length then some (x11,true,r1) else none else none) else((xAo N x10 x11 g004).bind fun r1=>if 2<=g004.length then if r1.length=g004.length then(xAP N N x1 (i64.wrap (x10+1)) (i64.wrap (x11 - 1)) r1) else none else none))
def xBI(N:Nat):Nat->Int->Int->Int->(List Org)->Option (Int×Bool×(List Org))
 |0,_,_,_,_=>none
 |n+1,x1,x10,x11,g004=>bif(decide (x10<=x11)) then((xAU N x10 x1 g004).bind fun r1=>bif r1.1 then((xBI N n x1 (i64.wrap (x10+1)) x11 r1.2)) else((xBa N N x1 x10 x11 r1.2))) else((xBa N N x1 x10 x11 g004))
def xCs(N:Nat)(a0:Int)(a1:Int)(a2:Int)(a3:List Org):Option (Int×Bool×(List Org)):=(xAo N a0 a2 a3).bind fun r1=>if 2<=a3.length then if r1.length=a3.length then(xBI N N a0 (i64.wrap (a0+1)) (i64.wrap (a1 - 1)) r1) else none else none
def xCi(a0:Int)(a1:Int)(a2:Int)(a3:List Org):List Arg:=[.val (.v true [.clo 64 [1000004],.swp 141 0 (.pointer (some ⟨0,80,none⟩)) 1000004]),.val (.v false [.int .i64 a0]),.val (.v false [.int .i64 a1]),.val (.v false [.int .i64 a2]),.gbox [.sl (.lnt 0) .org a3]]
def xAN(r:Int×(List Org)):CallO:=⟨.v false [.int .i64 r.1],[[.sl (.lnt 0) .org r.2]],[]⟩
def xAX(N:Nat)(k3:Int->Int->Int->(List Org)->Option (Int×(List Org))):Nat->Int->Int->Int->(List Org)->Option (Int×(List Org))
 |0,_,_,_,_=>none
 |n+1,x1,x9,x10,g004=>bif(decide (x9<=x10)) then((xAU N x1 x10 g004).bind fun r1=>bif r1.1 then((xAX N k3 n x1 x9 (i64.wrap (x10 - 1)) r1.2)) else(bif(decide (x9>x10)) then(some (x9,r1.2)) else((xAo N x9 x10 r1.2).bind fun r2=>if 2<=r1.2.length then if r2.length=r1.2.length then(k3 x1 (i64.wrap (x9+1)) (i64.wrap (x10 - 1)) r2) else none else none))) else(bif(decide (x9>x10)) then(some (x9,g004)) else((xAo N x9 x10 g004).bind fun r1=>if 2<=g004.length then if r1.length=g004.length then(k3 x1 (i64.wrap (x9+1)) (i64.wrap (x10 - 1)) r1) else none else none))
def xAW(N:Nat):Nat->Int->Int->Int->(List Org)->Option (Int×(List Org))
 |0,_,_,_,_=>none
 |n+1,x1,x9,x10,g004=>bif(decide (x9<=x10)) then((xAU N x1 x9 g004).bind fun r1=>bif(!r1.1) then((xAW N n x1 (i64.wrap (x9+1)) x10 r1.2)) else((xAX N (fun z0 z1 z2 z3=>(xAW N n z0 z1 z2 z3)) N x1 x9 x10 r1.2))) else((xAX N (fun z0 z1 z2 z3=>(xAW N n z0 z1 z2 z3)) N x1 x9 x10 g004))
def xB0(N:Nat)(a0:Int)(a1:Int)(a2:Int)(a3:List Org):Option (Int×(List Org)):=(xAo N a0 a2 a3).bind fun r1=>if 2<=a3.length then if r1.length=a3.length then(xAW N N a0 (i64.wrap (a0+1)) (i64.wrap (a1 - 1)) r1) else none else none
def xBn(a0:Int)(a1:Int)(a2:List Org):List Arg:=[.val (.v true [.clo 64 [1000003],.swp 141 0 (.pointer (some ⟨0,80,none⟩)) 1000003]),.val (.v false [.int .i64 a0]),.val (.v false [.int .i64 a1]),.gbox [.sl (.lnt 0) .org a2]]
def xAm(r:Bool×(List Org)):CallO:=⟨.v false [.bool r.1],[[.sl (.lnt 0) .org r.2]],[]⟩
def xA5(N:Nat)(k3:Int->Int->Int->Int->(List Org)->Option (Bool×(List Org))):Nat->Int->Int->Int->Int->Int->(List Org)->Option (Bool×(List Org))
 |0,_,_,_,_,_,_=>none
 |n+1,x1,x2,x7,x8,x10,g003=>bif(decide (x10<x2)) then((xAU N x10 (i64.wrap (x10 - 1)) g003).bind fun r1=>bif(!r1.1) then((k3 x1 x2 x7 (i64.wrap (x8+1)) r1.2)) else((xAo N x10 (i64.wrap (x10 - 1)) r1.2).bind fun r2=>if 2<=r1.2.length then if r2.length=r1.2.length then(xA5 N k3 n x1 x2 x7 x8 (i64.wrap (x10+1)) r2) else none else none)) else((k3 x1 x2 x7 (i64.wrap (x8+1)) g003))
def xAT(N:Nat)(k3:Int->Int->Int->Int->(List Org)->Option (Bool×(List Org)))(x1:Int)(x2:Int)(x7:Int)(x8:Int)(g003:List Org):Option (Bool×(List Org)):=bif(decide ((i64.wrap (x2 - x7))>=2)) then((xA5 N k3 N x1 x2 x7 x8 (i64.wrap (x7+1)) g003)) else((k3 x1 x2 x7 (i64.wrap (x8+1)) g003))
def xA4(N:Nat)(k3:Int->Int->Int->Int->(List Org)->Option (Bool×(List Org))):Nat->Int->Int->Int->Int->Int->(List Org)->Option (Bool×(List Org))
 |0,_,_,_,_,_,_=>none
 |n+1,x1,x2,x7,x8,x9,g003=>bif(decide (x9>=1)) then((xAU N x9 (i64.wrap (x9 - 1)) g003).bind fun r1=>bif(!r1.1) then((xAT N k3 x1 x2 x7 x8 r1.2)) else((xAo N x9 (i64.wrap (x9 - 1)) r1.2).bind fun r2=>if 2<=r1.2.length then if r2.length=r1.2.length then(xA4 N k3 n x1 x2 x7 x8 (i64.wrap (x9 - 1)) r2) else none else none)) else((xAT N k3 x1 x2 x7 x8 g003))
def xA8(N:Nat)(k3:Int->Int->Int->Int->(List Org)->Option (Bool×(List Org)))(x1:Int)(x2:Int)(x7:Int)(x8:Int)(g003:List Org):Option (Bool×(List Org)):=bif(x7==x2) then(some (true,g003)) else(bif(decide ((i64.wrap (x2 - x1))<50)) then(some (false,g003)) else((xAo N x7 (i64.wrap (x7 - 1)) g003).bind fun r1=>if 2<=g003.length then if r1.length=g003.length then bif(decide ((i64.wrap (x7 - x1))>=2)) then((xA4 N k3 N x1 x2 x7 x8 (i64.wrap (x7 - 1)) r1)) else((xAT N k3 x1 x2 x7 x8 r1)) else none else none))
def xA7(N:Nat)(k3:Int->Int->Int->Int->(List Org)->Option (Bool×(List Org))):Nat->Int->Int->Int->Int->(List Org)->Option (Bool×(List Org))
 |0,_,_,_,_,_=>none
 |n+1,x1,x2,x7,x8,g003=>bif(decide (x7<x2)) then((xAU N x7 (i64.wrap (x7 - 1)) g003).bind fun r1=>bif(!r1.1) then((xA7 N k3 n x1 x2 (i64.wrap (x7+1)) x8 r1.2)) else((xA8 N k3 x1 x2 x7 x8 r1.2))) else((xA8 N k3 x1 x2 x7 x8 g003))
def xAV(N:Nat):Nat->Int->Int->Int->Int->(List Org)->Option (Bool×(List Org))
 |0,_,_,_,_,_=>none
 |n+1,x1,x2,x7,x8,g003=>bif(decide (x8<5)) then((xA7 N (fun z0 z1 z2 z3 z4=>(xAV N n z0 z1 z2 z3 z4)) N x1 x2 x7 x8 g003)) else(some (false,g003))
def xBC(N:Nat)(a0:Int)(a1:Int)(a2:List Org):Option (Bool×(List Org)):=(xAV N N a0 a1 (i64.wrap (a0+1)) 0 a2)
def xBE(a0:Int)(a1:Int)(a2:Int)(a3:List Org):List Arg:=[.val (.v true [.clo 64 [1000004],.swp 141 0 (.pointer (some ⟨0,80,none⟩)) 1000004]),.val (.v false [.int .i64 a0]),.val (.v false [.int .i64 a1]),.box [.int .i64 a2],.gbox [.sl (.lnt 0) .org a3]]
def xAY(r:Int×Int×Int×(List Org)):CallO:=⟨.tup [(false,[.int .i64 r.1]),(false,[.int .i64 r.2.1])],[[.int .i64 r.2.2.1],[.sl (.lnt 0) .org r.2.2.2]],[]⟩
def xBV(N:Nat)(a0:Int)(a1:Int)(a2:Int)(a3:List Org):Option (Int×Int×Int×(List Org)):=(xAU N a1 a0 a3).bind fun r1=>bif r1.1 then(some (a1,a0,(i64.wrap (a2+1)),r1.2)) else(some (a0,a1,a2,r1.2))
def xBk(a0:Int)(a1:Int)(a2:Int)(a3:Int)(a4:List Org):List Arg:=[.val (.v true [.clo 64 [1000005],.swp 141 0 (.pointer (some ⟨0,80,none⟩)) 1000005]),.val (.v false [.int .i64 a0]),.val (.v false [.int .i64 a1]),.val (.v false [.int .i64 a2]),.box [.int .i64 a3],.gbox [.sl (.lnt 0) .org a4]]
def xAF(r:Int×Int×(List Org)):CallO:=⟨.v false [.int .i64 r.1],[[.int .i64 r.2.1],[.sl (.lnt 0) .org r.2.2]],[]⟩
def xBU(N:Nat)(a0:Int)(a1:Int)(a2:Int)(a3:Int)(a4:List Org):Option (Int×Int×(List Org)):=(xBV N a0 a1 a3 a4).bind fun r1=>(xBV N r1.2.1 a2 r1.2.2.1 r1.2.2.2).bind fun r2=>(xBV N r1.1 r2.1 r2.2.2.1 r2.2.2.2).bind fun r3=>some (r3.2.1,r3.2.2.1,r3.2.2.2)
def xBm(a0:Int)(a1:Int)(a2:List Org):List Arg:=[.val (.v true [.clo 64 [1000003],.swp 141 0 (.pointer (some ⟨0,80,none⟩)) 1000003]),.val (.v false [.int .i64 a0]),.box [.int .i64 a1],.gbox [.sl (.lnt 0) .org a2]]
def xAu(r:Int×Int×(List Org)):CallO:=⟨.v false [.int .i64 r.1],[[.int .i64 r.2.1],[.sl (.lnt 0) .org r.2.2]],[]⟩
def xBf(N:Nat)(a0:Int)(a1:Int)(a2:List Org):Option (Int×Int×(List Org)):=(xBU N (i64.wrap (a0 - 1)) a0 (i64.wrap (a0+1)) a1 a2).bind fun r1=>some (r1.1,r1.2.1,r1.2.2)
def xAE(a0:Int)(a1:Int)(a2:List Org):List Arg:=[.val (.v true [.clo 64 [1000003],.swp 141 0 (.pointer (some ⟨0,80,none⟩)) 1000003]),.val (.v false [.int .i64 a0]),.val (.v false [.int .i64 a1]),.gbox [.sl (.lnt 0) .org a2]]
def xAx(r:Int×Int×(List Org)):CallO:=⟨.tup [(false,[.int .i64 r.1]),(false,[.int .i64 r.2.1])],[[.sl (.lnt 0) .org r.2.2]],[]⟩
def xCc(N:Nat)(a0:Int)(a1:Int)(a2:List Org):Option (Int×Int×(List Org)):=bif(decide ((i64.wrap (a1 - a0))>=8)) then(bif(decide ((i64.wrap (a1 - a0))>=50)) then((xBf N (i64.wrap (a0+(i64.wrap ((i64.wrap (Int.tdiv (i64.wrap (a1 - a0)) 4))*1)))) 0 a2).bind fun r1=>(xBf N (i64.wrap (a0+(i64.wrap ((i64.wrap (Int.tdiv (i64.wrap (a1 - a0)) 4))*2)))) r1.2.1 r1.2.2).bind fun r2=>(xBf N (i64.wrap (a0+(i64.wrap ((i64.wrap (Int.tdiv (i64.wrap (a1 - a0)) 4))*3)))) r2.2.1 r2.2.2).bind fun r3=>(xBU N r1.1 r2.1 r3.1 r3.2.1 r3.2.2).bind fun r4=>bif(r4.2.1==0) then(some (r4.1,1,r4.2.2)) else(bif(r4.2.1==12) then(some (r4.1,2,r4.2.2)) else(some (r4.1,0,r4.2.2)))) else((xBU N (i64.wrap (a0+(i64.wrap ((i64.wrap (Int.tdiv (i64.wrap (a1 - a0)) 4))*1)))) (i64.wrap (a0+(i64.wrap ((i64.wrap (Int.tdiv (i64.wrap (a1 - a0)) 4))*2)))) (i64.wrap (a0+(i64.wrap ((i64.wrap (Int.tdiv (i64.wrap (a1 - a0)) 4))*3)))) 0 a2).bind fun r1=>bif(r1.2.1==0) then(some (r1.1,1,r1.2.2)) else(bif(r1.2.1==12) then(some (r1.1,2,r1.2.2)) else(some (r1.1,0,r1.2.2))))) else(bif((0:Int)==0) then(some ((i64.wrap (a0+(i64.wrap ((i64.wrap (Int.tdiv (i64.wrap (a1 - a0)) 4))*2)))),1,a2)) else(bif((0:Int)==12) then(some ((i64.wrap (a0+(i64.wrap ((i64.wrap (Int.tdiv (i64.wrap (a1 - a0)) 4))*2)))),2,a2)) else(some ((i64.wrap (a0+(i64.wrap ((i64.wrap (Int.tdiv (i64.wrap (a1 - a0)) 4))*2)))),0,a2)
     )))
def xCg(a0:Int)(a1:Int)(a2:Int)(a3:List Org):List Arg:=[.val (.v true [.clo 64 [1000004],.swp 141 0 (.pointer (some ⟨0,80,none⟩)) 1000004]),.val (.v false [.int .i64 a0]),.val (.v false [.int .i64 a1]),.val (.v false [.int .i64 a2]),.gbox [.sl (.lnt 0) .org a3]]
def xAK(r:(List Org)):CallO:=⟨.tup [],[[.sl (.lnt 0) .org r]],[]⟩
def xBd(N:Nat):Nat->Int->Int->Int->(List Org)->Option ((List Org))
 |0,_,_,_,_=>none
 |n+1,x2,x3,x8,g004=>bif(decide (((i64.wrap ((i64.wrap (2*x8))+1)):Int)>=x2)) then(some g004) else(bif(decide (((i64.wrap ((i64.wrap ((i64.wrap (2*x8))+1))+1)):Int)<x2)) then((xAU N (i64.wrap (x3+(i64.wrap ((i64.wrap (2*x8))+1)))) (i64.wrap ((i64.wrap (x3+(i64.wrap ((i64.wrap (2*x8))+1))))+1)) g004).bind fun r1=>bif r1.1 then((xAU N (i64.wrap (x3+x8)) (i64.wrap (x3+(i64.wrap ((i64.wrap ((i64.wrap (2*x8))+1))+1)))) r1.2).bind fun r2=>bif(!r2.1) then(some r2.2) else((xAo N (i64.wrap (x3+x8)) (i64.wrap (x3+(i64.wrap ((i64.wrap ((i64.wrap (2*x8))+1))+1)))) r2.2).bind fun r3=>if 2<=r2.2.length then if r3.length=r2.2.length then(xBd N n x2 x3 (i64.wrap ((i64.wrap ((i64.wrap (2*x8))+1))+1)) r3) else none else none)) else((xAU N (i64.wrap (x3+x8)) (i64.wrap (x3+(i64.wrap ((i64.wrap (2*x8))+1)))) r1.2).bind fun r2=>bif(!r2.1) then(some r2.2) else((xAo N (i64.wrap (x3+x8)) (i64.wrap (x3+(i64.wrap ((i64.wrap (2*x8))+1)))) r2.2).bind fun r3=>if 2<=r2.2.length then if r3.length=r2.2.length then(xBd N n x2 x3 (i64.wrap ((i64.wrap (2*x8))+1)) r3) else none else none))) else((xAU N (i64.wrap (x3+x8)) (i64.wrap (x3+(i64.wrap ((i64.wrap (2*x8))+1)))) g004).bind fun r1=>bif(!r1.1) then(some r1.2) else((xAo N (i64.wrap (x3+x8)) (i64.wrap (x3+(i64.wrap ((i64.wrap (2*x8))+1)))) r1.2).bind fun r2=>
      if 2<=r1.2.length then if r2.length=r1.2.length then(xBd N n x2 x3 (i64.wrap ((i64.wrap (2*x8))+1)) r2) else none else none)))
def xBF(N:Nat)(a0:Int)(a1:Int)(a2:Int)(a3:List Org):Option ((List Org)):=(xBd N N a1 a2 a0 a3)
def xCH(a0:Int)(a1:Int)(a2:List Org):List Arg:=[.val (.v true [.clo 64 [1000003],.swp 141 0 (.pointer (some ⟨0,80,none⟩)) 1000003]),.val (.v false [.int .i64 a0]),.val (.v false [.int .i64 a1]),.gbox [.sl (.lnt 0) .org a2]]
def xBt(r:(List Org)):CallO:=⟨.tup [],[[.sl (.lnt 0) .org r]],[]⟩
def xBN(N:Nat):Nat->Int->Int->Int->(List Org)->Option ((List Org))
 |0,_,_,_,_=>none
 |n+1,x6,x7,x10,g003=>bif(decide (x10>=0)) then((xAo N x6 (i64.wrap (x6+x10)) g003).bind fun r1=>if 2<=g003.length then if r1.length=g003.length then(xBF N x7 x10 x6 r1).bind fun r2=>(xBN N n x6 x7 (i64.wrap (x10 - 1)) r2) else none else none) else(some g003)
def xBM(N:Nat):Nat->Int->Int->Int->Int->(List Org)->Option ((List Org))
 |0,_,_,_,_,_=>none
 |n+1,x6,x7,x8,x9,g003=>bif(decide (x9>=0)) then((xBF N x9 x8 x6 g003).bind fun r1=>(xBM N n x6 x7 x8 (i64.wrap (x9 - 1)) r1)) else((xBN N N x6 x7 (i64.wrap (x8 - 1)) g003))
def xCx(N:Nat)(a0:Int)(a1:Int)(a2:List Org):Option ((List Org)):=(xBM N N a0 0 (i64.wrap (a1 - a0)) (i64.wrap (Int.tdiv (i64.wrap ((i64.wrap (a1 - a0)) - 1)) 2)) a2)
def xCq(a0:Int)(a1:Int)(a2:List Org):List Arg:=[.val (.v true [.clo 64 [1000003],.swp 141 0 (.pointer (some ⟨0,80,none⟩)) 1000003]),.val (.v false [.int .i64 a0]),.val (.v false [.int .i64 a1]),.gbox [.sl (.lnt 0) .org a2]]
def xAZ(r:(List Org)):CallO:=⟨.tup [],[[.sl (.lnt 0) .org r]],[]⟩
def xBp(N:Nat)(k2:Int->Int->Int->(List Org)->Option ((List Org))):Nat->Int->Int->Int->Int->(List Org)->Option ((List Org))
 |0,_,_,_,_,_=>none
 |n+1,x1,x2,x6,x7,g003=>bif(decide (x7>x1)) then((xAU N x7 (i64.wrap (x7 - 1)) g003).bind fun r1=>bif r1.1 then((xAo N x7 (i64.wrap (x7 - 1)) r1.2).bind fun r2=>if 2<=r1.2.length then if r2.length=r1.2.length then(xBp N k2 n x1 x2 x6 (i64.wrap (x7 - 1)) r2) else none else none) else((k2 x1 x2 (i64.wrap (x6+1)) r1.2))) else((k2 x1 x2 (i64.wrap (x6+1)) g003))
def xBo(N:Nat):Nat->Int->Int->Int->(List Org)->Option ((List Org))
 |0,_,_,_,_=>none
 |n+1,x1,x2,x6,g003=>bif(decide (x6<x2)) then((xBp N (fun z0 z1 z2 z3=>(xBo N n z0 z1 z2 z3)) N x1 x2 x6 x6 g003)) else(some g003)
def xB4(N:Nat)(a0:Int)(a1:Int)(a2:List Org):Option ((List Org)):=(xBo N N a0 a1 (i64.wrap (a0+1)) a2)
def xBz(a0:Int)(a1:Int)(a2:Int)(a3:List Org):List Arg:=[.val (.v true [.clo 64 [1000004],.swp 141 0 (.pointer (some ⟨0,80,none⟩)) 1000004]),.val (.v false [.int .i64 a0]),.val (.v false [.int .i64 a1]),.val (.v false [.int .i64 a2]),.gbox [.sl (.lnt 0) .org a3]]
def xAt(r:(List Org)):CallO:=⟨.tup [],[[.sl (.lnt 0) .org r]],[]⟩
def xCf(N:Nat)(q0:Int->Int->Int->(List Org)->Option ((List Org)))(k3:Int->Int->Int->Bool->Bool->(List Org)->Option ((List Org)))(x1:Int)(x2:Int)(x3:Int)(x10:Int)(x11:Int)(g004:List Org):Option ((List Org)):=(xCs N x1 x2 x11 g004).bind fun r1=>bif(decide ((i64.wrap (r1.1 - x1))<(i64.wrap (x2 - r1.1)))) then((q0 x1 r1.1 x3 r1.2.2).bind fun r2=>(k3 (i64.wrap (r1.1+1)) x2 x3 (decide ((i64.wrap (r1.1 - x1))>=(i64.wrap (Int.tdiv x10 8)))) r1.2.1 r2)) else((q0 (i64.wrap (r1.1+1)) x2 x3 r1.2.2).bind fun r2=>(k3 x1 r1.1 x3 (decide ((i64.wrap (x2 - r1.1))>=(i64.wrap (Int.tdiv x10 8)))) r1.2.1 r2))
def xBu(N:Nat)(q0:Int->Int->Int->(List Org)->Option ((List Org)))(k3:Int->Int->Int->Bool->Bool->(List Org)->Option ((List Org)))(x1:Int)(x2:Int)(x3:Int)(x8:Bool)(x9:Bool)(x10:Int)(x11:Int)(g004:List Org):Option ((List Org)):=bif(decide (x1>0)) then((xAU N (i64.wrap (x1 - 1)) x11 g004).bind fun r1=>bif(!r1.1) then((xB0 N x1 x2 x11 r1.2).bind fun r2=>(k3 r2.1 x2 x3 x8 x9 r2.2)) else((xCf N q0 k3 x1 x2 x3 x10 x11 r1.2))) else((xCf N q0 k3 x1 x2 x3 x10 x11 g004))
def xCe(N:Nat)(q0:Int->Int->Int->(List Org)->Option ((List Org)))(k3:Int->Int->Int->Bool->Bool->(List Org)->Option ((List Org)))(x1:Int)(x2:Int)(x3:Int)(x8:Bool)(x9:Bool)(x10:Int)(x11:Int)(x12:Int)(g004:List Org):Option ((List Org)):=bif x8 then(bif x9 then(bif(x12==1) then((xBC N x1 x2 g004).bind fun r1=>bif r1.1 then(some r1.2) else((xBu N q0 k3 x1 x2 x3 x8 x9 x10 x11 r1.2))) else((xBu N q0 k3 x1 x2 x3 x8 x9 x10 x11 g004))) else((xBu N q0 k3 x1 x2 x3 x8 x9 x10 x11 g004))) else((xBu N q0 k3 x1 x2 x3 x8 x9 x10 x11 g004))
def xCd(N:Nat)(q0:Int->Int->Int->(List Org)->Option ((List Org)))(k3:Int->Int->Int->Bool->Bool->(List Org)->Option ((List Org)))(x1:Int)(x2:Int)(x3:Int)(x8:Bool)(x9:Bool)(x10:Int)(g004:List Org):Option ((List Org)):=(xCc N x1 x2 g004).bind fun r1=>bif(r1.2.1==2) then((xB7 N x1 x2 r1.2.2).bind fun r2=>(xCe N q0 k3 x1 x2 x3 x8 x9 x10 (i64.wrap ((i64.wrap (x2 - 1)) - (i64.wrap (r1.1 - x1)))) 1 r2)) else((xCe N q0 k3 x1 x2 x3 x8 x9 x10 r1.1 r1.2.1 r1.2.2))
def xBA(N:Nat)(q0:Int->Int->Int->(List Org)->Option ((List Org))):Nat->Int->Int->Int->Bool->Bool->(List Org)->Option ((List Org))
 |0,_,_,_,_,_,_=>none
 |n+1,x1,x2,x3,x8,x9,g004=>bif(decide ((i64.wrap (x2 - x1))<=12)) then((xB4 N x1 x2 g004).bind fun r1=>some r1) else(bif(x3==0) then((xCx N x1 x2 g004).bind fun r1=>some r1) else(bif(!x8) then((xB3 N x1 x2 g004).bind fun r1=>(xCd N q0 (fun z0 z1 z2 z3 z4 z5=>(xBA N q0 n z0 z1 z2 z3 z4 z5)) x1 x2 (i64.wrap (x3 - 1)) x8 x9 (i64.wrap (x2 - x1)) r1)) else((xCd N q0 (fun z0 z1 z2 z3 z4 z5=>(xBA N q0 n z0 z1 z2 z3 z4 z5)) x1 x2 x3 x8 x9 (i64.wrap (x2 - x1)) g004))))
def xDn(N:Nat)(q0:Int->Int->Int->(List Org)->Option ((List Org)))(a0:Int)(a1:Int)(a2:Int)(a3:List Org):Option ((List Org)):=(xBA N q0 N a0 a1 a2 true true a3)
def xBv(N:Nat):Nat->Int->Int->Int->(List Org)->Option ((List Org))
 |0,_,_,_,_=>none
 |d+1,a0,a1,a2,a3=>xDn N (xBv N d) a0 a1 a2 a3
def xD3(N:Nat)(a0:Int)(a1:Int)(a2:Int)(a3:List Org):Option ((List Org)):=xBv N N a0 a1 a2 a3
def xF8(a0:List Val)(a1:Int):List Arg:=[.val (.v false [.sl .ro .val []]),.val (.v false [.int .i64 a1])]
def xD6(r:Int):CallO:=⟨.v false [.int .i64 r],[],[]⟩
def xHt(N:Nat):Nat->Int->Int->Option (Int)
 |0,_,_=>none
 |n+1,x1,x5=>bif(decide (x5<(0:Int))) then(if(0:Int)<=x5/\x5<(0) then none else none) else(some x1)
def xHg(N:Nat)(a0:List Val)(a1:Int):Option (Int):=(xHt N N a1 0)
def xEu(a0:List Str)(a1:Int):List Arg:=[.val (.v false [.sl .ro .str a0]),.val (.v false [.int .i64 a1])]
def xCB(r:Int):CallO:=⟨.v false [.int .i64 r],[],[]⟩
def xHh(N:Nat):Nat->(List Str)->Int->Int->Option (Int)
 |0,_,_,_=>none
 |n+1,x0,x1,x5=>bif(decide (x5<(x0.length:Int))) then(if(0:Int)<=x5/\x5<x0.length then bif(decide (((i64.wrap (x1 - (List.length (x0.getD x5.toNat Ty.str.dflt):Int))):Int)<0)) then(some (-1)) else((xHh N n x0 (i64.wrap (x1 - (List.length (x0.getD x5.toNat Ty.str.dflt):Int))) (i64.wrap (x5+1)))) else none) else(some x1)
def xIO(N:Nat)(a0:List Str)(a1:Int):Option (Int):=bif(decide (((i64.wrap (a1 - (a0.length:Int))):Int)<0)) then(some (-1)) else((xHh N N a0 (i64.wrap (a1 - (a0.length:Int))) 0))
def xF2(a0:List Int)(a1:Int):List Arg:=[.val (.v false [.sl .ro .int a0]),.val (.v false [.int .i64 a1])]
def xDU(r:Int):CallO:=⟨.v false [.int .i64 r],[],[]⟩
def xK0(N:Nat)(a0:List Int)(a1:Int):Option (Int):=bif(decide (((i64.wrap (a1 - (a0.length:Int))):Int)<0)) then(some (-1)) else(some (i64.wrap (a1 - (a0.length:Int))))
def xFa(a0:List Org)(a1:Int):List Arg:=[.val (.v false [.sl .ro .org a0]),.val (.v false [.int .i64 a1])]
def xDQ(r:Int):CallO:=⟨.v false [.int .i64 r],[],[]⟩
def xIM(N:Nat)(a0:List Org)(a1:Int):Option (Int):=bif(decide (((i64.wrap (a1 - (a0.length:Int))):Int)<0)) then(some (-1)) else(some (i64.wrap (a1 - (a0.length:Int))))
def xGr(a0:Rowd)(a1:Int):List Arg:=[.val (.v true [.sl .ro .int a0.cells,.sl .ro .org a0.frm]),.val (.v false [.int .i64 a1])]
def xEX(r:Int):CallO:=⟨.v false [.int .i64 r],[],[]⟩
def xKI(N:Nat)(a0:Rowd)(a1:Int):Option (Int):=(xK0 N a0.cells a1).bind fun r1=>bif(decide (r1<0)) then(some (-1)) else((xIM N a0.frm r1).bind fun r2=>bif(decide (r2<0)) then(some (-1)) else(some r2))
def xGO(a0:List Rowd)(a1:Int):List Arg:=[.val (.v false [.sl .ro .row a0]),.val (.v false [.int .i64 a1])]
def xDV(r:Int):CallO:=⟨.v false [.int .i64 r],[],[]⟩
def xIN(N:Nat):Nat->(List Rowd)->Int->Int->Option (Int)
 |0,_,_,_=>none
 |n+1,x0,x1,x5=>bif(decide (x5<(x0.length:Int))) then(if(0:Int)<=x5/\x5<x0.length then(xKI N (x0.getD x5.toNat Ty.row.dflt) x1).bind fun r1=>bif(decide (r1<0)) then(some (-1)) else((xIN N n x0 r1 (i64.wrap (x5+1)))) else none) else(some x1)
def xK1(N:Nat)(a0:List Rowd)(a1:Int):Option (Int):=bif(decide (((i64.wrap (a1 - (a0.length:Int))):Int)<0)) then(some (-1)) else((xIN N N a0 (i64.wrap (a1 - (a0.length:Int))) 0))
def xCJ(a0:Val)(a1:Int):List Arg:=[.val (.v true (Va .ro a0)),.val (.v false [.int .i64 a1])]
def xAe(r:Int):CallO:=⟨.v false [.int .i64 r],[],[]⟩
def xIF(N:Nat)(q0:Val->Int->Option (Int))(q1:(List Val)->Int->Option (Int))(a0:Val)(a1:Int):Option (Int):=bif(decide (((i64.wrap (a1 - (a0.text.length:Int))):Int)<0)) then(some (-1)) else((q1 a0.list (i64.wrap (a1 - (a0.text.length:Int)))).bind fun r1=>bif(decide (r1<0)) then(some (-1)) else((xIO N a0.columns r1).bind fun r2=>bif(decide (r2<0)) then(some (-1)) else((xK1 N a0.rows r2).bind fun r3=>bif(decide (r3<0)) then(some (-1)) else(some r3))))
def xFM(a0:List Val)(a1:Int):List Arg:=[.val (.v false [.sl .ro .val a0]),.val (.v false [.int .i64 a1])]
def xCI(r:Int):CallO:=⟨.v false [.int .i64 r],[],[]⟩
def xHS(N:Nat)(q0:Val->Int->Option (Int))(q1:(List Val)->Int->Option (Int)):Nat->(List Val)->Int->Int->Option (Int)
 |0,_,_,_=>none
 |n+1,x0,x1,x5=>bif(decide (x5<(x0.length:Int))) then(if(0:Int)<=x5/\x5<x0.length then(q0 (x0.getD x5.toNat Ty.val.dflt) x1).bind fun r1=>bif(decide (r1<0)) then(some (-1)) else((xHS N q0 q1 n x0 r1 (i64.wrap (x5+1)))) else none) else(some x1)
def xIg(N:Nat)(q0:Val->Int->Option (Int))(q1:(List Val)->Int->Option (Int))(a0:List Val)(a1:Int):Option (Int):=bif(decide (((i64.wrap (a1 - (a0.length:Int))):Int)<0)) then(some (-1)) else((xHS N q0 q1 N a0 (i64.wrap (a1 - (a0.length:Int))) 0))
structure laws_szValue_rec where
 c_laws_szValue:Val->Int->Option (Int)
 c_laws_szValueS:(List Val)->Int->Option (Int)
def xCY(N:Nat):Nat->laws_szValue_rec
 |0=>⟨fun _ _=>none,fun _ _=>none⟩
 |d+1=>⟨xIF N (xCY N d).c_laws_szValue (xCY N d).c_laws_szValueS,xIg N (xCY N d).c_laws_szValue (xCY N d).c_laws_szValueS⟩
def xI0(N:Nat)(a0:Val)(a1:Int):Option (Int):=(xCY N N).c_laws_szValue a0 a1
def xHk(a0:List Str):List Arg:=[.val (.v false [.sl .ro .str a0])]
def xFc(r:(List Str)):CallO:=⟨.v false [.sl .own .str r],[],[]⟩
def xHl(N:Nat):Nat->(List Str)->(List Str)->Int->Option ((List Str))
 |0,_,_,_=>none
 |n+1,x0,x3,x4=>bif(decide (x4<(x0.length:Int))) then(if(0:Int)<=x4/\x4<x0.length then if(0:Int)<=x4/\x4<x3.length then(xHl N n x0 (x3.set x4.toNat (x0.getD x4.toNat Ty.str.dflt)) (i64.wrap (x4+1))) else none else none) else(some x3)
def xHI(N:Nat)(a0:List Str):Option ((List Str)):=if(0:Int)<=(a0.length:Int)/\(a0.length:Int)=(a0.length:Int)/\(a0.length:Int)<=Lim then(xHl N N a0 (List.replicate (Int.toNat (a0.length:Int)) Ty.str.dflt) 0) else none
def xIP(a0:List Int):List Arg:=[.val (.v false [.sl .ro .int a0])]
def xGP(r:(List Int)):CallO:=⟨.v false [.sl .own .int r],[],[]⟩
def xIQ(N:Nat):Nat->(List Int)->(List Int)->Int->Option ((List Int))
 |0,_,_,_=>none
 |n+1,x0,x3,x4=>bif(decide (x4<(x0.length:Int))) then(if(0:Int)<=x4/\x4<x0.length then if(0:Int)<=x4/\x4<x3.length then(xIQ N n x0 (x3.set x4.toNat (x0.getD x4.toNat Ty.int.dflt)) (i64.wrap (x4+1))) else none else none) else(some x3)
def xJG(N:Nat)(a0:List Int):Option ((List Int)):=if(0:Int)<=(a0.length:Int)/\(a0.length:Int)=(a0.length:Int)/\(a0.length:Int)<=Lim then(xIQ N N a0 (List.replicate (Int.toNat (a0.length:Int)) Ty.int.dflt) 0) else none
def xHT(a0:Org):List Arg:=[.val (.v true [.int .i64 a0.cell,.int .i64 a0.row])]
def xGD(r:Org):CallO:=⟨.v true [.int .i64 (Org.cell r),.int .i64 (Org.row r)],[],[]⟩
def xJi(N:Nat)(a0:Org):Option (Org):=some a0
def xHi(a0:List Org):List Arg:=[.val (.v false [.sl .ro .org a0])]
def xFb(r:(List Org)):CallO:=⟨.v false [.sl .own .org r],[],[]⟩
def xHj(N:Nat):Nat->(List Org)->(List Org)->Int->Option ((List Org))
 |0,_,_,_=>none
 |n+1,x0,x3,x4=>bif(decide (x4<(x0.length:Int))) then(if(0:Int)<=x4/\x4<x0.length then(xJi N (x0.getD x4.toNat Ty.org.dflt)).bind fun r1=>if(0:Int)<=x4/\x4<x3.length then(xHj N n x0 (x3.set x4.toNat r1) (i64.wrap (x4+1))) else none else none) else(some x3)
def xHH(N:Nat)(a0:List Org):Option ((List Org)):=if(0:Int)<=(a0.length:Int)/\(a0.length:Int)=(a0.length:Int)/\(a0.length:Int)<=Lim then(xHj N N a0 (List.replicate (Int.toNat (a0.length:Int)) Ty.org.dflt) 0) else none
def xJj(a0:Rowd):List Arg:=[.val (.v true [.sl .ro .int a0.cells,.sl .ro .org a0.frm])]
def xIh(r:Rowd):CallO:=⟨.v true [.sl .own .int (Rowd.cells r),.sl .own .org (Rowd.frm r)],[],[]⟩
def xJo(N:Nat)(a0:Rowd):Option (Rowd):=(xJG N a0.cells).bind fun r1=>(xHH N a0.frm).bind fun r2=>some (Rowd.mk r1 r2)
def xIR(a0:List Rowd):List Arg:=[.val (.v false [.sl .ro .row a0])]
def xGQ(r:(List Rowd)):CallO:=⟨.v false [.sl .own .row r],[],[]⟩
def xIS(N:Nat):Nat->(List Rowd)->(List Rowd)->Int->Option ((List Rowd))
 |0,_,_,_=>none
 |n+1,x0,x3,x4=>bif(decide (x4<(x0.length:Int))) then(if(0:Int)<=x4/\x4<x0.length then(xJo N (x0.getD x4.toNat Ty.row.dflt)).bind fun r1=>if(0:Int)<=x4/\x4<x3.length then(xIS N n x0 (x3.set x4.toNat r1) (i64.wrap (x4+1))) else none else none) else(some x3)
def xJH(N:Nat)(a0:List Rowd):Option ((List Rowd)):=if(0:Int)<=(a0.length:Int)/\(a0.length:Int)=(a0.length:Int)/\(a0.length:Int)<=Lim then(xIS N N a0 (List.replicate (Int.toNat (a0.length:Int)) Ty.row.dflt) 0) else none
def xFq(a0:Val):List Arg:=[.val (.v true (Va .ro a0))]
def xAa(r:Val):CallO:=⟨.v true (Va .own r),[],[]⟩
def xGc(N:Nat)(q0:Val->Option (Val))(q1:(List Val)->Option ((List Val)))(a0:Val):Option (Val):=(q1 a0.list).bind fun r1=>(xHI N a0.columns).bind fun r2=>(xJH N a0.rows).bind fun r3=>some (Val.mk a0.kind a0.n a0.step a0.text r1 r2 r3)
def xGE(a0:List Val):List Arg:=[.val (.v false [.sl .ro .val a0])]
def xEQ(r:(List Val)):CallO:=⟨.v false [.sl .own .val r],[],[]⟩
def xHU(N:Nat)(q0:Val->Option (Val))(q1:(List Val)->Option ((List Val))):Nat->(List Val)->(List Val)->Int->Option ((List Val))
 |0,_,_,_=>none
 |n+1,x0,x3,x4=>bif(decide (x4<(x0.length:Int))) then(if(0:Int)<=x4/\x4<x0.length then(q0 (x0.getD x4.toNat Ty.val.dflt)).bind fun r1=>if(0:Int)<=x4/\x4<x3.length then(xHU N q0 q1 n x0 (x3.set x4.toNat r1.re) (i64.wrap (x4+1))) else none else none) else(some x3)
def xFU(N:Nat)(q0:Val->Option (Val))(q1:(List Val)->Option ((List Val)))(a0:List Val):Option ((List Val)):=if(0:Int)<=(a0.length:Int)/\(a0.length:Int)=(a0.length:Int)/\(a0.length:Int)<=Lim then(xHU N q0 q1 N a0 (List.replicate (Int.toNat (a0.length:Int)) Ty.val.dflt) 0) else none
structure laws_toValue_rec where
 c_laws_toValue:Val->Option (Val)
 c_laws_toValueS:(List Val)->Option ((List Val))
def xBS(N:Nat):Nat->laws_toValue_rec
 |0=>⟨fun _=>none,fun _=>none⟩
 |d+1=>⟨xGc N (xBS N d).c_laws_toValue (xBS N d).c_laws_toValueS,xFU N (xBS N d).c_laws_toValue (xBS N d).c_laws_toValueS⟩
def xCv(N:Nat)(a0:Val):Option (Val):=(xBS N N).c_laws_toValue a0
def xGh(a0:Int)(a1:Int)(a2:Int):List Arg:=[.val (.v false [.int .i64 a0]),.val (.v false [.int .i64 a1]),.val (.v false [.int .i64 a2])]
def xEd(r:Bool):CallO:=⟨.v false [.bool r],[],[]⟩
def xJV(N:Nat)(a0:Int)(a1:Int)(a2:Int):Option (Bool):=bif(decide (a0>=a1)) then(some (decide (a0<=a2))) else(some false)
def xCZ(a0:Int):List Arg:=[.val (.v false [.int .i64 a0])]
def xBB(r:Bool):CallO:=⟨.v false [.bool r],[],[]⟩
def xE2(N:Nat)(a0:Int):Option (Bool):=(xJV N a0 (-1000000000) 1000000000).bind fun r1=>some r1
def xGv(a0:Str):List Arg:=[.val (.v false [.str a0])]
def xCV(r:Bool):CallO:=⟨.v false [.bool r],[],[]⟩
def xDg(N:Nat):Nat->Str->Int->Option (Bool)
 |0,_,_=>none
 |n+1,x0,x3=>bif(decide (x3<(x0.length:Int))) then(if(0:Int)<=x3/\x3<x0.length then bif(decide ((((x0.getD x3.toNat 0).toNat:Int):Int)<32)) then(some false) else(bif(decide ((((x0.getD x3.toNat 0).toNat:Int):Int)>126)) then(some false) else(bif((((x0.getD x3.toNat 0).toNat:Int):Int)==34) then(some false) else((xDg N n x0 (i64.wrap (x3+1)))))) else none) else(some (decide ((x0.length:Int)<=20)))
def xHW(N:Nat)(a0:Str):Option (Bool):=(xDg N N a0 0)
def xDS(a0:Val):List Arg:=[.val (.v true (Va .ro a0))]
def xCK(r:Bool):CallO:=⟨.v false [.bool r],[],[]⟩
def xIV(N:Nat)(a0:Val):Option (Bool):=bif(a0.kind==1) then(some true) else(bif(a0.kind==2) then(some true) else(some (a0.kind==3)))
def xIo(a0:Int)(a1:Int):List Arg:=[.val (.v false [.int .i64 a0]),.val (.v false [.int .i64 a1])]
def xHo(r:Int):CallO:=⟨.v false [.int .i64 r],[],[]⟩
def xKQ(N:Nat)(a0:Int)(a1:Int):Option (Int):=bif(decide (a0>a1)) then(some a0) else(some a1)
def xFt(a0:Val):List Arg:=[.val (.v true (Va .ro a0))]
def xDx(r:Int):CallO:=⟨.v false [.int .i64 r],[],[]⟩
def xGd(N:Nat)(q0:Val->Option (Int)):Nat->Int->Int->Val->Option (Int)
 |0,_,_,_=>none
 |n+1,x3,x4,b1=>bif(decide (x4<(b1.list.length:Int))) then(if(0:Int)<=x4/\x4<b1.list.length then(q0 (b1.list.getD x4.toNat Ty.val.dflt)).bind fun r1=>(xKQ N x3 r1).bind fun r2=>(xGd N q0 n r2 (i64.wrap (x4+1)) b1) else none) else(some (i64.wrap (x3+1)))
def xIH(N:Nat)(q0:Val->Option (Int))(a0:Val):Option (Int):=(xGd N q0 N 0 0 a0)
def xES(N:Nat):Nat->Val->Option (Int)
 |0,_=>none
 |d+1,a0=>xIH N (xES N d) a0
def xKc(N:Nat)(a0:Val):Option (Int):=xES N N a0
def xGe(a0:Str):List Arg:=[.val (.v false [.str a0])]
def xBX(r:Bool):CallO:=⟨.v false [.bool r],[],[]⟩
def xDy(N:Nat):Nat->Str->Int->Option (Bool)
 |0,_,_=>none
 |n+1,x0,x3=>bif(decide (x3<(x0.length:Int))) then(if(0:Int)<=x3/\x3<x0.length then bif(decide ((((x0.getD x3.toNat 0).toNat:Int):Int)>=97)) then(bif(decide ((((x0.getD x3.toNat 0).toNat:Int):Int)>=48)) then(bif(!(decide ((((x0.getD x3.toNat 0).toNat:Int):Int)<=122))) then(bif(x3==0) then(some false) else(bif(!(decide ((((x0.getD x3.toNat 0).toNat:Int):Int)<=57))) then(some false) else((xDy N n x0 (i64.wrap (x3+1)))))) else((xDy N n x0 (i64.wrap (x3+1))))) else(bif(!(decide ((((x0.getD x3.toNat 0).toNat:Int):Int)<=122))) then(bif(x3==0) then(some false) else(some false)) else((xDy N n x0 (i64.wrap (x3+1)))))) else(bif(decide ((((x0.getD x3.toNat 0).toNat:Int):Int)>=48)) then(bif(x3==0) then(some false) else(bif(!(decide ((((x0.getD x3.toNat 0).toNat:Int):Int)<=57))) then(some false) else((xDy N n x0 (i64.wrap (x3+1)))))) else(bif(x3==0) then(some false) else(some false))) else none) else(some (decide ((x0.length:Int)>0)))
def xKf(N:Nat)(a0:Str):Option (Bool):=(xDy N N a0 0)
def xGY:List Arg:=[]
def xFZ(r:(List Str)):CallO:=⟨.v false [.sl .own .str r],[],[]⟩
def xIp(N:Nat):Option ((List Str)):=some [[108,101,116],[105,110],[105,102],[116,104,101,110],[101,108,115,101],[102,111,114],[100,111],[108,101,110],[115,117,109],[116,97,107,101],[115,107,105,112],[114,97,110,103,101],[110,116,104],[119,104,101,114,101],[107,101,101,112],[97,100,100],[103,114,111,117,112],[106,111,105,110],[99,111,108,117,109,110],[114,111,119,115],[99,108,111,99,107],[99,104,97,110,99,101],[102,105,108,101],[116,97,98,108,101]]
def xHn(a0:List Str)(a1:Str):List Arg:=[.val (.v false [.sl .ro .str a0]),.val (.v false [.str a1])]
def xD5(r:Bool):CallO:=⟨.v false [.bool r],[],[]⟩
def xGw(N:Nat):Nat->(List Str)->Str->Int->Option (Bool)
 |0,_,_,_=>none
 |n+1,x0,x1,x5=>bif(decide (x5<(x0.length:Int))) then(if(0:Int)<=x5/\x5<x0.length then bif(((x0.getD x5.toNat Ty.str.dflt):Str)==x1) then(some true) else((xGw N n x0 x1 (i64.wrap (x5+1)))) else none) else(some false)
def xKP(N:Nat)(a0:List Str)(a1:Str):Option (Bool):=(xGw N N a0 a1 0)
def xGX(a0:Str):List Arg:=[.val (.v false [.str a0])]
def xFY(r:Bool):CallO:=⟨.v false [.bool r],[],[]⟩
def xG7(N:Nat)(a0:Str):Option (Bool):=(xIp N).bind fun r1=>(xKP N r1 a0).bind fun r2=>some r2
def xDK(a0:Str):List Arg:=[.val (.v false [.str a0])]
def xCU(r:Bool):CallO:=⟨.v false [.bool r],[],[]⟩
def xGJ(N:Nat)(a0:Str):Option (Bool):=(xKf N a0).bind fun r1=>bif r1 then(bif(decide ((a0.length:Int)<=8)) then((xG7 N a0).bind fun r2=>some (!r2)) else(some false)) else(some false)
def xGt(a0:List Str):List Arg:=[.val (.v false [.sl .ro .str a0])]
def xDJ(r:Bool):CallO:=⟨.v false [.bool r],[],[]⟩
def xDI(N:Nat):Nat->(List Str)->Int->Option (Bool)
 |0,_,_=>none
 |n+1,x0,x3=>bif(decide (x3<(x0.length:Int))) then(if(0:Int)<=x3/\x3<=x0.length then if(0:Int)<=x3/\x3<x0.length then(xKP N (List.take x3.toNat x0) (x0.getD x3.toNat Ty.str.dflt)).bind fun r1=>bif r1 then(some false) else((xDI N n x0 (i64.wrap (x3+1)))) else none else none) else(some true)
def xHV(N:Nat)(a0:List Str):Option (Bool):=(xDI N N a0 0)
def xFd(a0:List Str):List Arg:=[.val (.v false [.sl .ro .str a0])]
def xCC(r:Bool):CallO:=⟨.v false [.bool r],[],[]⟩
def xFe(N:Nat):Nat->(List Str)->Int->Option (Bool)
 |0,_,_=>none
 |n+1,x0,x3=>bif(decide (x3<(x0.length:Int))) then(if(0:Int)<=x3/\x3<x0.length then(xGJ N (x0.getD x3.toNat Ty.str.dflt)).bind fun r1=>bif(!r1) then(some false) else((xFe N n x0 (i64.wrap (x3+1)))) else none) else((xJV N (x0.length:Int) 1 4).bind fun r1=>bif r1 then((xHV N x0).bind fun r2=>some r2) else(some false))
def xIU(N:Nat)(a0:List Str):Option (Bool):=(xFe N N a0 0)
def xEe(a0:Org)(a1:Org):List Arg:=[.val (.v true [.int .i64 a0.cell,.int .i64 a0.row]),.val (.v true [.int .i64 a1.cell,.int .i64 a1.row])]
def xBH(r:Bool):CallO:=⟨.v false [.bool r],[],[]⟩
def xF0(N:Nat)(a0:Org)(a1:Org):Option (Bool):=bif(decide (a0.cell<a1.cell)) then(some true) else(bif(a0.cell==a1.cell) then(some (decide (a0.row<a1.row))) else(some false))
def xFw(a0:List Org):List Arg:=[.val (.v false [.sl .ro .org a0])]
def xCt(r:Bool):CallO:=⟨.v false [.bool r],[],[]⟩
def xDh(N:Nat):Nat->(List Org)->Int->Option (Bool)
 |0,_,_=>none
 |n+1,x0,x3=>bif(decide (x3<(x0.length:Int))) then(if(0:Int)<=x3/\x3<x0.length then bif(decide (((Org.cell (x0.getD x3.toNat Ty.org.dflt)):Int)<0)) then(some false) else(bif(decide (((Org.row (x0.getD x3.toNat Ty.org.dflt)):Int)<0)) then(some false) else(bif(decide (x3>0)) then(if(0:Int)<=(i64.wrap (x3 - 1))/\(i64.wrap (x3 - 1))<x0.length then(xF0 N (x0.getD (Int.toNat (i64.wrap (x3 - 1))) Ty.org.dflt) (x0.getD x3.toNat Ty.org.dflt)).bind fun r1=>bif(!r1) then(some false) else((xDh N n x0 (i64.wrap (x3+1)))) else none) else((xDh N n x0 (i64.wrap (x3+1)))))) else none) else(some true)
def xHX(N:Nat)(a0:List Org):Option (Bool):=(xDh N N a0 0)
def xGf(a0:Val):List Arg:=[.val (.v true (Va .ro a0))]
def xCL(r:Bool):CallO:=⟨.v false [.bool r],[],[]⟩
def xET(N:Nat)(k4:Int->Val->Option (Bool)):Nat->Int->Int->Val->Rowd->Option (Bool)
 |0,_,_,_,_=>none
 |n+1,x3,x5,b1,b4=>bif(decide (x5<(b4.cells.length:Int))) then(if(0:Int)<=x5/\x5<b4.cells.length then(xE2 N (b4.cells.getD x5.toNat Ty.int.dflt)).bind fun r1=>bif(!r1) then(some false) else((xET N k4 n x3 (i64.wrap (x5+1)) b1 b4)) else none) else((k4 (i64.wrap (x3+1)) b1))
def xFx(N:Nat):Nat->Int->Val->Option (Bool)
 |0,_,_=>none
 |n+1,x3,b1=>bif(decide (x3<(b1.rows.length:Int))) then(if(0:Int)<=x3/\x3<b1.rows.length then bif(((List.length (Rowd.cells (b1.rows.getD x3.toNat Ty.row.dflt)):Int):Int) != (b1.columns.length:Int)) then(some false) else((xHX N (Rowd.frm (b1.rows.getD x3.toNat Ty.row.dflt))).bind fun r1=>bif(!r1) then(some false) else((xET N (fun z0 z1=>(xFx N n z0 z1)) N x3 0 b1 (b1.rows.getD x3.toNat Ty.row.dflt)))) else none) else(some true)
def xI3(N:Nat)(a0:Val):Option (Bool):=(xIU N a0.columns).bind fun r1=>bif(!r1) then(some false) else(bif(decide ((a0.rows.length:Int)>12)) then(some false) else((xFx N N 0 a0)))
def xAD(a0:Val):List Arg:=[.val (.v true (Va .ro a0))]
def xAw(r:Bool):CallO:=⟨.v false [.bool r],[],[]⟩
def xEj(N:Nat)(q0:Val->Option (Bool))(q1:Val->Option (Bool))(a0:Val):Option (Bool):=bif(a0.kind != 3) then(bif(decide ((a0.list.length:Int)>0)) then(some false) else(bif(a0.kind != 5) then(bif(decide (((i64.wrap ((a0.columns.length:Int)+(a0.rows.length:Int))):Int)>0)) then(some false) else(bif(a0.kind != 2) then(bif(!((a0.text:Str)== [])) then(some false) else(bif(a0.kind != 4) then(bif(a0.step != 0) then(some false) else(bif(a0.kind==1) then((xE2 N a0.n).bind fun r1=>some r1) else(bif(a0.kind==6) then((xJV N a0.n 1 8).bind fun r1=>some r1) else(some false)))) else((xE2 N a0.n).bind fun r1=>bif r1 then((xE2 N a0.step).bind fun r2=>some r2) else(some false)))) else(bif(a0.step != 0) then(some false) else(bif(a0.n==0) then((xHW N a0.text).bind fun r1=>some r1) else(some false))))) else(bif(!((a0.text:Str)== [])) then(some false) else(bif(a0.step != 0) then(some false) else(bif(a0.n==0) then((xI3 N a0).bind fun r1=>some r1) else(some false)))))) else(bif(decide (((i64.wrap ((a0.columns.length:Int)+(a0.rows.length:Int))):Int)>0)) then(some false) else(bif(!((a0.text:Str)== [])) then(some false) else(bif(a0.step != 0) then(some false) else(bif(a0.n==0) then((q1 a0).bind fun r1=>some r1) else(some false)))))
def xHK(a0:Val):List Arg:=[.val (.v true (Va .ro a0))]
def xDW(r:Bool):CallO:=⟨.v false [.bool r],[],[]⟩
def xE4(N:Nat)(q0:Val->Option (Bool))(q1:Val->Option (Bool)):Nat->Int->Val->Option (Bool)
 |0,_,_=>none
 |n+1,x3,b1=>bif(decide (x3<(b1.list.length:Int))) then(if(0:Int)<=x3/\x3<b1.list.length then(xIV N (b1.list.getD x3.toNat Ty.val.dflt)).bind fun r1=>bif(!r1) then(some false) else((q0 (b1.list.getD x3.toNat Ty.val.dflt)).bind fun r2=>bif(!r2) then(some false) else((xE4 N q0 q1 n (i64.wrap (x3+1)) b1))) else none) else(bif(decide ((b1.list.length:Int)<=8)) then((xKc N b1).bind fun r1=>some (decide (r1<=3))) else(some false))
def xJa(N:Nat)(q0:Val->Option (Bool))(q1:Val->Option (Bool))(a0:Val):Option (Bool):=(xE4 N q0 q1 N 0 a0)
structure spec_IsValidValue_rec where
 c_spec_IsValidValue:Val->Option (Bool)
 c_spec_l3List:Val->Option (Bool)
def xAQ(N:Nat):Nat->spec_IsValidValue_rec
 |0=>⟨fun _=>none,fun _=>none⟩
 |d+1=>⟨xEj N (xAQ N d).c_spec_IsValidValue (xAQ N d).c_spec_l3List,xJa N (xAQ N d).c_spec_IsValidValue (xAQ N d).c_spec_l3List⟩
def xII(N:Nat)(a0:Val):Option (Bool):=(xAQ N N).c_spec_IsValidValue a0
def xCR(a0:Int):List Arg:=[.val (.v false [.int .i64 a0])]
def xBw(r:Val):CallO:=⟨.v true (Va .own r),[],[]⟩
def xCh(N:Nat)(a0:Int):Option (Val):=some (Val.mk 6 a0 0 [] [] [] [])
def xG8(a0:List Val):List Arg:=[.val (.v false [.sl .ro .val a0])]
def xDz(r:Val×Bool):CallO:=⟨.tup [(true,(Va .own r.1)),(false,[.bool r.2])],[],[]⟩
def xEC(N:Nat):Nat->(List Val)->Int->Val->Option (Val×Bool)
 |0,_,_,_=>none
 |n+1,x0,x4,b2=>bif(decide (x4<(x0.length:Int))) then(if(0:Int)<=x4/\x4<x0.length then(xII N (x0.getD x4.toNat Ty.val.dflt)).bind fun r1=>bif(!r1) then((xCh N 4).bind fun r2=>some (r2,true)) else(bif(((Val.kind (x0.getD x4.toNat Ty.val.dflt)):Int)==6) then((xCh N (Val.n (x0.getD x4.toNat Ty.val.dflt))).bind fun r2=>some (r2,true)) else((xEC N n x0 (i64.wrap (x4+1)) b2))) else none) else(some ((Val.mk 0 0 0 [] [] [] []),false))
def xKg(N:Nat)(a0:List Val):Option (Val×Bool):=(xEC N N a0 0 (Val.mk 0 0 0 [] [] [] []))
def xG9(a0:List Val)(a1:List Int):List Arg:=[.val (.v false [.sl .ro .val a0]),.val (.v false [.sl .ro .int a1])]
def xC0(r:Val×Bool):CallO:=⟨.tup [(true,(Va .own r.1)),(false,[.bool r.2])],[],[]⟩
def xED(N:Nat):Nat->(List Val)->(List Int)->Int->Val->Option (Val×Bool)
 |0,_,_,_,_=>none
 |n+1,x0,x1,x8,b4=>bif(decide (x8<(x0.length:Int))) then(if(0:Int)<=x8/\x8<x0.length then if(0:Int)<=x8/\x8<x1.length then bif(((Val.kind (x0.getD x8.toNat Ty.val.dflt)):Int) != (x1.getD x8.toNat Ty.int.dflt)) then((xCh N 4).bind fun r1=>some (r1,true)) else((xED N n x0 x1 (i64.wrap (x8+1)) b4)) else none else none) else(some ((Val.mk 0 0 0 [] [] [] []),false))
def xI4(N:Nat)(a0:List Val)(a1:List Int):Option (Val×Bool):=(xKg N a0).bind fun r1=>bif r1.2 then(some (r1.1,true)) else((xED N N a0 a1 0 (Val.mk 0 0 0 [] [] [] [])))
def xIn(a0:List Str)(a1:Str):List Arg:=[.val (.v false [.sl .ro .str a0]),.val (.v false [.str a1])]
def xFv(r:Int):CallO:=⟨.v false [.int .i64 r],[],[]⟩
def xFu(N:Nat):Nat->(List Str)->Str->Int->Option (Int)
 |0,_,_,_=>none
 |n+1,x0,x1,x5=>bif(decide (x5<(x0.length:Int))) then(if(0:Int)<=x5/\x5<x0.length then bif(((x0.getD x5.toNat Ty.str.dflt):Str)==x1) then(some x5) else((xFu N n x0 x1 (i64.wrap (x5+1)))) else none) else(some (-1))
def xKd(N:Nat)(a0:List Str)(a1:Str):Option (Int):=(xFu N N a0 a1 0)
def xGu(a0:Val)(a1:Str):List Arg:=[.val (.v true (Va .ro a0)),.val (.v false [.str a1])]
def xCa(r:Int):CallO:=⟨.v false [.int .i64 r],[],[]⟩
def xFN(N:Nat)(a0:Val)(a1:Str):Option (Int):=(xKd N a0.columns a1).bind fun r1=>some r1
def xHb(a0:List Org)(a1:List Org):List Arg:=[.val (.v false [.sl .ro .org a0]),.val (.v false [.sl .ro .org a1])]
def xEE(r:(List Org)):CallO:=⟨.v false [.sl .own .org r],[],[]⟩
def xBY(N:Nat):Nat->(List Org)->(List Org)->(List Org)->Int->Int->Option ((List Org))
 |0,_,_,_,_,_=>none
 |n+1,x0,x1,x5,x6,x7=>bif(decide (x6<(x0.length:Int))) then(bif(x7==(x1.length:Int)) then(if(0:Int)<=x6/\x6<x0.length then if x5.length+ [(x0.getD x6.toNat Ty.org.dflt)].length<=Lim then(xBY N n x0 x1 (x5++ [(x0.getD x6.toNat Ty.org.dflt)]) (i64.wrap (x6+1)) x7) else none else none) else(if(0:Int)<=x6/\x6<x0.length then if(0:Int)<=x7/\x7<x1.length then(xF0 N (x0.getD x6.toNat Ty.org.dflt) (x1.getD x7.toNat Ty.org.dflt)).bind fun r1=>bif r1 then(if x5.length+ [(x0.getD x6.toNat Ty.org.dflt)].length<=Lim then(xBY N n x0 x1 (x5++ [(x0.getD x6.toNat Ty.org.dflt)]) (i64.wrap (x6+1)) x7) else none) else(bif(x6==(x0.length:Int)) then(if x5.length+ [(x1.getD x7.toNat Ty.org.dflt)].length<=Lim then(xBY N n x0 x1 (x5++ [(x1.getD x7.toNat Ty.org.dflt)]) x6 (i64.wrap (x7+1))) else none) else((xF0 N (x1.getD x7.toNat Ty.org.dflt) (x0.getD x6.toNat Ty.org.dflt)).bind fun r2=>bif r2 then(if x5.length+ [(x1.getD x7.toNat Ty.org.dflt)].length<=Lim then(xBY N n x0 x1 (x5++ [(x1.getD x7.toNat Ty.org.dflt)]) x6 (i64.wrap (x7+1))) else none) else(if x5.length+ [(x0.getD x6.toNat Ty.org.dflt)].length<=Lim then(xBY N n x0 x1 (x5++ [(x0.getD x6.toNat Ty.org.dflt)]) (i64.wrap (x6+1)) (i64.wrap (x7+1))) else none))) else none else none)) else(bif(decide (x7<(x1.length:Int))) then(bif(x7==(x1.length:Int)) then(if(0:Int)<=x6/\x6<x0.length then if x5.length+ [(x0.getD x6.toNat Ty.org.dflt)].length<=Lim then(xBY N n x0 x1 (x5++ [(x0.getD x6.toNat Ty.org.dflt)]) (i64.wrap (x6+1)) x7)
      else none else none) else(bif(x6==(x0.length:Int)) then(if(0:Int)<=x7/\x7<x1.length then if x5.length+ [(x1.getD x7.toNat Ty.org.dflt)].length<=Lim then(xBY N n x0 x1 (x5++ [(x1.getD x7.toNat Ty.org.dflt)]) x6 (i64.wrap (x7+1))) else none else none) else(if(0:Int)<=x7/\x7<x1.length then if(0:Int)<=x6/\x6<x0.length then(xF0 N (x1.getD x7.toNat Ty.org.dflt) (x0.getD x6.toNat Ty.org.dflt)).bind fun r1=>bif r1 then(if x5.length+ [(x1.getD x7.toNat Ty.org.dflt)].length<=Lim then(xBY N n x0 x1 (x5++ [(x1.getD x7.toNat Ty.org.dflt)]) x6 (i64.wrap (x7+1))) else none) else(if x5.length+ [(x0.getD x6.toNat Ty.org.dflt)].length<=Lim then(xBY N n x0 x1 (x5++ [(x0.getD x6.toNat Ty.org.dflt)]) (i64.wrap (x6+1)) (i64.wrap (x7+1))) else none) else none else none))) else(some x5))
def xI5(N:Nat)(a0:List Org)(a1:List Org):Option ((List Org)):=(xBY N N a0 a1 [] 0 0)
def xEA(a0:Int)(a1:Int)(a2:Int):List Arg:=[.val (.v false [.int .i64 a0]),.val (.v false [.int .i64 a1]),.val (.v false [.int .i64 a2])]
def xCN(r:Bool):CallO:=⟨.v false [.bool r],[],[]⟩
def xG5(N:Nat)(a0:Int)(a1:Int)(a2:Int):Option (Bool):=bif(decide (a1<=a0)) then(some (decide (a0<=a2))) else(some false)
def xDA(a0:Int):List Arg:=[.val (.v false [.int .i64 a0])]
def xB8(r:Bool):CallO:=⟨.v false [.bool r],[],[]⟩
def xFP(N:Nat)(a0:Int):Option (Bool):=(xG5 N a0 (-1000000000) 1000000000).bind fun r1=>some r1
def xGn(a0:Str):List Arg:=[.val (.v false [.str a0])]
def xCS(r:Bool):CallO:=⟨.v false [.bool r],[],[]⟩
def xFi(N:Nat):Nat->Str->Int->Option (Bool)
 |0,_,_=>none
 |n+1,x0,x3=>bif(decide (x3<(x0.length:Int))) then(if(0:Int)<=x3/\x3<x0.length then bif(decide ((((x0.getD x3.toNat 0).toNat:Int):Int)<32)) then(some false) else(bif(decide ((((x0.getD x3.toNat 0).toNat:Int):Int)>126)) then(some false) else(bif((((x0.getD x3.toNat 0).toNat:Int):Int)==34) then(some false) else((xFi N n x0 (i64.wrap (x3+1)))))) else none) else(some (decide ((x0.length:Int)<=20)))
def xHN(N:Nat)(a0:Str):Option (Bool):=(xFi N N a0 0)
def xHC(a0:Str):List Arg:=[.val (.v false [.str a0])]
def xCM(r:Bool):CallO:=⟨.v false [.bool r],[],[]⟩
def xEz(N:Nat):Nat->Str->Int->Option (Bool)
 |0,_,_=>none
 |n+1,x0,x3=>bif(decide (x3<(x0.length:Int))) then(if(0:Int)<=x3/\x3<x0.length then bif(decide ((((x0.getD x3.toNat 0).toNat:Int):Int)>=97)) then(bif(!(decide ((((x0.getD x3.toNat 0).toNat:Int):Int)<=122))) then(bif(x3==0) then(some false) else(bif(decide ((((x0.getD x3.toNat 0).toNat:Int):Int)<48)) then(some false) else(bif(decide ((((x0.getD x3.toNat 0).toNat:Int):Int)>57)) then(some false) else((xEz N n x0 (i64.wrap (x3+1))))))) else((xEz N n x0 (i64.wrap (x3+1))))) else(bif(x3==0) then(some false) else(bif(decide ((((x0.getD x3.toNat 0).toNat:Int):Int)<48)) then(some false) else(bif(decide ((((x0.getD x3.toNat 0).toNat:Int):Int)>57)) then(some false) else((xEz N n x0 (i64.wrap (x3+1))))))) else none) else((xG5 N (x0.length:Int) 1 8).bind fun r1=>some r1)
def xKW(N:Nat)(a0:Str):Option (Bool):=(xEz N N a0 0)
def xAO(a0:Str):List Arg:=[.val (.v false [.str a0])]
def xAJ(r:Int):CallO:=⟨.v false [.int .i64 r],[],[]⟩
def xGT(N:Nat)(a0:Str):Option (Int):=bif((a0:Str)== [99,108,111,99,107]) then(some 0) else(bif((a0:Str)== [108,101,110]) then(some 1) else(bif((a0:Str)== [115,117,109]) then(some 1) else(bif((a0:Str)== [114,111,119,115]) then(some 1) else(bif((a0:Str)== [99,104,97,110,99,101]) then(some 1) else(bif((a0:Str)== [102,105,108,101]) then(some 1) else(bif((a0:Str)== [116,97,107,101]) then(some 2) else(bif((a0:Str)== [115,107,105,112]) then(some 2) else(bif((a0:Str)== [114,97,110,103,101]) then(some 2) else(bif((a0:Str)== [110,116,104]) then(some 2) else(bif((a0:Str)== [107,101,101,112]) then(some 2) else(bif((a0:Str)== [99,111,108,117,109,110]) then(some 2) else(bif((a0:Str)== [116,97,98,108,101]) then(some 2) else(bif((a0:Str)== [119,104,101,114,101]) then(some 3) else(bif((a0:Str)== [103,114,111,117,112]) then(some 3) else(bif((a0:Str)== [106,111,105,110]) then(some 3) else(bif((a0:Str)== [97,100,100]) then(some 4) else(some (-1))))))))))))))))))
def xCD(a0:Str):List Arg:=[.val (.v false [.str a0])]
def xCn(r:Bool):CallO:=⟨.v false [.bool r],[],[]⟩
def xG4(N:Nat)(a0:Str):Option (Bool):=bif((a0:Str)== [108,101,116]) then(some true) else(bif((a0:Str)== [105,110]) then(some true) else(bif((a0:Str)== [105,102]) then(some true) else(bif((a0:Str)== [116,104,101,110]) then(some true) else(bif((a0:Str)== [101,108,115,101]) then(some true) else(bif((a0:Str)== [102,111,114]) then(some true) else(bif((a0:Str)== [100,111]) then(some true) else((xGT N a0).bind fun r1=>some (decide (r1>=0)))))))))
def xEl(a0:Str):List Arg:=[.val (.v false [.str a0])]
def xC9(r:Bool):CallO:=⟨.v false [.bool r],[],[]⟩
def xGz(N:Nat)(a0:Str):Option (Bool):=(xKW N a0).bind fun r1=>bif r1 then((xG4 N a0).bind fun r2=>some (!r2)) else(some false)
def xGa(a0:List Str)(a1:Str):List Arg:=[.val (.v false [.sl .ro .str a0]),.val (.v false [.str a1])]
def xC8(r:Int):CallO:=⟨.v false [.int .i64 r],[],[]⟩
def xFh(N:Nat):Nat->Str->(List Str)->Int->Int->Option (Int)
 |0,_,_,_,_=>none
 |n+1,x1,x7,x8,x9=>bif(decide (x9<x8)) then(if(0:Int)<=x9/\x9<x7.length then bif(((x7.getD x9.toNat Ty.str.dflt):Str)==x1) then(some x9) else((xFh N n x1 x7 x8 (i64.wrap (x9+1)))) else none) else(some (-1))
def xIX(N:Nat)(a0:List Str)(a1:Str):Option (Int):=(xFh N N a1 a0 (a0.length:Int) 0)
def xGl(a0:List Str):List Arg:=[.val (.v false [.sl .ro .str a0])]
def xDF(r:Bool):CallO:=⟨.v false [.bool r],[],[]⟩
def xDE(N:Nat):Nat->(List Str)->(List Str)->Int->Int->Option (Bool)
 |0,_,_,_,_=>none
 |n+1,x0,x5,x6,x7=>bif(decide (x7<x6)) then(if(0:Int)<=x7/\x7<x5.length then(xIX N x0 (x5.getD x7.toNat Ty.str.dflt)).bind fun r1=>bif(r1 != x7) then(some false) else((xDE N n x0 x5 x6 (i64.wrap (x7+1)))) else none) else(some true)
def xHL(N:Nat)(a0:List Str):Option (Bool):=(xDE N N a0 a0 (a0.length:Int) 0)
def xEG(a0:List Str):List Arg:=[.val (.v false [.sl .ro .str a0])]
def xCo(r:Bool):CallO:=⟨.v false [.bool r],[],[]⟩
def xEH(N:Nat):Nat->(List Str)->(List Str)->Int->Int->Option (Bool)
 |0,_,_,_,_=>none
 |n+1,x0,x5,x6,x7=>bif(decide (x7<x6)) then(if(0:Int)<=x7/\x7<x5.length then(xGz N (x5.getD x7.toNat Ty.str.dflt)).bind fun r1=>bif(!r1) then(some false) else((xEH N n x0 x5 x6 (i64.wrap (x7+1)))) else none) else((xG5 N (x0.length:Int) 1 4).bind fun r1=>bif r1 then((xHL N x0).bind fun r2=>some r2) else(some false))
def xH8(N:Nat)(a0:List Str):Option (Bool):=(xEH N N a0 a0 (a0.length:Int) 0)
def xFj(a0:Val):List Arg:=[.val (.v true (Va .ro a0))]
def xBK(r:Bool):CallO:=⟨.v false [.bool r],[],[]⟩
def xD9(N:Nat)(k4:(List Rowd)->Int->Int->Val->Option (Bool)):Nat->(List Rowd)->Int->Int->(List Org)->Int->Int->Val->Rowd->Option (Bool)
 |0,_,_,_,_,_,_,_,_=>none
 |n+1,x20,x21,x22,x45,x46,x47,b1,b4=>bif(decide (x47<x46)) then(if(0:Int)<=x47/\x47<x45.length then bif(decide (((Org.cell (x45.getD x47.toNat Ty.org.dflt)):Int)<0)) then(some false) else(bif(decide (((Org.row (x45.getD x47.toNat Ty.org.dflt)):Int)<0)) then(some false) else(bif(decide (x47>0)) then(if(0:Int)<=(i64.wrap (x47 - 1))/\(i64.wrap (x47 - 1))<b4.frm.length then(xEm N (b4.frm.getD (Int.toNat (i64.wrap (x47 - 1))) Ty.org.dflt) (x45.getD x47.toNat Ty.org.dflt)).bind fun r1=>bif(!r1) then(some false) else((xD9 N k4 n x20 x21 x22 x45 x46 (i64.wrap (x47+1)) b1 b4)) else none) else((xD9 N k4 n x20 x21 x22 x45 x46 (i64.wrap (x47+1)) b1 b4)))) else none) else((k4 x20 x21 (i64.wrap (x22+1)) b1))
def xFl(N:Nat)(k4:(List Rowd)->Int->Int->Val->Option (Bool)):Nat->(List Rowd)->Int->Int->(List Int)->Int->Int->Val->Rowd->Option (Bool)
 |0,_,_,_,_,_,_,_,_=>none
 |n+1,x20,x21,x22,x34,x35,x36,b1,b4=>bif(decide (x36<x35)) then(if(0:Int)<=x36/\x36<x34.length then(xFP N (x34.getD x36.toNat Ty.int.dflt)).bind fun r1=>bif(!r1) then(some false) else((xFl N k4 n x20 x21 x22 x34 x35 (i64.wrap (x36+1)) b1 b4)) else none) else((xD9 N k4 N x20 x21 x22 b4.frm (b4.frm.length:Int) 0 b1 b4))
def xFk(N:Nat):Nat->(List Rowd)->Int->Int->Val->Option (Bool)
 |0,_,_,_,_=>none
 |n+1,x20,x21,x22,b1=>bif(decide (x22<x21)) then(if(0:Int)<=x22/\x22<x20.length then bif(((List.length (Rowd.cells (x20.getD x22.toNat Ty.row.dflt)):Int):Int) != (b1.columns.length:Int)) then(some false) else((xFl N (fun z0 z1 z2 z3=>(xFk N n z0 z1 z2 z3)) N x20 x21 x22 (Rowd.cells (x20.getD x22.toNat Ty.row.dflt)) (List.length (Rowd.cells (x20.getD x22.toNat Ty.row.dflt)):Int) 0 b1 (x20.getD x22.toNat Ty.row.dflt))) else none) else(some true)
def xH0(N:Nat)(a0:Val):Option (Bool):=(xH8 N a0.columns).bind fun r1=>bif(!r1) then(some false) else(bif(decide ((a0.rows.length:Int)>12)) then(some false) else((xFk N N a0.rows (a0.rows.length:Int) 0 a0)))
def xFg(a0:Val):List Arg:=[.val (.v true (Va .ro a0))]
def xDv(r:Int):CallO:=⟨.v false [.int .i64 r],[],[]⟩
def xF9(N:Nat)(q0:Val->Option (Int)):Nat->Int->(List Val)->Int->Int->Option (Int)
 |0,_,_,_,_=>none
 |n+1,x3,x7,x8,x9=>bif(decide (x9<x8)) then(if(0:Int)<=x9/\x9<x7.length then(q0 (x7.getD x9.toNat Ty.val.dflt)).bind fun r1=>(xF9 N q0 n (if r1>x3 then r1 else x3) x7 x8 (i64.wrap (x9+1))) else none) else(some (i64.wrap (x3+1)))
def xIA(N:Nat)(q0:Val->Option (Int))(a0:Val):Option (Int):=(xF9 N q0 N 0 a0.list (a0.list.length:Int) 0)
def xEM(N:Nat):Nat->Val->Option (Int)
 |0,_=>none
 |d+1,a0=>xIA N (xEM N d) a0
def xIW(N:Nat)(a0:Val):Option (Int):=xEM N N a0
def xAn(a0:Val):List Arg:=[.val (.v true (Va .ro a0))]
def xAk(r:Bool):CallO:=⟨.v false [.bool r],[],[]⟩
def xBQ(N:Nat)(q0:Val->Option (Bool)):Nat->(List Val)->Int->Int->Val->Option (Bool)
 |0,_,_,_,_=>none
 |n+1,x124,x125,x126,b1=>bif(decide (x126<x125)) then(if(0:Int)<=x126/\x126<x124.length then bif(((Val.kind (x124.getD x126.toNat Ty.val.dflt)):Int) != 1) then(bif(((Val.kind (x124.getD x126.toNat Ty.val.dflt)):Int) != 2) then(bif(((Val.kind (x124.getD x126.toNat Ty.val.dflt)):Int) != 3) then(some false) else((q0 (x124.getD x126.toNat Ty.val.dflt)).bind fun r1=>bif(!r1) then(some false) else((xBQ N q0 n x124 x125 (i64.wrap (x126+1)) b1)))) else((q0 (x124.getD x126.toNat Ty.val.dflt)).bind fun r1=>bif(!r1) then(some false) else((xBQ N q0 n x124 x125 (i64.wrap (x126+1)) b1)))) else((q0 (x124.getD x126.toNat Ty.val.dflt)).bind fun r1=>bif(!r1) then(some false) else((xBQ N q0 n x124 x125 (i64.wrap (x126+1)) b1))) else none) else(bif(b1.n==0) then(bif(b1.step==0) then(bif((b1.text:Str)== []) then(bif((b1.columns.length:Int)==0) then(bif((b1.rows.length:Int)==0) then(bif(decide ((b1.list.length:Int)<=8)) then((xIW N b1).bind fun r1=>some (decide (r1<=3))) else(some false)) else(some false)) else(some false)) else(some false)) else(some false)) else(some false))
def xEh(N:Nat)(q0:Val->Option (Bool))(a0:Val):Option (Bool):=bif((a0.list.length:Int)==0) then(bif((a0.columns.length:Int)==0) then(bif(a0.kind==1) then(bif((a0.rows.length:Int)==0) then(bif(a0.step==0) then(bif((a0.text:Str)== []) then((xFP N a0.n).bind fun r1=>some r1) else(some false)) else(some false)) else(some false)) else(bif(a0.kind==2) then(bif((a0.rows.length:Int)==0) then(bif(a0.n==0) then(bif(a0.step==0) then((xHN N a0.text).bind fun r1=>some r1) else(some false)) else(some false)) else(some false)) else(bif(a0.kind==4) then(bif((a0.rows.length:Int)==0) then(bif((a0.text:Str)== []) then((xFP N a0.n).bind fun r1=>bif r1 then((xFP N a0.step).bind fun r2=>some r2) else(some false)) else(some false)) else(some false)) else(bif(a0.kind==6) then(bif((a0.rows.length:Int)==0) then(bif(a0.step==0) then(bif((a0.text:Str)== []) then((xG5 N a0.n 1 8).bind fun r1=>some r1) else(some false)) else(some false)) else(some false)) else(bif(a0.kind==5) then(bif(a0.n==0) then(bif(a0.step==0) then(bif((a0.text:Str)== []) then((xH0 N a0).bind fun r1=>some r1) else(some false)) else(some false)) else(some false)) else(bif(a0.kind==3) then((xBQ N q0 N a0.list (a0.list.length:Int) 0 a0)) else(some false))))))) else(bif(a0.kind==1) then(some false) else(bif(a0.kind==2) then(some false) else(bif(a0.kind==4) then(some false) else(bif(a0.kind==6) then(
     some false) else(bif(a0.kind==5) then(bif(a0.n==0) then(bif(a0.step==0) then(bif((a0.text:Str)== []) then((xH0 N a0).bind fun r1=>some r1) else(some false)) else(some false)) else(some false)) else(bif(a0.kind==3) then((xBQ N q0 N a0.list (a0.list.length:Int) 0 a0)) else(some false)))))))) else(bif(a0.kind==1) then(some false) else(bif(a0.kind==2) then(some false) else(bif(a0.kind==4) then(some false) else(bif(a0.kind==6) then(some false) else(bif(a0.kind==5) then(bif(a0.n==0) then(bif(a0.step==0) then(bif((a0.text:Str)== []) then(some false) else(some false)) else(some false)) else(some false)) else(bif(a0.kind==3) then((xBQ N q0 N a0.list (a0.list.length:Int) 0 a0)) else(some false)))))))
def xBR(N:Nat):Nat->Val->Option (Bool)
 |0,_=>none
 |d+1,a0=>xEh N (xBR N d) a0
def xIC(N:Nat)(a0:Val):Option (Bool):=xBR N N a0
def xEF(a0:Int):List Arg:=[.val (.v false [.int .i64 a0])]
def xBZ(r:Val):CallO:=⟨.v true (Va .own r),[],[]⟩
def xCr(N:Nat)(a0:Int):Option (Val):=some (Val.mk 6 a0 0 [] [] [] [])
def xDp(a0:List Val):List Arg:=[.val (.v false [.sl .ro .val a0])]
def xDN(r:Val×Bool×Bool):CallO:=⟨.tup [(true,[.int .i64 (Val.kind r.1),.int .i64 (Val.n r.1),.int .i64 (Val.step r.1),.str (Val.text r.1),.sl .ro .val (Val.list r.1),.sl .ro .str (Val.columns r.1),.sl .ro .row (Val.rows r.1)]),(false,[.bool r.2.1])],[],[]⟩
def xDM(r:Val×Bool×Bool):CallO:=⟨.tup [(true,[.int .i64 (Val.kind r.1),.int .i64 (Val.n r.1),.int .i64 (Val.step r.1),.str (Val.text r.1),.sl .own .val (Val.list r.1),.sl .own .str (Val.columns r.1),.sl .own .row (Val.rows r.1)]),(false,[.bool r.2.1])],[],[]⟩
def xCw(r:Val×Bool×Bool):CallO:=bif r.2.2 then xDN r else xDM r
def xC3(N:Nat):Nat->(List Val)->Int->Int->Val->Option (Val×Bool×Bool)
 |0,_,_,_,_=>none
 |n+1,x6,x7,x8,b2=>bif(decide (x8<x7)) then(if(0:Int)<=x8/\x8<x6.length then(xIC N (x6.getD x8.toNat Ty.val.dflt)).bind fun r1=>bif(!r1) then((xCr N 4).bind fun r2=>some (r2,true,false)) else(bif(((Val.kind (x6.getD x8.toNat Ty.val.dflt)):Int)==6) then(some ((x6.getD x8.toNat Ty.val.dflt),true,true)) else((xC3 N n x6 x7 (i64.wrap (x8+1)) b2))) else none) else(some ((Val.mk 0 0 0 [] [] [] []),false,false))
def xHe(N:Nat)(a0:List Val):Option (Val×Bool×Bool):=(xC3 N N a0 (a0.length:Int) 0 (Val.mk 0 0 0 [] [] [] []))
def xDL(a0:List Int)(a1:List Val):List Arg:=[.val (.v false [.sl .ro .int a0]),.val (.v false [.sl .ro .val a1])]
def xIa(r:Val×Bool×Bool):CallO:=⟨.tup [(true,[.int .i64 (Val.kind r.1),.int .i64 (Val.n r.1),.int .i64 (Val.step r.1),.str (Val.text r.1),.sl .ro .val (Val.list r.1),.sl .ro .str (Val.columns r.1),.sl .ro .row (Val.rows r.1)]),(false,[.bool r.2.1])],[],[]⟩
def xDs(r:Val×Bool×Bool):CallO:=⟨.tup [(true,[.int .i64 (Val.kind r.1),.int .i64 (Val.n r.1),.int .i64 (Val.step r.1),.str (Val.text r.1),.sl .own .val (Val.list r.1),.sl .own .str (Val.columns r.1),.sl .own .row (Val.rows r.1)]),(false,[.bool r.2.1])],[],[]⟩
def xDZ(r:Val×Bool×Bool):CallO:=⟨.tup [(true,[.int .i64 (Val.kind r.1),.int .i64 (Val.n r.1),.int .i64 (Val.step r.1),.str (Val.text r.1),.sl .ro .val [],.sl .ro .str [],.sl .ro .row []]),(false,[.bool r.2.1])],[],[]⟩
def xCz(r:Val×Bool×Bool):CallO:=bif r.2.2 then xIa r else xDs r
def xDl(N:Nat):Nat->(List Int)->(List Val)->Int->Int->Val->Option (Val×Bool×Bool)
 |0,_,_,_,_,_=>none
 |n+1,x0,x17,x18,x19,b4=>bif(decide (x19<x18)) then(if(0:Int)<=x19/\x19<x17.length then if(0:Int)<=x19/\x19<x0.length then bif(((Val.kind (x17.getD x19.toNat Ty.val.dflt)):Int) != (x0.getD x19.toNat Ty.int.dflt)) then((xCr N 4).bind fun r1=>some (r1,true,false)) else((xDl N n x0 x17 x18 (i64.wrap (x19+1)) b4)) else none else none) else(some ((Val.mk 0 0 0 [] [] [] []),false,false))
def xHD(N:Nat)(a0:List Int)(a1:List Val):Option (Val×Bool×Bool):=(xHe N a1).bind fun r1=>bif r1.2.2 then(bif r1.2.1 then(some (r1.1,true,true)) else((xDl N N a0 a1 (a1.length:Int) 0 (Val.mk 0 0 0 [] [] [] [])))) else(bif r1.2.1 then(some (r1.1,true,false)) else((xDl N N a0 a1 (a1.length:Int) 0 (Val.mk 0 0 0 [] [] [] []))))
def xGm(a0:Val)(a1:Str):List Arg:=[.val (.v true (Va .ro a0)),.val (.v false [.str a1])]
def xA3(r:Int):CallO:=⟨.v false [.int .i64 r],[],[]⟩
def xD8(N:Nat)(a0:Val)(a1:Str):Option (Int):=(xIX N a0.columns a1).bind fun r1=>some r1
def xEn(a0:List Str)(a1:List Str):List Arg:=[.val (.v false [.sl .ro .str a0]),.val (.v false [.sl .ro .str a1])]
def xCA(r:Bool):CallO:=⟨.v false [.bool r],[],[]⟩
def xE8(N:Nat):Nat->(List Str)->(List Str)->Int->Option (Bool)
 |0,_,_,_=>none
 |n+1,x0,x1,x5=>bif(decide (x5<(x0.length:Int))) then(if(0:Int)<=x5/\x5<x0.length then if(0:Int)<=x5/\x5<x1.length then bif(!(((x0.getD x5.toNat Ty.str.dflt):Str)==(x1.getD x5.toNat Ty.str.dflt))) then(some false) else((xE8 N n x0 x1 (i64.wrap (x5+1)))) else none else none) else(some true)
def xHG(N:Nat)(a0:List Str)(a1:List Str):Option (Bool):=bif((a0.length:Int) != (a1.length:Int)) then(some false) else((xE8 N N a0 a1 0))
def xF1(a0:List Int)(a1:List Int):List Arg:=[.val (.v false [.sl .ro .int a0]),.val (.v false [.sl .ro .int a1])]
def xDi(r:Bool):CallO:=⟨.v false [.bool r],[],[]⟩
def xGL(N:Nat):Nat->(List Int)->(List Int)->Int->Option (Bool)
 |0,_,_,_=>none
 |n+1,x0,x1,x5=>bif(decide (x5<(x0.length:Int))) then(if(0:Int)<=x5/\x5<x0.length then if(0:Int)<=x5/\x5<x1.length then bif((x0.getD x5.toNat Ty.int.dflt) != (x1.getD x5.toNat Ty.int.dflt)) then(some false) else((xGL N n x0 x1 (i64.wrap (x5+1)))) else none else none) else(some true)
def xJB(N:Nat)(a0:List Int)(a1:List Int):Option (Bool):=bif((a0.length:Int) != (a1.length:Int)) then(some false) else((xGL N N a0 a1 0))
def xEN(a0:Org)(a1:Org):List Arg:=[.val (.v true [.int .i64 a0.cell,.int .i64 a0.row]),.val (.v true [.int .i64 a1.cell,.int .i64 a1.row])]
def xDB(r:Bool):CallO:=⟨.v false [.bool r],[],[]⟩
def xIb(N:Nat)(a0:Org)(a1:Org):Option (Bool):=bif(a0.cell != a1.cell) then(some false) else(bif(a0.row != a1.row) then(some false) else(some true))
def xE6(a0:List Org)(a1:List Org):List Arg:=[.val (.v false [.sl .ro .org a0]),.val (.v false [.sl .ro .org a1])]
def xC2(r:Bool):CallO:=⟨.v false [.bool r],[],[]⟩
def xE7(N:Nat):Nat->(List Org)->(List Org)->Int->Option (Bool)
 |0,_,_,_=>none
 |n+1,x0,x1,x5=>bif(decide (x5<(x0.length:Int))) then(if(0:Int)<=x5/\x5<x0.length then if(0:Int)<=x5/\x5<x1.length then(xIb N (x0.getD x5.toNat Ty.org.dflt) (x1.getD x5.toNat Ty.org.dflt)).bind fun r1=>bif(!r1) then(some false) else((xE7 N n x0 x1 (i64.wrap (x5+1)))) else none else none) else(some true)
def xHF(N:Nat)(a0:List Org)(a1:List Org):Option (Bool):=bif((a0.length:Int) != (a1.length:Int)) then(some false) else((xE7 N N a0 a1 0))
def xGo(a0:Rowd)(a1:Rowd):List Arg:=[.val (.v true [.sl .ro .int a0.cells,.sl .ro .org a0.frm]),.val (.v true [.sl .ro .int a1.cells,.sl .ro .org a1.frm])]
def xEV(r:Bool):CallO:=⟨.v false [.bool r],[],[]⟩
def xKG(N:Nat)(a0:Rowd)(a1:Rowd):Option (Bool):=(xJB N a0.cells a1.cells).bind fun r1=>bif(!r1) then(some false) else((xHF N a0.frm a1.frm).bind fun r2=>bif(!r2) then(some false) else(some true))
def xGM(a0:List Rowd)(a1:List Rowd):List Arg:=[.val (.v false [.sl .ro .row a0]),.val (.v false [.sl .ro .row a1])]
def xDT(r:Bool):CallO:=⟨.v false [.bool r],[],[]⟩
def xGN(N:Nat):Nat->(List Rowd)->(List Rowd)->Int->Option (Bool)
 |0,_,_,_=>none
 |n+1,x0,x1,x5=>bif(decide (x5<(x0.length:Int))) then(if(0:Int)<=x5/\x5<x0.length then if(0:Int)<=x5/\x5<x1.length then(xKG N (x0.getD x5.toNat Ty.row.dflt) (x1.getD x5.toNat Ty.row.dflt)).bind fun r1=>bif(!r1) then(some false) else((xGN N n x0 x1 (i64.wrap (x5+1)))) else none else none) else(some true)
def xJC(N:Nat)(a0:List Rowd)(a1:List Rowd):Option (Bool):=bif((a0.length:Int) != (a1.length:Int)) then(some false) else((xGN N N a0 a1 0))
def xB2(a0:Val)(a1:Val):List Arg:=[.val (.v true (Va .ro a0)),.val (.v true (Va .ro a1))]
def xAc(r:Bool):CallO:=⟨.v false [.bool r],[],[]⟩
def xGb(N:Nat)(q0:Val->Val->Option (Bool))(q1:(List Val)->(List Val)->Option (Bool))(a0:Val)(a1:Val):Option (Bool):=bif(a0.kind != a1.kind) then(some false) else(bif(a0.n != a1.n) then(some false) else(bif(a0.step != a1.step) then(some false) else(bif(!((a0.text:Str)==a1.text)) then(some false) else((q1 a0.list a1.list).bind fun r1=>bif(!r1) then(some false) else((xHG N a0.columns a1.columns).bind fun r2=>bif(!r2) then(some false) else((xJC N a0.rows a1.rows).bind fun r3=>bif(!r3) then(some false) else(some true)))))))
def xDC(a0:List Val)(a1:List Val):List Arg:=[.val (.v false [.sl .ro .val a0]),.val (.v false [.sl .ro .val a1])]
def xB9(r:Bool):CallO:=⟨.v false [.bool r],[],[]⟩
def xFE(N:Nat)(q0:Val->Val->Option (Bool))(q1:(List Val)->(List Val)->Option (Bool)):Nat->(List Val)->(List Val)->Int->Option (Bool)
 |0,_,_,_=>none
 |n+1,x0,x1,x5=>bif(decide (x5<(x0.length:Int))) then(if(0:Int)<=x5/\x5<x0.length then if(0:Int)<=x5/\x5<x1.length then(q0 (x0.getD x5.toNat Ty.val.dflt) (x1.getD x5.toNat Ty.val.dflt)).bind fun r1=>bif(!r1) then(some false) else((xFE N q0 q1 n x0 x1 (i64.wrap (x5+1)))) else none else none) else(some true)
def xFS(N:Nat)(q0:Val->Val->Option (Bool))(q1:(List Val)->(List Val)->Option (Bool))(a0:List Val)(a1:List Val):Option (Bool):=bif((a0.length:Int) != (a1.length:Int)) then(some false) else((xFE N q0 q1 N a0 a1 0))
structure laws_eqValue_rec where
 c_laws_eqValue:Val->Val->Option (Bool)
 c_laws_eqValueS:(List Val)->(List Val)->Option (Bool)
def xB1(N:Nat):Nat->laws_eqValue_rec
 |0=>⟨fun _ _=>none,fun _ _=>none⟩
 |d+1=>⟨xGb N (xB1 N d).c_laws_eqValue (xB1 N d).c_laws_eqValueS,xFS N (xB1 N d).c_laws_eqValue (xB1 N d).c_laws_eqValueS⟩
def xC5(N:Nat)(a0:Val)(a1:Val):Option (Bool):=(xB1 N N).c_laws_eqValue a0 a1
def xEb(a0:Int):List Arg:=[.val (.v false [.int .i64 a0])]
def xBG(r:Str):CallO:=⟨.v false [.str r],[],[]⟩
def xFL(N:Nat):Nat->Int->Str->Option (Str)
 |0,_,_=>none
 |n+1,x0,x3=>bif(decide (x0>0)) then(if List.length (List.map (fun n=>UInt8.ofNat (Int.toNat n)) [(IntKind.u8.wrap ((i64.wrap (48+(Int.tmod x0 10)))))])+x3.length<=Lim then(xFL N n (i64.wrap (Int.tdiv x0 10)) ((List.map (fun n=>UInt8.ofNat (Int.toNat n)) [(IntKind.u8.wrap ((i64.wrap (48+(Int.tmod x0 10)))))])++x3)) else none) else(if [109].length+x3.length<=Lim then some ([109]++x3) else none)
def xEW(N:Nat)(a0:Int):Option (Str):=bif(decide (a0<=0)) then(some [109,48]) else((xFL N N a0 []))
def xFT(a0:List Str)(a1:Int):List Arg:=[.val (.v false [.sl .ro .str []]),.val (.v false [.int .i64 a1])]
def xDP(r:Int):CallO:=⟨.v false [.int .i64 r],[],[]⟩
def xG6(N:Nat):Nat->Int->Int->Option (Int)
 |0,_,_=>none
 |n+1,x1,x5=>bif(decide (x5<(0:Int))) then((xEW N x1).bind fun r1=>if(0:Int)<=x5/\x5<(0) then none else none) else(some x1)
def xGW(N:Nat)(a0:List Str)(a1:Int):Option (Int):=(xG6 N N a1 0)
def xFo(a0:List Str)(a1:Int):List Arg:=[.val (.v false [.sl (.lnt 0) .str a0]),.val (.v false [.int .i64 a1])]
def xDa(r:Int×(List Str)):CallO:=⟨.v false [.int .i64 r.1],[],[.sl (.lnt 0) .str r.2]⟩
def xEt(N:Nat):Nat->(List Str)->Int->Int->Option (Int×(List Str))
 |0,_,_,_=>none
 |n+1,x0,x1,x5=>bif(decide (x5<(x0.length:Int))) then((xEW N x1).bind fun r1=>if(0:Int)<=x5/\x5<x0.length then(xEt N n (x0.set x5.toNat r1) (i64.wrap (x1+1)) (i64.wrap (x5+1))) else none) else(some (x1,x0))
def xGB(N:Nat)(a0:List Str)(a1:Int):Option (Int×(List Str)):=(xEt N N a0 a1 0)
def xHQ(a0:List Int)(a1:Int):List Arg:=[.val (.v false [.sl (.lnt 0) .int a0]),.val (.v false [.int .i64 a1])]
def xFJ(r:Int×(List Int)):CallO:=⟨.v false [.int .i64 r.1],[],[.sl (.lnt 0) .int r.2]⟩
def xFI(N:Nat):Nat->(List Int)->Int->Int->Option (Int×(List Int))
 |0,_,_,_=>none
 |n+1,x0,x1,x5=>bif(decide (x5<(x0.length:Int))) then(if(0:Int)<=x5/\x5<x0.length then(xFI N n (x0.set x5.toNat x1) (i64.wrap (x1+1)) (i64.wrap (x5+1))) else none) else(some (x1,x0))
def xJh(N:Nat)(a0:List Int)(a1:Int):Option (Int×(List Int)):=(xFI N N a0 a1 0)
def xGV(a0:List Rowd)(a1:Int):List Arg:=[.val (.v false [.sl .ro .row []]),.val (.v false [.int .i64 a1])]
def xEI(r:Int):CallO:=⟨.v false [.int .i64 r],[],[]⟩
def xIf(N:Nat):Nat->Int->Int->Option (Int)
 |0,_,_=>none
 |n+1,x1,x5=>bif(decide (x5<(0:Int))) then(if(0:Int)<=x5/\x5<(0) then none else none) else(some x1)
def xIe(N:Nat)(a0:List Rowd)(a1:Int):Option (Int):=(xIf N N a1 0)
def xGq(a0:Val)(a1:Int):List Arg:=[.val (.v true [.int .i64 a0.kind,.int .i64 a0.n,.int .i64 a0.step,.str a0.text,.sl .ro .val [],.sl .ro .str [],.sl .ro .row []]),.val (.v false [.int .i64 a1])]
def xBL(r:Int):CallO:=⟨.v false [.int .i64 r],[],[]⟩
def xGC(N:Nat)(a0:Val)(a1:Int):Option (Int):=(xHg N [] a1).bind fun r1=>(xGW N [] r1).bind fun r2=>(xIe N [] r2).bind fun r3=>some r3
def xGp(a0:List Org)(a1:Int):List Arg:=[.val (.v false [.sl (.lnt 0) .org a0]),.val (.v false [.int .i64 a1])]
def xEs(r:Int×(List Org)):CallO:=⟨.v false [.int .i64 r.1],[],[.sl (.lnt 0) .org r.2]⟩
def xEr(N:Nat):Nat->(List Org)->Int->Int->Option (Int×(List Org))
 |0,_,_,_=>none
 |n+1,x0,x1,x5=>bif(decide (x5<(x0.length:Int))) then(if(0:Int)<=x5/\x5<x0.length then if(0:Int)<=x5/\x5<(List.length (x0.set x5.toNat (Org.mk x1 (Org.row (x0.getD x5.toNat Ty.org.dflt))))) then(xEr N n ((fun(z1:List Org)=>z1.set x5.toNat (Org.mk (Org.cell (z1.getD x5.toNat Ty.org.dflt)) (i64.wrap (x1+1)))) (x0.set x5.toNat (Org.mk x1 (Org.row (x0.getD x5.toNat Ty.org.dflt))))) (i64.wrap ((i64.wrap (x1+1))+1)) (i64.wrap (x5+1))) else none else none) else(some (x1,x0))
def xHR(N:Nat)(a0:List Org)(a1:Int):Option (Int×(List Org)):=(xEr N N a0 a1 0)
def xGA(a0:List Rowd)(a1:Int):List Arg:=[.val (.v false [.sl (.lnt 0) .row a0]),.val (.v false [.int .i64 a1])]
def xEa(r:Int×(List Rowd)):CallO:=⟨.v false [.int .i64 r.1],[],[.sl (.lnt 0) .row r.2]⟩
def xFK(N:Nat):Nat->(List Rowd)->Int->Int->Option (Int×(List Rowd))
 |0,_,_,_=>none
 |n+1,x0,x1,x5=>bif(decide (x5<(x0.length:Int))) then(if(0:Int)<=x5/\x5<x0.length then(xJh N (Rowd.cells (x0.getD x5.toNat Ty.row.dflt)) x1).bind fun r1=>if r1.2.length=List.length (Rowd.cells (x0.getD x5.toNat Ty.row.dflt)) then if(0:Int)<=x5/\x5<(List.length (x0.set x5.toNat (Rowd.mk r1.2 (Rowd.frm (x0.getD x5.toNat Ty.row.dflt))))) then(xHR N (Rowd.frm (List.getD (x0.set x5.toNat (Rowd.mk r1.2 (Rowd.frm (x0.getD x5.toNat Ty.row.dflt)))) x5.toNat Ty.row.dflt)) r1.1).bind fun r2=>if r2.2.length=List.length (Rowd.frm (List.getD (x0.set x5.toNat (Rowd.mk r1.2 (Rowd.frm (x0.getD x5.toNat Ty.row.dflt)))) x5.toNat Ty.row.dflt)) then(xFK N n ((fun(z1:List Rowd)=>z1.set x5.toNat (Rowd.mk (Rowd.cells (z1.getD x5.toNat Ty.row.dflt)) r2.2)) (x0.set x5.toNat (Rowd.mk r1.2 (Rowd.frm (x0.getD x5.toNat Ty.row.dflt))))) r2.1 (i64.wrap (x5+1))) else none else none else none else none) else(some (x1,x0))
def xId(N:Nat)(a0:List Rowd)(a1:Int):Option (Int×(List Rowd)):=(xFK N N a0 a1 0)
def xD1(a0:List Val)(a1:Int):List Arg:=[.val (.v false [.sl (.lnt 0) .val a0]),.val (.v false [.int .i64 a1])]
def xCQ(r:Int×(List Val)):CallO:=⟨.v false [.int .i64 r.1],[],[.sl (.lnt 0) .val r.2]⟩
def xEJ(N:Nat)(q0:(List Val)->Int->Option (Int×(List Val))):Nat->(List Val)->Int->Int->Option (Int×(List Val))
 |0,_,_,_=>none
 |n+1,x0,x1,x5=>bif(decide (x5<(x0.length:Int))) then(if(0:Int)<=x5/\x5<x0.length then if(0:Int)<=x5/\x5<(List.length (x0.set x5.toNat (Val.mk x1 (Val.n (x0.getD x5.toNat Ty.val.dflt)) (Val.step (x0.getD x5.toNat Ty.val.dflt)) (Val.text (x0.getD x5.toNat Ty.val.dflt)) (Val.list (x0.getD x5.toNat Ty.val.dflt)) (Val.columns (x0.getD x5.toNat Ty.val.dflt)) (Val.rows (x0.getD x5.toNat Ty.val.dflt))))) then if(0:Int)<=x5/\x5<(List.length ((fun(z40:List Val)=>z40.set x5.toNat (Val.mk (Val.kind (z40.getD x5.toNat Ty.val.dflt)) (i64.wrap (x1+1)) (Val.step (z40.getD x5.toNat Ty.val.dflt)) (Val.text (z40.getD x5.toNat Ty.val.dflt)) (Val.list (z40.getD x5.toNat Ty.val.dflt)) (Val.columns (z40.getD x5.toNat Ty.val.dflt)) (Val.rows (z40.getD x5.toNat Ty.val.dflt)))) (x0.set x5.toNat (Val.mk x1 (Val.n (x0.getD x5.toNat Ty.val.dflt)) (Val.step (x0.getD x5.toNat Ty.val.dflt)) (Val.text (x0.getD x5.toNat Ty.val.dflt)) (Val.list (x0.getD x5.toNat Ty.val.dflt)) (Val.columns (x0.getD x5.toNat Ty.val.dflt)) (Val.rows (x0.getD x5.toNat Ty.val.dflt)))))) then(xEW N (i64.wrap ((i64.wrap ((i64.wrap (x1+1))+1))+1))).bind fun r1=>if(0:Int)<=x5/\x5<(List.length ((fun(z41:List Val)=>z41.set x5.toNat (Val.mk (Val.kind (z41.getD x5.toNat Ty.val.dflt)) (Val.n (z41.getD x5.toNat Ty.val.dflt)) (i64.wrap ((i64.wrap (x1+1))+1)) (Val.text (z41.getD x5.toNat Ty.val.dflt)) (Val.list (z41.getD x5.toNat Ty.val.dflt)) (Val.columns (z41.getD x5.toNat Ty.val.dflt)) (Val.rows (z41.getD x5.toNat Ty.val.dflt)))) ((fun(z40:List Val)=>z40.set x5.toNat (Val.mk (Val.kind (z40.getD x5.toNat Ty.val.dflt)) (i64.wrap (x1+1)) (Val.step (z40.getD x5.toNat Ty.val.dflt)) (Val.text (z40.getD x5.toNat Ty.val.dflt)) (Val.list (z40.getD x5.toNat Ty.val.dflt)) (Val.columns (z40.getD x5.toNat Ty.val.dflt)) (Val.rows (z40.getD x5.toNat Ty.val.dflt)))) (x0.set x5.toNat (Val.mk x1 (Val.n (x0.getD x5.toNat Ty.val.dflt)) (Val.step (x0.getD x5.toNat Ty.val.dflt)) (Val.text (x0.getD x5.toNat Ty.val.dflt)) (Val.list (x0.getD x5.toNat Ty.val.dflt)) (Val.columns (x0.getD x5.toNat Ty.val.dflt)) (Val.rows (x0.getD x5.toNat Ty.val.dflt))))))) then
   if(0:Int)<=x5/\x5<(List.length ((fun(z42:List Val)=>z42.set x5.toNat (Val.mk (Val.kind (z42.getD x5.toNat Ty.val.dflt)) (Val.n (z42.getD x5.toNat Ty.val.dflt)) (Val.step (z42.getD x5.toNat Ty.val.dflt)) r1 (Val.list (z42.getD x5.toNat Ty.val.dflt)) (Val.columns (z42.getD x5.toNat Ty.val.dflt)) (Val.rows (z42.getD x5.toNat Ty.val.dflt)))) ((fun(z41:List Val)=>z41.set x5.toNat (Val.mk (Val.kind (z41.getD x5.toNat Ty.val.dflt)) (Val.n (z41.getD x5.toNat Ty.val.dflt)) (i64.wrap ((i64.wrap (x1+1))+1)) (Val.text (z41.getD x5.toNat Ty.val.dflt)) (Val.list (z41.getD x5.toNat Ty.val.dflt)) (Val.columns (z41.getD x5.toNat Ty.val.dflt)) (Val.rows (z41.getD x5.toNat Ty.val.dflt)))) ((fun(z40:List Val)=>z40.set x5.toNat (Val.mk (Val.kind (z40.getD x5.toNat Ty.val.dflt)) (i64.wrap (x1+1)) (Val.step (z40.getD x5.toNat Ty.val.dflt)) (Val.text (z40.getD x5.toNat Ty.val.dflt)) (Val.list (z40.getD x5.toNat Ty.val.dflt)) (Val.columns (z40.getD x5.toNat Ty.val.dflt)) (Val.rows (z40.getD x5.toNat Ty.val.dflt)))) (x0.set x5.toNat (Val.mk x1 (Val.n (x0.getD x5.toNat Ty.val.dflt)) (Val.step (x0.getD x5.toNat Ty.val.dflt)) (Val.text (x0.getD x5.toNat Ty.val.dflt)) (Val.list (x0.getD x5.toNat Ty.val.dflt)) (Val.columns (x0.getD x5.toNat Ty.val.dflt)) (Val.rows (x0.getD x5.toNat Ty.val.dflt)))))))) then(q0 (Val.list (List.getD ((fun(z42:List Val)=>z42.set x5.toNat (Val.mk (Val.kind (z42.getD x5.toNat Ty.val.dflt)) (Val.n (z42.getD x5.toNat Ty.val.dflt)) (Val.step (z42.getD x5.toNat Ty.val.dflt)) r1 (Val.list (z42.getD x5.toNat Ty.val.dflt)) (Val.columns (z42.getD x5.toNat Ty.val.dflt)) (Val.rows (z42.getD x5.toNat Ty.val.dflt)))) ((fun(z41:List Val)=>z41.set x5.toNat (Val.mk (Val.kind (z41.getD x5.toNat Ty.val.dflt)) (Val.n (z41.getD x5.toNat Ty.val.dflt)) (i64.wrap ((i64.wrap (x1+1))+1)) (Val.text (z41.getD x5.toNat Ty.val.dflt)) (Val.list (z41.getD x5.toNat Ty.val.dflt)) (Val.columns (z41.getD x5.toNat Ty.val.dflt)) (Val.rows (z41.getD x5.toNat Ty.val.dflt)))) ((fun(z40:List Val)=>z40.set x5.toNat (Val.mk (Val.kind (z40.getD x5.toNat Ty.val.dflt)) (i64.wrap (x1+1)) (Val.step (z40.getD x5.toNat Ty.val.dflt)) (Val.text (z40.getD x5.toNat Ty.val.dflt)) (Val.list (z40.getD x5.toNat Ty.val.dflt)) (Val.columns (z40.getD x5.toNat Ty.val.dflt)) (Val.rows (z40.getD x5.toNat Ty.val.dflt)))) (x0.set x5.toNat (Val.mk x1 (Val.n (x0.getD x5.toNat Ty.val.dflt)) (Val.step (x0.getD x5.toNat Ty.val.dflt)) (Val.text (x0.getD x5.toNat Ty.val.dflt)) (Val.list (x0.getD x5.toNat Ty.val.dflt)) (Val.columns (x0.getD x5.toNat Ty.val.dflt)) (Val.rows (x0.getD x5.toNat Ty.val.dflt))))))) x5.toNat Ty.val.dflt)) (i64.wrap ((i64.wrap ((i64.wrap ((i64.wrap (x1+1))+1))+1))+1))).bind fun r2=>
   if r2.2.length=List.length (Val.list (List.getD ((fun(z42:List Val)=>z42.set x5.toNat (Val.mk (Val.kind (z42.getD x5.toNat Ty.val.dflt)) (Val.n (z42.getD x5.toNat Ty.val.dflt)) (Val.step (z42.getD x5.toNat Ty.val.dflt)) r1 (Val.list (z42.getD x5.toNat Ty.val.dflt)) (Val.columns (z42.getD x5.toNat Ty.val.dflt)) (Val.rows (z42.getD x5.toNat Ty.val.dflt)))) ((fun(z41:List Val)=>z41.set x5.toNat (Val.mk (Val.kind (z41.getD x5.toNat Ty.val.dflt)) (Val.n (z41.getD x5.toNat Ty.val.dflt)) (i64.wrap ((i64.wrap (x1+1))+1)) (Val.text (z41.getD x5.toNat Ty.val.dflt)) (Val.list (z41.getD x5.toNat Ty.val.dflt)) (Val.columns (z41.getD x5.toNat Ty.val.dflt)) (Val.rows (z41.getD x5.toNat Ty.val.dflt)))) ((fun(z40:List Val)=>z40.set x5.toNat (Val.mk (Val.kind (z40.getD x5.toNat Ty.val.dflt)) (i64.wrap (x1+1)) (Val.step (z40.getD x5.toNat Ty.val.dflt)) (Val.text (z40.getD x5.toNat Ty.val.dflt)) (Val.list (z40.getD x5.toNat Ty.val.dflt)) (Val.columns (z40.getD x5.toNat Ty.val.dflt)) (Val.rows (z40.getD x5.toNat Ty.val.dflt)))) (x0.set x5.toNat (Val.mk x1 (Val.n (x0.getD x5.toNat Ty.val.dflt)) (Val.step (x0.getD x5.toNat Ty.val.dflt)) (Val.text (x0.getD x5.toNat Ty.val.dflt)) (Val.list (x0.getD x5.toNat Ty.val.dflt)) (Val.columns (x0.getD x5.toNat Ty.val.dflt)) (Val.rows (x0.getD x5.toNat Ty.val.dflt))))))) x5.toNat Ty.val.dflt)) then if(0:Int)<=x5/\x5<(List.length ((fun(z43:List Val)=>z43.set x5.toNat (Val.mk (Val.kind (z43.getD x5.toNat Ty.val.dflt)) (Val.n (z43.getD x5.toNat Ty.val.dflt)) (Val.step (z43.getD x5.toNat Ty.val.dflt)) (Val.text (z43.getD x5.toNat Ty.val.dflt)) r2.2 (Val.columns (z43.getD x5.toNat Ty.val.dflt)) (Val.rows (z43.getD x5.toNat Ty.val.dflt)))) ((fun(z42:List Val)=>z42.set x5.toNat (Val.mk (Val.kind (z42.getD x5.toNat Ty.val.dflt)) (Val.n (z42.getD x5.toNat Ty.val.dflt)) (Val.step (z42.getD x5.toNat Ty.val.dflt)) r1 (Val.list (z42.getD x5.toNat Ty.val.dflt)) (Val.columns (z42.getD x5.toNat Ty.val.dflt)) (Val.rows (z42.getD x5.toNat Ty.val.dflt)))) ((fun(z41:List Val)=>z41.set x5.toNat (Val.mk (Val.kind (z41.getD x5.toNat Ty.val.dflt)) (Val.n (z41.getD x5.toNat Ty.val.dflt)) (i64.wrap ((i64.wrap (x1+1))+1)) (Val.text (z41.getD x5.toNat Ty.val.dflt)) (Val.list (z41.getD x5.toNat Ty.val.dflt)) (Val.columns (z41.getD x5.toNat Ty.val.dflt)) (Val.rows (z41.getD x5.toNat Ty.val.dflt)))) ((fun(z40:List Val)=>z40.set x5.toNat (Val.mk (Val.kind (z40.getD x5.toNat Ty.val.dflt)) (i64.wrap (x1+1)) (Val.step (z40.getD x5.toNat Ty.val.dflt)) (Val.text (z40.getD x5.toNat Ty.val.dflt)) (Val.list (z40.getD x5.toNat Ty.val.dflt)) (Val.columns (z40.getD x5.toNat Ty.val.dflt)) (Val.rows (z40.getD x5.toNat Ty.val.dflt)))) (x0.set x5.toNat (Val.mk x1 (Val.n (x0.getD x5.toNat Ty.val.dflt)) (Val.step (x0.getD x5.toNat Ty.val.dflt)) (Val.text (x0.getD x5.toNat Ty.val.dflt)) (Val.list (x0.getD x5.toNat Ty.val.dflt)) (Val.columns (x0.getD x5.toNat Ty.val.dflt)) (Val.rows (x0.getD x5.toNat Ty.val.dflt))))))))) then
   (xGB N (Val.columns (List.getD ((fun(z43:List Val)=>z43.set x5.toNat (Val.mk (Val.kind (z43.getD x5.toNat Ty.val.dflt)) (Val.n (z43.getD x5.toNat Ty.val.dflt)) (Val.step (z43.getD x5.toNat Ty.val.dflt)) (Val.text (z43.getD x5.toNat Ty.val.dflt)) r2.2 (Val.columns (z43.getD x5.toNat Ty.val.dflt)) (Val.rows (z43.getD x5.toNat Ty.val.dflt)))) ((fun(z42:List Val)=>z42.set x5.toNat (Val.mk (Val.kind (z42.getD x5.toNat Ty.val.dflt)) (Val.n (z42.getD x5.toNat Ty.val.dflt)) (Val.step (z42.getD x5.toNat Ty.val.dflt)) r1 (Val.list (z42.getD x5.toNat Ty.val.dflt)) (Val.columns (z42.getD x5.toNat Ty.val.dflt)) (Val.rows (z42.getD x5.toNat Ty.val.dflt)))) ((fun(z41:List Val)=>z41.set x5.toNat (Val.mk (Val.kind (z41.getD x5.toNat Ty.val.dflt)) (Val.n (z41.getD x5.toNat Ty.val.dflt)) (i64.wrap ((i64.wrap (x1+1))+1)) (Val.text (z41.getD x5.toNat Ty.val.dflt)) (Val.list (z41.getD x5.toNat Ty.val.dflt)) (Val.columns (z41.getD x5.toNat Ty.val.dflt)) (Val.rows (z41.getD x5.toNat Ty.val.dflt)))) ((fun(z40:List Val)=>z40.set x5.toNat (Val.mk (Val.kind (z40.getD x5.toNat Ty.val.dflt)) (i64.wrap (x1+1)) (Val.step (z40.getD x5.toNat Ty.val.dflt)) (Val.text (z40.getD x5.toNat Ty.val.dflt)) (Val.list (z40.getD x5.toNat Ty.val.dflt)) (Val.columns (z40.getD x5.toNat Ty.val.dflt)) (Val.rows (z40.getD x5.toNat Ty.val.dflt)))) (x0.set x5.toNat (Val.mk x1 (Val.n (x0.getD x5.toNat Ty.val.dflt)) (Val.step (x0.getD x5.toNat Ty.val.dflt)) (Val.text (x0.getD x5.toNat Ty.val.dflt)) (Val.list (x0.getD x5.toNat Ty.val.dflt)) (Val.columns (x0.getD x5.toNat Ty.val.dflt)) (Val.rows (x0.getD x5.toNat Ty.val.dflt)))))))) x5.toNat Ty.val.dflt)) r2.1).bind fun r3=>
   if r3.2.length=List.length (Val.columns (List.getD ((fun(z43:List Val)=>z43.set x5.toNat (Val.mk (Val.kind (z43.getD x5.toNat Ty.val.dflt)) (Val.n (z43.getD x5.toNat Ty.val.dflt)) (Val.step (z43.getD x5.toNat Ty.val.dflt)) (Val.text (z43.getD x5.toNat Ty.val.dflt)) r2.2 (Val.columns (z43.getD x5.toNat Ty.val.dflt)) (Val.rows (z43.getD x5.toNat Ty.val.dflt)))) ((fun(z42:List Val)=>z42.set x5.toNat (Val.mk (Val.kind (z42.getD x5.toNat Ty.val.dflt)) (Val.n (z42.getD x5.toNat Ty.val.dflt)) (Val.step (z42.getD x5.toNat Ty.val.dflt)) r1 (Val.list (z42.getD x5.toNat Ty.val.dflt)) (Val.columns (z42.getD x5.toNat Ty.val.dflt)) (Val.rows (z42.getD x5.toNat Ty.val.dflt)))) ((fun(z41:List Val)=>z41.set x5.toNat (Val.mk (Val.kind (z41.getD x5.toNat Ty.val.dflt)) (Val.n (z41.getD x5.toNat Ty.val.dflt)) (i64.wrap ((i64.wrap (x1+1))+1)) (Val.text (z41.getD x5.toNat Ty.val.dflt)) (Val.list (z41.getD x5.toNat Ty.val.dflt)) (Val.columns (z41.getD x5.toNat Ty.val.dflt)) (Val.rows (z41.getD x5.toNat Ty.val.dflt)))) ((fun(z40:List Val)=>z40.set x5.toNat (Val.mk (Val.kind (z40.getD x5.toNat Ty.val.dflt)) (i64.wrap (x1+1)) (Val.step (z40.getD x5.toNat Ty.val.dflt)) (Val.text (z40.getD x5.toNat Ty.val.dflt)) (Val.list (z40.getD x5.toNat Ty.val.dflt)) (Val.columns (z40.getD x5.toNat Ty.val.dflt)) (Val.rows (z40.getD x5.toNat Ty.val.dflt)))) (x0.set x5.toNat (Val.mk x1 (Val.n (x0.getD x5.toNat Ty.val.dflt)) (Val.step (x0.getD x5.toNat Ty.val.dflt)) (Val.text (x0.getD x5.toNat Ty.val.dflt)) (Val.list (x0.getD x5.toNat Ty.val.dflt)) (Val.columns (x0.getD x5.toNat Ty.val.dflt)) (Val.rows (x0.getD x5.toNat Ty.val.dflt)))))))) x5.toNat Ty.val.dflt)) then
   if(0:Int)<=x5/\x5<(List.length ((fun(z44:List Val)=>z44.set x5.toNat (Val.mk (Val.kind (z44.getD x5.toNat Ty.val.dflt)) (Val.n (z44.getD x5.toNat Ty.val.dflt)) (Val.step (z44.getD x5.toNat Ty.val.dflt)) (Val.text (z44.getD x5.toNat Ty.val.dflt)) (Val.list (z44.getD x5.toNat Ty.val.dflt)) r3.2 (Val.rows (z44.getD x5.toNat Ty.val.dflt)))) ((fun(z43:List Val)=>z43.set x5.toNat (Val.mk (Val.kind (z43.getD x5.toNat Ty.val.dflt)) (Val.n (z43.getD x5.toNat Ty.val.dflt)) (Val.step (z43.getD x5.toNat Ty.val.dflt)) (Val.text (z43.getD x5.toNat Ty.val.dflt)) r2.2 (Val.columns (z43.getD x5.toNat Ty.val.dflt)) (Val.rows (z43.getD x5.toNat Ty.val.dflt)))) ((fun(z42:List Val)=>z42.set x5.toNat (Val.mk (Val.kind (z42.getD x5.toNat Ty.val.dflt)) (Val.n (z42.getD x5.toNat Ty.val.dflt)) (Val.step (z42.getD x5.toNat Ty.val.dflt)) r1 (Val.list (z42.getD x5.toNat Ty.val.dflt)) (Val.columns (z42.getD x5.toNat Ty.val.dflt)) (Val.rows (z42.getD x5.toNat Ty.val.dflt)))) ((fun(z41:List Val)=>z41.set x5.toNat (Val.mk (Val.kind (z41.getD x5.toNat Ty.val.dflt)) (Val.n (z41.getD x5.toNat Ty.val.dflt)) (i64.wrap ((i64.wrap (x1+1))+1)) (Val.text (z41.getD x5.toNat Ty.val.dflt)) (Val.list (z41.getD x5.toNat Ty.val.dflt)) (Val.columns (z41.getD x5.toNat Ty.val.dflt)) (Val.rows (z41.getD x5.toNat Ty.val.dflt)))) ((fun(z40:List Val)=>z40.set x5.toNat (Val.mk (Val.kind (z40.getD x5.toNat Ty.val.dflt)) (i64.wrap (x1+1)) (Val.step (z40.getD x5.toNat Ty.val.dflt)) (Val.text (z40.getD x5.toNat Ty.val.dflt)) (Val.list (z40.getD x5.toNat Ty.val.dflt)) (Val.columns (z40.getD x5.toNat Ty.val.dflt)) (Val.rows (z40.getD x5.toNat Ty.val.dflt)))) (x0.set x5.toNat (Val.mk x1 (Val.n (x0.getD x5.toNat Ty.val.dflt)) (Val.step (x0.getD x5.toNat Ty.val.dflt)) (Val.text (x0.getD x5.toNat Ty.val.dflt)) (Val.list (x0.getD x5.toNat Ty.val.dflt)) (Val.columns (x0.getD x5.toNat Ty.val.dflt)) (Val.rows (x0.getD x5.toNat Ty.val.dflt)))))))))) then
   (xId N (Val.rows (List.getD ((fun(z44:List Val)=>z44.set x5.toNat (Val.mk (Val.kind (z44.getD x5.toNat Ty.val.dflt)) (Val.n (z44.getD x5.toNat Ty.val.dflt)) (Val.step (z44.getD x5.toNat Ty.val.dflt)) (Val.text (z44.getD x5.toNat Ty.val.dflt)) (Val.list (z44.getD x5.toNat Ty.val.dflt)) r3.2 (Val.rows (z44.getD x5.toNat Ty.val.dflt)))) ((fun(z43:List Val)=>z43.set x5.toNat (Val.mk (Val.kind (z43.getD x5.toNat Ty.val.dflt)) (Val.n (z43.getD x5.toNat Ty.val.dflt)) (Val.step (z43.getD x5.toNat Ty.val.dflt)) (Val.text (z43.getD x5.toNat Ty.val.dflt)) r2.2 (Val.columns (z43.getD x5.toNat Ty.val.dflt)) (Val.rows (z43.getD x5.toNat Ty.val.dflt)))) ((fun(z42:List Val)=>z42.set x5.toNat (Val.mk (Val.kind (z42.getD x5.toNat Ty.val.dflt)) (Val.n (z42.getD x5.toNat Ty.val.dflt)) (Val.step (z42.getD x5.toNat Ty.val.dflt)) r1 (Val.list (z42.getD x5.toNat Ty.val.dflt)) (Val.columns (z42.getD x5.toNat Ty.val.dflt)) (Val.rows (z42.getD x5.toNat Ty.val.dflt)))) ((fun(z41:List Val)=>z41.set x5.toNat (Val.mk (Val.kind (z41.getD x5.toNat Ty.val.dflt)) (Val.n (z41.getD x5.toNat Ty.val.dflt)) (i64.wrap ((i64.wrap (x1+1))+1)) (Val.text (z41.getD x5.toNat Ty.val.dflt)) (Val.list (z41.getD x5.toNat Ty.val.dflt)) (Val.columns (z41.getD x5.toNat Ty.val.dflt)) (Val.rows (z41.getD x5.toNat Ty.val.dflt)))) ((fun(z40:List Val)=>z40.set x5.toNat (Val.mk (Val.kind (z40.getD x5.toNat Ty.val.dflt)) (i64.wrap (x1+1)) (Val.step (z40.getD x5.toNat Ty.val.dflt)) (Val.text (z40.getD x5.toNat Ty.val.dflt)) (Val.list (z40.getD x5.toNat Ty.val.dflt)) (Val.columns (z40.getD x5.toNat Ty.val.dflt)) (Val.rows (z40.getD x5.toNat Ty.val.dflt)))) (x0.set x5.toNat (Val.mk x1 (Val.n (x0.getD x5.toNat Ty.val.dflt)) (Val.step (x0.getD x5.toNat Ty.val.dflt)) (Val.text (x0.getD x5.toNat Ty.val.dflt)) (Val.list (x0.getD x5.toNat Ty.val.dflt)) (Val.columns (x0.getD x5.toNat Ty.val.dflt)) (Val.rows (x0.getD x5.toNat Ty.val.dflt))))))))) x5.toNat Ty.val.dflt)) r3.1).bind fun r4=>
   if r4.2.length=List.length (Val.rows (List.getD ((fun(z44:List Val)=>z44.set x5.toNat (Val.mk (Val.kind (z44.getD x5.toNat Ty.val.dflt)) (Val.n (z44.getD x5.toNat Ty.val.dflt)) (Val.step (z44.getD x5.toNat Ty.val.dflt)) (Val.text (z44.getD x5.toNat Ty.val.dflt)) (Val.list (z44.getD x5.toNat Ty.val.dflt)) r3.2 (Val.rows (z44.getD x5.toNat Ty.val.dflt)))) ((fun(z43:List Val)=>z43.set x5.toNat (Val.mk (Val.kind (z43.getD x5.toNat Ty.val.dflt)) (Val.n (z43.getD x5.toNat Ty.val.dflt)) (Val.step (z43.getD x5.toNat Ty.val.dflt)) (Val.text (z43.getD x5.toNat Ty.val.dflt)) r2.2 (Val.columns (z43.getD x5.toNat Ty.val.dflt)) (Val.rows (z43.getD x5.toNat Ty.val.dflt)))) ((fun(z42:List Val)=>z42.set x5.toNat (Val.mk (Val.kind (z42.getD x5.toNat Ty.val.dflt)) (Val.n (z42.getD x5.toNat Ty.val.dflt)) (Val.step (z42.getD x5.toNat Ty.val.dflt)) r1 (Val.list (z42.getD x5.toNat Ty.val.dflt)) (Val.columns (z42.getD x5.toNat Ty.val.dflt)) (Val.rows (z42.getD x5.toNat Ty.val.dflt)))) ((fun(z41:List Val)=>z41.set x5.toNat (Val.mk (Val.kind (z41.getD x5.toNat Ty.val.dflt)) (Val.n (z41.getD x5.toNat Ty.val.dflt)) (i64.wrap ((i64.wrap (x1+1))+1)) (Val.text (z41.getD x5.toNat Ty.val.dflt)) (Val.list (z41.getD x5.toNat Ty.val.dflt)) (Val.columns (z41.getD x5.toNat Ty.val.dflt)) (Val.rows (z41.getD x5.toNat Ty.val.dflt)))) ((fun(z40:List Val)=>z40.set x5.toNat (Val.mk (Val.kind (z40.getD x5.toNat Ty.val.dflt)) (i64.wrap (x1+1)) (Val.step (z40.getD x5.toNat Ty.val.dflt)) (Val.text (z40.getD x5.toNat Ty.val.dflt)) (Val.list (z40.getD x5.toNat Ty.val.dflt)) (Val.columns (z40.getD x5.toNat Ty.val.dflt)) (Val.rows (z40.getD x5.toNat Ty.val.dflt)))) (x0.set x5.toNat (Val.mk x1 (Val.n (x0.getD x5.toNat Ty.val.dflt)) (Val.step (x0.getD x5.toNat Ty.val.dflt)) (Val.text (x0.getD x5.toNat Ty.val.dflt)) (Val.list (x0.getD x5.toNat Ty.val.dflt)) (Val.columns (x0.getD x5.toNat Ty.val.dflt)) (Val.rows (x0.getD x5.toNat Ty.val.dflt))))))))) x5.toNat Ty.val.dflt)) then
   (xEJ N q0 n ((fun(z45:List Val)=>z45.set x5.toNat (Val.mk (Val.kind (z45.getD x5.toNat Ty.val.dflt)) (Val.n (z45.getD x5.toNat Ty.val.dflt)) (Val.step (z45.getD x5.toNat Ty.val.dflt)) (Val.text (z45.getD x5.toNat Ty.val.dflt)) (Val.list (z45.getD x5.toNat Ty.val.dflt)) (Val.columns (z45.getD x5.toNat Ty.val.dflt)) r4.2)) ((fun(z44:List Val)=>z44.set x5.toNat (Val.mk (Val.kind (z44.getD x5.toNat Ty.val.dflt)) (Val.n (z44.getD x5.toNat Ty.val.dflt)) (Val.step (z44.getD x5.toNat Ty.val.dflt)) (Val.text (z44.getD x5.toNat Ty.val.dflt)) (Val.list (z44.getD x5.toNat Ty.val.dflt)) r3.2 (Val.rows (z44.getD x5.toNat Ty.val.dflt)))) ((fun(z43:List Val)=>z43.set x5.toNat (Val.mk (Val.kind (z43.getD x5.toNat Ty.val.dflt)) (Val.n (z43.getD x5.toNat Ty.val.dflt)) (Val.step (z43.getD x5.toNat Ty.val.dflt)) (Val.text (z43.getD x5.toNat Ty.val.dflt)) r2.2 (Val.columns (z43.getD x5.toNat Ty.val.dflt)) (Val.rows (z43.getD x5.toNat Ty.val.dflt)))) ((fun(z42:List Val)=>z42.set x5.toNat (Val.mk (Val.kind (z42.getD x5.toNat Ty.val.dflt)) (Val.n (z42.getD x5.toNat Ty.val.dflt)) (Val.step (z42.getD x5.toNat Ty.val.dflt)) r1 (Val.list (z42.getD x5.toNat Ty.val.dflt)) (Val.columns (z42.getD x5.toNat Ty.val.dflt)) (Val.rows (z42.getD x5.toNat Ty.val.dflt)))) ((fun(z41:List Val)=>z41.set x5.toNat (Val.mk (Val.kind (z41.getD x5.toNat Ty.val.dflt)) (Val.n (z41.getD x5.toNat Ty.val.dflt)) (i64.wrap ((i64.wrap (x1+1))+1)) (Val.text (z41.getD x5.toNat Ty.val.dflt)) (Val.list (z41.getD x5.toNat Ty.val.dflt)) (Val.columns (z41.getD x5.toNat Ty.val.dflt)) (Val.rows (z41.getD x5.toNat Ty.val.dflt)))) ((fun(z40:List Val)=>z40.set x5.toNat (Val.mk (Val.kind (z40.getD x5.toNat Ty.val.dflt)) (i64.wrap (x1+1)) (Val.step (z40.getD x5.toNat Ty.val.dflt)) (Val.text (z40.getD x5.toNat Ty.val.dflt)) (Val.list (z40.getD x5.toNat Ty.val.dflt)) (Val.columns (z40.getD x5.toNat Ty.val.dflt)) (Val.rows (z40.getD x5.toNat Ty.val.dflt)))) (x0.set x5.toNat (Val.mk x1 (Val.n (x0.getD x5.toNat Ty.val.dflt)) (Val.step (x0.getD x5.toNat Ty.val.dflt)) (Val.text (x0.getD x5.toNat Ty.val.dflt)) (Val.list (x0.getD x5.toNat Ty.val.dflt)) (Val.columns (x0.getD x5.toNat Ty.val.dflt)) (Val.rows (x0.getD x5.toNat Ty.val.dflt)))))))))) r4.1 (i64.wrap (x5+1)))
   else none else none else none else none else none else none else none else none else none else none) else(some (x1,x0))
def xHu(N:Nat)(q0:(List Val)->Int->Option (Int×(List Val)))(a0:List Val)(a1:Int):Option (Int×(List Val)):=(xEJ N q0 N a0 a1 0)
def xFp(N:Nat):Nat->(List Val)->Int->Option (Int×(List Val))
 |0,_,_=>none
 |d+1,a0,a1=>xHu N (xFp N d) a0 a1
def xJF(N:Nat)(a0:List Val)(a1:Int):Option (Int×(List Val)):=xFp N N a0 a1
def xE9(a0:Val)(a1:Int):List Arg:=[.val (.v true [.int .i64 a0.kind,.int .i64 a0.n,.int .i64 a0.step,.str a0.text,.sl (.lnt 0) .val a0.list,.sl (.lnt 1) .str a0.columns,.sl (.lnt 2) .row a0.rows]),.val (.v false [.int .i64 a1])]
def xAh(r:Int×(List Val)×(List Str)×(List Rowd)):CallO:=⟨.v false [.int .i64 r.1],[],[.sl (.lnt 0) .val r.2.1,.sl (.lnt 1) .str r.2.2.1,.sl (.lnt 2) .row r.2.2.2]⟩
def xDj(N:Nat)(a0:Val)(a1:Int):Option (Int×(List Val)×(List Str)×(List Rowd)):=(xJF N a0.list a1).bind fun r1=>if r1.2.length=a0.list.length then(xGB N a0.columns r1.1).bind fun r2=>if r2.2.length=a0.columns.length then(xId N a0.rows r2.1).bind fun r3=>if r3.2.length=a0.rows.length then some (r3.1,r1.2,r2.2,r3.2) else none else none else none
def xCT(a0:List Str)(a1:Int):List Arg:=[.val (.v false [.sl .ro .str a0]),.val (.v false [.int .i64 a1])]
def xBj(r:Int):CallO:=⟨.v false [.int .i64 r],[],[]⟩
def xDG(N:Nat):Nat->(List Str)->Int->Int->Option (Int)
 |0,_,_,_=>none
 |n+1,x0,x1,x5=>bif(decide (x5<(x0.length:Int))) then(if(0:Int)<=x5/\x5<x0.length then(xEW N x1).bind fun r1=>bif(!(((x0.getD x5.toNat Ty.str.dflt):Str)==r1)) then(some (-1)) else((xDG N n x0 (i64.wrap (x1+1)) (i64.wrap (x5+1)))) else none) else(some x1)
def xFH(N:Nat)(a0:List Str)(a1:Int):Option (Int):=(xDG N N a0 a1 0)
def xFF(a0:List Int)(a1:Int):List Arg:=[.val (.v false [.sl .ro .int a0]),.val (.v false [.int .i64 a1])]
def xCX(r:Int):CallO:=⟨.v false [.int .i64 r],[],[]⟩
def xFG(N:Nat):Nat->(List Int)->Int->Int->Option (Int)
 |0,_,_,_=>none
 |n+1,x0,x1,x5=>bif(decide (x5<(x0.length:Int))) then(if(0:Int)<=x5/\x5<x0.length then bif((x0.getD x5.toNat Ty.int.dflt) != x1) then(some (-1)) else((xFG N n x0 (i64.wrap (x1+1)) (i64.wrap (x5+1)))) else none) else(some x1)
def xJg(N:Nat)(a0:List Int)(a1:Int):Option (Int):=(xFG N N a0 a1 0)
def xFn(a0:List Org)(a1:Int):List Arg:=[.val (.v false [.sl .ro .org a0]),.val (.v false [.int .i64 a1])]
def xCE(r:Int):CallO:=⟨.v false [.int .i64 r],[],[]⟩
def xEo(N:Nat):Nat->(List Org)->Int->Int->Option (Int)
 |0,_,_,_=>none
 |n+1,x0,x1,x5=>bif(decide (x5<(x0.length:Int))) then(if(0:Int)<=x5/\x5<x0.length then bif(((Org.cell (x0.getD x5.toNat Ty.org.dflt)):Int) != x1) then(some (-1)) else(bif(((Org.row (x0.getD x5.toNat Ty.org.dflt)):Int) != (i64.wrap (x1+1))) then(some (-1)) else((xEo N n x0 (i64.wrap ((i64.wrap (x1+1))+1)) (i64.wrap (x5+1))))) else none) else(some x1)
def xHO(N:Nat)(a0:List Org)(a1:Int):Option (Int):=(xEo N N a0 a1 0)
def xEO(a0:List Rowd)(a1:Int):List Arg:=[.val (.v false [.sl .ro .row a0]),.val (.v false [.int .i64 a1])]
def xCp(r:Int):CallO:=⟨.v false [.int .i64 r],[],[]⟩
def xEP(N:Nat):Nat->(List Rowd)->Int->Int->Option (Int)
 |0,_,_,_=>none
 |n+1,x0,x1,x5=>bif(decide (x5<(x0.length:Int))) then(if(0:Int)<=x5/\x5<x0.length then(xJg N (Rowd.cells (x0.getD x5.toNat Ty.row.dflt)) x1).bind fun r1=>bif(decide (r1<0)) then(some (-1)) else((xHO N (Rowd.frm (x0.getD x5.toNat Ty.row.dflt)) r1).bind fun r2=>bif(decide (r2<0)) then(some (-1)) else((xEP N n x0 r2 (i64.wrap (x5+1))))) else none) else(some x1)
def xHf(N:Nat)(a0:List Rowd)(a1:Int):Option (Int):=(xEP N N a0 a1 0)
def xCP(a0:List Val)(a1:Int):List Arg:=[.val (.v false [.sl .ro .val a0]),.val (.v false [.int .i64 a1])]
def xAL(r:Int):CallO:=⟨.v false [.int .i64 r],[],[]⟩
def xD0(N:Nat)(q0:(List Val)->Int->Option (Int)):Nat->(List Val)->Int->Int->Option (Int)
 |0,_,_,_=>none
 |n+1,x0,x1,x5=>bif(decide (x5<(x0.length:Int))) then(if(0:Int)<=x5/\x5<x0.length then bif(((Val.kind (x0.getD x5.toNat Ty.val.dflt)):Int) != x1) then(some (-1)) else(bif(((Val.n (x0.getD x5.toNat Ty.val.dflt)):Int) != (i64.wrap (x1+1))) then(some (-1)) else(bif(((Val.step (x0.getD x5.toNat Ty.val.dflt)):Int) != (i64.wrap ((i64.wrap (x1+1))+1))) then(some (-1)) else((xEW N (i64.wrap ((i64.wrap ((i64.wrap (x1+1))+1))+1))).bind fun r1=>bif(!(((Val.text (x0.getD x5.toNat Ty.val.dflt)):Str)==r1)) then(some (-1)) else((q0 (Val.list (x0.getD x5.toNat Ty.val.dflt)) (i64.wrap ((i64.wrap ((i64.wrap ((i64.wrap (x1+1))+1))+1))+1))).bind fun r2=>bif(decide (r2<0)) then(some (-1)) else((xFH N (Val.columns (x0.getD x5.toNat Ty.val.dflt)) r2).bind fun r3=>bif(decide (r3<0)) then(some (-1)) else((xHf N (Val.rows (x0.getD x5.toNat Ty.val.dflt)) r3).bind fun r4=>bif(decide (r4<0)) then(some (-1)) else((xD0 N q0 n x0 r4 (i64.wrap (x5+1)))))))))) else none) else(some x1)
def xF7(N:Nat)(q0:(List Val)->Int->Option (Int))(a0:List Val)(a1:Int):Option (Int):=(xD0 N q0 N a0 a1 0)
def xEq(N:Nat):Nat->(List Val)->Int->Option (Int)
 |0,_,_=>none
 |d+1,a0,a1=>xF7 N (xEq N d) a0 a1
def xIc(N:Nat)(a0:List Val)(a1:Int):Option (Int):=xEq N N a0 a1
def xDO(a0:Val)(a1:Int):List Arg:=[.val (.v true (Va .ro a0)),.val (.v false [.int .i64 a1])]
def xAy(r:Int):CallO:=⟨.v false [.int .i64 r],[],[]⟩
def xCO(N:Nat)(a0:Val)(a1:Int):Option (Int):=(xIc N a0.list a1).bind fun r1=>bif(decide (r1<0)) then(some (-1)) else((xFH N a0.columns r1).bind fun r2=>bif(decide (r2<0)) then(some (-1)) else((xHf N a0.rows r2).bind fun r3=>bif(decide (r3<0)) then(some (-1)) else(some r3)))
def xJl(a0:List Rowd)(a1:Int)(a2:Int)(a3:List Org):List Arg:=[.val (.v false [.sl .ro .row a0]),.val (.v false [.int .i64 a1]),.val (.v false [.int .i64 a2]),.val (.v false [.sl .ro .org a3])]
def xGx(r:(List Rowd)):CallO:=⟨.v false [.sl .tip .row r],[],[]⟩
def xCW(N:Nat):Nat->(List Rowd)->Int->Int->(List Org)->(List Rowd)->Bool->Int->Option ((List Rowd))
 |0,_,_,_,_,_,_,_=>none
 |n+1,x0,x1,x2,x3,x9,x10,x11=>bif(decide (x11<(x0.length:Int))) then(if(0:Int)<=x11/\x11<x0.length then if(0:Int)<=0/\(0:Int)<(List.length (Rowd.cells (x0.getD x11.toNat Ty.row.dflt))) then bif(((List.getD (Rowd.cells (x0.getD x11.toNat Ty.row.dflt)) (Int.toNat 0) Ty.int.dflt):Int)==x1) then(if(0:Int)<=1/\(1:Int)<(List.length (Rowd.cells (x0.getD x11.toNat Ty.row.dflt))) then(xI5 N (Rowd.frm (x0.getD x11.toNat Ty.row.dflt)) x3).bind fun r1=>if(0:Int)<=0/\(0:Int)<([x1,(i64.wrap ((List.getD (Rowd.cells (x0.getD x11.toNat Ty.row.dflt)) (Int.toNat 1) Ty.int.dflt)+x2))].length) then bif(decide (((List.getD [x1,(i64.wrap ((List.getD (Rowd.cells (x0.getD x11.toNat Ty.row.dflt)) (Int.toNat 1) Ty.int.dflt)+x2))] (Int.toNat 0) Ty.int.dflt):Int)>x1)) then(if x9.length+List.length [(Rowd.mk [x1,(i64.wrap ((List.getD (Rowd.cells (x0.getD x11.toNat Ty.row.dflt)) (Int.toNat 1) Ty.int.dflt)+x2))] r1)]<=Lim then(xCW N n x0 x1 x2 x3 (x9++ [(Rowd.mk [x1,(i64.wrap ((List.getD (Rowd.cells (x0.getD x11.toNat Ty.row.dflt)) (Int.toNat 1) Ty.int.dflt)+x2))] r1)]) true (i64.wrap (x11+1))) else none) else(if x9.length+List.length [(Rowd.mk [x1,(i64.wrap ((List.getD (Rowd.cells (x0.getD x11.toNat Ty.row.dflt)) (Int.toNat 1) Ty.int.dflt)+x2))] r1)]<=Lim then(xCW N n x0 x1 x2 x3 (x9++ [(Rowd.mk [x1,(i64.wrap ((List.getD (Rowd.cells (x0.getD x11.toNat Ty.row.dflt)) (Int.toNat 1) Ty.int.dflt)+x2))] r1)]) true (i64.wrap (x11+1))) else none) else none else none) else(bif(decide (((List.getD (Rowd.cells (x0.getD x11.toNat Ty.row.dflt)) (Int.toNat 0) Ty.int.dflt):Int)>x1)) then(bif(!x10) then(if 0+x3.length<=Lim then if x9.length+List.length [(Rowd.mk [x1,x2] ([]++x3))]<=Lim then
       if List.length (x9++ [(Rowd.mk [x1,x2] ([]++x3))])+ [(x0.getD x11.toNat Ty.row.dflt)].length<=Lim then(xCW N n x0 x1 x2 x3 ((x9++ [(Rowd.mk [x1,x2] ([]++x3))])++ [(x0.getD x11.toNat Ty.row.dflt)]) true (i64.wrap (x11+1))) else none else none else none) else(if x9.length+ [(x0.getD x11.toNat Ty.row.dflt)].length<=Lim then(xCW N n x0 x1 x2 x3 (x9++ [(x0.getD x11.toNat Ty.row.dflt)]) x10 (i64.wrap (x11+1))) else none)) else(if x9.length+ [(x0.getD x11.toNat Ty.row.dflt)].length<=Lim then(xCW N n x0 x1 x2 x3 (x9++ [(x0.getD x11.toNat Ty.row.dflt)]) x10 (i64.wrap (x11+1))) else none)) else none else none) else(bif(!x10) then(if 0+x3.length<=Lim then if x9.length+List.length [(Rowd.mk [x1,x2] ([]++x3))]<=Lim then some (x9++ [(Rowd.mk [x1,x2] ([]++x3))]) else none else none) else(some x9))
def xLM(N:Nat)(a0:List Rowd)(a1:Int)(a2:Int)(a3:List Org):Option ((List Rowd)):=(xCW N N a0 a1 a2 a3 [] false 0)
def xEc(a0:Val)(a1:Val)(a2:Val):List Arg:=[.val (.v true (Va .ro a0)),.val (.v true (Va .ro a1)),.val (.v true (Va .ro a2))]
def xAz(r:Val):CallO:=⟨.v true (Va .ro r),[],[]⟩
def xDR(N:Nat):Nat->Int->Val->Val->Option (Val)
 |0,_,_,_=>none
 |n+1,x13,b6,b11=>bif(decide (x13<(b11.rows.length:Int))) then(if(0:Int)<=x13/\x13<b11.rows.length then if(0:Int)<=1/\(1:Int)<(List.length (Rowd.cells (b11.rows.getD x13.toNat Ty.row.dflt))) then(xE2 N (List.getD (Rowd.cells (b11.rows.getD x13.toNat Ty.row.dflt)) (Int.toNat 1) Ty.int.dflt)).bind fun r1=>bif(!r1) then((xCh N 5).bind fun r2=>some r2) else((xDR N n (i64.wrap (x13+1)) b6 b11)) else none else none) else(some b11)
def xEw(N:Nat):Nat->Int->Int->Int->Val->Val->Val->Option (Val)
 |0,_,_,_,_,_,_=>none
 |n+1,x9,x10,x12,b5,b6,b11=>bif(decide (x12<(b5.rows.length:Int))) then(if(0:Int)<=x12/\x12<b5.rows.length then if(0:Int)<=x9/\x9<(List.length (Rowd.cells (b5.rows.getD x12.toNat Ty.row.dflt))) then if(0:Int)<=x10/\x10<(List.length (Rowd.cells (b5.rows.getD x12.toNat Ty.row.dflt))) then(xLM N b11.rows (List.getD (Rowd.cells (b5.rows.getD x12.toNat Ty.row.dflt)) x9.toNat Ty.int.dflt) (List.getD (Rowd.cells (b5.rows.getD x12.toNat Ty.row.dflt)) x10.toNat Ty.int.dflt) (Rowd.frm (b5.rows.getD x12.toNat Ty.row.dflt))).bind fun r1=>(xEw N n x9 x10 (i64.wrap (x12+1)) b5 b6 (Val.mk b11.kind b11.n b11.step b11.text b11.list b11.columns r1)) else none else none else none) else((xDR N N 0 b6 b11))
def xE1(N:Nat)(a0:Val)(a1:Val)(a2:Val):Option (Val):=(xI4 N [a0.re,a1.re,a2.re] [2,2,5]).bind fun r1=>bif r1.2 then(some r1.1) else((xFN N a2 a0.text).bind fun r2=>(xFN N a2 a1.text).bind fun r3=>bif(decide (r2<0)) then((xCh N 7).bind fun r4=>some r4) else(bif(decide (r3<0)) then((xCh N 7).bind fun r4=>some r4) else(bif(r2==r3) then((xCh N 7).bind fun r4=>some r4) else((xEw N N r2 r3 0 a2 (Val.mk 0 0 0 [] [] [] []) (Val.mk 5 0 0 [] [] [a0.text,a1.text] []))))))
def xCm(a0:Val)(a1:Val)(a2:Val):List Arg:=[.val (.v true (Va .ro a0)),.val (.v true (Va .ro a1)),.val (.v true (Va .ro a2))]
def xIB(r:Val×Bool):CallO:=⟨.v true [.int .i64 (Val.kind r.1),.int .i64 (Val.n r.1),.int .i64 (Val.step r.1),.str (Val.text r.1),.sl .ro .val (Val.list r.1),.sl .ro .str (Val.columns r.1),.sl .ro .row (Val.rows r.1)],[],[]⟩
def xAR(r:Val×Bool):CallO:=⟨.v true [.int .i64 (Val.kind r.1),.int .i64 (Val.n r.1),.int .i64 (Val.step r.1),.str (Val.text r.1),.sl .own .val (Val.list r.1),.sl .own .str (Val.columns r.1),.sl .own .row (Val.rows r.1)],[],[]⟩
def xAS(r:Val×Bool):CallO:=⟨.v true [.int .i64 (Val.kind r.1),.int .i64 (Val.n r.1),.int .i64 (Val.step r.1),.str (Val.text r.1),.sl .ro .val [],.sl .ro .str [],.sl .ro .row []],[],[]⟩
def xBP(r:Val×Bool):CallO:=bif r.2 then xIB r else xAR r
def xHM(N:Nat)(x9:Int)(x10:Int)(b3:Val)(b4:Val)(b5:Val)(b6:Val):Option (Val×Bool):=zJt x9 x10 b3 b4 b5
def xDY(N:Nat)(a0:Val)(a1:Val)(a2:Val):Option (Val×Bool):=(xHD N [2,2,5] [a0.re,a1.re,a2.re]).bind fun r1=>bif r1.2.2 then(if List.isEmpty r1.1.list=true then if List.isEmpty r1.1.columns=true then if List.isEmpty r1.1.rows=true then bif r1.2.1 then(some ((Val.mk r1.1.kind r1.1.n r1.1.step r1.1.text [] [] []),true)) else((xD8 N a2 a0.text).bind fun r2=>(xD8 N a2 a1.text).bind fun r3=>bif(decide (r2<0)) then((xCr N 7).bind fun r4=>some (r4,false)) else(bif(decide (r3<0)) then((xCr N 7).bind fun r4=>some (r4,false)) else(bif((a0.text:Str)==a1.text) then((xCr N 7).bind fun r4=>some (r4,false)) else((xHM N r2 r3 a0 a1 a2 (Val.mk 0 0 0 [] [] [] [])))))) else none else none else none) else(bif r1.2.1 then(some (r1.1,false)) else((xD8 N a2 a0.text).bind fun r2=>(xD8 N a2 a1.text).bind fun r3=>bif(decide (r2<0)) then((xCr N 7).bind fun r4=>some (r4,false)) else(bif(decide (r3<0)) then((xCr N 7).bind fun r4=>some (r4,false)) else(bif((a0.text:Str)==a1.text) then((xCr N 7).bind fun r4=>some (r4,false)) else((xHM N r2 r3 a0 a1 a2 (Val.mk 0 0 0 [] [] [] [])))))))
def xAp(a0:Val)(a1:Val)(a2:Val):List Arg:=[.val (.v true (Va .ro a0)),.val (.v true (Va .ro a1)),.val (.v true (Va .ro a2))]
def xAq(r:Bool):CallO:=⟨.v false [.bool r],[],[]⟩
def xDq(N:Nat)(a0:Val)(a1:Val)(a2:Val):Option (Bool):=(xI0 N a0 1048576).bind fun r1=>bif(decide (r1<0)) then(some true) else((xI0 N a1 r1).bind fun r2=>bif(decide (r2<0)) then(some true) else((xI0 N a2 r2).bind fun r3=>bif(decide (r3<0)) then(some true) else((xCv N a0).bind fun r4=>(xCv N a1).bind fun r5=>(xCv N a2).bind fun r6=>(xE1 N r4 r5 r6).bind fun r7=>(xCv N a0).bind fun r8=>(xCv N a1).bind fun r9=>(xCv N a2).bind fun r10=>(xDY N r8 r9 r10).bind fun r11=>bif r11.2 then(if List.isEmpty r11.1.list=true then if List.isEmpty r11.1.columns=true then if List.isEmpty r11.1.rows=true then(xC5 N (Val.mk r11.1.kind r11.1.n r11.1.step r11.1.text [] [] []) r7).bind fun r12=>bif(!r12) then(some false) else((xCv N a0).bind fun r13=>(xC5 N r8 r13).bind fun r14=>bif(!r14) then(some false) else((xCv N a1).bind fun r15=>(xC5 N r9 r15).bind fun r16=>bif(!r16) then(some false) else((xCv N a2).bind fun r17=>(xC5 N r10 r17).bind fun r18=>bif(!r18) then(some false) else((xDj N r8 1).bind fun r19=>if r19.2.1.length=r8.list.length then if r19.2.2.1.length=r8.columns.length then if r19.2.2.2.length=r8.rows.length then(xDj N r9 r19.1).bind fun r20=>if r20.2.1.length=r9.list.length then if r20.2.2.1.length=r9.columns.length then if r20.2.2.2.length=r9.rows.length then(xDj N r10 r20.1).bind fun r21=>if r21.2.1.length=r10.list.length then if r21.2.2.1.length=r10.columns.length then
     if r21.2.2.2.length=r10.rows.length then bif(decide (r21.1<0)) then(some false) else((xC5 N (Val.mk r11.1.kind r11.1.n r11.1.step r11.1.text [] [] []) r7).bind fun r22=>bif(!r22) then(some false) else((xGC N (Val.mk r11.1.kind r11.1.n r11.1.step r11.1.text [] [] []) 1).bind fun r23=>(xCO N (Val.mk r11.1.kind r11.1.n r11.1.step r11.1.text [] [] []) 1).bind fun r24=>bif(decide (r24<0)) then(some false) else(bif(r24 != r23) then(some false) else((xCv N a0).bind fun r25=>(xCv N a1).bind fun r26=>(xCv N a2).bind fun r27=>(xDY N r25 r26 r27).bind fun r28=>bif r28.2 then(if List.isEmpty r28.1.list=true then if List.isEmpty r28.1.columns=true then if List.isEmpty r28.1.rows=true then(xC5 N (Val.mk r28.1.kind r28.1.n r28.1.step r28.1.text [] [] []) r7).bind fun r29=>bif(!r29) then(some false) else((xCO N (Val.mk r11.1.kind r11.1.n r11.1.step r11.1.text [] [] []) 1).bind fun r30=>bif(decide (r30<0)) then(some false) else(bif(r30 != r23) then(some false) else(some true))) else none else none else none) else((xC5 N r28.1 r7).bind fun r29=>bif(!r29) then(some false) else((xCO N (Val.mk r11.1.kind r11.1.n r11.1.step r11.1.text [] [] []) 1).bind fun r30=>bif(decide (r30<0)) then(some false) else(bif(r30 != r23) then(some false) else(some true)))))))) else none else none else none else none else none else none else none else none else none)))) else none else none else none) else((xC5 N r11.1 r7).bind fun r12=>bif(!r12) then(some false) else((xCv N a0).bind fun r13=>
     (xC5 N r8 r13).bind fun r14=>bif(!r14) then(some false) else((xCv N a1).bind fun r15=>(xC5 N r9 r15).bind fun r16=>bif(!r16) then(some false) else((xCv N a2).bind fun r17=>(xC5 N r10 r17).bind fun r18=>bif(!r18) then(some false) else((xDj N r8 1).bind fun r19=>if r19.2.1.length=r8.list.length then if r19.2.2.1.length=r8.columns.length then if r19.2.2.2.length=r8.rows.length then(xDj N r9 r19.1).bind fun r20=>if r20.2.1.length=r9.list.length then if r20.2.2.1.length=r9.columns.length then if r20.2.2.2.length=r9.rows.length then(xDj N r10 r20.1).bind fun r21=>if r21.2.1.length=r10.list.length then if r21.2.2.1.length=r10.columns.length then if r21.2.2.2.length=r10.rows.length then bif(decide (r21.1<0)) then(some false) else((xC5 N r11.1 r7).bind fun r22=>bif(!r22) then(some false) else((xDj N r11.1 1).bind fun r23=>if r23.2.1.length=r11.1.list.length then if r23.2.2.1.length=r11.1.columns.length then if r23.2.2.2.length=r11.1.rows.length then(xCO N (Val.mk r11.1.kind r11.1.n r11.1.step r11.1.text r23.2.1 r23.2.2.1 r23.2.2.2) 1).bind fun r24=>bif(decide (r24<0)) then(some false) else(bif(r24 != r23.1) then(some false) else((xCv N a0).bind fun r25=>(xCv N a1).bind fun r26=>(xCv N a2).bind fun r27=>(xDY N r25 r26 r27).bind fun r28=>bif r28.2 then(if List.isEmpty r28.1.list=true then if List.isEmpty r28.1.columns=true then if List.isEmpty r28.1.rows=true then(xC5 N (Val.mk r28.1.kind r28.1.n r28.1.step r28.1.text [] [] []) r7).bind fun r29=>
            bif(!r29) then(some false) else((xCO N (Val.mk r11.1.kind r11.1.n r11.1.step r11.1.text r23.2.1 r23.2.2.1 r23.2.2.2) 1).bind fun r30=>bif(decide (r30<0)) then(some false) else(bif(r30 != r23.1) then(some false) else(some true))) else none else none else none) else((xC5 N r28.1 r7).bind fun r29=>bif(!r29) then(some false) else((xCO N (Val.mk r11.1.kind r11.1.n r11.1.step r11.1.text r23.2.1 r23.2.2.1 r23.2.2.2) 1).bind fun r30=>bif(decide (r30<0)) then(some false) else(bif(r30 != r23.1) then(some false) else(some true)))))) else none else none else none)) else none else none else none else none else none else none else none else none else none))))))))
end Go.Ab
end
section
namespace Go.Ab
open Go.Proofs Go.Shelf
variable {P:Program} {ρ:Ren}
theorem xPK(L:Lays.n125 P ρ):∀args w,(callFunc (ρ.f 125) args).run P w= .ok (.enter (ρ.f 125) args) w:=enters_of L.f125 (by kernel_rfl) rfl
end Go.Ab
end
section
namespace Go.Ab
open Go.Lib Go.Extern Go.Proofs Go.Shelf
variable [Inhabited Lb]
def OrgRow(w:World)(br cap:Nat)(xs:List Org):Prop:=
 xs.length<=cap/\∃cs ty lo hi,w.heap[br]? =some (.cells cs ty (lo,hi))/\cap*2=cs.size/\(∀o,lo<=o->o<hi->cap*2<=o)/\
  ∀m (hm:m<xs.length) k (hk:k<2),cs[m*2+k]? =some ((zAu xs[m])[k]'hk)
theorem OrgRow.rd{E:Env}{br cap:Nat}{xs:List Org}(h:OrgRow E.w br cap xs){pl:Pl}{c:Nat}(ho:E.ow br=some (.arr pl c []))(hw:E.hw br=xs.length*2)(n:Nat)(hh:E.hdr n= .slice (some ⟨br,0,none⟩) xs.length cap):
 RdP E.w (okF E pl c (.lnt n)) (qF E pl c (.lnt n)) (.slice (some ⟨br,0,none⟩) xs.length cap) (.sl 2 (xs.map Ty.org.toD)):=by
 obtain⟨hcap,cs,ty,lo,hi,t4,t5,t6,hc⟩:=h;refine .sl br 0 xs.length cap 2 _ (fun m k=>if h:m<xs.length/\k<2 then(zAu xs[m])[k]'h.2 else .bool false) (by simp) hcap (fun r hr=> ?_) ⟨⟨ho,hw,hcap,cs,ty,lo,hi,t4,t5,t6⟩,fun _=>hh.symm⟩ (fun m k hm hk=> ?_) (fun m k hm hk=> ?_)
 ·obtain⟨y,_,rfl⟩:=List.mem_map.1 hr;exact Ty.toD_length .org y
 ·rw [dif_pos ⟨hm,hk⟩];refine⟨?_,?_,ho⟩
  ·simp only [World.cell?,t4];rw [Nat.zero_add];exact hc m hm k hk
  ·rw [hw];omega
 ·have hm' :m<xs.length:=by simpa using hm
  have hr:(xs.map Ty.org.toD)[m]=Ty.org.toD xs[m]:=by rw [List.getElem_map]
  have hk' :k<2:=by rw [hr] at hk;exact hk
  rw [dif_pos ⟨hm',hk'⟩];simp only [hr]
  match k,hk' with
  |0,_=>exact .int .i64 _
  |1,_=>exact .int .i64 _
theorem OrgRow.of{E:Env}{pl:Pl}{c n br cap:Nat}{xs:List Org}(hx:xs≠ [])(h:RdP E.w (okF E pl c (.lnt n)) (qF E pl c (.lnt n)) (.slice (some ⟨br,0,none⟩) xs.length cap) (.sl 2 (xs.map Ty.org.toD))):OrgRow E.w br cap xs:=by
 obtain⟨b,off,cap',e,hcap,hrl,hq,u,hcl,hk⟩:=RdP.cells h (by simpa using hx);rw [List.length_map] at e;obtain⟨rfl,rfl,rfl⟩:br=b/\0=off/\cap=cap' :=by injection e with e1 e2 e3;injection e1 with e1;injection e1 with e1 e4;exact⟨e1,e4,e3⟩
 obtain⟨t1,t2,t3,cs,ty,lo,hi',t4,t5,t6⟩:=hq.1;rw [List.length_map] at hcap;refine⟨hcap,cs,ty,lo,hi',t4,t5,t6,fun m hm k hk2=> ?_⟩;have g1:=(hcl m k (by simpa using hm) hk2).1;have hr:((xs.map Ty.org.toD)[m]'(by simpa using hm))=Ty.org.toD xs[m]:=by rw [List.getElem_map]
 have g2:=hk m k (by simpa using hm) (by rw [hr];exact hk2);rw [Nat.zero_add] at g1;simp only [World.cell?,t4] at g1;simp only [hr] at g2
 match k,hk2,g1,g2 with
 |0,_,g1,g2=>generalize u m 0=x at g1 g2;simp only [Ty.toD,List.getElem_cons_zero] at g2;cases g2;exact g1
 |1,_,g1,g2=>generalize u m 1=x at g1 g2;simp only [Ty.toD,List.getElem_cons_succ,List.getElem_cons_zero] at g2;cases g2;exact g1
structure Sorted (w:World) (bo br cap:Nat) (xs ys:List Org) (w' :World):Prop where
 os:w'.os=w.os
 tape:w'.tape=w.tape
 output:w'.output=w.output
 size:w.heap.size<=w'.heap.size
 old:∀b,b<w.heap.size->b≠bo->b≠br->w'.heap[b]? =w.heap[b]?
 box:∃ty,w'.heap[bo]? =some (.cells #[.slice (some ⟨br,0,none⟩) xs.length cap] ty (0,0))
 row:OrgRow w' br cap ys
theorem xOD{P:Program}{ρ:Ren}(L:LaysGg.n6 P ρ)(t e:TypeId)(i ie:TypeInfo)(hi:P.info? t=some i)(hd:i.desc= .slice e)(hpk:P.packed t=false)(hie:P.info? e=some ie)(ke:Nat)
 (hke:∀w,(Extern.Rtype.kind e).run P w= .ok ke w) (hnp:ie.hasPointers=false) (hby:ie.bytes=16) (f lf:Nat) (hf:P.funcs.findIdx? (·.name== "internal/reflectlite" ++ ".Swapper$9")=some f)
 {xs ys:List Org} (hl:ys.length=xs.length) (h2:2<=xs.length) (hlen:xs.length<4611686018427387904)
 (hpdq:AbsCalls P (ρ.f 14) [.val (.v true [.clo lf [gi 4],.swp f 0 (typeHandle P e) (gi 4)]),.val (.v false [.int .i64 0]),.val (.v false [.int .i64 xs.length]),.val (.v false [.int .i64 (Lib.bitLen xs.length)]),.gbox [.sl (.lnt 0) .org xs]] ⟨.tup [],[[.sl (.lnt 0) .org ys]],[]⟩)
 {w:World} {bo br cap:Nat} {ty:TypeId} (hbo:w.heap[bo]? =some (.cells #[.slice (some ⟨br,0,none⟩) xs.length cap] ty (0,0))) (hbr:OrgRow w br cap xs) (hne:bo≠br)
 (hbase:∀x∈zH7,x.1<w.heap.size/\x.1≠bo/\x.1≠br/\w.heap[x.1]? =some x.2):
 Calls P (ρ.f 6) #[.iface t (.slice (some ⟨br,0,none⟩) xs.length cap),.func (.func lf) #[] #[.pointer (some ⟨bo,0,none⟩)]] w fun en w' =>en= .returned (.tuple #[])/\Sorted w bo br cap xs ys w' :=by
 have hk9:swapperK xs.length ie ke=9:=by
  unfold swapperK;have e0:(xs.length==0)=false:=beq_eq_false_iff_ne.2 (by omega);have e1:(xs.length==1)=false:=beq_eq_false_iff_ne.2 (by omega);simp [e0,e1,hnp,hby]
 have hbol:bo<w.heap.size:=(Array.getElem?_eq_some_iff.1 hbo).1;have hbrl:br<w.heap.size:=by
  obtain⟨_,cs,ty,lo,hi,h,_⟩:=hbr;exact(Array.getElem?_eq_some_iff.1 h).1
 refine Any.sort_Slice_of_pdq L t e i ie hi hd hpk hie ke hke (some ⟨br,0,none⟩) xs.length cap hlen f (by rw [hk9];exact hf) (.func lf) #[] #[.pointer (some ⟨bo,0,none⟩)] w (Sorted w bo br cap xs ys) ?_;generalize hW:sliceWorld P ρ t (some ⟨br,0,none⟩) xs.length cap w=W;have hWs:W.heap.size=w.heap.size+2:=by rw [<-hW];unfold sliceWorld;rw [zBs,zBs]
 have hWo:∀b,b<w.heap.size->W.heap[b]? =w.heap[b]? :=by
  intro b hb;rw [<-hW];unfold sliceWorld;have al:∀(w:World) (o:Obj) (b:Nat),b<w.heap.size->(w.alloc o).heap[b]? =w.heap[b]? :=fun w o b hb=>by
   show(w.heap.push o)[b]? =_;rw [Array.getElem?_push,if_neg (by omega)]
  rw [al _ _ _ (by rw [zBs];omega),al _ _ _ hb]
 have hWos:W.os=w.os/\W.tape=w.tape/\W.output=w.output:=by rw [<-hW];exact⟨rfl,rfl,rfl⟩
 let E:Env:= { w:=W,hw:=fun b=>if b=br then xs.length*2 else if b=bo then 0 else match w.heap[b]? with |some o=>zFu o|none=>0,
               ow:=fun b=>if b=bo then some (.box (gi 4)) else if b=br then some (.arr (.k (2*gi 4+1)) 0 []) else none,bx:=fun _=>bo,hdr:=fun _=> .slice (some ⟨br,0,none⟩) xs.length cap }
 have o1:E.ow bo=some (.box (gi 4)):=if_pos rfl;have o2:E.ow br=some (.arr (.k (2*gi 4+1)) 0 []):=by show(if br=bo then _ else _)=_;rw [if_neg (Ne.symm hne),if_pos rfl]
 have o3:∀b,b≠bo->b≠br->E.ow b=none:=fun b h1 h2=>by show(if b=bo then _ else _)=_;rw [if_neg h1,if_neg h2]
 have hw2:E.hw br=xs.length*2:=if_pos rfl;have hE:EnvOk E:=by
  refine⟨fun b hb=> ?_,fun b b' l h1 h2=> ?_,fun b s h=> ?_⟩
  ·have hb:W.heap.size<=b:=hb;refine⟨o3 b (by omega) (by omega),?_⟩;show(if b=br then _ else _)=_;rw [if_neg (by omega),if_neg (by omega),Array.getElem?_eq_none (by omega)]
  ·by_cases c1:b=bo
   ·subst c1;rw [o1] at h1;cases h1;by_cases c2:b' =b
    ·exact c2.symm
    ·by_cases c3:b' =br
     ·subst c3;rw [o2] at h2;cases h2
     ·rw [o3 b' c2 c3] at h2;cases h2
   ·by_cases c2:b=br
    ·subst c2;rw [o2] at h1;cases h1;by_cases c3:b' =bo
     ·subst c3;rw [o1] at h2;cases h2
     ·by_cases c4:b' =b
      ·exact c4.symm
      ·rw [o3 b' c3 c4] at h2;cases h2
    ·rw [o3 b c1 c2] at h1;cases h1
  ·by_cases c1:b=bo
   ·subst c1;show(if b=br then _ else _)=_;rw [if_neg hne,if_pos rfl]
   ·by_cases c2:b=br
    ·subst c2;rw [o2] at h;cases h
    ·rw [o3 b c1 c2] at h;cases h
 have hB:Base E:=by
  intro x hx;obtain⟨b1,b2,b3,b4⟩:=hbase x hx;refine⟨by show _<W.heap.size;omega,o3 _ b2 b3,(hWo _ b1).trans b4,?_⟩;show(if x.1=br then _ else _)=_;rw [if_neg b3,if_neg b2,b4]
 have hrow:OrgRow E.w br cap xs:=by
  obtain⟨h1,cs,ty',lo,hi',h3,h4⟩:=hbr;exact⟨h1,cs,ty',lo,hi',(hWo br hbrl).trans h3,h4⟩
 have hsb:sliceBound P e ie ke (some ⟨br,0,none⟩) xs.length cap= #[.slice (some ⟨br,0,none⟩) xs.length cap,typeHandle P e]:=by
  unfold sliceBound;rw [hk9]
  rfl
 rw [hsb]
 have hA:ArgsAt E 0 [.val (.v true [.clo lf [gi 4],.swp f 0 (typeHandle P e) (gi 4)]),.val (.v false [.int .i64 0]),.val (.v false [.int .i64 xs.length]),.val (.v false [.int .i64 (Lib.bitLen xs.length)]),.gbox [.sl (.lnt 0) .org xs]]
  (#[.agg #[.func (.func lf) #[] #[.pointer (some ⟨bo,0,none⟩)],.func (.func f) #[] #[.slice (some ⟨br,0,none⟩) xs.length cap,typeHandle P e]],.int .i64 0,.int .i64 xs.length,.int .i64 (Lib.bitLen xs.length)]:Array Value).toList:=by
  refine⟨⟨_,rfl,⟨rfl,fun _ _=>trivial⟩,⟨⟨rfl,rfl⟩,fun ad l c he h=>rfl⟩,trivial⟩,⟨rfl,trivial⟩,⟨rfl,trivial⟩,⟨rfl,trivial⟩,⟨o1,_,ty,(hWo bo hbol).trans hbo,?_,trivial⟩,trivial⟩;exact OrgRow.rd hrow o2 hw2 0 rfl
 have hdo:=hpdq E _ hE hB hA;have e14:∀args w,(callFunc (ρ.f 14) args).run P w= .ok (.enter (ρ.f 14) args) w:=enters_of L.f14 (by kernel_rfl) rfl;rcases hdo with ⟨v,w',h1,_⟩|⟨_,h1⟩
 ·rw [e14] at h1;cases h1
 refine h1.mono fun en w' hen=> ?_;cases en with
 |returned v=>
  obtain⟨E',rfl,hx⟩:=hen;have hv:v= .tuple #[]:=by
   obtain⟨vs,rfl,hvs⟩:=(hx.res.vr rfl:VR E' zAI (.h 0) (.tup []) v);cases vs with
   |mk l=>cases l with
    |nil=>rfl
    |cons x l=>exact hvs.elim
  subst hv;obtain⟨⟨b1,vals,ty',b2,b3⟩,_⟩:=(hx.outs:zBr E' (gi 4) bo [.sl (.lnt 0) .org ys]/\True);have hhdr:E'.hdr 0= .slice (some ⟨br,0,none⟩) xs.length cap:=by rw [hx.hdr]
  cases vals with
  |mk l=>
   match l,b3 with
   | [hv],b3=>
     have b4:RdP E'.w (okF E' (.k (2*gi 4+1)) 0 (.lnt 0)) (qF E' (.k (2*gi 4+1)) 0 (.lnt 0)) hv (.sl 2 (ys.map Ty.org.toD)):=b3.1;have b5:hv=E'.hdr 0:=(RdP.top b4).2 rfl;rw [hhdr] at b5;subst b5;refine⟨rfl,hx.os.trans hWos.1,hx.tape.trans hWos.2.1,hx.output.trans hWos.2.2,by have:=hx.size;show _<=E'.w.heap.size;have h3:W.heap.size<=E'.w.heap.size:=this;omega,fun b hb hb1 hb2=> ?_,⟨ty',b2⟩,?_⟩
     ·exact((hx.old b (by show b<W.heap.size;omega) (o3 b hb1 hb2)).1).trans (hWo b hb)
     ·have:ys≠ []:=by intro e;rw [e] at hl;simp at hl;omega
      rw [<-hl] at b4;exact OrgRow.of this b4
   | [],b3=>exact b3.elim
   |_::_::_,b3=>exact b3.2.elim
 |_=>exact hen.elim
end Go.Ab
end
section
namespace Go.Ab
open Go.Proofs Go.RowKit
structure OrgT (P:Program) (te ti tm tb ts:TypeId):Prop where
 key:P.underlying te=some (.struct #[{ name:= "Cell",type:=ti,offset:=0,embedded:=false,tag:= "",pkgPath:= "",byteOffset:=0 },{ name:= "Row",type:=ti,offset:=1,embedded:=false,tag:= "",pkgPath:= "",byteOffset:=8 }])
 held:P.stoodInHeld te=false
 int:P.underlying ti=some (.int .i64)
 map:P.underlying tm=some (.map te tb)
 zero:∀w,(zeroValue tb).run P w= .ok (.bool false) w
 slice:P.underlying ts=some (.slice te)
def orgV(o:Org):Value:= .agg #[.int .i64 o.cell,.int .i64 o.row]
section
variable {P:Program} {te ti tm tb ts:TypeId} (T:OrgT P te ti tm tb ts) {w:World}
include T
theorem xTU:P.plainKey ti=true:=by simp [Program.plainKey,T.int]
theorem vGa(o:Org):(part ti #[.int .i64 o.cell,.int .i64 o.row] 0).run P w= .ok (.int .i64 o.cell) w:=run_part_plain w (xTU T) rfl
theorem vGb(o:Org):(part ti #[.int .i64 o.cell,.int .i64 o.row] 1).run P w= .ok (.int .i64 o.row) w:=run_part_plain w (xTU T) rfl
theorem xNN(em:Bool)(n:Nat)(k:IntKind)(x:Int):(Instr.checkKey em (n+1) ti (.int k x)).run P w= .ok () w:=by
 unfold Instr.checkKey;simp [run_underlying T.int]
theorem xLj(em:Bool)(n:Nat)(o:Org):(Instr.checkKey em (n+2) te (orgV o)).run P w= .ok () w:=by
 unfold Instr.checkKey orgV;simp [run_underlying T.key,vGa T,vGb T,xNN T,Result.andThen]
theorem xMV(a b:Org):(Op.equal te (orgV a) (orgV b)).run P w= .ok (a==b) w:=by
 have hf:P.fieldsOf te= #[{ name:= "Cell",type:=ti,offset:=0,embedded:=false,tag:= "",pkgPath:= "",byteOffset:=0 },{ name:= "Row",type:=ti,offset:=1,embedded:=false,tag:= "",pkgPath:= "",byteOffset:=8 }]:=by unfold Program.fieldsOf;rw [T.key]
 show(Op.equalIn 10000 te (.agg _) (.agg _)).run P w=_;rw [run_equalIn_agg w 9999 te _ _ (by rw [hf];exact T.key) T.held,hf];have e1:=run_equalIn_int (P:=P) w 9998 ti .i64 .i64 a.cell b.cell T.int;have e2:=run_equalIn_int (P:=P) w 9998 ti .i64 .i64 a.row b.row T.int;have h:(a==b)=((a.cell==b.cell)&&(a.row==b.row)):=by
  cases a;cases b;rw [Bool.eq_iff_iff];simp
 rw [h];simp [Op.eqFields,vGa T,vGb T,e1,e2,Result.andThen];by_cases h1:a.cell=b.cell <;>by_cases h2:a.row=b.row <;>simp [h1,h2]
end
def SetMap(w:World)(b:Nat)(ks:List Org):Prop:=
 ∃es clock,w.heap[b]? =some (.map es clock)/\es.toList.map (·.key)=ks.map orgV/\∀e∈es.toList,e.val= .bool true
theorem SetMap.kept{w w' :World}{b:Nat}{ks:List Org}(h:SetMap w b ks)(e:w'.heap[b]? =w.heap[b]?):SetMap w' b ks:=by
 obtain⟨es,c,h1,h2⟩:=h;exact⟨es,c,e.trans h1,h2⟩
section
variable {P:Program} {te ti tm tb ts:TypeId} (T:OrgT P te ti tm tb ts) {w:World}
include T
theorem xOU(o:Org):∀(es:List MapEntry) (ks:List Org) (i:Nat),es.map (·.key)=ks.map orgV->(∀e∈es,e.val= .bool true)->
 ∃r,(Instr.findAsking te (orgV o) es i).run P w= .ok r w/\(ks.contains o=true->∃j,r=some (j,.bool true))/\(ks.contains o=false->r=none):=by
 intro es
 induction es with
 |nil=>
  intro ks i h _;have:ks=[]:=by simpa using h.symm
  subst this;exact⟨none,by simp [Instr.findAsking],by simp,fun _=>rfl⟩
 |cons e es ih=>
  intro ks i h hv;cases ks with
  |nil=>simp at h
  |cons k ks=>
   simp only [List.map_cons,List.cons.injEq] at h;obtain⟨h1,h2⟩:=h;obtain⟨r,hr,p1,p2⟩:=ih ks (i+1) h2 (fun x hx=>hv x (List.mem_cons_of_mem _ hx));by_cases hk:o=k
   ·subst hk;refine⟨some (i,.bool true),?_,fun _=>⟨i,rfl⟩,by simp⟩;unfold Instr.findAsking;simp [h1,xMV T,Result.andThen,hv e List.mem_cons_self]
   ·have hb:(o==k)=false:=by simpa using hk
    refine⟨r,?_,fun hc=>p1 ?_,fun hc=>p2 ?_⟩
    ·unfold Instr.findAsking;simp [h1,xMV T,Result.andThen,hb,hr]
    ·rw [List.contains_cons,hb,Bool.false_or] at hc;exact hc
    ·rw [List.contains_cons,hb,Bool.false_or] at hc;exact hc
theorem xN6(o:Org)(es:List MapEntry)(ks:List Org)(h:es.map (·.key)=ks.map orgV)(hv:∀e∈es,e.val= .bool true):
 ∃r,(Instr.findKey te (orgV o) es).run P w= .ok r w/\(ks.contains o=true->∃j,r=some (j,.bool true))/\(ks.contains o=false->r=none):=by
 cases es with
 |nil=>
  have:ks=[]:=by simpa using h.symm
  subst this;exact⟨none,by simp [Instr.findKey,run_underlying T.key,Instr.findNow,Result.andThen],by simp,fun _=>rfl⟩
 |cons e es=>
  cases ks with
  |nil=>simp at h
  |cons k ks=>
   obtain⟨r,hr,p⟩:=xOU T (w:=w) o (e::es) (k::ks) 0 h hv;refine⟨r,?_,p⟩;have:Instr.findNow (.struct #[{ name:= "Cell",type:=ti,offset:=0,embedded:=false,tag:= "",pkgPath:= "",byteOffset:=0 },{ name:= "Row",type:=ti,offset:=1,embedded:=false,tag:= "",pkgPath:= "",byteOffset:=8 }]) (orgV o) (e::es) 0=none:=by
    simp [Instr.findNow,Instr.sameNow]
   simp [Instr.findKey,run_underlying T.key,this,Result.andThen,hr]
theorem xPh{b:Nat}{ks:List Org}(h:SetMap w b ks)(o:Org):(Instr.lookup tm (.map (some b)) (orgV o) false).run P w= .ok (.bool (ks.contains o)) w:=by
 obtain⟨es,c,h1,h2,h3⟩:=h;obtain⟨r,hr,p1,p2⟩:=xN6 T (w:=w) o es.toList ks h2 h3;unfold Instr.lookup;have hg:(getObj b).run P w= .ok (.map es c) w:=by simp [getObj,Sem.run,h1]
 have hck:(Instr.checkKey es.isEmpty 10000 te (orgV o)).run P w= .ok () w:=xLj T es.isEmpty 9998 o;cases hc:ks.contains o with
 |true=>
  obtain⟨j,rfl⟩:=p1 hc;simp [run_underlying T.map,hg,hck,hr,Result.andThen]
 |false=>
  obtain rfl:=p2 hc;simp [run_underlying T.map,hg,hck,hr,T.zero,Result.andThen]
theorem xPi{b:Nat}{ks:List Org}(h:SetMap w b ks)(o:Org)(hc:ks.contains o=false):
 ∃w',(Instr.mapUpdate tm (.map (some b)) (orgV o) (.bool true)).run P w= .ok () w' /\SetMap w' b (ks++ [o])/\w.grownBy w' (some b)/\w'.heap.size=w.heap.size:=by
 obtain⟨es,c,h1,h2,h3⟩:=h;obtain⟨r,hr,p1,p2⟩:=xN6 T (w:=w) o es.toList ks h2 h3;obtain rfl:=p2 hc;have hb:b<w.heap.size:=(Array.getElem?_eq_some_iff.1 h1).1;have hg:(getObj b).run P w= .ok (.map es c) w:=by simp [getObj,Sem.run,h1]
 have hck:(Instr.checkKey false 10000 te (orgV o)).run P w= .ok () w:=xLj T false 9998 o;have hs:∀ob,(setObj b ob).run P w= .ok () { w with heap:=w.heap.setIfInBounds b ob }:=by
  intro ob;simp [setObj,Sem.run,h1]
 refine⟨{ w with heap:=w.heap.setIfInBounds b (.map (es.push { key:=orgV o,val:= .bool true,born:=c }) (c+1)) },?_,?_,⟨rfl,rfl,rfl,by simp,fun k hk hne=> ?_⟩,by simp⟩
 ·unfold Instr.mapUpdate;simp [run_underlying T.map,hg,hck,hr,hs,Result.andThen]
 ·refine⟨_,_,by simp [hb];exact⟨rfl,rfl⟩,?_,?_⟩
  ·simp [h2]
  ·intro e he;simp at he;rcases he with he|rfl
   ·exact h3 e (by simpa using he)
   ·rfl
 ·have:b≠k:=fun e=>hne (by rw [e]);simp [Array.getElem?_setIfInBounds,this]
end
section
variable {P:Program} {te ti tm tb ts:TypeId} (w:World) {ops:Array Oper} {rest:List Oper} {o:Oper} {a:Act} {Q:Exit->Act->World->Prop}
theorem xKS(T:OrgT P te ti tm tb ts)(hg:o.guard=none)(m x:Operand)(hop:o.op=Op.lookup tm m x false)(b:Nat)(ks:List Org)(hm:a.eval m= .map (some b))(hs:SetMap w b ks)(c:Org)(hx:a.eval x=orgV c)(bv:Bool)(hbv:ks.contains c=bv)
 (hK:wpList P ops Q rest (a.put o.dst (.bool bv)) w):wpList P ops Q (o::rest) a w:=by
 refine wpList_plain hg fun K' hK' => ?_;have hrun:=xPh T hs c;rw [hbv] at hrun;unfold Oper.wp;simp [execOp,hop,hm,hx,hrun,Result.andThen];exact hK' _ _ hK
theorem xNp(T:OrgT P te ti tm tb ts)(hg:o.guard=none)(m x v:Operand)(hop:o.op=Op.mapUpdate tm m x v)(b:Nat)(ks:List Org)(hm:a.eval m= .map (some b))(hs:SetMap w b ks)(c:Org)(hx:a.eval x=orgV c)(hv:a.eval v= .bool true)
 (hc:ks.contains c=false) (hK:∀w',SetMap w' b (ks++ [c])->w.grownBy w' (some b)->w'.heap.size=w.heap.size->wpList P ops Q rest (a.put o.dst undef) w'):wpList P ops Q (o::rest) a w:=by
 refine wpList_plain hg fun K' hK' => ?_;obtain⟨w',hrun,r1,r2,r3⟩:=xPi T hs c hc;unfold Oper.wp;simp [execOp,hop,hm,hx,hv,hrun,Result.andThen];exact hK' _ _ (hK w' r1 r2 r3)
end
def orgs(os:List Org):List Value:=os.flatMap zAu
theorem xMU:∀os:List Org,(orgs os).length=os.length*2
 | []=>rfl
 |o::os=>by
  show(zAu o++orgs os).length=_;rw [jA,xMU os];simp [zAu];omega
theorem xWW(a b:List Org):orgs (a++b)=orgs a++orgs b:=List.flatMap_append
theorem xNk:∀(os:List Org) (m:Nat) (hm:m<os.length) (k:Nat) (hk:k<2),(orgs os)[m*2+k]? =some ((zAu os[m])[k]'hk)
 | [],m,hm,_,_=>absurd hm (by simp)
 |o::os,0,hm,k,hk=>by
  show(zAu o++orgs os)[0*2+k]? =_;rw [Nat.zero_mul,Nat.zero_add,List.getElem?_append_left hk];exact List.getElem?_eq_getElem hk
 |o::os,m+1,hm,k,hk=>by
  show(zAu o++orgs os)[(m+1)*2+k]? =_;rw [List.getElem?_append_right (by show 2<=_;omega)];have e:(m+1)*2+k - (zAu o).length=m*2+k:=by show(m+1)*2+k - 2=_;omega
  rw [e];exact xNk os m (by simpa using hm) k hk
theorem xWX(os:List Org):∀u∈orgs os,u.oneCell' =true:=by
 intro u hu;obtain⟨o,_,hu⟩:=List.mem_flatMap.1 hu;simp only [zAu,List.mem_cons,List.not_mem_nil,or_false] at hu;rcases hu with rfl|rfl <;>rfl
def RowIn(w:World)(v:Value)(os:List Org):Prop:=
 ∃p c,v= .slice p os.length c/\(os=[]\/∃a:Addr,p=some a/\a.block<w.heap.size/\∀j u,(orgs os)[j]? =some u->w.cell? (a.add j)=some u)
theorem xOB{P:Program}(w:World)(t ty e:TypeId)(i:TypeInfo)(ht:P.underlying t=some (.slice e))(hi:P.info? e=some i)(b:Option Addr)(n cap c:Nat)(h:n<=cap):
 (Builtin.append_ #[t,t] ty #[.slice b n cap,.slice none 0 c]).run P w= .ok (.slice b n cap) w:=by
 cases b with
 |none=>simp [Builtin.append_,run_underlying ht,sizeOf,typeInfo,hi,Builtin.lenOf,Builtin.firstCells,h,Result.andThen]
 |some ad=>simp [Builtin.append_,run_underlying ht,sizeOf,typeInfo,hi,Builtin.lenOf,Builtin.firstCells,storeCells,h,Result.andThen]
def OwnRow(w:World)(te g cap:Nat)(xs:List Org):Prop:=
 ∃cur,w.heap[g]? =some (.cells cur te (0,0))/\xs.length<=cap/\cap<=maxLen/\cur.size=cap*2/\cur.toList.take (xs.length*2)=orgs xs
theorem OwnRow.kept{w w' :World}{te g cap:Nat}{xs:List Org}(h:OwnRow w te g cap xs)(e:w'.heap[g]? =w.heap[g]?):OwnRow w' te g cap xs:=by
 obtain⟨cur,h1,h2⟩:=h;exact⟨cur,e.trans h1,h2⟩
theorem OwnRow.lt{w:World}{te g cap:Nat}{xs:List Org}(h:OwnRow w te g cap xs):g<w.heap.size:=by
 obtain⟨cur,h1,h2⟩:=h;exact(Array.getElem?_eq_some_iff.1 h1).1
theorem OwnRow.cell{w:World}{te g cap:Nat}{xs:List Org}(h:OwnRow w te g cap xs){j:Nat}{u:Value}(hj:(orgs xs)[j]? =some u):w.cell? ⟨g,j,none⟩=some u:=by
 obtain⟨cur,h1,h2,h3,h4,h5⟩:=h;simp only [World.cell?,h1];rw [<-h5,List.getElem?_take] at hj;split at hj
 ·simpa using hj
 ·cases hj
theorem OwnRow.org{w:World}{te g cap:Nat}{xs:List Org}(h:OwnRow w te g cap xs):OrgRow w g cap xs:=by
 have hc:=fun j u=>h.cell (j:=j) (u:=u);obtain⟨cur,h1,h2,h3,h4,h5⟩:=h;refine⟨h2,cur,te,0,0,h1,h4.symm,fun o a b=>by omega,fun m hm k hk=> ?_⟩;have:=hc _ _ (xNk xs m hm k hk);simpa [World.cell?,h1] using this
theorem xRb{P:Program}{te ti tm tb ts:TypeId}(T:OrgT P te ti tm tb ts)(w:World)(ty:Nat)(i:TypeInfo)(hi:P.info? te=some i){z:Value}(hz:i.zero=some z)(hsize:i.size=2)(hby:i.bytes=16)(hzs:z.cells.size=2)
 {g cap:Nat} {xs:List Org} (hown:OwnRow w te g cap xs) {u:Value} {ys:List Org} (hin:RowIn w u ys) (hlen:xs.length+ys.length<=1000000000000):
 ∃g' cap' w',(Builtin.append_ #[ts,ts] ty #[.slice (some ⟨g,0,none⟩) xs.length cap,u]).run P w= .ok (.slice (some ⟨g',0,none⟩) (xs++ys).length cap') w' /\OwnRow w' te g' cap' (xs++ys)/\w.grownBy w' (some g)/\(g' =g\/g' =w.heap.size):=by
 obtain⟨p,c,rfl,hp⟩:=hin
 have hown0:w.ownsRow 0 te 2 (.slice (some ⟨g,0,none⟩) xs.length cap) xs.length (orgs xs):=by
  obtain⟨cur,h1,h2,h3,h4,h5⟩:=hown;exact⟨xMU xs,.inr ⟨g,cap,cur,rfl,Nat.zero_le _,h1,h2,h3,h4,h5⟩⟩
 have main:∀ad:Addr,(∀j u,(orgs ys)[j]? =some u->w.cell? (ad.add j)=some u)->∃g' cap' w',(Builtin.append_ #[ts,ts] ty #[.slice (some ⟨g,0,none⟩) xs.length cap,.slice (some ad) ys.length c]).run P w= .ok (.slice (some ⟨g',0,none⟩) (xs++ys).length cap') w' /\
  OwnRow w' te g' cap' (xs++ys)/\w.grownBy w' (some g)/\(g' =g\/g' =w.heap.size):=by
  intro ad had;obtain⟨v',w',hr,h2,h3,h4,h5⟩:=run_append_own_at (P:=P) w 0 ts ty te i z 2 16 T.slice hi hz hsize hby hzs (by decide) _ xs.length (orgs xs) hown0 ad ys.length c (orgs ys) (xMU ys) had (xWX ys) (by unfold maxLen;omega) (by omega) (Nat.zero_le _);rcases h2.2 with ⟨rfl,_⟩|⟨g',cap',cur,rfl,_,q1,q2,q3,q4,q5⟩
  ·have:=h4.1 rfl;exact absurd this.1 (by simp)
  ·refine⟨g',cap',w',by rw [hr,List.length_append],⟨cur,q1,by rw [jA];exact q2,q3,q4,by rw [jA,xWW];exact q5⟩,h3,?_⟩;simpa [Value.ownBlock] using h5
 rcases hp with hnil|⟨ad,rfl,_,had⟩
 ·subst hnil;cases p with
  |some ad=>exact main ad (fun j u h=>by simp [orgs] at h)
  |none=>
   have hn:xs.length<=cap:=by obtain⟨cur,h1,h2,_⟩:=hown;exact h2
   refine⟨g,cap,w,?_,by rw [List.append_nil];exact hown,⟨rfl,rfl,rfl,Nat.le_refl _,fun _ _ _=>rfl⟩,.inl rfl⟩;rw [List.append_nil];exact xOB w ts ty te i T.slice hi (some ⟨g,0,none⟩) xs.length cap c hn
 ·exact main ad had
theorem xJb{P:Program}{te ti tm tb ts:TypeId}(w:World){ops:Array Oper}{rest:List Oper}{o:Oper}{a:Act}{Q:Exit->Act->World->Prop}(T:OrgT P te ti tm tb ts)(hg:o.guard=none)(s x:Operand)
 (hop:o.op= .call { callee:= .builtin .append,args:= #[s,x],argTypes:= #[ts,ts] }) (i:TypeInfo) (hi:P.info? te=some i) {z:Value} (hz:i.zero=some z) (hsize:i.size=2) (hby:i.bytes=16) (hzs:z.cells.size=2)
 (g cap:Nat) (xs:List Org) (hs:a.eval s= .slice (some ⟨g,0,none⟩) xs.length cap) (hown:OwnRow w te g cap xs) (u:Value) (hx:a.eval x=u) (ys:List Org) (hin:RowIn w u ys) (hlen:xs.length+ys.length<=1000000000000)
 (hK:∀g' cap' w',OwnRow w' te g' cap' (xs++ys)->w.grownBy w' (some g)->(g' =g\/g' =w.heap.size)->wpList P ops Q rest (a.put o.dst (.slice (some ⟨g',0,none⟩) (xs++ys).length cap')) w'):
 wpList P ops Q (o::rest) a w:=by
 refine wpList_plain hg fun K' hK' => ?_;obtain⟨g',cap',w',hr,h2,h3,h4⟩:=xRb (P:=P) T w o.type i hi hz hsize hby hzs hown hin hlen;unfold Oper.wp execOp;simp only [hop,resolve,invoke,builtin,Sem.run_bind,Sem.run_pure,Result.andThen_ok,List.map_toArray,List.map_cons,List.map_nil,hs,hx,hr];exact hK' _ _ (hK g' cap' w' h2 h3 h4)
theorem RowIn.kept{w w' :World}{v:Value}{os:List Org}(h:RowIn w v os)(hs:w.heap.size<=w'.heap.size)(ho:∀b,b<w.heap.size->w'.heap[b]? =w.heap[b]?):RowIn w' v os:=by
 obtain⟨p,c,rfl,h⟩:=h;refine⟨p,c,rfl,h.imp id ?_⟩;rintro ⟨a,rfl,ha,hc⟩;refine⟨a,rfl,by omega,fun j u hj=> ?_⟩;rw [<-hc j u hj];have e:(a.add j).block=a.block:=by unfold Addr.add;split <;>rfl
 simp only [World.cell?,e,ho _ ha]
theorem xG1{w:World}{o:Obj}{b:Nat}(hb:b<w.heap.size):(w.alloc o).heap[b]? =w.heap[b]? :=Below.heap_alloc w o b hb
theorem xFz(w:World)(o:Obj):(w.alloc o).heap.size=w.heap.size+1:=Array.size_push _
theorem RowIn.below{w w' :World}{v:Value}{os:List Org}(h:RowIn w v os)(hb:Below w.heap.size w w'):RowIn w' v os:=h.kept hb.size hb.block
theorem set4(w:World)(o1 o2 o3:Obj)(te:TypeId):OwnRow ((((w.alloc o1).alloc o2).alloc o3).alloc (.cells #[] te)) te (w.heap.size+1+1+1) 0 []:=by
 refine⟨#[],?_,Nat.le_refl _,by decide,rfl,rfl⟩;have e:w.heap.size+1+1+1=(((w.alloc o1).alloc o2).alloc o3).heap.size:=by rw [xFz,xFz,xFz]
 rw [e];show(Array.push _ _)[_]? =_;rw [Array.getElem?_push,if_pos rfl]
theorem xU2(w:World)(o1 o2 o3 o4:Obj):Below w.heap.size w ((((w.alloc o1).alloc o2).alloc o3).alloc o4):=
 ((((Below.refl w.heap.size w).alloc (Nat.le_refl _) o1).alloc (by rw [xFz];omega) o2).alloc (by rw [xFz,xFz];omega) o3).alloc (by rw [xFz,xFz,xFz];omega) o4
theorem xTC(os:List Org)(k:Nat)(hk:k<os.length):ded (os.take (k+1))=zIy (ded (os.take k)) os[k]:=by
 unfold ded;rw [List.take_succ_eq_append_getElem hk,List.foldl_append]
 rfl
theorem xU5(os:List Org):(ded os).length<=os.length:=by
 unfold ded;have:∀(os acc:List Org),(os.foldl zIy acc).length<=acc.length+os.length:=by
  intro os
  induction os with
  |nil=>intro acc;simp
  |cons o os ih=>
   intro acc;rw [List.foldl_cons];refine Nat.le_trans (ih _) ?_;unfold zIy;split <;>simp <;>omega
 simpa using this os []
structure URel (w:World) (te ts B S ga ca:Nat) (all:List Org) (k g cap:Nat) (wr:World):Prop where
 set:SetMap wr B (ded (all.take k))
 box:wr.heap[B+1+1]? =some (.cells #[.slice (some ⟨g,0,none⟩) (ded (all.take k)).length cap] ts (0,0))
 row:OwnRow wr te g cap (ded (all.take k))
 all:OwnRow wr te ga ca all
 below:Below B w wr
 size:S<=wr.heap.size
 hg:g=B+1\/S<=g
 hga:B+3<=ga/\ga<S
theorem URel.cell{w wr:World}{te ts B S ga ca k g cap:Nat}{all:List Org}(h:URel w te ts B S ga ca all k g cap wr):wr.cell? ⟨B+1+1,0,none⟩=some (.slice (some ⟨g,0,none⟩) (ded (all.take k)).length cap):=by
 simp [World.cell?,h.box]
theorem URel.old{w wr:World}{te ts B S ga ca k g cap:Nat}{all:List Org}(h:URel w te ts B S ga ca all k g cap wr)(hk:k<all.length)(hc:(ded (all.take k)).contains all[k]=true)(o:Obj):URel w te ts B S ga ca all (k+1) g cap (wr.alloc o):=by
 have hsz:=h.size;have hal:∀b,b<wr.heap.size->(wr.alloc o).heap[b]? =wr.heap[b]? :=fun b hb=>xG1 (by omega);have e:ded (all.take (k+1))=ded (all.take k):=by rw [xTC _ _ hk];unfold zIy;rw [if_pos hc]
 have h1:=h.hga;refine⟨by rw [e];exact h.set.kept (hal _ (by omega)),by rw [e,hal _ (by omega)];exact h.box,by rw [e];exact h.row.kept (hal _ h.row.lt),h.all.kept (hal _ h.all.lt),h.below.alloc (by omega) _,by rw [xFz];omega,h.hg,h1⟩
theorem xTv{w:World}{b:Nat}{v0 v:Value}{ty:TypeId}(h:w.heap[b]? =some (.cells #[v0] ty (0,0))):(w.setCell ⟨b,0,none⟩ v).heap[b]? =some (.cells #[v] ty (0,0))/\∀k,k≠b->(w.setCell ⟨b,0,none⟩ v).heap[k]? =w.heap[k]? :=by
 refine⟨?_,fun k hk=>Below.heap_setCell w _ v k hk⟩;have hb:b<w.heap.size:=(Array.getElem?_eq_some_iff.1 h).1;simp [World.setCell,Array.getElem?_modify,h]
theorem URel.new{w wr w2 w4:World}{te ts B S ga ca k g cap g' cap' :Nat}{all:List Org}(h:URel w te ts B S ga ca all k g cap wr)(hk:k<all.length)(hc:(ded (all.take k)).contains all[k]=false){o1 o3:Obj}
 (s2:SetMap w2 B (ded (all.take k)++ [all[k]])) (g2:(wr.alloc o1).grownBy w2 (some B)) (z2:w2.heap.size=(wr.alloc o1).heap.size)
 (r4:OwnRow w4 te g' cap' (ded (all.take k)++ [all[k]])) (g4:(w2.alloc o3).grownBy w4 (some g)) (hg' :g' =g\/g' =(w2.alloc o3).heap.size):
 URel w te ts B S ga ca all (k+1) g' cap' (w4.setCell ⟨B+1+1,0,none⟩ (.slice (some ⟨g',0,none⟩) (ded (all.take k)++ [all[k]]).length cap')):=by
 have hsz:=h.size;have e:ded (all.take (k+1))=ded (all.take k)++ [all[k]]:=by rw [xTC _ _ hk];unfold zIy;rw [if_neg (by rw [hc];simp)]
 have h1:=h.hga;have h2:=h.hg;have hgl:=h.row.lt;have zs1:(wr.alloc o1).heap.size=wr.heap.size+1:=xFz _ _;have zs3:(w2.alloc o3).heap.size=w2.heap.size+1:=xFz _ _;have z4:=g4.size;have q1:∀b,b<wr.heap.size->b≠B->w2.heap[b]? =wr.heap[b]? :=fun b hb hne=>(g2.block b (by omega) (by simp;omega)).trans (xG1 (by omega));have q4:∀b,b<wr.heap.size->b≠B->b≠g->w4.heap[b]? =wr.heap[b]? :=fun b hb hne hne2=>((g4.block b (by omega) (by simp;omega)).trans (xG1 (by omega))).trans (q1 b hb hne);have hbx:w4.heap[B+1+1]? =some (.cells #[.slice (some ⟨g,0,none⟩) (ded (all.take k)).length cap] ts (0,0)):=(q4 _ (by omega) (by omega) (by omega)).trans h.box;obtain⟨b1,b2⟩:=xTv (v:= .slice (some ⟨g',0,none⟩) (ded (all.take k)++ [all[k]]).length cap') hbx;refine⟨?_,?_,?_,?_,?_,?_,?_,h1⟩
 ·rw [e];exact s2.kept ((b2 _ (by omega)).trans ((g4.block B (by omega) (by simp;omega)).trans (xG1 (by omega))))
 ·rw [e];exact b1
 ·rw [e];exact r4.kept (b2 _ (by omega))
 ·exact h.all.kept ((b2 _ (by omega)).trans (q4 _ h.all.lt (by omega) (by omega)))
 ·refine Below.setCell ?_ (by show B<=B+1+1;omega) _;refine Below.grown ?_ g4 (by omega) (fun k hk=>by cases hk;omega);refine Below.alloc ?_ (by omega) _;refine Below.grown ?_ g2 (by omega) (fun k hk=>by cases hk;omega);exact h.below.alloc (by omega) _
 ·have:(w4.setCell ⟨B+1+1,0,none⟩ (.slice (some ⟨g',0,none⟩) (ded (all.take k)++ [all[k]]).length cap')).heap.size=w4.heap.size:=by simp [World.setCell]
  omega
 ·omega
theorem URel.start{w w1 w2:World}{te ts g1 g2 c2:Nat}{xs ys:List Org}(r2:OwnRow w2 te g2 c2 ([]++xs++ys))
 (gr1:((((w.alloc (.map #[] 0)).alloc (.cells #[] te)).alloc (.cells #[.slice (some { block:=w.heap.size+1,off:=0 }) 0 0] ts)).alloc (.cells #[] te)).grownBy w1 (some (w.heap.size+1+1+1)))
 (e1:g1=w.heap.size+1+1+1\/g1=((((w.alloc (.map #[] 0)).alloc (.cells #[] te)).alloc (.cells #[.slice (some { block:=w.heap.size+1,off:=0 }) 0 0] ts)).alloc (.cells #[] te)).heap.size)
 (gr2:w1.grownBy w2 (some g1)) (e2:g2=g1\/g2=w1.heap.size):URel w te ts w.heap.size w2.heap.size g2 c2 (xs++ys) 0 (w.heap.size+1) 0 w2:=by
 generalize hA:((w.alloc (.map #[] 0)).alloc (.cells #[] te)).alloc (.cells #[.slice (some { block:=w.heap.size+1,off:=0 }) 0 0] ts)=A at gr1 e1;have za:A.heap.size=w.heap.size+3:=by rw [<-hA,xFz,xFz,xFz]
 have z4:(A.alloc (.cells #[] te)).heap.size=w.heap.size+4:=by rw [xFz,za]
 have s1:=gr1.size;have s2:=gr2.size;have a0:A.heap[w.heap.size]? =some (.map #[] 0):=by
  rw [<-hA,xG1 (by rw [xFz,xFz];omega),xG1 (by rw [xFz];omega)];show(Array.push _ _)[_]? =_;rw [Array.getElem?_push,if_pos rfl]
 have a1:A.heap[w.heap.size+1]? =some (.cells #[] te):=by
  rw [<-hA,xG1 (by rw [xFz,xFz];omega)];show(Array.push _ _)[_]? =_;rw [Array.getElem?_push,if_pos (xFz _ _).symm]
 have a2:A.heap[w.heap.size+1+1]? =some (.cells #[.slice (some { block:=w.heap.size+1,off:=0 }) 0 0] ts):=by
  rw [<-hA];show(Array.push _ _)[_]? =_;rw [Array.getElem?_push,if_pos (by rw [xFz,xFz])]
 have keep:∀b,b<w.heap.size+3->w2.heap[b]? =A.heap[b]? :=fun b hb=>
  (gr2.block b (by omega) (by simp;omega)).trans ((gr1.block b (by omega) (by simp;omega)).trans (xG1 (by omega)))
 have hd:ded ((xs++ys).take 0)=[]:=by simp [ded]
 refine⟨?_,?_,?_,by simpa using r2,?_,Nat.le_refl _,.inl rfl,by omega,?_⟩
 ·rw [hd];exact⟨#[],0,(keep _ (by omega)).trans a0,rfl,by simp⟩
 ·rw [hd];exact(keep _ (by omega)).trans a2
 ·rw [hd];exact⟨#[],(keep _ (by omega)).trans a1,Nat.le_refl _,by decide,rfl,rfl⟩
 ·refine Below.grown (Below.grown ?_ gr1 (by omega) (fun k hk=>by cases hk;omega)) gr2 (by omega) (fun k hk=>by cases hk;omega);rw [<-hA];exact xU2 w _ _ _ _
 ·exact r2.lt
theorem URel.mid{w wr w3:World}{te ts B S ga ca k g cap:Nat}{all:List Org}(h:URel w te ts B S ga ca all k g cap wr){a b:Value}(g3:(wr.alloc (.cells #[a,b] te)).grownBy w3 (some B))(z3:w3.heap.size=(wr.alloc (.cells #[a,b] te)).heap.size):
 w3.cell? ⟨B+1+1,0,none⟩=some (.slice (some ⟨g,0,none⟩) (ded (all.take k)).length cap)/\w3.cell? ⟨wr.heap.size,0,none⟩=some a/\w3.cell? ⟨wr.heap.size,1,none⟩=some b/\∀o,OwnRow (w3.alloc o) te g cap (ded (all.take k)):=by
 have hsz:=h.size;have h1:=h.hga;have h2:=h.hg;have hgl:=h.row.lt;have zs1:=xFz wr (.cells #[a,b] te);have q1:∀b,b<wr.heap.size->b≠B->w3.heap[b]? =wr.heap[b]? :=fun b hb hne=>(g3.block b (by omega) (by simp;omega)).trans (xG1 (by omega));have qn:w3.heap[wr.heap.size]? =some (.cells #[a,b] te):=by
  rw [g3.block _ (by omega) (by simp;omega)];show(Array.push _ _)[_]? =_;rw [Array.getElem?_push,if_pos rfl]
 refine⟨?_,by simp [World.cell?,qn],by simp [World.cell?,qn],fun o=> ?_⟩
 ·simp only [World.cell?,q1 (B+1+1) (by omega) (by omega),h.box]
  rfl
 ·exact h.row.kept ((xG1 (by omega)).trans (q1 g hgl (by omega)))
theorem xWk(w:World)(te:Nat)(c:Org):RowIn (w.alloc (.cells #[.int .i64 c.cell,.int .i64 c.row] te)) (.slice (some ⟨w.heap.size,0,none⟩) 1 1) [c]:=by
 refine⟨_,1,rfl,.inr ⟨_,rfl,by rw [xFz];exact Nat.lt_succ_self _,fun j u hj=> ?_⟩⟩;have hq:∀i,(w.alloc (.cells #[.int .i64 c.cell,.int .i64 c.row] te)).cell? ⟨w.heap.size,i,none⟩=(#[.int .i64 c.cell,.int .i64 c.row]:Array Value)[i]? :=fun i=>by
  have hq:(w.alloc (.cells #[.int .i64 c.cell,.int .i64 c.row] te)).heap[w.heap.size]? =some (.cells #[.int .i64 c.cell,.int .i64 c.row] te):=by
   show(Array.push _ _)[_]? =_;rw [Array.getElem?_push,if_pos rfl]
  simp only [World.cell?,hq]
  rfl
 match j,hj with
 |0,hj=>
  simp [orgs,zAu] at hj;subst hj;simp only [Addr.add];exact hq _
 |1,hj=>
  simp [orgs,zAu] at hj;subst hj;simp only [Addr.add];exact hq _
 |j+2,hj=>simp [orgs,zAu] at hj
theorem URel.mid4{w wr w3 w4:World}{te ts B S ga ca k g cap:Nat}{all:List Org}(h:URel w te ts B S ga ca all k g cap wr){o1 o3:Obj}(g3:(wr.alloc o1).grownBy w3 (some B))(z3:w3.heap.size=(wr.alloc o1).heap.size)
 (g4:(w3.alloc o3).grownBy w4 (some g)):
 w4.cell? ⟨B+1+1,0,none⟩=some (.slice (some ⟨g,0,none⟩) (ded (all.take k)).length cap)/\w4.frozen? ⟨B+1+1,0,none⟩=false:=by
 have hsz:=h.size;have h1:=h.hga;have h2:=h.hg;have hgl:=h.row.lt;have zs1:=xFz wr o1;have zs3:=xFz w3 o3
 have q:w4.heap[B+1+1]? =wr.heap[B+1+1]? :=
  (g4.block _ (by omega) (by simp;omega)).trans ((xG1 (by omega)).trans ((g3.block _ (by omega) (by simp;omega)).trans (xG1 (by omega))))
 constructor
 ·simp only [World.cell?,q,h.box]
  rfl
 ·simp [World.frozen?,q,h.box]
end Go.Ab
end
section
namespace Go.Ab
open Go.Lib Go.Extern Go.Proofs Go.Shelf Go.RowKit
variable [Inhabited Lb]
theorem vEJ{P:Program}{ρ:Ren}(L:LaysGg.n6 P ρ)(t e:TypeId)(i ie:TypeInfo)(hi:P.info? t=some i)(hd:i.desc= .slice e)(hpk:P.packed t=false)(hie:P.info? e=some ie)(ke:Nat)
 (hke:∀w,(Extern.Rtype.kind e).run P w= .ok ke w) (hnp:ie.hasPointers=false) (hby:ie.bytes=16) (f1 f2 f lf:Nat) (hf1:P.funcs.findIdx? (·.name== "internal/reflectlite" ++ ".Swapper$1")=some f1)
 (hf2:P.funcs.findIdx? (·.name== "internal/reflectlite" ++ ".Swapper$2")=some f2) (hf:P.funcs.findIdx? (·.name== "internal/reflectlite" ++ ".Swapper$9")=some f)
 (hpdq:∀xs:List Org,2<=xs.length->xs.length<=1000000000000->AbsCalls P (ρ.f 14) [.val (.v true [.clo lf [gi 4],.swp f 0 (typeHandle P e) (gi 4)]),.val (.v false [.int .i64 0]),.val (.v false [.int .i64 xs.length]),.val (.v false [.int .i64 (Lib.bitLen xs.length)]),.gbox [.sl (.lnt 0) .org xs]]
   ⟨.tup [],[[.sl (.lnt 0) .org (xs.mergeSort fun x y=> !olt y x)]],[]⟩)
 {w:World} {bo br cap:Nat} {ty:TypeId} {xs:List Org} (hlen:xs.length<=1000000000000) (hbo:w.heap[bo]? =some (.cells #[.slice (some ⟨br,0,none⟩) xs.length cap] ty (0,0))) (hbr:OrgRow w br cap xs) (hne:bo≠br)
 (hbase:∀x∈zH7,x.1<w.heap.size/\x.1≠bo/\x.1≠br/\w.heap[x.1]? =some x.2):
 Calls P (ρ.f 6) #[.iface t (.slice (some ⟨br,0,none⟩) xs.length cap),.func (.func lf) #[] #[.pointer (some ⟨bo,0,none⟩)]] w fun en w' =>en= .returned (.tuple #[])/\Sorted w bo br cap xs (xs.mergeSort fun x y=> !olt y x) w' :=by
 by_cases h2:2<=xs.length
 ·exact xOD L t e i ie hi hd hpk hie ke hke hnp hby f lf hf (by simp) h2 (by omega) (hpdq xs h2 hlen) hbo hbr hne hbase
 ·have hn:xs.length<=1:=by omega
  have hms:(xs.mergeSort fun x y=> !olt y x)=xs:=by
   match xs,hn with
   | [],_=>simp
   | [a],_=>simp
  rw [hms];have hfi:∃f0,P.funcs.findIdx? (·.name== "internal/reflectlite" ++ ".Swapper$" ++toString (swapperK xs.length ie ke))=some f0:=by
   match h:xs.length,hn with
   |0,_=>exact⟨f1,by rw [show swapperK 0 ie ke=1 from rfl];exact hf1⟩
   |1,_=>exact⟨f2,by rw [show swapperK 1 ie ke=2 from rfl];exact hf2⟩
  obtain⟨f0,hf0⟩:=hfi;refine(Any.sort_Slice_tiny L t e i ie hi hd hpk hie ke hke (some ⟨br,0,none⟩) xs.length cap hn f0 hf0 (.func lf) #[] #[.pointer (some ⟨bo,0,none⟩)] w).mono ?_;rintro en w' ⟨rfl,os,rfl⟩;have hbol:bo<w.heap.size:=(Array.getElem?_eq_some_iff.1 hbo).1;have hbrl:br<w.heap.size:=by
   obtain⟨_,cs,ty,lo,hi,h,_⟩:=hbr;exact(Array.getElem?_eq_some_iff.1 h).1
  refine⟨rfl,rfl,rfl,rfl,by rw [Sort.size_grow];omega,fun b hb _ _=>Sort.heap_grow_old _ _ hb,⟨ty,(Sort.heap_grow_old _ _ hbol).trans hbo⟩,?_⟩;obtain⟨h1,cs,ty',lo,hi',h3,h4⟩:=hbr;exact⟨h1,cs,ty',lo,hi',(Sort.heap_grow_old _ _ hbrl).trans h3,h4⟩
theorem vAI{w:World}{ok:List (Nat×Nat)->Nat->Nat->Prop}{q:List (Nat×Nat)->Value->Nat->Prop}{x:Org}{y:Value}:∀ {k:Nat} {hk:k<(Ty.org.toD x).length},RdP w ok q y ((Ty.org.toD x)[k])->y=(zAu x)[k]'hk
 |0,_,h=>by simp only [Ty.toD,List.getElem_cons_zero] at h;cases h;rfl
 |1,_,h=>by simp only [Ty.toD,List.getElem_cons_succ,List.getElem_cons_zero] at h;cases h;rfl
 |k+2,hk,_=>absurd hk (by show ¬k+2<2;omega)
end Go.Ab
end
section
namespace Go.Proofs
open Go.Shelf
def Tryz.lays125_ren:Go.Shelf.Ren:=⟨fun |125=>106|128=>142|129=>143|n=>n,fun |46=>121|3=>3|51=>140|53=>142|4=>4|5=>5|9=>9|n=>n,fun |n=>n⟩
theorem Tryz.lays125:Go.Proofs.Lays.n125 Tryz.prog Tryz.lays125_ren:= {
 mixed:=by kernel_rfl
 f125:=Tryz.func106.trans (congrArg some (by kernel_rfl))
 f128:=Tryz.func142.trans (congrArg some (by kernel_rfl))
 f129:=Tryz.func143.trans (congrArg some (by kernel_rfl))
 t3:=Tryz.underlying3
 a3:=Tryz.isAgg3
 z3:=Tryz.sizeOf3
 v3:=Tryz.zeroValue3
 t4:=Tryz.underlying4
 a4:=Tryz.isAgg4
 z4:=Tryz.sizeOf4
 v4:=Tryz.zeroValue4
 t5:=Tryz.underlying5
 a5:=Tryz.isAgg5
 z5:=Tryz.sizeOf5
 v5:=Tryz.zeroValue5
 t9:=Tryz.underlying9
 a9:=Tryz.isAgg9
 z9:=Tryz.sizeOf9
 v9:=Tryz.zeroValue9
 t46:=Tryz.underlying121
 a46:=Tryz.isAgg121
 z46:=Tryz.sizeOf121
 v46:=Tryz.zeroValue121
 t51:=Tryz.underlying140
 a51:=Tryz.isAgg140
 z51:=Tryz.sizeOf140
 v51:=Tryz.zeroValue140
 t53:=Tryz.underlying142
 a53:=Tryz.isAgg142
 z53:=Tryz.sizeOf142
 v53:=Tryz.zeroValue142 }
def Tryz.lays191_ren:Go.Shelf.Ren:=⟨fun |191=>81|189=>122|125=>106|257=>162|128=>142|129=>143|294=>175|295=>176|296=>177|297=>178|298=>179|299=>180|216=>181|300=>182|301=>183|328=>189|329=>190|330=>191|331=>192|332=>193|215=>194|343=>197|n=>n,fun |28=>42|0=>0|3=>3|46=>121|51=>140|53=>142|4=>4|183=>166|182=>165|131=>149|5=>5|9=>9|218=>174|222=>161|228=>179|229=>172|n=>n,fun |n=>n⟩
theorem Tryz.lays191:Go.Proofs.Lays.n191 Tryz.prog Tryz.lays191_ren:= {
 mixed:=by kernel_rfl
 f125:=Tryz.func106.trans (congrArg some (by kernel_rfl))
 f128:=Tryz.func142.trans (congrArg some (by kernel_rfl))
 f129:=Tryz.func143.trans (congrArg some (by kernel_rfl))
 f189:=Tryz.func122.trans (congrArg some (by kernel_rfl))
 f191:=Tryz.func81.trans (congrArg some (by kernel_rfl))
 f215:=Tryz.func194.trans (congrArg some (by kernel_rfl))
 f216:=Tryz.func181.trans (congrArg some (by kernel_rfl))
 f257:=Tryz.func162.trans (congrArg some (by kernel_rfl))
 f294:=Tryz.func175.trans (congrArg some (by kernel_rfl))
 f295:=Tryz.func176.trans (congrArg some (by kernel_rfl))
 f296:=Tryz.func177.trans (congrArg some (by kernel_rfl))
 f297:=Tryz.func178.trans (congrArg some (by kernel_rfl))
 f298:=Tryz.func179.trans (congrArg some (by kernel_rfl))
 f299:=Tryz.func180.trans (congrArg some (by kernel_rfl))
 f300:=Tryz.func182.trans (congrArg some (by kernel_rfl))
 f301:=Tryz.func183.trans (congrArg some (by kernel_rfl))
 f328:=Tryz.func189.trans (congrArg some (by kernel_rfl))
 f329:=Tryz.func190.trans (congrArg some (by kernel_rfl))
 f330:=Tryz.func191.trans (congrArg some (by kernel_rfl))
 f331:=Tryz.func192.trans (congrArg some (by kernel_rfl))
 f332:=Tryz.func193.trans (congrArg some (by kernel_rfl))
 f343:=Tryz.func197.trans (congrArg some (by kernel_rfl))
 t0:=Tryz.underlying0
 a0:=Tryz.isAgg0
 z0:=Tryz.sizeOf0
 v0:=Tryz.zeroValue0
 t3:=Tryz.underlying3
 a3:=Tryz.isAgg3
 z3:=Tryz.sizeOf3
 v3:=Tryz.zeroValue3
 t4:=Tryz.underlying4
 a4:=Tryz.isAgg4
 z4:=Tryz.sizeOf4
 v4:=Tryz.zeroValue4
 t5:=Tryz.underlying5
 a5:=Tryz.isAgg5
 z5:=Tryz.sizeOf5
 v5:=Tryz.zeroValue5
 t9:=Tryz.underlying9
 a9:=Tryz.isAgg9
 z9:=Tryz.sizeOf9
 v9:=Tryz.zeroValue9
 t28:=Tryz.underlying42
 a28:=Tryz.isAgg42
 z28:=Tryz.sizeOf42
 v28:=Tryz.zeroValue42
 t46:=Tryz.underlying121
 a46:=Tryz.isAgg121
 z46:=Tryz.sizeOf121
 v46:=Tryz.zeroValue121
 t51:=Tryz.underlying140
 a51:=Tryz.isAgg140
 z51:=Tryz.sizeOf140
 v51:=Tryz.zeroValue140
 t53:=Tryz.underlying142
 a53:=Tryz.isAgg142
 z53:=Tryz.sizeOf142
 v53:=Tryz.zeroValue142
 t131:=Tryz.underlying149
 a131:=Tryz.isAgg149
 z131:=Tryz.sizeOf149
 v131:=Tryz.zeroValue149
 t182:=Tryz.underlying165
 a182:=Tryz.isAgg165
 z182:=Tryz.sizeOf165
 v182:=Tryz.zeroValue165
 t183:=Tryz.underlying166
 a183:=Tryz.isAgg166
 z183:=Tryz.sizeOf166
 v183:=Tryz.zeroValue166
 t218:=Tryz.underlying174
 a218:=Tryz.isAgg174
 z218:=Tryz.sizeOf174
 v218:=Tryz.zeroValue174
 t222:=Tryz.underlying161
 a222:=Tryz.isAgg161
 z222:=Tryz.sizeOf161
 v222:=Tryz.zeroValue161
 t228:=Tryz.underlying179
 a228:=Tryz.isAgg179
 z228:=Tryz.sizeOf179
 v228:=Tryz.zeroValue179
 t229:=Tryz.underlying172
 a229:=Tryz.isAgg172
 z229:=Tryz.sizeOf172
 v229:=Tryz.zeroValue172 }
def Tryz.laysGg6_ren:Go.Shelf.Ren:=⟨fun |6=>63|10=>103|11=>104|12=>105|13=>106|14=>107|24=>142|25=>143|26=>144|27=>145|28=>146|29=>147|30=>148|31=>149|32=>150|33=>151|34=>166|35=>167|36=>168|37=>169|38=>170|39=>184|n=>n,fun |20=>20|26=>83|35=>115|0=>0|37=>117|3=>3|41=>121|44=>124|49=>140|51=>142|4=>4|54=>145|53=>144|58=>149|5=>5|9=>9|60=>157|64=>161|66=>171|67=>172|17=>17|32=>112|33=>113|82=>194|12=>12|75=>187|76=>188|77=>189|78=>190|79=>191|80=>192|n=>n,fun |n=>n⟩
theorem Tryz.laysGg6:Go.Proofs.LaysGg.n6 Tryz.prog Tryz.laysGg6_ren:= {
 mixed:=by kernel_rfl
 f6:=Tryz.func63.trans (congrArg some (by kernel_rfl))
 f10:=Tryz.func103.trans (congrArg some (by kernel_rfl))
 f11:=Tryz.func104.trans (congrArg some (by kernel_rfl))
 f12:=Tryz.func105.trans (congrArg some (by kernel_rfl))
 f13:=Tryz.func106.trans (congrArg some (by kernel_rfl))
 f14:=Tryz.func107.trans (congrArg some (by kernel_rfl))
 f24:=Tryz.func142.trans (congrArg some (by kernel_rfl))
 f25:=Tryz.func143.trans (congrArg some (by kernel_rfl))
 f26:=Tryz.func144.trans (congrArg some (by kernel_rfl))
 f27:=Tryz.func145.trans (congrArg some (by kernel_rfl))
 f28:=Tryz.func146.trans (congrArg some (by kernel_rfl))
 f29:=Tryz.func147.trans (congrArg some (by kernel_rfl))
 f30:=Tryz.func148.trans (congrArg some (by kernel_rfl))
 f31:=Tryz.func149.trans (congrArg some (by kernel_rfl))
 f32:=Tryz.func150.trans (congrArg some (by kernel_rfl))
 f33:=Tryz.func151.trans (congrArg some (by kernel_rfl))
 f34:=Tryz.func166.trans (congrArg some (by kernel_rfl))
 f35:=Tryz.func167.trans (congrArg some (by kernel_rfl))
 f36:=Tryz.func168.trans (congrArg some (by kernel_rfl))
 f37:=Tryz.func169.trans (congrArg some (by kernel_rfl))
 f38:=Tryz.func170.trans (congrArg some (by kernel_rfl))
 f39:=Tryz.func184.trans (congrArg some (by kernel_rfl))
 t0:=Tryz.underlying0
 a0:=Tryz.isAgg0
 z0:=Tryz.sizeOf0
 v0:=Tryz.zeroValue0
 i0:=by kernel_rfl
 t3:=Tryz.underlying3
 a3:=Tryz.isAgg3
 z3:=Tryz.sizeOf3
 v3:=Tryz.zeroValue3
 i3:=by kernel_rfl
 t4:=Tryz.underlying4
 a4:=Tryz.isAgg4
 z4:=Tryz.sizeOf4
 v4:=Tryz.zeroValue4
 i4:=by kernel_rfl
 t5:=Tryz.underlying5
 a5:=Tryz.isAgg5
 z5:=Tryz.sizeOf5
 v5:=Tryz.zeroValue5
 i5:=by kernel_rfl
 t9:=Tryz.underlying9
 a9:=Tryz.isAgg9
 z9:=Tryz.sizeOf9
 v9:=Tryz.zeroValue9
 i9:=by kernel_rfl
 t12:=Tryz.underlying12
 a12:=Tryz.isAgg12
 z12:=Tryz.sizeOf12
 v12:=Tryz.zeroValue12
 i12:=by kernel_rfl
 t17:=Tryz.underlying17
 a17:=Tryz.isAgg17
 z17:=Tryz.sizeOf17
 v17:=Tryz.zeroValue17
 i17:=by kernel_rfl
 t20:=Tryz.underlying20
 a20:=Tryz.isAgg20
 z20:=Tryz.sizeOf20
 v20:=Tryz.zeroValue20
 i20:=by kernel_rfl
 t26:=Tryz.underlying83
 a26:=Tryz.isAgg83
 z26:=Tryz.sizeOf83
 v26:=Tryz.zeroValue83
 i26:=by kernel_rfl
 t32:=Tryz.underlying112
 a32:=Tryz.isAgg112
 z32:=Tryz.sizeOf112
 v32:=Tryz.zeroValue112
 i32:=by kernel_rfl
 t33:=Tryz.underlying113
 a33:=Tryz.isAgg113
 z33:=Tryz.sizeOf113
 v33:=Tryz.zeroValue113
 i33:=by kernel_rfl
 t35:=Tryz.underlying115
 a35:=Tryz.isAgg115
 z35:=Tryz.sizeOf115
 v35:=Tryz.zeroValue115
 i35:=by kernel_rfl
 t37:=Tryz.underlying117
 a37:=Tryz.isAgg117
 z37:=Tryz.sizeOf117
 v37:=Tryz.zeroValue117
 i37:=by kernel_rfl
 t41:=Tryz.underlying121
 a41:=Tryz.isAgg121
 z41:=Tryz.sizeOf121
 v41:=Tryz.zeroValue121
 i41:=by kernel_rfl
 t44:=Tryz.underlying124
 a44:=Tryz.isAgg124
 z44:=Tryz.sizeOf124
 v44:=Tryz.zeroValue124
 i44:=by kernel_rfl
 t49:=Tryz.underlying140
 a49:=Tryz.isAgg140
 z49:=Tryz.sizeOf140
 v49:=Tryz.zeroValue140
 i49:=by kernel_rfl
 t51:=Tryz.underlying142
 a51:=Tryz.isAgg142
 z51:=Tryz.sizeOf142
 v51:=Tryz.zeroValue142
 i51:=by kernel_rfl
 t53:=Tryz.underlying144
 a53:=Tryz.isAgg144
 z53:=Tryz.sizeOf144
 v53:=Tryz.zeroValue144
 i53:=by kernel_rfl
 t54:=Tryz.underlying145
 a54:=Tryz.isAgg145
 z54:=Tryz.sizeOf145
 v54:=Tryz.zeroValue145
 i54:=by kernel_rfl
 t58:=Tryz.underlying149
 a58:=Tryz.isAgg149
 z58:=Tryz.sizeOf149
 v58:=Tryz.zeroValue149
 i58:=by kernel_rfl
 t60:=Tryz.underlying157
 a60:=Tryz.isAgg157
 z60:=Tryz.sizeOf157
 v60:=Tryz.zeroValue157
 i60:=by kernel_rfl
 t64:=Tryz.underlying161
 a64:=Tryz.isAgg161
 z64:=Tryz.sizeOf161
 v64:=Tryz.zeroValue161
 i64:=by kernel_rfl
 t66:=Tryz.underlying171
 a66:=Tryz.isAgg171
 z66:=Tryz.sizeOf171
 v66:=Tryz.zeroValue171
 i66:=by kernel_rfl
 t67:=Tryz.underlying172
 a67:=Tryz.isAgg172
 z67:=Tryz.sizeOf172
 v67:=Tryz.zeroValue172
 i67:=by kernel_rfl
 t75:=Tryz.underlying187
 a75:=Tryz.isAgg187
 z75:=Tryz.sizeOf187
 v75:=Tryz.zeroValue187
 i75:=by kernel_rfl
 t76:=Tryz.underlying188
 a76:=Tryz.isAgg188
 z76:=Tryz.sizeOf188
 v76:=Tryz.zeroValue188
 i76:=by kernel_rfl
 t77:=Tryz.underlying189
 a77:=Tryz.isAgg189
 z77:=Tryz.sizeOf189
 v77:=Tryz.zeroValue189
 i77:=by kernel_rfl
 t78:=Tryz.underlying190
 a78:=Tryz.isAgg190
 z78:=Tryz.sizeOf190
 v78:=Tryz.zeroValue190
 i78:=by kernel_rfl
 t79:=Tryz.underlying191
 a79:=Tryz.isAgg191
 z79:=Tryz.sizeOf191
 v79:=Tryz.zeroValue191
 i79:=by kernel_rfl
 t80:=Tryz.underlying192
 a80:=Tryz.isAgg192
 z80:=Tryz.sizeOf192
 v80:=Tryz.zeroValue192
 i80:=by kernel_rfl
 t82:=Tryz.underlying194
 a82:=Tryz.isAgg194
 z82:=Tryz.sizeOf194
 v82:=Tryz.zeroValue194
 i82:=by kernel_rfl }
end Go.Proofs
end
section
open Go.Proofs
namespace Go.Ab.T
variable [Inhabited Lb]
abbrev AbC(f:FuncId)(a:List Arg)(r:CallO):Prop:=AbsCalls Tryz.prog f a r
abbrev W(x:Int):Int:=IntKind.i64.wrap x
abbrev Ln{α:Type}(l:List α):Nat:=List.length l
abbrev tN(x:Int):Nat:=Int.toNat x
abbrev gD{α:Type}(l:List α)(i:Nat)(d:α):α:=List.getD l i d
abbrev iY(b:Bool):Prop:=b=true
abbrev iN(b:Bool):Prop:=b=false
abbrev dc(p:Prop) [Decidable p]:Bool:=decide p
abbrev vd:Val:=Ty.val.dflt
abbrev rd:Rowd:=Ty.row.dflt
end Go.Ab.T
end
section
open Go.Proofs
namespace Go.Ab.T
set_option maxRecDepth 100000
variable [Inhabited Lb]
def tt:TT:=[(3,{ zero:=some [.int .i64 0],ik:=some .i64 }),
 (4,{ zero:=some [.bool false],isBool:=true }),
 (5,{ zero:=some [.int .u8 0],ik:=some .u8 }),
 (9,{ zero:=some [.str []],isStr:=true }),
 (22,{ zero:=some [.sl .own .val []],elem:=some (26,.val) }),
 (23,{ zero:=some [.sl .own .str []],elem:=some (9,.str) }),
 (24,{ zero:=some [.sl .own .row []],elem:=some (99,.row) }),
 (26,{ sz:=7,agg:=true,zero:=some [.int .i64 0,.int .i64 0,.int .i64 0,.str [],.sl .own .val [],.sl .own .str [],.sl .own .row []],offs:=[0,1,2,3,4,5,6],fsz:=[1,1,1,1,1,1,1] }),
 (28,{ zero:=some [.sl .own .val []],elem:=some (31,.val) }),
 (29,{ zero:=some [.sl .own .row []],elem:=some (45,.row) }),
 (31,{ sz:=7,agg:=true,zero:=some [.int .i64 0,.int .i64 0,.int .i64 0,.str [],.sl .own .val [],.sl .own .str [],.sl .own .row []],offs:=[0,1,2,3,4,5,6],fsz:=[1,1,1,1,1,1,1] }),
 (37,{ zero:=some [.sl .own .byte []],elem:=some (5,.byte) }),
 (42,{ zero:=some [.sl .own .int []],elem:=some (3,.int) }),
 (43,{ zero:=some [.sl .own .org []],elem:=some (80,.org) }),
 (45,{ sz:=2,agg:=true,zero:=some [.sl .own .int [],.sl .own .org []],offs:=[0,1],fsz:=[1,1] }),
 (80,{ sz:=2,agg:=true,zero:=some [.int .i64 0,.int .i64 0],offs:=[0,1],fsz:=[1,1],same:=true }),
 (83,{ zero:=some [.val .nilFunc],isFn:=true }),
 (97,{ zero:=some [.sl .own .org []],elem:=some (155,.org) }),
 (99,{ sz:=2,agg:=true,zero:=some [.sl .own .int [],.sl .own .org []],offs:=[0,1],fsz:=[1,1] }),
 (109,{ sz:=3,agg:=true,zero:=some [.sl .own .byte [],.int .i64 0,.int .i64 0],offs:=[0,1,2],fsz:=[1,1,1] }),
 (117,{ zero:=some [.val .nilFunc],isFn:=true }),
 (121,{ zero:=some [.int .u64 0],ik:=some .u64 }),
 (124,{ sz:=2,agg:=true,zero:=some [.val .nilFunc,.val .nilFunc],offs:=[0,1],fsz:=[1,1] }),
 (142,{ zero:=some [.int .u64 0],ik:=some .u64 }),
 (144,{ zero:=some [.int .i64 0],ik:=some .i64 }),
 (155,{ sz:=2,agg:=true,zero:=some [.int .i64 0,.int .i64 0],offs:=[0,1],fsz:=[1,1],same:=true }),
 (157,{ zero:=some [.int .u64 0],ik:=some .u64 })]
theorem ttok:TTok Tryz.prog tt:=zJl (by kernel_rfl)
theorem mix:Tryz.prog.follows .mixedOrders=true:=by kernel_rfl
def F:Bool:=false
def cl(r:CallO):CallO:=⟨r.res,r.outs,[.clo 0 []]⟩
def Y:Bool:=true
noncomputable def rE (I:Info) (ag:List Arg) (bs:List Bool) (cs:List CallO):Option Res:=run tt (AbsCalls Tryz.prog) I 3000 false [.code I.body] ⟨zA9 0 ag,bs,cs,[]⟩
noncomputable def rS (k:Nat) (I:Info) (σ:St) (bs:List Bool) (cs:List CallO):Option Res:=run tt (AbsCalls Tryz.prog) I 3000 true (stkAt k I.body) ⟨σ,bs,cs,[]⟩
noncomputable def dn (r:CallO) (ob:List Prop):Option Res:=some (.done r ob)
noncomputable def st (k:Nat) (I:Info) (σ:St) (ob:List Prop):Option Res:=some (.stop (stkAt k I.body) σ ob)
def RE(fn:Func)(I:Info)(ag:List Arg)(r:CallO):Prop:=Reach Tryz.prog fn I [.code I.body] (zA9 0 ag) r
def RS(fn:Func)(I:Info)(k:Nat)(σ:St)(r:CallO):Prop:=Reach Tryz.prog fn I (stkAt k I.body) σ r
section
variable {ρ:Type} {f:FuncId} {fn:Func} {I:Info} {ag:List Arg} {bs:List Bool} {cs:List CallO} {k j:Nat} {σ σ' :St} {ob:List Prop} {ro:ρ->CallO} {x r:ρ} {q:CallO}
theorem dE(e:some x=some r)(hf:FnOk Tryz.prog f fn I)(h:rE I ag bs cs=dn (ro x) ob)(o:∀p∈ob,p):RE fn I ag (ro r):=by
 cases e;exact Reach.done ttok mix hf h o
theorem dS(e:some x=some r)(hf:FnOk Tryz.prog f fn I)(h:rS k I σ bs cs=dn (ro x) ob)(o:∀p∈ob,p):RS fn I k σ (ro r):=by
 cases e;exact Reach.done ttok mix hf h o
theorem tE(hf:FnOk Tryz.prog f fn I)(h:rE I ag bs cs=st k I σ ob)(o:∀p∈ob,p)(t:RS fn I k σ q):RE fn I ag q:=Reach.stop ttok mix hf h o t
theorem tS(hf:FnOk Tryz.prog f fn I)(h:rS j I σ' bs cs=st k I σ ob)(o:∀p∈ob,p)(t:RS fn I k σ q):RS fn I j σ' q:=Reach.stop ttok mix hf h o t
end
theorem oc{p:Prop}{l:List Prop}(h:p)(t:∀q∈l,q):∀q∈p::l,q:=zJk h t
theorem on:∀q∈([]:List Prop),q:=zJq
theorem oc2{p0 p1:Prop}{l:List Prop}(h0:p0)(h1:p1)(t:∀q∈l,q):∀q∈p0::p1::l,q:=oc h0 (oc h1 t)
theorem oc3{p0 p1 p2:Prop}{l:List Prop}(h0:p0)(h1:p1)(h2:p2)(t:∀q∈l,q):∀q∈p0::p1::p2::l,q:=oc h0 (oc2 h1 h2 t)
theorem oc4{p0 p1 p2 p3:Prop}{l:List Prop}(h0:p0)(h1:p1)(h2:p2)(h3:p3)(t:∀q∈l,q):∀q∈p0::p1::p2::p3::l,q:=oc h0 (oc3 h1 h2 h3 t)
theorem oc5{p0 p1 p2 p3 p4:Prop}{l:List Prop}(h0:p0)(h1:p1)(h2:p2)(h3:p3)(h4:p4)(t:∀q∈l,q):∀q∈p0::p1::p2::p3::p4::l,q:=oc h0 (oc4 h1 h2 h3 h4 t)
theorem oc6{p0 p1 p2 p3 p4 p5:Prop}{l:List Prop}(h0:p0)(h1:p1)(h2:p2)(h3:p3)(h4:p4)(h5:p5)(t:∀q∈l,q):∀q∈p0::p1::p2::p3::p4::p5::l,q:=oc h0 (oc5 h1 h2 h3 h4 h5 t)
theorem oc7{p0 p1 p2 p3 p4 p5 p6:Prop}{l:List Prop}(h0:p0)(h1:p1)(h2:p2)(h3:p3)(h4:p4)(h5:p5)(h6:p6)(t:∀q∈l,q):∀q∈p0::p1::p2::p3::p4::p5::p6::l,q:=oc h0 (oc6 h1 h2 h3 h4 h5 h6 t)
theorem oc8{p0 p1 p2 p3 p4 p5 p6 p7:Prop}{l:List Prop}(h0:p0)(h1:p1)(h2:p2)(h3:p3)(h4:p4)(h5:p5)(h6:p6)(h7:p7)(t:∀q∈l,q):∀q∈p0::p1::p2::p3::p4::p5::p6::p7::l,q:=oc h0 (oc7 h1 h2 h3 h4 h5 h6 h7 t)
theorem oc9{p0 p1 p2 p3 p4 p5 p6 p7 p8:Prop}{l:List Prop}(h0:p0)(h1:p1)(h2:p2)(h3:p3)(h4:p4)(h5:p5)(h6:p6)(h7:p7)(h8:p8)(t:∀q∈l,q):∀q∈p0::p1::p2::p3::p4::p5::p6::p7::p8::l,q:=oc h0 (oc8 h1 h2 h3 h4 h5 h6 h7 h8 t)
theorem oc10{p0 p1 p2 p3 p4 p5 p6 p7 p8 p9:Prop}{l:List Prop}(h0:p0)(h1:p1)(h2:p2)(h3:p3)(h4:p4)(h5:p5)(h6:p6)(h7:p7)(h8:p8)(h9:p9)(t:∀q∈l,q):∀q∈p0::p1::p2::p3::p4::p5::p6::p7::p8::p9::l,q:=oc h0 (oc9 h1 h2 h3 h4 h5 h6 h7 h8 h9 t)
theorem oc11{p0 p1 p2 p3 p4 p5 p6 p7 p8 p9 p10:Prop}{l:List Prop}(h0:p0)(h1:p1)(h2:p2)(h3:p3)(h4:p4)(h5:p5)(h6:p6)(h7:p7)(h8:p8)(h9:p9)(h10:p10)(t:∀q∈l,q):∀q∈p0::p1::p2::p3::p4::p5::p6::p7::p8::p9::p10::l,q:=oc h0 (oc10 h1 h2 h3 h4 h5 h6 h7 h8 h9 h10 t)
theorem oc12{p0 p1 p2 p3 p4 p5 p6 p7 p8 p9 p10 p11:Prop}{l:List Prop}(h0:p0)(h1:p1)(h2:p2)(h3:p3)(h4:p4)(h5:p5)(h6:p6)(h7:p7)(h8:p8)(h9:p9)(h10:p10)(h11:p11)(t:∀q∈l,q):∀q∈p0::p1::p2::p3::p4::p5::p6::p7::p8::p9::p10::p11::l,q:=oc h0 (oc11 h1 h2 h3 h4 h5 h6 h7 h8 h9 h10 h11 t)
theorem cE{α:Type}{C:Prop}{b:Bool}{x y:Option α}{r:α}(h:cond b x y=some r)(f:b=true->x=some r->C)(g:b=false->y=some r->C):C:=(zJi h).elim (fun h=>f h.1 h.2) fun h=>g h.1 h.2
theorem bE{α β:Type}{C:Prop}{o:Option α}{f:α->Option β}{r:β}(h:Option.bind o f=some r)(g:∀a,o=some a->f a=some r->C):C:=(zJg h).elim fun a h=>g a h.1 h.2
theorem iE{α:Type}{C p:Prop} [Decidable p]{x:Option α}{r:α}(h:(if p then x else none)=some r)(g:p->x=some r->C):C:=(zJo h).elim g
theorem nE{α:Type}{C:Prop}{r:α}(h:none=some r):C:=nomatch h
noncomputable def I168:Info:= { body:=(Tryz.f168.body).getD .skip,nt:=33,results:=[.tmp 2],keep:=[0,4,1],live:=[],modes:=[],ext:=[0] }
theorem vFO:FnOk Tryz.prog 168 Tryz.f168 I168:=by refine⟨Tryz.func168,?_,?_,?_,?_⟩<;>kernel_rfl
abbrev xVm(v0:Int):=xorI .u64 (xorI .u64 (xorI .u64 v0 (IntKind.u64.wrap (v0*2 ^ (tN 13)))) (Int.fdiv (xorI .u64 v0 (IntKind.u64.wrap (v0*2 ^ (tN 13)))) ((2:Int) ^ (tN 7)))) (IntKind.u64.wrap ((xorI .u64 (xorI .u64 v0 (IntKind.u64.wrap (v0*2 ^ (tN 13)))) (Int.fdiv (xorI .u64 v0 (IntKind.u64.wrap (v0*2 ^ (tN 13)))) ((2:Int) ^ (tN 7))))*2 ^ (tN 17)))
def xYn(a0):rE I168 (xEB a0) [] []=dn (xDe ((xVm a0),(xVm a0))) [(0:Int)<=13/\(13:Int)<64,(0:Int)<=7/\(7:Int)<64,(0:Int)<=17/\(17:Int)<64]:=by kernel_rfl
theorem vFu{N:Nat}:∀a0 r,xFX N a0=some r->RE Tryz.f168 I168 (xEB a0) (xDe r):=fun a0 r h=>dE h vFO (xYn a0) (oc3 (by decide) (by decide) (by decide) on)
theorem xI2{N:Nat}{a0:Int}{r:Int×Int}(h:xFX N  a0=some r):AbC 168 (xEB a0) (xDe r):=
 AbsCalls.of_reach vFO rfl rfl rfl (jL rfl) (vFu a0 r h)
theorem xNM{N:Nat}{a0 r:Int}(h:xK3 N a0=some r):AbC 106 (xLf a0) (xI7 r):=
 zII (xPK Tryz.lays125) (Any.bits_Len Tryz.lays125) h
noncomputable def I167:Info:= { body:=(Tryz.f167.body).getD .skip,nt:=10,results:=[.tmp 2],keep:=[0,4,6],live:=[],modes:=[(2,[(0,.take,false)])] }
theorem vFN:FnOk Tryz.prog 167 Tryz.f167 I167:=by refine⟨Tryz.func167,?_,?_,?_,?_⟩<;>kernel_rfl
def xYm(a0 r1):rE I167 (xFy a0) [] [xI7 r1]=dn (xEi (IntKind.u64.wrap (1*2 ^ (tN (IntKind.u64.wrap (r1)))))) [AbC 106 (xLf (IntKind.u64.wrap (a0))) (xI7 r1),(0:Int)<=(IntKind.u64.wrap (r1))/\(IntKind.u64.wrap (r1))<64]:=by kernel_rfl
theorem vFt{N:Nat}:∀a0 r,xFs N a0=some r->RE Tryz.f167 I167 (xFy a0) (xEi r):=fun a0 r h=>bE h fun r1 h0 h=>iE h fun h1 h=>dE h vFN (xYm a0 r1) (oc2 (xNM h0) h1 on)
theorem xLl{N:Nat}{a0:Int}{r:Int}(h:xFs N  a0=some r):AbC 167 (xFy a0) (xEi r):=
 AbsCalls.of_reach vFN rfl rfl rfl (jL rfl) (vFt a0 r h)
theorem xAr{N:Nat}{a0 a1:Int}{a2 r:List Org}(h:xAo N a0 a1 a2=some r):AbC 141 (xAA a0 a1 a2) (xAg r):=
 zJj (run_callFunc_extern Tryz.func141 (by kernel_rfl) (by kernel_rfl) (by kernel_rfl) (by kernel_rfl)) 80 _ (Option.some_get (by kernel_rfl:(Tryz.prog.info? 80).isSome=true)).symm (by kernel_rfl) Tryz.isAgg80 h
noncomputable def xJ2:Info:= { body:=(Tryz.f148.body).getD .skip,nt:=23,results:=[],keep:=[0,2,4,6,12,14,26,2000006,7,2000007],live:=[(3,[6,12,14,2000006,7,2000007])],modes:=[],ext:=[1000003] }
theorem xMx:FnOk Tryz.prog 148 Tryz.f148 xJ2:=by refine⟨Tryz.func148,?_,?_,?_,?_⟩<;>kernel_rfl
def xKz(x6 x7:Int)(g003:List Org):St:=[(6,.v false [.ptr 3 0]),(12,.v false [.int .i64 x6]),(14,.v false [.int .i64 x7]),(7,.v true [.clo 64 [1000003],.swp 141 0 (.pointer (some ⟨0,80,none⟩)) 1000003]),(2000007,.v true [.sl (.lnt 0) .org g003])]
abbrev xHm(v0 v1:Int):Prop:=iY (dc (v0<v1))
abbrev xRA(v0 v1:Int)(v2:List Org)(v3:(List Org)):Prop:=AbC 141 (xAA v0 v1 v2) (xAg v3)
def xSd(x6 x7 g003 r1):rS 3 xJ2 (xKz x6 x7 g003) [Y] [xAg r1]=st 3 xJ2 (xKz (W (x6+1)) (W (x7 - 1)) r1) [xHm x6 x7,xRA x6 x7 g003 r1,2<=Ln g003,Ln r1=Ln g003]:=by kernel_rfl
abbrev xKt(v0 v1:Int):Prop:=iN (dc (v0<v1))
def xSe(x6 x7 g003):rS 3 xJ2 (xKz x6 x7 g003) [F] []=dn (xBy g003) [xKt x6 x7]:=by kernel_rfl
def xSf(a0 a1 a2):rE xJ2 (xCu a0 a1 a2) [] []=st 3 xJ2 (xKz a0 (W (a1 - 1)) a2) []:=by kernel_rfl
theorem xUy{N:Nat}:∀n x6 x7 g003 r,xBx N n x6 x7 g003=some r->RS Tryz.f148 xJ2 3 (xKz x6 x7 g003) (xBy r):=by
 intro n
 induction n with
 |zero=>exact fun _ _ _ _ h=>nE h
 |succ n ih=>
  exact fun x6 x7 g003 r h=>cE h (fun h0 h=>bE h fun r1 h1 h=>iE h fun h2 h=>iE h fun h3 h=>tS xMx (xSd x6 x7 g003 r1) (oc4 h0 (xAr h1) h2 h3 on) (ih _ _ _ _ h)) fun h0 h=>dS h xMx (xSe x6 x7 g003) (oc h0 on)
theorem xUz{N:Nat}:∀a0 a1 a2 r,xB7 N a0 a1 a2=some r->RE Tryz.f148 xJ2 (xCu a0 a1 a2) (xBy r):=fun a0 a1 a2 r h=>tE xMx (xSf a0 a1 a2) on (xUy _ _ _ _ _ h)
theorem xGS{N:Nat}{a0:Int}{a1:Int}{a2:List Org}{r:(List Org)}(h:xB7 N  a0 a1 a2=some r):AbC 148 (xCu a0 a1 a2) (xBy r):=
 AbsCalls.of_reach xMx rfl rfl rfl (jL rfl) (xUz a0 a1 a2 r h)
noncomputable def xH3:Info:= { body:=(Tryz.f146.body).getD .skip,nt:=54,results:=[],keep:=[0,2,4,6,12,14,16,18,20,30,66,86,2000006,7,15,2000007],live:=[(6,[2,6,12,14,16,18,2000006,7,15,2000007])],modes:=[(8,[(1,.take,false)])],ext:=[1000003] }
theorem xKE:FnOk Tryz.prog 146 Tryz.f146 xH3:=by refine⟨Tryz.func146,?_,?_,?_,?_⟩<;>kernel_rfl
def xIu(x1 x6 x8 x9 b7:Int)(g003:List Org):St:=[(2,.v false [.int .i64 x1]),(6,.v false [.ptr 3 0]),(12,.v false [.int .i64 x6]),(14,.v false [.ptr 7 0]),(16,.v false [.int .u64 x8]),(18,.v false [.int .i64 x9]),(7,.v true [.clo 64 [1000003],.swp 141 0 (.pointer (some ⟨0,80,none⟩)) 1000003]),(15,.v true [.int .u64 b7]),(2000007,.v true [.sl (.lnt 0) .org g003])]
abbrev xS2(v0 v1 v2:Int):=dc (v0<=(W ((W (v1+(W ((W (Int.tdiv v2 4))*2))))+1)))
abbrev xPX(v0:Int×Int)(v1:Int):=W ((andI .u64 v0.1 (IntKind.u64.wrap (v1 - 1))))
def xRZ(x1 x6 x8 x9 b7 g003 r1 r2):rS 6 xH3 (xIu x1 x6 x8 x9 b7 g003) [Y,Y] [xDe r1,xAg r2]=st 6 xH3 (xIu x1 x6 x8 (W (x9+1)) r1.2 r2) [4≠(0:Int),iY (xS2 x9 x1 x6),AbC 168 (xEB b7) (xDe r1),iY (dc (((xPX r1 x8):Int)>=x6)),AbC 141 (xAA x9 (W (x1+(W ((xPX r1 x8) - x6)))) g003) (xAg r2),2<=Ln g003,Ln r2=Ln g003]:=by kernel_rfl
def xR0(x1 x6 x8 x9 b7 g003 r1 r2):rS 6 xH3 (xIu x1 x6 x8 x9 b7 g003) [Y,F] [xDe r1,xAg r2]=st 6 xH3 (xIu x1 x6 x8 (W (x9+1)) r1.2 r2) [4≠(0:Int),iY (xS2 x9 x1 x6),AbC 168 (xEB b7) (xDe r1),iN (dc (((xPX r1 x8):Int)>=x6)),AbC 141 (xAA x9 (W (x1+(xPX r1 x8))) g003) (xAg r2),2<=Ln g003,Ln r2=Ln g003]:=by kernel_rfl
def xR1(x1 x6 x8 x9 b7 g003):rS 6 xH3 (xIu x1 x6 x8 x9 b7 g003) [F] []=dn (xBc g003) [4≠(0:Int),iN (xS2 x9 x1 x6)]:=by kernel_rfl
abbrev xTs(v0 v1:Int):Prop:=iY (dc ((W (v0 - v1))>=8))
abbrev xNf(v0 v1:Int):=W (v0+(W ((W (Int.tdiv (W (v1 - v0)) 4))*2)))
def xR2(a0 a1 a2 r1):rE xH3 (xBT a0 a1 a2) [Y] [xEi r1]=st 6 xH3 (xIu a0 (W (a1 - a0)) r1 (W ((xNf a0 a1) - 1)) (IntKind.u64.wrap ((W (a1 - a0)))) a2) [xTs a1 a0,AbC 167 (xFy (W (a1 - a0))) (xEi r1),4≠(0:Int)]:=by kernel_rfl
def xR3(a0 a1 a2):rE xH3 (xBT a0 a1 a2) [F] []=dn (xBc a2) [iN (dc ((W (a1 - a0))>=8))]:=by kernel_rfl
theorem xUv{N:Nat}:∀n x1 x6 x8 x9 b7 g003 r,xBb N n x1 x6 x8 x9 b7 g003=some r->RS Tryz.f146 xH3 6 (xIu x1 x6 x8 x9 b7 g003) (xBc r):=by
 intro n
 induction n with
 |zero=>exact fun _ _ _ _ _ _ _ h=>nE h
 |succ n ih=>
  exact fun x1 x6 x8 x9 b7 g003 r h=>cE h (fun h1 h=>bE h fun r1 h2 h=>cE h (fun h3 h=>bE h fun r2 h4 h=>iE h fun h5 h=>iE h fun h6 h=>tS xKE (xRZ x1 x6 x8 x9 b7 g003 r1 r2) (oc7 (by decide) h1 (xI2 h2) h3 (xAr h4) h5 h6 on) (ih _ _ _ _ _ _ _ h)) fun h3 h=>bE h fun r2 h4 h=>iE h fun h5 h=>iE h fun h6 h=>tS xKE (xR0 x1 x6 x8 x9 b7 g003 r1 r2) (oc7 (by decide) h1 (xI2 h2) h3 (xAr h4) h5 h6 on) (ih _ _ _ _ _ _ _ h)) fun h1 h=>dS h xKE (xR1 x1 x6 x8 x9 b7 g003) (oc2 (by decide) h1 on)
theorem xUw{N:Nat}:∀a0 a1 a2 r,xB3 N a0 a1 a2=some r->RE Tryz.f146 xH3 (xBT a0 a1 a2) (xBc r):=fun a0 a1 a2 r h=>cE h (fun h0 h=>bE h fun r1 h1 h=>tE xKE (xR2 a0 a1 a2 r1) (oc3 h0 (xLl h1) (by decide) on) (xUv _ _ _ _ _ _ _ _ h)) fun h0 h=>dE h xKE (xR3 a0 a1 a2) (oc h0 on)
theorem xGH{N:Nat}{a0:Int}{a1:Int}{a2:List Org}{r:(List Org)}(h:xB3 N  a0 a1 a2=some r):AbC 146 (xBT a0 a1 a2) (xBc r):=
 AbsCalls.of_reach xKE rfl rfl rfl (jL rfl) (xUw a0 a1 a2 r h)
noncomputable def I65:Info:= { body:=(Tryz.f65.body).getD .skip,nt:=24,results:=[.tmp 4],keep:=[0,2,4,6,8,5,7],live:=[],modes:=[(1,[(5,.take,false),(11,.take,false)])] }
theorem fk65:FnOk Tryz.prog 65 Tryz.f65 I65:=by refine⟨Tryz.func65,?_,?_,?_,?_⟩<;>kernel_rfl
def vC0(a0 a1):rE I65 (xC4 a0 a1) [Y] []=dn (xCb true) [iY (dc (a0.cell<a1.cell))]:=by kernel_rfl
def vC1(a0 a1):rE I65 (xC4 a0 a1) [F,Y] []=dn (xCb (dc (a0.row<a1.row))) [iN (dc (a0.cell<a1.cell)),iY (a0.cell==a1.cell)]:=by kernel_rfl
def vC2(a0 a1):rE I65 (xC4 a0 a1) [F,F] []=dn (xCb false) [iN (dc (a0.cell<a1.cell)),iN (a0.cell==a1.cell)]:=by kernel_rfl
theorem vHa{N:Nat}:∀a0 a1 r,xEm N a0 a1=some r->RE Tryz.f65 I65 (xC4 a0 a1) (xCb r):=fun a0 a1 r h=>cE h (fun h0 h=>dE h fk65 (vC0 a0 a1) (oc h0 on)) fun h0 h=>cE h (fun h1 h=>dE h fk65 (vC1 a0 a1) (oc2 h0 h1 on)) fun h1 h=>dE h fk65 (vC2 a0 a1) (oc2 h0 h1 on)
theorem xHr{N:Nat}{a0:Org}{a1:Org}{r:Bool}(h:xEm N  a0 a1=some r):AbC 65 (xC4 a0 a1) (xCb r):=
 AbsCalls.of_reach fk65 rfl rfl rfl (jL rfl) (vHa a0 a1 r h)
noncomputable def xPG:Info:= { body:=(Tryz.f64.body).getD .skip,nt:=15,results:=[.tmp 5],keep:=[0,2,4,10,5],live:=[],modes:=[],ext:=[2] }
theorem xRt:FnOk Tryz.prog 64 Tryz.f64 xPG:=by refine⟨Tryz.func64,?_,?_,?_,?_⟩<;>kernel_rfl
abbrev xEv(v0:Int)(v1:List Org):Prop:=(0:Int)<=v0/\v0<(Ln v1)
abbrev xFr(v0:List Org)(v1:Int):=gD v0 (tN v1) Ty.org.dflt
def xSi(a0 a1 a2 r1):rE xPG (xBl a0 a1 a2) [] [xCb r1]=dn (xAl (r1,a2)) [xEv a0 a2,xEv a1 a2,AbC 65 (xC4 (xFr a2 a0) (xFr a2 a1)) (xCb r1)]:=by kernel_rfl
theorem xUD{N:Nat}:∀a0 a1 a2 r,xAU N a0 a1 a2=some r->RE Tryz.f64 xPG (xBl a0 a1 a2) (xAl r):=fun a0 a1 a2 r h=>iE h fun h0 h=>iE h fun h1 h=>bE h fun r1 h2 h=>dE h xRt (xSi a0 a1 a2 r1) (oc3 h0 h1 (xHr h2) on)
theorem xAs{N:Nat}{a0:Int}{a1:Int}{a2:List Org}{r:Bool×(List Org)}(h:xAU N  a0 a1 a2=some r):AbC 64 (xBl a0 a1 a2) (xAl r):=
 AbsCalls.of_reach xRt rfl rfl rfl (jL rfl) (xUD a0 a1 a2 r h)
noncomputable def xBW:Info:= { body:=(Tryz.f151.body).getD .skip,nt:=107,results:=[.tmp 8,.tmp 9],keep:=[0,2,4,6,8,16,18,20,22,60,86,96,146,172,182,2000008,9,2000009],live:=[(3,[2,8,20,22,2000008,9,2000009]),(5,[2,8,20,22,2000008,9,2000009]),(13,[2,8,20,22,2000008,9,2000009]),(15,[2,8,20,22,2000008,9,2000009])],modes:=[(3,[(3,.take,false)]),(5,[(3,.take,false)]),(13,[(3,.take,false)]),(15,[(3,.take,false)])],ext:=[1000004] }
theorem xDt:FnOk Tryz.prog 151 Tryz.f151 xBW:=by refine⟨Tryz.func151,?_,?_,?_,?_⟩<;>kernel_rfl
def xIs(x1 x10 x11:Int)(g004:List Org):St:=[(2,.v false [.int .i64 x1]),(8,.v false [.ptr 4 0]),(20,.v false [.int .i64 x10]),(22,.v false [.int .i64 x11]),(9,.v true [.clo 64 [1000004],.swp 141 0 (.pointer (some ⟨0,80,none⟩)) 1000004]),(2000009,.v true [.sl (.lnt 0) .org g004])]
def xGk(x1 x10 x11:Int)(g004:List Org):St:=[(2,.v false [.int .i64 x1]),(8,.v false [.ptr 4 0]),(20,.v false [.int .i64 x10]),(22,.v false [.int .i64 x11]),(9,.v true [.clo 64 [1000004],.swp 141 0 (.pointer (some ⟨0,80,none⟩)) 1000004]),(2000009,.v true [.sl (.lnt 0) .org g004])]
def xE3(x1 x10 x11:Int)(g004:List Org):St:=[(2,.v false [.int .i64 x1]),(8,.v false [.ptr 4 0]),(20,.v false [.int .i64 x10]),(22,.v false [.int .i64 x11]),(9,.v true [.clo 64 [1000004],.swp 141 0 (.pointer (some ⟨0,80,none⟩)) 1000004]),(2000009,.v true [.sl (.lnt 0) .org g004])]
def xFO(x1 x10 x11:Int)(g004:List Org):St:=[(2,.v false [.int .i64 x1]),(8,.v false [.ptr 4 0]),(20,.v false [.int .i64 x10]),(22,.v false [.int .i64 x11]),(9,.v true [.clo 64 [1000004],.swp 141 0 (.pointer (some ⟨0,80,none⟩)) 1000004]),(2000009,.v true [.sl (.lnt 0) .org g004])]
abbrev xLU(v0 v1:Int):Prop:=iY (dc (v0<=v1))
abbrev xLy(v0 v1:Int)(v2:List Org)(v3:Bool×(List Org)):Prop:=AbC 64 (xBl v0 v1 v2) (xAl v3)
def xO3(x1 x10 x11 g004 r1):rS 15 xBW (xFO x1 x10 x11 g004) [Y,Y] [xAl r1]=st 15 xBW (xFO x1 x10 (W (x11 - 1)) r1.2) [xLU x10 x11,xLy x11 x1 g004 r1,iY (!r1.1)]:=by kernel_rfl
def xO4(x1 x10 x11 g004 r1 r2):rS 15 xBW (xFO x1 x10 x11 g004) [Y,F,Y] [xAl r1,xAg r2]=dn (xAB (x11,false,r2)) [xLU x10 x11,xLy x11 x1 g004 r1,iN (!r1.1),iY (dc (x10>x11)),AbC 141 (xAA x11 x1 r1.2) (xAg r2),2<=Ln r1.2,Ln r2=Ln r1.2]:=by kernel_rfl
def xO5(x1 x10 x11 g004 r1 r2):rS 15 xBW (xFO x1 x10 x11 g004) [Y,F,F] [xAl r1,xAg r2]=st 13 xBW (xE3 x1 (W (x10+1)) (W (x11 - 1)) r2) [xLU x10 x11,xLy x11 x1 g004 r1,iN (!r1.1),iN (dc (x10>x11)),AbC 141 (xAA x10 x11 r1.2) (xAg r2),2<=Ln r1.2,Ln r2=Ln r1.2]:=by kernel_rfl
abbrev xOZ(v0 v1:Int):Prop:=iN (dc (v0<=v1))
def xO6(x1 x10 x11 g004 r1):rS 15 xBW (xFO x1 x10 x11 g004) [F,F,Y] [xAg r1]=dn (xAB (x11,false,r1)) [xOZ x10 x11,iN false,iY (dc (x10>x11)),xRA x11 x1 g004 r1,2<=Ln g004,Ln r1=Ln g004]:=by kernel_rfl
def xO7(x1 x10 x11 g004 r1):rS 15 xBW (xFO x1 x10 x11 g004) [F,F,F] [xAg r1]=st 13 xBW (xE3 x1 (W (x10+1)) (W (x11 - 1)) r1) [xOZ x10 x11,iN false,iN (dc (x10>x11)),xRA x10 x11 g004 r1,2<=Ln g004,Ln r1=Ln g004]:=by kernel_rfl
def xO0(x1 x10 x11 g004 r1):rS 13 xBW (xE3 x1 x10 x11 g004) [Y,Y] [xAl r1]=st 13 xBW (xE3 x1 (W (x10+1)) x11 r1.2) [xLU x10 x11,xLy x10 x1 g004 r1,iY r1.1]:=by kernel_rfl
def xO1(x1 x10 x11 g004 r1):rS 13 xBW (xE3 x1 x10 x11 g004) [Y,F] [xAl r1]=st 15 xBW (xFO x1 x10 x11 r1.2) [xLU x10 x11,xLy x10 x1 g004 r1,iN r1.1]:=by kernel_rfl
def xO2(x1 x10 x11 g004):rS 13 xBW (xE3 x1 x10 x11 g004) [F,F] []=st 15 xBW (xFO x1 x10 x11 g004) [xOZ x10 x11,iN false]:=by kernel_rfl
def xQr(x1 x10 x11 g004 r1):rS 5 xBW (xGk x1 x10 x11 g004) [Y,Y] [xAl r1]=st 5 xBW (xGk x1 x10 (W (x11 - 1)) r1.2) [xLU x10 x11,xLy x11 x1 g004 r1,iY (!r1.1)]:=by kernel_rfl
def xQs(x1 x10 x11 g004 r1 r2):rS 5 xBW (xGk x1 x10 x11 g004) [Y,F,Y] [xAl r1,xAg r2]=dn (xAB (x11,true,r2)) [xLU x10 x11,xLy x11 x1 g004 r1,iN (!r1.1),iY (dc (x10>x11)),AbC 141 (xAA x11 x1 r1.2) (xAg r2),2<=Ln r1.2,Ln r2=Ln r1.2]:=by kernel_rfl
def xPb(x1 x10 x11 g004 r1 r2):rS 5 xBW (xGk x1 x10 x11 g004) [Y,F,F] [xAl r1,xAg r2]=st 13 xBW (xE3 x1 (W (x10+1)) (W (x11 - 1)) r2) [xLU x10 x11,xLy x11 x1 g004 r1,iN (!r1.1),iN (dc (x10>x11)),AbC 141 (xAA x10 x11 r1.2) (xAg r2),2<=Ln r1.2,Ln r2=Ln r1.2]:=by kernel_rfl
def xPc(x1 x10 x11 g004 r1):rS 5 xBW (xGk x1 x10 x11 g004) [F,F,Y] [xAg r1]=dn (xAB (x11,true,r1)) [xOZ x10 x11,iN false,iY (dc (x10>x11)),xRA x11 x1 g004 r1,2<=Ln g004,Ln r1=Ln g004]:=by kernel_rfl
def xPd(x1 x10 x11 g004 r1):rS 5 xBW (xGk x1 x10 x11 g004) [F,F,F] [xAg r1]=st 13 xBW (xE3 x1 (W (x10+1)) (W (x11 - 1)) r1) [xOZ x10 x11,iN false,iN (dc (x10>x11)),xRA x10 x11 g004 r1,2<=Ln g004,Ln r1=Ln g004]:=by kernel_rfl
def xO8(x1 x10 x11 g004 r1):rS 3 xBW (xIs x1 x10 x11 g004) [Y,Y] [xAl r1]=st 3 xBW (xIs x1 (W (x10+1)) x11 r1.2) [xLU x10 x11,xLy x10 x1 g004 r1,iY r1.1]:=by kernel_rfl
def xO9(x1 x10 x11 g004 r1):rS 3 xBW (xIs x1 x10 x11 g004) [Y,F] [xAl r1]=st 5 xBW (xGk x1 x10 x11 r1.2) [xLU x10 x11,xLy x10 x1 g004 r1,iN r1.1]:=by kernel_rfl
def xPa(x1 x10 x11 g004):rS 3 xBW (xIs x1 x10 x11 g004) [F,F] []=st 5 xBW (xGk x1 x10 x11 g004) [xOZ x10 x11,iN false]:=by kernel_rfl
def xPe(a0 a1 a2 a3 r1):rE xBW (xB6 a0 a1 a2 a3) [] [xAg r1]=st 3 xBW (xIs a0 (W (a0+1)) (W (a1 - 1)) r1) [xRA a0 a2 a3 r1,2<=Ln a3,Ln r1=Ln a3]:=by kernel_rfl
theorem xNw{N:Nat}{k13:Int->Int->Int->(List Org)->Option (Int×Bool×(List Org))}(hk13:∀z0 z1 z2 z3 r,k13 z0 z1 z2 z3=some r->RS Tryz.f151 xBW 13 (xE3 z0 z1 z2 z3) (xAB r)):∀n x1 x10 x11 g004 r,xA6 N k13 n x1 x10 x11 g004=some r->RS Tryz.f151 xBW 15 (xFO x1 x10 x11 g004) (xAB r):=by
 intro n
 induction n with
 |zero=>exact fun _ _ _ _ _ h=>nE h
 |succ n ih=>
  exact fun x1 x10 x11 g004 r h=>cE h (fun h0 h=>bE h fun r1 h1 h=>cE h (fun h2 h=>tS xDt (xO3 x1 x10 x11 g004 r1) (oc3 h0 (xAs h1) h2 on) (ih _ _ _ _ _ h)) fun h2 h=>cE h (fun h3 h=>bE h fun r2 h4 h=>iE h fun h5 h=>iE h fun h6 h=>dS h xDt (xO4 x1 x10 x11 g004 r1 r2) (oc7 h0 (xAs h1) h2 h3 (xAr h4) h5 h6 on)) fun h3 h=>bE h fun r2 h4 h=>iE h fun h5 h=>iE h fun h6 h=>tS xDt (xO5 x1 x10 x11 g004 r1 r2) (oc7 h0 (xAs h1) h2 h3 (xAr h4) h5 h6 on) (hk13 _ _ _ _ _ h)) fun h0 h=>cE h (fun h2 h=>bE h fun r1 h3 h=>iE h fun h4 h=>iE h fun h5 h=>dS h xDt (xO6 x1 x10 x11 g004 r1) (oc6 h0 rfl h2 (xAr h3) h4 h5 on)) fun h2 h=>bE h fun r1 h3 h=>iE h fun h4 h=>iE h fun h5 h=>tS xDt (xO7 x1 x10 x11 g004 r1) (oc6 h0 rfl h2 (xAr h3) h4 h5 on) (hk13 _ _ _ _ _ h)
theorem xNv{N:Nat}:∀n x1 x10 x11 g004 r,xAP N n x1 x10 x11 g004=some r->RS Tryz.f151 xBW 13 (xE3 x1 x10 x11 g004) (xAB r):=by
 intro n
 induction n with
 |zero=>exact fun _ _ _ _ _ h=>nE h
 |succ n ih=>
  exact fun x1 x10 x11 g004 r h=>cE h (fun h0 h=>bE h fun r1 h1 h=>cE h (fun h2 h=>tS xDt (xO0 x1 x10 x11 g004 r1) (oc3 h0 (xAs h1) h2 on) (ih _ _ _ _ _ h)) fun h2 h=>tS xDt (xO1 x1 x10 x11 g004 r1) (oc3 h0 (xAs h1) h2 on) (xNw ih _ _ _ _ _ _ h)) fun h0 h=>tS xDt (xO2 x1 x10 x11 g004) (oc2 h0 rfl on) (xNw ih _ _ _ _ _ _ h)
theorem xNZ{N:Nat}:∀n x1 x10 x11 g004 r,xBa N n x1 x10 x11 g004=some r->RS Tryz.f151 xBW 5 (xGk x1 x10 x11 g004) (xAB r):=by
 intro n
 induction n with
 |zero=>exact fun _ _ _ _ _ h=>nE h
 |succ n ih=>
  exact fun x1 x10 x11 g004 r h=>cE h (fun h0 h=>bE h fun r1 h1 h=>cE h (fun h2 h=>tS xDt (xQr x1 x10 x11 g004 r1) (oc3 h0 (xAs h1) h2 on) (ih _ _ _ _ _ h)) fun h2 h=>cE h (fun h3 h=>bE h fun r2 h4 h=>iE h fun h5 h=>iE h fun h6 h=>dS h xDt (xQs x1 x10 x11 g004 r1 r2) (oc7 h0 (xAs h1) h2 h3 (xAr h4) h5 h6 on)) fun h3 h=>bE h fun r2 h4 h=>iE h fun h5 h=>iE h fun h6 h=>tS xDt (xPb x1 x10 x11 g004 r1 r2) (oc7 h0 (xAs h1) h2 h3 (xAr h4) h5 h6 on) (xNv _ _ _ _ _ _ h)) fun h0 h=>cE h (fun h2 h=>bE h fun r1 h3 h=>iE h fun h4 h=>iE h fun h5 h=>dS h xDt (xPc x1 x10 x11 g004 r1) (oc6 h0 rfl h2 (xAr h3) h4 h5 on)) fun h2 h=>bE h fun r1 h3 h=>iE h fun h4 h=>iE h fun h5 h=>tS xDt (xPd x1 x10 x11 g004 r1) (oc6 h0 rfl h2 (xAr h3) h4 h5 on) (xNv _ _ _ _ _ _ h)
theorem xSE{N:Nat}:∀n x1 x10 x11 g004 r,xBI N n x1 x10 x11 g004=some r->RS Tryz.f151 xBW 3 (xIs x1 x10 x11 g004) (xAB r):=by
 intro n
 induction n with
 |zero=>exact fun _ _ _ _ _ h=>nE h
 |succ n ih=>
  exact fun x1 x10 x11 g004 r h=>cE h (fun h0 h=>bE h fun r1 h1 h=>cE h (fun h2 h=>tS xDt (xO8 x1 x10 x11 g004 r1) (oc3 h0 (xAs h1) h2 on) (ih _ _ _ _ _ h)) fun h2 h=>tS xDt (xO9 x1 x10 x11 g004 r1) (oc3 h0 (xAs h1) h2 on) (xNZ _ _ _ _ _ _ h)) fun h0 h=>tS xDt (xPa x1 x10 x11 g004) (oc2 h0 rfl on) (xNZ _ _ _ _ _ _ h)
theorem xSF{N:Nat}:∀a0 a1 a2 a3 r,xCs N a0 a1 a2 a3=some r->RE Tryz.f151 xBW (xB6 a0 a1 a2 a3) (xAB r):=fun a0 a1 a2 a3 r h=>bE h fun r1 h0 h=>iE h fun h1 h=>iE h fun h2 h=>tE xDt (xPe a0 a1 a2 a3 r1) (oc3 (xAr h0) h1 h2 on) (xSE _ _ _ _ _ _ h)
theorem xEK{N:Nat}{a0:Int}{a1:Int}{a2:Int}{a3:List Org}{r:Int×Bool×(List Org)}(h:xCs N  a0 a1 a2 a3=some r):AbC 151 (xB6 a0 a1 a2 a3) (xAB r):=
 AbsCalls.of_reach xDt rfl rfl rfl (jL rfl) (xSF a0 a1 a2 a3 r h)
noncomputable def xDu:Info:= { body:=(Tryz.f150.body).getD .skip,nt:=58,results:=[.tmp 8],keep:=[0,2,4,6,8,16,18,20,60,84,94,2000008,9,2000009],live:=[(3,[2,8,18,20,2000008,9,2000009]),(5,[2,8,18,20,2000008,9,2000009])],modes:=[(3,[(3,.take,false)]),(5,[(3,.take,false)])],ext:=[1000004] }
theorem xGK:FnOk Tryz.prog 150 Tryz.f150 xDu:=by refine⟨Tryz.func150,?_,?_,?_,?_⟩<;>kernel_rfl
def xGi(x1 x9 x10:Int)(g004:List Org):St:=[(2,.v false [.int .i64 x1]),(8,.v false [.ptr 4 0]),(18,.v false [.int .i64 x9]),(20,.v false [.int .i64 x10]),(9,.v true [.clo 64 [1000004],.swp 141 0 (.pointer (some ⟨0,80,none⟩)) 1000004]),(2000009,.v true [.sl (.lnt 0) .org g004])]
def xGj(x1 x9 x10:Int)(g004:List Org):St:=[(2,.v false [.int .i64 x1]),(8,.v false [.ptr 4 0]),(18,.v false [.int .i64 x9]),(20,.v false [.int .i64 x10]),(9,.v true [.clo 64 [1000004],.swp 141 0 (.pointer (some ⟨0,80,none⟩)) 1000004]),(2000009,.v true [.sl (.lnt 0) .org g004])]
def xQl(x1 x9 x10 g004 r1):rS 5 xDu (xGj x1 x9 x10 g004) [Y,Y] [xAl r1]=st 5 xDu (xGj x1 x9 (W (x10 - 1)) r1.2) [xLU x9 x10,xLy x1 x10 g004 r1,iY r1.1]:=by kernel_rfl
def xQm(x1 x9 x10 g004 r1):rS 5 xDu (xGj x1 x9 x10 g004) [Y,F,Y] [xAl r1]=dn (xAN (x9,r1.2)) [xLU x9 x10,xLy x1 x10 g004 r1,iN r1.1,iY (dc (x9>x10))]:=by kernel_rfl
def xQn(x1 x9 x10 g004 r1 r2):rS 5 xDu (xGj x1 x9 x10 g004) [Y,F,F] [xAl r1,xAg r2]=st 3 xDu (xGi x1 (W (x9+1)) (W (x10 - 1)) r2) [xLU x9 x10,xLy x1 x10 g004 r1,iN r1.1,iN (dc (x9>x10)),AbC 141 (xAA x9 x10 r1.2) (xAg r2),2<=Ln r1.2,Ln r2=Ln r1.2]:=by kernel_rfl
def xQo(x1 x9 x10 g004):rS 5 xDu (xGj x1 x9 x10 g004) [F,F,Y] []=dn (xAN (x9,g004)) [xOZ x9 x10,iN false,iY (dc (x9>x10))]:=by kernel_rfl
def xQp(x1 x9 x10 g004 r1):rS 5 xDu (xGj x1 x9 x10 g004) [F,F,F] [xAg r1]=st 3 xDu (xGi x1 (W (x9+1)) (W (x10 - 1)) r1) [xOZ x9 x10,iN false,iN (dc (x9>x10)),xRA x9 x10 g004 r1,2<=Ln g004,Ln r1=Ln g004]:=by kernel_rfl
def xQi(x1 x9 x10 g004 r1):rS 3 xDu (xGi x1 x9 x10 g004) [Y,Y] [xAl r1]=st 3 xDu (xGi x1 (W (x9+1)) x10 r1.2) [xLU x9 x10,xLy x1 x9 g004 r1,iY (!r1.1)]:=by kernel_rfl
def xQj(x1 x9 x10 g004 r1):rS 3 xDu (xGi x1 x9 x10 g004) [Y,F] [xAl r1]=st 5 xDu (xGj x1 x9 x10 r1.2) [xLU x9 x10,xLy x1 x9 g004 r1,iN (!r1.1)]:=by kernel_rfl
def xQk(x1 x9 x10 g004):rS 3 xDu (xGi x1 x9 x10 g004) [F,F] []=st 5 xDu (xGj x1 x9 x10 g004) [xOZ x9 x10,iN false]:=by kernel_rfl
def xQq(a0 a1 a2 a3 r1):rE xDu (xCi a0 a1 a2 a3) [] [xAg r1]=st 3 xDu (xGi a0 (W (a0+1)) (W (a1 - 1)) r1) [xRA a0 a2 a3 r1,2<=Ln a3,Ln r1=Ln a3]:=by kernel_rfl
theorem xNY{N:Nat}{k3:Int->Int->Int->(List Org)->Option (Int×(List Org))}(hk3:∀z0 z1 z2 z3 r,k3 z0 z1 z2 z3=some r->RS Tryz.f150 xDu 3 (xGi z0 z1 z2 z3) (xAN r)):∀n x1 x9 x10 g004 r,xAX N k3 n x1 x9 x10 g004=some r->RS Tryz.f150 xDu 5 (xGj x1 x9 x10 g004) (xAN r):=by
 intro n
 induction n with
 |zero=>exact fun _ _ _ _ _ h=>nE h
 |succ n ih=>
  exact fun x1 x9 x10 g004 r h=>cE h (fun h0 h=>bE h fun r1 h1 h=>cE h (fun h2 h=>tS xGK (xQl x1 x9 x10 g004 r1) (oc3 h0 (xAs h1) h2 on) (ih _ _ _ _ _ h)) fun h2 h=>cE h (fun h3 h=>dS h xGK (xQm x1 x9 x10 g004 r1) (oc4 h0 (xAs h1) h2 h3 on)) fun h3 h=>bE h fun r2 h4 h=>iE h fun h5 h=>iE h fun h6 h=>tS xGK (xQn x1 x9 x10 g004 r1 r2) (oc7 h0 (xAs h1) h2 h3 (xAr h4) h5 h6 on) (hk3 _ _ _ _ _ h)) fun h0 h=>cE h (fun h2 h=>dS h xGK (xQo x1 x9 x10 g004) (oc3 h0 rfl h2 on)) fun h2 h=>bE h fun r1 h3 h=>iE h fun h4 h=>iE h fun h5 h=>tS xGK (xQp x1 x9 x10 g004 r1) (oc6 h0 rfl h2 (xAr h3) h4 h5 on) (hk3 _ _ _ _ _ h)
theorem xSC{N:Nat}:∀n x1 x9 x10 g004 r,xAW N n x1 x9 x10 g004=some r->RS Tryz.f150 xDu 3 (xGi x1 x9 x10 g004) (xAN r):=by
 intro n
 induction n with
 |zero=>exact fun _ _ _ _ _ h=>nE h
 |succ n ih=>
  exact fun x1 x9 x10 g004 r h=>cE h (fun h0 h=>bE h fun r1 h1 h=>cE h (fun h2 h=>tS xGK (xQi x1 x9 x10 g004 r1) (oc3 h0 (xAs h1) h2 on) (ih _ _ _ _ _ h)) fun h2 h=>tS xGK (xQj x1 x9 x10 g004 r1) (oc3 h0 (xAs h1) h2 on) (xNY ih _ _ _ _ _ _ h)) fun h0 h=>tS xGK (xQk x1 x9 x10 g004) (oc2 h0 rfl on) (xNY ih _ _ _ _ _ _ h)
theorem xSD{N:Nat}:∀a0 a1 a2 a3 r,xB0 N a0 a1 a2 a3=some r->RE Tryz.f150 xDu (xCi a0 a1 a2 a3) (xAN r):=fun a0 a1 a2 a3 r h=>bE h fun r1 h0 h=>iE h fun h1 h=>iE h fun h2 h=>tE xGK (xQq a0 a1 a2 a3 r1) (oc3 (xAr h0) h1 h2 on) (xSC _ _ _ _ _ _ h)
theorem xGs{N:Nat}{a0:Int}{a1:Int}{a2:Int}{a3:List Org}{r:Int×(List Org)}(h:xB0 N  a0 a1 a2 a3=some r):AbC 150 (xCi a0 a1 a2 a3) (xAN r):=
 AbsCalls.of_reach xGK rfl rfl rfl (jL rfl) (xSD a0 a1 a2 a3 r h)
noncomputable def xBO:Info:= { body:=(Tryz.f149.body).getD .skip,nt:=91,results:=[.tmp 6],keep:=[0,2,4,6,12,14,16,18,20,28,56,66,74,94,102,120,140,150,168,2000006,7,2000007],live:=[(3,[2,4,6,14,16,2000006,7,2000007]),(5,[2,4,6,14,16,2000006,7,2000007]),(7,[2,4,6,14,16,2000006,7,2000007]),(14,[2,4,6,14,16,18,2000006,7,2000007]),(18,[2,4,6,14,16,2000006,7,2000007]),(20,[2,4,6,14,16,20,2000006,7,2000007])],modes:=[(5,[(3,.take,false)])],ext:=[1000003] }
theorem xDX:FnOk Tryz.prog 149 Tryz.f149 xBO:=by refine⟨Tryz.func149,?_,?_,?_,?_⟩<;>kernel_rfl
def xFC(x1 x2 x7 x8:Int)(g003:List Org):St:=[(2,.v false [.int .i64 x1]),(4,.v false [.int .i64 x2]),(6,.v false [.ptr 3 0]),(14,.v false [.int .i64 x7]),(16,.v false [.int .i64 x8]),(7,.v true [.clo 64 [1000003],.swp 141 0 (.pointer (some ⟨0,80,none⟩)) 1000003]),(2000007,.v true [.sl (.lnt 0) .org g003])]
def xJn(x1 x2 x7 x8:Int)(g003:List Org):St:=[(2,.v false [.int .i64 x1]),(4,.v false [.int .i64 x2]),(6,.v false [.ptr 3 0]),(14,.v false [.int .i64 x7]),(16,.v false [.int .i64 x8]),(7,.v true [.clo 64 [1000003],.swp 141 0 (.pointer (some ⟨0,80,none⟩)) 1000003]),(2000007,.v true [.sl (.lnt 0) .org g003])]
def xIy(x1 x2 x7 x8:Int)(g003:List Org):St:=[(2,.v false [.int .i64 x1]),(4,.v false [.int .i64 x2]),(6,.v false [.ptr 3 0]),(14,.v false [.int .i64 x7]),(16,.v false [.int .i64 x8]),(7,.v true [.clo 64 [1000003],.swp 141 0 (.pointer (some ⟨0,80,none⟩)) 1000003]),(2000007,.v true [.sl (.lnt 0) .org g003])]
def xIv(x1 x2 x7 x8 x9:Int)(g003:List Org):St:=[(2,.v false [.int .i64 x1]),(4,.v false [.int .i64 x2]),(6,.v false [.ptr 3 0]),(14,.v false [.int .i64 x7]),(16,.v false [.int .i64 x8]),(18,.v false [.int .i64 x9]),(7,.v true [.clo 64 [1000003],.swp 141 0 (.pointer (some ⟨0,80,none⟩)) 1000003]),(2000007,.v true [.sl (.lnt 0) .org g003])]
def xIw(x1 x2 x7 x8:Int)(g003:List Org):St:=[(2,.v false [.int .i64 x1]),(4,.v false [.int .i64 x2]),(6,.v false [.ptr 3 0]),(14,.v false [.int .i64 x7]),(16,.v false [.int .i64 x8]),(7,.v true [.clo 64 [1000003],.swp 141 0 (.pointer (some ⟨0,80,none⟩)) 1000003]),(2000007,.v true [.sl (.lnt 0) .org g003])]
def xIx(x1 x2 x7 x8 x10:Int)(g003:List Org):St:=[(2,.v false [.int .i64 x1]),(4,.v false [.int .i64 x2]),(6,.v false [.ptr 3 0]),(14,.v false [.int .i64 x7]),(16,.v false [.int .i64 x8]),(20,.v false [.int .i64 x10]),(7,.v true [.clo 64 [1000003],.swp 141 0 (.pointer (some ⟨0,80,none⟩)) 1000003]),(2000007,.v true [.sl (.lnt 0) .org g003])]
abbrev xRC(v0:Int)(v1:List Org)(v2:Bool×(List Org)):Prop:=AbC 64 (xBl v0 (W (v0 - 1)) v1) (xAl v2)
def xQZ(x1 x2 x7 x8 x10 g003 r1):rS 20 xBO (xIx x1 x2 x7 x8 x10 g003) [Y,Y] [xAl r1]=st 3 xBO (xFC x1 x2 x7 (W (x8+1)) r1.2) [xHm x10 x2,xRC x10 g003 r1,iY (!r1.1)]:=by kernel_rfl
def xQ0(x1 x2 x7 x8 x10 g003 r1 r2):rS 20 xBO (xIx x1 x2 x7 x8 x10 g003) [Y,F] [xAl r1,xAg r2]=st 20 xBO (xIx x1 x2 x7 x8 (W (x10+1)) r2) [xHm x10 x2,xRC x10 g003 r1,iN (!r1.1),AbC 141 (xAA x10 (W (x10 - 1)) r1.2) (xAg r2),2<=Ln r1.2,Ln r2=Ln r1.2]:=by kernel_rfl
def xQ1(x1 x2 x7 x8 x10 g003):rS 20 xBO (xIx x1 x2 x7 x8 x10 g003) [F] []=st 3 xBO (xFC x1 x2 x7 (W (x8+1)) g003) [xKt x10 x2]:=by kernel_rfl
def xQX(x1 x2 x7 x8 g003):rS 18 xBO (xIw x1 x2 x7 x8 g003) [Y] []=st 20 xBO (xIx x1 x2 x7 x8 (W (x7+1)) g003) [iY (dc ((W (x2 - x7))>=2))]:=by kernel_rfl
def xQY(x1 x2 x7 x8 g003):rS 18 xBO (xIw x1 x2 x7 x8 g003) [F] []=st 3 xBO (xFC x1 x2 x7 (W (x8+1)) g003) [iN (dc ((W (x2 - x7))>=2))]:=by kernel_rfl
def xQU(x1 x2 x7 x8 x9 g003 r1):rS 14 xBO (xIv x1 x2 x7 x8 x9 g003) [Y,Y] [xAl r1]=st 18 xBO (xIw x1 x2 x7 x8 r1.2) [iY (dc (x9>=1)),xRC x9 g003 r1,iY (!r1.1)]:=by kernel_rfl
def xQV(x1 x2 x7 x8 x9 g003 r1 r2):rS 14 xBO (xIv x1 x2 x7 x8 x9 g003) [Y,F] [xAl r1,xAg r2]=st 14 xBO (xIv x1 x2 x7 x8 (W (x9 - 1)) r2) [iY (dc (x9>=1)),xRC x9 g003 r1,iN (!r1.1),AbC 141 (xAA x9 (W (x9 - 1)) r1.2) (xAg r2),2<=Ln r1.2,Ln r2=Ln r1.2]:=by kernel_rfl
def xQW(x1 x2 x7 x8 x9 g003):rS 14 xBO (xIv x1 x2 x7 x8 x9 g003) [F] []=st 18 xBO (xIw x1 x2 x7 x8 g003) [iN (dc (x9>=1))]:=by kernel_rfl
def xSg(x1 x2 x7 x8 g003):rS 7 xBO (xIy x1 x2 x7 x8 g003) [Y] []=dn (xAm (true,g003)) [iY (x7==x2)]:=by kernel_rfl
def xSh(x1 x2 x7 x8 g003):rS 7 xBO (xIy x1 x2 x7 x8 g003) [F,Y] []=dn (xAm (false,g003)) [iN (x7==x2),iY (dc ((W (x2 - x1))<50))]:=by kernel_rfl
def xQ7(x1 x2 x7 x8 g003 r1):rS 7 xBO (xIy x1 x2 x7 x8 g003) [F,F,Y] [xAg r1]=st 14 xBO (xIv x1 x2 x7 x8 (W (x7 - 1)) r1) [iN (x7==x2),iN (dc ((W (x2 - x1))<50)),AbC 141 (xAA x7 (W (x7 - 1)) g003) (xAg r1),2<=Ln g003,Ln r1=Ln g003,iY (dc ((W (x7 - x1))>=2))]:=by kernel_rfl
def xQ8(x1 x2 x7 x8 g003 r1):rS 7 xBO (xIy x1 x2 x7 x8 g003) [F,F,F] [xAg r1]=st 18 xBO (xIw x1 x2 x7 x8 r1) [iN (x7==x2),iN (dc ((W (x2 - x1))<50)),AbC 141 (xAA x7 (W (x7 - 1)) g003) (xAg r1),2<=Ln g003,Ln r1=Ln g003,iN (dc ((W (x7 - x1))>=2))]:=by kernel_rfl
def xQ4(x1 x2 x7 x8 g003 r1):rS 5 xBO (xJn x1 x2 x7 x8 g003) [Y,Y] [xAl r1]=st 5 xBO (xJn x1 x2 (W (x7+1)) x8 r1.2) [xHm x7 x2,xRC x7 g003 r1,iY (!r1.1)]:=by kernel_rfl
def xQ5(x1 x2 x7 x8 g003 r1):rS 5 xBO (xJn x1 x2 x7 x8 g003) [Y,F] [xAl r1]=st 7 xBO (xIy x1 x2 x7 x8 r1.2) [xHm x7 x2,xRC x7 g003 r1,iN (!r1.1)]:=by kernel_rfl
def xQ6(x1 x2 x7 x8 g003):rS 5 xBO (xJn x1 x2 x7 x8 g003) [F,F] []=st 7 xBO (xIy x1 x2 x7 x8 g003) [xKt x7 x2,iN false]:=by kernel_rfl
def xQ2(x1 x2 x7 x8 g003):rS 3 xBO (xFC x1 x2 x7 x8 g003) [Y] []=st 5 xBO (xJn x1 x2 x7 x8 g003) [iY (dc (x8<5))]:=by kernel_rfl
def xQ3(x1 x2 x7 x8 g003):rS 3 xBO (xFC x1 x2 x7 x8 g003) [F] []=dn (xAm (false,g003)) [iN (dc (x8<5))]:=by kernel_rfl
def xQ9(a0 a1 a2):rE xBO (xBn a0 a1 a2) [] []=st 3 xBO (xFC a0 a1 (W (a0+1)) 0 a2) []:=by kernel_rfl
theorem xSM{N:Nat}{k3:Int->Int->Int->Int->(List Org)->Option (Bool×(List Org))}(hk3:∀z0 z1 z2 z3 z4 r,k3 z0 z1 z2 z3 z4=some r->RS Tryz.f149 xBO 3 (xFC z0 z1 z2 z3 z4) (xAm r)):∀n x1 x2 x7 x8 x10 g003 r,xA5 N k3 n x1 x2 x7 x8 x10 g003=some r->RS Tryz.f149 xBO 20 (xIx x1 x2 x7 x8 x10 g003) (xAm r):=by
 intro n
 induction n with
 |zero=>exact fun _ _ _ _ _ _ _ h=>nE h
 |succ n ih=>
  exact fun x1 x2 x7 x8 x10 g003 r h=>cE h (fun h0 h=>bE h fun r1 h1 h=>cE h (fun h2 h=>tS xDX (xQZ x1 x2 x7 x8 x10 g003 r1) (oc3 h0 (xAs h1) h2 on) (hk3 _ _ _ _ _ _ h)) fun h2 h=>bE h fun r2 h3 h=>iE h fun h4 h=>iE h fun h5 h=>tS xDX (xQ0 x1 x2 x7 x8 x10 g003 r1 r2) (oc6 h0 (xAs h1) h2 (xAr h3) h4 h5 on) (ih _ _ _ _ _ _ _ h)) fun h0 h=>tS xDX (xQ1 x1 x2 x7 x8 x10 g003) (oc h0 on) (hk3 _ _ _ _ _ _ h)
theorem xL3{N:Nat}{k3:Int->Int->Int->Int->(List Org)->Option (Bool×(List Org))}(hk3:∀z0 z1 z2 z3 z4 r,k3 z0 z1 z2 z3 z4=some r->RS Tryz.f149 xBO 3 (xFC z0 z1 z2 z3 z4) (xAm r)):∀x1 x2 x7 x8 g003 r,xAT N k3 x1 x2 x7 x8 g003=some r->RS Tryz.f149 xBO 18 (xIw x1 x2 x7 x8 g003) (xAm r):=fun x1 x2 x7 x8 g003 r h=>cE h (fun h0 h=>tS xDX (xQX x1 x2 x7 x8 g003) (oc h0 on) (xSM hk3 _ _ _ _ _ _ _ _ h)) fun h0 h=>tS xDX (xQY x1 x2 x7 x8 g003) (oc h0 on) (hk3 _ _ _ _ _ _ h)
theorem xSL{N:Nat}{k3:Int->Int->Int->Int->(List Org)->Option (Bool×(List Org))}(hk3:∀z0 z1 z2 z3 z4 r,k3 z0 z1 z2 z3 z4=some r->RS Tryz.f149 xBO 3 (xFC z0 z1 z2 z3 z4) (xAm r)):∀n x1 x2 x7 x8 x9 g003 r,xA4 N k3 n x1 x2 x7 x8 x9 g003=some r->RS Tryz.f149 xBO 14 (xIv x1 x2 x7 x8 x9 g003) (xAm r):=by
 intro n
 induction n with
 |zero=>exact fun _ _ _ _ _ _ _ h=>nE h
 |succ n ih=>
  exact fun x1 x2 x7 x8 x9 g003 r h=>cE h (fun h0 h=>bE h fun r1 h1 h=>cE h (fun h2 h=>tS xDX (xQU x1 x2 x7 x8 x9 g003 r1) (oc3 h0 (xAs h1) h2 on) (xL3 hk3 _ _ _ _ _ _ h)) fun h2 h=>bE h fun r2 h3 h=>iE h fun h4 h=>iE h fun h5 h=>tS xDX (xQV x1 x2 x7 x8 x9 g003 r1 r2) (oc6 h0 (xAs h1) h2 (xAr h3) h4 h5 on) (ih _ _ _ _ _ _ _ h)) fun h0 h=>tS xDX (xQW x1 x2 x7 x8 x9 g003) (oc h0 on) (xL3 hk3 _ _ _ _ _ _ h)
theorem xPo{N:Nat}{k3:Int->Int->Int->Int->(List Org)->Option (Bool×(List Org))}(hk3:∀z0 z1 z2 z3 z4 r,k3 z0 z1 z2 z3 z4=some r->RS Tryz.f149 xBO 3 (xFC z0 z1 z2 z3 z4) (xAm r)):∀x1 x2 x7 x8 g003 r,xA8 N k3 x1 x2 x7 x8 g003=some r->RS Tryz.f149 xBO 7 (xIy x1 x2 x7 x8 g003) (xAm r):=fun x1 x2 x7 x8 g003 r h=>cE h (fun h0 h=>dS h xDX (xSg x1 x2 x7 x8 g003) (oc h0 on)) fun h0 h=>cE h (fun h1 h=>dS h xDX (xSh x1 x2 x7 x8 g003) (oc2 h0 h1 on)) fun h1 h=>bE h fun r1 h2 h=>iE h fun h3 h=>iE h fun h4 h=>cE h (fun h5 h=>tS xDX (xQ7 x1 x2 x7 x8 g003 r1) (oc6 h0 h1 (xAr h2) h3 h4 h5 on) (xSL hk3 _ _ _ _ _ _ _ _ h)) fun h5 h=>tS xDX (xQ8 x1 x2 x7 x8 g003 r1) (oc6 h0 h1 (xAr h2) h3 h4 h5 on) (xL3 hk3 _ _ _ _ _ _ h)
theorem xUB{N:Nat}{k3:Int->Int->Int->Int->(List Org)->Option (Bool×(List Org))}(hk3:∀z0 z1 z2 z3 z4 r,k3 z0 z1 z2 z3 z4=some r->RS Tryz.f149 xBO 3 (xFC z0 z1 z2 z3 z4) (xAm r)):∀n x1 x2 x7 x8 g003 r,xA7 N k3 n x1 x2 x7 x8 g003=some r->RS Tryz.f149 xBO 5 (xJn x1 x2 x7 x8 g003) (xAm r):=by
 intro n
 induction n with
 |zero=>exact fun _ _ _ _ _ _ h=>nE h
 |succ n ih=>
  exact fun x1 x2 x7 x8 g003 r h=>cE h (fun h0 h=>bE h fun r1 h1 h=>cE h (fun h2 h=>tS xDX (xQ4 x1 x2 x7 x8 g003 r1) (oc3 h0 (xAs h1) h2 on) (ih _ _ _ _ _ _ h)) fun h2 h=>tS xDX (xQ5 x1 x2 x7 x8 g003 r1) (oc3 h0 (xAs h1) h2 on) (xPo hk3 _ _ _ _ _ _ h)) fun h0 h=>tS xDX (xQ6 x1 x2 x7 x8 g003) (oc2 h0 rfl on) (xPo hk3 _ _ _ _ _ _ h)
theorem xUA{N:Nat}:∀n x1 x2 x7 x8 g003 r,xAV N n x1 x2 x7 x8 g003=some r->RS Tryz.f149 xBO 3 (xFC x1 x2 x7 x8 g003) (xAm r):=by
 intro n
 induction n with
 |zero=>exact fun _ _ _ _ _ _ h=>nE h
 |succ n ih=>
  exact fun x1 x2 x7 x8 g003 r h=>cE h (fun h0 h=>tS xDX (xQ2 x1 x2 x7 x8 g003) (oc h0 on) (xUB ih _ _ _ _ _ _ _ h)) fun h0 h=>dS h xDX (xQ3 x1 x2 x7 x8 g003) (oc h0 on)
theorem xUC{N:Nat}:∀a0 a1 a2 r,xBC N a0 a1 a2=some r->RE Tryz.f149 xBO (xBn a0 a1 a2) (xAm r):=fun a0 a1 a2 r h=>tE xDX (xQ9 a0 a1 a2) on (xUA _ _ _ _ _ _ _ h)
theorem xDo{N:Nat}{a0:Int}{a1:Int}{a2:List Org}{r:Bool×(List Org)}(h:xBC N  a0 a1 a2=some r):AbC 149 (xBn a0 a1 a2) (xAm r):=
 AbsCalls.of_reach xDX rfl rfl rfl (jL rfl) (xUC a0 a1 a2 r h)
noncomputable def xMv:Info:= { body:=(Tryz.f184.body).getD .skip,nt:=24,results:=[.tmp 8,.tmp 9],keep:=[0,2,4,6,8,16,18,28,2000008,7,9,2000009],live:=[],modes:=[],ext:=[3,1000004] }
theorem xM6:FnOk Tryz.prog 184 Tryz.f184 xMv:=by refine⟨Tryz.func184,?_,?_,?_,?_⟩<;>kernel_rfl
def xQD(a0 a1 a2 a3 r1):rE xMv (xBE a0 a1 a2 a3) [Y] [xAl r1]=dn (xAY (a1,a0,(W (a2+1)),r1.2)) [xLy a1 a0 a3 r1,iY r1.1]:=by kernel_rfl
def xQE(a0 a1 a2 a3 r1):rE xMv (xBE a0 a1 a2 a3) [F] [xAl r1]=dn (xAY (a0,a1,a2,r1.2)) [xLy a1 a0 a3 r1,iN r1.1]:=by kernel_rfl
theorem xSK{N:Nat}:∀a0 a1 a2 a3 r,xBV N a0 a1 a2 a3=some r->RE Tryz.f184 xMv (xBE a0 a1 a2 a3) (xAY r):=fun a0 a1 a2 a3 r h=>bE h fun r1 h0 h=>cE h (fun h1 h=>dE h xM6 (xQD a0 a1 a2 a3 r1) (oc2 (xAs h0) h1 on)) fun h1 h=>dE h xM6 (xQE a0 a1 a2 a3 r1) (oc2 (xAs h0) h1 on)
theorem xDH{N:Nat}{a0:Int}{a1:Int}{a2:Int}{a3:List Org}{r:Int×Int×Int×(List Org)}(h:xBV N  a0 a1 a2 a3=some r):AbC 184 (xBE a0 a1 a2 a3) (xAY r):=
 AbsCalls.of_reach xM6 rfl rfl rfl (jL rfl) (xSK a0 a1 a2 a3 r h)
noncomputable def xNV:Info:= { body:=(Tryz.f170.body).getD .skip,nt:=36,results:=[.tmp 10],keep:=[0,2,4,6,8,10,20,2000010,9,11,2000011],live:=[],modes:=[(1,[(5,.take,false)]),(2,[(5,.take,false)]),(3,[(5,.take,false)])],ext:=[4,1000005] }
theorem xPq:FnOk Tryz.prog 170 Tryz.f170 xNV:=by refine⟨Tryz.func170,?_,?_,?_,?_⟩<;>kernel_rfl
def xQC(a0 a1 a2 a3 a4 r1 r2 r3):rE xNV (xBk a0 a1 a2 a3 a4) [] [cl (xAY r1),cl (xAY r2),cl (xAY r3)]=dn (xAF (r3.2.1,r3.2.2.1,r3.2.2.2)) [AbC 184 (xBE a0 a1 a3 a4) (xAY r1),AbC 184 (xBE r1.2.1 a2 r1.2.2.1 r1.2.2.2) (xAY r2),AbC 184 (xBE r1.1 r2.1 r2.2.2.1 r2.2.2.2) (xAY r3)]:=by kernel_rfl
theorem xSJ{N:Nat}:∀a0 a1 a2 a3 a4 r,xBU N a0 a1 a2 a3 a4=some r->RE Tryz.f170 xNV (xBk a0 a1 a2 a3 a4) (xAF r):=fun a0 a1 a2 a3 a4 r h=>bE h fun r1 h0 h=>bE h fun r2 h1 h=>bE h fun r3 h2 h=>dE h xPq (xQC a0 a1 a2 a3 a4 r1 r2 r3) (oc3 (xDH h0) (xDH h1) (xDH h2) on)
theorem xBD{N:Nat}{a0:Int}{a1:Int}{a2:Int}{a3:Int}{a4:List Org}{r:Int×Int×(List Org)}(h:xBU N  a0 a1 a2 a3 a4=some r):AbC 170 (xBk a0 a1 a2 a3 a4) (xAF r):=
 AbsCalls.of_reach xPq rfl rfl rfl (jL rfl) (xSJ a0 a1 a2 a3 a4 r h)
noncomputable def xNU:Info:= { body:=(Tryz.f169.body).getD .skip,nt:=15,results:=[.tmp 6],keep:=[0,2,4,6,12,2000006,5,7,2000007],live:=[],modes:=[],ext:=[2,1000003] }
theorem xPp:FnOk Tryz.prog 169 Tryz.f169 xNU:=by refine⟨Tryz.func169,?_,?_,?_,?_⟩<;>kernel_rfl
def xQB(a0 a1 a2 r1):rE xNU (xBm a0 a1 a2) [] [cl (xAF r1)]=dn (xAu (r1.1,r1.2.1,r1.2.2)) [AbC 170 (xBk (W (a0 - 1)) a0 (W (a0+1)) a1 a2) (xAF r1)]:=by kernel_rfl
theorem xSI{N:Nat}:∀a0 a1 a2 r,xBf N a0 a1 a2=some r->RE Tryz.f169 xNU (xBm a0 a1 a2) (xAu r):=fun a0 a1 a2 r h=>bE h fun r1 h0 h=>dE h xPp (xQB a0 a1 a2 r1) (oc (xBD h0) on)
theorem xAM{N:Nat}{a0:Int}{a1:Int}{a2:List Org}{r:Int×Int×(List Org)}(h:xBf N  a0 a1 a2=some r):AbC 169 (xBm a0 a1 a2) (xAu r):=
 AbsCalls.of_reach xPp rfl rfl rfl (jL rfl) (xSI a0 a1 a2 r h)
noncomputable def xH4:Info:= { body:=(Tryz.f147.body).getD .skip,nt:=57,results:=[.tmp 6,.tmp 7],keep:=[0,2,4,6,12,14,16,18,20,22,24,64,68,98,102,108,2000006,7,19,2000007],live:=[],modes:=[],ext:=[1000003] }
theorem xHB:FnOk Tryz.prog 147 Tryz.f147 xH4:=by refine⟨Tryz.func147,?_,?_,?_,?_⟩<;>kernel_rfl
abbrev xPY(v0 v1:Int):=W (Int.tdiv (W (v0 - v1)) 4)
abbrev vAZ(v0 v1:Int)(v2:List Org)(v3:Int×Int×(List Org)):Prop:=AbC 169 (xBm (W (v0+(W ((xPY v1 v0)*1)))) 0 v2) (xAu v3)
abbrev xVj(v0 v1:Int)(v2 v3:Int×Int×(List Org)):Prop:=AbC 169 (xBm (xNf v0 v1) v2.2.1 v2.2.2) (xAu v3)
abbrev xVk(v0 v1:Int)(v2 v3:Int×Int×(List Org)):Prop:=AbC 169 (xBm (W (v0+(W ((xPY v1 v0)*3)))) v2.2.1 v2.2.2) (xAu v3)
abbrev xNg(v0 v1:Int):=dc ((W (v0 - v1))>=50)
def xR4(a0 a1 a2 r1 r2 r3 r4):rE xH4 (xAE a0 a1 a2) [Y,Y,Y] [cl (xAu r1),cl (xAu r2),cl (xAu r3),cl (xAF r4)]=dn (xAx (r4.1,1,r4.2.2)) [4≠(0:Int),4≠(0:Int),4≠(0:Int),xTs a1 a0,iY (xNg a1 a0),vAZ a0 a1 a2 r1,xVj a0 a1 r1 r2,xVk a0 a1 r2 r3,AbC 170 (xBk r1.1 r2.1 r3.1 r3.2.1 r3.2.2) (xAF r4),iY (r4.2.1==0)]:=by kernel_rfl
def xR5(a0 a1 a2 r1 r2 r3 r4):rE xH4 (xAE a0 a1 a2) [Y,Y,F,Y] [cl (xAu r1),cl (xAu r2),cl (xAu r3),cl (xAF r4)]=dn (xAx (r4.1,2,r4.2.2)) [4≠(0:Int),4≠(0:Int),4≠(0:Int),xTs a1 a0,iY (xNg a1 a0),vAZ a0 a1 a2 r1,xVj a0 a1 r1 r2,xVk a0 a1 r2 r3,AbC 170 (xBk r1.1 r2.1 r3.1 r3.2.1 r3.2.2) (xAF r4),iN (r4.2.1==0),iY (r4.2.1==12)]:=by kernel_rfl
def xR6(a0 a1 a2 r1 r2 r3 r4):rE xH4 (xAE a0 a1 a2) [Y,Y,F,F] [cl (xAu r1),cl (xAu r2),cl (xAu r3),cl (xAF r4)]=dn (xAx (r4.1,0,r4.2.2)) [4≠(0:Int),4≠(0:Int),4≠(0:Int),xTs a1 a0,iY (xNg a1 a0),vAZ a0 a1 a2 r1,xVj a0 a1 r1 r2,xVk a0 a1 r2 r3,AbC 170 (xBk r1.1 r2.1 r3.1 r3.2.1 r3.2.2) (xAF r4),iN (r4.2.1==0),iN (r4.2.1==12)]:=by kernel_rfl
abbrev xVl(v0 v1:Int)(v2:List Org)(v3:Int×Int×(List Org)):Prop:=AbC 170 (xBk (W (v0+(W ((xPY v1 v0)*1)))) (xNf v0 v1) (W (v0+(W ((xPY v1 v0)*3)))) 0 v2) (xAF v3)
def xR7(a0 a1 a2 r1):rE xH4 (xAE a0 a1 a2) [Y,F,Y] [cl (xAF r1)]=dn (xAx (r1.1,1,r1.2.2)) [4≠(0:Int),4≠(0:Int),4≠(0:Int),xTs a1 a0,iN (xNg a1 a0),xVl a0 a1 a2 r1,iY (r1.2.1==0)]:=by kernel_rfl
def xR8(a0 a1 a2 r1):rE xH4 (xAE a0 a1 a2) [Y,F,F,Y] [cl (xAF r1)]=dn (xAx (r1.1,2,r1.2.2)) [4≠(0:Int),4≠(0:Int),4≠(0:Int),xTs a1 a0,iN (xNg a1 a0),xVl a0 a1 a2 r1,iN (r1.2.1==0),iY (r1.2.1==12)]:=by kernel_rfl
def xR9(a0 a1 a2 r1):rE xH4 (xAE a0 a1 a2) [Y,F,F,F] [cl (xAF r1)]=dn (xAx (r1.1,0,r1.2.2)) [4≠(0:Int),4≠(0:Int),4≠(0:Int),xTs a1 a0,iN (xNg a1 a0),xVl a0 a1 a2 r1,iN (r1.2.1==0),iN (r1.2.1==12)]:=by kernel_rfl
def xSa(a0 a1 a2):rE xH4 (xAE a0 a1 a2) [F,Y] []=dn (xAx ((xNf a0 a1),1,a2)) [4≠(0:Int),4≠(0:Int),4≠(0:Int),iN (dc ((W (a1 - a0))>=8)),iY ((0:Int)==0)]:=by kernel_rfl
def xSb(a0 a1 a2):rE xH4 (xAE a0 a1 a2) [F,F,Y] []=dn (xAx ((xNf a0 a1),2,a2)) [4≠(0:Int),4≠(0:Int),4≠(0:Int),iN (dc ((W (a1 - a0))>=8)),iN ((0:Int)==0),iY ((0:Int)==12)]:=by kernel_rfl
def xSc(a0 a1 a2):rE xH4 (xAE a0 a1 a2) [F,F,F] []=dn (xAx ((xNf a0 a1),0,a2)) [4≠(0:Int),4≠(0:Int),4≠(0:Int),iN (dc ((W (a1 - a0))>=8)),iN ((0:Int)==0),iN ((0:Int)==12)]:=by kernel_rfl
theorem xUx{N:Nat}:∀a0 a1 a2 r,xCc N a0 a1 a2=some r->RE Tryz.f147 xH4 (xAE a0 a1 a2) (xAx r):=fun a0 a1 a2 r h=>cE h (fun h3 h=>cE h (fun h4 h=>bE h fun r1 h5 h=>bE h fun r2 h6 h=>bE h fun r3 h7 h=>bE h fun r4 h8 h=>cE h (fun h9 h=>dE h xHB (xR4 a0 a1 a2 r1 r2 r3 r4) (oc10 (by decide) (by decide) (by decide) h3 h4 (xAM h5) (xAM h6) (xAM h7) (xBD h8) h9 on)) fun h9 h=>cE h (fun h10 h=>dE h xHB (xR5 a0 a1 a2 r1 r2 r3 r4) (oc11 (by decide) (by decide) (by decide) h3 h4 (xAM h5) (xAM h6) (xAM h7) (xBD h8) h9 h10 on)) fun h10 h=>dE h xHB (xR6 a0 a1 a2 r1 r2 r3 r4) (oc11 (by decide) (by decide) (by decide) h3 h4 (xAM h5) (xAM h6) (xAM h7) (xBD h8) h9 h10 on)) fun h4 h=>bE h fun r1 h5 h=>cE h (fun h6 h=>dE h xHB (xR7 a0 a1 a2 r1) (oc7 (by decide) (by decide) (by decide) h3 h4 (xBD h5) h6 on)) fun h6 h=>cE h (fun h7 h=>dE h xHB (xR8 a0 a1 a2 r1) (oc8 (by decide) (by decide) (by decide) h3 h4 (xBD h5) h6 h7 on)) fun h7 h=>dE h xHB (xR9 a0 a1 a2 r1) (oc8 (by decide) (by decide) (by decide) h3 h4 (xBD h5) h6 h7 on)) fun h3 h=>cE h (fun h4 h=>dE h xHB (xSa a0 a1 a2) (oc5 (by decide) (by decide) (by decide) h3 h4 on)) fun h4 h=>cE h (fun h5 h=>dE h xHB (xSb a0 a1 a2) (oc6 (by decide) (by decide) (by decide) h3 h4 h5 on)) fun h5 h=>dE h xHB (xSc a0 a1 a2) (oc6 (by decide) (by decide) (by decide) h3 h4 h5 on)
theorem xEx{N:Nat}{a0:Int}{a1:Int}{a2:List Org}{r:Int×Int×(List Org)}(h:xCc N  a0 a1 a2=some r):AbC 147 (xAE a0 a1 a2) (xAx r):=
 AbsCalls.of_reach xHB rfl rfl rfl (jL rfl) (xUx a0 a1 a2 r h)
noncomputable def xFf:Info:= { body:=(Tryz.f166.body).getD .skip,nt:=55,results:=[],keep:=[0,2,4,6,8,16,18,32,64,88,2000008,9,2000009],live:=[(2,[4,6,8,16,2000008,9,2000009])],modes:=[(4,[(4,.take,false)])],ext:=[1000004] }
theorem xHd:FnOk Tryz.prog 166 Tryz.f166 xFf:=by refine⟨Tryz.func166,?_,?_,?_,?_⟩<;>kernel_rfl
def xEL(x2 x3 x8:Int)(g004:List Org):St:=[(4,.v false [.int .i64 x2]),(6,.v false [.int .i64 x3]),(8,.v false [.ptr 4 0]),(16,.v false [.int .i64 x8]),(9,.v true [.clo 64 [1000004],.swp 141 0 (.pointer (some ⟨0,80,none⟩)) 1000004]),(2000009,.v true [.sl (.lnt 0) .org g004])]
abbrev xPZ(v0:Int):=W ((W (2*v0))+1)
def xQt(x2 x3 x8 g004):rS 2 xFf (xEL x2 x3 x8 g004) [Y] []=dn (xAK g004) [iY (dc (((xPZ x8):Int)>=x2))]:=by kernel_rfl
abbrev xPu(v0 v1:Int):Prop:=iN (dc (((xPZ v0):Int)>=v1))
abbrev xS3(v0 v1:Int):=dc (((W ((W ((W (2*v0))+1))+1)):Int)<v1)
abbrev xTK(v0 v1:Int):Prop:=iY (xS3 v0 v1)
abbrev xLw(v0 v1:Int):=W (v0+(W ((W (2*v1))+1)))
abbrev xTL(v0 v1:Int)(v2:List Org)(v3:Bool×(List Org)):Prop:=AbC 64 (xBl (xLw v0 v1) (W ((xLw v0 v1)+1)) v2) (xAl v3)
abbrev xP0(v0:Int):=W ((W ((W (2*v0))+1))+1)
def xQu(x2 x3 x8 g004 r1 r2):rS 2 xFf (xEL x2 x3 x8 g004) [F,Y,Y,Y] [xAl r1,xAl r2]=dn (xAK r2.2) [xPu x8 x2,xTK x8 x2,xTL x3 x8 g004 r1,iY r1.1,AbC 64 (xBl (W (x3+x8)) (W (x3+(xP0 x8))) r1.2) (xAl r2),iY (!r2.1)]:=by kernel_rfl
def xQv(x2 x3 x8 g004 r1 r2 r3):rS 2 xFf (xEL x2 x3 x8 g004) [F,Y,Y,F] [xAl r1,xAl r2,xAg r3]=st 2 xFf (xEL x2 x3 (xP0 x8) r3) [xPu x8 x2,xTK x8 x2,xTL x3 x8 g004 r1,iY r1.1,AbC 64 (xBl (W (x3+x8)) (W (x3+(xP0 x8))) r1.2) (xAl r2),iN (!r2.1),AbC 141 (xAA (W (x3+x8)) (W (x3+(xP0 x8))) r2.2) (xAg r3),2<=Ln r2.2,Ln r3=Ln r2.2]:=by kernel_rfl
def xQw(x2 x3 x8 g004 r1 r2):rS 2 xFf (xEL x2 x3 x8 g004) [F,Y,F,Y] [xAl r1,xAl r2]=dn (xAK r2.2) [xPu x8 x2,xTK x8 x2,xTL x3 x8 g004 r1,iN r1.1,AbC 64 (xBl (W (x3+x8)) (xLw x3 x8) r1.2) (xAl r2),iY (!r2.1)]:=by kernel_rfl
def xQx(x2 x3 x8 g004 r1 r2 r3):rS 2 xFf (xEL x2 x3 x8 g004) [F,Y,F,F] [xAl r1,xAl r2,xAg r3]=st 2 xFf (xEL x2 x3 (xPZ x8) r3) [xPu x8 x2,xTK x8 x2,xTL x3 x8 g004 r1,iN r1.1,AbC 64 (xBl (W (x3+x8)) (xLw x3 x8) r1.2) (xAl r2),iN (!r2.1),AbC 141 (xAA (W (x3+x8)) (xLw x3 x8) r2.2) (xAg r3),2<=Ln r2.2,Ln r3=Ln r2.2]:=by kernel_rfl
def xQy(x2 x3 x8 g004 r1):rS 2 xFf (xEL x2 x3 x8 g004) [F,F,F,Y] [xAl r1]=dn (xAK r1.2) [xPu x8 x2,iN (xS3 x8 x2),iN false,AbC 64 (xBl (W (x3+x8)) (xLw x3 x8) g004) (xAl r1),iY (!r1.1)]:=by kernel_rfl
def xQz(x2 x3 x8 g004 r1 r2):rS 2 xFf (xEL x2 x3 x8 g004) [F,F,F,F] [xAl r1,xAg r2]=st 2 xFf (xEL x2 x3 (xPZ x8) r2) [xPu x8 x2,iN (xS3 x8 x2),iN false,AbC 64 (xBl (W (x3+x8)) (xLw x3 x8) g004) (xAl r1),iN (!r1.1),AbC 141 (xAA (W (x3+x8)) (xLw x3 x8) r1.2) (xAg r2),2<=Ln r1.2,Ln r2=Ln r1.2]:=by kernel_rfl
def xQA(a0 a1 a2 a3):rE xFf (xCg a0 a1 a2 a3) [] []=st 2 xFf (xEL a1 a2 a0 a3) []:=by kernel_rfl
theorem xSG{N:Nat}:∀n x2 x3 x8 g004 r,xBd N n x2 x3 x8 g004=some r->RS Tryz.f166 xFf 2 (xEL x2 x3 x8 g004) (xAK r):=by
 intro n
 induction n with
 |zero=>exact fun _ _ _ _ _ h=>nE h
 |succ n ih=>
  exact fun x2 x3 x8 g004 r h=>cE h (fun h0 h=>dS h xHd (xQt x2 x3 x8 g004) (oc h0 on)) fun h0 h=>cE h (fun h1 h=>bE h fun r1 h2 h=>cE h (fun h3 h=>bE h fun r2 h4 h=>cE h (fun h5 h=>dS h xHd (xQu x2 x3 x8 g004 r1 r2) (oc6 h0 h1 (xAs h2) h3 (xAs h4) h5 on)) fun h5 h=>bE h fun r3 h6 h=>iE h fun h7 h=>iE h fun h8 h=>tS xHd (xQv x2 x3 x8 g004 r1 r2 r3) (oc9 h0 h1 (xAs h2) h3 (xAs h4) h5 (xAr h6) h7 h8 on) (ih _ _ _ _ _ h)) fun h3 h=>bE h fun r2 h4 h=>cE h (fun h5 h=>dS h xHd (xQw x2 x3 x8 g004 r1 r2) (oc6 h0 h1 (xAs h2) h3 (xAs h4) h5 on)) fun h5 h=>bE h fun r3 h6 h=>iE h fun h7 h=>iE h fun h8 h=>tS xHd (xQx x2 x3 x8 g004 r1 r2 r3) (oc9 h0 h1 (xAs h2) h3 (xAs h4) h5 (xAr h6) h7 h8 on) (ih _ _ _ _ _ h)) fun h1 h=>bE h fun r1 h3 h=>cE h (fun h4 h=>dS h xHd (xQy x2 x3 x8 g004 r1) (oc5 h0 h1 rfl (xAs h3) h4 on)) fun h4 h=>bE h fun r2 h5 h=>iE h fun h6 h=>iE h fun h7 h=>tS xHd (xQz x2 x3 x8 g004 r1 r2) (oc8 h0 h1 rfl (xAs h3) h4 (xAr h5) h6 h7 on) (ih _ _ _ _ _ h)
theorem xSH{N:Nat}:∀a0 a1 a2 a3 r,xBF N a0 a1 a2 a3=some r->RE Tryz.f166 xFf (xCg a0 a1 a2 a3) (xAK r):=fun a0 a1 a2 a3 r h=>tE xHd (xQA a0 a1 a2 a3) on (xSG _ _ _ _ _ _ h)
theorem xEU{N:Nat}{a0:Int}{a1:Int}{a2:Int}{a3:List Org}{r:(List Org)}(h:xBF N  a0 a1 a2 a3=some r):AbC 166 (xCg a0 a1 a2 a3) (xAK r):=
 AbsCalls.of_reach xHd rfl rfl rfl (jL rfl) (xSH a0 a1 a2 a3 r h)
noncomputable def xHc:Info:= { body:=(Tryz.f145.body).getD .skip,nt:=45,results:=[],keep:=[0,2,4,6,12,14,16,18,20,38,60,2000006,7,2000007],live:=[(5,[6,12,14,16,18,2000006,7,2000007]),(9,[6,12,14,20,2000006,7,2000007])],modes:=[(12,[(1,.take,false)])],ext:=[1000003] }
theorem xKD:FnOk Tryz.prog 145 Tryz.f145 xHc:=by refine⟨Tryz.func145,?_,?_,?_,?_⟩<;>kernel_rfl
def xKx(x6 x7 x8 x9:Int)(g003:List Org):St:=[(6,.v false [.ptr 3 0]),(12,.v false [.int .i64 x6]),(14,.v false [.int .i64 x7]),(16,.v false [.int .i64 x8]),(18,.v false [.int .i64 x9]),(7,.v true [.clo 64 [1000003],.swp 141 0 (.pointer (some ⟨0,80,none⟩)) 1000003]),(2000007,.v true [.sl (.lnt 0) .org g003])]
def xKy(x6 x7 x10:Int)(g003:List Org):St:=[(6,.v false [.ptr 3 0]),(12,.v false [.int .i64 x6]),(14,.v false [.int .i64 x7]),(20,.v false [.int .i64 x10]),(7,.v true [.clo 64 [1000003],.swp 141 0 (.pointer (some ⟨0,80,none⟩)) 1000003]),(2000007,.v true [.sl (.lnt 0) .org g003])]
def xRW(x6 x7 x10 g003 r1 r2):rS 9 xHc (xKy x6 x7 x10 g003) [Y] [xAg r1,cl (xAK r2)]=st 9 xHc (xKy x6 x7 (W (x10 - 1)) r2) [iY (dc (x10>=0)),AbC 141 (xAA x6 (W (x6+x10)) g003) (xAg r1),2<=Ln g003,Ln r1=Ln g003,AbC 166 (xCg x7 x10 x6 r1) (xAK r2)]:=by kernel_rfl
def xRX(x6 x7 x10 g003):rS 9 xHc (xKy x6 x7 x10 g003) [F] []=dn (xBt g003) [iN (dc (x10>=0))]:=by kernel_rfl
def xRU(x6 x7 x8 x9 g003 r1):rS 5 xHc (xKx x6 x7 x8 x9 g003) [Y] [cl (xAK r1)]=st 5 xHc (xKx x6 x7 x8 (W (x9 - 1)) r1) [iY (dc (x9>=0)),AbC 166 (xCg x9 x8 x6 g003) (xAK r1)]:=by kernel_rfl
def xRV(x6 x7 x8 x9 g003):rS 5 xHc (xKx x6 x7 x8 x9 g003) [F] []=st 9 xHc (xKy x6 x7 (W (x8 - 1)) g003) [iN (dc (x9>=0))]:=by kernel_rfl
def xRY(a0 a1 a2):rE xHc (xCH a0 a1 a2) [] []=st 5 xHc (xKx a0 0 (W (a1 - a0)) (W (Int.tdiv (W ((W (a1 - a0)) - 1)) 2)) a2) [2≠(0:Int)]:=by kernel_rfl
theorem xUt{N:Nat}:∀n x6 x7 x10 g003 r,xBN N n x6 x7 x10 g003=some r->RS Tryz.f145 xHc 9 (xKy x6 x7 x10 g003) (xBt r):=by
 intro n
 induction n with
 |zero=>exact fun _ _ _ _ _ h=>nE h
 |succ n ih=>
  exact fun x6 x7 x10 g003 r h=>cE h (fun h0 h=>bE h fun r1 h1 h=>iE h fun h2 h=>iE h fun h3 h=>bE h fun r2 h4 h=>tS xKD (xRW x6 x7 x10 g003 r1 r2) (oc5 h0 (xAr h1) h2 h3 (xEU h4) on) (ih _ _ _ _ _ h)) fun h0 h=>dS h xKD (xRX x6 x7 x10 g003) (oc h0 on)
theorem xUs{N:Nat}:∀n x6 x7 x8 x9 g003 r,xBM N n x6 x7 x8 x9 g003=some r->RS Tryz.f145 xHc 5 (xKx x6 x7 x8 x9 g003) (xBt r):=by
 intro n
 induction n with
 |zero=>exact fun _ _ _ _ _ _ h=>nE h
 |succ n ih=>
  exact fun x6 x7 x8 x9 g003 r h=>cE h (fun h0 h=>bE h fun r1 h1 h=>tS xKD (xRU x6 x7 x8 x9 g003 r1) (oc2 h0 (xEU h1) on) (ih _ _ _ _ _ _ h)) fun h0 h=>tS xKD (xRV x6 x7 x8 x9 g003) (oc h0 on) (xUt _ _ _ _ _ _ h)
theorem xUu{N:Nat}:∀a0 a1 a2 r,xCx N a0 a1 a2=some r->RE Tryz.f145 xHc (xCH a0 a1 a2) (xBt r):=fun a0 a1 a2 r h=>tE xKD (xRY a0 a1 a2) (oc (by decide) on) (xUs _ _ _ _ _ _ _ h)
theorem xHz{N:Nat}{a0:Int}{a1:Int}{a2:List Org}{r:(List Org)}(h:xCx N  a0 a1 a2=some r):AbC 145 (xCH a0 a1 a2) (xBt r):=
 AbsCalls.of_reach xKD rfl rfl rfl (jL rfl) (xUu a0 a1 a2 r h)
noncomputable def xF5:Info:= { body:=(Tryz.f144.body).getD .skip,nt:=35,results:=[],keep:=[0,2,4,6,12,14,24,52,2000006,7,2000007],live:=[(2,[2,4,6,12,2000006,7,2000007]),(5,[2,4,6,12,14,2000006,7,2000007])],modes:=[(5,[(3,.take,false)])],ext:=[1000003] }
theorem xJu:FnOk Tryz.prog 144 Tryz.f144 xF5:=by refine⟨Tryz.func144,?_,?_,?_,?_⟩<;>kernel_rfl
def xIt(x1 x2 x6:Int)(g003:List Org):St:=[(2,.v false [.int .i64 x1]),(4,.v false [.int .i64 x2]),(6,.v false [.ptr 3 0]),(12,.v false [.int .i64 x6]),(7,.v true [.clo 64 [1000003],.swp 141 0 (.pointer (some ⟨0,80,none⟩)) 1000003]),(2000007,.v true [.sl (.lnt 0) .org g003])]
def xJm(x1 x2 x6 x7:Int)(g003:List Org):St:=[(2,.v false [.int .i64 x1]),(4,.v false [.int .i64 x2]),(6,.v false [.ptr 3 0]),(12,.v false [.int .i64 x6]),(14,.v false [.int .i64 x7]),(7,.v true [.clo 64 [1000003],.swp 141 0 (.pointer (some ⟨0,80,none⟩)) 1000003]),(2000007,.v true [.sl (.lnt 0) .org g003])]
def xRQ(x1 x2 x6 x7 g003 r1 r2):rS 5 xF5 (xJm x1 x2 x6 x7 g003) [Y,Y] [xAl r1,xAg r2]=st 5 xF5 (xJm x1 x2 x6 (W (x7 - 1)) r2) [iY (dc (x7>x1)),xRC x7 g003 r1,iY r1.1,AbC 141 (xAA x7 (W (x7 - 1)) r1.2) (xAg r2),2<=Ln r1.2,Ln r2=Ln r1.2]:=by kernel_rfl
def xRR(x1 x2 x6 x7 g003 r1):rS 5 xF5 (xJm x1 x2 x6 x7 g003) [Y,F] [xAl r1]=st 2 xF5 (xIt x1 x2 (W (x6+1)) r1.2) [iY (dc (x7>x1)),xRC x7 g003 r1,iN r1.1]:=by kernel_rfl
def xRS(x1 x2 x6 x7 g003):rS 5 xF5 (xJm x1 x2 x6 x7 g003) [F,F] []=st 2 xF5 (xIt x1 x2 (W (x6+1)) g003) [iN (dc (x7>x1)),iN false]:=by kernel_rfl
def xRO(x1 x2 x6 g003):rS 2 xF5 (xIt x1 x2 x6 g003) [Y] []=st 5 xF5 (xJm x1 x2 x6 x6 g003) [xHm x6 x2]:=by kernel_rfl
def xRP(x1 x2 x6 g003):rS 2 xF5 (xIt x1 x2 x6 g003) [F] []=dn (xAZ g003) [xKt x6 x2]:=by kernel_rfl
def xRT(a0 a1 a2):rE xF5 (xCq a0 a1 a2) [] []=st 2 xF5 (xIt a0 a1 (W (a0+1)) a2) []:=by kernel_rfl
theorem xUq{N:Nat}{k2:Int->Int->Int->(List Org)->Option ((List Org))}(hk2:∀z0 z1 z2 z3 r,k2 z0 z1 z2 z3=some r->RS Tryz.f144 xF5 2 (xIt z0 z1 z2 z3) (xAZ r)):∀n x1 x2 x6 x7 g003 r,xBp N k2 n x1 x2 x6 x7 g003=some r->RS Tryz.f144 xF5 5 (xJm x1 x2 x6 x7 g003) (xAZ r):=by
 intro n
 induction n with
 |zero=>exact fun _ _ _ _ _ _ h=>nE h
 |succ n ih=>
  exact fun x1 x2 x6 x7 g003 r h=>cE h (fun h0 h=>bE h fun r1 h1 h=>cE h (fun h2 h=>bE h fun r2 h3 h=>iE h fun h4 h=>iE h fun h5 h=>tS xJu (xRQ x1 x2 x6 x7 g003 r1 r2) (oc6 h0 (xAs h1) h2 (xAr h3) h4 h5 on) (ih _ _ _ _ _ _ h)) fun h2 h=>tS xJu (xRR x1 x2 x6 x7 g003 r1) (oc3 h0 (xAs h1) h2 on) (hk2 _ _ _ _ _ h)) fun h0 h=>tS xJu (xRS x1 x2 x6 x7 g003) (oc2 h0 rfl on) (hk2 _ _ _ _ _ h)
theorem xUp{N:Nat}:∀n x1 x2 x6 g003 r,xBo N n x1 x2 x6 g003=some r->RS Tryz.f144 xF5 2 (xIt x1 x2 x6 g003) (xAZ r):=by
 intro n
 induction n with
 |zero=>exact fun _ _ _ _ _ h=>nE h
 |succ n ih=>
  exact fun x1 x2 x6 g003 r h=>cE h (fun h0 h=>tS xJu (xRO x1 x2 x6 g003) (oc h0 on) (xUq ih _ _ _ _ _ _ _ h)) fun h0 h=>dS h xJu (xRP x1 x2 x6 g003) (oc h0 on)
theorem xUr{N:Nat}:∀a0 a1 a2 r,xB4 N a0 a1 a2=some r->RE Tryz.f144 xF5 (xCq a0 a1 a2) (xAZ r):=fun a0 a1 a2 r h=>tE xJu (xRT a0 a1 a2) on (xUp _ _ _ _ _ _ h)
theorem xGI{N:Nat}{a0:Int}{a1:Int}{a2:List Org}{r:(List Org)}(h:xB4 N  a0 a1 a2=some r):AbC 144 (xCq a0 a1 a2) (xAZ r):=
 AbsCalls.of_reach xJu rfl rfl rfl (jL rfl) (xUr a0 a1 a2 r h)
def xJ1(q:Int->Int->Int->(List Org)->Option ((List Org))):Prop:=∀a0 a1 a2 a3 r,q a0 a1 a2 a3=some r->AbC 107 (xBz a0 a1 a2 a3) (xAt r)
noncomputable def xB5:Info:= { body:=(Tryz.f107.body).getD .skip,nt:=130,results:=[],keep:=[0,2,4,6,8,16,18,20,22,24,26,28,30,32,34,36,46,58,70,100,136,144,166,218,2000008,9,2000009],live:=[(3,[2,4,6,8,16,18,2000008,9,2000009]),(11,[2,4,6,8,16,18,20,2000008,9,2000009]),(16,[2,4,6,8,16,18,20,22,24,2000008,9,2000009]),(18,[2,4,6,8,16,18,20,22,2000008,9,2000009]),(21,[2,4,6,8,20,22,2000008,9,2000009])],modes:=[(11,[(4,.take,false)]),(16,[(1,.take,false),(2,.take,false),(4,.take,false)]),(18,[(2,.take,false)]),(20,[(0,.take,false)]),(21,[(5,.take,false)]),(22,[(0,.take,false)])],ext:=[1000004] }
theorem xEg:FnOk Tryz.prog 107 Tryz.f107 xB5:=by refine⟨Tryz.func107,?_,?_,?_,?_⟩<;>kernel_rfl
def xE5(x1 x2 x3:Int)(x8 x9:Bool)(g004:List Org):St:=[(2,.v false [.int .i64 x1]),(4,.v false [.int .i64 x2]),(6,.v false [.int .i64 x3]),(8,.v false [.ptr 4 0]),(16,.v false [.bool x8]),(18,.v false [.bool x9]),(9,.v true [.clo 64 [1000004],.swp 141 0 (.pointer (some ⟨0,80,none⟩)) 1000004]),(2000009,.v true [.sl (.lnt 0) .org g004])]
def xJq(x1 x2 x3:Int)(x8 x9:Bool)(x10:Int)(g004:List Org):St:=[(2,.v false [.int .i64 x1]),(4,.v false [.int .i64 x2]),(6,.v false [.int .i64 x3]),(8,.v false [.ptr 4 0]),(16,.v false [.bool x8]),(18,.v false [.bool x9]),(20,.v false [.int .i64 x10]),(9,.v true [.clo 64 [1000004],.swp 141 0 (.pointer (some ⟨0,80,none⟩)) 1000004]),(2000009,.v true [.sl (.lnt 0) .org g004])]
def xGZ(x1 x2 x3:Int)(x8 x9:Bool)(x10 x11 x12:Int)(g004:List Org):St:=[(2,.v false [.int .i64 x1]),(4,.v false [.int .i64 x2]),(6,.v false [.int .i64 x3]),(8,.v false [.ptr 4 0]),(16,.v false [.bool x8]),(18,.v false [.bool x9]),(20,.v false [.int .i64 x10]),(22,.v false [.int .i64 x11]),(24,.v false [.int .i64 x12]),(9,.v true [.clo 64 [1000004],.swp 141 0 (.pointer (some ⟨0,80,none⟩)) 1000004]),(2000009,.v true [.sl (.lnt 0) .org g004])]
def xG0(x1 x2 x3:Int)(x8 x9:Bool)(x10 x11:Int)(g004:List Org):St:=[(2,.v false [.int .i64 x1]),(4,.v false [.int .i64 x2]),(6,.v false [.int .i64 x3]),(8,.v false [.ptr 4 0]),(16,.v false [.bool x8]),(18,.v false [.bool x9]),(20,.v false [.int .i64 x10]),(22,.v false [.int .i64 x11]),(9,.v true [.clo 64 [1000004],.swp 141 0 (.pointer (some ⟨0,80,none⟩)) 1000004]),(2000009,.v true [.sl (.lnt 0) .org g004])]
def xJr(x1 x2 x3 x10 x11:Int)(g004:List Org):St:=[(2,.v false [.int .i64 x1]),(4,.v false [.int .i64 x2]),(6,.v false [.int .i64 x3]),(8,.v false [.ptr 4 0]),(20,.v false [.int .i64 x10]),(22,.v false [.int .i64 x11]),(9,.v true [.clo 64 [1000004],.swp 141 0 (.pointer (some ⟨0,80,none⟩)) 1000004]),(2000009,.v true [.sl (.lnt 0) .org g004])]
def xQN(x1 x2 x3 x10 x11 g004 r1 r2):rS 21 xB5 (xJr x1 x2 x3 x10 x11 g004) [Y] [cl (xAB r1),cl (xAt r2)]=st 3 xB5 (xE5 (W (r1.1+1)) x2 x3 (dc ((W (r1.1 - x1))>=(W (Int.tdiv x10 8)))) r1.2.1 r2) [AbC 151 (xB6 x1 x2 x11 g004) (xAB r1),8≠(0:Int),iY (dc ((W (r1.1 - x1))<(W (x2 - r1.1)))),AbC 107 (xBz x1 r1.1 x3 r1.2.2) (xAt r2)]:=by kernel_rfl
def xQO(x1 x2 x3 x10 x11 g004 r1 r2):rS 21 xB5 (xJr x1 x2 x3 x10 x11 g004) [F] [cl (xAB r1),cl (xAt r2)]=st 3 xB5 (xE5 x1 r1.1 x3 (dc ((W (x2 - r1.1))>=(W (Int.tdiv x10 8)))) r1.2.1 r2) [AbC 151 (xB6 x1 x2 x11 g004) (xAB r1),8≠(0:Int),iN (dc ((W (r1.1 - x1))<(W (x2 - r1.1)))),AbC 107 (xBz (W (r1.1+1)) x2 x3 r1.2.2) (xAt r2)]:=by kernel_rfl
abbrev xOo(v0:Int):Prop:=iY (dc (v0>0))
def xQK(x1 x2 x3 x8 x9 x10 x11 g004 r1 r2):rS 18 xB5 (xG0 x1 x2 x3 x8 x9 x10 x11 g004) [Y,Y] [xAl r1,cl (xAN r2)]=st 3 xB5 (xE5 r2.1 x2 x3 x8 x9 r2.2) [xOo x1,AbC 64 (xBl (W (x1 - 1)) x11 g004) (xAl r1),iY (!r1.1),AbC 150 (xCi x1 x2 x11 r1.2) (xAN r2)]:=by kernel_rfl
def xQL(x1 x2 x3 x8 x9 x10 x11 g004 r1):rS 18 xB5 (xG0 x1 x2 x3 x8 x9 x10 x11 g004) [Y,F] [xAl r1]=st 21 xB5 (xJr x1 x2 x3 x10 x11 r1.2) [xOo x1,AbC 64 (xBl (W (x1 - 1)) x11 g004) (xAl r1),iN (!r1.1)]:=by kernel_rfl
def xQM(x1 x2 x3 x8 x9 x10 x11 g004):rS 18 xB5 (xG0 x1 x2 x3 x8 x9 x10 x11 g004) [F,F] []=st 21 xB5 (xJr x1 x2 x3 x10 x11 g004) [iN (dc (x1>0)),iN false]:=by kernel_rfl
def xQF(x1 x2 x3 x8 x9 x10 x11 x12 g004 r1):rS 16 xB5 (xGZ x1 x2 x3 x8 x9 x10 x11 x12 g004) [Y,Y,Y,Y] [cl (xAm r1)]=dn (xAt r1.2) [iY x8,iY x9,iY (x12==1),AbC 149 (xBn x1 x2 g004) (xAm r1),iY r1.1]:=by kernel_rfl
def xQG(x1 x2 x3 x8 x9 x10 x11 x12 g004 r1):rS 16 xB5 (xGZ x1 x2 x3 x8 x9 x10 x11 x12 g004) [Y,Y,Y,F] [cl (xAm r1)]=st 18 xB5 (xG0 x1 x2 x3 x8 x9 x10 x11 r1.2) [iY x8,iY x9,iY (x12==1),AbC 149 (xBn x1 x2 g004) (xAm r1),iN r1.1]:=by kernel_rfl
def xQH(x1 x2 x3 x8 x9 x10 x11 x12 g004):rS 16 xB5 (xGZ x1 x2 x3 x8 x9 x10 x11 x12 g004) [Y,Y,F] []=st 18 xB5 (xG0 x1 x2 x3 x8 x9 x10 x11 g004) [iY x8,iY x9,iN (x12==1)]:=by kernel_rfl
def xQI(x1 x2 x3 x8 x9 x10 x11 x12 g004):rS 16 xB5 (xGZ x1 x2 x3 x8 x9 x10 x11 x12 g004) [Y,F,F] []=st 18 xB5 (xG0 x1 x2 x3 x8 x9 x10 x11 g004) [iY x8,iN x9,iN false]:=by kernel_rfl
def xQJ(x1 x2 x3 x8 x9 x10 x11 x12 g004):rS 16 xB5 (xGZ x1 x2 x3 x8 x9 x10 x11 x12 g004) [F,F,F] []=st 18 xB5 (xG0 x1 x2 x3 x8 x9 x10 x11 g004) [iN x8,iN false,iN false]:=by kernel_rfl
def xPf(x1 x2 x3 x8 x9 x10 g004 r1 r2):rS 11 xB5 (xJq x1 x2 x3 x8 x9 x10 g004) [Y] [cl (xAx r1),cl (xBy r2)]=st 16 xB5 (xGZ x1 x2 x3 x8 x9 x10 (W ((W (x2 - 1)) - (W (r1.1 - x1)))) 1 r2) [AbC 147 (xAE x1 x2 g004) (xAx r1),iY (r1.2.1==2),AbC 148 (xCu x1 x2 r1.2.2) (xBy r2)]:=by kernel_rfl
def xPg(x1 x2 x3 x8 x9 x10 g004 r1):rS 11 xB5 (xJq x1 x2 x3 x8 x9 x10 g004) [F] [cl (xAx r1)]=st 16 xB5 (xGZ x1 x2 x3 x8 x9 x10 r1.1 r1.2.1 r1.2.2) [AbC 147 (xAE x1 x2 g004) (xAx r1),iN (r1.2.1==2)]:=by kernel_rfl
def xQP(x1 x2 x3 x8 x9 g004 r1):rS 3 xB5 (xE5 x1 x2 x3 x8 x9 g004) [Y] [cl (xAZ r1)]=dn (xAt r1) [iY (dc ((W (x2 - x1))<=12)),AbC 144 (xCq x1 x2 g004) (xAZ r1)]:=by kernel_rfl
def xQQ(x1 x2 x3 x8 x9 g004 r1):rS 3 xB5 (xE5 x1 x2 x3 x8 x9 g004) [F,Y] [cl (xBt r1)]=dn (xAt r1) [iN (dc ((W (x2 - x1))<=12)),iY (x3==0),AbC 145 (xCH x1 x2 g004) (xBt r1)]:=by kernel_rfl
abbrev xJ5(v0:Int):Prop:=iN (v0==0)
def xQR(x1 x2 x3 x8 x9 g004 r1):rS 3 xB5 (xE5 x1 x2 x3 x8 x9 g004) [F,F,Y] [cl (xBc r1)]=st 11 xB5 (xJq x1 x2 (W (x3 - 1)) x8 x9 (W (x2 - x1)) r1) [iN (dc ((W (x2 - x1))<=12)),xJ5 x3,iY (!x8),AbC 146 (xBT x1 x2 g004) (xBc r1)]:=by kernel_rfl
abbrev xAC(v0:Bool):Prop:=iN (!v0)
def xQS(x1 x2 x3 x8 x9 g004):rS 3 xB5 (xE5 x1 x2 x3 x8 x9 g004) [F,F,F] []=st 11 xB5 (xJq x1 x2 x3 x8 x9 (W (x2 - x1)) g004) [iN (dc ((W (x2 - x1))<=12)),xJ5 x3,xAC x8]:=by kernel_rfl
def xQT(a0 a1 a2 a3):rE xB5 (xBz a0 a1 a2 a3) [] []=st 3 xB5 (xE5 a0 a1 a2 true true a3) []:=by kernel_rfl
theorem xN2{N q0}(g0:xJ1 q0){k3:Int->Int->Int->Bool->Bool->(List Org)->Option ((List Org))}(hk3:∀z0 z1 z2 z3 z4 z5 r,k3 z0 z1 z2 z3 z4 z5=some r->RS Tryz.f107 xB5 3 (xE5 z0 z1 z2 z3 z4 z5) (xAt r)):∀x1 x2 x3 x10 x11 g004 r,xCf N q0 k3 x1 x2 x3 x10 x11 g004=some r->RS Tryz.f107 xB5 21 (xJr x1 x2 x3 x10 x11 g004) (xAt r):=fun x1 x2 x3 x10 x11 g004 r h=>bE h fun r1 h0 h=>cE h (fun h2 h=>bE h fun r2 h3 h=>tS xEg (xQN x1 x2 x3 x10 x11 g004 r1 r2) (oc4 (xEK h0) (by decide) h2 (g0 _ _ _ _ _ h3) on) (hk3 _ _ _ _ _ _ _ h)) fun h2 h=>bE h fun r2 h3 h=>tS xEg (xQO x1 x2 x3 x10 x11 g004 r1 r2) (oc4 (xEK h0) (by decide) h2 (g0 _ _ _ _ _ h3) on) (hk3 _ _ _ _ _ _ _ h)
theorem xKT{N q0}(g0:xJ1 q0){k3:Int->Int->Int->Bool->Bool->(List Org)->Option ((List Org))}(hk3:∀z0 z1 z2 z3 z4 z5 r,k3 z0 z1 z2 z3 z4 z5=some r->RS Tryz.f107 xB5 3 (xE5 z0 z1 z2 z3 z4 z5) (xAt r)):∀x1 x2 x3 x8 x9 x10 x11 g004 r,xBu N q0 k3 x1 x2 x3 x8 x9 x10 x11 g004=some r->RS Tryz.f107 xB5 18 (xG0 x1 x2 x3 x8 x9 x10 x11 g004) (xAt r):=fun x1 x2 x3 x8 x9 x10 x11 g004 r h=>cE h (fun h0 h=>bE h fun r1 h1 h=>cE h (fun h2 h=>bE h fun r2 h3 h=>tS xEg (xQK x1 x2 x3 x8 x9 x10 x11 g004 r1 r2) (oc4 h0 (xAs h1) h2 (xGs h3) on) (hk3 _ _ _ _ _ _ _ h)) fun h2 h=>tS xEg (xQL x1 x2 x3 x8 x9 x10 x11 g004 r1) (oc3 h0 (xAs h1) h2 on) (xN2 g0 hk3 _ _ _ _ _ _ _ h)) fun h0 h=>tS xEg (xQM x1 x2 x3 x8 x9 x10 x11 g004) (oc2 h0 rfl on) (xN2 g0 hk3 _ _ _ _ _ _ _ h)
theorem xN1{N q0}(g0:xJ1 q0){k3:Int->Int->Int->Bool->Bool->(List Org)->Option ((List Org))}(hk3:∀z0 z1 z2 z3 z4 z5 r,k3 z0 z1 z2 z3 z4 z5=some r->RS Tryz.f107 xB5 3 (xE5 z0 z1 z2 z3 z4 z5) (xAt r)):∀x1 x2 x3 x8 x9 x10 x11 x12 g004 r,xCe N q0 k3 x1 x2 x3 x8 x9 x10 x11 x12 g004=some r->RS Tryz.f107 xB5 16 (xGZ x1 x2 x3 x8 x9 x10 x11 x12 g004) (xAt r):=fun x1 x2 x3 x8 x9 x10 x11 x12 g004 r h=>cE h (fun h0 h=>cE h (fun h1 h=>cE h (fun h2 h=>bE h fun r1 h3 h=>cE h (fun h4 h=>dS h xEg (xQF x1 x2 x3 x8 x9 x10 x11 x12 g004 r1) (oc5 h0 h1 h2 (xDo h3) h4 on)) fun h4 h=>tS xEg (xQG x1 x2 x3 x8 x9 x10 x11 x12 g004 r1) (oc5 h0 h1 h2 (xDo h3) h4 on) (xKT g0 hk3 _ _ _ _ _ _ _ _ _ h)) fun h2 h=>tS xEg (xQH x1 x2 x3 x8 x9 x10 x11 x12 g004) (oc3 h0 h1 h2 on) (xKT g0 hk3 _ _ _ _ _ _ _ _ _ h)) fun h1 h=>tS xEg (xQI x1 x2 x3 x8 x9 x10 x11 x12 g004) (oc3 h0 h1 rfl on) (xKT g0 hk3 _ _ _ _ _ _ _ _ _ h)) fun h0 h=>tS xEg (xQJ x1 x2 x3 x8 x9 x10 x11 x12 g004) (oc3 h0 rfl rfl on) (xKT g0 hk3 _ _ _ _ _ _ _ _ _ h)
theorem xN0{N q0}(g0:xJ1 q0){k3:Int->Int->Int->Bool->Bool->(List Org)->Option ((List Org))}(hk3:∀z0 z1 z2 z3 z4 z5 r,k3 z0 z1 z2 z3 z4 z5=some r->RS Tryz.f107 xB5 3 (xE5 z0 z1 z2 z3 z4 z5) (xAt r)):∀x1 x2 x3 x8 x9 x10 g004 r,xCd N q0 k3 x1 x2 x3 x8 x9 x10 g004=some r->RS Tryz.f107 xB5 11 (xJq x1 x2 x3 x8 x9 x10 g004) (xAt r):=fun x1 x2 x3 x8 x9 x10 g004 r h=>bE h fun r1 h0 h=>cE h (fun h1 h=>bE h fun r2 h2 h=>tS xEg (xPf x1 x2 x3 x8 x9 x10 g004 r1 r2) (oc3 (xEx h0) h1 (xGS h2) on) (xN1 g0 hk3 _ _ _ _ _ _ _ _ _ _ h)) fun h1 h=>tS xEg (xPg x1 x2 x3 x8 x9 x10 g004 r1) (oc2 (xEx h0) h1 on) (xN1 g0 hk3 _ _ _ _ _ _ _ _ _ _ h)
theorem xUn{N q0}(g0:xJ1 q0):∀n x1 x2 x3 x8 x9 g004 r,xBA N q0 n x1 x2 x3 x8 x9 g004=some r->RS Tryz.f107 xB5 3 (xE5 x1 x2 x3 x8 x9 g004) (xAt r):=by
 intro n
 induction n with
 |zero=>exact fun _ _ _ _ _ _ _ h=>nE h
 |succ n ih=>
  exact fun x1 x2 x3 x8 x9 g004 r h=>cE h (fun h0 h=>bE h fun r1 h1 h=>dS h xEg (xQP x1 x2 x3 x8 x9 g004 r1) (oc2 h0 (xGI h1) on)) fun h0 h=>cE h (fun h1 h=>bE h fun r1 h2 h=>dS h xEg (xQQ x1 x2 x3 x8 x9 g004 r1) (oc3 h0 h1 (xHz h2) on)) fun h1 h=>cE h (fun h2 h=>bE h fun r1 h3 h=>tS xEg (xQR x1 x2 x3 x8 x9 g004 r1) (oc4 h0 h1 h2 (xGH h3) on) (xN0 g0 ih _ _ _ _ _ _ _ _ h)) fun h2 h=>tS xEg (xQS x1 x2 x3 x8 x9 g004) (oc3 h0 h1 h2 on) (xN0 g0 ih _ _ _ _ _ _ _ _ h)
theorem xUo{N q0}(g0:xJ1 q0):∀a0 a1 a2 a3 r,xDn N q0 a0 a1 a2 a3=some r->RE Tryz.f107 xB5 (xBz a0 a1 a2 a3) (xAt r):=fun a0 a1 a2 a3 r h=>tE xEg (xQT a0 a1 a2 a3) on (xUn g0 _ _ _ _ _ _ _ _ h)
theorem xGR{N q0}(g0:xJ1 q0){a0}{a1}{a2}{a3}{r}(h:xDn N q0 a0 a1 a2 a3=some r):AbC 107 (xBz a0 a1 a2 a3) (xAt r):=
 AbsCalls.of_reach xEg rfl rfl rfl (jL rfl) (xUo g0 a0 a1 a2 a3 r h)
theorem xEy{N:Nat}:∀d,xJ1 (xBv N d)
 |0=>fun _ _ _ _ _ h=>nE h
 |d+1=>fun _ _ _ _ _ h=>xGR (N:=N) (xEy d) h
theorem sort_pdqsort_func_cUnionOrigins_1_ok{N:Nat}{a0:Int}{a1:Int}{a2:Int}{a3:List Org}{r:(List Org)}(h:xD3 N a0 a1 a2 a3=some r):AbC 107 (xBz a0 a1 a2 a3) (xAt r):=xEy N _ _ _ _ r h
end Go.Ab.T
end
section
namespace Go.Ab
def Big(p:Nat->Prop):Prop:=∃k,∀N,k<=N->p N
def Big2(p:Nat->Nat->Prop):Prop:=∃k,∀N n,k<=N->k<=n->p N n
theorem Big.imp{p q:Nat->Prop}(h:Big p)(f:∀N,p N->q N):Big q:=h.elim fun k hk=>⟨k,fun N hN=>f N (hk N hN)⟩
theorem Big2.imp{p q:Nat->Nat->Prop}(h:Big2 p)(f:∀N n,p N n->q N n):Big2 q:=h.elim fun k hk=>⟨k,fun N n h1 h2=>f N n (hk N n h1 h2)⟩
theorem Big.of{p:Nat->Prop}(h:∀N,p N):Big p:=⟨0,fun N _=>h N⟩
theorem Big2.of{p:Nat->Nat->Prop}(h:∀N n,p N n):Big2 p:=⟨0,fun N n _ _=>h N n⟩
theorem Big.and{p q:Nat->Prop}(h:Big p)(h' :Big q):Big fun N=>p N/\q N:=by
 obtain⟨a,ha⟩:=h;obtain⟨b,hb⟩:=h';exact⟨max a b,fun N hN=>⟨ha N (by omega),hb N (by omega)⟩⟩
theorem Big2.and{p q:Nat->Nat->Prop}(h:Big2 p)(h' :Big2 q):Big2 fun N n=>p N n/\q N n:=by
 obtain⟨a,ha⟩:=h;obtain⟨b,hb⟩:=h';exact⟨max a b,fun N n h1 h2=>⟨ha N n (by omega) (by omega),hb N n (by omega) (by omega)⟩⟩
theorem Big.two{p:Nat->Prop}(h:Big p):Big2 fun N _=>p N:=h.elim fun k hk=>⟨k,fun N _ h _=>hk N h⟩
theorem Big2.diag{p:Nat->Nat->Prop}(h:Big2 p):Big fun N=>p N N:=h.elim fun k hk=>⟨k,fun N h=>hk N N h h⟩
theorem Big2.succ{p:Nat->Nat->Prop}(h:Big2 fun N n=>p N (n+1)):Big2 p:=by
 obtain⟨k,hk⟩:=h;refine⟨k+1,fun N n h1 h2=> ?_⟩;obtain⟨m,rfl⟩:∃m,n=m+1:=⟨n - 1,by omega⟩;exact hk N m (by omega) (by omega)
theorem Big.list{α:Type}{p:α->Nat->Prop}{l:List α}(h:∀x∈l,Big (p x)):Big fun N=>∀x∈l,p x N:=by
 induction l with
 |nil=>exact .of fun N x hx=>by cases hx
 |cons a l ih=>
  refine((h a List.mem_cons_self).and (ih fun x hx=>h x (List.mem_cons_of_mem _ hx))).imp fun N ⟨h1,h2⟩ x hx=> ?_;rcases List.mem_cons.1 hx with rfl|hx
  ·exact h1
  ·exact h2 x hx
theorem Big2.list{α:Type}{p:α->Nat->Nat->Prop}{l:List α}(h:∀x∈l,Big2 (p x)):Big2 fun N n=>∀x∈l,p x N n:=by
 induction l with
 |nil=>exact .of fun N n x hx=>by cases hx
 |cons a l ih=>
  refine((h a List.mem_cons_self).and (ih fun x hx=>h x (List.mem_cons_of_mem _ hx))).imp fun N n ⟨h1,h2⟩ x hx=> ?_;rcases List.mem_cons.1 hx with rfl|hx
  ·exact h1
  ·exact h2 x hx
theorem Big.get{p:Nat->Prop}(h:Big p):∃N,p N:=h.elim fun k hk=>⟨k,hk k (Nat.le_refl k)⟩
def I64(x:Int):Prop:= -9223372036854775808<=x/\x<=9223372036854775807
theorem xSv(x:Int):IntKind.i64.wrap x=if x % 18446744073709551616>=9223372036854775808 then x % 18446744073709551616 - 18446744073709551616 else x % 18446744073709551616:=by
 show(if(true&&decide (x % 18446744073709551616>=9223372036854775808))=true then x % 18446744073709551616 - 18446744073709551616 else x % 18446744073709551616)=_;simp only [Bool.true_and,decide_eq_true_eq]
theorem xC7{x:Int}(h1: -9223372036854775808<=x)(h2:x<=9223372036854775807):IntKind.i64.wrap x=x:=by
 rw [xSv];split <;>omega
theorem xKC{α:Type}{xs:List α}{i:Nat}{x:α}{l:List α}(h:xs.drop i=x::l):i<xs.length/\xs[i]? =some x/\xs.drop (i+1)=l:=by
 have h1:i<xs.length:=by
  rcases Nat.lt_or_ge i xs.length with h1|h1
  ·exact h1
  ·rw [List.drop_eq_nil_of_le h1] at h;cases h
 rw [List.drop_eq_getElem_cons h1] at h;cases h;exact⟨h1,by simp [h1],rfl⟩
theorem xNQ{α:Type}{xs:List α}{i:Nat}(h:xs.drop i=[]):xs.length<=i:=by simpa using h
end Go.Ab
end
section
open Go.IntKind (i64)
namespace Go.Ab
open Go.Sort
theorem xVD{a b:Org}:olt a b=true↔a.cell<b.cell\/(a.cell=b.cell/\a.row<b.row):=by
 unfold olt;by_cases h1:a.cell<b.cell
 ·simp [h1]
 ·by_cases h2:a.cell=b.cell
  ·have:(a.cell==b.cell)=true:=by simpa using h2
   simp [this,h2]
  ·have:(a.cell==b.cell)=false:=by simpa using h2
   simp [h1,h2,this]
theorem xOv{a b:Org}:olt a b=false↔b.cell<a.cell\/(a.cell=b.cell/\b.row<=a.row):=by
 rw [<-Bool.not_eq_true,xVD];omega
theorem xKu:SWO olt where
 irrefl:=fun x=>xOv.2 (by omega)
 trans:=fun x y z h1 h2=>by rw [xVD] at h1 h2 ⊢;omega
 ntrans:=fun x y z h1 h2=>by rw [xOv] at h1 h2 ⊢;omega
theorem xQh(x y:Org)(h1:olt x y=false)(h2:olt y x=false):x=y:=by
 rw [xOv] at h1 h2;cases x;cases y;simp at h1 h2 ⊢;omega
theorem xOy(N:Nat)(a b:Org):xEm N a b=some (olt a b):=by
 unfold xEm olt;by_cases h1:a.cell<b.cell
 ·simp [h1]
 ·cases h2:(a.cell==b.cell) <;>simp [h1]
theorem xTG{d:Array Org}{i:Nat}(hi:i<d.size):d.toList.getD (Int.toNat (i:Int)) Ty.org.dflt=d[i]! :=by
 rw [Int.toNat_natCast,List.getD_eq_getElem?_getD];simp [hi]
theorem vAS(N:Nat){i j:Nat}{d:Array Org}(hi:i<d.size)(hj:j<d.size):xAU N (i:Int) (j:Int) d.toList=some (olt d[i]! d[j]!,d.toList):=by
 unfold xAU;rw [if_pos ⟨Int.natCast_nonneg _,by simpa using hi⟩,if_pos ⟨Int.natCast_nonneg _,by simpa using hj⟩,xOy,xTG hi,xTG hj]
 rfl
theorem vEK(N:Nat){i j:Nat}{d:Array Org}(hi:i<d.size)(hj:j<d.size):xAo N (i:Int) (j:Int) d.toList=some (swp d i j).toList:=by
 unfold xAo zJa;rw [if_pos ⟨Int.natCast_nonneg _,by simpa using hi,Int.natCast_nonneg _,by simpa using hj⟩]
 rfl
theorem wn{x:Int}(n:Nat)(h:x=n)(hn:n<9223372036854775808):i64.wrap x=(n:Int):=by rw [h];exact xC7 (by omega) (by omega)
theorem xFV{β:Type}(N:Nat){x y:Int}{i j:Nat}{d:Array Org}(hx:x=i)(hy:y=j)(hi:i<d.size)(hj:j<d.size)(k:Bool×List Org->Option β):
 Option.bind (xAU N x y d.toList) k=k (olt d[i]! d[j]!,d.toList):=by rw [hx,hy,vAS N hi hj];rfl
theorem xEk{β:Type}(N:Nat){x y:Int}{i j:Nat}{d:Array Org}(hx:x=i)(hy:y=j)(hi:i<d.size)(hj:j<d.size)(h2:2<=d.size)(k:List Org->Option β):
 (Option.bind (xAo N x y d.toList) fun r=>if 2<=List.length d.toList then if List.length r=List.length d.toList then k r else none else none)=k (swp d i j).toList:=by
 rw [hx,hy,vEK N hi hj];show(if 2<=List.length d.toList then if List.length (swp d i j).toList=List.length d.toList then k (swp d i j).toList else none else none)=_;rw [if_pos (by simpa using h2),if_pos (by simp [swp])]
theorem xCy{d:Array Org}{i j:Nat}:(swp d i j).size=d.size:=by simp [swp]
theorem xJY(lt:Org->Org->Bool)(a:Nat):∀(j:Nat) (d:Array Org),(insInner lt a j d).size=d.size
 |0,d=>rfl
 |j+1,d=>by
  unfold insInner;split
  ·rw [xJY lt a j,xCy]
  ·rfl
theorem ins5(N:Nat)(k:Int->Int->Int->List Org->Option (List Org)){a b i:Nat}(hi:i<4611686018427387904):∀(j n:Nat) (d:Array Org),j<d.size->2<=d.size->d.size<4611686018427387904->j<n->
 xBp N k n (a:Int) (b:Int) (i:Int) (j:Int) d.toList=k (a:Int) (b:Int) ((i+1:Nat):Int) (insInner olt a j d).toList
 |0,n,d,hj,h2,hs,hn=>by
  obtain⟨n,rfl⟩:∃m,n=m+1:=⟨n - 1,by omega⟩;have e:(decide (((0:Nat):Int)>(a:Int)))=false:=decide_eq_false (by omega);rw [xBp,e,cond_false,wn (i+1) (by omega) (by omega)]
  rfl
 |j+1,n,d,hj,h2,hs,hn=>by
  obtain⟨n,rfl⟩:∃m,n=m+1:=⟨n - 1,by omega⟩;rw [xBp,insInner];by_cases ha:j+1>a
  ·have e:(decide (((j+1:Nat):Int)>(a:Int)))=true:=decide_eq_true (by omega);rw [e,cond_true,wn (n:=j) (by omega) (by omega),xFV N rfl rfl hj (by omega)];dsimp only;cases hl:olt d[j+1]! d[j]! with
   |true=>
    rw [jT,xEk N rfl rfl hj (by omega) h2,ins5 N k hi j n _ (by rw [xCy];omega) (by rw [xCy];exact h2) (by rw [xCy];exact hs) (by omega)];rw [if_pos (by simp [ha])]
   |false=>
    rw [jF,wn (i+1) (by omega) (by omega),if_neg (by simp)]
  ·have e:(decide (((j+1:Nat):Int)>(a:Int)))=false:=decide_eq_false (by omega);rw [e,cond_false,wn (i+1) (by omega) (by omega),if_neg (by simp [ha])]
theorem ins2(N:Nat){a b:Nat}:∀(m i n:Nat) (d:Array Org),b - i=m->b<=d.size->2<=d.size->d.size<4611686018427387904->i<4611686018427387904->m<n->d.size<N->
 xBo N n (a:Int) (b:Int) (i:Int) d.toList=some (insOuter olt a b i d).toList:=by
 intro m
 induction m with
 |zero=>
  intro i n d hm hb h2 hs hi hn hN;obtain⟨n,rfl⟩:∃m,n=m+1:=⟨n - 1,by omega⟩;have e:(decide ((i:Int)<(b:Int)))=false:=decide_eq_false (by omega);rw [xBo,e,cond_false,insOuter,if_neg (by omega)]
 |succ m ih=>
  intro i n d hm hb h2 hs hi hn hN;obtain⟨n,rfl⟩:∃m,n=m+1:=⟨n - 1,by omega⟩;have e:(decide ((i:Int)<(b:Int)))=true:=decide_eq_true (by omega);rw [xBo,e,cond_true,ins5 N _ hi i N d (by omega) h2 hs (by omega),insOuter,if_pos (by omega)];exact ih (i+1) n _ (by omega) (by rw [xJY];exact hb) (by rw [xJY];exact h2) (by rw [xJY];exact hs) (by omega) (by omega) (by rw [xJY];exact hN)
theorem vFT(N:Nat){a b:Nat}{d:Array Org}(hab:a<=b)(hb:b<=d.size)(h2:2<=d.size)(hs:d.size<1152921504606846976)(hN:d.size<N):
 xB4 N (a:Int) (b:Int) d.toList=some (insertionSort olt d a b).toList:=by
 unfold xB4 insertionSort;rw [wn (a+1) (by omega) (by omega)];exact ins2 N _ _ N d rfl hb h2 (by omega) (by omega) (by omega) hN
theorem vEI(N:Nat){hi first:Nat}(x:Int):∀(m root n:Nat) (d:Array Org),hi - root=m->root<=hi->first+hi<=d.size->2<=d.size->d.size<1152921504606846976->m<n->
 xBd N n (hi:Int) (first:Int) (root:Int) d.toList=some (siftDown olt hi first root d).toList/\(siftDown olt hi first root d).size=d.size:=by
 intro m
 induction m using Nat.strongRecOn with
 |_ m ih=>
  intro root n d hm hr hf h2 hs hn;obtain⟨n,rfl⟩:∃m,n=m+1:=⟨n - 1,by omega⟩;have w1:i64.wrap (i64.wrap (2*(root:Int))+1)=((2*root+1:Nat):Int):=by
   have e:i64.wrap (2*(root:Int))=((2*root:Nat):Int):=wn _ (by omega) (by omega);rw [e];exact wn _ (by omega) (by omega)
  have w2:i64.wrap (((2*root+1:Nat):Int)+1)=((2*root+2:Nat):Int):=wn _ (by omega) (by omega);rw [xBd,siftDown,w1,w2];by_cases hc:2*root+1>=hi
  ·have e:(decide (((2*root+1:Nat):Int)>=(hi:Int)))=true:=decide_eq_true (by omega);rw [e,cond_true,dif_pos hc];exact⟨rfl,rfl⟩
  ·have e:(decide (((2*root+1:Nat):Int)>=(hi:Int)))=false:=decide_eq_false (by omega);rw [e,cond_false,dif_neg hc];have w3:i64.wrap ((first:Int)+((2*root+1:Nat):Int))=((first+(2*root+1):Nat):Int):=wn _ (by omega) (by omega);have w4:i64.wrap (((first+(2*root+1):Nat):Int)+1)=((first+(2*root+1)+1:Nat):Int):=wn _ (by omega) (by omega);have w5:i64.wrap ((first:Int)+(root:Int))=((first+root:Nat):Int):=wn _ (by omega) (by omega);rw [w3,w4,w5]
   have one:∀(c:Nat),c<hi->root<c->(Option.bind (xAU N ((first+root:Nat):Int) ((first+c:Nat):Int) d.toList) fun r2=>
    bif(!r2.1) then some r2.2 else
     Option.bind (xAo N ((first+root:Nat):Int) ((first+c:Nat):Int) r2.2) fun r3=>
     if 2<=List.length r2.2 then
     if List.length r3=List.length r2.2 then
     (xBd N n (hi:Int) (first:Int) (c:Int) r3)
     else none
     else none)=some (if !olt d[first+root]! d[first+c]! then d else siftDown olt hi first c (swp d (first+root) (first+c))).toList/\
    (if !olt d[first+root]! d[first+c]! then d else siftDown olt hi first c (swp d (first+root) (first+c))).size=d.size:=by
    intro c hc1 hc2;rw [xFV N rfl rfl (by omega) (by omega)];dsimp only;cases hl:olt d[first+root]! d[first+c]! with
    |false=>exact⟨rfl,rfl⟩
    |true=>
     have:=ih (hi - c) (by omega) c n (swp d (first+root) (first+c)) rfl (by omega) (by rw [xCy];exact hf) (by rw [xCy];exact h2) (by rw [xCy];exact hs) (by omega);rw [Bool.not_true,cond_false,xEk N rfl rfl (by omega) (by omega) h2];rw [xCy] at this;exact this
   by_cases hd:2*root+1+1<hi
   ·have e:(decide (((2*root+2:Nat):Int)<(hi:Int)))=true:=decide_eq_true (by omega);have w6:i64.wrap ((first:Int)+((2*root+2:Nat):Int))=((first+(2*root+2):Nat):Int):=wn _ (by omega) (by omega);rw [e,cond_true,xFV N rfl rfl (by omega) (by omega),w6];dsimp only;cases hl:olt d[first+(2*root+1)]! d[first+(2*root+1)+1]! with
    |true=>
     rw [jT];have:=one (2*root+2) (by omega) (by omega);rw [if_pos (by simp [hd]),dif_pos (by omega:2*root+2<hi)];exact this
    |false=>
     rw [jF];have:=one (2*root+1) (by omega) (by omega);rw [if_neg (by simp)];exact this
   ·have e:(decide (((2*root+2:Nat):Int)<(hi:Int)))=false:=decide_eq_false (by omega);rw [e,cond_false,if_neg (by simp [hd])];exact one (2*root+1) (by omega) (by omega)
end Go.Ab
end
section
open Go.IntKind (i64)
namespace Go.Ab
open Go.Sort
theorem xTZ(N:Nat){hi first root:Nat}{d:Array Org}(hr:root<=hi)(hf:first+hi<=d.size)(h2:2<=d.size)(hs:d.size<1152921504606846976)(hN:d.size<N):
 xBF N (root:Int) (hi:Int) (first:Int) d.toList=some (siftDown olt hi first root d).toList/\(siftDown olt hi first root d).size=d.size:=by
 unfold xBF;exact vEI N 0 _ root N d rfl hr hf h2 hs (by omega)
theorem vFS(N:Nat){first:Nat}(z:Int):∀(k n:Nat) (d:Array Org),first+k<=d.size->2<=d.size->d.size<1152921504606846976->k<n->d.size<N->
 xBN N n (first:Int) 0 ((k:Int) - 1) d.toList=some (heapPop olt first k d).toList
 |0,n,d,hf,h2,hs,hn,hN=>by
  obtain⟨n,rfl⟩:∃m,n=m+1:=⟨n - 1,by omega⟩;have e:(decide (((0:Nat):Int) - 1>=0))=false:=decide_eq_false (by omega);rw [xBN,e,cond_false]
  rfl
 |k+1,n,d,hf,h2,hs,hn,hN=>by
  obtain⟨n,rfl⟩:∃m,n=m+1:=⟨n - 1,by omega⟩;have e:(decide (((k+1:Nat):Int) - 1>=0))=true:=decide_eq_true (by omega);have e1:((k+1:Nat):Int) - 1=(k:Int):=by omega
  have w:i64.wrap ((first:Int)+(k:Int))=((first+k:Nat):Int):=wn _ (by omega) (by omega);have w2:i64.wrap ((k:Int) - 1)=(k:Int) - 1:=xC7 (by omega) (by omega);rw [xBN,e,cond_true,e1,w,xEk N rfl rfl (by omega) (by omega) h2,w2];obtain⟨s1,s2⟩:=xTZ N (hi:=k) (first:=first) (root:=0) (d:=swp d first (first+k)) (by omega) (by rw [xCy];omega) (by rw [xCy];exact h2) (by rw [xCy];exact hs) (by rw [xCy];exact hN);have s1:xBF N 0 (k:Int) (first:Int) (swp d first (first+k)).toList=_:=s1;rw [s1,heapPop];exact vFS N z k n _ (by rw [s2,xCy];omega) (by rw [s2,xCy];exact h2) (by rw [s2,xCy];exact hs) (by omega) (by rw [s2,xCy];exact hN)
theorem vFR(N:Nat){first hi:Nat}:∀(k n:Nat) (d:Array Org),k<=hi+1->first+hi<=d.size->2<=d.size->d.size<1152921504606846976->k<n->d.size<N->
 xBM N n (first:Int) 0 (hi:Int) ((k:Int) - 1) d.toList=some (heapPop olt first hi (heapBuild olt hi first k d)).toList
 |0,n,d,hk,hf,h2,hs,hn,hN=>by
  obtain⟨n,rfl⟩:∃m,n=m+1:=⟨n - 1,by omega⟩;have e:(decide (((0:Nat):Int) - 1>=0))=false:=decide_eq_false (by omega);have w2:i64.wrap ((hi:Int) - 1)=(hi:Int) - 1:=xC7 (by omega) (by omega);rw [xBM,e,cond_false,w2];exact vFS N 0 hi N d hf h2 hs (by omega) hN
 |k+1,n,d,hk,hf,h2,hs,hn,hN=>by
  obtain⟨n,rfl⟩:∃m,n=m+1:=⟨n - 1,by omega⟩;have e:(decide (((k+1:Nat):Int) - 1>=0))=true:=decide_eq_true (by omega);have e1:((k+1:Nat):Int) - 1=(k:Int):=by omega
  have w2:i64.wrap ((k:Int) - 1)=(k:Int) - 1:=xC7 (by omega) (by omega);rw [xBM,e,cond_true,e1,w2];obtain⟨s1,s2⟩:=xTZ N (hi:=hi) (first:=first) (root:=k) (d:=d) (by omega) hf h2 hs hN;rw [s1,heapBuild];exact vFR N k n _ (by omega) (by rw [s2];exact hf) (by rw [s2];exact h2) (by rw [s2];exact hs) (by omega) (by rw [s2];exact hN)
theorem vAQ(N:Nat){a b:Nat}{d:Array Org}(hab:a<b)(hb:b<=d.size)(h2:2<=d.size)(hs:d.size<1152921504606846976)(hN:d.size+1<N):
 xCx N (a:Int) (b:Int) d.toList=some (heapSort olt d a b).toList:=by
 unfold xCx heapSort;have w1:i64.wrap ((b:Int) - (a:Int))=((b - a:Nat):Int):=wn _ (by omega) (by omega);have w2:i64.wrap (((b - a:Nat):Int) - 1)=((b - a - 1:Nat):Int):=wn _ (by omega) (by omega);have w3:i64.wrap (Int.tdiv ((b - a - 1:Nat):Int) 2)=(((b - a - 1) / 2+1:Nat):Int) - 1:=by
  have:Int.tdiv ((b - a - 1:Nat):Int) 2=(((b - a - 1) / 2:Nat):Int):=rfl;rw [this,wn ((b - a - 1) / 2) rfl (by omega)];omega
 rw [w1,w2,w3];exact vFR N _ N d (by omega) (by omega) h2 hs (by omega) (by omega)
theorem rev3(N:Nat):∀(m i j n:Nat) (d:Array Org),j - i<=m->i<d.size->j<d.size->2<=d.size->d.size<1152921504606846976->m<n->
 xBx N n (i:Int) (j:Int) d.toList=some (reverseLoop i j d).toList:=by
 intro m
 induction m with
 |zero=>
  intro i j n d hm hi hj h2 hs hn;obtain⟨n,rfl⟩:∃m,n=m+1:=⟨n - 1,by omega⟩;have e:(decide ((i:Int)<(j:Int)))=false:=decide_eq_false (by omega);rw [xBx,e,cond_false,reverseLoop,if_neg (by omega)]
 |succ m ih=>
  intro i j n d hm hi hj h2 hs hn;obtain⟨n,rfl⟩:∃m,n=m+1:=⟨n - 1,by omega⟩;rw [xBx,reverseLoop];by_cases h:i<j
  ·have e:(decide ((i:Int)<(j:Int)))=true:=decide_eq_true (by omega);have w1:i64.wrap ((i:Int)+1)=((i+1:Nat):Int):=wn _ (by omega) (by omega);have w2:i64.wrap ((j:Int) - 1)=((j - 1:Nat):Int):=wn _ (by omega) (by omega);rw [e,cond_true,xEk N rfl rfl hi hj h2,if_pos h,w1,w2];exact ih (i+1) (j - 1) n _ (by omega) (by rw [xCy];omega) (by rw [xCy];omega) (by rw [xCy];exact h2) (by rw [xCy];exact hs) (by omega)
  ·have e:(decide ((i:Int)<(j:Int)))=false:=decide_eq_false (by omega);rw [e,cond_false,if_neg h]
theorem vGj(N:Nat){a b:Nat}{d:Array Org}(hab:a<b)(hb:b<=d.size)(h2:2<=d.size)(hs:d.size<1152921504606846976)(hN:d.size<N):
 xB7 N (a:Int) (b:Int) d.toList=some (reverseRange d a b).toList:=by
 unfold xB7 reverseRange;have w2:i64.wrap ((b:Int) - 1)=((b - 1:Nat):Int):=wn _ (by omega) (by omega);rw [w2];exact rev3 N _ a (b - 1) N d (Nat.le_refl _) (by omega) (by omega) h2 hs (by omega)
theorem xLB{p:Org->Bool}{d:Array Org}{j i:Nat}(h:i<=j)(hp:p d[i]! =true):scanUp p d j i=scanUp p d j (i+1):=by
 rw [scanUp,if_pos (by simp [h,hp])]
theorem xH2{p:Org->Bool}{d:Array Org}{j i:Nat}(h:¬(i<=j/\p d[i]! =true)):scanUp p d j i=i:=by
 rw [scanUp,if_neg (by simpa using h)]
theorem xJQ{p:Org->Bool}{d:Array Org}{j i:Nat}(h:i<=j+1)(hp:p d[j+1]! =true):scanDown p d i (j+1)=scanDown p d i j:=by
 rw [scanDown,if_pos (by simp [h,hp])]
theorem xGg{p:Org->Bool}{d:Array Org}{j i:Nat}(h:¬(i<=j+1/\p d[j+1]! =true)):scanDown p d i (j+1)=j+1:=by
 rw [scanDown,if_neg (by simpa using h)]
abbrev pUp(d:Array Org)(a:Nat):Org->Bool:=fun x=>olt x d[a]!
abbrev pDn(d:Array Org)(a:Nat):Org->Bool:=fun x=> !olt x d[a]!
theorem xSl{p:Org->Bool}{d:Array Org}:∀(m i j:Nat),j+1 - i=m->i<=j+1->i<=scanUp p d j i/\scanUp p d j i<=j+1:=by
 intro m
 induction m with
 |zero=>intro i j hm hi;rw [xH2 (by omega)];omega
 |succ m ih=>
  intro i j hm hi;by_cases h:i<=j/\p d[i]! =true
  ·rw [xLB h.1 h.2];have:=ih (i+1) j (by omega) (by omega);omega
  ·rw [xH2 h];omega
theorem xIT{p:Org->Bool}{d:Array Org}{i:Nat}(hi:0<i):∀(j:Nat),i<=j+1->i<=scanDown p d i j+1/\scanDown p d i j<=j
 |0,h=>by simp [scanDown];omega
 |j+1,h=>by
  by_cases h2:i<=j+1/\p d[j+1]! =true
  ·rw [xJQ h2.1 h2.2];have:=xIT (p:=p) (d:=d) hi j (by omega);omega
  ·rw [xGg h2];omega
theorem xJk{p:Org->Bool}{d:Array Org}{i:Nat}(hi:0<i):∀(j:Nat),i<=j+1->i<=scanDown p d i j->p d[scanDown p d i j]! =false
 |0,h,h3=>by simp [scanDown] at h3;omega
 |j+1,h,h3=>by
  by_cases h2:i<=j+1/\p d[j+1]! =true
  ·rw [xJQ h2.1 h2.2] at h3 ⊢;exact xJk hi j (by omega) h3
  ·rw [xGg h2] at h3 ⊢;cases hp:p d[j+1]! with
   |false=>rfl
   |true=>exact absurd ⟨h3,hp⟩ h2
theorem xTu{p:Org->Bool}{d:Array Org}:∀(m i j:Nat),j+1 - i=m->scanUp p d j i<=j->p d[scanUp p d j i]! =false:=by
 intro m
 induction m with
 |zero=>intro i j hm h;rw [xH2 (by omega)] at h;omega
 |succ m ih=>
  intro i j hm h;by_cases h2:i<=j/\p d[i]! =true
  ·rw [xLB h2.1 h2.2] at h ⊢;exact ih (i+1) j (by omega) h
  ·rw [xH2 h2] at h ⊢;cases hp:p d[i]! with
   |false=>rfl
   |true=>exact absurd ⟨h,hp⟩ h2
theorem vAu(N:Nat)(k:Int->Int->Int->List Org->Option (Int×Bool×List Org)){a i:Nat}:∀(j n:Nat) (d:Array Org),a<i->i<=j+1->j<d.size->2<=d.size->d.size<1152921504606846976->j<n->
 xA6 N k n (a:Int) (i:Int) (j:Int) d.toList=
  (if i>scanDown (pDn d a) d i j then some (((scanDown (pDn d a) d i j:Nat):Int),false,(swp d (scanDown (pDn d a) d i j) a).toList)
   else k (a:Int) ((i+1:Nat):Int) ((scanDown (pDn d a) d i j - 1:Nat):Int) (swp d i (scanDown (pDn d a) d i j)).toList)
 |0,n,d,ha,hij,hj,h2,hs,hn=>by
  obtain⟨n,rfl⟩:∃m,n=m+1:=⟨n - 1,by omega⟩;have e:(decide ((i:Int)<=((0:Nat):Int)))=false:=decide_eq_false (by omega);have e2:(decide ((i:Int)>((0:Nat):Int)))=true:=decide_eq_true (by omega);rw [xA6,e,cond_false,e2,cond_true,xEk N rfl rfl hj (by omega) h2,scanDown,if_pos (by omega)]
 |j+1,n,d,ha,hij,hj,h2,hs,hn=>by
  obtain⟨n,rfl⟩:∃m,n=m+1:=⟨n - 1,by omega⟩;have wi:i64.wrap ((i:Int)+1)=((i+1:Nat):Int):=wn _ (by omega) (by omega);have wj:i64.wrap (((j+1:Nat):Int) - 1)=((j:Nat):Int):=wn _ (by omega) (by omega);rw [xA6,wi,wj];by_cases h:i<=j+1
  ·have e:(decide ((i:Int)<=((j+1:Nat):Int)))=true:=decide_eq_true (by omega);have e2:(decide ((i:Int)>((j+1:Nat):Int)))=false:=decide_eq_false (by omega);rw [e,cond_true,xFV N rfl rfl hj (by omega),e2,cond_false];dsimp only;cases hl:olt d[j+1]! d[a]! with
   |false=>
    rw [Bool.not_false,cond_true,vAu N k j n d ha (by omega) (by omega) h2 hs (by omega),xJQ (p:=pDn d a) h (by simp [pDn,hl])]
   |true=>
    rw [Bool.not_true,cond_false,xEk N rfl rfl (by omega) hj h2,xGg (p:=pDn d a) (by simp [pDn,hl]),if_neg (by omega)]
    rfl
  ·have e:(decide ((i:Int)<=((j+1:Nat):Int)))=false:=decide_eq_false (by omega);have e2:(decide ((i:Int)>((j+1:Nat):Int)))=true:=decide_eq_true (by omega);rw [e,cond_false,e2,cond_true,xEk N rfl rfl hj (by omega) h2,xGg (p:=pDn d a) (by omega),if_pos (by omega)]
theorem vGc(N:Nat){a:Nat}:∀(m i j n:Nat) (d:Array Org),j+1 - i=m->a<i->i<=j+1->j<d.size->2<=d.size->d.size<1152921504606846976->m<n->d.size<N->
 xAP N n (a:Int) (i:Int) (j:Int) d.toList=some (((partLoop olt a i j d).1:Int),false,(swp (partLoop olt a i j d).2 (partLoop olt a i j d).1 a).toList):=by
 intro m
 induction m using Nat.strongRecOn with
 |_ m ih=>
  intro i j n d hm ha hij hj h2 hs hn hN;obtain⟨n,rfl⟩:∃m,n=m+1:=⟨n - 1,by omega⟩;have wi:i64.wrap ((i:Int)+1)=((i+1:Nat):Int):=wn _ (by omega) (by omega);rw [xAP,wi]
  have stop:∀(hc:¬(i<=j/\pUp d a d[i]! =true)),xA6 N (fun z0 z1 z2 z3=>(xAP N n z0 z1 z2 z3)) N (a:Int) (i:Int) (j:Int) d.toList=
   some (((partLoop olt a i j d).1:Int),false,(swp (partLoop olt a i j d).2 (partLoop olt a i j d).1 a).toList):=by
   intro hc;rw [vAu N _ j N d ha hij hj h2 hs (by omega),partLoop_eq,xH2 (p:=pUp d a) hc];have hb:=xIT (p:=pDn d a) (d:=d) (by omega:0<i) j hij;split
   ·rfl
   ·rename_i hg;have hne:i≠scanDown (pDn d a) d i j:=by
     intro e;have h1:=xJk (p:=pDn d a) (d:=d) (by omega:0<i) j hij (by omega);rw [<-e] at h1;have h2:pUp d a d[i]! =true:=by simpa [pDn,pUp] using h1
     exact hc ⟨by omega,h2⟩
    exact ih (scanDown (pDn d a) d i j - 1+1 - (i+1)) (by omega) (i+1) (scanDown (pDn d a) d i j - 1) n _ rfl (by omega) (by omega) (by rw [xCy];omega) (by rw [xCy];exact h2) (by rw [xCy];exact hs) (by omega) (by rw [xCy];exact hN)
  by_cases h:i<=j
  ·have e:(decide ((i:Int)<=(j:Int)))=true:=decide_eq_true (by omega);rw [e,cond_true,xFV N rfl rfl (by omega) (by omega)];dsimp only;cases hl:olt d[i]! d[a]! with
   |true=>
    rw [jT,ih (m - 1) (by omega) (i+1) j n d (by omega) (by omega) (by omega) hj h2 hs (by omega) hN];have:partLoop olt a i j d=partLoop olt a (i+1) j d:=by
     rw [partLoop_eq,partLoop_eq (i:=i+1),xLB (p:=pUp d a) h (by simp [pUp,hl])]
    rw [this]
   |false=>rw [jF];exact stop (by simp [pUp,hl])
  ·have e:(decide ((i:Int)<=(j:Int)))=false:=decide_eq_false (by omega);rw [e,cond_false];exact stop (by omega)
theorem vGd(N:Nat){a i:Nat}:∀(j n:Nat) (d:Array Org),a<i->i<=j+1->j<d.size->2<=d.size->d.size<1152921504606846976->j<n->
 xBa N n (a:Int) (i:Int) (j:Int) d.toList=
  (if i>scanDown (pDn d a) d i j then some (((scanDown (pDn d a) d i j:Nat):Int),true,(swp d (scanDown (pDn d a) d i j) a).toList)
   else xAP N N (a:Int) ((i+1:Nat):Int) ((scanDown (pDn d a) d i j - 1:Nat):Int) (swp d i (scanDown (pDn d a) d i j)).toList)
 |0,n,d,ha,hij,hj,h2,hs,hn=>by
  obtain⟨n,rfl⟩:∃m,n=m+1:=⟨n - 1,by omega⟩;have e:(decide ((i:Int)<=((0:Nat):Int)))=false:=decide_eq_false (by omega);have e2:(decide ((i:Int)>((0:Nat):Int)))=true:=decide_eq_true (by omega);rw [xBa,e,cond_false,e2,cond_true,xEk N rfl rfl hj (by omega) h2,scanDown,if_pos (by omega)]
 |j+1,n,d,ha,hij,hj,h2,hs,hn=>by
  obtain⟨n,rfl⟩:∃m,n=m+1:=⟨n - 1,by omega⟩;have wi:i64.wrap ((i:Int)+1)=((i+1:Nat):Int):=wn _ (by omega) (by omega);have wj:i64.wrap (((j+1:Nat):Int) - 1)=((j:Nat):Int):=wn _ (by omega) (by omega);rw [xBa,wi,wj];by_cases h:i<=j+1
  ·have e:(decide ((i:Int)<=((j+1:Nat):Int)))=true:=decide_eq_true (by omega);have e2:(decide ((i:Int)>((j+1:Nat):Int)))=false:=decide_eq_false (by omega);rw [e,cond_true,xFV N rfl rfl hj (by omega),e2,cond_false];dsimp only;cases hl:olt d[j+1]! d[a]! with
   |false=>
    rw [Bool.not_false,cond_true,vGd N j n d ha (by omega) (by omega) h2 hs (by omega),xJQ (p:=pDn d a) h (by simp [pDn,hl])]
   |true=>
    rw [Bool.not_true,cond_false,xEk N rfl rfl (by omega) hj h2,xGg (p:=pDn d a) (by simp [pDn,hl]),if_neg (by omega)]
    rfl
  ·have e:(decide ((i:Int)<=((j+1:Nat):Int)))=false:=decide_eq_false (by omega);have e2:(decide ((i:Int)>((j+1:Nat):Int)))=true:=decide_eq_true (by omega);rw [e,cond_false,e2,cond_true,xEk N rfl rfl hj (by omega) h2,xGg (p:=pDn d a) (by omega),if_pos (by omega)]
theorem vH6(N:Nat){a j:Nat}:∀(m i n:Nat) (d:Array Org),j+1 - i=m->a<i->i<=j+1->j<d.size->2<=d.size->d.size<1152921504606846976->m<n->d.size<N->
 xBI N n (a:Int) (i:Int) (j:Int) d.toList=xBa N N (a:Int) ((scanUp (pUp d a) d j i:Nat):Int) (j:Int) d.toList:=by
 intro m
 induction m with
 |zero=>
  intro i n d hm ha hij hj h2 hs hn hN;obtain⟨n,rfl⟩:∃m,n=m+1:=⟨n - 1,by omega⟩;have e:(decide ((i:Int)<=(j:Int)))=false:=decide_eq_false (by omega);rw [xBI,e,cond_false,xH2 (by omega)]
 |succ m ih=>
  intro i n d hm ha hij hj h2 hs hn hN;obtain⟨n,rfl⟩:∃m,n=m+1:=⟨n - 1,by omega⟩;have wi:i64.wrap ((i:Int)+1)=((i+1:Nat):Int):=wn _ (by omega) (by omega);have e:(decide ((i:Int)<=(j:Int)))=true:=decide_eq_true (by omega);rw [xBI,wi,e,cond_true,xFV N rfl rfl (by omega) (by omega)];dsimp only;cases hl:olt d[i]! d[a]! with
  |true=>rw [jT,ih (i+1) n d (by omega) (by omega) (by omega) hj h2 hs (by omega) hN,xLB (p:=pUp d a) (i:=i) (j:=j) (by omega) (by simp [pUp,hl])]
  |false=>rw [jF,xH2 (p:=pUp d a) (by simp [pUp,hl])]
theorem vEE(N:Nat){a b pivot:Nat}{d:Array Org}(hp1:a<=pivot)(hp2:pivot<b)(hb:b<=d.size)(hab:a+1<b)(h2:2<=d.size)(hs:d.size<1152921504606846976)(hN:d.size<N):
 xCs N (a:Int) (b:Int) (pivot:Int) d.toList=some (((partition olt d a b pivot).1:Int),(partition olt d a b pivot).2.1,(partition olt d a b pivot).2.2.toList):=by
 have wa:i64.wrap ((a:Int)+1)=((a+1:Nat):Int):=wn _ (by omega) (by omega);have wb:i64.wrap ((b:Int) - 1)=((b - 1:Nat):Int):=wn _ (by omega) (by omega);have hs1:(swp d a pivot).size=d.size:=xCy;unfold xCs partition;rw [xEk N rfl rfl (by omega) (by omega) h2,wa,wb];generalize swp d a pivot=d1 at hs1;have hu:=xSl (p:=pUp d1 a) (d:=d1) _ (a+1) (b - 1) rfl (by omega);rw [vH6 N _ (a+1) N d1 rfl (by omega) (by omega) (by omega) (by omega) (by omega) (by omega) (by omega),vGd N (b - 1) N d1 (by omega) (by omega) (by omega) (by omega) (by omega) (by omega)];have hd:=xIT (p:=pDn d1 a) (d:=d1) (i:=scanUp (pUp d1 a) d1 (b - 1) (a+1)) (by omega) (b - 1) (by omega);dsimp only;by_cases hc:scanUp (pUp d1 a) d1 (b - 1) (a+1)>scanDown (pDn d1 a) d1 (scanUp (pUp d1 a) d1 (b - 1) (a+1)) (b - 1)
 ·rw [if_pos hc,if_pos hc]
 ·have hne:scanUp (pUp d1 a) d1 (b - 1) (a+1)≠scanDown (pDn d1 a) d1 (scanUp (pUp d1 a) d1 (b - 1) (a+1)) (b - 1):=by
   intro e;have h1:=xJk (p:=pDn d1 a) (d:=d1) (i:=scanUp (pUp d1 a) d1 (b - 1) (a+1)) (by omega) (b - 1) (by omega) (by omega);rw [<-e] at h1;have h2:=xTu (p:=pUp d1 a) (d:=d1) _ (a+1) (b - 1) rfl (by omega);simp only [pDn,pUp] at h1 h2;rw [h2] at h1;cases h1
  rw [if_neg hc,if_neg hc];exact vGc N _ _ _ N _ rfl (by omega) (by omega) (by rw [xCy];omega) (by rw [xCy];omega) (by rw [xCy];omega) (by omega) (by rw [xCy];omega)
end Go.Ab
end
section
open Go.IntKind (i64)
namespace Go.Ab
open Go.Sort
abbrev qUp(d:Array Org)(a:Nat):Org->Bool:=fun x=> !olt d[a]! x
abbrev qDn(d:Array Org)(a:Nat):Org->Bool:=fun x=>olt d[a]! x
theorem xWd(N:Nat)(k:Int->Int->Int->List Org->Option (Int×List Org)){a i:Nat}:∀(j n:Nat) (d:Array Org),a<i->i<=j+1->j<d.size->2<=d.size->d.size<1152921504606846976->j<n->
 xAX N k n (a:Int) (i:Int) (j:Int) d.toList=
  (if i>scanDown (qDn d a) d i j then some ((i:Int),d.toList)
   else k (a:Int) ((i+1:Nat):Int) ((scanDown (qDn d a) d i j - 1:Nat):Int) (swp d i (scanDown (qDn d a) d i j)).toList)
 |0,n,d,ha,hij,hj,h2,hs,hn=>by
  obtain⟨n,rfl⟩:∃m,n=m+1:=⟨n - 1,by omega⟩;have e:(decide ((i:Int)<=((0:Nat):Int)))=false:=decide_eq_false (by omega);have e2:(decide ((i:Int)>((0:Nat):Int)))=true:=decide_eq_true (by omega);rw [xAX,e,cond_false,e2,cond_true,scanDown,if_pos (by omega)]
 |j+1,n,d,ha,hij,hj,h2,hs,hn=>by
  obtain⟨n,rfl⟩:∃m,n=m+1:=⟨n - 1,by omega⟩;have wi:i64.wrap ((i:Int)+1)=((i+1:Nat):Int):=wn _ (by omega) (by omega);have wj:i64.wrap (((j+1:Nat):Int) - 1)=((j:Nat):Int):=wn _ (by omega) (by omega);rw [xAX,wi,wj];by_cases h:i<=j+1
  ·have e:(decide ((i:Int)<=((j+1:Nat):Int)))=true:=decide_eq_true (by omega);have e2:(decide ((i:Int)>((j+1:Nat):Int)))=false:=decide_eq_false (by omega);rw [e,cond_true,xFV N rfl rfl (by omega) hj,e2,cond_false];dsimp only;cases hl:olt d[a]! d[j+1]! with
   |true=>
    rw [jT,xWd N k j n d ha (by omega) (by omega) h2 hs (by omega),xJQ (p:=qDn d a) h (by simp [qDn,hl])]
   |false=>
    rw [jF,xEk N rfl rfl (by omega) hj h2,xGg (p:=qDn d a) (by simp [qDn,hl]),if_neg (by omega)]
    rfl
  ·have e:(decide ((i:Int)<=((j+1:Nat):Int)))=false:=decide_eq_false (by omega);have e2:(decide ((i:Int)>((j+1:Nat):Int)))=true:=decide_eq_true (by omega);rw [e,cond_false,e2,cond_true,xGg (p:=qDn d a) (by omega),if_pos (by omega)]
theorem vEF(N:Nat){a:Nat}:∀(m i j n:Nat) (d:Array Org),j+1 - i=m->a<i->i<=j+1->j<d.size->2<=d.size->d.size<1152921504606846976->m<n->d.size<N->
 xAW N n (a:Int) (i:Int) (j:Int) d.toList=some (((partEqLoop olt a i j d).1:Int),(partEqLoop olt a i j d).2.toList):=by
 intro m
 induction m using Nat.strongRecOn with
 |_ m ih=>
  intro i j n d hm ha hij hj h2 hs hn hN;obtain⟨n,rfl⟩:∃m,n=m+1:=⟨n - 1,by omega⟩;have wi:i64.wrap ((i:Int)+1)=((i+1:Nat):Int):=wn _ (by omega) (by omega);rw [xAW,wi]
  have stop:∀(hc:¬(i<=j/\qUp d a d[i]! =true)),xAX N (fun z0 z1 z2 z3=>(xAW N n z0 z1 z2 z3)) N (a:Int) (i:Int) (j:Int) d.toList=
   some (((partEqLoop olt a i j d).1:Int),(partEqLoop olt a i j d).2.toList):=by
   intro hc;rw [xWd N _ j N d ha hij hj h2 hs (by omega),partEqLoop_eq,xH2 (p:=qUp d a) hc];have hb:=xIT (p:=qDn d a) (d:=d) (by omega:0<i) j hij;split
   ·rfl
   ·rename_i hg;have hne:i≠scanDown (qDn d a) d i j:=by
     intro e;have h1:=xJk (p:=qDn d a) (d:=d) (by omega:0<i) j hij (by omega);rw [<-e] at h1;have h2:qUp d a d[i]! =true:=by simpa [qDn,qUp] using h1
     exact hc ⟨by omega,h2⟩
    exact ih (scanDown (qDn d a) d i j - 1+1 - (i+1)) (by omega) (i+1) (scanDown (qDn d a) d i j - 1) n _ rfl (by omega) (by omega) (by rw [xCy];omega) (by rw [xCy];exact h2) (by rw [xCy];exact hs) (by omega) (by rw [xCy];exact hN)
  by_cases h:i<=j
  ·have e:(decide ((i:Int)<=(j:Int)))=true:=decide_eq_true (by omega);rw [e,cond_true,xFV N rfl rfl (by omega) (by omega)];dsimp only;cases hl:olt d[a]! d[i]! with
   |false=>
    rw [Bool.not_false,cond_true,ih (m - 1) (by omega) (i+1) j n d (by omega) (by omega) (by omega) hj h2 hs (by omega) hN];have:partEqLoop olt a i j d=partEqLoop olt a (i+1) j d:=by
     rw [partEqLoop_eq,partEqLoop_eq (i:=i+1),xLB (p:=qUp d a) h (by simp [qUp,hl])]
    rw [this]
   |true=>rw [Bool.not_true,cond_false];exact stop (by simp [qUp,hl])
  ·have e:(decide ((i:Int)<=(j:Int)))=false:=decide_eq_false (by omega);rw [e,cond_false];exact stop (by omega)
theorem xWe(N:Nat){a b pivot:Nat}{d:Array Org}(hp1:a<=pivot)(hp2:pivot<b)(hb:b<=d.size)(hab:a+1<b)(h2:2<=d.size)(hs:d.size<1152921504606846976)(hN:d.size<N):
 xB0 N (a:Int) (b:Int) (pivot:Int) d.toList=some (((partitionEqual olt d a b pivot).1:Int),(partitionEqual olt d a b pivot).2.toList):=by
 have wa:i64.wrap ((a:Int)+1)=((a+1:Nat):Int):=wn _ (by omega) (by omega);have wb:i64.wrap ((b:Int) - 1)=((b - 1:Nat):Int):=wn _ (by omega) (by omega);have hs1:(swp d a pivot).size=d.size:=xCy;unfold xB0 partitionEqual;rw [xEk N rfl rfl (by omega) (by omega) h2,wa,wb];exact vEF N _ (a+1) (b - 1) N _ rfl (by omega) (by omega) (by omega) (by omega) (by omega) (by omega) (by omega)
theorem vGk(N:Nat)(k:Int->Int->Int->Int->List Org->Option (Bool×List Org)){a b i:Nat}{s:Nat}(hs5:s<100):∀(m j n:Nat) (d:Array Org),b - j=m->0<j->j<1152921504606846976->b<=d.size->2<=d.size->d.size<1152921504606846976->m<n->
 xA5 N k n (a:Int) (b:Int) (i:Int) (s:Int) (j:Int) d.toList=k (a:Int) (b:Int) (i:Int) ((s+1:Nat):Int) (shiftUp olt b j d).toList/\(shiftUp olt b j d).size=d.size:=by
 have ws:i64.wrap ((s:Int)+1)=((s+1:Nat):Int):=wn _ (by omega) (by omega);intro m
 induction m with
 |zero=>
  intro j n d hm hj hjb hb h2 hs hn;obtain⟨n,rfl⟩:∃m,n=m+1:=⟨n - 1,by omega⟩;have e:(decide ((j:Int)<(b:Int)))=false:=decide_eq_false (by omega);rw [xA5,e,cond_false,shiftUp,if_neg (by omega),ws];exact⟨rfl,rfl⟩
 |succ m ih=>
  intro j n d hm hj hjb hb h2 hs hn;obtain⟨n,rfl⟩:∃m,n=m+1:=⟨n - 1,by omega⟩;have e:(decide ((j:Int)<(b:Int)))=true:=decide_eq_true (by omega);have w1:i64.wrap ((j:Int) - 1)=((j - 1:Nat):Int):=wn _ (by omega) (by omega);have w2:i64.wrap ((j:Int)+1)=((j+1:Nat):Int):=wn _ (by omega) (by omega);rw [xA5,e,cond_true,w1,w2,ws,xFV N rfl rfl (by omega) (by omega),shiftUp,if_pos (by omega)];dsimp only;cases hl:olt d[j]! d[j - 1]! with
  |false=>exact⟨rfl,rfl⟩
  |true=>
   rw [Bool.not_true,cond_false,xEk N rfl rfl (by omega) (by omega) h2];have:=ih (j+1) n (swp d j (j - 1)) (by omega) (by omega) (by omega) (by rw [xCy];exact hb) (by rw [xCy];exact h2) (by rw [xCy];exact hs) (by omega);rw [xCy] at this;exact this
def up18(b i:Nat)(d:Array Org):Array Org:=if b - i>=2 then shiftUp olt b (i+1) d else d
theorem xTY(N:Nat)(k:Int->Int->Int->Int->List Org->Option (Bool×List Org)){a b i:Nat}{s:Nat}(hs5:s<100)(d:Array Org)(hib:i<=b)(hb:b<=d.size)(h2:2<=d.size)(hs:d.size<1152921504606846976)(hN:d.size<N):
 xAT N k (a:Int) (b:Int) (i:Int) (s:Int) d.toList=k (a:Int) (b:Int) (i:Int) ((s+1:Nat):Int) (up18 b i d).toList/\(up18 b i d).size=d.size:=by
 have ws:i64.wrap ((s:Int)+1)=((s+1:Nat):Int):=wn _ (by omega) (by omega);have w1:i64.wrap ((b:Int) - (i:Int))=((b - i:Nat):Int):=wn _ (by omega) (by omega);have w2:i64.wrap ((i:Int)+1)=((i+1:Nat):Int):=wn _ (by omega) (by omega);unfold xAT up18;rw [ws,w1,w2];by_cases h:b - i>=2
 ·have e:(decide (((b - i:Nat):Int)>=2))=true:=decide_eq_true (by omega);rw [e,cond_true,if_pos h];exact vGk N k hs5 _ (i+1) N d rfl (by omega) (by omega) hb h2 hs (by omega)
 ·have e:(decide (((b - i:Nat):Int)>=2))=false:=decide_eq_false (by omega);rw [e,cond_false,if_neg h];exact⟨rfl,rfl⟩
theorem vAv(N:Nat)(k:Int->Int->Int->Int->List Org->Option (Bool×List Org)){a b i:Nat}{s:Nat}:∀(j n:Nat) (d:Array Org),j<d.size->2<=d.size->d.size<1152921504606846976->j<n->
 xA4 N k n (a:Int) (b:Int) (i:Int) (s:Int) (j:Int) d.toList=xAT N k (a:Int) (b:Int) (i:Int) (s:Int) (shiftDown olt j d).toList/\(shiftDown olt j d).size=d.size
 |0,n,d,hj,h2,hs,hn=>by
  obtain⟨n,rfl⟩:∃m,n=m+1:=⟨n - 1,by omega⟩;have e:(decide (((0:Nat):Int)>=1))=false:=decide_eq_false (by omega);rw [xA4,e,cond_false];exact⟨rfl,rfl⟩
 |j+1,n,d,hj,h2,hs,hn=>by
  obtain⟨n,rfl⟩:∃m,n=m+1:=⟨n - 1,by omega⟩;have e:(decide (((j+1:Nat):Int)>=1))=true:=decide_eq_true (by omega);have w1:i64.wrap (((j+1:Nat):Int) - 1)=((j:Nat):Int):=wn _ (by omega) (by omega);rw [xA4,e,cond_true,w1,xFV N rfl rfl hj (by omega),shiftDown];dsimp only;cases hl:olt d[j+1]! d[j]! with
  |false=>exact⟨rfl,rfl⟩
  |true=>
   rw [Bool.not_true,cond_false,xEk N rfl rfl hj (by omega) h2];have:=vAv N k (a:=a) (b:=b) (i:=i) (s:=s) j n (swp d (j+1) j) (by rw [xCy];omega) (by rw [xCy];exact h2) (by rw [xCy];exact hs) (by omega);rw [xCy] at this;exact this
theorem xNO(d:Array Org)(b:Nat):∀(m i:Nat),b - i=m->i<=b->i<=scanSorted olt d b i/\scanSorted olt d b i<=b:=by
 intro m
 induction m with
 |zero=>intro i hm hi;rw [scanSorted,if_neg (by simp;omega)];omega
 |succ m ih=>
  intro i hm hi;rw [scanSorted];split
  ·have:=ih (i+1) (by omega) (by omega);omega
  ·omega
theorem vH9(N:Nat)(k:Int->Int->Int->Int->List Org->Option (Bool×List Org)){a b:Nat}{s:Nat}:∀(m i n:Nat) (d:Array Org),b - i=m->0<i->i<=b->b<=d.size->2<=d.size->d.size<1152921504606846976->m<n->
 xA7 N k n (a:Int) (b:Int) (i:Int) (s:Int) d.toList=xA8 N k (a:Int) (b:Int) ((scanSorted olt d b i:Nat):Int) (s:Int) d.toList:=by
 intro m
 induction m with
 |zero=>
  intro i n d hm hi hib hb h2 hs hn;obtain⟨n,rfl⟩:∃m,n=m+1:=⟨n - 1,by omega⟩;have e:(decide ((i:Int)<(b:Int)))=false:=decide_eq_false (by omega);rw [xA7,e,cond_false,scanSorted,if_neg (by simp;omega)]
 |succ m ih=>
  intro i n d hm hi hib hb h2 hs hn;obtain⟨n,rfl⟩:∃m,n=m+1:=⟨n - 1,by omega⟩;have e:(decide ((i:Int)<(b:Int)))=true:=decide_eq_true (by omega);have w1:i64.wrap ((i:Int) - 1)=((i - 1:Nat):Int):=wn _ (by omega) (by omega);have w2:i64.wrap ((i:Int)+1)=((i+1:Nat):Int):=wn _ (by omega) (by omega);rw [xA7,e,cond_true,w1,w2,xFV N rfl rfl (by omega) (by omega),scanSorted];dsimp only;cases hl:olt d[i]! d[i - 1]! with
  |false=>
   rw [Bool.not_false,cond_true,if_pos (by simp;omega)];exact ih (i+1) n d (by omega) (by omega) (by omega) hb h2 hs (by omega)
  |true=>rw [Bool.not_true,cond_false,if_neg (by simp)]
theorem vH7(N:Nat)(k:Int->Int->Int->Int->List Org->Option (Bool×List Org)){a b i:Nat}{s:Nat}(hs5:s<100)(d:Array Org)(hai:a<i)(hib:i<=b)(hb:b<=d.size)(h2:2<=d.size)(hs:d.size<1152921504606846976)(hN:d.size<N):
 xA8 N k (a:Int) (b:Int) (i:Int) (s:Int) d.toList=
  (if i=b then some (true,d.toList) else if b - a<50 then some (false,d.toList) else
    k (a:Int) (b:Int) (i:Int) ((s+1:Nat):Int) (up18 b i (if i - a>=2 then shiftDown olt (i - 1) (swp d i (i - 1)) else swp d i (i - 1))).toList)/\
 (i≠b->(up18 b i (if i - a>=2 then shiftDown olt (i - 1) (swp d i (i - 1)) else swp d i (i - 1))).size=d.size):=by
 have w1:i64.wrap ((b:Int) - (a:Int))=((b - a:Nat):Int):=wn _ (by omega) (by omega);have w2:i64.wrap ((i:Int) - 1)=((i - 1:Nat):Int):=wn _ (by omega) (by omega);have w3:i64.wrap ((i:Int) - (a:Int))=((i - a:Nat):Int):=wn _ (by omega) (by omega);unfold xA8;rw [w1,w2,w3];by_cases h:i=b
 ·have e:(((i:Int))==(b:Int))=true:=by simp [h]
  rw [e,cond_true,if_pos h];exact⟨rfl,fun g=>absurd h g⟩
 ·have e:(((i:Int))==(b:Int))=false:=by simp;omega
  rw [e,cond_false,if_neg h];have hlt:i<b:=by omega
  have d1:=vAv N k (a:=a) (b:=b) (i:=i) (s:=s) (i - 1) N (swp d i (i - 1)) (by rw [xCy];omega) (by rw [xCy];exact h2) (by rw [xCy];exact hs) (by omega);rw [xCy] at d1;by_cases h50:b - a<50
  ·have e2:(decide (((b - a:Nat):Int)<50))=true:=decide_eq_true (by omega);rw [e2,cond_true,if_pos h50];refine⟨rfl,fun _=> ?_⟩;by_cases h3:i - a>=2
   ·rw [if_pos h3];rw [(xTY N k (a:=a) (i:=i) hs5 (shiftDown olt (i - 1) (swp d i (i - 1))) hib (by rw [d1.2];exact hb) (by rw [d1.2];exact h2) (by rw [d1.2];exact hs) (by rw [d1.2];exact hN)).2,d1.2]
   ·rw [if_neg h3];rw [(xTY N k (a:=a) (i:=i) hs5 (swp d i (i - 1)) hib (by rw [xCy];exact hb) (by rw [xCy];exact h2) (by rw [xCy];exact hs) (by rw [xCy];exact hN)).2,xCy]
  ·have e2:(decide (((b - a:Nat):Int)<50))=false:=decide_eq_false (by omega);rw [e2,cond_false,if_neg h50,xEk N rfl rfl (by omega) (by omega) h2];by_cases h3:i - a>=2
   ·have e3:(decide (((i - a:Nat):Int)>=2))=true:=decide_eq_true (by omega);have u:=xTY N k (a:=a) (i:=i) hs5 (shiftDown olt (i - 1) (swp d i (i - 1))) hib (by rw [d1.2];exact hb) (by rw [d1.2];exact h2) (by rw [d1.2];exact hs) (by rw [d1.2];exact hN);rw [e3,cond_true,if_pos h3,d1.1,u.1,u.2,d1.2];exact⟨rfl,fun _=>rfl⟩
   ·have e3:(decide (((i - a:Nat):Int)>=2))=false:=decide_eq_false (by omega);have u:=xTY N k (a:=a) (i:=i) hs5 (swp d i (i - 1)) hib (by rw [xCy];exact hb) (by rw [xCy];exact h2) (by rw [xCy];exact hs) (by rw [xCy];exact hN);rw [e3,cond_false,if_neg h3,u.1,u.2,xCy];exact⟨rfl,fun _=>rfl⟩
theorem vGi(N:Nat){a b:Nat}:∀(q s i n:Nat) (d:Array Org),s+q=5->a<i->i<=b->b<=d.size->2<=d.size->d.size<1152921504606846976->q<n->d.size<N->
 xAV N n (a:Int) (b:Int) (i:Int) (s:Int) d.toList=some ((partialIns olt a b q i d).2,(partialIns olt a b q i d).1.toList)
 |0,s,i,n,d,hq,hai,hib,hb,h2,hs,hn,hN=>by
  obtain⟨n,rfl⟩:∃m,n=m+1:=⟨n - 1,by omega⟩;have e:(decide ((s:Int)<5))=false:=decide_eq_false (by omega);rw [xAV,e,cond_false]
  rfl
 |q+1,s,i,n,d,hq,hai,hib,hb,h2,hs,hn,hN=>by
  obtain⟨n,rfl⟩:∃m,n=m+1:=⟨n - 1,by omega⟩;have e:(decide ((s:Int)<5))=true:=decide_eq_true (by omega);have hsc:=xNO d b _ i rfl hib;rw [xAV,e,cond_true,vH9 N _ _ i N d rfl (by omega) hib hb h2 hs (by omega),partialIns];generalize scanSorted olt d b i=i2 at hsc;obtain⟨p1,p2⟩:=vH7 N (fun z0 z1 z2 z3 z4=>(xAV N n z0 z1 z2 z3 z4)) (a:=a) (b:=b) (i:=i2) (s:=s) (by omega) d (by omega) (by omega) hb h2 hs hN;rw [p1];dsimp only;by_cases h:i2=b
  ·rw [if_pos h,if_pos h]
  ·rw [if_neg h,if_neg h];by_cases h50:b - a<50
   ·rw [if_pos h50,if_pos h50]
   ·rw [if_neg h50,if_neg h50];have hsz:=p2 h;exact vGi N q (s+1) i2 n _ (by omega) (by omega) (by omega) (by rw [hsz];exact hb) (by rw [hsz];exact h2) (by rw [hsz];exact hs) (by omega) (by rw [hsz];exact hN)
theorem vEG(N:Nat){a b:Nat}{d:Array Org}(hab:a<b)(hb:b<=d.size)(h2:2<=d.size)(hs:d.size<1152921504606846976)(hN:d.size+10<N):
 xBC N (a:Int) (b:Int) d.toList=some ((partialInsertionSort olt d a b).2,(partialInsertionSort olt d a b).1.toList):=by
 have wa:i64.wrap ((a:Int)+1)=((a+1:Nat):Int):=wn _ (by omega) (by omega);unfold xBC partialInsertionSort;rw [wa];exact vGi N 5 0 (a+1) N d rfl (by omega) (by omega) hb h2 hs (by omega) (by omega)
end Go.Ab
end
